import PyProof.Rows.All
import Wide.All
import OpenK.AllK
import Wide.FinOn
import HandS.ForMost
import HandS.Walk
import HandS.Zip
import HandS.Style
import HandS.Wide
import HandS.IsInst
import HandS.Strs
import KE.DataMinMax
import KE.SortData
import KE.DatumOrd
import PyProof.Draws
import PyProof.EnumMake
import PyProof.StrOps2
import HandS.TupSets
import HandS.ForExc
import HandS.Deep
import HandS.Set
import KE.KEqSeq
import PyProof.TupleIter
import KE.GoesMore
import PyProof.Rows.RuleB_pow
import PyProof.DictUpdate
import HandS.Dict
import HandS.DictComp
import HandS.TupAny
import HandS.ReHeld
import HandS.TryOnly
import HandS.TryMany
import HandS.SortInts
import HandS.Conv
import HandS.TupMul
import PySem.Challenge.RW_tasksapart_k80_drums_recovered
import HandS.ExcOwn
set_option autoImplicit true
set_option Elab.async false
set_option linter.all false
set_option maxRecDepth 100000
set_option maxHeartbeats 4000000
/-! Rules of our own: enumerate over a text, min of a list of data, text * int. -/
namespace L2
open PySem PySem.Spec PyProof.Rows

/-! ### enumerate(text) -/
/-- each sign in a new pair with its place -/
def Ites (z : Str) : It :=
  ⟨fun i _ => i < z.cps.size, fun i H v H' => ∃ T c, v = .ref T ∧ H T = none ∧ H' = upd H T (.tup [.int (i : Nat), .str ⟨#[c]⟩]) ∧ z.cps[i]? = some c, fun i _ => i = z.cps.size⟩
theorem turn_enumS {P : Program} {w : World} {K : PySem.W.Frag} {elts : List Expr} {kk : Nat} {tpos : Pos} (z : Str) (t : Tok) (e it : Addr) (ty : String) (hty : ty = "str_ascii_iterator" ∨ ty = "str_iterator") :
    Turn P w K (.Tuple elts kk tpos) (Ites z) [e, it] e (fun i h => (∃ old, IsEnum h e it ((i : Nat) : Int) old) ∧ h.IsStrIter it ty z t i ∧ e ≠ it) where
  mem := by simp
  obj := fun i h st b hb => by
    obtain ⟨⟨old, he⟩, ⟨o, ho, hc, hd⟩, _⟩ := st
    have e' : b = e ∨ b = it := by simpa using hb
    rcases e' with q | q
    · rw [q]; exact ⟨_, he, fun v q => nomatch q⟩
    · rw [q]; exact ⟨o, ho, fun v q => by rw [hd] at q; cases q⟩
  keep := fun i h h' st k => by
    obtain ⟨⟨old, he⟩, ⟨o, ho, r⟩, hne⟩ := st
    exact ⟨⟨old, k e (by simp) _ he⟩, ⟨o, k it (by simp) o ho, r⟩, hne⟩
  item := by
    intro X hP hw hK hc i pins s σ H E I hf st hg
    subst hP hw hK
    obtain ⟨⟨old, he⟩, hit, hne⟩ := st
    have hel : e < s.heap.objs.size := Heap.lt_size he
    have hil : it < s.heap.objs.size := by obtain ⟨_, q, _⟩ := hit; exact Heap.lt_size q
    have D : Draws X.prog X.w X.A.in1 it [it] z.cps.size (fun i v => ∃ c u, z.cps[i]? = some c ∧ v = .str ⟨#[c]⟩ u) (fun i h => h.IsStrIter it ty z t i) := by
      rcases hty with q | q
      · rw [q]; exact Draws.strAscii (A := X.A.in1) (I.ok.hd hc) it z t
      · rw [q]; exact Draws.strWide (A := X.A.in1) (I.ok.hd hc) it z t
    refine wpAny_pyNext_enum_itemD D he hit hg hne (by simpa using hne) fun x h' tk hx ho hit' hT hsz hk => ?_
    obtain ⟨c, u, hcx, rfl⟩ := hx
    refine ⟨_, rfl, wpAny_letOwnedTupleGo_enum (s := { s with heap := h', toks := tk + 1 }) ho fun h'' he' sb => ?_⟩
    have hT2 : h''.get? s.heap.objs.size = some { cls := .type "tuple", data := .seq #[.int i tk, .str ⟨#[c]⟩ u] } := (sb.2 _ (Nat.ne_of_gt hel)).trans hT
    have new : ObjOk X.prog X.w (upd H s.heap.objs.size (.tup [.int (i : Nat), .str ⟨#[c]⟩])) h'' s.heap.objs.size (.tup [.int (i : Nat), .str ⟨#[c]⟩]) :=
      ⟨by show 2 ≤ sizeLine; decide, [.int i tk, .str ⟨#[c]⟩ u], .cons ⟨_, rfl⟩ (.cons ⟨_, rfl⟩ .nil), ⟨_, hT2, rfl, _, rfl⟩⟩
    have I1 : Inv X pins σ (upd H s.heap.objs.size (.tup [.int (i : Nat), .str ⟨#[c]⟩])) { s with heap := h'', toks := tk + 1 } :=
      I.turnedNew (ch := [e, it]) (fun b ob hb q => (sb.2 b (fun y => hb (by simp [y]))).trans (hk b ob (fun y => hb (by simp [y])) (fun y => hb (by simp [y])) q)) hf (Nat.le_refl _) new
    refine ⟨.ref s.heap.objs.size, _, I1, rfl, ⟨_, c, rfl, I.hok.fresh (Nat.le_refl _), rfl, hcx⟩, ⟨⟨.str ⟨#[c]⟩ u, ?_⟩, ?_, hne⟩, fun b hb => ?_⟩
    · have e1 : ((i + 1 : Nat) : Int) = (i : Int) + 1 := by omega
      rw [e1]; exact he'
    · obtain ⟨o, q, r⟩ := hit'
      exact ⟨o, (sb.2 it (Ne.symm hne)).trans q, r⟩
    · have hb' : b < s.heap.objs.size := by
        have e' : b = e ∨ b = it := by simpa using hb
        rcases e' with y | y
        · rw [y]; exact hel
        · rw [y]; exact hil
      rw [upd_ne (Nat.ne_of_lt hb')]
      exact (hf b hb).1
  done := by
    intro X hP hw hK hc i pins s σ H E I hf st hg
    subst hP hw hK
    obtain ⟨⟨old, he⟩, hit, hne⟩ := st
    obtain ⟨f0, f1, f2, f3, f4, f5⟩ := hf it (by simp)
    have hi : i = z.cps.size := hg
    subst hi
    have D : Draws X.prog X.w X.A.in1 it [it] z.cps.size (fun i v => ∃ c u, z.cps[i]? = some c ∧ v = .str ⟨#[c]⟩ u) (fun i h => h.IsStrIter it ty z t i) := by
      rcases hty with q | q
      · rw [q]; exact Draws.strAscii (A := X.A.in1) (I.ok.hd hc) it z t
      · rw [q]; exact Draws.strWide (A := X.A.in1) (I.ok.hd hc) it z t
    exact wpAny_pyNext_enum_endD D he hit fun h' eb => ⟨rfl, I.turned (t' := s.toks) (fun b o hb q => eb b o hb q) f0 f1 f3 f4 f5⟩
  self := fun A i s Q E st h => by
    obtain ⟨⟨_, he⟩, _⟩ := st
    exact wpAny_pyIter_enum he h
def iEnumS (ta : TA) : TI := fun σ H R => ta σ H fun vs H1 => ∃ z, vs = [.str z] ∧ R (Ites z) H1
theorem pi_enumS {X : Cx} {e : Expr} {ta : TA} {p pos tpos : Pos} {elts : List Expr} {kk : Nat} (hg : Gl X "enumerate") (hm : X.mg "enumerate" = none) (ha : PA X [e] ta) (hs : starEach [e] X.env = [(false, eval e X.env)] := by rfl) :
    PI X (.Tuple elts kk tpos) (.Call (.Name "enumerate" p) [e] [] pos) (iEnumS ta) := by
  refine ⟨fun pins s σ H R I h => ?_⟩
  refine Call_ (ld_blt I hg hm boot_enumerate (PyProof.Rows.callWith_type1 (thn (ha.run pos pins s σ H _ I h) fun us s1 ⟨vs, H1, I1, r1, q1⟩ => ?_) hs rfl))
  obtain ⟨z, ex, q⟩ := q1
  subst ex
  cases r1 with
  | cons r rr =>
    cases rr
    obtain ⟨t, rfl⟩ := r
    refine call_enumerate_str fun h' he hit hsz hk => wpAny_pyIter_enum he ?_
    have I2 : Inv X pins σ H1 { s1 with heap := h' } := I1.kept (t' := s1.toks) hk
    have hty : strIterType z = "str_ascii_iterator" ∨ strIterType z = "str_iterator" := by
      unfold strIterType
      split
      · exact .inl rfl
      · exact .inr rfl
    refine ⟨s1.heap.objs.size + 1, [s1.heap.objs.size + 1, s1.heap.objs.size], _, _, H1, rfl, I2, turn_enumS z t (s1.heap.objs.size + 1) s1.heap.objs.size (strIterType z) hty, ⟨⟨.none, he⟩, hit, Nat.succ_ne_self _⟩, fun b hb => ?_, q⟩
    have e' : b = s1.heap.objs.size + 1 ∨ b = s1.heap.objs.size := by simpa using hb
    have hle : s1.heap.objs.size ≤ b := by
      rcases e' with y | y
      · rw [y]; exact Nat.le_add_right _ _
      · rw [y]; exact Nat.le_refl _
    exact I1.fpOk hle (I1.hok.fresh hle)
theorem walk_enumS {z : Str} : Walk (Ites z) z.cps.size (fun _ => True) (YPair (fun i => some (.int (i : Nat))) (fun i => z.cps[i]?.map fun c => .str ⟨#[c]⟩)) := by
  refine ⟨fun _ _ hi _ => hi, fun _ _ => rfl, fun i H v H' _ _ y => ?_⟩
  obtain ⟨T, c, h1, h2, h3, h4⟩ := y
  exact ⟨T, .int (i : Nat), .str ⟨#[c]⟩, h1, h2, h3, rfl, by simp [h4]⟩

/-! ### min of a list of data -/
section
variable {X : Cx}
/-- min(xs) of data that can be compared: the item at the first place of the least -/
def rMinD (K : PySem.W.Frag) : List V → Hp → VK → Prop := fun vs H Q => ∃ (a : Addr) (xs : List V) (d : PyData) (ds : List PyData), vs = [V.ref a] ∧ SqL K H a xs ∧ DpAll K H xs (d :: ds) ∧ PySem.W.AlikeAll (d :: ds) ∧ PyData.depthAll (d :: ds) ≤ 60 ∧
  ∀ (i : Nat) (v : V), xs[i]? = some v → (d :: ds).getD i .none = PySem.W.minD d ds → Q v H
theorem cr_minD (hc : X.calm = true) (hu : X.A.units + 64 < cLine) : CallR X (.builtin "min") (rMinD X.K) := by
  intro pins s σ H vs us Q I r h
  obtain ⟨a, xs, d, ds, rfl, hs, hD, hA, hd, q⟩ := h
  obtain ⟨its, rv, hl, _⟩ := I.list hs
  rw [Vals.ref1 r]
  obtain ⟨as, hr⟩ := Dp.readsAll I (d :: ds) xs its hD rv
  have hr' : ReadsAll s.heap its.toArray.toList (d :: ds) as := hr
  have hn : its.toArray.size = ds.length + 1 := PySem.W.readsAll_len hr'
  refine PySem.call_min_walkH (PySem.W.iter_listW (A := X.A.in1) (I.ok.hd hc) hl.isList fun s₂ e W st hfp hw hk => ?_)
  refine ⟨_, _, _, _, _, _, _, s.heap, _, rfl, W, st, hfp, by omega, hw, hk, PySem.W.cmpIn_lt (A := X.A.in1) hr' hA (by show X.A.units + 1 + _ < _; omega), fun v s' hP m => ?_⟩
  obtain ⟨h', tk, rfl, hk'⟩ := PySem.W.moved_old e rfl m
  have e1 : its.toArray.size - 1 = ds.length := by omega
  rw [e1] at hP
  have e2 := (PySem.W.argBest_fold PySem.W.dataLt PyData.none d ds ds.length (Nat.le_refl _)).2
  rw [List.take_length] at e2
  have hP' : its[argBest (fun i j => PySem.W.dataLt ((d :: ds).getD i .none) ((d :: ds).getD j .none)) ds.length]? = some v := by simpa using hP
  have hlen := rv.length
  have hi := (List.getElem?_eq_some_iff.mp hP').1
  obtain ⟨u, hu', ru⟩ := rv.get (i := argBest (fun i j => PySem.W.dataLt ((d :: ds).getD i .none) ((d :: ds).getD j .none)) ds.length) (x := xs[argBest (fun i j => PySem.W.dataLt ((d :: ds).getD i .none) ((d :: ds).getD j .none)) ds.length]'(by omega)) (by simp)
  rw [hP'] at hu'
  cases hu'
  exact ⟨_, H, I.kept (t' := tk) hk', ru, q _ _ (by simp) e2⟩
end

/-! ### text * int -/
def repS (x : Str) (n : Int) : Str := ⟨(List.replicate n.toNat x.cps.toList).flatten.toArray⟩
theorem sum_rep (m : Nat) : ∀ k : Nat, (List.replicate k m).sum = k * m
  | 0 => by simp
  | k + 1 => by rw [List.replicate_succ, List.sum_cons, sum_rep m k, Nat.succ_mul, Nat.add_comm]
theorem foldl_cat : ∀ (l : List (Array Nat)) (a : Array Nat), l.foldl (· ++ ·) a = ⟨a.toList ++ (l.map Array.toList).flatten⟩
  | [], a => by simp
  | b :: l, a => by
    rw [List.foldl_cons, foldl_cat l]
    simp
section
variable {X : Cx}
theorem op_mul_str : OpR X (binaryOp .Mult) (fun x y H Q => ∃ (z : Str) (n : Int), x = .str z ∧ y = .int n ∧ -(2 ^ 63) ≤ n ∧ n < 2 ^ 63 ∧ z.length * n.toNat ≤ sizeLine ∧ Q (.str (repS z n)) H) := by
  intro pins s σ H x y v u Q I rx ry h
  obtain ⟨z, n, rfl, rfl, h1, h2, h3, q⟩ := h
  obtain ⟨t, rfl⟩ := rx
  obtain ⟨t', rfl⟩ := ry
  refine P.mul_str ?_ ?_ ?_ ?_
  · simp; omega
  · intro hn hb
    have hz : z.length ≠ 0 := fun e => by simp [e] at hb
    have h4 : (z.length : Int) * n ≤ sizeLine := by
      have : ((z.length * n.toNat : Nat) : Int) ≤ (sizeLine : Nat) := by exact_mod_cast h3
      rw [Int.natCast_mul, Int.toNat_of_nonneg (by omega)] at this
      exact this
    have h5 : (sizeLine : Int) ≤ 2 ^ 63 - 1 := by rw [sizeLine_eq]; decide
    have : (z.length : Int) ≤ (2 ^ 63 - 1) / n := Int.le_ediv_of_mul_le (by omega) (by omega)
    omega
  · intro hn hb
    exact decide_eq_false (by omega)
  · by_cases hn : n < 1
    · rw [if_pos hn]
      have e : repS z n = Str.empty := by
        unfold repS
        rw [show n.toNat = 0 by omega]
        rfl
      rw [e] at q
      refine ⟨by decide, ?_⟩
      exact ⟨.str Str.empty, H, I.tok _, ⟨_, rfl⟩, q⟩
    · rw [if_neg hn]
      by_cases hb : (n == 1 || z.length == 0) = true
      · rw [if_pos hb]
        have e : repS z n = z := by
          rcases (Bool.or_eq_true _ _).mp hb with h | h
          · have : n = 1 := by simpa using h
            subst this
            unfold repS
            simp
          · have h0 : z.cps = #[] := by
              have : z.cps.size = 0 := by simpa [Str.length] using h
              exact Array.eq_empty_of_size_eq_zero this
            unfold repS
            rw [h0]
            have : (List.replicate n.toNat (#[] : Array Nat).toList).flatten = [] := by
              simp
            rw [this]
            cases z; simp only at h0; rw [h0]
        rw [e] at q
        exact ⟨.str z, H, I, ⟨_, rfl⟩, q⟩
      · rw [if_neg hb]
        have e : repS z n = ⟨(List.replicate n.toNat z.cps).foldl (· ++ ·) #[]⟩ := by
          unfold repS
          rw [foldl_cat]
          simp
        have hl : (repS z n).length ≤ sizeLine := by
          unfold repS Str.length
          simp only [List.size_toArray, List.length_flatten, List.map_replicate, Array.length_toList]
          rw [sum_rep, Nat.mul_comm]
          exact h3
        rw [e] at q hl
        exact ⟨hl, .str _, H, I.tok _, ⟨_, rfl⟩, q⟩
end
end L2

set_option autoImplicit true
set_option Elab.async false
set_option linter.all false
set_option maxRecDepth 100000
set_option maxHeartbeats 4000000
/-! len(set(xs)) of unlike texts. -/
namespace SX
open PySem PyProof.Rows
section
variable {prog : Program} {w : World} {A : Around} {R : Result → Shared → Prop} {I : Addr} {fp wr : List Addr} {G : Array GenState → Array GenState → Prop} {n : Nat} {P : Nat → Value → Prop} {St : Nat → Shared → Prop}
theorem take_step {xs : List Str} {i : Nat} (hi : i < xs.length) (k' : Str) : ((xs.take i).any (· == k') || decide (k' = xs.getD i Str.empty)) = (xs.take (i + 1)).any (· == k') := by
  have e2 : xs.take (i + 1) = xs.take i ++ [xs[i]] := by
    rw [List.take_add_one, List.getElem?_eq_getElem hi]; rfl
  have e1 : xs.getD i Str.empty = xs[i] := by
    rw [List.getD_eq_getElem?_getD, List.getElem?_eq_getElem hi]; rfl
  rw [e2, List.any_append, e1]
  congr 1
  simp only [List.any_cons, List.any_nil, Bool.or_false]
  by_cases h : k' = xs[i]
  · rw [h]; simp
  · rw [decide_eq_false h]
    exact (beq_eq_false_iff_ne.mpr fun e => h e.symm).symm
theorem take_new {xs : List Str} (hn : xs.Nodup) {i : Nat} (hi : i < xs.length) : (xs.take i).any (· == xs.getD i Str.empty) = false := by
  have e1 : xs.getD i Str.empty = xs[i] := by
    rw [List.getD_eq_getElem?_getD, List.getElem?_eq_getElem hi]; rfl
  rw [e1]
  cases hb : (xs.take i).any (· == xs[i]) with
  | false => rfl
  | true =>
    obtain ⟨y, hy, ey⟩ := List.any_eq_true.mp hb
    have ey2 : y = xs[i] := eq_of_beq ey
    rw [ey2] at hy
    obtain ⟨j, hj⟩ := List.mem_iff_getElem?.mp hy
    rw [List.getElem?_take] at hj
    by_cases hji : j < i
    · rw [if_pos hji] at hj
      obtain ⟨hjl, ej⟩ := List.getElem?_eq_some_iff.mp hj
      exact absurd ej (List.pairwise_iff_getElem.mp hn j i hjl hi hji)
    · rw [if_neg hji] at hj
      cases hj
theorem fill (W : WalksS prog w A.in1 I fp wr G n P St) (S : Addr) (hSf : S ∉ fp) (xs : List Str) (hsz : xs.length = n) (hnd : xs.Nodup) (hb : n + 1 < scanBound)
    (hval : ∀ i v, P i v → ∃ t, v = .str (xs.getD i Str.empty) t) :
    ∀ (k i : Nat) (s : Shared), n - i = k → i ≤ n → St i s →
      s.heap.SetOf (PySem.strKind prog w) S (fun k' => (xs.take i).any (· == k')) i →
      (∀ s', Moved (S :: wr) G s s' → s'.heap.SetOf (PySem.strKind prog w) S (fun k' => (xs.take n).any (· == k')) n → R (.ok (.ret .none)) s') →
      codeAny (model prog w) A (.builtin "set.update.loop" ⟨[.ref S, .ref I], []⟩) R s := by
  have hSw : S ∉ wr := fun h => hSf (W.sub _ h)
  have hsub : ∀ b ∈ wr, b ∈ S :: wr := fun b hb => List.mem_cons_of_mem _ hb
  intro k
  induction k with
  | zero =>
    intro i s hk hi hst hS hR
    have hin : i = n := by omega
    subst hin
    refine codeAny_builtin PyProof.Rows.F.entry_set_update_loop ?_
    rw [Around.under_plainId PyProof.Rows.F.plain_set_update_loop _]
    refine wpAny_bind (W.done s _ _ hst fun s' hm => ?_)
    refine wpAny_pure (hR s' (hm.mono hsub) ?_)
    obtain ⟨o, es, ep, t, ho, rest⟩ := hS
    exact ⟨o, es, ep, t, hm.heap S _ hSw ho, rest⟩
  | succ k ih =>
    intro i s hk hi hst hS hR
    have hlt : i < n := by omega
    refine codeAny_builtin PyProof.Rows.F.entry_set_update_loop ?_
    rw [Around.under_plainId PyProof.Rows.F.plain_set_update_loop _]
    refine wpAny_bind (W.item i s _ _ hlt hst fun v s' hP hst' hm => ?_)
    obtain ⟨t, rfl⟩ := hval i v hP
    have hS' : s'.heap.SetOf (PySem.strKind prog w) S (fun k' => (xs.take i).any (· == k')) i := by
      obtain ⟨o, es, ep, tb, ho, rest⟩ := hS
      exact ⟨o, es, ep, tb, hm.heap S _ hSw ho, rest⟩
    refine wpAny_bind (wpAny_holding ?_)
    unfold setAdd
    refine wpAny_holding ?_
    refine wpAny_bind ((PySem.strKind prog w).pyHash (k := xs.getD i Str.empty) (strKind_is _ _ _ _) ?_)
    refine wpAny_setAddHashed_of (knd := PySem.strKind prog w) (s := { s' with toks := s'.toks + 1 }) (strKind_is _ _ _ _) rfl hS' (by omega) fun h' hsb hS2 => ?_
    have hSi : h'.SetOf (PySem.strKind prog w) S (fun k' => (xs.take (i + 1)).any (· == k')) (i + 1) :=
      SetOf_congr hS2 (fun k' => take_step (by omega) k') (by rw [take_new hnd (by omega)]; rfl)
    refine wpAny_pure ⟨plainId_quiet PyProof.Rows.F.plain_set_update_loop _, ih (i + 1) _ (by omega) hlt (W.frame _ s' _ _ hst' (Nat.le_succ _) fun b hb o e => ?_) hSi fun s'' hm'' hS'' => ?_⟩
    · rw [hsb.2 b (fun h : b = S => hSf (by rw [← h]; exact hb))]; exact e
    · refine hR s'' (Moved.trans W.gtrans ((hm.mono hsub).then_heap (Nat.le_succ _) fun b o hb e => ?_) hm'') hS''
      rw [hsb.2 b (fun h : b = S => hb (by rw [h]; exact List.mem_cons_self))]; exact e
end
section
variable {prog : Program} {w : World} {A : Around} {E : Value → Shared → Prop} {s : Shared}
theorem call_set_texts {l : Addr} {items : Array Value} {xs : List Str} {Q : Value → Shared → Prop}
    (hh : A.handled = none) (hl : s.heap.IsList l items) (hi : PyProof.Rows.StrsAre items.toList xs) (hnd : xs.Nodup) (hb : xs.length + 1 < scanBound)
    (h : ∀ (h' : Heap) (tk : Nat), h'.SetOf (PySem.strKind prog w) s.heap.objs.size (fun k' => (xs.take xs.length).any (· == k')) xs.length →
      (∀ b o, b < s.heap.objs.size → s.heap.get? b = some o → h'.get? b = some o) → Q (.ref s.heap.objs.size) { s with heap := h', toks := tk }) :
    wpAny (model prog w) A (call (.type "set") [.ref l]) Q E s := by
  have hsz : xs.length = items.size := by
    have := hi.length
    simpa using this.symm
  obtain ⟨c, tl, hmro⟩ := PySem.F.called_set.mro
  have hmade := PySem.F.called_set.made
  have hsub := PySem.F.called_set.sub
  refine wpAny_call (codeAny_of_tree ?_)
  show wpAny _ _ (callAny (.type "set") _) _ _ _
  refine wpAny_pure ⟨Code.quiet_builtin _ (by decide +kernel), codeAny_builtin PySem.F.entry_type_call ?_⟩
  rw [Around.under_plain (weight_type_call_type "set" [.ref l] []) rfl]
  have h1 := PySem.F.called_set.notType
  have h2 := PySem.F.called_set.canCreate
  have hct := PySem.F.typeCall_set_1 (.ref l)
  repeat (any_goals (first | assumption | wp_step))
  refine codeAny_mono (code_set_new_1 (.ref l) (E := E) (Q₁ := fun obj s₁ => ∃ led : Bool, obj = .ref s.heap.objs.size ∧ s₁ = { s with heap := s.heap.push { cls := .type "set", dict := none, data := .set #[] 0 (.fresh 0 0 led) } }) fun led => ⟨led, rfl, rfl⟩) fun r s₁ hr => ?_
  cases r with
  | error e => exact hr
  | ok fl =>
    cases fl with
    | ret obj =>
      obtain ⟨led, rfl, rfl⟩ := hr
      have hS : (s.heap.push { cls := .type "set", dict := none, data := .set #[] 0 (.fresh 0 0 led) }).get? s.heap.objs.size = some { cls := .type "set", dict := none, data := .set #[] 0 (.fresh 0 0 led) } := Heap.get?_push_size _ rfl
      have hT : Shared.TypeIs { s with heap := s.heap.push { cls := .type "set", dict := none, data := .set #[] 0 (.fresh 0 0 led) } } (.ref s.heap.objs.size) "set" := ⟨_, hS, rfl⟩
      have hli := PySem.F.called_set.init.lookup
      have hbi := PySem.F.called_set.init.bind (.ref s.heap.objs.size)
      repeat (any_goals (first | assumption | wp_step))
      refine codeAny_mono (codeAny_call_builtin (R := wants (fun r s₂ => r = .none ∧ ∃ h' tk, s₂ = { s with heap := h', toks := tk } ∧
          h'.SetOf (PySem.strKind prog w) s.heap.objs.size (fun k' => (xs.take xs.length).any (· == k')) xs.length ∧
          (∀ b o, b < s.heap.objs.size → s.heap.get? b = some o → h'.get? b = some o)) E) PySem.F.called_set.init.plain PySem.F.entry_set_init (check_set_init_1 hT ?_)) fun r₂ s₂ hr₂ => ?_
      · obtain ⟨ol, hol, hcl, nl, hdl⟩ := hl
        obtain ⟨ocls, odict, odata, oslots⟩ := ol
        simp only at hcl hdl
        subst hcl; subst hdl
        have hol' : (s.heap.push { cls := .type "set", dict := none, data := .set #[] 0 (.fresh 0 0 led) }).get? l = some { cls := .type "list", dict := odict, data := .seq items nl, slots := oslots } := Heap.get?_push_of_some _ hol
        have hsls := PySem.F.sub_list_set
        have hslf := PySem.F.sub_list_frozenset
        have hne : (Value.type "list" == Value.type "dict") = false := by decide
        have hl1 : (s.heap.push { cls := .type "set", dict := none, data := .set #[] 0 (.fresh 0 0 led) }).IsList l items := ⟨_, hol', rfl, nl, rfl⟩
        unfold Builtin.«set.__init__» noKeywords Builtin.Frozenset.updateFrom
        generalize hPI : pyIter = PI
        wp_walk
        subst hPI
        refine wpAny_pyIter_list hl1 ?_
        refine wpAny_bind (wpAny_runValue ?_)
        have hlS : l < s.heap.objs.size := Heap.lt_size hol
        have hh3 : A.in1.in1.in1.handled = none := by simp [hh]
        have hneI : l ≠ (s.heap.push { cls := .type "set", dict := none, data := .set #[] 0 (.fresh 0 0 led) }).objs.size := by
          rw [Heap.size_push]; exact Nat.ne_of_lt (Nat.lt_succ_of_lt hlS)
        have hSf : s.heap.objs.size ∉ [(s.heap.push { cls := .type "set", dict := none, data := .set #[] 0 (.fresh 0 0 led) }).objs.size, l] := by
          rw [Heap.size_push]; simp only [List.mem_cons, List.mem_singleton, List.not_mem_nil, or_false, not_or]
          exact ⟨Nat.ne_of_lt (Nat.lt_succ_self _), Nat.ne_of_gt hlS⟩
        have hval : ∀ (i : Nat) (v : Value), items[i]? = some v → ∃ t, v = .str (xs.getD i Str.empty) t := fun i v hv => SS.strs_at hi i v (by rw [Array.getElem?_toList]; exact hv)
        refine fill ((Walks.list hh3 _ l hneI items).toS) s.heap.objs.size hSf xs hsz hnd (by omega) hval (items.size - 0) 0 _ (by omega) (Nat.zero_le _)
          ⟨⟨_, Heap.get?_push_size _ rfl, rfl, rfl⟩, (hl1.push _)⟩ ?hS0 ?hR
        case hS0 =>
          have hget : ((s.heap.push { cls := .type "set", dict := none, data := .set #[] 0 (.fresh 0 0 led) }).push { cls := .type "list_iterator", data := .fields #[.ref l, .int 0 0] }).get? s.heap.objs.size
              = some { cls := .type "set", dict := none, data := .set #[] 0 (.fresh 0 0 led) } := Heap.get?_push_of_some _ hS
          exact PyProof.Rows.SetOf_congr ((PyProof.Rows.setObjOf_fresh (knd := PySem.strKind prog w) led).setOf hget (by unfold scanBound; omega)) (fun _ => rfl) rfl
        case hR =>
          intro s' hm hS'
          obtain ⟨h', g', d', tk', os'⟩ := s'
          have eg : g' = s.gens := hm.gens
          have ed : d' = s.drawn := hm.drawn
          have eo : os' = s.os := hm.os
          subst eg; subst ed; subst eo
          show wpAny _ _ _ _ _ _
          refine wpAny_pure ?_
          show wpAny _ _ (ret Value.none) _ _ _
          rw [← hsz] at hS'
          refine wpAny_pure ⟨rfl, h', tk', rfl, hS', fun b o hb e => ?_⟩
          have hb1 : b ≠ s.heap.objs.size := Nat.ne_of_lt hb
          have hb2 : b ≠ (s.heap.push { cls := .type "set", dict := none, data := .set #[] 0 (.fresh 0 0 led) }).objs.size := by
            rw [Heap.size_push]; exact Nat.ne_of_lt (Nat.lt_succ_of_lt hb)
          exact hm.heap b o (by simp only [List.mem_cons, List.mem_singleton, List.not_mem_nil, or_false, not_or]; exact ⟨hb1, hb2⟩) (Heap.get?_push_of_some _ (Heap.get?_push_of_some _ e))
      · cases r₂ with
        | error e => exact hr₂
        | ok fl₂ =>
          cases fl₂ with
          | ret r =>
            obtain ⟨rfl, h', tk, rfl, hS', hk'⟩ := hr₂
            repeat (any_goals (first | assumption | wp_step))
            exact h _ _ hS' hk'
          | _ => exact hr₂.elim
    | _ => exact hr.elim
end
end SX
namespace L2
open PySem PySem.Spec PyProof.Rows
/-- len(set(xs)), xs unlike texts -/
def tLenSetS (K : PySem.W.Frag) (ta : TE) : TE := fun σ H Q => ta σ H fun x H1 => ∃ (l : Addr) (xs : List Str), x = .ref l ∧ SqL K H1 l (xs.map V.str) ∧ xs.Nodup ∧ xs.length ≤ 4000 ∧ Q (.int (xs.length : Nat)) H1
theorem pe_lenSetS {X : Cx} {a : Expr} {ta : TE} {p p2 q pos : Pos} (hc : X.calm = true) (hg : Gl X "len") (hm : X.mg "len" = none) (hg2 : Gl X "set") (hm2 : X.mg "set" = none) (ha : PE X a ta)
    (na : starEach [a] X.env = (false, eval a X.env) :: starEach [] X.env := by rfl) : PE X (.Call (.Name "len" p) [.Call (.Name "set" p2) [a] [] q] [] pos) (tLenSetS X.K ta) := by
  refine ⟨fun pins s σ H Q I h => ?_⟩
  refine Call_ (ld_blt I hg hm boot_len ?_)
  refine PyProof.Rows.callWith_builtin1 (PyProof.Rows.args_cons ?_ rfl) rfl rfl
  refine Call_ (ld_blt I hg2 hm2 boot_set ?_)
  refine PyProof.Rows.callWith_type1 (PyProof.Rows.args_cons (thn (ha.run pins s σ H _ I h) fun v s1 ⟨x, H1, I1, r1, q1⟩ => PyProof.Rows.args_nil ?_) na) na rfl
  obtain ⟨l, xs, rfl, hq, hnd, hl, q1⟩ := q1
  cases r1
  obtain ⟨its, r, pl, hz⟩ := I1.list hq
  refine SX.call_set_texts (I1.ok.hd hc) pl.isList (by simpa using strsAre_of r) hnd (by unfold scanBound; omega) fun h' tk hS hk => ?_
  refine PyProof.Rows.args_nil ?_
  obtain ⟨o, es, ep, t, ho, hex, hd, _, _, _, hf, hn⟩ := hS
  have I2 : Inv X pins σ H1 { s1 with heap := h', toks := tk } := I1.kept fun b o e => hk b o (Heap.lt_size e) e
  exact call_len_set ho hex hd hf (by rw [hn]; omega) ⟨.int xs.length, H1, I2.tok _, ⟨_, by rw [hn]⟩, q1⟩
end L2

set_option autoImplicit true
set_option Elab.async false
set_option linter.all false
set_option maxRecDepth 100000
/-! what the laws' own drawing stands on: heaps with a well, lists against the empty list -/
namespace L2
open PySem PySem.Spec PyProof.Rows

/-! ### == and != of a list and an empty one, whatever its items are -/
section
variable {X : Cx}
def rEqNil (K : PySem.W.Frag) : R2 := fun x y H Q => ∃ a b xs, x = .ref a ∧ y = .ref b ∧ SqL K H a xs ∧ SqL K H b [] ∧ Q (.bl xs.isEmpty) H
def rNeNil (K : PySem.W.Frag) : R2 := fun x y H Q => ∃ a b xs, x = .ref a ∧ y = .ref b ∧ SqL K H a xs ∧ SqL K H b [] ∧ Q (.bl (!xs.isEmpty)) H
theorem op_eqNil (hu : X.A.units < cLine) : OpR X (compareOp .Eq) (rEqNil X.K) := by
  intro pins s σ H x y v u Q I rx ry h
  obtain ⟨a, b, xs, rfl, rfl, ha, hb, q⟩ := h
  cases rx
  cases ry
  obtain ⟨its, r1, p1, _⟩ := I.list ha
  obtain ⟨its2, r2, p2, _⟩ := I.list hb
  have n1 : its.length = xs.length := r1.length.symm
  have n2 : its2 = [] := List.eq_nil_of_length_eq_zero r2.length.symm
  subst n2
  cases xs with
  | nil =>
    have n3 : its = [] := List.eq_nil_of_length_eq_zero n1
    subst n3
    exact SeqAt.RcAt.lists (e := fun _ => true) p1.isList p2.isList rfl hu (fun j j1 => absurd j1 (Nat.not_lt_zero j)) _ _ _ _ ⟨.bl _, H, I, rfl, q⟩
  | cons z zs => exact SeqAt.RcAt.lists_lengths p1.isList p2.isList (by simp [n1]) hu _ _ _ _ ⟨.bl _, H, I, rfl, q⟩
theorem op_neNil (hu : X.A.units < cLine) : OpR X (compareOp .NotEq) (rNeNil X.K) := by
  intro pins s σ H x y v u Q I rx ry h
  obtain ⟨a, b, xs, rfl, rfl, ha, hb, q⟩ := h
  cases rx
  cases ry
  obtain ⟨its, r1, p1, _⟩ := I.list ha
  obtain ⟨its2, r2, p2, _⟩ := I.list hb
  have n1 : its.length = xs.length := r1.length.symm
  have n2 : its2 = [] := List.eq_nil_of_length_eq_zero r2.length.symm
  subst n2
  cases xs with
  | nil =>
    have n3 : its = [] := List.eq_nil_of_length_eq_zero n1
    subst n3
    exact SeqAt.RcNeAt.lists (e := fun _ => true) p1.isList p2.isList rfl hu (fun j j1 => absurd j1 (Nat.not_lt_zero j)) _ _ _ _ ⟨.bl _, H, I, rfl, q⟩
  | cons z zs => exact SeqAt.RcNeAt.lists_lengths p1.isList p2.isList (by simp [n1]) hu _ _ _ _ ⟨.bl _, H, I, rfl, q⟩
end

/-- int(n) of an int -/
theorem call_intI {X : Cx} : CallR X (.type "int") (fun xs H Q => ∃ i, xs = [.int i] ∧ Q (.int i) H) := fun pins s σ H xs us Q I r ⟨i, e, q⟩ => call_int1 pins s σ H xs us Q I r (.inl ⟨i, e, q⟩)

theorem sq_wide {x M : Int} (h : 0 < M) (h2 : M ≤ 2 ^ 200) : CMulW (x % M) (x % M) := by
  have h3 := Int.emod_nonneg x (Int.ne_of_gt h)
  have h4 := Int.emod_lt_of_pos x h
  have h5 : (x % M).natAbs < 2 ^ 200 := by
    generalize x % M = y at h3 h4
    omega
  exact wide_mul h5 h5 (by decide) (by decide) (by decide)
theorem atI_head {α : Type} {x : α} {xs : List α} : atI (x :: xs) 0 = some x := atI_nat (j := 0) rfl
theorem sIx_head {α : Type} {x : α} {xs : List α} : seqIndex? 0 (x :: xs).length = some 0 := by
  unfold seqIndex?
  simp
theorem ixN_head {α : Type} {x : α} {xs : List α} : ixN (x :: xs).length 0 = some 0 := by
  unfold ixN
  rw [if_pos (by decide), if_pos (by simp)]
  rfl

/-! ### == and != of a tuple and an empty one -/
section
variable {X : Cx}
def rEqNilT (K : PySem.W.Frag) : R2 := fun x y H Q => ∃ a b xs, x = .ref a ∧ y = .ref b ∧ SqT K H a xs ∧ SqT K H b [] ∧ Q (.bl xs.isEmpty) H
def rNeNilT (K : PySem.W.Frag) : R2 := fun x y H Q => ∃ a b xs, x = .ref a ∧ y = .ref b ∧ SqT K H a xs ∧ SqT K H b [] ∧ Q (.bl (!xs.isEmpty)) H
theorem nilT_val {n : Nat} : ((List.range (min n 0)).all (fun _ => true) && n == 0) = (n == 0) := by simp
theorem op_eqNilT (hu : X.A.units < cLine) : OpR X (compareOp .Eq) (rEqNilT X.K) := by
  intro pins s σ H x y v u Q I rx ry h
  obtain ⟨a, b, xs, rfl, rfl, ha, hb, q⟩ := h
  cases rx
  cases ry
  obtain ⟨its, r1, p1, _⟩ := I.tuple ha
  obtain ⟨its2, r2, p2, _⟩ := I.tuple hb
  have n1 : its.length = xs.length := r1.length.symm
  have n2 : its2 = [] := List.eq_nil_of_length_eq_zero r2.length.symm
  subst n2
  refine SeqAt.RcAt.tuples (e := fun _ => true) (show s.heap.IsTuple a its.toArray from p1) (show s.heap.IsTuple b [].toArray from p2) hu (fun j j1 j2 => absurd j2 (Nat.not_lt_zero j)) _ _ _ _ ⟨.bl xs.isEmpty, H, I, ?_, q⟩
  show Value.bool _ = Value.bool _
  congr 1
  show ((List.range (min its.toArray.size 0)).all (fun _ => true) && its.toArray.size == 0) = _
  rw [nilT_val, List.size_toArray, n1]
  cases xs <;> rfl
theorem op_neNilT (hu : X.A.units < cLine) : OpR X (compareOp .NotEq) (rNeNilT X.K) := by
  intro pins s σ H x y v u Q I rx ry h
  obtain ⟨a, b, xs, rfl, rfl, ha, hb, q⟩ := h
  cases rx
  cases ry
  obtain ⟨its, r1, p1, _⟩ := I.tuple ha
  obtain ⟨its2, r2, p2, _⟩ := I.tuple hb
  have n1 : its.length = xs.length := r1.length.symm
  have n2 : its2 = [] := List.eq_nil_of_length_eq_zero r2.length.symm
  subst n2
  refine SeqAt.RcNeAt.tuples (e := fun _ => true) (show s.heap.IsTuple a its.toArray from p1) (show s.heap.IsTuple b [].toArray from p2) hu (fun j j1 j2 => absurd j2 (Nat.not_lt_zero j)) _ _ _ _ ⟨.bl (!xs.isEmpty), H, I, ?_, q⟩
  show Value.bool _ = Value.bool _
  congr 2
  show ((List.range (min its.toArray.size 0)).all (fun _ => true) && its.toArray.size == 0) = _
  rw [nilT_val, List.size_toArray, n1]
  cases xs <;> rfl
end

/-! ### a test whose outcome is told apart from what follows -/
def tMonoT (t : TT) : TT := fun σ H Q => ∃ Q0 : Bool → Hp → Prop, t σ H Q0 ∧ ∀ b H1, Q0 b H1 → Q b H1
theorem pt_mono {X : Cx} {e : Expr} {t : TT} (h : PT X e t) : PT X e (tMonoT t) :=
  ⟨fun pins s σ H Q I ⟨Q0, h0, k⟩ => thn (h.run pins s σ H Q0 I h0) fun b s1 ⟨H1, I1, q1⟩ => ⟨H1, I1, k b H1 q1⟩⟩

/-! ### f(k = v, ..): all by keywords, in the parameters' order -/
def KwAll (fd : FuncData) (ps : List Str) : Prop := ∀ (s : Shared) (ws : List Value), ws.length = ps.length → BindsTo s fd ⟨[], ps.zip ws⟩ (ps.zip ws)
theorem Fun.kws {K : PySem.W.Frag} {x qual : Str} {st : Stmt} {f : Addr} {fd : FuncData} {ps : List Str} (F : Fun K x qual st f fd)
    (h : ∀ (kV doc pm : Value) (an : Option Addr) (cdv ct : Value) (us : List Value), us.length = ps.length → bindArgs (PySem.W.fnOf x qual (defArgs st) (defBody st) (defScope st) .none kV doc pm an cdv ct) ⟨[], ps.zip us⟩ = pure (ps.zip us)) : KwAll fd ps := by
  obtain ⟨oc, od, kV, doc, pm, an, cdv, ct, osl, rfl, lk, hcd⟩ := F.ex
  exact fun s ws hl => .of_eq (h kV doc pm an cdv ct ws hl)
section
variable {X : Cx} {CX : CXT} {k : Nat} {f : Addr} {fd : FuncData} {ps : List Str} {sp : Sp} {E : XK} {x : Str} {p pos : Pos} {kws : List Keyword} {tk : TA}
def tCallKw (n : Nat) (sp : Sp) (E : XK) (tk : TA) : TE := fun σ H Q => tk σ H fun zs H2 => zs.length = n ∧ sp zs H2 Q E
theorem pe_callKw (F : FnOk X.prog X.w X.K X.mg X.base CX k f fd ps sp) (hr : Room k X.A) (hg : Gl X x) (hm : X.mg x = some (.ref f)) (hk : PySem.W.keepIn X.K (.ref f) = true) (hb : KwAll fd ps) (hx : Passes CX X E)
    (hkw : PK X kws tk) (hall : (backToKw pos (keywordEach kws X.env)).all (·.1.isSome) = true := by rfl) (hks : (backToKw pos (keywordEach kws X.env)).filterMap (·.1) = ps := by rfl)
    (hdb : (x == ("__debug__" : Str)) = false := by decide) (hpl : ((backTo pos (starEach [] X.env)).any (·.1) || (backToKw pos (keywordEach kws X.env)).any (·.1.isNone)) = false := by rfl) :
    PE X (.Call (.Name x p) [] kws pos) (tCallKw ps.length sp E tk) := by
  refine ⟨fun pins s σ H Q I h => ?_⟩
  refine wpAny_Call_Name_kw (ld_glob I hg hm ?_ hdb)
  refine PySem.W.callWith_KW0 (h₀ := X.base) I.ok.mod.kin hk hall (thn (hkw.run pos pins s σ H _ I h) fun ws s2 ⟨zs, H2, I2, rz, hl, q2⟩ => ⟨I2.kIn, ?_⟩) hpl
  rw [hks]
  refine wpAny_call (codeAny_mono (F.run X.A X.stack s2 H2 ⟨[], ps.zip ws⟩ ws zs Q E hr I2.env0 (hb s2 ws (rz.length.symm.trans hl)) rz q2) fun r s' hq => ?_)
  cases r with
  | error e => exact hx pins σ H2 s2 e s' I2 hq
  | ok fl =>
    cases fl with
    | ret u => exact I2.after hq
    | next => exact False.elim hq
    | brk => exact False.elim hq
    | cont => exact False.elim hq
end

/-! ### what a datum's type is -/
def tyS : PyData → String
  | .none => "NoneType"
  | .bool _ => "bool"
  | .int _ => "int"
  | .str _ => "str"
  | .list _ => "list"
  | .tuple _ => "tuple"
  | .dict _ => "dict"
theorem Dp.ty {K : PySem.W.Frag} {H : Hp} {x : V} {d : PyData} (h : Dp K H x d) : TyX K H x (.type (tyS d)) := by
  cases h with
  | non => exact .base .non
  | bl b => exact .base (.bl b)
  | int i => exact .base (.int i)
  | str s => exact .base (.str s)
  | lst hs _ =>
    rcases hs with (h | ⟨o, h⟩) | ⟨o, its, n, hk, hc, _⟩
    · exact .base (.lst h)
    · exact .base (.frz h)
    · exact .kList hk hc
  | tup hs _ =>
    rcases hs with (h | ⟨o, h⟩) | ⟨o, its, n, hk, hc, _⟩
    · exact .base (.tup h)
    · exact .fTuple h
    · exact .kTuple hk hc
/-- isinstance of a datum and a built-in type -/
theorem call_isiD {X : Cx} : CallR X (.builtin "isinstance") (fun xs H Q => ∃ (x : V) (n : String) (d : PyData) (b : Bool), xs = [x, .ty n] ∧ Dp X.K H x d ∧ kitB (tyS d) n = some b ∧ Q (.bl b) H) :=
  fun pins s σ H xs us Q I r ⟨x, n, d, b, e, hd, hk, q⟩ => call_isi pins s σ H xs us Q I r ⟨x, .ty n, _, _, b, e, .ty n, hd.ty, kit_ty hk, q⟩
/-- isinstance of a datum and one of two built-in types -/
theorem call_isiT2 {X : Cx} : CallR X (.builtin "isinstance") (fun xs H Q => ∃ (x : V) (tp : Addr) (n1 n2 : String) (d : PyData) (b1 b2 : Bool), xs = [x, .ref tp] ∧ H tp = some (.tup [.ty n1, .ty n2]) ∧ Dp X.K H x d ∧ kitB (tyS d) n1 = some b1 ∧ kitB (tyS d) n2 = some b2 ∧ Q (.bl (b1 || b2)) H) :=
  fun pins s σ H xs us Q I r ⟨x, tp, n1, n2, d, b1, b2, e, ht, hd, h1, h2, q⟩ => call_isiT pins s σ H xs us Q I r ⟨x, tp, _, _, [.type n1, .type n2], b1 || b2, e, ht, .cons (.ty n1) (.cons (.ty n2) .nil), hd.ty,
    kitAny_cons (kit_ty h1) (fun e1 => kitAny_cons (kit_ty h2) (fun e2 => by rw [e1, e2]; exact kitAny_nil) fun e2 => by rw [e2]; cases b1 <;> rfl) (fun e1 => by rw [e1]; rfl), q⟩
theorem SqT.same {K : PySem.W.Frag} {H H' : Hp} {a : Addr} {xs : List V} (e : Same H H') (h : SqT K H a xs) : SqT K H' a xs := by
  rcases h with (h | ⟨o, h⟩) | h
  · exact .inl (.inl (e _ _ h))
  · exact .inl (.inr ⟨o, e _ _ h⟩)
  · exact .inr h
mutual
theorem Dp.same {K : PySem.W.Frag} {H H' : Hp} (e : Same H H') : ∀ {d : PyData} {v : V}, Dp K H v d → Dp K H' v d
  | .none, _, h => by cases h; exact .non
  | .bool b, _, h => by cases h; exact .bl b
  | .int i, _, h => by cases h; exact .int i
  | .str s, _, h => by cases h; exact .str s
  | .list ds, _, h => by
    cases h with
    | lst hs ha => exact .lst (e.seq hs) (DpAll.same e ha)
  | .tuple ds, _, h => by
    cases h with
    | tup hs ha => exact .tup (SqT.same e hs) (DpAll.same e ha)
  | .dict _, _, h => by cases h
theorem DpAll.same {K : PySem.W.Frag} {H H' : Hp} (e : Same H H') : ∀ {ds : List PyData} {vs : List V}, DpAll K H vs ds → DpAll K H' vs ds
  | [], _, h => by cases h; exact .nil
  | d :: ds, _, h => by
    cases h with
    | cons h1 h2 => exact .cons (Dp.same e h1) (DpAll.same e h2)
end
theorem DpAll.length {K : PySem.W.Frag} {H : Hp} : ∀ {ds : List PyData} {vs : List V}, DpAll K H vs ds → vs.length = ds.length
  | [], _, h => by cases h; rfl
  | d :: ds, _, h => by
    cases h with
    | cons h1 h2 => simp [DpAll.length h2]
theorem DpAll.get {K : PySem.W.Frag} {H : Hp} : ∀ {ds : List PyData} {vs : List V} {i : Nat} {v : V}, DpAll K H vs ds → vs[i]? = some v → ∃ d, ds[i]? = some d ∧ Dp K H v d
  | [], _, i, v, h, e => by cases h; simp at e
  | d :: ds, _, i, v, h, e => by
    cases h with
    | cons h1 h2 =>
      cases i with
      | zero => simp at e; subst e; exact ⟨d, rfl, h1⟩
      | succ i => simp at e; simpa using DpAll.get h2 e
mutual
/-- how many data are in it -/
def nodes : PyData → Nat
  | .list xs => nodesAll xs + 1
  | .tuple xs => nodesAll xs + 1
  | _ => 1
def nodesAll : List PyData → Nat
  | [] => 0
  | x :: xs => nodes x + nodesAll xs
end
theorem nodes_pos (d : PyData) : 0 < nodes d := by cases d <;> simp [nodes]
theorem nodes_len : ∀ ds : List PyData, ds.length ≤ nodesAll ds
  | [] => Nat.le_refl _
  | d :: ds => by
    have := nodes_len ds
    have := nodes_pos d
    simp only [nodesAll, List.length_cons]
    omega
theorem nodes_get : ∀ {ds : List PyData} {i : Nat} {d : PyData}, ds[i]? = some d → nodes d ≤ nodesAll ds
  | [], i, d, e => by simp at e
  | x :: ds, 0, d, e => by
    simp at e
    subst e
    simp only [nodesAll]
    omega
  | x :: ds, i + 1, d, e => by
    have := nodes_get (show ds[i]? = some d by simpa using e)
    simp only [nodesAll]
    omega
theorem depth_get : ∀ {ds : List PyData} {i : Nat} {d : PyData}, ds[i]? = some d → d.depth ≤ PyData.depthAll ds
  | [], i, d, e => by simp at e
  | x :: ds, 0, d, e => by
    simp at e
    subst e
    exact Nat.le_max_left _ _
  | x :: ds, i + 1, d, e => Nat.le_trans (depth_get (by simpa using e)) (Nat.le_max_right _ _)

/-! ### heaps -/
theorem Same.upd_new {H H' : Hp} {p : Addr} {o : HO} (s : Same H H') (n : H' p = none) : Same H (upd H' p o) := fun b u e => by
  rw [upd_ne (ne_of_none (s b u e) n)]
  exact s b u e
theorem Same.own {H H' : Hp} {p : Addr} {o : HO} (s : Same H H') (n : H p = none) : Same H (upd H' p o) := fun b u e => by
  rw [upd_ne (ne_of_none e n)]
  exact s b u e
theorem sizeOf {n : Nat} (h : n ≤ 1000000) : n ≤ sizeLine := by unfold sizeLine; omega
theorem sizeOfL {n : Nat} (h : n ≤ 1000000) : n < sizeLine := by unfold sizeLine; omega
/-- all but what stands at w and g is as it was -/
def Off (w g : Addr) (H H' : Hp) : Prop := ∀ b o, H b = some o → b ≠ w → b ≠ g → H' b = some o
theorem Off.refl (w g : Addr) (H : Hp) : Off w g H H := fun _ _ e _ _ => e
theorem Off.trans {w g : Addr} {H H1 H2 : Hp} (a : Off w g H H1) (b : Off w g H1 H2) : Off w g H H2 := fun c o e n1 n2 => b c o (a c o e n1 n2) n1 n2
theorem Same.off {w g : Addr} {H H' : Hp} (s : Same H H') : Off w g H H' := fun b o e _ _ => s b o e
theorem Off.new {w g : Addr} {H H' : Hp} {p : Addr} {o : HO} (s : Off w g H H') (n : H' p = none) : Off w g H (upd H' p o) := fun b u e n1 n2 => by
  rw [upd_ne (ne_of_none (s b u e n1 n2) n)]
  exact s b u e n1 n2
theorem Off.w {w g : Addr} {H H' : Hp} {o : HO} (s : Off w g H H') : Off w g H (upd H' w o) := fun b u e n1 n2 => by
  rw [upd_ne n1]
  exact s b u e n1 n2
theorem Off.g {w g : Addr} {H H' : Hp} {o : HO} (s : Off w g H H') : Off w g H (upd H' g o) := fun b u e n1 n2 => by
  rw [upd_ne n2]
  exact s b u e n1 n2
/-- a change of what is new -/
theorem Off.own {w g p : Addr} {H H' : Hp} {o : HO} (s : Off w g H H') (n : H p = none) : Off w g H (upd H' p o) := fun b u e n1 n2 => by
  rw [upd_ne (ne_of_none e n)]
  exact s b u e n1 n2
theorem Off.seq {K : PySem.W.Frag} {w g a : Addr} {H H' : Hp} {xs : List V} (s : Off w g H H') (h : SqL K H a xs) (n1 : a ≠ w) (n2 : a ≠ g) : SqL K H' a xs := by
  rcases h with (h | h) | h
  · exact .inl (.inl (s _ _ h n1 n2))
  · obtain ⟨o, h⟩ := h
    exact .inl (.inr ⟨o, s _ _ h n1 n2⟩)
  · exact .inr h
theorem Off.free {w g p : Addr} {H H' : Hp} (s : Off w g H H') (n : H' p = none) (n1 : p ≠ w) (n2 : p ≠ g) : H p = none := by
  cases q : H p with
  | none => rfl
  | some o =>
    rw [s p o q n1 n2] at n
    cases n
/-- a well of draws at w, its great cells at g, at most n draws behind it -/
def WellAt (H : Hp) (w g : Addr) (n : Int) : Prop := w ≠ g ∧ ∃ (m c : Int) (gs : List Int), H w = some (.lst [.ref g, .int m, .int c]) ∧ H g = some (.lst (gs.map V.int)) ∧ 0 ≤ m ∧ m < 10 ^ 41 + 3 ∧ 0 ≤ c ∧ c ≤ n ∧ gs.length ≤ 63
theorem WellAt.mono {H : Hp} {w g : Addr} {n n' : Int} (h : WellAt H w g n) (l : n ≤ n') : WellAt H w g n' := by
  obtain ⟨ne, m, c, gs, h1, h2, h3, h4, h5, h6, h7⟩ := h
  exact ⟨ne, m, c, gs, h1, h2, h3, h4, h5, by omega, h7⟩
theorem WellAt.pos {H : Hp} {w g : Addr} {n : Int} (h : WellAt H w g n) : 0 ≤ n := by
  obtain ⟨ne, m, c, gs, h1, h2, h3, h4, h5, h6, h7⟩ := h
  omega
theorem WellAt.w {H : Hp} {w g : Addr} {n : Int} (h : WellAt H w g n) : ∃ o, H w = some o := by
  obtain ⟨_, _, _, _, h1, _⟩ := h
  exact ⟨_, h1⟩
theorem WellAt.g {H : Hp} {w g : Addr} {n : Int} (h : WellAt H w g n) : ∃ o, H g = some o := by
  obtain ⟨_, _, _, _, _, h1, _⟩ := h
  exact ⟨_, h1⟩
theorem ne_of_none' {H : Hp} {a b : Addr} {o : HO} (h : H a = none) (h' : H b = some o) : a ≠ b := fun e => by
  rw [e, h'] at h
  cases h
theorem WellAt.ne {H : Hp} {w g p : Addr} {n : Int} (h : WellAt H w g n) (np : H p = none) : p ≠ w ∧ p ≠ g := by
  obtain ⟨o, h1⟩ := h.w
  obtain ⟨u, h2⟩ := h.g
  exact ⟨ne_of_none' np h1, ne_of_none' np h2⟩
theorem WellAt.upd {H : Hp} {w g : Addr} {n : Int} {p : Addr} {o : HO} (h : WellAt H w g n) (pw : p ≠ w) (pg : p ≠ g) : WellAt (L2.upd H p o) w g n := by
  obtain ⟨ne, m, c, gs, h1, h2, h3⟩ := h
  exact ⟨ne, m, c, gs, by rw [upd_ne (Ne.symm pw)]; exact h1, by rw [upd_ne (Ne.symm pg)]; exact h2, h3⟩
theorem WellAt.new {H : Hp} {w g : Addr} {n : Int} {p : Addr} {o : HO} (h : WellAt H w g n) (np : H p = none) : WellAt (L2.upd H p o) w g n := h.upd (h.ne np).1 (h.ne np).2
theorem WellAt.same {H H' : Hp} {w g : Addr} {n : Int} (h : WellAt H w g n) (s : Same H H') : WellAt H' w g n := by
  obtain ⟨ne, m, c, gs, h1, h2, h3⟩ := h
  exact ⟨ne, m, c, gs, s _ _ h1, s _ _ h2, h3⟩

/-! ### walks over the images of a list -/
section
variable {K : PySem.W.Frag} {a b : Addr} {α β : Type} {f : α → V} {h : β → V} {xs : List α} {ys : List β}
theorem walk_map : Walk (Itl K a) xs.length (fun H => SqL K H a (xs.map f)) (fun i H x H' => H' = H ∧ ∃ n, xs[i]? = some n ∧ x = f n) := by
  have w := walk_list (K := K) (a := a) (xs := xs.map f)
  rw [List.length_map] at w
  refine w.mono (fun _ q => q) fun i H x H' _ _ y => ⟨y.1, ?_⟩
  have y2 := y.2
  rw [List.getElem?_map] at y2
  obtain ⟨n, hn, e⟩ := Option.map_eq_some_iff.mp y2
  exact ⟨n, hn, e.symm⟩
theorem walk_mapT : Walk (Itt K a) xs.length (fun H => SqT K H a (xs.map f)) (fun i H x H' => H' = H ∧ ∃ n, xs[i]? = some n ∧ x = f n) := by
  have w := walk_tup (K := K) (a := a) (xs := xs.map f)
  rw [List.length_map] at w
  refine w.mono (fun _ q => q) fun i H x H' _ _ y => ⟨y.1, ?_⟩
  have y2 := y.2
  rw [List.getElem?_map] at y2
  obtain ⟨n, hn, e⟩ := Option.map_eq_some_iff.mp y2
  exact ⟨n, hn, e.symm⟩
theorem walk_enumMap : Walk (Ite K a) xs.length (fun H => SqL K H a (xs.map f)) (fun i H v H' => ∃ T n, v = .ref T ∧ H T = none ∧ H' = upd H T (.tup [.int (i : Nat), f n]) ∧ xs[i]? = some n) := by
  have w := walk_enum (K := K) (a := a) (xs := xs.map f)
  rw [List.length_map] at w
  refine w.mono (fun _ q => q) fun i H v H' _ _ y => ?_
  obtain ⟨T, x, y, h1, h2, h3, h4, h5⟩ := y
  have h4' : some (V.int (i : Nat)) = some x := h4
  have h5' : (xs.map f)[i]? = some y := h5
  rw [List.getElem?_map] at h5'
  obtain ⟨n, hn, e⟩ := Option.map_eq_some_iff.mp h5'
  cases h4'
  cases e
  exact ⟨T, n, h1, h2, h3, hn⟩
theorem walk_zipMap {n : Nat} (hn : n = min xs.length ys.length) : Walk (Itz K a b) n (fun H => SqL K H a (xs.map f) ∧ SqL K H b (ys.map h)) (fun i H v H' => ∃ T x y, v = .ref T ∧ H T = none ∧ H' = upd H T (.tup [f x, h y]) ∧ xs[i]? = some x ∧ ys[i]? = some y) := by
  have w := walk_zip (K := K) (a := a) (b := b) (xs := xs.map f) (ys := ys.map h) (n := n) (by simpa using hn)
  refine w.mono (fun _ q => q) fun i H v H' _ _ y => ?_
  obtain ⟨T, x, y, h1, h2, h3, h4, h5⟩ := y
  have h4' : (xs.map f)[i]? = some x := h4
  have h5' : (ys.map h)[i]? = some y := h5
  rw [List.getElem?_map] at h4' h5'
  obtain ⟨x', hx, e⟩ := Option.map_eq_some_iff.mp h4'
  obtain ⟨y', hy, e'⟩ := Option.map_eq_some_iff.mp h5'
  cases e
  cases e'
  exact ⟨T, x', y', h1, h2, h3, hx, hy⟩
end

/-! ### texts as lists of codes -/
def tS (t : List Nat) : Str := ⟨t.toArray⟩
def tv (t : List Nat) : V := .str (tS t)
theorem tS_append (a b : List Nat) : tS a ++ tS b = tS (a ++ b) := by
  show (⟨a.toArray ++ b.toArray⟩ : Str) = ⟨(a ++ b).toArray⟩
  simp
theorem tS_length (t : List Nat) : (tS t).length = t.length := by simp [tS, Str.length]
theorem tl_tS (t : List Nat) : TL.tl (tS t) = t := by simp [TL.tl, tS]
theorem tS_tl (x : Str) : tS (TL.tl x) = x := TL.mk_tl x
theorem tS_inj {a b : List Nat} (h : tS a = tS b) : a = b := by rw [← tl_tS a, h, tl_tS]
theorem tv_inj {a b : List Nat} (h : tv a = tv b) : a = b := tS_inj (by injection h)
theorem join_tS (sep : List Nat) (ts : List (List Nat)) : Txt.join (tS sep) (ts.map tS) = tS (TL.joinL sep ts) := by
  rw [TL.join_eq, ← tS_tl (Str.join _ _), TL.tl_join, tl_tS, List.map_map]
  have e : TL.tl ∘ tS = id := funext tl_tS
  rw [e, List.map_id]
theorem joinL_nil : ∀ ts : List (List Nat), TL.joinL [] ts = ts.flatten
  | [] => rfl
  | [p] => by simp [TL.joinL]
  | p :: q :: r => by
    show p ++ ([] ++ TL.joinL [] (q :: r)) = _
    rw [joinL_nil (q :: r)]
    simp
theorem sum_tS (ts : List (List Nat)) : ((ts.map tS).map (·.length)).sum = ts.flatten.length := by
  induction ts with
  | nil => rfl
  | cons a l ih =>
    rw [List.map_cons, List.map_cons, List.sum_cons, ih, tS_length, List.flatten_cons, List.length_append]
theorem map_tS (ts : List (List Nat)) : ts.map tv = (ts.map tS).map V.str := by
  rw [List.map_map]; rfl

theorem dp_strs {K : PySem.W.Frag} {H : Hp} : ∀ ts : List (List Nat), DpAll K H (ts.map tv) (ts.map fun t => .str (tS t))
  | [] => .nil
  | t :: ts => .cons (.str _) (dp_strs ts)
theorem nodes_strs : ∀ ts : List (List Nat), nodesAll (ts.map fun t => .str (tS t)) = ts.length
  | [] => rfl
  | t :: ts => by
    simp only [List.map_cons, nodesAll, nodes, nodes_strs ts, List.length_cons]
    omega
theorem depth_strs : ∀ ts : List (List Nat), PyData.depthAll (ts.map fun t => .str (tS t)) = 0
  | [] => rfl
  | t :: ts => by
    simp only [List.map_cons, PyData.depthAll, PyData.depth, depth_strs ts]
    rfl
theorem dp_nats {K : PySem.W.Frag} {H : Hp} : ∀ cs : List Nat, DpAll K H (cs.map fun n => V.int (n : Nat)) (cs.map fun n => PyData.int (n : Nat))
  | [] => .nil
  | _ :: cs => .cons (.int _) (dp_nats cs)
theorem dp_nats_inv {K : PySem.W.Frag} {H : Hp} : ∀ {cs : List Nat} {xs : List V}, DpAll K H xs (cs.map fun n => PyData.int (n : Nat)) → xs = cs.map fun n => V.int (n : Nat)
  | [], _, h => by cases h; rfl
  | c :: cs, _, h => by
    cases h with
    | cons h1 h2 =>
      cases h1
      rw [dp_nats_inv h2]
      rfl
theorem singles_flat (cs : List Nat) : (cs.map fun c => [c]).flatten = cs := by
  induction cs with
  | nil => rfl
  | cons c l ih => rw [List.map_cons, List.flatten_cons, ih]; rfl
theorem takeNext {α : Type} {xs : List α} {i : Nat} {x : α} (h : xs[i]? = some x) : xs.take (i + 1) = xs.take i ++ [x] := by
  rw [List.take_succ, h]; rfl
theorem pairs_len {α β : Type} (ys : List β) : ∀ l : List α, (l.flatMap fun x => ys.map fun y => (x, y)).length = l.length * ys.length
  | [] => by simp
  | a :: l => by rw [List.flatMap_cons, List.length_append, pairs_len ys l, List.length_map, List.length_cons, Nat.succ_mul, Nat.add_comm]
theorem drop_min {α : Type} (t : List α) (a : Nat) : t.drop (min a t.length) = t.drop a := by
  by_cases h : a ≤ t.length
  · rw [Nat.min_eq_left h]
  · rw [Nat.min_eq_right (by omega), List.drop_eq_nil_of_le (Nat.le_refl _), List.drop_eq_nil_of_le (by omega)]
theorem take_min {α : Type} (t : List α) (a b : Nat) : (t.drop a).take (min b t.length - min a t.length) = (t.drop a).take (b - a) := by
  by_cases h : a ≤ t.length
  · by_cases h2 : b ≤ t.length
    · rw [Nat.min_eq_left h, Nat.min_eq_left h2]
    · rw [Nat.min_eq_left h, Nat.min_eq_right (by omega), List.take_of_length_le (by simp), List.take_of_length_le (by simp; omega)]
  · rw [List.drop_eq_nil_of_le (by omega)]; simp
theorem cutS_mid (t : List Nat) (a b : Nat) : cutS (tS t) (some (a : Int)) (some (b : Int)) = tS ((t.drop a).take (b - a)) := by
  unfold cutS
  rw [HT.sIx_nat, HT.sIx_nat, tS_length]
  show (⟨((t.toArray.toList.drop _).take _).toArray⟩ : Str) = _
  rw [List.toList_toArray, drop_min, take_min]
  rfl
theorem cutS_to (t : List Nat) (b : Nat) : cutS (tS t) none (some (b : Int)) = tS (t.take b) := by
  unfold cutS
  rw [HT.sIx_nat, HT.sIx_none, tS_length]
  show (⟨((t.toArray.toList.drop _).take _).toArray⟩ : Str) = _
  rw [List.toList_toArray, List.drop_zero, Nat.sub_zero]
  by_cases h : b ≤ t.length
  · rw [Nat.min_eq_left h]; rfl
  · rw [Nat.min_eq_right (by omega), List.take_of_length_le (Nat.le_refl _), List.take_of_length_le (by omega)]; rfl
theorem cutS_from (t : List Nat) (a : Nat) : cutS (tS t) (some (a : Int)) none = tS (t.drop a) := by
  unfold cutS
  rw [HT.sIx_nat, HT.sIx_none, tS_length]
  show (⟨((t.toArray.toList.drop _).take _).toArray⟩ : Str) = _
  rw [List.toList_toArray, drop_min, List.take_of_length_le]
  · rfl
  · rw [List.length_drop]; by_cases h : a ≤ t.length
    · rw [Nat.min_eq_left h]; exact Nat.le_refl _
    · omega
theorem cutS_len (z : Str) (lo hi : Option Int) : (cutS z lo hi).length ≤ z.length := by
  unfold cutS
  show (List.toArray _).size ≤ _
  rw [List.size_toArray, List.length_take, List.length_drop]
  unfold Str.length
  simp
  omega
theorem len_app (x y : Str) : (x ++ y).length = x.length + y.length := by
  show (x.cps ++ y.cps).size = _
  rw [Array.size_append]; rfl
theorem cutV_tail (x : V) (xs : List V) : cutV (x :: xs) (some 1) none = xs := by
  unfold cutV
  rw [show (some (1 : Int)) = some ((1 : Nat) : Int) from rfl, HT.sIx_nat, HT.sIx_none, Nat.min_eq_left (by simp)]
  simp
theorem cutV_all {xs : List V} {k : Nat} (h : xs.length ≤ k) : cutV xs none (some (k : Int)) = xs := by
  unfold cutV
  rw [HT.sIx_nat, HT.sIx_none, Nat.min_eq_right h]
  simp
theorem atI_ok {α : Type} {xs : List α} {r : Int} (r0 : 0 ≤ r) (r1 : r < xs.length) : atI xs r = some (xs[r.toNat]'(by omega)) := by
  have h := atI_nat (xs := xs) (j := r.toNat) (List.getElem?_eq_getElem (by omega))
  rw [show ((r.toNat : Nat) : Int) = r by omega] at h
  exact h
theorem sIx_ok {r : Int} {n : Nat} (r0 : 0 ≤ r) (r1 : r < n) : seqIndex? r n = some r.toNat := by
  unfold seqIndex?
  simp [show ¬ r < 0 by omega, r0, r1]
theorem atI_lastR {α : Type} (xs : List α) (v : α) : atI (v :: xs).reverse (-1) = some v := by
  rw [List.reverse_cons]
  exact atI_last _ _
theorem popR {α : Type} (xs : List α) (v : α) : (v :: xs).reverse[(v :: xs).reverse.length - 1]? = some v := by simp
theorem dropR {α : Type} (xs : List α) (v : α) : (v :: xs).reverse.dropLast = xs.reverse := by simp
theorem perm_pick {α : Type} {ys rest xs : List α} {k : Nat} (h : k < rest.length) (p : (ys ++ rest).Perm xs) : ((ys ++ [rest[k]]) ++ rest.eraseIdx k).Perm xs := by
  refine List.Perm.trans ?_ p
  rw [List.append_assoc]
  exact List.Perm.append_left _ (erase_perm rest k _ (List.getElem?_eq_getElem h))

/-! ### what relates two lists, item by item -/
inductive Both {α β : Type} (R : α → β → Prop) : List α → List β → Prop
  | nil : Both R [] []
  | cons {a : α} {b : β} {l : List α} {m : List β} : R a b → Both R l m → Both R (a :: l) (b :: m)
section
variable {α β : Type} {R S : α → β → Prop} {l l' : List α} {m m' : List β}
theorem Both.length (h : Both R l m) : l.length = m.length := by
  induction h with
  | nil => rfl
  | cons _ _ ih => simp [ih]
theorem Both.mono (f : ∀ a b, R a b → S a b) (h : Both R l m) : Both S l m := by
  induction h with
  | nil => exact .nil
  | cons h _ ih => exact .cons (f _ _ h) ih
theorem Both.app (h : Both R l m) (h' : Both R l' m') : Both R (l ++ l') (m ++ m') := by
  induction h with
  | nil => exact h'
  | cons h _ ih => exact .cons h ih
theorem Both.one {a : α} {b : β} (h : R a b) : Both R [a] [b] := .cons h .nil
theorem Both.get (h : Both R l m) : ∀ {i : Nat} {a : α}, l[i]? = some a → ∃ b, m[i]? = some b ∧ R a b := by
  induction h with
  | nil => intro i a e; simp at e
  | cons h _ ih =>
    intro i a e
    cases i with
    | zero => simp at e; subst e; exact ⟨_, rfl, h⟩
    | succ i => simp at e; simpa using ih e
theorem Both.eq {f : β → α} (h : Both (fun a b => a = f b) l m) : l = m.map f := by
  induction h with
  | nil => rfl
  | cons h _ ih => rw [h, ih]; rfl
end
theorem Both.monoM {α β : Type} {R S : α → β → Prop} {l : List α} {m : List β} (h : Both R l m) (f : ∀ b ∈ m, ∀ a, R a b → S a b) : Both S l m := by
  induction h with
  | nil => exact .nil
  | cons h _ ih => exact .cons (f _ List.mem_cons_self _ h) (ih fun b hb a => f b (List.mem_cons_of_mem _ hb) a)
theorem Both.mem2 {α β : Type} {R : α → β → Prop} {l : List α} {m : List β} (h : Both R l m) : ∀ b ∈ m, ∃ a, R a b := by
  induction h with
  | nil => intro b hb; simp at hb
  | cons h _ ih =>
    intro b hb
    rcases List.mem_cons.mp hb with rfl | hb
    · exact ⟨_, h⟩
    · exact ih b hb
/-- tuples stay -/
def Tups (H H' : Hp) : Prop := ∀ b xs, H b = some (.tup xs) → H' b = some (.tup xs)
theorem Tups.refl (H : Hp) : Tups H H := fun _ _ h => h
theorem Tups.trans {H H1 H2 : Hp} (a : Tups H H1) (b : Tups H1 H2) : Tups H H2 := fun c o h => b c o (a c o h)
theorem Same.tups {H H' : Hp} (s : Same H H') : Tups H H' := fun b xs h => s _ _ h
theorem Tups.set {H H' : Hp} {p : Addr} {xs : List V} {o : HO} (s : Tups H H') (h : H' p = some (.lst xs)) : Tups H (upd H' p o) := fun b ys e => by
  rw [upd_ne (ne_of (s b ys e) h (by intro z; cases z))]
  exact s b ys e
theorem Tups.new {H H' : Hp} {p : Addr} {o : HO} (s : Tups H H') (h : H' p = none) : Tups H (upd H' p o) := fun b ys e => by
  rw [upd_ne (ne_of_none (s b ys e) h)]
  exact s b ys e
/-- a pair of texts -/
def PrAt (H : Hp) (v : V) (p : List Nat × List Nat) : Prop := ∃ r, v = .ref r ∧ H r = some (.tup [tv p.1, tv p.2])
theorem PrAt.mono {H H' : Hp} {v : V} {p : List Nat × List Nat} (s : Tups H H') (h : PrAt H v p) : PrAt H' v p := by
  obtain ⟨r, e, h⟩ := h
  exact ⟨r, e, s _ _ h⟩

/-! ### comprehensions that change nothing of what stood there -/
section
variable {J : It} {n : Nat} {G : Hp → Prop} {Y : Nat → Hp → V → Hp → Prop}
/-- Pv by the turn, the heap and the list so far -/
theorem lc_same (w : Walk J n G Y) {g : TG} {tt : TT} {te : TE} {vs : List Nat} {σ : St} {H1 : Hp} {D : Addr} {Qd : Hp → Prop} (hD : H1 D = none) (Pv : Nat → Hp → List V → Prop) (h0 : Pv 0 (upd H1 D (.lst [])) [])
    (hG : ∀ H, Same H1 H → G H)
    (hs : ∀ i x H H' acc, i < n → Same H1 H → H D = some (.lst acc) → Pv i H acc → Y i H x H' → g x (wipe σ vs) H' fun σ2 H2 => wipe σ2 vs = wipe σ vs ∧ tt σ2 H2 fun b H3 =>
      if b = true then te σ2 H3 fun y H4 => ∃ acc, H4 D = some (.lst acc) ∧ acc.length < sizeLine ∧ (fun H => Same H1 H ∧ ∃ acc, H D = some (.lst acc) ∧ Pv (i + 1) H acc) (upd H4 D (.lst (acc ++ [y]))) else (fun H => Same H1 H ∧ ∃ acc, H D = some (.lst acc) ∧ Pv (i + 1) H acc) H3)
    (hd : ∀ H acc, Same H1 H → H D = some (.lst acc) → Pv n H acc → Qd H) :
    ∃ W : Nat → Nat → Hp → Prop, (∃ m, W 0 m (upd H1 D (.lst []))) ∧ ∀ i m H, W i m H →
      (J.stop i H ∧ Qd H) ∨ (J.go i H ∧ ∃ Nx : Hp → Prop, (∀ H', Nx H' → ∃ m', m' < m ∧ W (i + 1) m' H') ∧ ∀ x H', J.yld i H x H' → g x (wipe σ vs) H' fun σ2 H2 => wipe σ2 vs = wipe σ vs ∧ tt σ2 H2 fun b H3 =>
        if b = true then te σ2 H3 fun y H4 => ∃ acc, H4 D = some (.lst acc) ∧ acc.length < sizeLine ∧ Nx (upd H4 D (.lst (acc ++ [y]))) else Nx H3) :=
  lc_it w (fun i H => Same H1 H ∧ ∃ acc, H D = some (.lst acc) ∧ Pv i H acc) ⟨(Same.refl _).upd_new hD, [], upd_same, h0⟩ (fun i H _ h => hG H h.1) (fun i x H H' hi ⟨s, acc, e, p⟩ hy => hs i x H H' acc hi s e p hy) (fun H ⟨s, acc, e, p⟩ => hd H acc s e p)
/-- a for whose turns change nothing of what stood there -/
theorem for_same (w : Walk J n G Y) {g : TG} {tb : TS} {D : Ends} {σ : St} {H1 : Hp} (Pv : Nat → St → Hp → Prop) (h0 : Pv 0 σ H1) (hG : ∀ H, Same H1 H → G H)
    (hs : ∀ i x σ H H', i < n → Same H1 H → Pv i σ H → Y i H x H' → g x σ H' fun σ2 H2 => tb { D with nx := fun σ H => Same H1 H ∧ Pv (i + 1) σ H, ct := fun σ H => Same H1 H ∧ Pv (i + 1) σ H, bk := D.nx } σ2 H2) (hd : ∀ σ H, Same H1 H → Pv n σ H → D.nx σ H) :
    ∃ W : Nat → Nat → St → Hp → Prop, (∃ m, W 0 m σ H1) ∧ ∀ i m σ H, W i m σ H →
      (J.stop i H ∧ D.nx σ H) ∨ (J.go i H ∧ ∃ N : St → Hp → Prop, (∀ σ' H', N σ' H' → ∃ m', m' < m ∧ W (i + 1) m' σ' H') ∧ ∀ x H', J.yld i H x H' → g x σ H' fun σ2 H2 => tb { D with nx := N, ct := N, bk := D.nx } σ2 H2) :=
  for_it w (fun i σ H => Same H1 H ∧ Pv i σ H) ⟨Same.refl _, h0⟩ (fun i σ H _ h => hG H h.1) (fun i x σ H H' hi ⟨s, p⟩ hy => hs i x σ H H' hi s p hy) (fun σ H ⟨s, p⟩ => hd σ H s p)
end

/-- alike of two that stand for one datum: True -/
def spAlike (K : PySem.W.Frag) (n : Nat) : Sp := fun vs H Q _ => ∃ (x y : V) (d : PyData), vs = [x, y] ∧ Dp K H x d ∧ Dp K H y d ∧ d.depth < n ∧ nodes d ≤ 1000000 ∧ ∀ H', Same H H' → Q (.bl true) H'

/-! ### promises of the drawing -/
def spWell (K : PySem.W.Frag) : Sp := fun vs H Q _ => ∃ (a : Addr) (ns : List Int), vs = [.ref a] ∧ SqL K H a (ns.map V.int) ∧ ns.length ≤ 63 ∧
  ∀ H' w g, Same H H' → H w = none → H g = none → WellAt H' w g 0 → Q (.ref w) H'
def spDip : Sp := fun vs H Q _ => ∃ (w g : Addr) (n m : Int), vs = [.ref w, .int m] ∧ WellAt H w g n ∧ n ≤ 10 ^ 9 ∧ 0 < m ∧ m ≤ 10 ^ 6 ∧
  ∀ H' r, Off w g H H' → WellAt H' w g (n + 1) → 0 ≤ r → r < m → Q (.int r) H'
def spOne (K : PySem.W.Frag) : Sp := fun vs H Q _ => ∃ (w g a : Addr) (n : Int) (xs : List V), vs = [.ref w, .ref a] ∧ WellAt H w g n ∧ n ≤ 10 ^ 9 ∧ SqL K H a xs ∧ a ≠ w ∧ a ≠ g ∧ 0 < xs.length ∧ xs.length ≤ 10 ^ 6 ∧
  ∀ H' x, Off w g H H' → WellAt H' w g (n + 1) → x ∈ xs → Q x H'
def spMixed (K : PySem.W.Frag) : Sp := fun vs H Q _ => ∃ (w g a : Addr) (n : Int) (xs : List V), vs = [.ref w, .ref a] ∧ WellAt H w g n ∧ n + xs.length ≤ 10 ^ 9 ∧ SqL K H a xs ∧ a ≠ w ∧ a ≠ g ∧ xs.length ≤ 10 ^ 6 ∧
  ∀ H' p ys, Off w g H H' → WellAt H' w g (n + xs.length) → H p = none → p ≠ w → p ≠ g → H' p = some (.lst ys) → ys.Perm xs → Q (.ref p) H'
end L2

set_option autoImplicit true
set_option Elab.async false
set_option linter.all false
set_option maxRecDepth 100000
set_option maxHeartbeats 4000000
/-! A rule of our own: enumerate over a tuple. -/
namespace PySem
open AutoSeq1 (wpAny_loadPart')
theorem meets_enumT (l : Addr) (items : Array Value) (n : Nat) (dct : Option Addr) (sl : Array (Option Value)) :
    Meets (Builtin.«enumerate.__new__» ⟨[.type "enumerate", .ref l], []⟩) (fun _ R s =>
      s.heap.get? l = some { cls := .type "tuple", dict := dct, data := .seq items n, slots := sl } ∧
      R (.ok (.ret (.ref (s.heap.push { cls := .type "tuple_iterator", data := .fields #[.ref l, .int 0 0] }).objs.size)))
        { s with heap := (s.heap.push { cls := .type "tuple_iterator", data := .fields #[.ref l, .int 0 0] }).push { cls := .type "enumerate", data := .fields #[.none, .bool false, .ref s.heap.objs.size, rawInt 0, .none, .none] } }) :=
  .of_wp fun prog w A R s ⟨hl, h⟩ => by
    obtain ⟨hp, g, d, tk, os⟩ := s
    have hsub := sub_enumerate
    have hT : Heap.IsTuple (Shared.heap ⟨hp, g, d, tk, os⟩) l items := ⟨_, hl, rfl, n, rfl⟩
    wp_walk using wpAny_loadPart' hl
    refine wpAny_stack_any fun st => wpAny_pure ?_
    split
    · rename_i c _ _ _ _ _
      cases (c == Value.type "enumerate")
      · wp_walk using wpAny_loadPart' hl, wpAny_pyIter_tuple hT
        exact ⟨_, rfl, h⟩
      · wp_walk using wpAny_loadPart' hl, wpAny_pyIter_tuple hT
        exact ⟨_, rfl, h⟩
    · wp_walk using wpAny_loadPart' hl, wpAny_pyIter_tuple hT
      exact ⟨_, rfl, h⟩
section
variable {prog : Program} {w : World} {A : Around} {E : Value → Shared → Prop} {s : Shared}
theorem call_enumT {l : Addr} {items : Array Value} {Q : Value → Shared → Prop} (hL : s.heap.IsTuple l items)
    (h : ∀ h', IsEnum h' (s.heap.objs.size + 1) s.heap.objs.size 0 .none → h'.IsTupleIter s.heap.objs.size l 0 → h'.objs.size = s.heap.objs.size + 2 →
      (∀ b o, s.heap.get? b = some o → h'.get? b = some o) → Q (.ref (s.heap.objs.size + 1)) { s with heap := h' }) :
    wpAny (model prog w) A (call (.type "enumerate") [.ref l]) Q E s := by
  obtain ⟨⟨c, dct, dt, sl⟩, hl, hc, n, hd⟩ := hL
  replace hc : c = .type "tuple" := hc
  replace hd : dt = .seq items n := hd
  subst hc hd
  refine callType_new F.called_enumerate (by decide) (F.typeCall_enumerate_1 _) (F.newCall_enumerate_1 _) (fun obj => F.args_object_init_2 obj _) F.entry_enumerate_new
    (meets_enumT l items n dct sl) ⟨hl, ?_⟩
  have hz : (s.heap.push { cls := .type "tuple_iterator", data := .fields #[.ref l, .int 0 0] }).objs.size = s.heap.objs.size + 1 := Heap.size_push ..
  show _ ∧ _
  rw [hz]
  have he : IsEnum ((s.heap.push { cls := .type "tuple_iterator", data := .fields #[.ref l, .int 0 0] }).push
      { cls := .type "enumerate", data := .fields #[.none, .bool false, .ref s.heap.objs.size, rawInt 0, .none, .none] }) (s.heap.objs.size + 1) s.heap.objs.size 0 .none := by
    have := Heap.get?_push_size (s.heap.push { cls := .type "tuple_iterator", data := .fields #[.ref l, .int 0 0] })
      (o := { cls := .type "enumerate", data := .fields #[.none, .bool false, .ref s.heap.objs.size, rawInt 0, .none, .none] }) rfl
    rw [hz] at this; exact this
  refine ⟨⟨_, he, rfl⟩, h _ he ⟨_, Heap.get?_push_of_some _ (Heap.get?_push_size _ rfl), rfl, rfl⟩ (by rw [Heap.size_push, hz]) fun b o x => Heap.get?_push_of_some _ (Heap.get?_push_of_some _ x)⟩
end
end PySem
namespace L2
open PySem PySem.Spec PyProof.Rows
def IteT (K : PySem.W.Frag) (a : Addr) : It :=
  ⟨fun i H => ∃ (xs : List V) (x : V), SqT K H a xs ∧ xs[i]? = some x, fun i H v H' => ∃ T x, v = .ref T ∧ H T = none ∧ H' = upd H T (.tup [.int (i : Nat), x]) ∧ ∀ xs, SqT K H a xs → xs[i]? = some x, fun i H => ∃ xs : List V, SqT K H a xs ∧ xs.length = i⟩
theorem turn_enumT {P : Program} {w : World} {K : PySem.W.Frag} {elts : List Expr} {kk : Nat} {tpos : Pos} (a e it : Addr) :
    Turn P w K (.Tuple elts kk tpos) (IteT K a) [e, it] e (fun i h => (∃ old, IsEnum h e it ((i : Nat) : Int) old) ∧ h.IsTupleIter it a i ∧ e ≠ it) where
  mem := by simp
  obj := fun i h st b hb => by
    obtain ⟨⟨old, he⟩, ⟨o, ho, hc, hd⟩, _⟩ := st
    have e' : b = e ∨ b = it := by simpa using hb
    rcases e' with z | z
    · rw [z]; exact ⟨_, he, fun v q => nomatch q⟩
    · rw [z]; exact ⟨o, ho, fun v q => by rw [hd] at q; cases q⟩
  keep := fun i h h' st k => let ⟨⟨old, he⟩, hi, hne⟩ := st; ⟨⟨old, k e (by simp) _ he⟩, hi.at fun o q => k it (by simp) o q, hne⟩
  item := by
    intro X hP hw hK hc i pins s σ H E I hf st hg
    subst hP hw hK
    obtain ⟨⟨old, he⟩, hit, hne⟩ := st
    obtain ⟨xs, x, hq, hx⟩ := hg
    obtain ⟨its, rv, p, hz⟩ := I.tuple hq
    obtain ⟨u, hu, ru⟩ := rv.get hx
    have hel : e < s.heap.objs.size := Heap.lt_size he
    have hil : it < s.heap.objs.size := by obtain ⟨_, q, _⟩ := hit; exact Heap.lt_size q
    have hT : s.heap.IsTuple a its.toArray := p
    have hae : e ≠ a := fun z => by
      subst z
      obtain ⟨o, ho, hc2, _⟩ := hT
      rw [he] at ho
      cases ho
      exact absurd (show Value.type "enumerate" = Value.type "tuple" from hc2) (by simp)
    have hai : a ≠ it := fun z => by
      subst z
      obtain ⟨o, ho, hc2, _⟩ := hT
      obtain ⟨o', ho', hc3, _⟩ := hit
      rw [ho] at ho'
      cases ho'
      rw [hc2] at hc3
      exact absurd (show Value.type "tuple" = Value.type "tuple_iterator" from hc3) (by simp)
    have hlt : i < its.toArray.size := by
      have := List.getElem?_eq_some_iff.mp hu
      obtain ⟨q, _⟩ := this
      simpa using q
    refine wpAny_pyNext_enum_itemD (Draws.tuple (A := X.A.in1) (I.ok.hd hc) it a hai its.toArray) he ⟨hit, hT⟩ hlt hne (by simp [hne, hae]) fun v h' tk hv ho hit' hT1 hsz hk => ?_
    have hvu : v = u := by
      have : its[i]? = some v := by simpa using hv
      rw [hu] at this
      exact (Option.some.inj this).symm
    subst hvu
    refine ⟨_, rfl, wpAny_letOwnedTupleGo_enum (s := { s with heap := h', toks := tk + 1 }) ho fun h'' he' sb => ?_⟩
    have hT2 : h''.get? s.heap.objs.size = some { cls := .type "tuple", data := .seq #[.int i tk, v] } := (sb.2 _ (Nat.ne_of_gt hel)).trans hT1
    have new : ObjOk X.prog X.w (upd H s.heap.objs.size (.tup [.int (i : Nat), x])) h'' s.heap.objs.size (.tup [.int (i : Nat), x]) :=
      ⟨by show 2 ≤ sizeLine; decide, [.int i tk, v], .cons ⟨_, rfl⟩ (.cons ru .nil), ⟨_, hT2, rfl, _, rfl⟩⟩
    have I1 : Inv X pins σ (upd H s.heap.objs.size (.tup [.int (i : Nat), x])) { s with heap := h'', toks := tk + 1 } :=
      I.turnedNew (ch := [e, it]) (fun b ob hb q => (sb.2 b (fun z => hb (by simp [z]))).trans (hk b ob (fun z => hb (by simp [z])) (fun z => hb (by simp [z])) q)) hf (Nat.le_refl _) new
    refine ⟨.ref s.heap.objs.size, _, I1, rfl, ⟨_, x, rfl, I.hok.fresh (Nat.le_refl _), rfl, fun ys hy => by rw [I.tuple_inj hy hq]; exact hx⟩, ⟨⟨v, ?_⟩, hit'.1.at fun o q => (sb.2 it (Ne.symm hne)).trans q, hne⟩, fun b hb => ?_⟩
    · have e1 : ((i + 1 : Nat) : Int) = (i : Int) + 1 := by omega
      rw [e1]; exact he'
    · have hb' : b < s.heap.objs.size := by
        have e' : b = e ∨ b = it := by simpa using hb
        rcases e' with z | z
        · rw [z]; exact hel
        · rw [z]; exact hil
      rw [upd_ne (Nat.ne_of_lt hb')]
      exact (hf b hb).1
  done := by
    intro X hP hw hK hc i pins s σ H E I hf st hg
    subst hP hw hK
    obtain ⟨⟨old, he⟩, hit, hne⟩ := st
    obtain ⟨f0, f1, f2, f3, f4, f5⟩ := hf it (by simp)
    obtain ⟨xs, hq, hle⟩ := hg
    obtain ⟨its, rv, p, hz⟩ := I.tuple hq
    have hT : s.heap.IsTuple a its.toArray := p
    have hai : a ≠ it := fun z => by
      subst z
      obtain ⟨o, ho, hc2, _⟩ := hT
      obtain ⟨o', ho', hc3, _⟩ := hit
      rw [ho] at ho'
      cases ho'
      rw [hc2] at hc3
      exact absurd (show Value.type "tuple" = Value.type "tuple_iterator" from hc3) (by simp)
    have hi : i = its.toArray.size := by
      have := rv.length
      simp
      omega
    subst hi
    exact wpAny_pyNext_enum_endD (Draws.tuple (A := X.A.in1) (I.ok.hd hc) it a hai its.toArray) he ⟨hit, hT⟩ fun h' eb => ⟨rfl, I.turned (t' := s.toks) (fun b o hb q => eb b o hb q) f0 f1 f3 f4 f5⟩
  self := fun A i s Q E st h => by
    obtain ⟨⟨_, he⟩, _⟩ := st
    exact wpAny_pyIter_enum he h
/-- enumerate of a list or a tuple -/
def iEnumA (K : PySem.W.Frag) (ta : TA) : TI := fun σ H R => ta σ H fun vs H1 => ∃ a xs, vs = [.ref a] ∧ ((SqL K H1 a xs ∧ R (Ite K a) H1) ∨ (SqT K H1 a xs ∧ R (IteT K a) H1))
theorem pi_enumA {X : Cx} {e : Expr} {ta : TA} {p pos tpos : Pos} {elts : List Expr} {kk : Nat} (hg : Gl X "enumerate") (hm : X.mg "enumerate" = none) (ha : PA X [e] ta) (hs : starEach [e] X.env = [(false, eval e X.env)] := by rfl) :
    PI X (.Tuple elts kk tpos) (.Call (.Name "enumerate" p) [e] [] pos) (iEnumA X.K ta) := by
  refine ⟨fun pins s σ H R I h => ?_⟩
  refine Call_ (ld_blt I hg hm boot_enumerate (PyProof.Rows.callWith_type1 (thn (ha.run pos pins s σ H _ I h) fun us s1 ⟨vs, H1, I1, r1, q1⟩ => ?_) hs rfl))
  obtain ⟨a, xs, ex, q⟩ := q1
  subst ex
  cases r1 with
  | cons r rr =>
    cases rr
    cases r
    have fr : ∀ b, b ∈ [s1.heap.objs.size + 1, s1.heap.objs.size] → s1.heap.objs.size ≤ b := fun b hb => by
      have e' : b = s1.heap.objs.size + 1 ∨ b = s1.heap.objs.size := by simpa using hb
      rcases e' with z | z
      · rw [z]; exact Nat.le_add_right _ _
      · rw [z]; exact Nat.le_refl _
    rcases q with ⟨hq, q⟩ | ⟨hq, q⟩
    · obtain ⟨its, rv, p', hz⟩ := I1.list hq
      refine call_enumerate_list p'.isList fun h' he hit hsz hk => wpAny_pyIter_enum he ?_
      have I2 : Inv X pins σ H1 { s1 with heap := h' } := I1.kept (t' := s1.toks) hk
      exact ⟨s1.heap.objs.size + 1, [s1.heap.objs.size + 1, s1.heap.objs.size], _, _, H1, rfl, I2, turn_enum a (s1.heap.objs.size + 1) s1.heap.objs.size, ⟨⟨.none, he⟩, hit, Nat.succ_ne_self _⟩, fun b hb => I1.fpOk (fr b hb) (I1.hok.fresh (fr b hb)), q⟩
    · obtain ⟨its, rv, p', hz⟩ := I1.tuple hq
      refine call_enumT (show s1.heap.IsTuple a its.toArray from p') fun h' he hit hsz hk => wpAny_pyIter_enum he ?_
      have I2 : Inv X pins σ H1 { s1 with heap := h' } := I1.kept (t' := s1.toks) hk
      exact ⟨s1.heap.objs.size + 1, [s1.heap.objs.size + 1, s1.heap.objs.size], _, _, H1, rfl, I2, turn_enumT a (s1.heap.objs.size + 1) s1.heap.objs.size, ⟨⟨.none, he⟩, hit, Nat.succ_ne_self _⟩, fun b hb => I1.fpOk (fr b hb) (I1.hok.fresh (fr b hb)), q⟩
theorem walk_enumT {K : PySem.W.Frag} {a : Addr} {xs : List V} : Walk (IteT K a) xs.length (fun H => SqT K H a xs) (YPair (fun i => some (.int (i : Nat))) (fun i => xs[i]?)) := by
  refine ⟨fun i _ hi q => ⟨xs, xs[i], q, by simp [hi]⟩, fun _ q => ⟨xs, q, rfl⟩, fun i H v H' _ q y => ?_⟩
  obtain ⟨T, x, h1, h2, h3, h4⟩ := y
  exact ⟨T, .int (i : Nat), x, h1, h2, h3, rfl, h4 xs q⟩
end L2

set_option autoImplicit true
set_option Elab.async false
set_option linter.all false
set_option maxRecDepth 100000
/-! the drawing out of an urn, powers of great numbers -/
namespace L2
open PySem PySem.Spec PyProof.Rows
def CPowW (i j : Int) : Prop := 0 ≤ j ∧ (Builtin.Int.intBits i : Int) * j ≤ 2 ^ 27
theorem op_powW {X : Cx} : OpR X (binaryOp .Pow) (rI CPowW fun i j => .int (i ^ j.toNat)) := opI fun _ _ _ _ _ _ _ hc q => pow_int hc.1 hc.2 q
theorem powW2 {i : Int} {n : Nat} (h : i.natAbs < 2 ^ n) (hn : 0 < n) (hn2 : n ≤ 1000000) : CPowW i 2 := by
  refine ⟨by decide, ?_⟩
  have h1 : Builtin.Int.intBits i ≤ n := by
    unfold Builtin.Int.intBits
    split
    · omega
    · have := PySem.Flt.log2_lt_of hn h
      omega
  have : (Builtin.Int.intBits i : Int) ≤ n := by exact_mod_cast h1
  omega
/-- an urn at u: what is left of a great cell, the seed, the count, at most n -/
def UrnAt (H : Hp) (u : Addr) (n : Int) : Prop := ∃ (r m c : Int), H u = some (.lst [.int r, .int m, .int c]) ∧ 0 ≤ r ∧ 0 ≤ m ∧ m < 10 ^ 29 + 319 ∧ 0 ≤ c ∧ c ≤ n
theorem UrnAt.mono {H : Hp} {u : Addr} {n n' : Int} (h : UrnAt H u n) (l : n ≤ n') : UrnAt H u n' := by
  obtain ⟨r, m, c, h1, h2, h3, h4, h5, h6⟩ := h
  exact ⟨r, m, c, h1, h2, h3, h4, h5, by omega⟩
theorem UrnAt.pos {H : Hp} {u : Addr} {n : Int} (h : UrnAt H u n) : 0 ≤ n := by
  obtain ⟨r, m, c, h1, h2, h3, h4, h5, h6⟩ := h
  omega
theorem UrnAt.ne {H : Hp} {u p : Addr} {n : Int} (h : UrnAt H u n) (np : H p = none) : p ≠ u := by
  obtain ⟨r, m, c, h1, _⟩ := h
  exact ne_of_none' np h1
theorem UrnAt.upd {H : Hp} {u : Addr} {n : Int} {p : Addr} {o : HO} (h : UrnAt H u n) (pu : p ≠ u) : UrnAt (L2.upd H p o) u n := by
  obtain ⟨r, m, c, h1, h2⟩ := h
  exact ⟨r, m, c, by rw [upd_ne (Ne.symm pu)]; exact h1, h2⟩
theorem UrnAt.new {H : Hp} {u : Addr} {n : Int} {p : Addr} {o : HO} (h : UrnAt H u n) (np : H p = none) : UrnAt (L2.upd H p o) u n := h.upd (h.ne np)
theorem UrnAt.same {H H' : Hp} {u : Addr} {n : Int} (h : UrnAt H u n) (s : Same H H') : UrnAt H' u n := by
  obtain ⟨r, m, c, h1, h2⟩ := h
  exact ⟨r, m, c, s _ _ h1, h2⟩
/-- all but what stands at u is as it was -/
abbrev OffU (u : Addr) (H H' : Hp) : Prop := Off u u H H'
def spUrn (K : PySem.W.Frag) : Sp := fun vs H Q _ => ∃ (a : Addr) (ns : List Int) (k : Nat), vs = [.ref a, .int k] ∧ SqL K H a (ns.map V.int) ∧ ns.length ≤ 63 ∧ k ≤ 63 ∧
  ∀ H' u, Same H H' → H u = none → UrnAt H' u k → Q (.ref u) H'
def spOf : Sp := fun vs H Q _ => ∃ (u : Addr) (n m : Int), vs = [.ref u, .int m] ∧ UrnAt H u n ∧ n ≤ 10 ^ 9 ∧ 0 < m ∧ m ≤ 10 ^ 6 ∧
  ∀ H' r, OffU u H H' → UrnAt H' u (n + 1) → 0 ≤ r → r < m → Q (.int r) H'
def spOneU (K : PySem.W.Frag) : Sp := fun vs H Q _ => ∃ (u a : Addr) (n : Int) (xs : List V), vs = [.ref u, .ref a] ∧ UrnAt H u n ∧ n ≤ 10 ^ 9 ∧ SqL K H a xs ∧ a ≠ u ∧ 0 < xs.length ∧ xs.length ≤ 10 ^ 6 ∧
  ∀ H' x, OffU u H H' → UrnAt H' u (n + 1) → x ∈ xs → Q x H'
def spTurned (K : PySem.W.Frag) : Sp := fun vs H Q _ => ∃ (u a : Addr) (n : Int) (xs : List V), vs = [.ref u, .ref a] ∧ UrnAt H u n ∧ n + xs.length ≤ 10 ^ 9 ∧ SqL K H a xs ∧ a ≠ u ∧ xs.length ≤ 10 ^ 6 ∧
  ∀ H' p ys, OffU u H H' → UrnAt H' u (n + xs.length) → H p = none → p ≠ u → H' p = some (.lst ys) → ys.Perm xs → Q (.ref p) H'
end L2

set_option autoImplicit true
set_option Elab.async false
set_option linter.all false
set_option maxRecDepth 100000
/-! a rule of our own: d.update(e), both dicts -/
namespace L2
open PySem PySem.Spec PyProof.Rows
section
variable {X : Cx} {pins : List (Addr × Obj)} {σ : St} {H : Hp} {s : Shared} {a b : Addr} {kvs more : List (Key × V)} {A : Around} {E : Value → Shared → Prop}
theorem d_update {Q : Value → Shared → Prop} (I : Inv X pins σ H s) (e : H a = some (.dK kvs)) (e2 : H b = some (.dK more)) (hne : a ≠ b) (hz : kvs.length + more.length ≤ sizeLine)
    (h : ∀ s', Inv X pins σ (upd H a (.dK (mergeK kvs more))) s' → Q .none s') : wpAny (model X.prog X.w) A (call (.builtin "dict.update") [.ref a, .ref b]) Q E s := by
  obtain ⟨z, hd, vs, rel, dd⟩ := dk_of I.hok e
  obtain ⟨z2, hd2, vs2, rel2, dd2⟩ := dk_of I.hok e2
  refine call_meetsIn PySem.F.slot_dict_update dd.typeIs PySem.F.entry_dict_update (PySem.F.args_dict_update_2 _ _) (meets_dict_update (mixKind X.prog X.w) a b hne hd2)
    ⟨vs, vs2, dd, dd2, by rw [← rel.length, ← rel2.length]; exact hz, fun h' dd' _ hs => h _ ?_⟩
  have he : ∃ q, h'.get? a = some q := let ⟨q, _, _, hq, _⟩ := dd'; ⟨q, hq⟩
  exact d_write (t' := s.toks) I (by rw [e]; exact True.intro) hs he (dk_new (Nat.le_trans (length_mergeK more kvs) hz) hd (KV.merge rel2 rel) dd')
end
def rDUpd : V → List V → Hp → VK → Prop := fun x vs H Q => ∃ (a b : Addr) (kvs more : List (Key × V)), x = .ref a ∧ vs = [.ref b] ∧ a ≠ b ∧ H a = some (.dK kvs) ∧ H b = some (.dK more) ∧ kvs.length + more.length ≤ sizeLine ∧ Q .non (upd H a (.dK (mergeK kvs more)))
theorem mtd_update {X : Cx} : MtR X "dict.update" rDUpd := by
  intro pins s σ H x vs v us Q I rx rv h
  obtain ⟨a, b, kvs, more, rfl, rfl, hne, e, e2, hz, q⟩ := h
  obtain rfl : v = Value.ref a := rx
  obtain ⟨u, rfl, r1⟩ := vals1 rv
  cases r1
  exact d_update I e e2 hne hz fun s' I' => ⟨.non, _, I', rfl, q⟩
/-! ### dicts that are put together -/
theorem putK_newX {kvs : List (Key × V)} {k : Key} {v : V} (h : k ∉ kvs.map (·.1)) : putK kvs k v = kvs ++ [(k, v)] := by
  unfold putK
  rw [if_neg]
  intro e
  obtain ⟨p, hp, e⟩ := List.any_eq_true.mp e
  exact h (List.mem_map.mpr ⟨p, hp, of_decide_eq_true e⟩)
theorem putK_oldX {kvs : List (Key × V)} {k : Key} {v : V} (h : k ∈ kvs.map (·.1)) : (putK kvs k v).length = kvs.length := by
  unfold putK
  rw [if_pos, List.length_map]
  obtain ⟨p, hp, e⟩ := List.mem_map.mp h
  exact List.any_eq_true.mpr ⟨p, hp, decide_eq_true e⟩
theorem mergeK_of : ∀ (more kvs : List (Key × V)), (∀ p ∈ more, p.1 ∉ kvs.map (·.1)) → (more.map (·.1)).Nodup → mergeK kvs more = kvs ++ more
  | [], kvs, _, _ => by simp [mergeK]
  | p :: more, kvs, h, n => by
    show mergeK (putK kvs p.1 p.2) more = _
    rw [List.map_cons, List.nodup_cons] at n
    rw [putK_newX (h p List.mem_cons_self), mergeK_of more _ (fun q hq => ?_) n.2]
    · simp
    · rw [List.map_append, List.mem_append, not_or]
      refine ⟨h q (List.mem_cons_of_mem _ hq), fun e => ?_⟩
      simp at e
      exact n.1 (List.mem_map.mpr ⟨q, hq, e⟩)
theorem mergeK_less : ∀ (more kvs : List (Key × V)), (mergeK kvs more).length = kvs.length + more.length → (∀ p ∈ more, p.1 ∉ kvs.map (·.1)) ∧ (more.map (·.1)).Nodup
  | [], kvs, _ => by simp
  | p :: more, kvs, h => by
    have h' : (mergeK (putK kvs p.1 p.2) more).length = kvs.length + (more.length + 1) := h
    have le := length_mergeK more (putK kvs p.1 p.2)
    by_cases hp : p.1 ∈ kvs.map (·.1)
    · rw [putK_oldX hp] at le
      omega
    · rw [putK_newX hp] at h'
      obtain ⟨a, b⟩ := mergeK_less more (kvs ++ [(p.1, p.2)]) (by rw [h', List.length_append, List.length_singleton]; omega)
      refine ⟨fun q hq => ?_, ?_⟩
      · rcases List.mem_cons.mp hq with rfl | hq
        · exact hp
        · have := a q hq
          rw [List.map_append, List.mem_append, not_or] at this
          exact this.1
      · rw [List.map_cons, List.nodup_cons]
        refine ⟨fun e => ?_, b⟩
        obtain ⟨q, hq, e⟩ := List.mem_map.mp e
        have := a q hq
        rw [List.map_append, List.mem_append, not_or] at this
        exact this.2 (by simp [e])
theorem inV_nats (k : Nat) : ∀ l : List Nat, inV (.int (k : Nat)) (l.map fun e => V.int (e : Nat)) = decide (k ∈ l)
  | [] => by simp [inV]
  | e :: l => by
    have ih := inV_nats k l
    unfold inV at ih ⊢
    rw [List.map_cons, List.any_cons, ih]
    have h : eqV (.int (e : Nat)) (.int (k : Nat)) = decide (k = e) := by
      show (((e : Nat) : Int) == (k : Nat)) = _
      by_cases h : k = e
      · subst h; simp
      · have : ((e : Nat) : Int) ≠ (k : Nat) := by omega
        simp [h, this]
    rw [h]
    by_cases h1 : k = e <;> by_cases h2 : k ∈ l <;> simp [h1, h2]
theorem flat_nats (l : List Nat) : (l.map fun e => V.int (e : Nat)).all flatV = true := by
  rw [List.all_map]
  exact List.all_eq_true.mpr fun _ _ => rfl
/-! ### a dict comprehension over a walk -/
section
variable {J : It} {n : Nat} {G : Hp → Prop} {Y : Nat → Hp → V → Hp → Prop}
theorem dc_it (w : Walk J n G Y) {g : TG} {tt : TT} {tk tv : TE} {vs : List Nat} {σ : St} {H1 : Hp} {D : Addr} {Qd : Hp → Prop} (Pv : Nat → Hp → Prop) (h0 : Pv 0 (upd H1 D (.dK []))) (hG : ∀ i H, i ≤ n → Pv i H → G H)
    (hs : ∀ i x H H', i < n → Pv i H → Y i H x H' → g x (wipe σ vs) H' fun σ2 H2 => wipe σ2 vs = wipe σ vs ∧ tt σ2 H2 fun b H3 =>
      if b = true then tk σ2 H3 fun y H4 => tv σ2 H4 fun z H5 => ∃ kvs k, y = kV k ∧ H5 D = some (.dK kvs) ∧ kvs.length < sizeLine ∧ Pv (i + 1) (upd H5 D (.dK (putK kvs k z))) else Pv (i + 1) H3) (hd : ∀ H, Pv n H → Qd H) :
    ∃ W : Nat → Nat → Hp → Prop, (∃ m, W 0 m (upd H1 D (.dK []))) ∧ ∀ i m H, W i m H →
      (J.stop i H ∧ Qd H) ∨ (J.go i H ∧ ∃ Nx : Hp → Prop, (∀ H', Nx H' → ∃ m', m' < m ∧ W (i + 1) m' H') ∧ ∀ x H', J.yld i H x H' → g x (wipe σ vs) H' fun σ2 H2 => wipe σ2 vs = wipe σ vs ∧ tt σ2 H2 fun b H3 =>
        if b = true then tk σ2 H3 fun y H4 => tv σ2 H4 fun z H5 => ∃ kvs k, y = kV k ∧ H5 D = some (.dK kvs) ∧ kvs.length < sizeLine ∧ Nx (upd H5 D (.dK (putK kvs k z))) else Nx H3) := by
  refine ⟨fun i m H => m = n - i ∧ i ≤ n ∧ Pv i H, ⟨n, by simp, Nat.zero_le _, h0⟩, ?_⟩
  rintro i m H ⟨rfl, hi, p⟩
  have q := hG i H hi p
  by_cases hlt : i < n
  · refine .inr ⟨w.goes i H hlt q, Pv (i + 1), fun H' p' => ⟨n - (i + 1), by omega, rfl, hlt, p'⟩, fun x H' y => hs i x H H' hlt p (w.yields i H x H' hlt q y)⟩
  · have e : i = n := by omega
    subst e
    exact .inl ⟨w.stops H q, hd H p⟩
theorem dc_same (w : Walk J n G Y) {g : TG} {tt : TT} {tk tv : TE} {vs : List Nat} {σ : St} {H1 : Hp} {D : Addr} {Qd : Hp → Prop} (hD : H1 D = none) (Pv : Nat → Hp → List (Key × V) → Prop) (h0 : Pv 0 (upd H1 D (.dK [])) [])
    (hG : ∀ H, Same H1 H → G H)
    (hs : ∀ i x H H' acc, i < n → Same H1 H → H D = some (.dK acc) → Pv i H acc → Y i H x H' → g x (wipe σ vs) H' fun σ2 H2 => wipe σ2 vs = wipe σ vs ∧ tt σ2 H2 fun b H3 =>
      if b = true then tk σ2 H3 fun y H4 => tv σ2 H4 fun z H5 => ∃ kvs k, y = kV k ∧ H5 D = some (.dK kvs) ∧ kvs.length < sizeLine ∧ (fun H => Same H1 H ∧ ∃ acc, H D = some (.dK acc) ∧ Pv (i + 1) H acc) (upd H5 D (.dK (putK kvs k z))) else (fun H => Same H1 H ∧ ∃ acc, H D = some (.dK acc) ∧ Pv (i + 1) H acc) H3)
    (hd : ∀ H acc, Same H1 H → H D = some (.dK acc) → Pv n H acc → Qd H) :
    ∃ W : Nat → Nat → Hp → Prop, (∃ m, W 0 m (upd H1 D (.dK []))) ∧ ∀ i m H, W i m H →
      (J.stop i H ∧ Qd H) ∨ (J.go i H ∧ ∃ Nx : Hp → Prop, (∀ H', Nx H' → ∃ m', m' < m ∧ W (i + 1) m' H') ∧ ∀ x H', J.yld i H x H' → g x (wipe σ vs) H' fun σ2 H2 => wipe σ2 vs = wipe σ vs ∧ tt σ2 H2 fun b H3 =>
        if b = true then tk σ2 H3 fun y H4 => tv σ2 H4 fun z H5 => ∃ kvs k, y = kV k ∧ H5 D = some (.dK kvs) ∧ kvs.length < sizeLine ∧ Nx (upd H5 D (.dK (putK kvs k z))) else Nx H3) :=
  dc_it w (fun i H => Same H1 H ∧ ∃ acc, H D = some (.dK acc) ∧ Pv i H acc) ⟨(Same.refl _).upd_new hD, [], upd_same, h0⟩ (fun i H _ h => hG H h.1) (fun i x H H' hi ⟨s, acc, e, p⟩ hy => hs i x H H' acc hi s e p hy) (fun H ⟨s, acc, e, p⟩ => hd H acc s e p)
end
end L2

set_option autoImplicit true
set_option Elab.async false
set_option linter.all false
set_option maxRecDepth 100000
set_option maxHeartbeats 4000000
/-! len(set(xs)) of any ints; xs[a:c] = ys -/
namespace L2
open PySem PySem.Spec PyProof.Rows
theorem firstMet_fold (ns : List Int) : firstMet (fun i => ns.getD i 0) ns.length = ns.foldl step_dedup [] := by
  unfold firstMet
  congr 1
  apply List.ext_getElem?
  intro i
  rw [List.getElem?_map]
  by_cases h : i < ns.length
  · rw [List.getElem?_range h, List.getElem?_eq_getElem h]
    show some (ns.getD i 0) = _
    rw [List.getD_eq_getElem?_getD, List.getElem?_eq_getElem h]
    rfl
  · rw [List.getElem?_eq_none (l := List.range _) (by simpa using h), List.getElem?_eq_none (by omega)]
    rfl
def tLenSetG (K : PySem.W.Frag) (ta : TE) : TE := fun σ H Q => ta σ H fun x H1 => ∃ (l : Addr) (ns : List Int), x = .ref l ∧ SqL K H1 l (ns.map V.int) ∧ ns.length ≤ 4000 ∧ Q (.int ((ns.foldl step_dedup []).length : Nat)) H1
theorem pe_lenSetG {X : Cx} {a : Expr} {ta : TE} {p p2 q pos : Pos} (hc : X.calm = true) (hg : Gl X "len") (hm : X.mg "len" = none) (hg2 : Gl X "set") (hm2 : X.mg "set" = none) (ha : PE X a ta)
    (na : starEach [a] X.env = (false, eval a X.env) :: starEach [] X.env := by rfl) : PE X (.Call (.Name "len" p) [.Call (.Name "set" p2) [a] [] q] [] pos) (tLenSetG X.K ta) := by
  refine ⟨fun pins s σ H Q I h => ?_⟩
  refine Call_ (ld_blt I hg hm boot_len ?_)
  refine PyProof.Rows.callWith_builtin1 (PyProof.Rows.args_cons ?_ rfl) rfl rfl
  refine Call_ (ld_blt I hg2 hm2 boot_set ?_)
  refine PyProof.Rows.callWith_type1 (PyProof.Rows.args_cons (thn (ha.run pins s σ H _ I h) fun v s1 ⟨x, H1, I1, r1, q1⟩ => PyProof.Rows.args_nil ?_) na) na rfl
  obtain ⟨l, ns, rfl, hq, hl, q1⟩ := q1
  cases r1
  obtain ⟨its, r, pl, hz⟩ := I1.list hq
  have hlen : its.toArray.size = ns.length := by rw [List.size_toArray, ← r.length, List.length_map]
  refine call_set_list (I1.ok.hd hc) pl.isList (by simpa using Vals.ints r) (by rw [hlen]; unfold scanBound; omega) fun h' tk hS hk => ?_
  refine PyProof.Rows.args_nil ?_
  rw [hlen, firstMet_fold] at hS
  obtain ⟨o, es, ep, t, ho, hex, hd, _, _, hb, hf, hn⟩ := hS
  have I2 : Inv X pins σ H1 { s1 with heap := h', toks := tk } := I1.kept fun b o e => hk b o (Heap.lt_size e) e
  exact call_len_set ho hex hd hf (by unfold scanBound at hb; omega) ⟨.int _, H1, I2.tok _, ⟨_, by rw [hn]⟩, q1⟩

/-! ### xs[a:c] = ys -/
def gSlc (to : TE) (tl th : TO) : TG := fun v σ H Q => to σ H fun o H1 => tl σ H1 fun l H2 => th σ H2 fun u H3 => ∃ p b xs ys a c, o = .ref p ∧ v = .ref b ∧ l = some a ∧ u = some c ∧ H3 p = some (.lst xs) ∧ H3 b = some (.lst ys) ∧ p ≠ b ∧
  0 ≤ a ∧ a ≤ c ∧ c ≤ (xs.length : Int) ∧ xs.length + ys.length ≤ sizeLine ∧ Q σ (upd H3 p (.lst (xs.take a.toNat ++ ys ++ xs.drop c.toNat)))
theorem pg_slc {X : Cx} {o : Expr} {lo hi : Option Expr} {to : TE} {tl th : TO} {pos p2 : Pos} (ho : PE X o to) (hl : PO X lo tl) (hu : PO X hi th)
    (ha : ∀ v, assign (.Subscript o (.Slice lo hi none p2) pos) X.env v = (do
      let ov ← holding [v] (eval o X.env)
      let iv ← holding [v, ov] (eval (.Slice lo hi none p2) X.env)
      standAt pos
      holding [v, ov, iv] (setItem ov iv v)
      release [iv, v, ov] []) := by intro _; rfl) : PG X (.Subscript o (.Slice lo hi none p2) pos) (gSlc to tl th) := by
  refine ⟨fun pins s σ H v u Q I r h => ?_⟩
  rw [ha]
  refine wpAny_bind (wpAny_holding (thn (ho.run pins s σ H _ I h) fun ov s1 ⟨x, H1, I1, r1, q1⟩ => ?_))
  refine wpAny_bind (wpAny_holding (wpAny_Slice (thn (hl.run pins s1 σ H1 _ I1 q1) fun vl s2 ⟨l, H2, I2, pl, q2⟩ => thn (hu.run pins s2 σ H2 _ I2 q2) fun vu s3 ⟨u', H3, I3, pu, q3⟩ => ?_)))
  rw [evalPart_none]
  refine wpAny_pure ?_
  obtain ⟨p, b, xs, ys, a, c, rfl, rfl, rfl, rfl, hp, hb, hne, h0, hac, hc, hz, q⟩ := q3
  cases r1
  cases r
  have I4 : Inv X pins σ H3 { s3 with heap := s3.heap.push { cls := .type "slice", data := .fields #[vl, vu, .none] } } := I3.kept (t' := s3.toks) fun b ob q => Heap.get?_push_of_some _ q
  have ra : RelV (.int a) vl := by cases pl; exact ⟨_, rfl⟩
  have rc : RelV (.int c) vu := by cases pu; exact ⟨_, rfl⟩
  refine wpAny_bind (wpAny_standAt (wpAny_bind (wpAny_holding ?_)))
  exact set_slice I4 hp hb hne (Heap.IsSliceOf.new ..) ra rc h0 hac hc hz fun s' I5 => wpAny_release ⟨σ, _, I5, q⟩
end L2

set_option autoImplicit true
set_option Elab.async false
set_option linter.all false
set_option maxRecDepth 100000
set_option maxHeartbeats 1000000
set_option autoImplicit true
/-! the data layer: a def as a plain function of data; slots hold data, own lists, or a caller's list -/
namespace XD
open PySem L2

abbrev D := PyData
/-- a slot: unset, data, a list of this def's own, a caller's list -/
inductive Sl where
  | un | d (x : D) | o (x : D) | io (x : D)
abbrev Rho := List Sl
inductive Res (α : Type) where
  | ok (a : α) | ex (n : String) (fs : List (Str × D)) (ρ : Rho) | bad
def Res.bind {α β : Type} : Res α → (α → Res β) → Res β
  | .ok a, k => k a
  | .ex n fs ρ, _ => .ex n fs ρ
  | .bad, _ => .bad
/-- behind a statement -/
inductive Fl where
  | nx (ρ : Rho) | bk (ρ : Rho) | ct (ρ : Rho) | rt (x : D) (ρ : Rho) | rf (x : D) (ρ : Rho)

def look (ρ : Rho) (i : Nat) : Sl := (ρ[i]?).getD .un
def cont : Sl → Option D
  | .o x => some x
  | .io x => some x
  | _ => none

/-- the layer's fixed things: what is known, the exception classes by name -/
structure Ct where
  K : PySem.W.Frag
  cl : String → Value
/-- a def's entry: the frozen part, the heap, the callers' lists, where they stand; gd: new objects under work -/
structure Bs where
  F0 : Hp
  H0 : Hp
  ps : List Addr
  pa : Nat → Addr
  gd : Hp
  ia : Nat → Bool
/-- p is none of the entry's, and guarded by nobody -/
def Bs.nw (B : Bs) (p : Addr) : Prop := B.H0 p = none ∧ B.gd p = none

def keyD : Key → D
  | .inl i => .int i
  | .inr x => .str x
mutual
/-- a value that stands for data, lists and dicts among it -/
inductive Dp (K : PySem.W.Frag) (H : Hp) : V → D → Prop
  | non : Dp K H .non .none
  | bl (b : Bool) : Dp K H (.bl b) (.bool b)
  | int (i : Int) : Dp K H (.int i) (.int i)
  | str (x : Str) : Dp K H (.str x) (.str x)
  | lst {a : Addr} {xs : List V} {ds : List D} : SqL K H a xs → DpAll K H xs ds → Dp K H (.ref a) (.list ds)
  | tup {a : Addr} {xs : List V} {ds : List D} : SqT K H a xs → DpAll K H xs ds → Dp K H (.ref a) (.tuple ds)
  | dct {a : Addr} {kvs : List (Key × V)} {ds : List (D × D)} : Rd H a (.dK kvs) → DpKv K H kvs ds → Dp K H (.ref a) (.dict ds)
inductive DpAll (K : PySem.W.Frag) (H : Hp) : List V → List D → Prop
  | nil : DpAll K H [] []
  | cons {v : V} {vs : List V} {d : D} {ds : List D} : Dp K H v d → DpAll K H vs ds → DpAll K H (v :: vs) (d :: ds)
inductive DpKv (K : PySem.W.Frag) (H : Hp) : List (Key × V) → List (D × D) → Prop
  | nil : DpKv K H [] []
  | cons {k : Key} {v : V} {kvs : List (Key × V)} {d : D} {ds : List (D × D)} : Dp K H v d → DpKv K H kvs ds → DpKv K H ((k, v) :: kvs) ((keyD k, d) :: ds)
end
theorem Rd.same {H H' : Hp} {a : Addr} {u : HO} (e : Same H H') (h : Rd H a u) : Rd H' a u := by
  rcases h with h | ⟨o, h⟩
  · exact .inl (e _ _ h)
  · exact .inr ⟨o, e _ _ h⟩
mutual
theorem Dp.same {K : PySem.W.Frag} {H H' : Hp} (e : Same H H') : ∀ {d : D} {v : V}, Dp K H v d → Dp K H' v d
  | _, _, .non => .non
  | _, _, .bl b => .bl b
  | _, _, .int b => .int b
  | _, _, .str b => .str b
  | _, _, .lst h1 h2 => .lst (e.seq h1) (DpAll.same e h2)
  | _, _, .tup h1 h2 => .tup (SqT.same e h1) (DpAll.same e h2)
  | _, _, .dct h1 h2 => .dct (Rd.same e h1) (DpKv.same e h2)
theorem DpAll.same {K : PySem.W.Frag} {H H' : Hp} (e : Same H H') : ∀ {ds : List D} {vs : List V}, DpAll K H vs ds → DpAll K H' vs ds
  | _, _, .nil => .nil
  | _, _, .cons h1 h2 => .cons (Dp.same e h1) (DpAll.same e h2)
theorem DpKv.same {K : PySem.W.Frag} {H H' : Hp} (e : Same H H') : ∀ {ds : List (D × D)} {vs : List (Key × V)}, DpKv K H vs ds → DpKv K H' vs ds
  | _, _, .nil => .nil
  | _, _, .cons h1 h2 => .cons (Dp.same e h1) (DpKv.same e h2)
end
theorem DpAll.length {K : PySem.W.Frag} {H : Hp} : ∀ {ds : List D} {vs : List V}, DpAll K H vs ds → vs.length = ds.length
  | _, _, .nil => rfl
  | _, _, .cons h1 h2 => by simp [DpAll.length h2]
mutual
/-- no dict within: as the library's relation -/
theorem Dp.lib {K : PySem.W.Frag} {H : Hp} : ∀ {d : D} {v : V}, Dp K H v d → d.canLay0 = true → L2.Dp K H v d
  | _, _, .non, _ => .non
  | _, _, .bl b, _ => .bl b
  | _, _, .int b, _ => .int b
  | _, _, .str b, _ => .str b
  | _, _, .lst h1 h2, c => .lst h1 (DpAll.lib h2 (by simpa [PyData.canLay0] using c))
  | _, _, .tup h1 h2, c => .tup h1 (DpAll.lib h2 (by simpa [PyData.canLay0] using c))
  | _, _, .dct h1 h2, c => by simp [PyData.canLay0] at c
theorem DpAll.lib {K : PySem.W.Frag} {H : Hp} : ∀ {d : List D} {v : List V}, DpAll K H v d → PyData.canLayAll0 d = true → L2.DpAll K H v d
  | _, _, .nil, _ => .nil
  | _, _, .cons h1 h2, c => by
    have c' := c
    simp only [PyData.canLayAll0, Bool.and_eq_true] at c'
    exact .cons (Dp.lib h1 c'.1) (DpAll.lib h2 c'.2)
end
/-- an own object's content -/
def Held (C : Ct) (F : Hp) (o : HO) (x : D) : Prop := (∃ vs ds, x = .list ds ∧ o = .lst vs ∧ DpAll C.K F vs ds) ∨ (∃ kvs ds, x = .dict ds ∧ o = .dK kvs ∧ DpKv C.K F kvs ds)
theorem Held.same {C : Ct} {F F' : Hp} {o : HO} {x : D} (s : Same F F') (h : Held C F o x) : Held C F' o x := by
  rcases h with ⟨vs, ds, e1, e2, h⟩ | ⟨vs, ds, e1, e2, h⟩
  · exact .inl ⟨vs, ds, e1, e2, DpAll.same s h⟩
  · exact .inr ⟨vs, ds, e1, e2, DpKv.same s h⟩
theorem Held.dp {C : Ct} {F : Hp} {o : HO} {x : D} {p : Addr} (h : Held C F o x) (e : F p = some o) : Dp C.K F (.ref p) x := by
  rcases h with ⟨vs, ds, rfl, rfl, h⟩ | ⟨vs, ds, rfl, rfl, h⟩
  · exact .lst (.of e) h
  · exact .dct (.of e) h
def Own (C : Ct) (F H : Hp) (p : Addr) (x : D) : Prop := F p = none ∧ ∃ o, H p = some o ∧ Held C F o x

def SlOk (C : Ct) (B : Bs) (F H : Hp) (i : Nat) (v : Option (Option V)) : Sl → Prop
  | .un => True
  | .d x => ∃ y, v = some (some y) ∧ Dp C.K F y x
  | .o x => ∃ p, v = some (some (.ref p)) ∧ B.nw p ∧ Own C F H p x
  | .io x => v = some (some (.ref (B.pa i))) ∧ B.pa i ∈ B.ps ∧ Own C F H (B.pa i) x
/-- slot i holds the list at p, owned -/
def Holds (σ : St) (ρ : Rho) (i : Nat) (p : Addr) : Prop := σ[i]? = some (some (.ref p)) ∧ ∃ x, cont (look ρ i) = some x

/-- what never changes -/
def keptO : HO → Bool
  | .tup _ => true
  | .frz _ _ => true
  | _ => false
def isIo : Sl → Bool
  | .io _ => true
  | _ => false
structure Rep (C : Ct) (B : Bs) (F H : Hp) (σ : St) (ρ : Rho) : Prop where
  sub : Same F H
  fr : ∀ a, B.H0 a ≠ none → F a = B.F0 a
  hk : ∀ a, B.H0 a ≠ none → a ∉ B.ps → H a = B.H0 a
  live : ∀ p ∈ B.ps, H p ≠ none
  gdk : ∀ a o, B.gd a = some o → H a = some o ∧ F a = none ∧ B.H0 a = none ∧ ∀ i, ¬ Holds σ ρ i a
  ioe : ∀ i, isIo (look ρ i) = B.ia i
  tup : ∀ a u, H a = some u → keptO u = true → F a = some u
  len : σ.length = ρ.length
  slot : ∀ i, SlOk C B F H i σ[i]? (look ρ i)
  apart : ∀ i j p, Holds σ ρ i p → Holds σ ρ j p → i = j

/-- what lies in an exception -/
def XnOk (C : Ct) (F H : Hp) (d : Option Addr) (fs : List (Str × D)) : Prop :=
  (fs = [] ∧ d = none) ∨ ∃ dx vs, d = some dx ∧ H dx = some (.xd vs) ∧ Both (fun (v : Str × V) (f : Str × D) => v.1 = f.1 ∧ Dp C.K F v.2 f.2) vs fs

section
variable (C : Ct) (W : WX) (B : Bs)
def PostX (F : Hp) (n : String) (fs : List (Str × D)) (ρ' : Rho) (σ : St) : Prop := ∀ F' H' d, Same F F' → Rep C B F' H' σ ρ' → XnOk C F' H' d fs → W (C.cl n) d σ H'
def PostE (F : Hp) (σ : St) : Res (D × Rho) → VK → Prop
  | .ok (x, ρ'), Q => ∀ F' H' v, Same F F' → Rep C B F' H' σ ρ' → Dp C.K F' v x → Q v H'
  | .ex n fs ρ', _ => PostX C W B F n fs ρ' σ
  | .bad, _ => False
/-- a new list, nobody else's -/
def PostF (F : Hp) (σ : St) : Res (D × Rho) → VK → Prop
  | .ok (x, ρ'), Q => ∀ F' H' p, Same F F' → Rep C B F' H' σ ρ' → B.nw p → (∀ i, ¬ Holds σ ρ' i p) → Own C F' H' p x → Q (.ref p) H'
  | .ex n fs ρ', _ => PostX C W B F n fs ρ' σ
  | .bad, _ => False
def PostT (F : Hp) (σ : St) : Res (Bool × Rho) → (Bool → Hp → Prop) → Prop
  | .ok (b, ρ'), Q => ∀ F' H', Same F F' → Rep C B F' H' σ ρ' → Q b H'
  | .ex n fs ρ', _ => PostX C W B F n fs ρ' σ
  | .bad, _ => False
def PostL (F : Hp) (σ : St) : Res (List D × Rho) → (List V → Hp → Prop) → Prop
  | .ok (xs, ρ'), Q => ∀ F' H' vs, Same F F' → Rep C B F' H' σ ρ' → DpAll C.K F' vs xs → Q vs H'
  | .ex n fs ρ', _ => PostX C W B F n fs ρ' σ
  | .bad, _ => False
def PostS (F : Hp) (E : Ends) : Res Fl → Prop
  | .ok (.nx ρ') => ∀ F' H' σ', Same F F' → Rep C B F' H' σ' ρ' → E.nx σ' H'
  | .ok (.bk ρ') => ∀ F' H' σ', Same F F' → Rep C B F' H' σ' ρ' → E.bk σ' H'
  | .ok (.ct ρ') => ∀ F' H' σ', Same F F' → Rep C B F' H' σ' ρ' → E.ct σ' H'
  | .ok (.rt x ρ') => ∀ F' H' σ' v, Same F F' → Rep C B F' H' σ' ρ' → Dp C.K F' v x → E.rt v H'
  | .ok (.rf x ρ') => ∀ F' H' σ' p, Same F F' → Rep C B F' H' σ' ρ' → B.nw p → Own C F' H' p x → E.rt (.ref p) H'
  | .ex n fs ρ' => ∀ σ', PostX C W B F n fs ρ' σ'
  | .bad => False
end
def SimE (C : Ct) (W : WX) (t : TE) (d : Rho → Res (D × Rho)) : Prop := ∀ B F H σ ρ Q, Rep C B F H σ ρ → PostE C W B F σ (d ρ) Q → t σ H Q
def SimF (C : Ct) (W : WX) (t : TE) (d : Rho → Res (D × Rho)) : Prop := ∀ B F H σ ρ Q, Rep C B F H σ ρ → PostF C W B F σ (d ρ) Q → t σ H Q
def SimT (C : Ct) (W : WX) (t : TT) (d : Rho → Res (Bool × Rho)) : Prop := ∀ B F H σ ρ Q, Rep C B F H σ ρ → PostT C W B F σ (d ρ) Q → t σ H Q
def SimL (C : Ct) (W : WX) (t : TA) (d : Rho → Res (List D × Rho)) : Prop := ∀ B F H σ ρ Q, Rep C B F H σ ρ → PostL C W B F σ (d ρ) Q → t σ H Q
def SimS (C : Ct) (W : WX) (t : TS) (d : Rho → Res Fl) : Prop := ∀ B F H σ ρ E, Rep C B F H σ ρ → PostS C W B F E (d ρ) → t E σ H

/-! ### heaps and slots -/
theorem Own.same {C : Ct} {F F' H : Hp} {p : Addr} {x : D} (h : Own C F H p x) (s : Same F F') (n : F' p = none) : Own C F' H p x := by
  obtain ⟨_, o, h1, h2⟩ := h
  exact ⟨n, o, h1, h2.same s⟩
theorem Own.set {C : Ct} {F H : Hp} {p q : Addr} {o : HO} {x : D} (h : Own C F H p x) (ne : p ≠ q) : Own C F (upd H q o) p x := by
  obtain ⟨n, u, h1, h2⟩ := h
  exact ⟨n, u, by rw [upd_ne ne]; exact h1, h2⟩
theorem Own.ne {C : Ct} {F H : Hp} {p q : Addr} {x : D} (h : Own C F H p x) (n : H q = none) : p ≠ q := by
  obtain ⟨_, o, h1, h2⟩ := h
  exact ne_of_none h1 n
theorem sameUpd {F : Hp} {q : Addr} {o : HO} (n : F q = none) : Same F (upd F q o) := (Same.refl F).upd_new n
theorem same_upd2 {F H : Hp} {q : Addr} {o : HO} (s : Same F H) : Same (upd F q o) (upd H q o) := fun b u e => by
  by_cases h : b = q
  · subst h; rw [upd_same] at e ⊢; exact e
  · rw [upd_ne h] at e ⊢; exact s b u e
theorem SlOk.mono {C : Ct} {B : Bs} {F F' H H' : Hp} {i : Nat} {v : Option (Option V)} {s : Sl} (h : SlOk C B F H i v s) (sf : Same F F')
    (k : ∀ p x, v = some (some (.ref p)) → cont s = some x → Own C F H p x → Own C F' H' p x) : SlOk C B F' H' i v s := by
  cases s with
  | un => trivial
  | d x => obtain ⟨y, e, h⟩ := h; exact ⟨y, e, h.same sf⟩
  | o x => obtain ⟨p, e, n, h⟩ := h; exact ⟨p, e, n, k p x e rfl h⟩
  | io x => obtain ⟨e, n, h⟩ := h; exact ⟨e, n, k _ x e rfl h⟩

section
variable {C : Ct} {B : Bs} {F H : Hp} {σ : St} {ρ : Rho}
theorem Rep.own (R : Rep C B F H σ ρ) {i : Nat} {p : Addr} (h : Holds σ ρ i p) : ∃ x, cont (look ρ i) = some x ∧ Own C F H p x := by
  obtain ⟨h1, x, h2⟩ := h
  have s := R.slot i
  refine ⟨x, h2, ?_⟩
  cases e : look ρ i with
  | un => rw [e] at h2; cases h2
  | d y => rw [e] at h2; cases h2
  | o y =>
    rw [e] at h2 s
    injection h2 with h2; subst h2
    obtain ⟨q, e1, _, e3⟩ := s
    rw [h1] at e1
    injection e1 with e1; injection e1 with e1; injection e1 with e1
    subst e1
    exact e3
  | io y =>
    rw [e] at h2 s
    injection h2 with h2; subst h2
    obtain ⟨e1, _, e3⟩ := s
    rw [h1] at e1
    injection e1 with e1; injection e1 with e1; injection e1 with e1
    rw [e1]
    exact e3
/-- the slot of an owned list -/
theorem Rep.at (R : Rep C B F H σ ρ) {i : Nat} {x : D} (h : cont (look ρ i) = some x) : ∃ p, Holds σ ρ i p ∧ Own C F H p x := by
  have s := R.slot i
  cases e : look ρ i with
  | un => rw [e] at h; cases h
  | d y => rw [e] at h; cases h
  | o y =>
    rw [e] at h s
    injection h with h; subst h
    obtain ⟨q, e1, _, e3⟩ := s
    exact ⟨q, ⟨e1, y, by rw [e]; rfl⟩, e3⟩
  | io y =>
    rw [e] at h s
    injection h with h; subst h
    obtain ⟨e1, _, e3⟩ := s
    exact ⟨_, ⟨e1, y, by rw [e]; rfl⟩, e3⟩
theorem Rep.free (R : Rep C B F H σ ρ) {q : Addr} (n : H q = none) : F q = none ∧ B.nw q ∧ ∀ i, ¬ Holds σ ρ i q := by
  refine ⟨R.sub.free n, ⟨?_, ?_⟩, fun i h => ?_⟩
  · cases e : B.H0 q with
    | none => rfl
    | some o =>
      exfalso
      have h0 : B.H0 q ≠ none := by rw [e]; exact fun z => by cases z
      by_cases hp : q ∈ B.ps
      · exact R.live q hp n
      · rw [R.hk q h0 hp] at n; exact h0 n
  · cases e : B.gd q with
    | none => rfl
    | some o => rw [(R.gdk q o e).1] at n; cases n
  · obtain ⟨x, _, h⟩ := R.own h
    exact h.ne n rfl
/-- a new object, frozen at once -/
theorem Rep.new (R : Rep C B F H σ ρ) {q : Addr} {o : HO} (n : H q = none) : Rep C B (upd F q o) (upd H q o) σ ρ := by
  obtain ⟨nF, n0, nh⟩ := R.free n
  refine ⟨same_upd2 R.sub, fun a h => ?_, fun a h1 h2 => ?_, fun p hp => ?_, fun a u hg => ?_, R.ioe, fun a xs h hu => ?_, R.len, fun i => ?_, R.apart⟩
  · rw [upd_ne (fun e => h (by rw [e]; exact n0.1))]; exact R.fr a h
  · rw [upd_ne (fun e => h1 (by rw [e]; exact n0.1))]; exact R.hk a h1 h2
  · by_cases e : p = q
    · rw [e, upd_same]; exact fun z => by cases z
    · rw [upd_ne e]; exact R.live p hp
  · obtain ⟨g1, g2, g3, g4⟩ := R.gdk a u hg
    have ne : a ≠ q := ne_of_none g1 n
    exact ⟨by rw [upd_ne ne]; exact g1, by rw [upd_ne ne]; exact g2, g3, g4⟩
  · by_cases e : a = q
    · rw [e, upd_same] at h ⊢; exact h
    · rw [upd_ne e] at h ⊢; exact R.tup a xs h hu
  · refine (R.slot i).mono (sameUpd nF) fun p x e _ h => ?_
    have ne : p ≠ q := h.ne n
    exact (h.same (sameUpd nF) (by rw [upd_ne ne]; exact h.1)).set ne
/-- a new object that is somebody's own -/
theorem Rep.newO (R : Rep C B F H σ ρ) {q : Addr} {o : HO} (n : H q = none) (nt : keptO o = false) : Rep C B F (upd H q o) σ ρ := by
  obtain ⟨nF, n0, nh⟩ := R.free n
  refine ⟨R.sub.own nF, R.fr, fun a h1 h2 => ?_, fun p hp => ?_, fun a u hg => ?_, R.ioe, fun a xs h hu => ?_, R.len, fun i => ?_, R.apart⟩
  · rw [upd_ne (fun e => h1 (by rw [e]; exact n0.1))]; exact R.hk a h1 h2
  · by_cases e : p = q
    · rw [e, upd_same]; exact fun z => by cases z
    · rw [upd_ne e]; exact R.live p hp
  · obtain ⟨g1, g2, g3, g4⟩ := R.gdk a u hg
    have ne : a ≠ q := ne_of_none g1 n
    exact ⟨by rw [upd_ne ne]; exact g1, g2, g3, g4⟩
  · by_cases e : a = q
    · rw [e, upd_same] at h; injection h with h; rw [← h, nt] at hu; cases hu
    · rw [upd_ne e] at h; exact R.tup a xs h hu
  · exact (R.slot i).mono (Same.refl _) fun p x e _ h => h.set (h.ne n)
/-- an own object of no slot is frozen -/
theorem Rep.freeze (R : Rep C B F H σ ρ) {q : Addr} {o : HO} (h : H q = some o) (nF : F q = none) (n0 : B.nw q) (nh : ∀ i, ¬ Holds σ ρ i q) : Rep C B (upd F q o) H σ ρ := by
  refine ⟨fun b u e => ?_, fun a h => ?_, R.hk, R.live, fun a u hg => ?_, R.ioe, fun a xs h' hu => ?_, R.len, fun i => ?_, R.apart⟩
  · by_cases z : b = q
    · subst z; rw [upd_same] at e; rw [h]; exact e
    · rw [upd_ne z] at e; exact R.sub b u e
  · rw [upd_ne (fun e => h (by rw [e]; exact n0.1))]; exact R.fr a h
  · obtain ⟨g1, g2, g3, g4⟩ := R.gdk a u hg
    have ne : a ≠ q := Ne.symm (ne_of_none' n0.2 hg)
    exact ⟨g1, by rw [upd_ne ne]; exact g2, g3, g4⟩
  · by_cases e : a = q
    · rw [e] at h' ⊢; rw [upd_same, ← h, h']
    · rw [upd_ne e]; exact R.tup a xs h' hu
  · refine (R.slot i).mono (sameUpd nF) fun p x e hc h => ?_
    have ne : p ≠ q := fun z => by subst z; exact nh i ⟨e, x, hc⟩
    exact h.same (sameUpd nF) (by rw [upd_ne ne]; exact h.1)

theorem look_set {i j : Nat} {s : Sl} (h : i < ρ.length) : look (ρ.set i s) j = if i = j then s else look ρ j := by
  unfold look
  rw [List.getElem?_set]
  by_cases e : i = j
  · rw [if_pos e, if_pos e, if_pos (e ▸ h)]; rfl
  · rw [if_neg e, if_neg e]
theorem sig_set {i j : Nat} {v : Option V} (h : i < σ.length) : (σ.set i v)[j]? = if i = j then some v else σ[j]? := by
  rw [List.getElem?_set]
  by_cases e : i = j
  · rw [if_pos e, if_pos e, if_pos h]
  · rw [if_neg e, if_neg e]
/-- data put into a slot -/
theorem Rep.put (R : Rep C B F H σ ρ) {i : Nat} {v : V} {x : D} (hi : i < ρ.length) (hn : isIo (look ρ i) = false) (h : Dp C.K F v x) : Rep C B F H (σ.set i (some v)) (ρ.set i (.d x)) := by
  have hi' : i < σ.length := by rw [R.len]; exact hi
  refine ⟨R.sub, R.fr, R.hk, R.live, fun a u hg => ?_, fun j => by
      rw [look_set hi]
      by_cases e : i = j
      · subst e; rw [if_pos rfl, ← R.ioe i]; exact hn.symm
      · rw [if_neg e]; exact R.ioe j, R.tup, by rw [List.length_set, List.length_set]; exact R.len, fun j => ?_, fun j k p hj hk => ?_⟩
  · obtain ⟨g1, g2, g3, g4⟩ := R.gdk a u hg
    refine ⟨g1, g2, g3, fun j hj => ?_⟩
    obtain ⟨a1, y, a2⟩ := hj
    rw [look_set hi] at a2
    rw [sig_set hi'] at a1
    by_cases e : i = j
    · rw [if_pos e] at a2; cases a2
    · rw [if_neg e] at a1 a2
      exact g4 j ⟨a1, y, a2⟩
  · rw [look_set hi, sig_set hi']
    by_cases e : i = j
    · rw [if_pos e, if_pos e]; exact ⟨v, rfl, h⟩
    · rw [if_neg e, if_neg e]; exact R.slot j
  · obtain ⟨a1, y, a2⟩ := hj
    obtain ⟨b1, z, b2⟩ := hk
    rw [look_set hi] at a2 b2
    rw [sig_set hi'] at a1 b1
    by_cases e : i = j
    · rw [if_pos e] at a2; cases a2
    · by_cases e2 : i = k
      · rw [if_pos e2] at b2; cases b2
      · rw [if_neg e] at a1 a2
        rw [if_neg e2] at b1 b2
        exact R.apart j k p ⟨a1, y, a2⟩ ⟨b1, z, b2⟩
/-- an own list put into a slot -/
theorem Rep.putO (R : Rep C B F H σ ρ) {i : Nat} {q : Addr} {x : D} (hi : i < ρ.length) (hn : isIo (look ρ i) = false) (n0 : B.nw q) (nh : ∀ i, ¬ Holds σ ρ i q) (h : Own C F H q x) : Rep C B F H (σ.set i (some (.ref q))) (ρ.set i (.o x)) := by
  have hi' : i < σ.length := by rw [R.len]; exact hi
  refine ⟨R.sub, R.fr, R.hk, R.live, fun a u hg => ?_, fun j => by
      rw [look_set hi]
      by_cases e : i = j
      · subst e; rw [if_pos rfl, ← R.ioe i]; exact hn.symm
      · rw [if_neg e]; exact R.ioe j, R.tup, by rw [List.length_set, List.length_set]; exact R.len, fun j => ?_, fun j k p hj hk => ?_⟩
  · obtain ⟨g1, g2, g3, g4⟩ := R.gdk a u hg
    refine ⟨g1, g2, g3, fun j hj => ?_⟩
    obtain ⟨a1, y, a2⟩ := hj
    rw [look_set hi] at a2
    rw [sig_set hi'] at a1
    by_cases e : i = j
    · rw [if_pos e] at a1
      injection a1 with a1; injection a1 with a1; injection a1 with a1
      subst a1
      rw [n0.2] at hg
      cases hg
    · rw [if_neg e] at a1 a2
      exact g4 j ⟨a1, y, a2⟩
  · rw [look_set hi, sig_set hi']
    by_cases e : i = j
    · rw [if_pos e, if_pos e]; exact ⟨q, rfl, n0, h⟩
    · rw [if_neg e, if_neg e]; exact R.slot j
  · obtain ⟨a1, y, a2⟩ := hj
    obtain ⟨b1, z, b2⟩ := hk
    rw [look_set hi] at a2 b2
    rw [sig_set hi'] at a1 b1
    by_cases e : i = j
    · by_cases e2 : i = k
      · rw [← e, ← e2]
      · rw [if_pos e] at a1
        rw [if_neg e2] at b1 b2
        injection a1 with a1; injection a1 with a1; injection a1 with a1
        subst a1
        exact (nh k ⟨b1, z, b2⟩).elim
    · rw [if_neg e] at a1 a2
      by_cases e2 : i = k
      · rw [if_pos e2] at b1
        injection b1 with b1; injection b1 with b1; injection b1 with b1
        subst b1
        exact (nh j ⟨a1, y, a2⟩).elim
      · rw [if_neg e2] at b1 b2
        exact R.apart j k p ⟨a1, y, a2⟩ ⟨b1, z, b2⟩
/-- the list of a slot gets another content -/
def recont (ρ : Rho) (i : Nat) (x : D) : Rho := match look ρ i with
  | .o _ => ρ.set i (.o x)
  | .io _ => ρ.set i (.io x)
  | _ => ρ
theorem cont_lt {i : Nat} {x : D} (h : cont (look ρ i) = some x) : i < ρ.length := by
  refine Nat.lt_of_not_le fun z => ?_
  unfold look at h
  rw [List.getElem?_eq_none z] at h
  cases h
theorem Rep.write (R : Rep C B F H σ ρ) {i : Nat} {q : Addr} {u : HO} {x : D} (h : Holds σ ρ i q) (ha : Held C F u x) : Rep C B F (upd H q u) σ (recont ρ i x) := by
  obtain ⟨y, hc, ho⟩ := R.own h
  have hi := cont_lt hc
  have nF := ho.1
  have new : Own C F (upd H q u) q x := ⟨nF, u, upd_same, ha⟩
  have s := R.slot i
  have others : ∀ j, j ≠ i → SlOk C B F (upd H q u) j σ[j]? (look ρ j) := fun j ne => by
    refine (R.slot j).mono (Same.refl _) fun p x e hc2 hp => hp.set fun z => ?_
    subst z
    exact ne (R.apart j i _ ⟨e, x, hc2⟩ h)
  have hH : Same F (upd H q u) := R.sub.own nF
  have live : ∀ p ∈ B.ps, upd H q u p ≠ none := fun p hp => by
    by_cases e : p = q
    · rw [e, upd_same]; exact fun z => by cases z
    · rw [upd_ne e]; exact R.live p hp
  have tup : ∀ a xs, upd H q u a = some xs → keptO xs = true → F a = some xs := fun a xs h' hu => by
    by_cases e : a = q
    · rw [e, upd_same] at h'
      injection h' with h'
      rcases ha with ⟨_, _, _, e2, _⟩ | ⟨_, _, _, e2, _⟩ <;> (rw [← h', e2] at hu; cases hu)
    · rw [upd_ne e] at h'; exact R.tup a xs h' hu
  have gen : ∀ s', (∀ z, cont (look ρ i) = some z → ∃ z', cont s' = some z') → isIo s' = isIo (look ρ i) → SlOk C B F (upd H q u) i σ[i]? s' → (∀ a, B.H0 a ≠ none → a ∉ B.ps → upd H q u a = B.H0 a) → Rep C B F (upd H q u) σ (ρ.set i s') := fun s' hs' his hok hk => by
    have back : ∀ j p, Holds σ (ρ.set i s') j p → Holds σ ρ j p := fun j p ⟨a1, u, a2⟩ => by
      rw [look_set hi] at a2
      by_cases e : i = j
      · subst e; exact ⟨a1, y, hc⟩
      · rw [if_neg e] at a2; exact ⟨a1, u, a2⟩
    refine ⟨hH, R.fr, hk, live, fun a u hg => ?_, fun j => by
      rw [look_set hi]
      by_cases e : i = j
      · subst e; rw [if_pos rfl, ← R.ioe i]; exact his
      · rw [if_neg e]; exact R.ioe j, tup, by rw [List.length_set]; exact R.len, fun j => ?_, fun j k p hj hk => ?_⟩
    · obtain ⟨g1, g2, g3, g4⟩ := R.gdk a u hg
      have ne : a ≠ q := fun z => by subst z; exact g4 i h
      exact ⟨by rw [upd_ne ne]; exact g1, g2, g3, fun j hj => g4 j (back j a hj)⟩
    · rw [look_set hi]
      by_cases e : i = j
      · subst e; rw [if_pos rfl]; exact hok
      · rw [if_neg e]; exact others j (Ne.symm e)
    · exact R.apart j k p (back j p hj) (back k p hk)
  unfold recont
  cases e : look ρ i with
  | un => rw [e] at hc; cases hc
  | d z => rw [e] at hc; cases hc
  | o z =>
    rw [e] at s
    obtain ⟨p, e1, n0, _⟩ := s
    have hq := h.1
    rw [e1] at hq
    injection hq with hq; injection hq with hq; injection hq with hq
    subst hq
    exact gen (.o x) (fun _ _ => ⟨_, rfl⟩) (by rw [e]; rfl) ⟨p, e1, n0, new⟩ fun a h1 h2 => by rw [upd_ne (fun z => h1 (by rw [z]; exact n0.1))]; exact R.hk a h1 h2
  | io z =>
    rw [e] at s
    obtain ⟨e1, n0, _⟩ := s
    have hq := h.1
    rw [e1] at hq
    injection hq with hq; injection hq with hq; injection hq with hq
    subst hq
    exact gen (.io x) (fun _ _ => ⟨_, rfl⟩) (by rw [e]; rfl) ⟨e1, n0, new⟩ fun a h1 h2 => by rw [upd_ne (fun z => h2 (by rw [z]; exact n0))]; exact R.hk a h1 h2
/-- a slot's own list is frozen -/
theorem Rep.ice (R : Rep C B F H σ ρ) {i : Nat} {x : D} (h : look ρ i = .o x) : ∃ F' v, Same F F' ∧ σ[i]? = some (some v) ∧ Dp C.K F' v x ∧ Rep C B F' H σ (ρ.set i (.d x)) := by
  have s := R.slot i
  rw [h] at s
  obtain ⟨q, e1, n0, nF, o, hq, ha⟩ := s
  have hi : i < ρ.length := cont_lt (x := x) (by rw [h]; rfl)
  have hme : Holds σ ρ i q := ⟨e1, _, by rw [h]; rfl⟩
  have sF : Same F (upd F q o) := sameUpd nF
  have dp : Dp C.K (upd F q o) (.ref q) x := (ha.same sF).dp upd_same
  refine ⟨_, .ref q, sF, e1, dp, ?_⟩
  have back : ∀ j p, Holds σ (ρ.set i (.d x)) j p → Holds σ ρ j p := fun j p ⟨a1, u, a2⟩ => by
    rw [look_set hi] at a2
    by_cases e : i = j
    · rw [if_pos e] at a2; cases a2
    · rw [if_neg e] at a2; exact ⟨a1, u, a2⟩
  refine ⟨fun b u e => ?_, fun a h => ?_, R.hk, R.live, fun a u hg => ?_, fun j => by
      rw [look_set hi]
      by_cases e : i = j
      · subst e; rw [if_pos rfl, ← R.ioe i]; exact by rw [h]; rfl
      · rw [if_neg e]; exact R.ioe j, fun a xs h' hu => ?_, by rw [List.length_set]; exact R.len, fun j => ?_, fun j k p hj hk => ?_⟩
  · by_cases z : b = q
    · subst z; rw [upd_same] at e; rw [hq]; exact e
    · rw [upd_ne z] at e; exact R.sub b u e
  · rw [upd_ne (fun e => h (by rw [e]; exact n0.1))]; exact R.fr a h
  · obtain ⟨g1, g2, g3, g4⟩ := R.gdk a u hg
    have ne : a ≠ q := fun z => by subst z; exact g4 i hme
    exact ⟨g1, by rw [upd_ne ne]; exact g2, g3, fun j hj => g4 j (back j a hj)⟩
  · by_cases e : a = q
    · rw [e] at h' ⊢; rw [upd_same, ← hq, h']
    · rw [upd_ne e]; exact R.tup a xs h' hu
  · rw [look_set hi]
    by_cases e : i = j
    · subst e; rw [if_pos rfl]; exact ⟨_, e1, dp⟩
    · rw [if_neg e]
      refine (R.slot j).mono sF fun p x e2 hc h => ?_
      have ne : p ≠ q := fun z => by subst z; exact e (R.apart i j p hme ⟨e2, x, hc⟩)
      exact h.same sF (by rw [upd_ne ne]; exact h.1)
  · exact R.apart j k p (back j p hj) (back k p hk)
end
end XD

set_option autoImplicit true
set_option Elab.async false
set_option linter.all false
set_option maxRecDepth 100000
set_option maxHeartbeats 1000000
set_option autoImplicit true
/-! the data layer: expressions -/
namespace XD
open PySem L2

/-! ### general lists under +, * and ==: any list that is read -/
section
variable {X : Cx}
def rCatG (K : PySem.W.Frag) : R2 := fun x y H Q => ∃ l b xs zs, x = .ref l ∧ y = .ref b ∧ SqL K H l xs ∧ SqL K H b zs ∧ xs.length + zs.length ≤ sizeLine ∧ ∀ p, H p = none → Q (.ref p) (upd H p (.lst (xs ++ zs)))
end

def Lk (C : Ct) (F H : Hp) (v : V) (x : D) : Prop := Dp C.K F v x ∨ ∃ p, v = .ref p ∧ Own C F H p x
def pk : Sl → Option D
  | .d x => some x
  | .o x => some x
  | .io x => some x
  | .un => none
section
variable {C : Ct} {B : Bs} {F H : Hp} {σ : St} {ρ : Rho} {v : V}
theorem Lk.lst {ds : List D} (h : Lk C F H v (.list ds)) (s : Same F H) : ∃ a xs, v = .ref a ∧ SqL C.K H a xs ∧ DpAll C.K F xs ds := by
  rcases h with h | ⟨p, rfl, _, o, h1, h2⟩
  · cases h with
    | lst h1 h2 => exact ⟨_, _, rfl, s.seq h1, h2⟩
  · rcases h2 with ⟨vs, ds', e, rfl, h⟩ | ⟨vs, ds', e, rfl, h⟩
    · injection e with e; subst e
      exact ⟨p, vs, rfl, .of h1, h⟩
    · cases e
theorem Lk.dct {ds : List (D × D)} (h : Lk C F H v (.dict ds)) (s : Same F H) : ∃ a xs, v = .ref a ∧ Rd H a (.dK xs) ∧ DpKv C.K F xs ds := by
  rcases h with h | ⟨p, rfl, _, o, h1, h2⟩
  · cases h with
    | dct h1 h2 => exact ⟨_, _, rfl, Rd.same s h1, h2⟩
  · rcases h2 with ⟨vs, ds', e, rfl, h⟩ | ⟨vs, ds', e, rfl, h⟩
    · cases e
    · injection e with e; subst e
      exact ⟨p, vs, rfl, .of h1, h⟩
theorem Held.no {o : HO} {x : D} (h : Held C F o x) : (∃ ds, x = .list ds) ∨ ∃ ds, x = .dict ds := by
  rcases h with ⟨vs, ds', e, rfl, h⟩ | ⟨vs, ds', e, rfl, h⟩
  · exact .inl ⟨_, e⟩
  · exact .inr ⟨_, e⟩
theorem Lk.dp {x : D} (h : Lk C F H v x) (n1 : ∀ ds, x ≠ .list ds) (n2 : ∀ ds, x ≠ .dict ds) : Dp C.K F v x := by
  rcases h with h | ⟨p, rfl, _, o, h1, h2⟩
  · exact h
  · rcases h2.no with ⟨_, e⟩ | ⟨_, e⟩
    · exact absurd e (n1 _)
    · exact absurd e (n2 _)
theorem Lk.tupD {ds : List D} (h : Lk C F H v (.tuple ds)) : Dp C.K F v (.tuple ds) := Lk.dp h (fun _ e => by cases e) fun _ e => by cases e
theorem Lk.tup {ds : List D} (h : Lk C F H v (.tuple ds)) : ∃ a xs, v = .ref a ∧ SqT C.K F a xs ∧ DpAll C.K F xs ds := by
  cases Lk.tupD h with
  | tup h1 h2 => exact ⟨_, _, rfl, h1, h2⟩
theorem Lk.int {i : Int} (h : Lk C F H v (.int i)) : v = .int i := by
  cases Lk.dp h (fun _ e => by cases e) fun _ e => by cases e
  rfl
theorem Lk.str {i : Str} (h : Lk C F H v (.str i)) : v = .str i := by
  cases Lk.dp h (fun _ e => by cases e) fun _ e => by cases e
  rfl
theorem Lk.bool {i : Bool} (h : Lk C F H v (.bool i)) : v = .bl i := by
  cases Lk.dp h (fun _ e => by cases e) fun _ e => by cases e
  rfl
theorem Lk.none (h : Lk C F H v .none) : v = .non := by
  cases Lk.dp h (fun _ e => by cases e) fun _ e => by cases e
  rfl
/-- as it stands in the heap -/
theorem Lk.here {x : D} (h : Lk C F H v x) (s : Same F H) : Dp C.K H v x := by
  rcases h with h | ⟨p, rfl, _, o, h1, h2⟩
  · exact h.same s
  · exact (h2.same s).dp h1
theorem DpAll.app {K : PySem.W.Frag} {H : Hp} : ∀ {xs ys : List V} {ds es : List D}, DpAll K H xs ds → DpAll K H ys es → DpAll K H (xs ++ ys) (ds ++ es)
  | _, _, _, _, .nil, h => h
  | _, _, _, _, .cons h1 h2, h => .cons h1 (DpAll.app h2 h)
theorem DpAll.at {K : PySem.W.Frag} {H : Hp} : ∀ {ds : List D} {vs : List V} {i : Nat} {d : D}, DpAll K H vs ds → ds[i]? = some d → ∃ v, vs[i]? = some v ∧ Dp K H v d
  | [], _, i, v, h, e => by simp at e
  | d :: ds, _, i, v, h, e => by
    cases h with
    | cons h1 h2 =>
      cases i with
      | zero => simp at e; subst e; exact ⟨_, rfl, h1⟩
      | succ i => simp at e; simpa using DpAll.at h2 e
theorem DpAll.set {K : PySem.W.Frag} {H : Hp} : ∀ {ds : List D} {vs : List V} {v : V} {d : D} (i : Nat), DpAll K H vs ds → Dp K H v d → DpAll K H (vs.set i v) (ds.set i d)
  | [], _, _, _, i, h, _ => by cases h; exact .nil
  | d :: ds, _, _, _, i, h, e => by
    cases h with
    | cons h1 h2 =>
      cases i with
      | zero => exact .cons e h2
      | succ i => exact .cons h1 (DpAll.set i h2 e)
theorem DpAll.take {K : PySem.W.Frag} {H : Hp} : ∀ {ds : List D} {vs : List V} (i : Nat), DpAll K H vs ds → DpAll K H (vs.take i) (ds.take i)
  | [], _, i, h => by cases h; simpa using DpAll.nil
  | d :: ds, _, i, h => by
    cases h with
    | cons h1 h2 =>
      cases i with
      | zero => exact .nil
      | succ i => exact .cons h1 (DpAll.take i h2)
theorem DpAll.drop {K : PySem.W.Frag} {H : Hp} : ∀ {ds : List D} {vs : List V} (i : Nat), DpAll K H vs ds → DpAll K H (vs.drop i) (ds.drop i)
  | [], _, i, h => by cases h; simpa using DpAll.nil
  | d :: ds, _, i, h => by
    cases h with
    | cons h1 h2 =>
      cases i with
      | zero => exact .cons h1 h2
      | succ i => exact DpAll.drop i h2
theorem DpAll.erase {K : PySem.W.Frag} {H : Hp} : ∀ {ds : List D} {vs : List V} (i : Nat), DpAll K H vs ds → DpAll K H (vs.eraseIdx i) (ds.eraseIdx i)
  | [], _, i, h => by cases h; exact .nil
  | d :: ds, _, i, h => by
    cases h with
    | cons h1 h2 =>
      cases i with
      | zero => exact h2
      | succ i => exact .cons h1 (DpAll.erase i h2)
theorem DpAll.rep {K : PySem.W.Frag} {H : Hp} {ds : List D} {vs : List V} (h : DpAll K H vs ds) : ∀ n : Nat, DpAll K H (List.replicate n vs).flatten (List.replicate n ds).flatten
  | 0 => .nil
  | n + 1 => by rw [List.replicate_succ, List.replicate_succ, List.flatten_cons, List.flatten_cons]; exact DpAll.app h (DpAll.rep h n)
theorem DpAll.dropLast {K : PySem.W.Frag} {H : Hp} {ds : List D} {vs : List V} (h : DpAll K H vs ds) : DpAll K H vs.dropLast ds.dropLast := by
  rw [List.dropLast_eq_take, List.dropLast_eq_take, DpAll.length h]
  exact DpAll.take _ h
theorem DpAll.rev {K : PySem.W.Frag} {H : Hp} : ∀ {ds : List D} {vs : List V}, DpAll K H vs ds → DpAll K H vs.reverse ds.reverse
  | [], _, h => by cases h; exact .nil
  | d :: ds, _, h => by
    cases h with
    | cons h1 h2 => rw [List.reverse_cons, List.reverse_cons]; exact DpAll.app (DpAll.rev h2) (.cons h1 .nil)
theorem DpAll.ints {K : PySem.W.Frag} {H : Hp} : ∀ {ns : List Int} {vs : List V}, DpAll K H vs (ns.map .int) → vs = ns.map V.int
  | [], _, h => by cases h; rfl
  | n :: ns, _, h => by
    cases h with
    | cons h1 h2 => cases h1; rw [DpAll.ints h2]; rfl
theorem DpAll.ofInts {K : PySem.W.Frag} {H : Hp} : ∀ (ns : List Int), DpAll K H (ns.map V.int) (ns.map .int)
  | [] => .nil
  | n :: ns => .cons (.int n) (DpAll.ofInts ns)
theorem DpAll.strs {K : PySem.W.Frag} {H : Hp} : ∀ {ns : List Str} {vs : List V}, DpAll K H vs (ns.map .str) → vs = ns.map V.str
  | [], _, h => by cases h; rfl
  | n :: ns, _, h => by
    cases h with
    | cons h1 h2 => cases h1; rw [DpAll.strs h2]; rfl
theorem DpAll.ofStrs {K : PySem.W.Frag} {H : Hp} : ∀ (ns : List Str), DpAll K H (ns.map V.str) (ns.map .str)
  | [] => .nil
  | n :: ns => .cons (.str n) (DpAll.ofStrs ns)
theorem DpAll.bools {K : PySem.W.Frag} {H : Hp} : ∀ {ns : List Bool} {vs : List V}, DpAll K H vs (ns.map .bool) → vs = ns.map V.bl
  | [], _, h => by cases h; rfl
  | n :: ns, _, h => by
    cases h with
    | cons h1 h2 => cases h1; rw [DpAll.bools h2]; rfl
/-- a new list or dict -/
theorem Rep.freshO (R : Rep C B F H σ ρ) {p : Addr} {o : HO} {x : D} (n : H p = none) (h : Held C F o x) :
    Rep C B F (upd H p o) σ ρ ∧ B.nw p ∧ (∀ i, ¬ Holds σ ρ i p) ∧ Own C F (upd H p o) p x := by
  obtain ⟨nF, n0, nh⟩ := R.free n
  exact ⟨R.newO n (by rcases h with ⟨_, _, _, e2, _⟩ | ⟨_, _, _, e2, _⟩ <;> (rw [e2]; rfl)), n0, nh, nF, o, upd_same, h⟩
theorem Rep.fresh (R : Rep C B F H σ ρ) {p : Addr} {vs : List V} {ds : List D} (n : H p = none) (h : DpAll C.K F vs ds) :
    Rep C B F (upd H p (.lst vs)) σ ρ ∧ B.nw p ∧ (∀ i, ¬ Holds σ ρ i p) ∧ Own C F (upd H p (.lst vs)) p (.list ds) := R.freshO n (.inl ⟨vs, ds, rfl, rfl, h⟩)
/-- the slot of a name -/
theorem Rep.peek (R : Rep C B F H σ ρ) {i : Nat} {x : D} (h : pk (look ρ i) = some x) : ∃ v, σ[i]? = some (some v) ∧ Lk C F H v x := by
  have s := R.slot i
  cases e : look ρ i with
  | un => rw [e] at h; cases h
  | d y =>
    rw [e] at h s
    injection h with h; subst h
    obtain ⟨v, e1, e2⟩ := s
    exact ⟨v, e1, .inl e2⟩
  | o y =>
    rw [e] at h s
    injection h with h; subst h
    obtain ⟨p, e1, _, e2⟩ := s
    exact ⟨_, e1, .inr ⟨p, rfl, e2⟩⟩
  | io y =>
    rw [e] at h s
    injection h with h; subst h
    obtain ⟨e1, _, e2⟩ := s
    exact ⟨_, e1, .inr ⟨_, rfl, e2⟩⟩
end

/-! ### expressions -/
abbrev DE := Rho → Res (D × Rho)
abbrev DT := Rho → Res (Bool × Rho)
abbrev DL := Rho → Res (List D × Rho)
def dC (x : D) : DE := fun ρ => .ok (x, ρ)
def dVar (i : Nat) : DE := fun ρ => match look ρ i with
  | .d x => .ok (x, ρ)
  | .o x => .ok (x, ρ.set i (.d x))
  | _ => .bad
/-- a name that is looked at -/
def dPk (i : Nat) : DE := fun ρ => match pk (look ρ i) with
  | some x => .ok (x, ρ)
  | none => .bad
def lift1 (f : Option D) (ρ : Rho) : Res (D × Rho) := match f with
  | some z => .ok (z, ρ)
  | none => .bad
def d1 (f : D → Option D) (a : DE) : DE := fun ρ => (a ρ).bind fun p => lift1 (f p.1) p.2
def d2 (f : D → D → Option D) (a b : DE) : DE := fun ρ => (a ρ).bind fun p => (b p.2).bind fun q => lift1 (f p.1 q.1) q.2
/-- the left side a name that is looked at when the right side is there -/
def look2 (f : D → D → Option D) (i : Nat) (q : D × Rho) : Res (D × Rho) := match pk (look q.2 i) with
  | some x => lift1 (f x q.1) q.2
  | none => .bad
def d2V (f : D → D → Option D) (i : Nat) (b : DE) : DE := fun ρ => match pk (look ρ i) with
  | some _ => (b ρ).bind (look2 f i)
  | none => .bad

def SimP (C : Ct) (W : WX) (t : TE) (d : DE) : Prop := ∀ B F H σ ρ Q, Rep C B F H σ ρ →
  (match d ρ with
    | .ok (x, ρ') => ∀ F' H' v, Same F F' → Rep C B F' H' σ ρ' → Lk C F' H' v x → Q v H'
    | .ex n fs ρ' => PostX C W B F n fs ρ' σ
    | .bad => False) → t σ H Q

section
variable {C : Ct} {W : WX}
theorem PostX.mono {B : Bs} {F F1 : Hp} {n : String} {fs : List (Str × D)} {ρ' : Rho} {σ : St} (h : PostX C W B F n fs ρ' σ) (s : Same F F1) : PostX C W B F1 n fs ρ' σ := fun F' H' d s' R x => h F' H' d (s.trans s') R x
theorem SimE.p {t : TE} {d : DE} (h : SimE C W t d) : SimP C W t d := fun B F H σ ρ Q R q => by
  refine h B F H σ ρ Q R ?_
  cases e : d ρ with
  | ok p => obtain ⟨x, ρ'⟩ := p; rw [e] at q; exact fun F' H' v s R' dp => q F' H' v s R' (.inl dp)
  | ex n fs ρ' => rw [e] at q; exact q
  | bad => rw [e] at q; exact q
theorem SimF.e {t : TE} {d : DE} (h : SimF C W t d) : SimE C W t d := fun B F H σ ρ Q R q => by
  refine h B F H σ ρ Q R ?_
  cases e : d ρ with
  | ok p =>
    obtain ⟨x, ρ'⟩ := p
    rw [e] at q
    intro F' H' p s R' n0 nh ho
    obtain ⟨nF, o, h1, h2⟩ := ho
    have sF : Same F' (upd F' p o) := sameUpd nF
    exact q _ H' _ (s.trans sF) (R'.freeze h1 nF n0 nh) ((h2.same sF).dp upd_same)
  | ex n fs ρ' => rw [e] at q; exact q
  | bad => rw [e] at q; exact q
theorem s_c {v : V} {x : D} (h : ∀ K H, Dp K H v x) : SimE C W (tC v) (dC x) := fun B F H σ ρ Q R q => q F H v (Same.refl _) R (h _ _)
theorem s_int {i : Int} : SimE C W (tC (.int i)) (dC (.int i)) := s_c fun _ _ => .int i
theorem s_str {i : Str} : SimE C W (tC (.str i)) (dC (.str i)) := s_c fun _ _ => .str i
theorem s_bl {i : Bool} : SimE C W (tC (.bl i)) (dC (.bool i)) := s_c fun _ _ => .bl i
theorem s_non : SimE C W (tC .non) (dC .none) := s_c fun _ _ => .non
theorem s_var {i : Nat} : SimE C W (tVar i) (dVar i) := fun B F H σ ρ Q R q => by
  unfold dVar at q
  have s := R.slot i
  cases e : look ρ i with
  | un => rw [e] at q; exact q.elim
  | io y => rw [e] at q; exact q.elim
  | d y =>
    rw [e] at q s
    obtain ⟨v, e1, e2⟩ := s
    exact ⟨v, e1, q F H v (Same.refl _) R e2⟩
  | o y =>
    rw [e] at q
    obtain ⟨F', v, s1, e1, dp, R'⟩ := R.ice e
    exact ⟨v, e1, q F' H v s1 R' dp⟩
theorem s_pk {i : Nat} : SimP C W (tVar i) (dPk i) := fun B F H σ ρ Q R q => by
  unfold dPk at q
  cases e : pk (look ρ i) with
  | none => rw [e] at q; exact q.elim
  | some x =>
    rw [e] at q
    obtain ⟨v, e1, e2⟩ := R.peek e
    exact ⟨v, e1, q F H v (Same.refl _) R e2⟩

/-- an operation on one value, on two, told by data -/
def O1 (C : Ct) (r : V → Hp → VK → Prop) (f : D → Option D) : Prop := ∀ B F H σ ρ x dx z (Q : VK), Rep C B F H σ ρ → Lk C F H x dx → f dx = some z → (∀ F' H' v, Same F F' → Rep C B F' H' σ ρ → Dp C.K F' v z → Q v H') → r x H Q
def O2 (C : Ct) (r : R2) (f : D → D → Option D) : Prop := ∀ B F H σ ρ x y dx dy z (Q : VK), Rep C B F H σ ρ → Lk C F H x dx → Lk C F H y dy → f dx dy = some z → (∀ F' H' v, Same F F' → Rep C B F' H' σ ρ → Dp C.K F' v z → Q v H') → r x y H Q
/-- .. with a new list -/
def O1F (C : Ct) (r : V → Hp → VK → Prop) (f : D → Option D) : Prop := ∀ B F H σ ρ x dx z (Q : VK), Rep C B F H σ ρ → Lk C F H x dx → f dx = some z →
  (∀ F' H' p, Same F F' → Rep C B F' H' σ ρ → B.nw p → (∀ i, ¬ Holds σ ρ i p) → Own C F' H' p z → Q (.ref p) H') → r x H Q
def O2F (C : Ct) (r : R2) (f : D → D → Option D) : Prop := ∀ B F H σ ρ x y dx dy z (Q : VK), Rep C B F H σ ρ → Lk C F H x dx → Lk C F H y dy → f dx dy = some z →
  (∀ F' H' p, Same F F' → Rep C B F' H' σ ρ → B.nw p → (∀ i, ¬ Holds σ ρ i p) → Own C F' H' p z → Q (.ref p) H') → r x y H Q

section
variable {ta tb : TE} {a b : DE} {r : R2} {r1 : V → Hp → VK → Prop} {f : D → D → Option D} {f1 : D → Option D} {i : Nat}
theorem lift_ok {o : Option D} {ρ ρ' : Rho} {z : D} (h : lift1 o ρ = .ok (z, ρ')) : o = some z ∧ ρ' = ρ := by
  cases o with
  | none => cases h
  | some y => injection h with h; injection h with h1 h2; subst h1; subst h2; exact ⟨rfl, rfl⟩
theorem s_un (ha : SimP C W ta a) (h : O1 C r1 f1) : SimE C W (fun σ H Q => ta σ H fun x H1 => r1 x H1 Q) (d1 f1 a) := fun B F H σ ρ Q R q => by
  refine ha B F H σ ρ _ R ?_
  unfold d1 at q
  cases e : a ρ with
  | ex n fs ρ' => rw [e] at q; exact q
  | bad => rw [e] at q; exact q
  | ok p =>
    obtain ⟨x, ρ1⟩ := p
    rw [e] at q
    intro F1 H1 v s1 R1 dp
    replace q : PostE C W B F σ (lift1 (f1 x) ρ1) Q := q
    cases e2 : f1 x with
    | none => rw [e2] at q; exact q.elim
    | some z =>
      rw [e2] at q
      exact h B F1 H1 σ ρ1 v x z Q R1 dp e2 fun F' H' v' s' R' dp' => q F' H' v' (s1.trans s') R' dp'
theorem s_unF (ha : SimP C W ta a) (h : O1F C r1 f1) : SimF C W (fun σ H Q => ta σ H fun x H1 => r1 x H1 Q) (d1 f1 a) := fun B F H σ ρ Q R q => by
  refine ha B F H σ ρ _ R ?_
  unfold d1 at q
  cases e : a ρ with
  | ex n fs ρ' => rw [e] at q; exact q
  | bad => rw [e] at q; exact q
  | ok p =>
    obtain ⟨x, ρ1⟩ := p
    rw [e] at q
    intro F1 H1 v s1 R1 dp
    replace q : PostF C W B F σ (lift1 (f1 x) ρ1) Q := q
    cases e2 : f1 x with
    | none => rw [e2] at q; exact q.elim
    | some z =>
      rw [e2] at q
      exact h B F1 H1 σ ρ1 v x z Q R1 dp e2 fun F' H' v' s' R' => q F' H' v' (s1.trans s') R'
/-- the left side data, then the right side looked at -/
theorem s_op (ha : SimE C W ta a) (hb : SimP C W tb b) (h : O2 C r f) : SimE C W (tOp r ta tb) (d2 f a b) := fun B F H σ ρ Q R q => by
  refine ha B F H σ ρ _ R ?_
  unfold d2 at q
  cases e : a ρ with
  | ex n fs ρ' => rw [e] at q; exact q
  | bad => rw [e] at q; exact q
  | ok p =>
    obtain ⟨x, ρ1⟩ := p
    rw [e] at q
    intro F1 H1 v s1 R1 dp
    replace q : PostE C W B F σ ((b ρ1).bind fun q => lift1 (f x q.1) q.2) Q := q
    refine hb B F1 H1 σ ρ1 _ R1 ?_
    cases e1 : b ρ1 with
    | ex n fs ρ' => rw [e1] at q; exact PostX.mono q s1
    | bad => rw [e1] at q; exact q
    | ok p2 =>
      obtain ⟨y, ρ2⟩ := p2
      rw [e1] at q
      intro F2 H2 w s2 R2 dp2
      replace q : PostE C W B F σ (lift1 (f x y) ρ2) Q := q
      cases e2 : f x y with
      | none => rw [e2] at q; exact q.elim
      | some z =>
        rw [e2] at q
        exact h B F2 H2 σ ρ2 v w x y z Q R2 (.inl (dp.same s2)) dp2 e2 fun F' H' v' s' R' dp' => q F' H' v' ((s1.trans s2).trans s') R' dp'
theorem s_opF (ha : SimE C W ta a) (hb : SimP C W tb b) (h : O2F C r f) : SimF C W (tOp r ta tb) (d2 f a b) := fun B F H σ ρ Q R q => by
  refine ha B F H σ ρ _ R ?_
  unfold d2 at q
  cases e : a ρ with
  | ex n fs ρ' => rw [e] at q; exact q
  | bad => rw [e] at q; exact q
  | ok p =>
    obtain ⟨x, ρ1⟩ := p
    rw [e] at q
    intro F1 H1 v s1 R1 dp
    replace q : PostF C W B F σ ((b ρ1).bind fun q => lift1 (f x q.1) q.2) Q := q
    refine hb B F1 H1 σ ρ1 _ R1 ?_
    cases e1 : b ρ1 with
    | ex n fs ρ' => rw [e1] at q; exact PostX.mono q s1
    | bad => rw [e1] at q; exact q
    | ok p2 =>
      obtain ⟨y, ρ2⟩ := p2
      rw [e1] at q
      intro F2 H2 w s2 R2 dp2
      replace q : PostF C W B F σ (lift1 (f x y) ρ2) Q := q
      cases e2 : f x y with
      | none => rw [e2] at q; exact q.elim
      | some z =>
        rw [e2] at q
        exact h B F2 H2 σ ρ2 v w x y z Q R2 (.inl (dp.same s2)) dp2 e2 fun F' H' v' s' R' => q F' H' v' ((s1.trans s2).trans s') R'
theorem s_opV (hb : SimE C W tb b) (h : O2 C r f) : SimE C W (tOp r (tVar i) tb) (d2V f i b) := fun B F H σ ρ Q R q => by
  unfold d2V at q
  cases e0 : pk (look ρ i) with
  | none => rw [e0] at q; exact q.elim
  | some x0 =>
    rw [e0] at q
    obtain ⟨v, hv, _⟩ := R.peek e0
    refine ⟨v, hv, hb B F H σ ρ _ R ?_⟩
    replace q : PostE C W B F σ ((b ρ).bind (look2 f i)) Q := q
    cases e : b ρ with
    | ex n fs ρ' => rw [e] at q; exact q
    | bad => rw [e] at q; exact q
    | ok p =>
      obtain ⟨y, ρ1⟩ := p
      rw [e] at q
      intro F1 H1 w s1 R1 dp
      replace q : PostE C W B F σ (look2 f i (y, ρ1)) Q := q
      unfold look2 at q
      cases e1 : pk (look ρ1 i) with
      | none => simp only [e1] at q; exact q.elim
      | some x =>
        simp only [e1] at q
        obtain ⟨v', hv', lk⟩ := R1.peek e1
        rw [hv] at hv'
        injection hv' with hv'; injection hv' with hv'; subst hv'
        cases e2 : f x y with
        | none => rw [e2] at q; exact q.elim
        | some z =>
          rw [e2] at q
          exact h B F1 H1 σ ρ1 v w x y z Q R1 lk (.inl dp) e2 fun F' H' v' s' R' dp' => q F' H' v' (s1.trans s') R' dp'
theorem s_opVF (hb : SimE C W tb b) (h : O2F C r f) : SimF C W (tOp r (tVar i) tb) (d2V f i b) := fun B F H σ ρ Q R q => by
  unfold d2V at q
  cases e0 : pk (look ρ i) with
  | none => rw [e0] at q; exact q.elim
  | some x0 =>
    rw [e0] at q
    obtain ⟨v, hv, _⟩ := R.peek e0
    refine ⟨v, hv, hb B F H σ ρ _ R ?_⟩
    replace q : PostF C W B F σ ((b ρ).bind (look2 f i)) Q := q
    cases e : b ρ with
    | ex n fs ρ' => rw [e] at q; exact q
    | bad => rw [e] at q; exact q
    | ok p =>
      obtain ⟨y, ρ1⟩ := p
      rw [e] at q
      intro F1 H1 w s1 R1 dp
      replace q : PostF C W B F σ (look2 f i (y, ρ1)) Q := q
      unfold look2 at q
      cases e1 : pk (look ρ1 i) with
      | none => simp only [e1] at q; exact q.elim
      | some x =>
        simp only [e1] at q
        obtain ⟨v', hv', lk⟩ := R1.peek e1
        rw [hv] at hv'
        injection hv' with hv'; injection hv' with hv'; subst hv'
        cases e2 : f x y with
        | none => rw [e2] at q; exact q.elim
        | some z =>
          rw [e2] at q
          exact h B F1 H1 σ ρ1 v w x y z Q R1 lk (.inl dp) e2 fun F' H' v' s' R' => q F' H' v' (s1.trans s') R'
end

/-! ### tests, and, or, not, if else -/
def dB (a : DE) : DT := fun ρ => (a ρ).bind fun p => match p.1 with
  | .bool b => .ok (b, p.2)
  | _ => .bad
def dNotT (a : DT) : DT := fun ρ => (a ρ).bind fun p => .ok (!p.1, p.2)
def dAndT (a b : DT) : DT := fun ρ => (a ρ).bind fun p => if p.1 = true then b p.2 else .ok (false, p.2)
def dOrT (a b : DT) : DT := fun ρ => (a ρ).bind fun p => if p.1 = true then .ok (true, p.2) else b p.2
def dOfT (a : DT) : DE := fun ρ => (a ρ).bind fun p => .ok (.bool p.1, p.2)
def dIfE (t : DT) (a b : DE) : DE := fun ρ => (t ρ).bind fun p => if p.1 = true then a p.2 else b p.2
def dAndE (a b : DE) : DE := fun ρ => (a ρ).bind fun p => match p.1 with
  | .bool c => if c = true then b p.2 else .ok (.bool false, p.2)
  | _ => .bad
def dOrE (a b : DE) : DE := fun ρ => (a ρ).bind fun p => match p.1 with
  | .bool c => if c = true then .ok (.bool true, p.2) else b p.2
  | _ => .bad
def notF : D → Option D
  | .bool b => some (.bool !b)
  | _ => none
section
variable {ta tb : TE} {a b : DE} {tt tu : TT} {t u : DT}
theorem PostE.mono {B : Bs} {F F1 : Hp} {σ : St} {r : Res (D × Rho)} {Q : VK} (h : PostE C W B F σ r Q) (s : Same F F1) : PostE C W B F1 σ r Q := by
  cases r with
  | ok p => obtain ⟨x, ρ'⟩ := p; exact fun F' H' v s' => h F' H' v (s.trans s')
  | ex n fs ρ' => exact PostX.mono h s
  | bad => exact h
theorem PostF.mono {B : Bs} {F F1 : Hp} {σ : St} {r : Res (D × Rho)} {Q : VK} (h : PostF C W B F σ r Q) (s : Same F F1) : PostF C W B F1 σ r Q := by
  cases r with
  | ok p => obtain ⟨x, ρ'⟩ := p; exact fun F' H' v s' => h F' H' v (s.trans s')
  | ex n fs ρ' => exact PostX.mono h s
  | bad => exact h
theorem PostT.mono {B : Bs} {F F1 : Hp} {σ : St} {r : Res (Bool × Rho)} {Q : Bool → Hp → Prop} (h : PostT C W B F σ r Q) (s : Same F F1) : PostT C W B F1 σ r Q := by
  cases r with
  | ok p => obtain ⟨x, ρ'⟩ := p; exact fun F' H' s' => h F' H' (s.trans s')
  | ex n fs ρ' => exact PostX.mono h s
  | bad => exact h
theorem PostL.mono {B : Bs} {F F1 : Hp} {σ : St} {r : Res (List D × Rho)} {Q : List V → Hp → Prop} (h : PostL C W B F σ r Q) (s : Same F F1) : PostL C W B F1 σ r Q := by
  cases r with
  | ok p => obtain ⟨x, ρ'⟩ := p; exact fun F' H' v s' => h F' H' v (s.trans s')
  | ex n fs ρ' => exact PostX.mono h s
  | bad => exact h
theorem PostS.mono {B : Bs} {F F1 : Hp} {r : Res Fl} {E : Ends} (h : PostS C W B F E r) (s : Same F F1) : PostS C W B F1 E r := by
  cases r with
  | ok p =>
    cases p with
    | nx ρ' => exact fun F' H' v s' => h F' H' v (s.trans s')
    | bk ρ' => exact fun F' H' v s' => h F' H' v (s.trans s')
    | ct ρ' => exact fun F' H' v s' => h F' H' v (s.trans s')
    | rt x ρ' => exact fun F' H' σ' v s' => h F' H' σ' v (s.trans s')
    | rf x ρ' => exact fun F' H' σ' v s' => h F' H' σ' v (s.trans s')
  | ex n fs ρ' => exact fun σ' => PostX.mono (h σ') s
  | bad => exact h
theorem dp_bool {K : PySem.W.Frag} {F : Hp} {v : V} {b : Bool} (h : Dp K F v (.bool b)) : v = .bl b := by cases h; rfl
theorem bool_of {x : D} {P : Prop} (h : (match x with | .bool b => True | _ => False)) : ∃ b, x = .bool b := by
  cases x with
  | bool b => exact ⟨b, rfl⟩
  | _ => exact h.elim
theorem s_b (ha : SimE C W ta a) : SimT C W (tTest ta) (dB a) := fun B F H σ ρ Q R q => by
  unfold dB at q
  refine ha B F H σ ρ _ R ?_
  cases e : a ρ with
  | ex n fs ρ' => rw [e] at q; exact q
  | bad => rw [e] at q; exact q
  | ok p =>
    obtain ⟨x, ρ1⟩ := p
    rw [e] at q
    cases x with
    | bool b => exact fun F' H' v s R' dp => ⟨b, dp_bool dp, q F' H' s R'⟩
    | _ => exact q.elim
theorem s_bB (ha : SimE C W ta a) : SimT C W (tB ta) (dB a) := s_b ha
theorem s_notT (h : SimT C W tt t) : SimT C W (tNot tt) (dNotT t) := fun B F H σ ρ Q R q => by
  unfold dNotT at q
  refine h B F H σ ρ _ R ?_
  cases e : t ρ with
  | ex n fs ρ' => rw [e] at q; exact q
  | bad => rw [e] at q; exact q
  | ok p => rw [e] at q; exact q
theorem s_andT (h : SimT C W tt t) (h2 : SimT C W tu u) : SimT C W (tAnd tt tu) (dAndT t u) := fun B F H σ ρ Q R q => by
  unfold dAndT at q
  refine h B F H σ ρ _ R ?_
  cases e : t ρ with
  | ex n fs ρ' => rw [e] at q; exact q
  | bad => rw [e] at q; exact q
  | ok p =>
    obtain ⟨c, ρ1⟩ := p
    rw [e] at q
    intro F1 H1 s1 R1
    cases c with
    | false => exact q F1 H1 s1 R1
    | true => exact h2 B F1 H1 σ ρ1 Q R1 (PostT.mono q s1)
theorem s_orT (h : SimT C W tt t) (h2 : SimT C W tu u) : SimT C W (tOr tt tu) (dOrT t u) := fun B F H σ ρ Q R q => by
  unfold dOrT at q
  refine h B F H σ ρ _ R ?_
  cases e : t ρ with
  | ex n fs ρ' => rw [e] at q; exact q
  | bad => rw [e] at q; exact q
  | ok p =>
    obtain ⟨c, ρ1⟩ := p
    rw [e] at q
    intro F1 H1 s1 R1
    cases c with
    | true => exact q F1 H1 s1 R1
    | false => exact h2 B F1 H1 σ ρ1 Q R1 (PostT.mono q s1)
theorem s_monoT (h : SimT C W tt t) : SimT C W (tMonoT tt) t := fun B F H σ ρ Q R q => ⟨Q, h B F H σ ρ Q R q, fun _ _ x => x⟩
theorem s_ifE (h : SimT C W tt t) (ha : SimE C W ta a) (hb : SimE C W tb b) : SimE C W (tIf tt ta tb) (dIfE t a b) := fun B F H σ ρ Q R q => by
  unfold dIfE at q
  refine h B F H σ ρ _ R ?_
  cases e : t ρ with
  | ex n fs ρ' => rw [e] at q; exact q
  | bad => rw [e] at q; exact q
  | ok p =>
    obtain ⟨c, ρ1⟩ := p
    rw [e] at q
    intro F1 H1 s1 R1
    cases c with
    | true => exact ha B F1 H1 σ ρ1 Q R1 (PostE.mono q s1)
    | false => exact hb B F1 H1 σ ρ1 Q R1 (PostE.mono q s1)
theorem s_ifF (h : SimT C W tt t) (ha : SimF C W ta a) (hb : SimF C W tb b) : SimF C W (tIf tt ta tb) (dIfE t a b) := fun B F H σ ρ Q R q => by
  unfold dIfE at q
  refine h B F H σ ρ _ R ?_
  cases e : t ρ with
  | ex n fs ρ' => rw [e] at q; exact q
  | bad => rw [e] at q; exact q
  | ok p =>
    obtain ⟨c, ρ1⟩ := p
    rw [e] at q
    intro F1 H1 s1 R1
    cases c with
    | true => exact ha B F1 H1 σ ρ1 Q R1 (PostF.mono q s1)
    | false => exact hb B F1 H1 σ ρ1 Q R1 (PostF.mono q s1)
theorem s_andE (ha : SimE C W ta a) (hb : SimE C W tb b) : SimE C W (tAndV ta tb) (dAndE a b) := fun B F H σ ρ Q R q => by
  unfold dAndE at q
  refine ha B F H σ ρ _ R ?_
  cases e : a ρ with
  | ex n fs ρ' => rw [e] at q; exact q
  | bad => rw [e] at q; exact q
  | ok p =>
    obtain ⟨x, ρ1⟩ := p
    rw [e] at q
    cases x with
    | bool c =>
      intro F1 H1 v s1 R1 dp
      refine ⟨c, dp_bool dp, ?_⟩
      cases c with
      | true => exact hb B F1 H1 σ ρ1 Q R1 (PostE.mono q s1)
      | false => exact q F1 H1 _ s1 R1 (.bl false)
    | _ => exact q.elim
theorem s_orE (ha : SimE C W ta a) (hb : SimE C W tb b) : SimE C W (tOrV ta tb) (dOrE a b) := fun B F H σ ρ Q R q => by
  unfold dOrE at q
  refine ha B F H σ ρ _ R ?_
  cases e : a ρ with
  | ex n fs ρ' => rw [e] at q; exact q
  | bad => rw [e] at q; exact q
  | ok p =>
    obtain ⟨x, ρ1⟩ := p
    rw [e] at q
    cases x with
    | bool c =>
      intro F1 H1 v s1 R1 dp
      refine ⟨c, dp_bool dp, ?_⟩
      cases c with
      | false => exact hb B F1 H1 σ ρ1 Q R1 (PostE.mono q s1)
      | true => exact q F1 H1 _ s1 R1 (.bl true)
    | _ => exact q.elim
theorem s_notE (ha : SimE C W ta a) : SimE C W (tNotV ta) (d1 notF a) := fun B F H σ ρ Q R q => by
  unfold d1 at q
  refine ha B F H σ ρ _ R ?_
  cases e : a ρ with
  | ex n fs ρ' => rw [e] at q; exact q
  | bad => rw [e] at q; exact q
  | ok p =>
    obtain ⟨x, ρ1⟩ := p
    rw [e] at q
    cases x with
    | bool c =>
      intro F1 H1 v s1 R1 dp
      exact ⟨c, dp_bool dp, q F1 H1 _ s1 R1 (.bl _)⟩
    | _ => exact q.elim
/-- a op1 b op2 c: the sides data -/
def dChain (f g : D → D → Option D) (a b c : DE) : DE := fun ρ => (a ρ).bind fun p => (b p.2).bind fun q => match f p.1 q.1 with
  | some (.bool k) => if k = true then (c q.2).bind fun r => lift1 (g q.1 r.1) r.2 else .ok (.bool false, q.2)
  | _ => .bad
theorem s_chain {r r' : R2} {tc : TE} {c : DE} {f g : D → D → Option D} (ha : SimE C W ta a) (hb : SimE C W tb b) (hc : SimE C W tc c) (h1 : O2 C r f) (h2 : O2 C r' g) : SimE C W (tChain r r' ta tb tc) (dChain f g a b c) := fun B F H σ ρ Q R q => by
  unfold dChain at q
  refine ha B F H σ ρ _ R ?_
  cases e : a ρ with
  | ex n fs ρ' => rw [e] at q; exact q
  | bad => rw [e] at q; exact q
  | ok p =>
    obtain ⟨x, ρ1⟩ := p
    rw [e] at q
    intro F1 H1 v s1 R1 dp
    refine hb B F1 H1 σ ρ1 _ R1 ?_
    replace q : PostE C W B F σ ((b ρ1).bind fun q => match f x q.1 with | some (.bool k) => if k = true then (c q.2).bind fun r => lift1 (g q.1 r.1) r.2 else .ok (.bool false, q.2) | _ => .bad) Q := q
    cases e1 : b ρ1 with
    | ex n fs ρ' => rw [e1] at q; exact PostX.mono q s1
    | bad => rw [e1] at q; exact q
    | ok p2 =>
      obtain ⟨y, ρ2⟩ := p2
      rw [e1] at q
      intro F2 H2 w s2 R2 dp2
      replace q : PostE C W B F σ (match f x y with | some (.bool k) => if k = true then (c ρ2).bind fun r => lift1 (g y r.1) r.2 else .ok (.bool false, ρ2) | _ => .bad) Q := q
      cases e2 : f x y with
      | none => rw [e2] at q; exact q.elim
      | some z =>
        rw [e2] at q
        cases z with
        | bool k =>
          refine h1 B F2 H2 σ ρ2 v w x y _ _ R2 (.inl (dp.same s2)) (.inl dp2) e2 fun F3 H3 v3 s3 R3 dp3 => ⟨k, dp_bool dp3, ?_⟩
          have s13 := (s1.trans s2).trans s3
          cases k with
          | false => exact q F3 H3 _ s13 R3 (.bl false)
          | true =>
            replace q : PostE C W B F σ ((c ρ2).bind fun r => lift1 (g y r.1) r.2) Q := q
            show tc σ H3 fun w' H4 => r' w w' H4 Q
            refine hc B F3 H3 σ ρ2 _ R3 ?_
            cases e3 : c ρ2 with
            | ex n fs ρ' => rw [e3] at q; exact PostX.mono q s13
            | bad => rw [e3] at q; exact q
            | ok p3 =>
              obtain ⟨z3, ρ3⟩ := p3
              rw [e3] at q
              intro F4 H4 w4 s4 R4 dp4
              replace q : PostE C W B F σ (lift1 (g y z3) ρ3) Q := q
              cases e4 : g y z3 with
              | none => rw [e4] at q; exact q.elim
              | some z4 =>
                rw [e4] at q
                exact h2 B F4 H4 σ ρ3 w w4 y z3 z4 Q R4 (.inl (dp2.same (s3.trans s4))) (.inl dp4) e4 fun F' H' v' s' R' dp' => q F' H' v' ((s13.trans s4).trans s') R' dp'
        | _ => exact q.elim

/-! ### displays -/
def dNil : DL := fun ρ => .ok ([], ρ)
def dCons (a : DE) (r : DL) : DL := fun ρ => (a ρ).bind fun p => (r p.2).bind fun q => .ok (p.1 :: q.1, q.2)
def seqF (f : List D → D) (xs : List D) : Option D := if xs.length ≤ sizeLine then some (f xs) else none
def dSeqOf (f : List D → D) (r : DL) : DE := fun ρ => (r ρ).bind fun p => lift1 (seqF f p.1) p.2
abbrev dTup (r : DL) : DE := dSeqOf .tuple r
abbrev dLst (r : DL) : DE := dSeqOf .list r
variable {tr : TA} {r : DL}
theorem s_nil : SimL C W tNil dNil := fun B F H σ ρ Q R q => q F H [] (Same.refl _) R .nil
theorem s_cons (ha : SimE C W ta a) (hr : SimL C W tr r) : SimL C W (tCons ta tr) (dCons a r) := fun B F H σ ρ Q R q => by
  unfold dCons at q
  refine ha B F H σ ρ _ R ?_
  cases e : a ρ with
  | ex n fs ρ' => rw [e] at q; exact q
  | bad => rw [e] at q; exact q
  | ok p =>
    obtain ⟨x, ρ1⟩ := p
    rw [e] at q
    intro F1 H1 v s1 R1 dp
    refine hr B F1 H1 σ ρ1 _ R1 ?_
    replace q : PostL C W B F σ ((r ρ1).bind fun q => .ok (x :: q.1, q.2)) Q := q
    cases e1 : r ρ1 with
    | ex n fs ρ' => rw [e1] at q; exact PostX.mono q s1
    | bad => rw [e1] at q; exact q
    | ok p2 =>
      obtain ⟨xs, ρ2⟩ := p2
      rw [e1] at q
      exact fun F2 H2 vs s2 R2 dps => q F2 H2 (v :: vs) (s1.trans s2) R2 (.cons (dp.same s2) dps)
theorem s_tup (hr : SimL C W tr r) : SimE C W (tTup tr) (dTup r) := fun B F H σ ρ Q R q => by
  unfold dTup dSeqOf at q
  refine hr B F H σ ρ _ R ?_
  cases e : r ρ with
  | ex n fs ρ' => rw [e] at q; exact q
  | bad => rw [e] at q; exact q
  | ok p =>
    obtain ⟨xs, ρ1⟩ := p
    rw [e] at q
    intro F1 H1 vs s1 R1 dp
    replace q : PostE C W B F σ (lift1 (seqF .tuple xs) ρ1) Q := q
    unfold seqF at q
    by_cases hl : xs.length ≤ sizeLine
    · rw [if_pos hl] at q
      refine ⟨by rw [DpAll.length dp]; exact hl, fun p hp => ?_⟩
      have sF := sameUpd (o := .tup vs) (R1.free hp).1
      exact q _ _ _ (s1.trans sF) (R1.new hp) (.tup (.of upd_same) (DpAll.same sF dp))
    · rw [if_neg hl] at q; exact q.elim
theorem s_lst (hr : SimL C W tr r) : SimF C W (tLst tr) (dLst r) := fun B F H σ ρ Q R q => by
  unfold dLst dSeqOf at q
  refine hr B F H σ ρ _ R ?_
  cases e : r ρ with
  | ex n fs ρ' => rw [e] at q; exact q
  | bad => rw [e] at q; exact q
  | ok p =>
    obtain ⟨xs, ρ1⟩ := p
    rw [e] at q
    intro F1 H1 vs s1 R1 dp
    replace q : PostF C W B F σ (lift1 (seqF .list xs) ρ1) Q := q
    unfold seqF at q
    by_cases hl : xs.length ≤ sizeLine
    · rw [if_pos hl] at q
      refine ⟨by rw [DpAll.length dp]; exact hl, fun p hp => ?_⟩
      obtain ⟨R2, n0, nh, ho⟩ := R1.fresh hp dp
      exact q _ _ _ s1 R2 n0 nh ho
    · rw [if_neg hl] at q; exact q.elim
end
end
end XD

set_option autoImplicit true
set_option Elab.async false
set_option linter.all false
set_option maxRecDepth 100000
set_option maxHeartbeats 1000000
set_option autoImplicit true
/-! the data layer: operations -/
namespace XD
open PySem L2
def onI (f : Int → Int → Option D) : D → D → Option D
  | .int i, .int j => f i j
  | _, _ => none
def gd (p : Prop) [Decidable p] (x : D) : Option D := if p then some x else none
theorem gd_some {p : Prop} [Decidable p] {x z : D} (h : gd p x = some z) : p ∧ z = x := by
  unfold gd at h
  by_cases hp : p
  · rw [if_pos hp] at h; injection h with h; exact ⟨hp, h.symm⟩
  · rw [if_neg hp] at h; cases h
theorem gd_ok {p : Prop} [Decidable p] {x : D} (h : p) : gd p x = some x := if_pos h
instance {i j : Int} : Decidable (CMul i j) := by unfold CMul; exact inferInstance
instance {i j : Int} : Decidable (CDiv i j) := by unfold CDiv; exact inferInstance
instance {i j : Int} : Decidable (CPow i j) := by unfold CPow; exact inferInstance
def fAdd := onI fun i j => some (.int (i + j))
def fSub := onI fun i j => some (.int (i - j))
def fMul := onI fun i j => gd (CMul i j) (.int (i * j))
def fMod := onI fun i j => gd (0 < j) (.int (i % j))
def fDiv := onI fun i j => gd (CDiv i j) (.int (i / j))
def fPow := onI fun i j => gd (CPow i j) (.int (i ^ j.toNat))
def fLt := onI fun i j => some (.bool (decide (i < j)))
def fLe := onI fun i j => some (.bool (decide (i ≤ j)))
def fGt := onI fun i j => some (.bool (decide (j < i)))
def fGe := onI fun i j => some (.bool (decide (j ≤ i)))
def fNeg : D → Option D
  | .int i => some (.int (-i))
  | _ => none
section
variable {C : Ct}
theorem onI_some {f : Int → Int → Option D} {x y z : D} (h : onI f x y = some z) : ∃ i j, x = .int i ∧ y = .int j ∧ f i j = some z := by
  unfold onI at h
  split at h
  · exact ⟨_, _, rfl, rfl, h⟩
  · cases h
theorem o_I0 {g : Int → Int → V} {f : Int → Int → Option D} (h : ∀ i j z, f i j = some z → ∀ K H, Dp K H (g i j) z) : O2 C (rI0 g) (onI f) := fun B F H σ ρ x y dx dy z Q R lx ly e q => by
  obtain ⟨i, j, rfl, rfl, e⟩ := onI_some e
  exact ⟨i, j, lx.int, ly.int, q F H _ (Same.refl _) R (h i j z e _ _)⟩
theorem o_I {c : Int → Int → Prop} [∀ i j, Decidable (c i j)] {g : Int → Int → V} {f : Int → Int → D} (h : ∀ i j K H, Dp K H (g i j) (f i j)) : O2 C (rI c g) (onI fun i j => gd (c i j) (f i j)) := fun B F H σ ρ x y dx dy z Q R lx ly e q => by
  obtain ⟨i, j, rfl, rfl, e⟩ := onI_some e
  obtain ⟨e1, rfl⟩ := gd_some e
  exact ⟨i, j, lx.int, ly.int, e1, q F H _ (Same.refl _) R (h i j _ _)⟩
theorem o_add : O2 C (rI0 fun i j => .int (i + j)) fAdd := o_I0 fun i j z e K H => by cases e; exact .int _
theorem o_sub : O2 C (rI0 fun i j => .int (i - j)) fSub := o_I0 fun i j z e K H => by cases e; exact .int _
theorem o_mul : O2 C (rI CMul fun i j => .int (i * j)) fMul := o_I fun i j K H => .int _
theorem o_mod : O2 C (rI (fun _ j => 0 < j) fun i j => .int (i % j)) fMod := o_I fun i j K H => .int _
theorem o_div : O2 C (rI CDiv fun i j => .int (i / j)) fDiv := o_I fun i j K H => .int _
theorem o_pow : O2 C (rI CPow fun i j => .int (i ^ j.toNat)) fPow := o_I fun i j K H => .int _
theorem o_lt : O2 C (rI0 fun i j => .bl (decide (i < j))) fLt := o_I0 fun i j z e K H => by cases e; exact .bl _
theorem o_le : O2 C (rI0 fun i j => .bl (decide (i ≤ j))) fLe := o_I0 fun i j z e K H => by cases e; exact .bl _
theorem o_gt : O2 C (rI0 fun i j => .bl (decide (j < i))) fGt := o_I0 fun i j z e K H => by cases e; exact .bl _
theorem o_ge : O2 C (rI0 fun i j => .bl (decide (j ≤ i))) fGe := o_I0 fun i j z e K H => by cases e; exact .bl _
theorem o_neg : O1 C (rU fun i => .int (-i)) fNeg := fun B F H σ ρ x dx z Q R lx e q => by
  unfold fNeg at e
  split at e
  · cases e; exact ⟨_, lx.int, q F H _ (Same.refl _) R (.int _)⟩
  · cases e

/-! == of scalars, of data, with None -/
def eqS : D → D → Option Bool
  | .int i, .int j => some (decide (i = j))
  | .str i, .str j => some (decide (i = j))
  | .bool i, .bool j => some (decide (i = j))
  | .none, .none => some true
  | .none, .int _ => some false
  | .int _, .none => some false
  | .none, .str _ => some false
  | .str _, .none => some false
  | .none, .bool _ => some false
  | .bool _, .none => some false
  | .int _, .str _ => some false
  | .str _, .int _ => some false
  | .bool _, .str _ => some false
  | .str _, .bool _ => some false
  | _, _ => none
def fEq (x y : D) : Option D := (eqS x y).map .bool
def fNe (x y : D) : Option D := (eqS x y).map fun b => .bool !b
theorem eqS_ok {F H : Hp} {x y : V} {dx dy : D} {b : Bool} (lx : Lk C F H x dx) (ly : Lk C F H y dy) (e : eqS dx dy = some b) : scal x y = true ∧ decide (x = y) = b := by
  unfold eqS at e
  split at e <;> cases e <;> (first
    | (rw [lx.int, ly.int]; exact ⟨rfl, by simp⟩)
    | (rw [lx.str, ly.str]; exact ⟨rfl, by simp⟩)
    | (rw [lx.bool, ly.bool]; exact ⟨rfl, by simp⟩)
    | (rw [lx.none, ly.none]; exact ⟨rfl, by simp⟩)
    | (rw [lx.none, ly.int]; exact ⟨rfl, by simp⟩)
    | (rw [lx.int, ly.none]; exact ⟨rfl, by simp⟩)
    | (rw [lx.none, ly.str]; exact ⟨rfl, by simp⟩)
    | (rw [lx.str, ly.none]; exact ⟨rfl, by simp⟩)
    | (rw [lx.none, ly.bool]; exact ⟨rfl, by simp⟩)
    | (rw [lx.bool, ly.none]; exact ⟨rfl, by simp⟩)
    | (rw [lx.int, ly.str]; exact ⟨rfl, by simp⟩)
    | (rw [lx.str, ly.int]; exact ⟨rfl, by simp⟩)
    | (rw [lx.bool, ly.str]; exact ⟨rfl, by simp⟩)
    | (rw [lx.str, ly.bool]; exact ⟨rfl, by simp⟩))
theorem o_eq : O2 C rEq fEq := fun B F H σ ρ x y dx dy z Q R lx ly e q => by
  unfold fEq at e
  obtain ⟨b, e1, rfl⟩ := Option.map_eq_some_iff.mp e
  obtain ⟨h1, h2⟩ := eqS_ok lx ly e1
  exact ⟨h1, by rw [h2]; exact q F H _ (Same.refl _) R (.bl _)⟩
theorem o_ne : O2 C rNe fNe := fun B F H σ ρ x y dx dy z Q R lx ly e q => by
  unfold fNe at e
  obtain ⟨b, e1, rfl⟩ := Option.map_eq_some_iff.mp e
  obtain ⟨h1, h2⟩ := eqS_ok lx ly e1
  exact ⟨h1, by rw [h2]; exact q F H _ (Same.refl _) R (.bl _)⟩
def shp (x y : D) : Prop := SeqAt.shaped x = true ∧ SeqAt.shaped y = true
instance {x y : D} : Decidable (shp x y) := by unfold shp; exact inferInstance
def fEqD (x y : D) : Option D := gd (shp x y) (.bool (PyData.eqv x y))
def fNeD (x y : D) : Option D := gd (shp x y) (.bool (!PyData.eqv x y))
theorem o_eqD : O2 C (rEqD C.K) fEqD := fun B F H σ ρ x y dx dy z Q R lx ly e q => by
  obtain ⟨e1, rfl⟩ := gd_some e
  exact ⟨dx, dy, (lx.here R.sub).lib (SeqAt.canLay_of_shaped e1.1), (ly.here R.sub).lib (SeqAt.canLay_of_shaped e1.2), e1.1, e1.2, q F H _ (Same.refl _) R (.bl _)⟩
theorem o_neD : O2 C (rNeD C.K) fNeD := fun B F H σ ρ x y dx dy z Q R lx ly e q => by
  obtain ⟨e1, rfl⟩ := gd_some e
  exact ⟨dx, dy, (lx.here R.sub).lib (SeqAt.canLay_of_shaped e1.1), (ly.here R.sub).lib (SeqAt.canLay_of_shaped e1.2), e1.1, e1.2, q F H _ (Same.refl _) R (.bl _)⟩
def isN : D → Bool
  | .none => true
  | _ => false
def fIsN : D → Option D := fun x => some (.bool (isN x))
def fNotN : D → Option D := fun x => some (.bool (!isN x))
def fIsN2 : D → D → Option D
  | x, .none => some (.bool (isN x))
  | _, _ => none
def fNotN2 : D → D → Option D
  | x, .none => some (.bool (!isN x))
  | _, _ => none
theorem isN_ok {F H : Hp} {x : V} {dx : D} (lx : Lk C F H x dx) : decide (x = .non) = isN dx := by
  rcases lx with h | ⟨p, rfl, _, o, h1, h2⟩
  · cases h <;> simp [isN]
  · rcases h2.no with ⟨_, rfl⟩ | ⟨_, rfl⟩ <;> simp [isN]
theorem o_isN : O2 C (fun x y H Q => y = .non ∧ Q (.bl (decide (x = .non))) H) fIsN2 := fun B F H σ ρ x y dx dy z Q R lx ly e q => by
  unfold fIsN2 at e
  split at e
  · cases e; exact ⟨ly.none, by rw [isN_ok lx]; exact q F H _ (Same.refl _) R (.bl _)⟩
  · cases e
theorem o_notN : O2 C (fun x y H Q => y = .non ∧ Q (.bl (!decide (x = .non))) H) fNotN2 := fun B F H σ ρ x y dx dy z Q R lx ly e q => by
  unfold fNotN2 at e
  split at e
  · cases e; exact ⟨ly.none, by rw [isN_ok lx]; exact q F H _ (Same.refl _) R (.bl _)⟩
  · cases e
/-! [] and () on the right -/
def fEqNil : D → D → Option D
  | .list xs, .list [] => some (.bool xs.isEmpty)
  | _, _ => none
def fNeNil : D → D → Option D
  | .list xs, .list [] => some (.bool !xs.isEmpty)
  | _, _ => none
def fEqNilT : D → D → Option D
  | .tuple xs, .tuple [] => some (.bool xs.isEmpty)
  | _, _ => none
def fNeNilT : D → D → Option D
  | .tuple xs, .tuple [] => some (.bool !xs.isEmpty)
  | _, _ => none
theorem DpAll.emp {K : PySem.W.Frag} {H : Hp} {vs : List V} {ds : List D} (h : DpAll K H vs ds) : vs.isEmpty = ds.isEmpty := by cases h <;> rfl
theorem o_eqNil : O2 C (rEqNil C.K) fEqNil := fun B F H σ ρ x y dx dy z Q R lx ly e q => by
  unfold fEqNil at e
  split at e
  · cases e
    obtain ⟨a, xs, rfl, h1, h2⟩ := lx.lst R.sub
    obtain ⟨b, ys, rfl, h3, h4⟩ := ly.lst R.sub
    cases h4
    exact ⟨a, b, xs, rfl, rfl, h1, h3, by rw [DpAll.emp h2]; exact q F H _ (Same.refl _) R (.bl _)⟩
  · cases e
theorem o_neNil : O2 C (rNeNil C.K) fNeNil := fun B F H σ ρ x y dx dy z Q R lx ly e q => by
  unfold fNeNil at e
  split at e
  · cases e
    obtain ⟨a, xs, rfl, h1, h2⟩ := lx.lst R.sub
    obtain ⟨b, ys, rfl, h3, h4⟩ := ly.lst R.sub
    cases h4
    exact ⟨a, b, xs, rfl, rfl, h1, h3, by rw [DpAll.emp h2]; exact q F H _ (Same.refl _) R (.bl _)⟩
  · cases e
theorem o_eqNilT : O2 C (rEqNilT C.K) fEqNilT := fun B F H σ ρ x y dx dy z Q R lx ly e q => by
  unfold fEqNilT at e
  split at e
  · cases e
    obtain ⟨a, xs, rfl, h1, h2⟩ := lx.tup
    obtain ⟨b, ys, rfl, h3, h4⟩ := ly.tup
    cases h4
    exact ⟨a, b, xs, rfl, rfl, SqT.same R.sub h1, SqT.same R.sub h3, by rw [DpAll.emp h2]; exact q F H _ (Same.refl _) R (.bl _)⟩
  · cases e
theorem o_neNilT : O2 C (rNeNilT C.K) fNeNilT := fun B F H σ ρ x y dx dy z Q R lx ly e q => by
  unfold fNeNilT at e
  split at e
  · cases e
    obtain ⟨a, xs, rfl, h1, h2⟩ := lx.tup
    obtain ⟨b, ys, rfl, h3, h4⟩ := ly.tup
    cases h4
    exact ⟨a, b, xs, rfl, rfl, SqT.same R.sub h1, SqT.same R.sub h3, by rw [DpAll.emp h2]; exact q F H _ (Same.refl _) R (.bl _)⟩
  · cases e
/-! in, of flat items; of data -/
def flatD : D → Bool
  | .none => true
  | .bool _ => true
  | .int _ => true
  | .str _ => true
  | _ => false
def itemsD : D → Option (List D)
  | .list xs => some xs
  | .tuple xs => some xs
  | _ => none
def inF (neg : Bool) (x y : D) : Option D := match itemsD y with
  | some ys => gd (flatD x = true ∧ ys.all flatD = true) (.bool (if neg then !(ys.any fun y => PyData.eqv y x) else ys.any fun y => PyData.eqv y x))
  | none => none
theorem flat_ok {K : PySem.W.Frag} {F : Hp} {x : V} {dx : D} (h : Dp K F x dx) (f : flatD dx = true) : flatV x = true := by
  cases h <;> first | rfl | cases f
theorem eqv_flat {K : PySem.W.Frag} {F : Hp} {x y : V} {dx dy : D} (hx : Dp K F x dx) (hy : Dp K F y dy) (fx : flatD dx = true) (fy : flatD dy = true) : eqV x y = PyData.eqv dx dy := by
  cases hx <;> (try cases fx) <;> cases hy <;> (try cases fy) <;> first | rfl | (simp only [eqV, PyData.eqv]; try rfl)
theorem in_ok {K : PySem.W.Frag} {F : Hp} {x : V} {dx : D} (hx : Dp K F x dx) (fx : flatD dx = true) : ∀ {vs : List V} {ds : List D}, DpAll K F vs ds → ds.all flatD = true → vs.all flatV = true ∧ inV x vs = ds.any fun y => PyData.eqv y dx
  | _, _, .nil, _ => ⟨rfl, rfl⟩
  | v :: vs, d :: ds, .cons h1 h2, f => by
    rw [List.all_cons, Bool.and_eq_true] at f
    obtain ⟨i1, i2⟩ := in_ok hx fx h2 f.2
    refine ⟨by rw [List.all_cons, flat_ok h1 f.1, i1]; rfl, ?_⟩
    unfold inV at i2 ⊢
    rw [List.any_cons, List.any_cons, i2, eqv_flat h1 hx f.1 fx]
theorem Lk.flat {F H : Hp} {x : V} {dx : D} (lx : Lk C F H x dx) (f : flatD dx = true) : Dp C.K F x dx := by
  exact Lk.dp lx (fun _ e => by subst e; cases f) fun _ e => by subst e; cases f
theorem o_in (neg : Bool) : O2 C (rIn C.K neg) (inF neg) := fun B F H σ ρ x y dx dy z Q R lx ly e q => by
  unfold inF at e
  cases hi : itemsD dy with
  | none => rw [hi] at e; cases e
  | some ys =>
    rw [hi] at e
    obtain ⟨⟨f1, f2⟩, rfl⟩ := gd_some e
    have hx := lx.flat f1
    have fx := flat_ok hx f1
    unfold itemsD at hi
    split at hi
    · injection hi with hi; subst hi
      obtain ⟨b, vs, rfl, h3, h4⟩ := ly.lst R.sub
      obtain ⟨g1, g2⟩ := in_ok hx f1 h4 f2
      refine ⟨b, vs, rfl, .inl h3, fx, g1, ?_⟩
      rw [g2]
      exact q F H _ (Same.refl _) R (.bl _)
    · injection hi with hi; subst hi
      obtain ⟨b, vs, rfl, h3, h4⟩ := ly.tup
      obtain ⟨g1, g2⟩ := in_ok hx f1 h4 f2
      refine ⟨b, vs, rfl, .inr (SqT.same R.sub h3), fx, g1, ?_⟩
      rw [g2]
      exact q F H _ (Same.refl _) R (.bl _)
    · cases hi
/-- in a list of any data -/
def inFD (neg : Bool) (x : D) : D → Option D
  | .list ys => gd (SeqAt.shaped x = true ∧ SeqAt.shaped (.list ys) = true) (.bool (if neg then !(ys.any fun y => PyData.eqv y x) else ys.any fun y => PyData.eqv y x))
  | _ => none
theorem o_inD : O2 C (rInD C.K) (inFD false) := fun B F H σ ρ x y dx dy z Q R lx ly e q => by
  unfold inFD at e
  split at e
  · obtain ⟨⟨f1, f2⟩, rfl⟩ := gd_some e
    exact ⟨dx, _, (lx.here R.sub).lib (SeqAt.canLay_of_shaped f1), (ly.here R.sub).lib (SeqAt.canLay_of_shaped f2), f1, f2, q F H _ (Same.refl _) R (.bl _)⟩
  · cases e
theorem o_notInD : O2 C (rNotInD C.K) (inFD true) := fun B F H σ ρ x y dx dy z Q R lx ly e q => by
  unfold inFD at e
  split at e
  · obtain ⟨⟨f1, f2⟩, rfl⟩ := gd_some e
    exact ⟨dx, _, (lx.here R.sub).lib (SeqAt.canLay_of_shaped f1), (ly.here R.sub).lib (SeqAt.canLay_of_shaped f2), f1, f2, q F H _ (Same.refl _) R (.bl _)⟩
  · cases e

/-! ### indexes, slices -/
def ixF : D → D → Option D
  | .list xs, .int i => atI xs i
  | .tuple xs, .int i => atI xs i
  | _, _ => none
theorem DpAll.atI {K : PySem.W.Frag} {H : Hp} {ds : List D} {vs : List V} {d : D} {i : Int} (h : DpAll K H vs ds) (e : L2.atI ds i = some d) : ∃ v, L2.atI vs i = some v ∧ Dp K H v d := by
  unfold L2.atI at e ⊢
  rw [DpAll.length h]
  cases hj : ixN ds.length i with
  | none => rw [hj] at e; cases e
  | some j =>
    rw [hj] at e
    obtain ⟨v, h1, h2⟩ := DpAll.at h e
    exact ⟨v, h1, h2⟩
theorem o_ixL : O2 C (rIxL C.K) (fun x y => match x, y with | .list xs, .int i => atI xs i | _, _ => none) := fun B F H σ ρ x y dx dy z Q R lx ly e q => by
  dsimp only at e
  split at e
  · obtain ⟨a, xs, rfl, h1, h2⟩ := lx.lst R.sub
    obtain ⟨v, h3, h4⟩ := DpAll.atI h2 e
    exact ⟨a, xs, _, v, rfl, ly.int, h1, h3, q F H _ (Same.refl _) R h4⟩
  · cases e
theorem o_ixT : O2 C (rIxT C.K) (fun x y => match x, y with | .tuple xs, .int i => atI xs i | _, _ => none) := fun B F H σ ρ x y dx dy z Q R lx ly e q => by
  dsimp only at e
  split at e
  · obtain ⟨a, xs, rfl, h1, h2⟩ := lx.tup
    obtain ⟨v, h3, h4⟩ := DpAll.atI h2 e
    exact ⟨a, xs, _, v, rfl, ly.int, SqT.same R.sub h1, h3, q F H _ (Same.refl _) R h4⟩
  · cases e
/-- of any of both -/
theorem o_ix : O2 C (rIx C.K) ixF := fun B F H σ ρ x y dx dy z Q R lx ly e q => by
  unfold ixF at e
  split at e
  · exact .inl (o_ixL B F H σ ρ x y _ _ z Q R lx ly e q)
  · exact .inr (.inl (o_ixT B F H σ ρ x y _ _ z Q R lx ly e q))
  · cases e
def ixS : D → D → Option D
  | .str s, .int i => if s.length ≤ sizeLine then (atI s.cps.toList i).map fun c => .str ⟨#[c]⟩ else none
  | _, _ => none
theorem o_ixS : O2 C rIxS ixS := fun B F H σ ρ x y dx dy z Q R lx ly e q => by
  unfold ixS at e
  split at e
  · rename_i s i
    by_cases hl : s.length ≤ sizeLine
    · rw [if_pos hl] at e
      obtain ⟨c, e1, rfl⟩ := Option.map_eq_some_iff.mp e
      exact ⟨s, i, c, lx.str, ly.int, hl, e1, q F H _ (Same.refl _) R (.str _)⟩
    · rw [if_neg hl] at e; cases e
  · cases e
/-! slices -/
def cutD (xs : List D) (lo hi : Option Int) : List D := (xs.drop (HT.sIx xs.length 0 lo)).take (HT.sIx xs.length xs.length hi - HT.sIx xs.length 0 lo)
theorem DpAll.cut {K : PySem.W.Frag} {H : Hp} {ds : List D} {vs : List V} (h : DpAll K H vs ds) (lo hi : Option Int) : DpAll K H (cutV vs lo hi) (cutD ds lo hi) := by
  unfold cutV cutD
  rw [DpAll.length h]
  exact DpAll.take _ (DpAll.drop _ h)
end

/-! a slice's bounds -/
abbrev DO := Rho → Res (Option Int × Rho)
def PostO (C : Ct) (W : WX) (B : Bs) (F : Hp) (σ : St) : Res (Option Int × Rho) → (Option Int → Hp → Prop) → Prop
  | .ok (b, ρ'), Q => ∀ F' H', Same F F' → Rep C B F' H' σ ρ' → Q b H'
  | .ex n fs ρ', _ => PostX C W B F n fs ρ' σ
  | .bad, _ => False
def SimO (C : Ct) (W : WX) (t : TO) (d : DO) : Prop := ∀ B F H σ ρ Q, Rep C B F H σ ρ → PostO C W B F σ (d ρ) Q → t σ H Q
def dNo : DO := fun ρ => .ok (none, ρ)
def dPart (a : DE) : DO := fun ρ => (a ρ).bind fun p => match p.1 with
  | .int i => .ok (some i, p.2)
  | _ => .bad
section
variable {C : Ct} {W : WX} {ta : TE} {a : DE} {tl th : TO} {l h : DO}
theorem s_no : SimO C W tNoPart dNo := fun B F H σ ρ Q R q => q F H (Same.refl _) R
theorem s_part (ha : SimE C W ta a) : SimO C W (tPart ta) (dPart a) := fun B F H σ ρ Q R q => by
  unfold dPart at q
  refine ha B F H σ ρ _ R ?_
  cases e : a ρ with
  | ex n fs ρ' => rw [e] at q; exact q
  | bad => rw [e] at q; exact q
  | ok p =>
    obtain ⟨x, ρ1⟩ := p
    rw [e] at q
    cases x with
    | int i => exact fun F1 H1 v s1 R1 dp => ⟨i, by cases dp; rfl, q F1 H1 s1 R1⟩
    | _ => exact q.elim
/-- a[l:h], a data or looked at -/
def dSlc (f : D → Option Int → Option Int → Option D) (a : DE) (l h : DO) : DE := fun ρ => (a ρ).bind fun p => (l p.2).bind fun q => (h q.2).bind fun r => lift1 (f p.1 q.1 r.1) r.2
def slL : D → Option Int → Option Int → Option D
  | .list xs, lo, hi => some (.list (cutD xs lo hi))
  | _, _, _ => none
def slT : D → Option Int → Option Int → Option D
  | .tuple xs, lo, hi => some (.tuple (cutD xs lo hi))
  | _, _, _ => none
def slS : D → Option Int → Option Int → Option D
  | .str x, lo, hi => if x.length ≤ sizeLine then some (.str (cutS x lo hi)) else none
  | _, _, _ => none
def OS (C : Ct) (r : V → Option Int → Option Int → Hp → VK → Prop) (f : D → Option Int → Option Int → Option D) : Prop := ∀ B F H σ ρ x dx lo hi z (Q : VK), Rep C B F H σ ρ → Lk C F H x dx → f dx lo hi = some z →
  (∀ F' H' v, Same F F' → Rep C B F' H' σ ρ → Dp C.K F' v z → Q v H') → r x lo hi H Q
def OSF (C : Ct) (r : V → Option Int → Option Int → Hp → VK → Prop) (f : D → Option Int → Option Int → Option D) : Prop := ∀ B F H σ ρ x dx lo hi z (Q : VK), Rep C B F H σ ρ → Lk C F H x dx → f dx lo hi = some z →
  (∀ F' H' p, Same F F' → Rep C B F' H' σ ρ → B.nw p → (∀ i, ¬ Holds σ ρ i p) → Own C F' H' p z → Q (.ref p) H') → r x lo hi H Q
theorem o_slL : OSF C (rSlL C.K) slL := fun B F H σ ρ x dx lo hi z Q R lx e q => by
  unfold slL at e
  split at e
  · cases e
    obtain ⟨a, xs, rfl, h1, h2⟩ := lx.lst R.sub
    refine ⟨a, xs, rfl, h1, fun p hp => ?_⟩
    obtain ⟨R2, n0, nh, ho⟩ := R.fresh hp (DpAll.cut h2 lo hi)
    exact q _ _ _ (Same.refl _) R2 n0 nh ho
  · cases e
theorem o_slS : OS C rSlS slS := fun B F H σ ρ x dx lo hi z Q R lx e q => by
  cases dx with
  | str s =>
    replace e : (if s.length ≤ sizeLine then some (PyData.str (cutS s lo hi)) else none) = some z := e
    by_cases hl : s.length ≤ sizeLine
    · rw [if_pos hl] at e
      cases e
      exact ⟨s, lx.str, hl, q F H _ (Same.refl _) R (.str _)⟩
    · rw [if_neg hl] at e; cases e
  | _ => cases e
variable {r : V → Option Int → Option Int → Hp → VK → Prop} {f : D → Option Int → Option Int → Option D} {i : Nat}
theorem s_slc (ha : SimE C W ta a) (hl : SimO C W tl l) (hh : SimO C W th h) (ho : OS C r f) : SimE C W (tSl r ta tl th) (dSlc f a l h) := fun B F H σ ρ Q R q => by
  refine ha B F H σ ρ _ R ?_
  unfold dSlc at q
  cases e : a ρ with
  | ex n fs ρ' => rw [e] at q; exact q
  | bad => rw [e] at q; exact q
  | ok p =>
    obtain ⟨x, ρ1⟩ := p
    rw [e] at q
    intro F1 H1 v s1 R1 dp
    replace q : PostE C W B F σ ((l ρ1).bind fun q => (h q.2).bind fun r => lift1 (f x q.1 r.1) r.2) Q := q
    refine hl B F1 H1 σ ρ1 _ R1 ?_
    cases e1 : l ρ1 with
    | ex n fs ρ' => rw [e1] at q; exact PostX.mono q s1
    | bad => rw [e1] at q; exact q
    | ok p2 =>
      obtain ⟨lo, ρ2⟩ := p2
      rw [e1] at q
      intro F2 H2 s2 R2
      replace q : PostE C W B F σ ((h ρ2).bind fun r => lift1 (f x lo r.1) r.2) Q := q
      refine hh B F2 H2 σ ρ2 _ R2 ?_
      cases e2 : h ρ2 with
      | ex n fs ρ' => rw [e2] at q; exact PostX.mono q (s1.trans s2)
      | bad => rw [e2] at q; exact q
      | ok p3 =>
        obtain ⟨hi, ρ3⟩ := p3
        rw [e2] at q
        intro F3 H3 s3 R3
        replace q : PostE C W B F σ (lift1 (f x lo hi) ρ3) Q := q
        cases e3 : f x lo hi with
        | none => rw [e3] at q; exact q.elim
        | some z =>
          rw [e3] at q
          exact ho B F3 H3 σ ρ3 v x lo hi z Q R3 (.inl (dp.same (s2.trans s3))) e3 fun F' H' v' s' R' dp' => q F' H' v' (((s1.trans s2).trans s3).trans s') R' dp'
theorem s_slcF (ha : SimE C W ta a) (hl : SimO C W tl l) (hh : SimO C W th h) (ho : OSF C r f) : SimF C W (tSl r ta tl th) (dSlc f a l h) := fun B F H σ ρ Q R q => by
  refine ha B F H σ ρ _ R ?_
  unfold dSlc at q
  cases e : a ρ with
  | ex n fs ρ' => rw [e] at q; exact q
  | bad => rw [e] at q; exact q
  | ok p =>
    obtain ⟨x, ρ1⟩ := p
    rw [e] at q
    intro F1 H1 v s1 R1 dp
    replace q : PostF C W B F σ ((l ρ1).bind fun q => (h q.2).bind fun r => lift1 (f x q.1 r.1) r.2) Q := q
    refine hl B F1 H1 σ ρ1 _ R1 ?_
    cases e1 : l ρ1 with
    | ex n fs ρ' => rw [e1] at q; exact PostX.mono q s1
    | bad => rw [e1] at q; exact q
    | ok p2 =>
      obtain ⟨lo, ρ2⟩ := p2
      rw [e1] at q
      intro F2 H2 s2 R2
      replace q : PostF C W B F σ ((h ρ2).bind fun r => lift1 (f x lo r.1) r.2) Q := q
      refine hh B F2 H2 σ ρ2 _ R2 ?_
      cases e2 : h ρ2 with
      | ex n fs ρ' => rw [e2] at q; exact PostX.mono q (s1.trans s2)
      | bad => rw [e2] at q; exact q
      | ok p3 =>
        obtain ⟨hi, ρ3⟩ := p3
        rw [e2] at q
        intro F3 H3 s3 R3
        replace q : PostF C W B F σ (lift1 (f x lo hi) ρ3) Q := q
        cases e3 : f x lo hi with
        | none => rw [e3] at q; exact q.elim
        | some z =>
          rw [e3] at q
          exact ho B F3 H3 σ ρ3 v x lo hi z Q R3 (.inl (dp.same (s2.trans s3))) e3 fun F' H' v' s' R' => q F' H' v' (((s1.trans s2).trans s3).trans s') R'
/-- a name's slice: the name looked at when the bounds are there -/
def look3 (f : D → Option Int → Option Int → Option D) (i : Nat) (lo hi : Option Int) (ρ : Rho) : Res (D × Rho) := match pk (look ρ i) with
  | some x => lift1 (f x lo hi) ρ
  | none => .bad
def dSlcV (f : D → Option Int → Option Int → Option D) (i : Nat) (l h : DO) : DE := fun ρ => match pk (look ρ i) with
  | some _ => (l ρ).bind fun q => (h q.2).bind fun r => look3 f i q.1 r.1 r.2
  | none => .bad
theorem s_slcVF (hl : SimO C W tl l) (hh : SimO C W th h) (ho : OSF C r f) : SimF C W (tSl r (tVar i) tl th) (dSlcV f i l h) := fun B F H σ ρ Q R q => by
  unfold dSlcV at q
  cases e0 : pk (look ρ i) with
  | none => rw [e0] at q; exact q.elim
  | some x0 =>
    rw [e0] at q
    obtain ⟨v, hv, _⟩ := R.peek e0
    refine ⟨v, hv, ?_⟩
    replace q : PostF C W B F σ ((l ρ).bind fun q => (h q.2).bind fun r => look3 f i q.1 r.1 r.2) Q := q
    refine hl B F H σ ρ _ R ?_
    cases e1 : l ρ with
    | ex n fs ρ' => rw [e1] at q; exact q
    | bad => rw [e1] at q; exact q
    | ok p2 =>
      obtain ⟨lo, ρ2⟩ := p2
      rw [e1] at q
      intro F2 H2 s2 R2
      replace q : PostF C W B F σ ((h ρ2).bind fun r => look3 f i lo r.1 r.2) Q := q
      refine hh B F2 H2 σ ρ2 _ R2 ?_
      cases e2 : h ρ2 with
      | ex n fs ρ' => rw [e2] at q; exact PostX.mono q s2
      | bad => rw [e2] at q; exact q
      | ok p3 =>
        obtain ⟨hi, ρ3⟩ := p3
        rw [e2] at q
        intro F3 H3 s3 R3
        replace q : PostF C W B F σ (look3 f i lo hi ρ3) Q := q
        unfold look3 at q
        cases e4 : pk (look ρ3 i) with
        | none => simp only [e4] at q; exact q.elim
        | some x =>
          simp only [e4] at q
          obtain ⟨v', hv', lk⟩ := R3.peek e4
          rw [hv] at hv'
          injection hv' with hv'; injection hv' with hv'; subst hv'
          cases e3 : f x lo hi with
          | none => rw [e3] at q; exact q.elim
          | some z =>
            rw [e3] at q
            exact ho B F3 H3 σ ρ3 v x lo hi z Q R3 lk e3 fun F' H' v' s' R' => q F' H' v' ((s2.trans s3).trans s') R'
end
end XD

set_option autoImplicit true
set_option Elab.async false
set_option linter.all false
set_option maxRecDepth 100000
set_option maxHeartbeats 1000000
set_option autoImplicit true
/-! the data layer: statements, loops, comprehensions -/
namespace XD
open PySem L2
abbrev DS := Rho → Res Fl
def dNext : DS := fun ρ => .ok (.nx ρ)
def seqK (k : DS) : Fl → Res Fl
  | .nx ρ => k ρ
  | f => .ok f
def dSeq (a k : DS) : DS := fun ρ => (a ρ).bind (seqK k)
def putR (i : Nat) (s : Sl) (ρ : Rho) : Res Rho := if i < ρ.length ∧ isIo (look ρ i) = false then .ok (ρ.set i s) else .bad
def dSet (i : Nat) (a : DE) : DS := fun ρ => (a ρ).bind fun p => (putR i (.d p.1) p.2).bind fun ρ' => .ok (.nx ρ')
/-- name = a new list *)-/
def dSetF (i : Nat) (a : DE) : DS := fun ρ => (a ρ).bind fun p => (putR i (.o p.1) p.2).bind fun ρ' => .ok (.nx ρ')
def dDrop (a : DE) : DS := fun ρ => (a ρ).bind fun p => .ok (.nx p.2)
def dRet (a : DE) : DS := fun ρ => (a ρ).bind fun p => .ok (.rt p.1 p.2)
def dRetF (a : DE) : DS := fun ρ => (a ρ).bind fun p => .ok (.rf p.1 p.2)
def dRetN : DS := fun ρ => .ok (.rt .none ρ)
/-- return of an own list by its name -/
def dRetV (i : Nat) : DS := fun ρ => match look ρ i with
  | .o x => .ok (.rf x (ρ.set i .un))
  | _ => .bad
def dIf (t : DT) (a b : DS) : DS := fun ρ => (t ρ).bind fun p => if p.1 = true then a p.2 else b p.2
def dBreak : DS := fun ρ => .ok (.bk ρ)
def dCont : DS := fun ρ => .ok (.ct ρ)
def dNever : DS := fun _ => .bad

theorem Res.bind_ok {α β : Type} {r : Res α} {k : α → Res β} {b : β} (h : r.bind k = .ok b) : ∃ a, r = .ok a ∧ k a = .ok b := by
  cases r with
  | ok a => exact ⟨a, rfl, h⟩
  | ex n fs ρ => cases h
  | bad => cases h
section
variable {C : Ct} {W : WX} {ta : TE} {a : DE} {t u : TS} {m k : DS} {tt : TT} {d : DT} {i : Nat}
theorem s_next : SimS C W tNext dNext := fun B F H σ ρ E R q => q F H σ (Same.refl _) R
theorem s_seq (h : SimS C W t m) (h2 : SimS C W u k) : SimS C W (tSeq t u) (dSeq m k) := fun B F H σ ρ E R q => by
  unfold dSeq at q
  refine h B F H σ ρ _ R ?_
  cases e : m ρ with
  | ex n fs ρ' => rw [e] at q; exact q
  | bad => rw [e] at q; exact q
  | ok f =>
    rw [e] at q
    cases f with
    | nx ρ1 => exact fun F1 H1 σ1 s1 R1 => h2 B F1 H1 σ1 ρ1 E R1 (PostS.mono q s1)
    | bk ρ1 => exact q
    | ct ρ1 => exact q
    | rt x ρ1 => exact q
    | rf x ρ1 => exact q
theorem putR_ok {s : Sl} {ρ ρ' : Rho} (h : putR i s ρ = .ok ρ') : i < ρ.length ∧ isIo (look ρ i) = false ∧ ρ' = ρ.set i s := by
  unfold putR at h
  by_cases hc : i < ρ.length ∧ isIo (look ρ i) = false
  · rw [if_pos hc] at h; injection h with h; exact ⟨hc.1, hc.2, h.symm⟩
  · rw [if_neg hc] at h; cases h
theorem putR_cases (i : Nat) (s : Sl) (ρ : Rho) : putR i s ρ = .bad ∨ (i < ρ.length ∧ isIo (look ρ i) = false ∧ putR i s ρ = .ok (ρ.set i s)) := by
  unfold putR
  by_cases hc : i < ρ.length ∧ isIo (look ρ i) = false
  · rw [if_pos hc]; exact .inr ⟨hc.1, hc.2, rfl⟩
  · rw [if_neg hc]; exact .inl rfl
theorem s_set (ha : SimE C W ta a) : SimS C W (tAsg ta (gName i)) (dSet i a) := fun B F H σ ρ E R q => by
  unfold dSet at q
  refine ha B F H σ ρ _ R ?_
  cases e : a ρ with
  | ex n fs ρ' => rw [e] at q; exact fun F' H' d s R' x => q σ F' H' d s R' x
  | bad => rw [e] at q; exact q
  | ok p =>
    obtain ⟨x, ρ1⟩ := p
    rw [e] at q
    replace q : PostS C W B F E ((putR i (.d x) ρ1).bind fun ρ' => .ok (.nx ρ')) := q
    rcases putR_cases i (.d x) ρ1 with h | ⟨h1, h2, h⟩
    · rw [h] at q; exact q.elim
    · rw [h] at q
      exact fun F1 H1 v s1 R1 dp => q F1 H1 _ s1 (R1.put h1 h2 dp)
theorem s_setF (ha : SimF C W ta a) : SimS C W (tAsg ta (gName i)) (dSetF i a) := fun B F H σ ρ E R q => by
  unfold dSetF at q
  refine ha B F H σ ρ _ R ?_
  cases e : a ρ with
  | ex n fs ρ' => rw [e] at q; exact fun F' H' d s R' x => q σ F' H' d s R' x
  | bad => rw [e] at q; exact q
  | ok p =>
    obtain ⟨x, ρ1⟩ := p
    rw [e] at q
    replace q : PostS C W B F E ((putR i (.o x) ρ1).bind fun ρ' => .ok (.nx ρ')) := q
    rcases putR_cases i (.o x) ρ1 with h | ⟨h1, h2, h⟩
    · rw [h] at q; exact q.elim
    · rw [h] at q
      exact fun F1 H1 p s1 R1 n0 nh ho => q F1 H1 _ s1 (R1.putO h1 h2 n0 nh ho)
theorem s_drop (ha : SimE C W ta a) : SimS C W (tDrop ta) (dDrop a) := fun B F H σ ρ E R q => by
  unfold dDrop at q
  refine ha B F H σ ρ _ R ?_
  cases e : a ρ with
  | ex n fs ρ' => rw [e] at q; exact fun F' H' d s R' x => q σ F' H' d s R' x
  | bad => rw [e] at q; exact q
  | ok p => obtain ⟨x, ρ1⟩ := p; rw [e] at q; exact fun F1 H1 v s1 R1 dp => q F1 H1 σ s1 R1
theorem s_ret (ha : SimE C W ta a) : SimS C W (tRet ta) (dRet a) := fun B F H σ ρ E R q => by
  unfold dRet at q
  refine ha B F H σ ρ _ R ?_
  cases e : a ρ with
  | ex n fs ρ' => rw [e] at q; exact fun F' H' d s R' x => q σ F' H' d s R' x
  | bad => rw [e] at q; exact q
  | ok p => obtain ⟨x, ρ1⟩ := p; rw [e] at q; exact fun F1 H1 v s1 R1 dp => q F1 H1 σ v s1 R1 dp
theorem s_retF (ha : SimF C W ta a) : SimS C W (tRet ta) (dRetF a) := fun B F H σ ρ E R q => by
  unfold dRetF at q
  refine ha B F H σ ρ _ R ?_
  cases e : a ρ with
  | ex n fs ρ' => rw [e] at q; exact fun F' H' d s R' x => q σ F' H' d s R' x
  | bad => rw [e] at q; exact q
  | ok p => obtain ⟨x, ρ1⟩ := p; rw [e] at q; exact fun F1 H1 p s1 R1 n0 nh ho => q F1 H1 σ p s1 R1 n0 ho
theorem s_retN : SimS C W tRetN dRetN := fun B F H σ ρ E R q => q F H σ .non (Same.refl _) R .non
/-- a slot forgotten -/
theorem Rep.forget {B : Bs} {F H : Hp} {σ : St} {ρ : Rho} (R : Rep C B F H σ ρ) {i : Nat} {x : D} (h : look ρ i = .o x) : Rep C B F H σ (ρ.set i .un) := by
  have hi : i < ρ.length := cont_lt (x := x) (by rw [h]; rfl)
  have back : ∀ j p, Holds σ (ρ.set i .un) j p → Holds σ ρ j p := fun j p ⟨a1, u, a2⟩ => by
    rw [look_set hi] at a2
    by_cases e : i = j
    · rw [if_pos e] at a2; cases a2
    · rw [if_neg e] at a2; exact ⟨a1, u, a2⟩
  refine ⟨R.sub, R.fr, R.hk, R.live, fun a u hg => ?_, fun j => by
      rw [look_set hi]
      by_cases e : i = j
      · subst e; rw [if_pos rfl, ← R.ioe i]; exact by rw [h]; rfl
      · rw [if_neg e]; exact R.ioe j, R.tup, by rw [List.length_set]; exact R.len, fun j => ?_, fun j k p hj hk => ?_⟩
  · obtain ⟨g1, g2, g3, g4⟩ := R.gdk a u hg
    exact ⟨g1, g2, g3, fun j hj => g4 j (back j a hj)⟩
  · rw [look_set hi]
    by_cases e : i = j
    · rw [if_pos e]; trivial
    · rw [if_neg e]; exact R.slot j
  · exact R.apart j k p (back j p hj) (back k p hk)
theorem s_retV : SimS C W (tRet (tVar i)) (dRetV i) := fun B F H σ ρ E R q => by
  unfold dRetV at q
  have s := R.slot i
  cases e : look ρ i with
  | o x =>
    rw [e] at q s
    obtain ⟨p, e1, n0, ho⟩ := s
    exact ⟨_, e1, q F H σ p (Same.refl _) (R.forget e) n0 ho⟩
  | un => rw [e] at q; exact q.elim
  | d x => rw [e] at q; exact q.elim
  | io x => rw [e] at q; exact q.elim
theorem s_if (h : SimT C W tt d) (h1 : SimS C W t m) (h2 : SimS C W u k) : SimS C W (tIfS tt t u) (dIf d m k) := fun B F H σ ρ E R q => by
  unfold dIf at q
  refine h B F H σ ρ _ R ?_
  cases e : d ρ with
  | ex n fs ρ' => rw [e] at q; exact fun F' H' d s R' x => q σ F' H' d s R' x
  | bad => rw [e] at q; exact q
  | ok p =>
    obtain ⟨c, ρ1⟩ := p
    rw [e] at q
    intro F1 H1 s1 R1
    cases c with
    | true => exact h1 B F1 H1 σ ρ1 E R1 (PostS.mono q s1)
    | false => exact h2 B F1 H1 σ ρ1 E R1 (PostS.mono q s1)
theorem s_break : SimS C W tBreak dBreak := fun B F H σ ρ E R q => q F H σ (Same.refl _) R
theorem s_cont : SimS C W tCont dCont := fun B F H σ ρ E R q => q F H σ (Same.refl _) R
theorem s_never : SimS C W tNever dNever := fun B F H σ ρ E R q => q

/-! ### a, b = x, y; name += e -/
def dPar (i j : Nat) (l : DL) : DS := fun ρ => (l ρ).bind fun p => match p.1 with
  | [x, y] => (putR i (.d x) p.2).bind fun ρ1 => (putR j (.d y) ρ1).bind fun ρ2 => .ok (.nx ρ2)
  | _ => .bad
variable {tl : TA} {l : DL} {j : Nat}
theorem s_par (hl : SimL C W tl l) : SimS C W (tPar i j tl) (dPar i j l) := fun B F H σ ρ E R q => by
  unfold dPar at q
  refine hl B F H σ ρ _ R ?_
  cases e : l ρ with
  | ex n fs ρ' => rw [e] at q; exact fun F' H' d s R' x => q σ F' H' d s R' x
  | bad => rw [e] at q; exact q
  | ok p =>
    obtain ⟨xs, ρ1⟩ := p
    rw [e] at q
    match xs, q with
    | [], q => exact q.elim
    | [_], q => exact q.elim
    | _ :: _ :: _ :: _, q => exact q.elim
    | [x, y], q =>
      intro F1 H1 vs s1 R1 dp
      replace q : PostS C W B F E ((putR i (.d x) ρ1).bind fun ρ1 => (putR j (.d y) ρ1).bind fun ρ2 => .ok (.nx ρ2)) := q
      cases dp with
      | cons h1 h2 =>
        cases h2 with
        | cons h2 h3 =>
          cases h3
          refine ⟨_, _, rfl, ?_⟩
          rcases putR_cases i (.d x) ρ1 with h | ⟨g1, g2, h⟩
          · rw [h] at q; exact q.elim
          · rw [h] at q
            replace q : PostS C W B F E ((putR j (.d y) (ρ1.set i (.d x))).bind fun ρ2 => .ok (.nx ρ2)) := q
            rcases putR_cases j (.d y) (ρ1.set i (.d x)) with h' | ⟨g3, g4, h'⟩
            · rw [h'] at q; exact q.elim
            · rw [h'] at q
              exact q F1 H1 _ s1 ((R1.put g1 g2 h1).put g3 g4 h2)
/-- a, b = [..], [..]: new lists or data, each as it comes -/
inductive Pr where
  | d (a : DE) | f (a : DE)
def prRun : Pr → Rho → Res (D × Rho)
  | .d a, ρ => a ρ
  | .f a, ρ => a ρ
def prSl : Pr → D → Sl
  | .d _, x => .d x
  | .f _, x => .o x
def dAug (i : Nat) (f : D → D → Option D) (a : DE) : DS := fun ρ => match look ρ i with
  | .d x => (a ρ).bind fun p => (lift1 (f x p.1) p.2).bind fun r => (putR i (.d r.1) r.2).bind fun ρ' => .ok (.nx ρ')
  | _ => .bad
theorem s_augI {g : Int → Int → Int} {f : D → D → Option D} (hf : ∀ x y z, f x y = some z → ∃ i j, x = .int i ∧ y = .int j ∧ z = .int (g i j)) (ha : SimE C W ta a) : SimS C W (tAug i ta (ipI g)) (dAug i f a) := fun B F H σ ρ E R q => by
  unfold dAug at q
  have s := R.slot i
  cases e : look ρ i with
  | un => rw [e] at q; exact q.elim
  | o x => rw [e] at q; exact q.elim
  | io x => rw [e] at q; exact q.elim
  | d x =>
    rw [e] at q s
    obtain ⟨v, e1, dp⟩ := s
    refine ⟨v, e1, ?_⟩
    replace q : PostS C W B F E ((a ρ).bind fun p => (lift1 (f x p.1) p.2).bind fun r => (putR i (.d r.1) r.2).bind fun ρ' => .ok (.nx ρ')) := q
    refine ha B F H σ ρ _ R ?_
    cases e2 : a ρ with
    | ex n fs ρ' => rw [e2] at q; exact fun F' H' d s R' x => q σ F' H' d s R' x
    | bad => rw [e2] at q; exact q
    | ok p =>
      obtain ⟨y, ρ1⟩ := p
      rw [e2] at q
      replace q : PostS C W B F E ((lift1 (f x y) ρ1).bind fun r => (putR i (.d r.1) r.2).bind fun ρ' => .ok (.nx ρ')) := q
      intro F1 H1 w s1 R1 dp2
      cases e3 : f x y with
      | none => rw [e3] at q; exact q.elim
      | some z =>
        rw [e3] at q
        obtain ⟨n, m, rfl, rfl, rfl⟩ := hf x y z e3
        cases dp
        cases dp2
        refine ⟨n, m, rfl, rfl, ?_⟩
        replace q : PostS C W B F E ((putR i (.d (.int (g n m))) ρ1).bind fun ρ' => .ok (.nx ρ')) := q
        rcases putR_cases i (.d (.int (g n m))) ρ1 with h | ⟨h1, h2, h⟩
        · rw [h] at q; exact q.elim
        · rw [h] at q
          exact q F1 H1 _ s1 (R1.put h1 h2 (.int _))
theorem fAdd_ints {x y z : D} (h : fAdd x y = some z) : ∃ i j, x = .int i ∧ y = .int j ∧ z = .int (i + j) := by
  obtain ⟨i, j, e1, e2, e⟩ := onI_some h
  cases e
  exact ⟨i, j, e1, e2, rfl⟩
theorem fSub_ints {x y z : D} (h : fSub x y = some z) : ∃ i j, x = .int i ∧ y = .int j ∧ z = .int (i - j) := by
  obtain ⟨i, j, e1, e2, e⟩ := onI_some h
  cases e
  exact ⟨i, j, e1, e2, rfl⟩

/-! ### targets: a name, a tuple of targets -/
inductive Tg where
  | nm (i : Nat) | tp (l : List Tg)
mutual
def tgPut : Tg → D → Rho → Res Rho
  | .nm i, x, ρ => putR i (.d x) ρ
  | .tp l, .tuple xs, ρ => tgPuts l xs ρ
  | .tp _, _, _ => .bad
def tgPuts : List Tg → List D → Rho → Res Rho
  | [], [], ρ => .ok ρ
  | t :: l, x :: xs, ρ => (tgPut t x ρ).bind (tgPuts l xs)
  | _, _, _ => .bad
end
mutual
def tgS : Tg → List Nat
  | .nm i => [i]
  | .tp l => tgSs l
def tgSs : List Tg → List Nat
  | [] => []
  | t :: l => tgS t ++ tgSs l
end
/-- but for the slots at l as it was -/
def Only (l : List Nat) (σ σ' : St) : Prop := ∀ vs, (∀ i ∈ l, i ∈ vs) → wipe σ' vs = wipe σ vs
theorem wipe_set {σ : St} {i : Nat} {v : Option V} : ∀ {vs : List Nat}, i ∈ vs → wipe (σ.set i v) vs = wipe σ vs
  | [], h => by cases h
  | j :: vs, h => by
    unfold wipe
    by_cases hj : i ∈ vs
    · rw [wipe_set hj]
    · have e : i = j := by
        rcases List.mem_cons.mp h with e | e
        · exact e
        · exact absurd e hj
      subst e
      have := wipe_length
      apply List.ext_getElem?
      intro k
      by_cases hk : i = k
      · subst hk
        rw [List.getElem?_set, List.getElem?_set, wipe_length, wipe_length, List.length_set, if_pos rfl, if_pos rfl]
      · rw [List.getElem?_set_ne hk, List.getElem?_set_ne hk]
        by_cases hk2 : k ∈ vs
        · exact wipe_in hk2 hk
        · rw [wipe_out hk2, wipe_out hk2, List.getElem?_set_ne hk]
where wipe_in {σ : St} {i k : Nat} {v : Option V} : ∀ {vs : List Nat}, k ∈ vs → i ≠ k → (wipe (σ.set i v) vs)[k]? = (wipe σ vs)[k]?
  | [], h, _ => by cases h
  | j :: vs, h, hk => by
    unfold wipe
    by_cases e : j = k
    · subst e
      rw [List.getElem?_set, List.getElem?_set, wipe_length, wipe_length, List.length_set, if_pos rfl, if_pos rfl]
    · rw [List.getElem?_set_ne e, List.getElem?_set_ne e]
      rcases List.mem_cons.mp h with e' | e'
      · exact absurd e'.symm e
      · exact wipe_in e' hk
theorem Only.set (i : Nat) (σ : St) (v : Option V) : Only [i] σ (σ.set i v) := fun vs h => wipe_set (h i (by simp))
theorem Only.trans {l m : List Nat} {σ σ1 σ2 : St} (a : Only l σ σ1) (b : Only m σ1 σ2) : Only (l ++ m) σ σ2 := fun vs h =>
  (b vs fun i hi => h i (List.mem_append_right _ hi)).trans (a vs fun i hi => h i (List.mem_append_left _ hi))
def SimG (C : Ct) (g : TG) (t : Tg) : Prop := ∀ B F H σ ρ ρ' v x (Q : St → Hp → Prop), Rep C B F H σ ρ → Dp C.K F v x → tgPut t x ρ = .ok ρ' → (∀ σ', Rep C B F H σ' ρ' → Only (tgS t) σ σ' → Q σ' H) → g v σ H Q
def SimGs (C : Ct) (g : TGs) (l : List Tg) : Prop := ∀ B F H σ ρ ρ' v x (Q : St → Hp → Prop), Rep C B F H σ ρ → DpAll C.K F v x → tgPuts l x ρ = .ok ρ' → (∀ σ', Rep C B F H σ' ρ' → Only (tgSs l) σ σ' → Q σ' H) → g v σ H Q
theorem g_nm : SimG C (gName i) (.nm i) := fun B F H σ ρ ρ' v x Q R dp e q => by
  obtain ⟨h1, h2, rfl⟩ := putR_ok e
  exact q _ (R.put h1 h2 dp) (Only.set i σ _)
theorem gs_nil : SimGs C gNil [] := fun B F H σ ρ ρ' v x Q R dp e q => by
  cases dp with
  | nil => injection e with e; subst e; exact ⟨rfl, q _ R fun _ _ => rfl⟩
  | cons _ _ => cases e
theorem gs_cons {g : TG} {gs : TGs} {t : Tg} {l : List Tg} (h : SimG C g t) (h2 : SimGs C gs l) : SimGs C (gCons g gs) (t :: l) := fun B F H σ ρ ρ' v x Q R dp e q => by
  cases dp with
  | nil => cases e
  | cons d1 d2 =>
    obtain ⟨ρ1, e1, e2⟩ := Res.bind_ok (show (tgPut t _ ρ).bind (tgPuts l _) = .ok ρ' from e)
    exact ⟨_, _, rfl, h B F H σ ρ ρ1 _ _ _ R d1 e1 fun σ1 R1 o1 => h2 B F H σ1 ρ1 ρ' _ _ _ R1 d2 e2 fun σ2 R2 o2 => q σ2 R2 (o1.trans o2)⟩
theorem tgPuts_len : ∀ {l : List Tg} {xs : List D} {ρ ρ' : Rho}, tgPuts l xs ρ = .ok ρ' → xs.length = l.length
  | [], [], _, _, _ => rfl
  | t :: l, x :: xs, ρ, ρ', h => by
    obtain ⟨ρ1, e1, e2⟩ := Res.bind_ok (show (tgPut t _ ρ).bind (tgPuts l _) = .ok ρ' from h)
    simp [tgPuts_len e2]
  | [], _ :: _, _, _, h => by cases h
  | _ :: _, [], _, _, h => by cases h
theorem g_tp {gs : TGs} {l : List Tg} {n : Nat} (hn : l.length = n) (h : SimGs C gs l) : SimG C (gTup C.K n gs) (.tp l) := fun B F H σ ρ ρ' v x Q R dp e q => by
  cases x with
  | tuple xs =>
    cases dp with
    | tup h1 h2 =>
      replace e : tgPuts l xs ρ = .ok ρ' := e
      exact ⟨_, _, rfl, SqT.same R.sub h1, by rw [DpAll.length h2, tgPuts_len e]; exact hn, h B F H σ ρ ρ' _ _ _ R h2 e q⟩
  | _ => cases e
mutual
theorem tg_noex : ∀ (t : Tg) (x : D) (ρ : Rho), tgPut t x ρ = .bad ∨ ∃ ρ', tgPut t x ρ = .ok ρ'
  | .nm i, x, ρ => by
    rcases putR_cases i (.d x) ρ with h | ⟨_, _, h⟩
    · exact .inl h
    · exact .inr ⟨_, h⟩
  | .tp l, .tuple xs, ρ => tgs_noex l xs ρ
  | .tp l, .none, ρ => .inl rfl
  | .tp l, .int _, ρ => .inl rfl
  | .tp l, .bool _, ρ => .inl rfl
  | .tp l, .str _, ρ => .inl rfl
  | .tp l, .list _, ρ => .inl rfl
  | .tp l, .dict _, ρ => .inl rfl
theorem tgs_noex : ∀ (l : List Tg) (x : List D) (ρ : Rho), tgPuts l x ρ = .bad ∨ ∃ ρ', tgPuts l x ρ = .ok ρ'
  | [], [], ρ => .inr ⟨ρ, rfl⟩
  | [], _ :: _, ρ => .inl rfl
  | _ :: _, [], ρ => .inl rfl
  | t :: l, x :: xs, ρ => by
    show (tgPut t x ρ).bind (tgPuts l xs) = .bad ∨ ∃ ρ', (tgPut t x ρ).bind (tgPuts l xs) = .ok ρ'
    rcases tg_noex t x ρ with h | ⟨ρ1, h⟩
    · rw [h]; exact .inl rfl
    · rw [h]; exact tgs_noex l xs ρ1
end
def dAsg (t : Tg) (a : DE) : DS := fun ρ => (a ρ).bind fun p => (tgPut t p.1 p.2).bind fun ρ' => .ok (.nx ρ')
theorem s_asg {g : TG} {t : Tg} (ha : SimE C W ta a) (hg : SimG C g t) : SimS C W (tAsg ta g) (dAsg t a) := fun B F H σ ρ E R q => by
  unfold dAsg at q
  refine ha B F H σ ρ _ R ?_
  cases e : a ρ with
  | ex n fs ρ' => rw [e] at q; exact fun F' H' d s R' x => q σ F' H' d s R' x
  | bad => rw [e] at q; exact q
  | ok p =>
    obtain ⟨x, ρ1⟩ := p
    rw [e] at q
    replace q : PostS C W B F E ((tgPut t x ρ1).bind fun ρ' => .ok (.nx ρ')) := q
    intro F1 H1 v s1 R1 dp
    rcases tg_noex t x ρ1 with h | ⟨ρ2, h⟩
    · rw [h] at q; exact q.elim
    · rw [h] at q
      exact hg B F1 H1 σ ρ1 ρ2 v x _ R1 dp h fun σ' R2 _ => q F1 H1 σ' s1 R2

/-! ### what a for walks over: the items as data -/
def PostI (C : Ct) (W : WX) (B : Bs) (F : Hp) (σ : St) : Res (List D × Rho) → (It → Hp → Prop) → Prop
  | .ok (xs, ρ'), Q => ∀ F' H' J G Y, Same F F' → Rep C B F' H' σ ρ' → Walk J xs.length G Y → (∀ F2 H2, Same F' F2 → Same F2 H2 → G H2) →
      (∀ i F2 H2 v H3 B2 σ2 ρ2, Same F' F2 → Rep C B2 F2 H2 σ2 ρ2 → Y i H2 v H3 → ∃ F3 x, xs[i]? = some x ∧ Same F2 F3 ∧ Rep C B2 F3 H3 σ2 ρ2 ∧ Dp C.K F3 v x ∧ Same H2 H3) → Q J H'
  | .ex n fs ρ', _ => PostX C W B F n fs ρ' σ
  | .bad, _ => False
def SimI (C : Ct) (W : WX) (t : TI) (d : DL) : Prop := ∀ B F H σ ρ Q, Rep C B F H σ ρ → PostI C W B F σ (d ρ) Q → t σ H Q

/-- a list, a tuple that is data -/
def dItL (a : DE) : DL := fun ρ => (a ρ).bind fun p => match p.1 with
  | .list xs => .ok (xs, p.2)
  | _ => .bad
def dItT (a : DE) : DL := fun ρ => (a ρ).bind fun p => match p.1 with
  | .tuple xs => .ok (xs, p.2)
  | _ => .bad
def dItS (a : DE) : DL := fun ρ => (a ρ).bind fun p => match p.1 with
  | .str x => .ok (x.cps.toList.map fun c => .str ⟨#[c]⟩, p.2)
  | _ => .bad
theorem YAt.data {xs : List V} {ds : List D} {F1 : Hp} (h : DpAll C.K F1 xs ds) : ∀ i F2 H2 v H3 B2 σ2 ρ2, Same F1 F2 → Rep C B2 F2 H2 σ2 ρ2 → YAt xs i H2 v H3 → ∃ F3 x, ds[i]? = some x ∧ Same F2 F3 ∧ Rep C B2 F3 H3 σ2 ρ2 ∧ Dp C.K F3 v x ∧ Same H2 H3 :=
  fun i F2 H2 v H3 B2 σ2 ρ2 s R y => by
    obtain ⟨rfl, e⟩ := y
    have hl := DpAll.length h
    have hi : i < ds.length := by rw [← hl]; exact (List.getElem?_eq_some_iff.mp e).1
    obtain ⟨w, h1, h2⟩ := DpAll.at h (List.getElem?_eq_getElem hi)
    rw [e] at h1
    injection h1 with h1; subst h1
    exact ⟨F2, _, List.getElem?_eq_getElem hi, Same.refl _, R, h2.same s, Same.refl _⟩
theorem YPair.data {xs ys : Nat → Option V} {ds : List D} {F1 : Hp} (h : ∀ i x y, xs i = some x → ys i = some y → ∃ dx dy, ds[i]? = some (.tuple [dx, dy]) ∧ Dp C.K F1 x dx ∧ Dp C.K F1 y dy) :
    ∀ i F2 H2 v H3 B2 σ2 ρ2, Same F1 F2 → Rep C B2 F2 H2 σ2 ρ2 → YPair xs ys i H2 v H3 → ∃ F3 x, ds[i]? = some x ∧ Same F2 F3 ∧ Rep C B2 F3 H3 σ2 ρ2 ∧ Dp C.K F3 v x ∧ Same H2 H3 :=
  fun i F2 H2 v H3 B2 σ2 ρ2 s R y => by
    obtain ⟨T, x, y, rfl, hT, rfl, hx, hy⟩ := y
    obtain ⟨dx, dy, e, h1, h2⟩ := h i x y hx hy
    have sF := sameUpd (o := .tup [x, y]) (R.free hT).1
    exact ⟨_, _, e, sF, R.new hT, .tup (.of upd_same) (.cons (h1.same (s.trans sF)) (.cons (h2.same (s.trans sF)) .nil)), sameUpd hT⟩
theorem s_itL (ha : SimE C W ta a) : SimI C W (iList C.K ta) (dItL a) := fun B F H σ ρ Q R q => by
  unfold dItL at q
  refine ha B F H σ ρ _ R ?_
  cases e : a ρ with
  | ex n fs ρ' => rw [e] at q; exact q
  | bad => rw [e] at q; exact q
  | ok p =>
    obtain ⟨x, ρ1⟩ := p
    rw [e] at q
    cases x with
    | list ds =>
      intro F1 H1 v s1 R1 dp
      cases dp with
      | lst h1 h2 =>
        have hH := R1.sub.seq h1
        exact ⟨_, rfl, ⟨_, hH⟩, q F1 H1 _ _ _ s1 R1 ((DpAll.length h2) ▸ walk_list) (fun F2 H2 s s' => (s.trans s').seq h1) (YAt.data h2)⟩
    | _ => exact q.elim
theorem s_itT (ha : SimE C W ta a) : SimI C W (iTup C.K ta) (dItT a) := fun B F H σ ρ Q R q => by
  unfold dItT at q
  refine ha B F H σ ρ _ R ?_
  cases e : a ρ with
  | ex n fs ρ' => rw [e] at q; exact q
  | bad => rw [e] at q; exact q
  | ok p =>
    obtain ⟨x, ρ1⟩ := p
    rw [e] at q
    cases x with
    | tuple ds =>
      intro F1 H1 v s1 R1 dp
      cases dp with
      | tup h1 h2 =>
        exact ⟨_, rfl, ⟨_, SqT.same R1.sub h1⟩, q F1 H1 _ _ _ s1 R1 ((DpAll.length h2) ▸ walk_tup) (fun F2 H2 s s' => SqT.same (s.trans s') h1) (YAt.data h2)⟩
    | _ => exact q.elim
theorem s_itS (ha : SimE C W ta a) : SimI C W (iStr ta) (dItS a) := fun B F H σ ρ Q R q => by
  unfold dItS at q
  refine ha B F H σ ρ _ R ?_
  cases e : a ρ with
  | ex n fs ρ' => rw [e] at q; exact q
  | bad => rw [e] at q; exact q
  | ok p =>
    obtain ⟨x, ρ1⟩ := p
    rw [e] at q
    cases x with
    | str z =>
      intro F1 H1 v s1 R1 dp
      cases dp
      refine ⟨z, rfl, q F1 H1 _ (fun _ => True) (fun i H v H' => H' = H ∧ ∃ c, z.cps[i]? = some c ∧ v = .str ⟨#[c]⟩) s1 R1 ?_ (fun _ _ _ _ => trivial) ?_⟩
      · have := walk_str (z := z)
        simpa using this
      · intro i F2 H2 v H3 B2 σ2 ρ2 s R y
        obtain ⟨rfl, c, h1, rfl⟩ := y
        refine ⟨F2, _, ?_, Same.refl _, R, .str _, Same.refl _⟩
        rw [List.getElem?_map, Array.getElem?_toList, h1]
        rfl
    | _ => exact q.elim
def rgC (i j : Int) : Prop := -(2 ^ 62) ≤ i ∧ i < 2 ^ 62 ∧ -(2 ^ 62) ≤ j ∧ j < 2 ^ 62
instance {i j : Int} : Decidable (rgC i j) := by unfold rgC; exact inferInstance
def rgI (i : Int) (n : Nat) : List D := (List.range n).map fun k => .int (i + (k : Nat))
def dRng1 (a : DE) : DL := fun ρ => (a ρ).bind fun p => match p.1 with
  | .int j => if rgC 0 j then .ok (rgI 0 j.toNat, p.2) else .bad
  | _ => .bad
def rg2 (ρ : Rho) : D → D → Res (List D × Rho)
  | .int i, .int j => if rgC i j then .ok (rgI i (j - i).toNat, ρ) else .bad
  | _, _ => .bad
def dRng2 (a b : DE) : DL := fun ρ => (a ρ).bind fun p => (b p.2).bind fun r => rg2 r.2 p.1 r.1
theorem rg_data {F1 : Hp} {lo : Int} {n : Nat} : ∀ i F2 H2 v H3 B2 σ2 ρ2, Same F1 F2 → Rep C B2 F2 H2 σ2 ρ2 → (i < n ∧ YFn (fun i => .int (lo + i)) i H2 v H3) → ∃ F3 x, (rgI lo n)[i]? = some x ∧ Same F2 F3 ∧ Rep C B2 F3 H3 σ2 ρ2 ∧ Dp C.K F3 v x ∧ Same H2 H3 :=
  fun i F2 H2 v H3 B2 σ2 ρ2 s R ⟨hi, y⟩ => by
    obtain ⟨rfl, rfl⟩ := y
    refine ⟨F2, .int (lo + i), ?_, Same.refl _, R, .int _, Same.refl _⟩
    unfold rgI
    rw [List.getElem?_map, List.getElem?_range hi]
    rfl
theorem walk_rangeN {lo : Int} {n : Nat} : Walk (Itr lo n) (rgI lo n).length (fun _ => True) (fun i H v H' => i < n ∧ YFn (fun i => .int (lo + i)) i H v H') := by
  have e : (rgI lo n).length = n := by unfold rgI; simp
  rw [e]
  exact ⟨fun _ _ hi _ => hi, fun _ _ => Nat.le_refl _, fun i _ _ _ hi _ y => ⟨hi, y⟩⟩
variable {tb : TE} {b : DE}
theorem s_rng1 (ha : SimE C W ta a) : SimI C W (iRng1 (tCons ta tNil)) (dRng1 a) := fun B F H σ ρ Q R q => by
  unfold dRng1 at q
  refine ha B F H σ ρ _ R ?_
  cases e : a ρ with
  | ex n fs ρ' => rw [e] at q; exact q
  | bad => rw [e] at q; exact q
  | ok p =>
    obtain ⟨x, ρ1⟩ := p
    rw [e] at q
    cases x with
    | int j =>
      intro F1 H1 v s1 R1 dp
      cases dp
      replace q : PostI C W B F σ (if rgC 0 j then .ok (rgI 0 j.toNat, ρ1) else .bad) Q := q
      by_cases hc : rgC 0 j
      · rw [if_pos hc] at q
        exact ⟨j, rfl, hc.2.2.1, hc.2.2.2, q F1 H1 _ _ _ s1 R1 walk_rangeN (fun _ _ _ _ => trivial) rg_data⟩
      · rw [if_neg hc] at q; exact q.elim
    | _ => exact q.elim
theorem s_rng2 (ha : SimE C W ta a) (hb : SimE C W tb b) : SimI C W (iRng2 (tCons ta (tCons tb tNil))) (dRng2 a b) := fun B F H σ ρ Q R q => by
  unfold dRng2 at q
  refine ha B F H σ ρ _ R ?_
  cases e : a ρ with
  | ex n fs ρ' => rw [e] at q; exact q
  | bad => rw [e] at q; exact q
  | ok p =>
    obtain ⟨x, ρ1⟩ := p
    rw [e] at q
    intro F1 H1 v s1 R1 dp
    refine hb B F1 H1 σ ρ1 _ R1 ?_
    replace q : PostI C W B F σ ((b ρ1).bind fun r => rg2 r.2 x r.1) Q := q
    cases e1 : b ρ1 with
    | ex n fs ρ' => rw [e1] at q; exact PostX.mono q s1
    | bad => rw [e1] at q; exact q
    | ok p2 =>
      obtain ⟨y, ρ2⟩ := p2
      rw [e1] at q
      intro F2 H2 w s2 R2 dp2
      cases x with
      | int i =>
        cases y with
        | int j =>
          cases dp
          cases dp2
          replace q : PostI C W B F σ (if rgC i j then .ok (rgI i (j - i).toNat, ρ2) else .bad) Q := q
          by_cases hc : rgC i j
          · rw [if_pos hc] at q
            exact ⟨i, j, rfl, hc, q F2 H2 _ _ _ (s1.trans s2) R2 walk_rangeN (fun _ _ _ _ => trivial) rg_data⟩
          · rw [if_neg hc] at q; exact q.elim
        | _ => exact q.elim
      | _ => exact q.elim
/-- enumerate of a list or a tuple -/
def numb (xs : List D) : List D := xs.mapIdx fun i x => .tuple [.int (i : Nat), x]
def dEnum (a : DE) : DL := fun ρ => (a ρ).bind fun p => match itemsD p.1 with
  | some xs => .ok (numb xs, p.2)
  | none => .bad
theorem numb_data {F1 : Hp} {xs : List V} {ds : List D} (h : DpAll C.K F1 xs ds) (i : Nat) (x y : V) (h1 : some (V.int (i : Nat)) = some x) (h2 : xs[i]? = some y) : ∃ dx dy, (numb ds)[i]? = some (.tuple [dx, dy]) ∧ Dp C.K F1 x dx ∧ Dp C.K F1 y dy := by
  injection h1 with h1; subst h1
  have hl := DpAll.length h
  have hi : i < ds.length := by rw [← hl]; exact (List.getElem?_eq_some_iff.mp h2).1
  obtain ⟨w, g1, g2⟩ := DpAll.at h (List.getElem?_eq_getElem hi)
  rw [h2] at g1
  injection g1 with g1; subst g1
  refine ⟨.int (i : Nat), ds[i], ?_, .int _, g2⟩
  unfold numb
  rw [List.getElem?_mapIdx, List.getElem?_eq_getElem hi]
  rfl
theorem s_enum (ha : SimE C W ta a) : SimI C W (iEnumA C.K (tCons ta tNil)) (dEnum a) := fun B F H σ ρ Q R q => by
  unfold dEnum at q
  refine ha B F H σ ρ _ R ?_
  cases e : a ρ with
  | ex n fs ρ' => rw [e] at q; exact q
  | bad => rw [e] at q; exact q
  | ok p =>
    obtain ⟨x, ρ1⟩ := p
    rw [e] at q
    have nl : ∀ ds : List D, (numb ds).length = ds.length := fun ds => by unfold numb; simp
    cases x with
    | list ds =>
      intro F1 H1 v s1 R1 dp
      cases dp with
      | @lst p xs _ h1 h2 =>
        replace q : PostI C W B F σ (.ok (numb ds, ρ1)) Q := q
        refine ⟨p, xs, rfl, .inl ⟨R1.sub.seq h1, q F1 H1 _ _ _ s1 R1 (by rw [nl, ← DpAll.length h2]; exact walk_enum (K := C.K) (a := p)) (fun F2 H2 s s' => (s.trans s').seq h1) (YPair.data (numb_data h2))⟩⟩
    | tuple ds =>
      intro F1 H1 v s1 R1 dp
      cases dp with
      | @tup p xs _ h1 h2 =>
        replace q : PostI C W B F σ (.ok (numb ds, ρ1)) Q := q
        refine ⟨p, xs, rfl, .inr ⟨SqT.same R1.sub h1, q F1 H1 _ _ _ s1 R1 (by rw [nl, ← DpAll.length h2]; exact walk_enumT) (fun F2 H2 s s' => SqT.same (s.trans s') h1) (YPair.data (numb_data h2))⟩⟩
    | _ => exact q.elim
/-- zip of two lists -/
def zipD (xs ys : List D) : List D := List.zipWith (fun x y => .tuple [x, y]) xs ys
def zip2 (ρ : Rho) : D → D → Res (List D × Rho)
  | .list xs, .list ys => .ok (zipD xs ys, ρ)
  | _, _ => .bad
def dZip (a b : DE) : DL := fun ρ => (a ρ).bind fun p => (b p.2).bind fun r => zip2 r.2 p.1 r.1
theorem s_zip (ha : SimE C W ta a) (hb : SimE C W tb b) : SimI C W (iZip C.K (tCons ta (tCons tb tNil))) (dZip a b) := fun B F H σ ρ Q R q => by
  unfold dZip at q
  refine ha B F H σ ρ _ R ?_
  cases e : a ρ with
  | ex n fs ρ' => rw [e] at q; exact q
  | bad => rw [e] at q; exact q
  | ok p =>
    obtain ⟨x, ρ1⟩ := p
    rw [e] at q
    intro F1 H1 v s1 R1 dp
    refine hb B F1 H1 σ ρ1 _ R1 ?_
    replace q : PostI C W B F σ ((b ρ1).bind fun r => zip2 r.2 x r.1) Q := q
    cases e1 : b ρ1 with
    | ex n fs ρ' => rw [e1] at q; exact PostX.mono q s1
    | bad => rw [e1] at q; exact q
    | ok p2 =>
      obtain ⟨y, ρ2⟩ := p2
      rw [e1] at q
      intro F2 H2 w s2 R2 dp2
      cases x with
      | list ds =>
        cases y with
        | list es =>
          cases dp with
          | @lst p xs _ h1 h2 =>
          cases dp2 with
          | @lst p' ys _ h3 h4 =>
          replace q : PostI C W B F σ (.ok (zipD ds es, ρ2)) Q := q
          have h1' := s2.seq h1
          have h2' := DpAll.same s2 h2
          refine ⟨p, p', xs, ys, rfl, R2.sub.seq h1', R2.sub.seq h3, q F2 H2 _ _ _ (s1.trans s2) R2 (walk_zip ?_) (fun F3 H3 s s' => ⟨(s.trans s').seq h1', (s.trans s').seq h3⟩) (YPair.data fun i x y e1 e2 => ?_)⟩
          · unfold zipD
            rw [List.length_zipWith, DpAll.length h2, DpAll.length h4]
          · have l1 := DpAll.length h2
            have l2 := DpAll.length h4
            have i1 : i < ds.length := by rw [← l1]; exact (List.getElem?_eq_some_iff.mp e1).1
            have i2 : i < es.length := by rw [← l2]; exact (List.getElem?_eq_some_iff.mp e2).1
            obtain ⟨w1, g1, g2⟩ := DpAll.at h2' (List.getElem?_eq_getElem i1)
            obtain ⟨w2, g3, g4⟩ := DpAll.at h4 (List.getElem?_eq_getElem i2)
            rw [e1] at g1
            rw [e2] at g3
            injection g1 with g1; subst g1
            injection g3 with g3; subst g3
            refine ⟨_, _, ?_, g2, g4⟩
            unfold zipD
            rw [List.getElem?_zipWith, List.getElem?_eq_getElem i1, List.getElem?_eq_getElem i2]
        | _ => exact q.elim
      | _ => exact q.elim

/-! ### for -/
def dForL (t : Tg) (body : DS) : List D → DS
  | [], ρ => .ok (.nx ρ)
  | x :: xs, ρ => (tgPut t x ρ).bind fun ρ1 => (body ρ1).bind fun f => match f with
    | .nx ρ2 => dForL t body xs ρ2
    | .ct ρ2 => dForL t body xs ρ2
    | .bk ρ2 => .ok (.nx ρ2)
    | .rt y ρ2 => .ok (.rt y ρ2)
    | .rf y ρ2 => .ok (.rf y ρ2)
def dFor (it : DL) (t : Tg) (body : DS) : DS := fun ρ => (it ρ).bind fun p => dForL t body p.1 p.2
theorem s_for {wi : TI} {g : TG} {tg : Tg} {tb : TS} {it : DL} {body : DS} (hi : SimI C W wi it) (hg : SimG C g tg) (hb : SimS C W tb body) : SimS C W (tFor wi g tb) (dFor it tg body) := fun B F H σ ρ E R q => by
  unfold dFor at q
  refine hi B F H σ ρ _ R ?_
  cases e : it ρ with
  | ex n fs ρ' => rw [e] at q; exact fun F' H' d s R' x => q σ F' H' d s R' x
  | bad => rw [e] at q; exact q
  | ok p =>
    obtain ⟨xs, ρ1⟩ := p
    rw [e] at q
    intro F1 H1 J G Y s1 R1 w hG hY
    replace q : PostS C W B F E (dForL tg body xs ρ1) := q
    refine for_it w (fun i σ H => ∃ F2 ρ2, Same F1 F2 ∧ Rep C B F2 H σ ρ2 ∧ PostS C W B F2 E (dForL tg body (xs.drop i) ρ2)) ⟨F1, ρ1, Same.refl _, R1, PostS.mono q s1⟩
      (fun i σ H hi ⟨F2, ρ2, s2, R2, _⟩ => hG F2 H s2 R2.sub) (fun i x σ H H' hi ⟨F2, ρ2, s2, R2, q2⟩ hy => ?_) (fun σ H ⟨F2, ρ2, s2, R2, q2⟩ => ?_)
    · obtain ⟨F3, d, hd, s3, R3, dp, _⟩ := hY i F2 H x H' B σ ρ2 s2 R2 hy
      have hlt : i < xs.length := hi
      have ed : xs.drop i = d :: xs.drop (i + 1) := by
        rw [List.drop_eq_getElem_cons hlt]
        congr 1
        rw [List.getElem?_eq_getElem hlt] at hd
        exact Option.some.inj hd
      rw [ed] at q2
      replace q2 : PostS C W B F2 E ((tgPut tg d ρ2).bind fun ρ1 => (body ρ1).bind fun f => match f with
        | .nx ρ2 => dForL tg body (xs.drop (i + 1)) ρ2
        | .ct ρ2 => dForL tg body (xs.drop (i + 1)) ρ2
        | .bk ρ2 => .ok (.nx ρ2)
        | .rt y ρ2 => .ok (.rt y ρ2)
        | .rf y ρ2 => .ok (.rf y ρ2)) := q2
      rcases tg_noex tg d ρ2 with h | ⟨ρ3, h⟩
      · rw [h] at q2; exact q2.elim
      · rw [h] at q2
        refine hg B F3 H' σ ρ2 ρ3 x d _ R3 dp h fun σ3 R4 _ => ?_
        refine hb B F3 H' σ3 ρ3 _ R4 ?_
        replace q2 : PostS C W B F2 E ((body ρ3).bind fun f => match f with
          | .nx ρ2 => dForL tg body (xs.drop (i + 1)) ρ2
          | .ct ρ2 => dForL tg body (xs.drop (i + 1)) ρ2
          | .bk ρ2 => .ok (.nx ρ2)
          | .rt y ρ2 => .ok (.rt y ρ2)
          | .rf y ρ2 => .ok (.rf y ρ2)) := q2
        replace q2 := PostS.mono q2 s3
        have s13 := s2.trans s3
        cases eb : body ρ3 with
        | ex n fs ρ' => rw [eb] at q2; exact q2
        | bad => rw [eb] at q2; exact q2
        | ok f =>
          rw [eb] at q2
          cases f with
          | nx ρ4 => exact fun F5 H5 σ5 s5 R5 => ⟨F5, ρ4, s13.trans s5, R5, PostS.mono q2 s5⟩
          | ct ρ4 => exact fun F5 H5 σ5 s5 R5 => ⟨F5, ρ4, s13.trans s5, R5, PostS.mono q2 s5⟩
          | bk ρ4 => exact q2
          | rt y ρ4 => exact q2
          | rf y ρ4 => exact q2
    · rw [List.drop_eq_nil_of_le (Nat.le_refl _)] at q2
      exact q2 F2 H σ (Same.refl _) R2

/-! ### while, with fuel -/
def dWhN (t : DT) (body : DS) : Nat → DS
  | 0, _ => .bad
  | n + 1, ρ => (t ρ).bind fun p => if p.1 = true then (body p.2).bind fun f => match f with
      | .nx ρ2 => dWhN t body n ρ2
      | .ct ρ2 => dWhN t body n ρ2
      | .bk ρ2 => .ok (.nx ρ2)
      | .rt y ρ2 => .ok (.rt y ρ2)
      | .rf y ρ2 => .ok (.rf y ρ2)
    else .ok (.nx p.2)
def dWhile (fuel : Nat) (t : DT) (body : DS) : DS := dWhN t body fuel
theorem s_while {tc : TT} {tb : TS} {c : DT} {body : DS} {n : Nat} (hc : SimT C W tc c) (hb : SimS C W tb body) : SimS C W (tWhile tc tb) (dWhile n c body) := fun B F H σ ρ E R q => by
  refine ⟨fun m σ H => ∃ F2 ρ2, Rep C B F2 H σ ρ2 ∧ PostS C W B F2 E (dWhN c body m ρ2), ⟨n, F, ρ, R, q⟩, ?_⟩
  rintro m σ H ⟨F2, ρ2, R2, q2⟩
  cases m with
  | zero => exact q2.elim
  | succ m =>
    replace q2 : PostS C W B F2 E ((c ρ2).bind fun p => if p.1 = true then (body p.2).bind fun f => match f with
      | .nx ρ2 => dWhN c body m ρ2
      | .ct ρ2 => dWhN c body m ρ2
      | .bk ρ2 => .ok (.nx ρ2)
      | .rt y ρ2 => .ok (.rt y ρ2)
      | .rf y ρ2 => .ok (.rf y ρ2)
    else .ok (.nx p.2)) := q2
    refine hc B F2 H σ ρ2 _ R2 ?_
    cases e : c ρ2 with
    | ex n fs ρ' => rw [e] at q2; exact fun F' H' d s R' x => q2 σ F' H' d s R' x
    | bad => rw [e] at q2; exact q2
    | ok p =>
      obtain ⟨b, ρ3⟩ := p
      rw [e] at q2
      intro F3 H3 s3 R3
      cases b with
      | false => exact q2 F3 H3 σ s3 R3
      | true =>
        replace q2 : PostS C W B F2 E ((body ρ3).bind fun f => match f with
          | .nx ρ2 => dWhN c body m ρ2
          | .ct ρ2 => dWhN c body m ρ2
          | .bk ρ2 => .ok (.nx ρ2)
          | .rt y ρ2 => .ok (.rt y ρ2)
          | .rf y ρ2 => .ok (.rf y ρ2)) := q2
        replace q2 := PostS.mono q2 s3
        show ∃ N : St → Hp → Prop, _
        refine ⟨fun σ H => ∃ F2 ρ2, Rep C B F2 H σ ρ2 ∧ PostS C W B F2 E (dWhN c body m ρ2), fun σ' H' ⟨F4, ρ4, R4, q4⟩ => ⟨m, Nat.lt_succ_self _, F4, ρ4, R4, q4⟩, ?_⟩
        refine hb B F3 H3 σ ρ3 _ R3 ?_
        cases eb : body ρ3 with
        | ex n fs ρ' => rw [eb] at q2; exact q2
        | bad => rw [eb] at q2; exact q2
        | ok f =>
          rw [eb] at q2
          cases f with
          | nx ρ4 => exact fun F5 H5 σ5 s5 R5 => ⟨F5, ρ4, R5, PostS.mono q2 s5⟩
          | ct ρ4 => exact fun F5 H5 σ5 s5 R5 => ⟨F5, ρ4, R5, PostS.mono q2 s5⟩
          | bk ρ4 => exact q2
          | rt y ρ4 => exact q2
          | rf y ρ4 => exact q2
end
end XD

set_option autoImplicit true
set_option Elab.async false
set_option linter.all false
set_option maxRecDepth 100000
set_option maxHeartbeats 1000000
set_option autoImplicit true
/-! the data layer: comprehensions, methods of lists, stores, calls of defs -/
namespace XD
open PySem L2
def W0 : WX := fun _ _ _ _ => False
def Bs.grd (B : Bs) (a : Addr) (o : HO) : Bs := { B with gd := upd B.gd a o }
section
variable {C : Ct} {B : Bs} {F H : Hp} {σ : St} {ρ : Rho}
theorem nw_grd {a p : Addr} {o : HO} : (B.grd a o).nw p ↔ B.nw p ∧ p ≠ a := by
  unfold Bs.nw Bs.grd
  constructor
  · rintro ⟨h1, h2⟩
    have ne : p ≠ a := fun e => by subst e; simp only [upd_same] at h2; cases h2
    simp only [upd_ne ne] at h2
    exact ⟨⟨h1, h2⟩, ne⟩
  · rintro ⟨⟨h1, h2⟩, ne⟩
    exact ⟨h1, by simp only [upd_ne ne]; exact h2⟩
theorem SlOk.grd {a : Addr} {o : HO} {i : Nat} {v : Option (Option V)} {s : Sl} (h : SlOk C B F H i v s) (k : ∀ p x, v = some (some (.ref p)) → cont s = some x → p ≠ a) : SlOk C (B.grd a o) F H i v s := by
  cases s with
  | un => trivial
  | d x => exact h
  | o x => obtain ⟨p, e, n, h⟩ := h; exact ⟨p, e, nw_grd.mpr ⟨n, k p x e rfl⟩, h⟩
  | io x => exact h
theorem SlOk.ungrd {a : Addr} {o : HO} {i : Nat} {v : Option (Option V)} {s : Sl} (h : SlOk C (B.grd a o) F H i v s) : SlOk C B F H i v s := by
  cases s with
  | un => trivial
  | d x => exact h
  | o x => obtain ⟨p, e, n, h⟩ := h; exact ⟨p, e, (nw_grd.mp n).1, h⟩
  | io x => exact h
/-- a new object under work -/
theorem Rep.guard (R : Rep C B F H σ ρ) {p : Addr} {o : HO} (n : H p = none) (nt : keptO o = false) : Rep C (B.grd p o) F (upd H p o) σ ρ ∧ B.gd p = none := by
  obtain ⟨nF, n0, nh⟩ := R.free n
  have R2 := R.newO (o := o) n nt
  refine ⟨⟨R2.sub, R2.fr, R2.hk, R2.live, fun a u hg => ?_, R2.ioe, R2.tup, R2.len, fun i => (R2.slot i).grd fun q x e hc z => ?_, R2.apart⟩, n0.2⟩
  · by_cases e : a = p
    · subst e
      have hg' : upd B.gd a o a = some u := hg
      rw [upd_same] at hg'
      injection hg' with hg'; subst hg'
      exact ⟨upd_same, nF, n0.1, nh⟩
    · have hg' : upd B.gd p o a = some u := hg
      rw [upd_ne e] at hg'
      exact R2.gdk a u hg'
  · subst z
    exact nh i ⟨e, x, hc⟩
theorem Rep.gdAt {a : Addr} {o : HO} (R : Rep C (B.grd a o) F H σ ρ) : H a = some o ∧ F a = none ∧ B.H0 a = none ∧ ∀ i, ¬ Holds σ ρ i a := R.gdk a o (show upd B.gd a o a = some o from upd_same)
/-- .. is written -/
theorem Rep.regrd {a : Addr} {o o' : HO} (R : Rep C (B.grd a o) F H σ ρ) (nt : keptO o' = false) : Rep C (B.grd a o') F (upd H a o') σ ρ := by
  obtain ⟨h1, h2, h3, h4⟩ := R.gdAt
  refine ⟨R.sub.own h2, R.fr, fun b hb1 hb2 => ?_, fun p hp => ?_, fun b u hg => ?_, R.ioe, fun b xs h hu => ?_, R.len, fun i => ?_, R.apart⟩
  · rw [upd_ne (fun e => hb1 (by rw [e]; exact h3))]; exact R.hk b hb1 hb2
  · by_cases e : p = a
    · rw [e, upd_same]; exact fun z => by cases z
    · rw [upd_ne e]; exact R.live p hp
  · have hg' : upd B.gd a o' b = some u := hg
    by_cases e : b = a
    · subst e
      rw [upd_same] at hg'
      injection hg' with hg'; subst hg'
      exact ⟨upd_same, h2, h3, h4⟩
    · rw [upd_ne e] at hg'
      obtain ⟨g1, g2, g3, g4⟩ := R.gdk b u (show upd B.gd a o b = some u by rw [upd_ne e]; exact hg')
      exact ⟨by rw [upd_ne e]; exact g1, g2, g3, g4⟩
  · by_cases e : b = a
    · rw [e, upd_same] at h; injection h with h; rw [← h, nt] at hu; cases hu
    · rw [upd_ne e] at h; exact R.tup b xs h hu
  · have hs : SlOk C B F H i σ[i]? (look ρ i) := (R.slot i).ungrd
    have ne : ∀ q x, σ[i]? = some (some (.ref q)) → cont (look ρ i) = some x → q ≠ a := fun q x e hc z => by subst z; exact h4 i ⟨e, x, hc⟩
    exact (hs.mono (Same.refl _) fun q x e hc h => h.set (ne q x e hc)).grd ne
/-- .. is anybody's -/
theorem Rep.ungrd {a : Addr} {o : HO} (R : Rep C (B.grd a o) F H σ ρ) (n : B.gd a = none) : Rep C B F H σ ρ ∧ B.nw a :=
  ⟨⟨R.sub, R.fr, R.hk, R.live, fun b u hg => R.gdk b u (show upd B.gd a o b = some u by rw [upd_ne (ne_of_none hg n)]; exact hg), R.ioe, R.tup, R.len, fun i => (R.slot i).ungrd, R.apart⟩, R.gdAt.2.2.1, n⟩

/-! ### the block's own names -/
def wipeOk (ρ : Rho) (vs : List Nat) : Bool := vs.all fun i => (cont (look ρ i)).isNone
def wipeR (ρ : Rho) : List Nat → Rho
  | [] => ρ
  | v :: vs => (wipeR ρ vs).set v .un
def unwipe (ρ ρ' : Rho) : List Nat → Rho
  | [] => ρ'
  | v :: vs => (unwipe ρ ρ' vs).set v (look ρ v)
theorem wipeR_len : ∀ vs : List Nat, (wipeR ρ vs).length = ρ.length
  | [] => rfl
  | v :: vs => by unfold wipeR; rw [List.length_set, wipeR_len vs]
theorem unwipe_len {ρ' : Rho} : ∀ vs : List Nat, (unwipe ρ ρ' vs).length = ρ'.length
  | [] => rfl
  | v :: vs => by unfold unwipe; rw [List.length_set, unwipe_len vs]
theorem look_setG {i j : Nat} {s : Sl} : look (ρ.set i s) j = if i = j ∧ i < ρ.length then s else look ρ j := by
  by_cases h : i < ρ.length
  · rw [look_set h]
    by_cases e : i = j
    · rw [if_pos e, if_pos ⟨e, h⟩]
    · rw [if_neg e, if_neg fun z => e z.1]
  · rw [if_neg fun z => h z.2]
    unfold look
    rw [List.set_eq_of_length_le (by omega)]
theorem look_out {i : Nat} (h : ρ.length ≤ i) : look ρ i = .un := by unfold look; rw [List.getElem?_eq_none h]; rfl
theorem look_wipeR {j : Nat} : ∀ {vs : List Nat}, look (wipeR ρ vs) j = if j ∈ vs then .un else look ρ j
  | [] => by simp [wipeR]
  | v :: vs => by
    unfold wipeR
    rw [look_setG, look_wipeR, wipeR_len]
    by_cases e : v = j
    · subst e
      by_cases hl : v < ρ.length
      · simp [hl]
      · simp only [hl, and_false, if_false, List.mem_cons, true_or, if_true]
        split
        · rfl
        · exact look_out (by omega)
    · have : ¬ j = v := fun z => e z.symm
      simp [e, this]
theorem look_unwipe {ρ' : Rho} (hl : ρ'.length = ρ.length) {j : Nat} : ∀ {vs : List Nat}, look (unwipe ρ ρ' vs) j = if j ∈ vs then look ρ j else look ρ' j
  | [] => by simp [unwipe]
  | v :: vs => by
    unfold unwipe
    rw [look_setG, look_unwipe hl, unwipe_len]
    by_cases e : v = j
    · subst e
      by_cases h : v < ρ'.length
      · simp [h]
      · simp only [h, and_false, if_false, List.mem_cons, true_or, if_true]
        split
        · rfl
        · rw [look_out (by omega), look_out (by omega)]
    · have : ¬ j = v := fun z => e z.symm
      simp [e, this]
theorem wipe_at {i : Nat} : ∀ {vs : List Nat}, i ∈ vs → (wipe σ vs)[i]? = none ∨ (wipe σ vs)[i]? = some none
  | [], h => by cases h
  | v :: vs, h => by
    unfold wipe
    rw [List.getElem?_set]
    by_cases e : v = i
    · rw [if_pos e]
      split
      · exact .inr rfl
      · exact .inl rfl
    · rw [if_neg e]
      rcases List.mem_cons.mp h with e' | e'
      · exact absurd e'.symm e
      · exact wipe_at e'
theorem wipeOk_at {vs : List Nat} (h : wipeOk ρ vs = true) {i : Nat} (hi : i ∈ vs) : cont (look ρ i) = none := by
  have := List.all_eq_true.mp h i hi
  simpa using this
theorem io_cont {s : Sl} (h : cont s = none) : isIo s = false := by cases s <;> first | rfl | cases h
theorem Rep.wiped (R : Rep C B F H σ ρ) {vs : List Nat} (h : wipeOk ρ vs = true) : Rep C B F H (wipe σ vs) (wipeR ρ vs) := by
  have back : ∀ j p, Holds (wipe σ vs) (wipeR ρ vs) j p → Holds σ ρ j p := fun j p ⟨a1, u, a2⟩ => by
    rw [look_wipeR] at a2
    by_cases e : j ∈ vs
    · rw [if_pos e] at a2; cases a2
    · rw [if_neg e] at a2; rw [wipe_out e] at a1; exact ⟨a1, u, a2⟩
  refine ⟨R.sub, R.fr, R.hk, R.live, fun a u hg => ?_, fun j => ?_, R.tup, by rw [wipe_length, wipeR_len]; exact R.len, fun j => ?_, fun j k p hj hk => R.apart j k p (back j p hj) (back k p hk)⟩
  · obtain ⟨g1, g2, g3, g4⟩ := R.gdk a u hg
    exact ⟨g1, g2, g3, fun j hj => g4 j (back j a hj)⟩
  · rw [look_wipeR]
    by_cases e : j ∈ vs
    · rw [if_pos e, ← R.ioe j, io_cont (wipeOk_at h e)]; rfl
    · rw [if_neg e]; exact R.ioe j
  · rw [look_wipeR]
    by_cases e : j ∈ vs
    · rw [if_pos e]; trivial
    · rw [if_neg e, wipe_out e]; exact R.slot j
/-- behind the block -/
theorem Rep.unwiped {B' : Bs} {F' H' : Hp} {σ' : St} {ρ' : Rho} {vs : List Nat} (R : Rep C B F H σ ρ) (h : wipeOk ρ vs = true) (R' : Rep C B' F' H' σ' ρ') (s : Same F F') (hi : B'.ia = B.ia) (hw : wipe σ' vs = wipe σ vs) : Rep C B' F' H' σ (unwipe ρ ρ' vs) := by
  have hlen : σ'.length = σ.length := by have := congrArg List.length hw; rwa [wipe_length, wipe_length] at this
  have hl : ρ'.length = ρ.length := by rw [← R'.len, hlen, R.len]
  have hσ : ∀ j, j ∉ vs → σ[j]? = σ'[j]? := fun j e => by
    have : (wipe σ' vs)[j]? = (wipe σ vs)[j]? := by rw [hw]
    rw [wipe_out e, wipe_out e] at this
    exact this.symm
  have back : ∀ j p, Holds σ (unwipe ρ ρ' vs) j p → Holds σ' ρ' j p := fun j p ⟨a1, u, a2⟩ => by
    rw [look_unwipe hl] at a2
    by_cases e : j ∈ vs
    · rw [if_pos e, wipeOk_at h e] at a2; cases a2
    · rw [if_neg e] at a2; rw [hσ j e] at a1; exact ⟨a1, u, a2⟩
  refine ⟨R'.sub, R'.fr, R'.hk, R'.live, fun a u hg => ?_, fun j => ?_, R'.tup, by rw [unwipe_len, hl]; exact R.len, fun j => ?_, fun j k p hj hk => R'.apart j k p (back j p hj) (back k p hk)⟩
  · obtain ⟨g1, g2, g3, g4⟩ := R'.gdk a u hg
    exact ⟨g1, g2, g3, fun j hj => g4 j (back j a hj)⟩
  · rw [look_unwipe hl]
    by_cases e : j ∈ vs
    · rw [if_pos e, hi]; exact R.ioe j
    · rw [if_neg e]; exact R'.ioe j
  · rw [look_unwipe hl]
    by_cases e : j ∈ vs
    · rw [if_pos e]
      have hs := R.slot j
      have hc := wipeOk_at h e
      cases es : look ρ j with
      | un => trivial
      | d x => rw [es] at hs; obtain ⟨v, e1, dp⟩ := hs; exact ⟨v, e1, dp.same s⟩
      | o x => rw [es] at hc; cases hc
      | io x => rw [es] at hc; cases hc
    · rw [if_neg e, hσ j e]; exact R'.slot j
end
theorem wipe_same {σ σ' : St} {k : Nat} : ∀ {vs : List Nat}, k ∈ vs → σ.length = σ'.length → (wipe σ vs)[k]? = (wipe σ' vs)[k]?
  | [], h, _ => by cases h
  | v :: vs, h, hl => by
    unfold wipe
    rw [List.getElem?_set, List.getElem?_set, wipe_length, wipe_length, hl]
    by_cases e : v = k
    · rw [if_pos e, if_pos e]
    · rw [if_neg e, if_neg e]
      rcases List.mem_cons.mp h with e' | e'
      · exact absurd e'.symm e
      · exact wipe_same e' hl
theorem wipe_wipe {σ : St} {vs : List Nat} : wipe (wipe σ vs) vs = wipe σ vs := by
  apply List.ext_getElem?
  intro k
  by_cases hk : k ∈ vs
  · exact wipe_same hk (by rw [wipe_length])
  · rw [wipe_out hk]
/-- no exception leaves -/
def Res.nob {α β : Type} : Res α → (α → Res β) → Res β
  | .ok a, k => k a
  | _, _ => .bad
def dLcL (t : Tg) (test : DT) (elt : DE) (vs : List Nat) : List D → List D → Rho → Res (D × Rho)
  | [], acc, ρ => .ok (.list acc, ρ)
  | x :: xs, acc, ρ => if wipeOk ρ vs = true then (tgPut t x (wipeR ρ vs)).nob fun ρ1 => (test ρ1).nob fun p =>
      if p.1 = true then (elt p.2).nob fun r => if acc.length < sizeLine then dLcL t test elt vs xs (acc ++ [r.1]) (unwipe ρ r.2 vs) else .bad
      else dLcL t test elt vs xs acc (unwipe ρ p.2 vs)
    else .bad
def dLc (it : DL) (t : Tg) (test : DT) (elt : DE) (vs : List Nat) : DE := fun ρ => (it ρ).bind fun p => dLcL t test elt vs p.1 [] p.2
def dYes : DT := fun ρ => .ok (true, ρ)
section
variable {C : Ct} {W : WX}
theorem s_yes : SimT C W tYes dYes := fun B F H σ ρ Q R q => q F H (Same.refl _) R
theorem s_lc {wi : TI} {g : TG} {tg : Tg} {tt : TT} {te : TE} {it : DL} {test : DT} {elt : DE} {vs : List Nat} (hi : SimI C W wi it) (hg : SimG C g tg) (hv : ∀ i ∈ tgS tg, i ∈ vs) (ht : SimT C W0 tt test) (he : SimE C W0 te elt) :
    SimF C W (tLc wi g tt te vs) (dLc it tg test elt vs) := fun B F H σ ρ Q R q => by
  unfold dLc at q
  refine hi B F H σ ρ _ R ?_
  cases e : it ρ with
  | ex n fs ρ' => rw [e] at q; exact q
  | bad => rw [e] at q; exact q
  | ok p =>
    obtain ⟨xs, ρ1⟩ := p
    rw [e] at q
    intro F1 H1 J G Y s1 R1 w hG hY
    replace q : PostF C W B F σ (dLcL tg test elt vs xs [] ρ1) Q := q
    intro D hD
    obtain ⟨R1g, gdn⟩ := R1.guard (o := .lst []) hD rfl
    refine lc_it w (fun i H => ∃ F2 ρ2 acc accd, Same F1 F2 ∧ Rep C (B.grd D (.lst acc)) F2 H σ ρ2 ∧ DpAll C.K F2 acc accd ∧ PostF C W B F2 σ (dLcL tg test elt vs (xs.drop i) accd ρ2) Q) ⟨F1, ρ1, [], [], Same.refl _, R1g, .nil, PostF.mono q s1⟩
      (fun i H hi ⟨F2, ρ2, acc, accd, s2, R2, _⟩ => hG F2 H s2 R2.sub) (fun i x H H' hi ⟨F2, ρ2, acc, accd, s2, R2, da, q2⟩ hy => ?_) (fun H ⟨F2, ρ2, acc, accd, s2, R2, da, q2⟩ => ?_)
    · have hlt : i < xs.length := hi
      obtain ⟨d, hd⟩ : ∃ d, xs[i]? = some d := ⟨_, List.getElem?_eq_getElem hlt⟩
      have ed : xs.drop i = d :: xs.drop (i + 1) := by
        rw [List.drop_eq_getElem_cons hlt]
        congr 1
        rw [List.getElem?_eq_getElem hlt] at hd
        exact Option.some.inj hd
      rw [ed] at q2
      by_cases hw : wipeOk ρ2 vs = true
      · replace q2 : PostF C W B F2 σ (if wipeOk ρ2 vs = true then (tgPut tg d (wipeR ρ2 vs)).nob fun ρ1 => (test ρ1).nob fun p =>
          if p.1 = true then (elt p.2).nob fun r => if accd.length < sizeLine then dLcL tg test elt vs (xs.drop (i + 1)) (accd ++ [r.1]) (unwipe ρ2 r.2 vs) else .bad
          else dLcL tg test elt vs (xs.drop (i + 1)) accd (unwipe ρ2 p.2 vs)
          else .bad) Q := q2
        rw [if_pos hw] at q2
        obtain ⟨F3, d', hd', s3, R3, dp, _⟩ := hY i F2 H x H' (B.grd D (.lst acc)) (wipe σ vs) (wipeR ρ2 vs) s2 (R2.wiped hw) hy
        rw [hd] at hd'
        injection hd' with hd'; subst hd'
        rcases tg_noex tg d (wipeR ρ2 vs) with h | ⟨ρ3, h⟩
        · rw [h] at q2; exact q2.elim
        · rw [h] at q2
          replace q2 : PostF C W B F2 σ ((test ρ3).nob fun p =>
            if p.1 = true then (elt p.2).nob fun r => if accd.length < sizeLine then dLcL tg test elt vs (xs.drop (i + 1)) (accd ++ [r.1]) (unwipe ρ2 r.2 vs) else .bad
            else dLcL tg test elt vs (xs.drop (i + 1)) accd (unwipe ρ2 p.2 vs)) Q := q2
          refine hg _ F3 H' _ _ ρ3 x d _ R3 dp h fun σ3 R4 o4 => ?_
          have hwσ : wipe σ3 vs = wipe σ vs := by
            rw [o4 vs hv]
            exact wipe_wipe
          refine ⟨hwσ, ht _ F3 H' σ3 ρ3 _ R4 ?_⟩
          cases et : test ρ3 with
          | ex n fs ρ' => rw [et] at q2; exact q2.elim
          | bad => rw [et] at q2; exact q2.elim
          | ok p =>
            obtain ⟨b, ρ4⟩ := p
            rw [et] at q2
            intro F5 H5 s5 R5
            cases b with
            | false =>
              replace q2 : PostF C W B F2 σ (dLcL tg test elt vs (xs.drop (i + 1)) accd (unwipe ρ2 ρ4 vs)) Q := q2
              exact ⟨F5, _, acc, accd, (s2.trans s3).trans s5, R2.unwiped hw R5 (s3.trans s5) rfl hwσ, DpAll.same (s3.trans s5) da, PostF.mono q2 (s3.trans s5)⟩
            | true =>
              replace q2 : PostF C W B F2 σ ((elt ρ4).nob fun r => if accd.length < sizeLine then dLcL tg test elt vs (xs.drop (i + 1)) (accd ++ [r.1]) (unwipe ρ2 r.2 vs) else .bad) Q := q2
              show te σ3 H5 _
              refine he _ F5 H5 σ3 ρ4 _ R5 ?_
              cases ee : elt ρ4 with
              | ex n fs ρ' => rw [ee] at q2; exact q2.elim
              | bad => rw [ee] at q2; exact q2.elim
              | ok r =>
                obtain ⟨y, ρ5⟩ := r
                rw [ee] at q2
                replace q2 : PostF C W B F2 σ (if accd.length < sizeLine then dLcL tg test elt vs (xs.drop (i + 1)) (accd ++ [y]) (unwipe ρ2 ρ5 vs) else .bad) Q := q2
                by_cases hz : accd.length < sizeLine
                · rw [if_pos hz] at q2
                  intro F6 H6 v s6 R6 dpv
                  have s36 := (s3.trans s5).trans s6
                  refine ⟨acc, R6.gdAt.1, by rw [DpAll.length da]; exact hz, F6, _, acc ++ [v], accd ++ [y], s2.trans s36, ?_, DpAll.app (DpAll.same s36 da) (.cons dpv .nil), PostF.mono q2 s36⟩
                  exact R2.unwiped hw (R6.regrd rfl) s36 rfl hwσ
                · rw [if_neg hz] at q2; exact q2.elim
      · replace q2 : PostF C W B F2 σ (if wipeOk ρ2 vs = true then (tgPut tg d (wipeR ρ2 vs)).nob fun ρ1 => (test ρ1).nob fun p =>
          if p.1 = true then (elt p.2).nob fun r => if accd.length < sizeLine then dLcL tg test elt vs (xs.drop (i + 1)) (accd ++ [r.1]) (unwipe ρ2 r.2 vs) else .bad
          else dLcL tg test elt vs (xs.drop (i + 1)) accd (unwipe ρ2 p.2 vs)
          else .bad) Q := q2
        rw [if_neg hw] at q2; exact q2.elim
    · rw [List.drop_eq_nil_of_le (Nat.le_refl _)] at q2
      obtain ⟨R3, nw⟩ := R2.ungrd gdn
      obtain ⟨g1, g2, g3, g4⟩ := R2.gdAt
      exact q2 F2 H D (Same.refl _) R3 nw g4 ⟨g2, _, g1, .inl ⟨acc, accd, rfl, rfl, da⟩⟩
end
end XD

set_option autoImplicit true
set_option Elab.async false
set_option linter.all false
set_option maxRecDepth 100000
set_option maxHeartbeats 1000000
set_option autoImplicit true
/-! the data layer: methods of lists, stores, calls of defs -/
namespace XD
open PySem L2

/-! ### calls of defs -/
/-- an argument: data, or a list that the callee may change -/
inductive Ag where
  | e (a : DE) | io (i : Nat)
inductive Ar where
  | d (x : D) | io (i : Nat)
/-- a def on data: its arguments; is the answer a new list; the answer; its changed lists -/
abbrev Fn := List Sl → Res (Bool × D × List D)
def reSl : Sl → D → Sl
  | .o _, x => .o x
  | .io _, x => .io x
  | s, _ => s
section
variable {C : Ct} {B : Bs} {F H : Hp} {σ : St} {ρ : Rho}
theorem look_recont {i j : Nat} {x : D} : look (recont ρ i x) j = if i = j then reSl (look ρ j) x else look ρ j := by
  unfold recont
  by_cases e : i = j
  · subst e
    rw [if_pos rfl]
    cases h : look ρ i with
    | un => simp only; rw [h]; rfl
    | d y => simp only; rw [h]; rfl
    | o y => simp only; rw [look_setG, if_pos ⟨rfl, cont_lt (x := y) (by rw [h]; rfl)⟩]; rfl
    | io y => simp only; rw [look_setG, if_pos ⟨rfl, cont_lt (x := y) (by rw [h]; rfl)⟩]; rfl
  · rw [if_neg e]
    cases h : look ρ i with
    | un => rfl
    | d y => rfl
    | o y => simp only; rw [look_setG, if_neg fun z => e z.1]
    | io y => simp only; rw [look_setG, if_neg fun z => e z.1]
theorem recont_len {i : Nat} {x : D} : (recont ρ i x).length = ρ.length := by
  unfold recont
  split <;> simp
end
def reconts (ρ : Rho) : List Nat → List D → Rho
  | i :: is, x :: xs => reconts (recont ρ i x) is xs
  | _, _ => ρ
theorem reconts_len : ∀ (is : List Nat) (xs : List D) {ρ : Rho}, (reconts ρ is xs).length = ρ.length
  | [], _, _ => rfl
  | _ :: _, [], _ => rfl
  | i :: is, x :: xs, ρ => by unfold reconts; rw [reconts_len is xs, recont_len]
theorem look_reconts_out {j : Nat} : ∀ {is : List Nat} {xs : List D} {ρ : Rho}, j ∉ is → look (reconts ρ is xs) j = look ρ j
  | [], _, _, _ => rfl
  | _ :: _, [], _, _ => rfl
  | i :: is, x :: xs, ρ, h => by
    unfold reconts
    rw [look_reconts_out (fun z => h (List.mem_cons_of_mem _ z)), look_recont, if_neg fun e => h (by rw [e]; exact List.mem_cons_self)]
/-- item by item, three lists -/
inductive Tri (R : Nat → Addr → D → Prop) : List Nat → List Addr → List D → Prop
  | nil : Tri R [] [] []
  | cons {i p x is ps xs} : R i p x → Tri R is ps xs → Tri R (i :: is) (p :: ps) (x :: xs)
theorem Tri.at {R : Nat → Addr → D → Prop} {is : List Nat} {ps : List Addr} {xs : List D} (h : Tri R is ps xs) (nd : is.Nodup) {j : Nat} (hj : j ∈ is) {ρ : Rho} : ∃ p x, p ∈ ps ∧ R j p x ∧ look (reconts ρ is xs) j = reSl (look ρ j) x := by
  induction h generalizing ρ with
  | nil => cases hj
  | @cons i p x is ps xs h1 h2 ih =>
    have nd' := List.nodup_cons.mp nd
    rcases List.mem_cons.mp hj with e | e
    · subst e
      refine ⟨p, x, List.mem_cons_self, h1, ?_⟩
      unfold reconts
      rw [look_reconts_out nd'.1, look_recont, if_pos rfl]
    · obtain ⟨q, y, hq, hr, hl⟩ := ih nd'.2 e (ρ := recont ρ i x)
      refine ⟨q, y, List.mem_cons_of_mem _ hq, hr, ?_⟩
      unfold reconts
      rw [hl, look_recont, if_neg fun z => nd'.1 (by rw [z]; exact e)]
theorem Tri.mem {R : Nat → Addr → D → Prop} {is : List Nat} {ps : List Addr} {xs : List D} (h : Tri R is ps xs) {p : Addr} (hp : p ∈ ps) : ∃ i x, i ∈ is ∧ R i p x := by
  induction h with
  | nil => cases hp
  | cons h1 h2 ih =>
    rcases List.mem_cons.mp hp with e | e
    · subst e; exact ⟨_, _, List.mem_cons_self, h1⟩
    · obtain ⟨i, x, hi, hr⟩ := ih e; exact ⟨i, x, List.mem_cons_of_mem _ hi, hr⟩
theorem reSl_io {s : Sl} {x : D} : isIo (reSl s x) = isIo s := by cases s <;> rfl
theorem reSl_cont {s : Sl} {x : D} : (∃ z, cont (reSl s x) = some z) ↔ ∃ z, cont s = some z := by cases s <;> simp [reSl, cont]
section
variable {C : Ct} {B : Bs} {F H : Hp} {σ : St} {ρ : Rho}
/-- behind a call that changed the lists at ps -/
theorem Rep.called (R : Rep C B F H σ ρ) {F' H' : Hp} {is : List Nat} {ps : List Addr} {xs : List D} (nd : is.Nodup) (sub : Same F' H') (hF : ∀ a, H a ≠ none → F' a = F a) (hH : ∀ a, H a ≠ none → a ∉ ps → H' a = H a) (hn : ∀ a, H a ≠ none → H' a ≠ none) (ht : ∀ a u, H' a = some u → keptO u = true → F' a = some u)
    (tri : Tri (fun i p x => Holds σ ρ i p ∧ Own C F' H' p x) is ps xs) : Rep C B F' H' σ (reconts ρ is xs) ∧ Same F F' := by
  have sF : Same F F' := fun a o e => by rw [hF a (by rw [R.sub a o e]; exact fun z => by cases z)]; exact e
  have h0 : ∀ a, B.H0 a ≠ none → H a ≠ none := fun a h => by
    by_cases hp : a ∈ B.ps
    · exact R.live a hp
    · rw [R.hk a h hp]; exact h
  have held : ∀ a, a ∈ ps → ∃ i, i ∈ is ∧ Holds σ ρ i a := fun a ha => by
    obtain ⟨i, x, hi, hr⟩ := tri.mem ha
    exact ⟨i, hi, hr.1⟩
  have back : ∀ j p, Holds σ (reconts ρ is xs) j p → Holds σ ρ j p := fun j p ⟨a1, u, a2⟩ => by
    by_cases hj : j ∈ is
    · obtain ⟨q, y, hq, hr, hl⟩ := tri.at nd hj (ρ := ρ)
      rw [hl] at a2
      exact ⟨a1, reSl_cont.mp ⟨_, a2⟩⟩
    · rw [look_reconts_out hj] at a2; exact ⟨a1, u, a2⟩
  refine ⟨⟨sub, fun a h => ?_, fun a h1 h2 => ?_, fun p hp => hn p (R.live p hp), fun a u hg => ?_, fun j => ?_, ht, by rw [reconts_len]; exact R.len, fun j => ?_, fun j k p hj hk => R.apart j k p (back j p hj) (back k p hk)⟩, sF⟩
  · rw [hF a (h0 a h)]; exact R.fr a h
  · rw [hH a (h0 a h1) fun hp => ?_]
    · exact R.hk a h1 h2
    · obtain ⟨i, hi, hh⟩ := held a hp
      have s := R.slot i
      obtain ⟨e1, x, e2⟩ := hh
      cases es : look ρ i with
      | un => rw [es] at e2; cases e2
      | d y => rw [es] at e2; cases e2
      | o y =>
        rw [es] at s
        obtain ⟨q, e3, n0, _⟩ := s
        rw [e1] at e3
        injection e3 with e3; injection e3 with e3; injection e3 with e3
        subst e3
        exact h1 n0.1
      | io y =>
        rw [es] at s
        obtain ⟨e3, n0, _⟩ := s
        rw [e1] at e3
        injection e3 with e3; injection e3 with e3; injection e3 with e3
        subst e3
        exact h2 n0
  · obtain ⟨g1, g2, g3, g4⟩ := R.gdk a u hg
    have hne : H a ≠ none := by rw [g1]; exact fun z => by cases z
    refine ⟨?_, by rw [hF a hne]; exact g2, g3, fun j hj => g4 j (back j a hj)⟩
    rw [hH a hne fun hp => ?_]
    · exact g1
    · obtain ⟨i, hi, hh⟩ := held a hp
      exact g4 i hh
  · by_cases hj : j ∈ is
    · obtain ⟨q, y, hq, hr, hl⟩ := tri.at nd hj (ρ := ρ)
      rw [hl, reSl_io]; exact R.ioe j
    · rw [look_reconts_out hj]; exact R.ioe j
  · have s := R.slot j
    by_cases hj : j ∈ is
    · obtain ⟨q, y, hq, hr, hl⟩ := tri.at nd hj (ρ := ρ)
      rw [hl]
      obtain ⟨hh, ho⟩ := hr
      cases es : look ρ j with
      | un => trivial
      | d z => rw [es] at s; obtain ⟨v, e1, dp⟩ := s; exact ⟨v, e1, dp.same sF⟩
      | o z =>
        rw [es] at s
        obtain ⟨p, e3, n0, _⟩ := s
        have e1 := hh.1
        rw [e3] at e1
        injection e1 with e1; injection e1 with e1; injection e1 with e1
        subst e1
        exact ⟨_, e3, n0, ho⟩
      | io z =>
        rw [es] at s
        obtain ⟨e3, n0, _⟩ := s
        have e1 := hh.1
        rw [e3] at e1
        injection e1 with e1; injection e1 with e1; injection e1 with e1
        rw [← e1] at ho
        exact ⟨e3, n0, ho⟩
    · rw [look_reconts_out hj]
      refine s.mono sF fun p x e hc ho => ?_
      obtain ⟨n, o, h1, h2⟩ := ho
      have hne : H p ≠ none := by rw [h1]; exact fun z => by cases z
      refine ⟨by rw [hF p hne]; exact n, o, ?_, h2.same sF⟩
      rw [hH p hne fun hp => ?_]
      · exact h1
      · obtain ⟨i, hi, hh⟩ := held p hp
        have := R.apart i j p hh ⟨e, x, hc⟩
        subst this
        exact hj hi
end

/-- the arguments at a call -/
inductive ArgsOk (C : Ct) (F H : Hp) : List V → List Sl → List Addr → Prop
  | nil : ArgsOk C F H [] [] []
  | d {v x vs as ps} : Dp C.K F v x → ArgsOk C F H vs as ps → ArgsOk C F H (v :: vs) (.d x :: as) ps
  | io {p x vs as ps} : Own C F H p x → ArgsOk C F H vs as ps → ArgsOk C F H (.ref p :: vs) (.io x :: as) (p :: ps)
theorem ArgsOk.len {C : Ct} {F H : Hp} {vs : List V} {as : List Sl} {ps : List Addr} (h : ArgsOk C F H vs as ps) : vs.length = as.length := by
  induction h with
  | nil => rfl
  | d _ _ ih => simp [ih]
  | io _ _ ih => simp [ih]
/-- what a call leaves of the heap -/
structure After (F H : Hp) (ps : List Addr) (F' H' : Hp) : Prop where
  sub : Same F' H'
  fr : ∀ a, H a ≠ none → F' a = F a
  hk : ∀ a, H a ≠ none → a ∉ ps → H' a = H a
  live : ∀ a, H a ≠ none → H' a ≠ none
  tup : ∀ a u, H' a = some u → keptO u = true → F' a = some u
def PostC (C : Ct) (F H : Hp) (ps : List Addr) (Q : VK) (E : XK) : Res (Bool × D × List D) → Prop
  | .ok (true, x, ios) => ∀ F' H' p, After F H ps F' H' → Both (fun p x => Own C F' H' p x) ps ios → H p = none → Own C F' H' p x → Q (.ref p) H'
  | .ok (false, x, ios) => ∀ F' H' y, After F H ps F' H' → Both (fun p x => Own C F' H' p x) ps ios → Dp C.K F' y x → Q y H'
  | .ex n fs ρ => ∀ F' H' d, After F H ps F' H' → Both (fun p s => ∃ x, s = Sl.io x ∧ Own C F' H' p x) ps ρ → XnOk C F' H' d fs → E (C.cl n) d H'
  | .bad => False
/-- a def's promise by its function on data -/
def spD (C : Ct) (n : Nat) (f : Fn) : Sp := fun vs H Q E => vs.length = n ∧ ∃ F as ps, Same F H ∧ (∀ a u, H a = some u → keptO u = true → F a = some u) ∧ ArgsOk C F H vs as ps ∧ ps.Nodup ∧ PostC C F H ps Q E (f as)

/-- the arguments' values: data at once, the lists as they stand at the call -/
def agRun : List Ag → Rho → Res (List Ar × Rho)
  | [], ρ => .ok ([], ρ)
  | .e a :: l, ρ => (a ρ).bind fun p => (agRun l p.2).bind fun q => .ok (.d p.1 :: q.1, q.2)
  | .io i :: l, ρ => match cont (look ρ i) with
    | some _ => (agRun l ρ).bind fun q => .ok (.io i :: q.1, q.2)
    | none => .bad
def arSl (ρ : Rho) : Ar → Option Sl
  | .d x => some (.d x)
  | .io i => (cont (look ρ i)).map .io
def arSls (ρ : Rho) : List Ar → Option (List Sl)
  | [] => some []
  | a :: l => (arSl ρ a).bind fun s => (arSls ρ l).map fun r => s :: r
def arIs : List Ar → List Nat
  | [] => []
  | .d _ :: l => arIs l
  | .io i :: l => i :: arIs l
def callR (is : List Nat) (ρ : Rho) : Res (Bool × D × List D) → Res (Bool × D × Rho)
  | .ok (b, x, ios) => .ok (b, x, reconts ρ is ios)
  | .ex n fs ss => .ex n fs (reconts ρ is (ss.filterMap cont))
  | .bad => .bad
def callB (f : Fn) (l : List Ag) : Rho → Res (Bool × D × Rho) := fun ρ => (agRun l ρ).bind fun p => match arSls p.2 p.1 with
  | some as => if (arIs p.1).Nodup then callR (arIs p.1) p.2 (f as) else .bad
  | none => .bad
/-- f(..) as data -/
def dCall (f : Fn) (l : List Ag) : DE := fun ρ => (callB f l ρ).bind fun p => .ok (p.2.1, p.2.2)
/-- f(..), a new list -/
def dCallF (f : Fn) (l : List Ag) : DE := fun ρ => (callB f l ρ).bind fun p => if p.1 = true then .ok (p.2.1, p.2.2) else .bad

def SimA (C : Ct) (W : WX) (t : TA) (l : List Ag) : Prop := ∀ B F H σ ρ (Q : List V → Hp → Prop), Rep C B F H σ ρ →
  (match agRun l ρ with
    | .ok (as, ρ') => ∀ F' H' vs, Same F F' → Rep C B F' H' σ ρ' → Both (fun v a => match a with | Ar.d x => Dp C.K F' v x | Ar.io i => σ[i]? = some (some v)) vs as → Q vs H'
    | .ex n fs ρ' => PostX C W B F n fs ρ' σ
    | .bad => False) → t σ H Q
section
variable {C : Ct} {W : WX}
theorem sa_nil : SimA C W tNil [] := fun B F H σ ρ Q R q => q F H [] (Same.refl _) R .nil
theorem sa_d {ta : TE} {a : DE} {tr : TA} {l : List Ag} (ha : SimE C W ta a) (hr : SimA C W tr l) : SimA C W (tCons ta tr) (.e a :: l) := fun B F H σ ρ Q R q => by
  refine ha B F H σ ρ _ R ?_
  unfold agRun at q
  cases e : a ρ with
  | ex n fs ρ' => rw [e] at q; exact q
  | bad => rw [e] at q; exact q
  | ok p =>
    obtain ⟨x, ρ1⟩ := p
    rw [e] at q
    intro F1 H1 v s1 R1 dp
    refine hr B F1 H1 σ ρ1 _ R1 ?_
    simp only [Res.bind] at q
    cases e1 : agRun l ρ1 with
    | ex n fs ρ' => rw [e1] at q; exact PostX.mono q s1
    | bad => rw [e1] at q; exact q
    | ok p2 =>
      obtain ⟨as, ρ2⟩ := p2
      rw [e1] at q
      exact fun F2 H2 vs s2 R2 b => q F2 H2 (v :: vs) (s1.trans s2) R2 (.cons (dp.same s2) b)
theorem sa_io {i : Nat} {tr : TA} {l : List Ag} (hr : SimA C W tr l) : SimA C W (tCons (tVar i) tr) (.io i :: l) := fun B F H σ ρ Q R q => by
  unfold agRun at q
  cases hc : cont (look ρ i) with
  | none => rw [hc] at q; exact q.elim
  | some x =>
    rw [hc] at q
    obtain ⟨p, hh, ho⟩ := R.at hc
    refine ⟨_, hh.1, hr B F H σ ρ _ R ?_⟩
    simp only at q
    cases e1 : agRun l ρ with
    | ex n fs ρ' => rw [e1] at q; exact q
    | bad => rw [e1] at q; exact q
    | ok p2 =>
      obtain ⟨as, ρ2⟩ := p2
      rw [e1] at q
      exact fun F2 H2 vs s2 R2 b => q F2 H2 _ s2 R2 (.cons hh.1 b)
/-- from the arguments' values to the callee's arguments -/
theorem args_of {B : Bs} {F H : Hp} {σ : St} {ρ : Rho} (R : Rep C B F H σ ρ) : ∀ {vs : List V} {ars : List Ar} {as : List Sl}, Both (fun v a => match a with | Ar.d x => Dp C.K F v x | Ar.io i => σ[i]? = some (some v)) vs ars → arSls ρ ars = some as → (arIs ars).Nodup →
    ∃ ps, ArgsOk C F H vs as ps ∧ Both (fun i p => Holds σ ρ i p) (arIs ars) ps
  | _, _, _, .nil, h, _ => by
    injection h with h; subst h
    exact ⟨[], .nil, .nil⟩
  | _, _, _, @Both.cons _ _ _ v a vs ars h1 h2, h, nd => by
    simp only [arSls] at h
    obtain ⟨s, e1, e2⟩ := Option.bind_eq_some_iff.mp h
    obtain ⟨r, e3, rfl⟩ := Option.map_eq_some_iff.mp e2
    cases a with
    | d x =>
      injection e1 with e1; subst e1
      obtain ⟨ps, g1, g2⟩ := args_of R h2 e3 nd
      exact ⟨ps, .d h1 g1, g2⟩
    | io i =>
      have nd' : i ∉ arIs ars ∧ (arIs ars).Nodup := List.nodup_cons.mp nd
      obtain ⟨ps, g1, g2⟩ := args_of R h2 e3 nd'.2
      obtain ⟨x, hx, rfl⟩ := Option.map_eq_some_iff.mp e1
      obtain ⟨p, hh, ho⟩ := R.at hx
      have h1' : σ[i]? = some (some v) := h1
      rw [hh.1] at h1'
      injection h1' with h1'; injection h1' with h1'
      subst h1'
      exact ⟨p :: ps, .io ho g1, .cons hh g2⟩
theorem holds_nodup {B : Bs} {F H : Hp} {σ : St} {ρ : Rho} (R : Rep C B F H σ ρ) : ∀ {is : List Nat} {ps : List Addr}, Both (fun i p => Holds σ ρ i p) is ps → is.Nodup → ps.Nodup
  | _, _, .nil, _ => List.nodup_nil
  | _, _, @Both.cons _ _ _ i p is ps h1 h2, nd => by
    have nd' := List.nodup_cons.mp nd
    refine List.nodup_cons.mpr ⟨fun hp => ?_, holds_nodup R h2 nd'.2⟩
    obtain ⟨j, hj⟩ : ∃ j, j ∈ is ∧ Holds σ ρ j p := by
      clear nd nd' h1
      induction h2 with
      | nil => cases hp
      | cons h _ ih =>
        rcases List.mem_cons.mp hp with e | e
        · subst e; exact ⟨_, List.mem_cons_self, h⟩
        · obtain ⟨j, hj, hh⟩ := ih e; exact ⟨j, List.mem_cons_of_mem _ hj, hh⟩
    have := R.apart i j p h1 hj.2
    subst this
    exact nd'.1 hj.1
theorem tri_of {R S : Nat → Addr → Prop} {T : Addr → D → Prop} : ∀ {is : List Nat} {ps : List Addr} {xs : List D}, Both R is ps → Both T ps xs → Tri (fun i p x => R i p ∧ T p x) is ps xs
  | _, _, _, .nil, .nil => .nil
  | _, _, _, .cons h1 h2, .cons h3 h4 => .cons ⟨h1, h3⟩ (tri_of (S := S) h2 h4)
theorem ios_of {T : Addr → D → Prop} : ∀ {ps : List Addr} {ss : List Sl}, Both (fun p s => ∃ x, s = Sl.io x ∧ T p x) ps ss → Both T ps (ss.filterMap cont)
  | _, _, .nil => .nil
  | _, _, .cons ⟨x, e, h⟩ r => by subst e; exact .cons h (ios_of r)
/-- the common part of both -/
theorem call_core {n : Nat} {f : Fn} {ta : TA} {l : List Ag} {B : Bs} {F H : Hp} {σ : St} {ρ : Rho} {Q : VK} (ha : SimA C W ta l) (hn : l.length = n) (R : Rep C B F H σ ρ)
    (q : match callB f l ρ with
      | .ok (true, x, ρ') => ∀ F' H' p, Same F F' → Rep C B F' H' σ ρ' → B.nw p → (∀ i, ¬ Holds σ ρ' i p) → Own C F' H' p x → Q (.ref p) H'
      | .ok (false, x, ρ') => ∀ F' H' v, Same F F' → Rep C B F' H' σ ρ' → Dp C.K F' v x → Q v H'
      | .ex n fs ρ' => PostX C W B F n fs ρ' σ
      | .bad => False) : tCallS (spD C n f) (WE W) ta σ H Q := by
  refine ha B F H σ ρ _ R ?_
  unfold callB at q
  have hlen : ∀ {l : List Ag} {ρ : Rho} {as : List Ar} {ρ1 : Rho}, agRun l ρ = .ok (as, ρ1) → as.length = l.length := by
    intro l
    induction l with
    | nil => intro ρ as ρ1 h; injection h with h; injection h with h1 _; subst h1; rfl
    | cons a l ih =>
      intro ρ as ρ1 h
      cases a with
      | e a =>
        obtain ⟨p, _, h⟩ := Res.bind_ok (show (a ρ).bind (fun p => (agRun l p.2).bind fun q => .ok (.d p.1 :: q.1, q.2)) = .ok (as, ρ1) from h)
        obtain ⟨p2, h2, h⟩ := Res.bind_ok h
        injection h with h; injection h with h1 _; subst h1
        simp [ih (show agRun l p.2 = .ok (p2.1, p2.2) from h2)]
      | io i =>
        unfold agRun at h
        split at h
        · obtain ⟨p2, h2, h⟩ := Res.bind_ok h
          injection h with h; injection h with h1 _; subst h1
          simp [ih (show agRun l ρ = .ok (p2.1, p2.2) from h2)]
        · cases h
  cases e : agRun l ρ with
  | ex n fs ρ' => rw [e] at q; exact q
  | bad => rw [e] at q; exact q
  | ok p =>
    obtain ⟨ars, ρ1⟩ := p
    rw [e] at q
    intro F1 H1 vs s1 R1 b
    simp only [Res.bind] at q
    cases ea : arSls ρ1 ars with
    | none => rw [ea] at q; exact q.elim
    | some as =>
      rw [ea] at q
      simp only at q
      by_cases nd : (arIs ars).Nodup
      · rw [if_pos nd] at q
        obtain ⟨ps, ao, bh⟩ := args_of R1 b ea nd
        refine ⟨by rw [b.length, hlen e]; exact hn, F1, as, ps, R1.sub, R1.tup, ao, holds_nodup R1 bh nd, ?_⟩
        have key : ∀ {F' H' : Hp} {xs : List D}, After F1 H1 ps F' H' → Both (fun p x => Own C F' H' p x) ps xs → Rep C B F' H' σ (reconts ρ1 (arIs ars) xs) ∧ Same F1 F' := fun {F' H' xs} af bo =>
          R1.called nd af.sub af.fr af.hk af.live af.tup (tri_of (S := fun _ _ => True) bh bo)
        cases ef : f as with
        | bad => rw [ef] at q; exact q
        | ex n fs ss =>
          rw [ef] at q
          intro F' H' d af bo xo
          obtain ⟨R2, s2⟩ := key af (ios_of bo)
          exact q F' H' d (s1.trans s2) R2 xo
        | ok r =>
          obtain ⟨fr, x, ios⟩ := r
          rw [ef] at q
          cases fr with
          | false =>
            intro F' H' y af bo dp
            obtain ⟨R2, s2⟩ := key af bo
            exact q F' H' y (s1.trans s2) R2 dp
          | true =>
            intro F' H' p af bo hp ho
            obtain ⟨R2, s2⟩ := key af bo
            obtain ⟨nF, nw, nh⟩ := R1.free hp
            refine q F' H' p (s1.trans s2) R2 nw (fun i hi => ?_) ho
            -- a slot that holds p held it ahead of the call, when nothing stood there
            obtain ⟨h1, y, h2⟩ := hi
            have : ∃ z, cont (look ρ1 i) = some z := by
              by_cases hj : i ∈ arIs ars
              · obtain ⟨_, _, _, _, hl⟩ := (tri_of (S := fun _ _ => True) bh bo).at nd hj (ρ := ρ1)
                rw [hl] at h2
                exact reSl_cont.mp ⟨_, h2⟩
              · rw [look_reconts_out hj] at h2; exact ⟨_, h2⟩
            exact nh i ⟨h1, this⟩
      · rw [if_neg nd] at q; exact q.elim
theorem s_call {n : Nat} {f : Fn} {ta : TA} {l : List Ag} (hn : l.length = n) (ha : SimA C W ta l) : SimE C W (tCallS (spD C n f) (WE W) ta) (dCall f l) := fun B F H σ ρ Q R q => by
  refine call_core ha hn R ?_
  unfold dCall at q
  cases e : callB f l ρ with
  | bad => rw [e] at q; exact q
  | ex n fs ρ' => rw [e] at q; exact q
  | ok p =>
    obtain ⟨b, x, ρ'⟩ := p
    rw [e] at q
    cases b with
    | false => exact q
    | true =>
      intro F' H' p s R' nw nh ho
      obtain ⟨nF, o, h1, h2⟩ := ho
      have sF : Same F' (upd F' p o) := sameUpd nF
      exact q _ H' _ (s.trans sF) (R'.freeze h1 nF nw nh) ((h2.same sF).dp upd_same)
theorem s_callF {n : Nat} {f : Fn} {ta : TA} {l : List Ag} (hn : l.length = n) (ha : SimA C W ta l) : SimF C W (tCallS (spD C n f) (WE W) ta) (dCallF f l) := fun B F H σ ρ Q R q => by
  refine call_core ha hn R ?_
  unfold dCallF at q
  cases e : callB f l ρ with
  | bad => rw [e] at q; exact q
  | ex n fs ρ' => rw [e] at q; exact q
  | ok p =>
    obtain ⟨b, x, ρ'⟩ := p
    rw [e] at q
    cases b with
    | false => exact q.elim
    | true => exact q
end

/-! ### a def's body as a function -/
def iosOf (ρ : Rho) : List D := ρ.filterMap fun | .io x => some x | _ => none
def iosS (ρ : Rho) : Rho := ρ.filter isIo
def finR : Res Fl → Res (Bool × D × List D)
  | .ok (.nx ρ) => .ok (false, .none, iosOf ρ)
  | .ok (.rt x ρ) => .ok (false, x, iosOf ρ)
  | .ok (.rf x ρ) => .ok (true, x, iosOf ρ)
  | .ok _ => .bad
  | .ex n fs ρ => .ex n fs (iosS ρ)
  | .bad => .bad
def fnD (N : Nat) (b : DS) : Fn := fun as => finR (b (as ++ List.replicate (N - as.length) .un))
section
variable {C : Ct}
def refOf : V → Addr
  | .ref a => a
  | _ => 0
theorem argsIo {F H : Hp} : ∀ {vs : List V} {as : List Sl} {ps : List Addr}, ArgsOk C F H vs as ps → ∀ p, p ∈ ps → ∃ x, Own C F H p x
  | _, _, _, .nil, p, h => by cases h
  | _, _, _, .d _ r, p, h => argsIo r p h
  | _, _, _, .io ho r, p, h => by
    rcases List.mem_cons.mp h with e | e
    · subst e; exact ⟨_, ho⟩
    · exact argsIo r p e
theorem argsSlot {F H : Hp} {B : Bs} : ∀ {vs : List V} {as : List Sl} {ps : List Addr} (k : Nat), ArgsOk C F H vs as ps → (∀ p ∈ ps, p ∈ B.ps) → (∀ i, i < vs.length → B.pa (k + i) = refOf (vs.getD i .non)) →
    ∀ i, SlOk C B F H (k + i) ((vs.map some)[i]?) (look as i)
  | _, _, _, k, .nil, _, _, i => by unfold look; simp; trivial
  | _, _, _, k, @ArgsOk.d _ _ _ v x vs as ps dp r, hp, ha, i => by
    cases i with
    | zero => exact ⟨v, rfl, dp⟩
    | succ i =>
      have := argsSlot (k + 1) r hp (fun j hj => by have := ha (j + 1) (by simp; omega); rw [show k + 1 + j = k + (j + 1) by omega, this]; rfl) i
      rw [show k + 1 + i = k + (i + 1) by omega] at this
      exact this
  | _, _, _, k, @ArgsOk.io _ _ _ p x vs as ps ho r, hp, ha, i => by
    cases i with
    | zero =>
      have := ha 0 (by simp)
      rw [Nat.add_zero] at this
      have e : B.pa k = p := this
      show some (some (V.ref p)) = some (some (V.ref (B.pa (k + 0)))) ∧ B.pa (k + 0) ∈ B.ps ∧ Own C F H (B.pa (k + 0)) x
      rw [Nat.add_zero, e]
      exact ⟨rfl, hp p List.mem_cons_self, ho⟩
    | succ i =>
      have := argsSlot (k + 1) r (fun q hq => hp q (List.mem_cons_of_mem _ hq)) (fun j hj => by have := ha (j + 1) (by simp; omega); rw [show k + 1 + j = k + (j + 1) by omega, this]; rfl) i
      rw [show k + 1 + i = k + (i + 1) by omega] at this
      exact this
/-- the callers' lists at the end, in their sequence -/
theorem iosEnd {F H F' H' : Hp} : ∀ {vs : List V} {as : List Sl} {ps : List Addr} {ρ : Rho}, ArgsOk C F H vs as ps → (∀ i, isIo (look ρ i) = isIo (look as i)) → (∀ i x, look ρ i = .io x → Own C F' H' (refOf (vs.getD i .non)) x) →
    Both (fun p x => Own C F' H' p x) ps (iosOf ρ) ∧ Both (fun p s => ∃ x, s = Sl.io x ∧ Own C F' H' p x) ps (iosS ρ)
  | _, _, _, ρ, .nil, hi, ho => by
    have : ∀ s ∈ ρ, isIo s = false := fun s hs => by
      obtain ⟨i, hi', e⟩ := List.mem_iff_getElem.mp hs
      have := hi i
      unfold look at this
      rw [List.getElem?_eq_getElem hi', e] at this
      simpa [isIo] using this
    have e1 : iosOf ρ = [] := by
      unfold iosOf
      rw [List.filterMap_eq_nil_iff]
      intro s hs
      have := this s hs
      cases s <;> first | rfl | cases this
    have e2 : iosS ρ = [] := by
      unfold iosS
      rw [List.filter_eq_nil_iff]
      intro s hs
      rw [this s hs]
      exact Bool.false_ne_true
    rw [e1, e2]
    exact ⟨.nil, .nil⟩
  | _, _, _, [], @ArgsOk.d _ _ _ v x vs as ps dp r, hi, ho => by
    exact iosEnd (ρ := []) r (fun i => by have := hi (i + 1); simpa [look] using this) (fun i x h => by unfold look at h; simp at h)
  | _, _, _, s :: ρ, @ArgsOk.d _ _ _ v x vs as ps dp r, hi, ho => by
    have h0 : isIo s = false := hi 0
    have ih := iosEnd (ρ := ρ) r (fun i => hi (i + 1)) (fun i x h => ho (i + 1) x h)
    unfold iosOf iosS at ih ⊢
    cases s <;> first | exact ih | cases h0
  | _, _, _, [], @ArgsOk.io _ _ _ p x vs as ps h r, hi, ho => by
    have := hi 0
    cases this
  | _, _, _, s :: ρ, @ArgsOk.io _ _ _ p x vs as ps h r, hi, ho => by
    have h0 : isIo s = true := hi 0
    have ih := iosEnd (ρ := ρ) r (fun i => hi (i + 1)) (fun i x h => ho (i + 1) x h)
    cases s with
    | io y =>
      have oy := ho 0 y rfl
      exact ⟨.cons oy ih.1, .cons ⟨y, rfl, oy⟩ ih.2⟩
    | _ => cases h0
/-- THE RULE for a def: what its body does on data -/
theorem fn_sim {N : List Str} {vs : List V} {H : Hp} {Q : VK} {E : XK} {b : DS} {t : TS} {n : Nat} (hb : SimS C (fun cls d _ H => E cls d H) t b) (hn : n ≤ N.length) (h : spD C n (fnD N.length b) vs H Q E) : t { nx := fun _ H' => Q .non H', rt := Q } (L2.start N vs) H := by
  obtain ⟨hl, F, as, ps, sF, tF, ao, nd, q⟩ := h
  have al := ao.len
  let B : Bs := { F0 := F, H0 := H, ps := ps, pa := fun i => refOf (vs.getD i .non), gd := fun _ => none, ia := fun i => isIo (look as i) }
  have lk : ∀ i, look (as ++ List.replicate (N.length - as.length) .un) i = look as i := fun i => by
    unfold look
    by_cases hi : i < as.length
    · rw [List.getElem?_append_left hi]
    · rw [List.getElem?_append_right (by omega), List.getElem?_eq_none (l := as) (by omega)]
      by_cases h2 : i - as.length < N.length - as.length
      · rw [List.getElem?_replicate, if_pos h2]; rfl
      · rw [List.getElem?_replicate, if_neg h2]
  have sg : ∀ i, i < as.length → (L2.start N vs)[i]? = (vs.map some)[i]? := fun i hi => by
    unfold L2.start
    rw [List.getElem?_append_left (by rw [List.length_map]; omega)]
  have noO : ∀ {vs : List V} {as : List Sl} {ps : List Addr}, ArgsOk C F H vs as ps → ∀ i x, look as i ≠ .o x := by
    intro vs as ps h
    induction h with
    | nil => intro i x e; unfold look at e; simp at e
    | d _ _ ih => intro i x e; cases i with
      | zero => cases e
      | succ i => exact ih i x e
    | io _ _ ih => intro i x e; cases i with
      | zero => cases e
      | succ i => exact ih i x e
  have slots : ∀ i, SlOk C B F H i (L2.start N vs)[i]? (look as i) := fun i => by
    by_cases hi : i < as.length
    · rw [sg i hi]
      have := argsSlot (B := B) 0 ao (fun p hp => hp) (fun j _ => by rw [Nat.zero_add]) i
      rwa [Nat.zero_add] at this
    · rw [look_out (by omega)]; trivial
  have inj : ∀ {vs : List V} {as : List Sl} {ps : List Addr}, ArgsOk C F H vs as ps → ps.Nodup → ∀ i j x y, look as i = .io x → look as j = .io y → refOf (vs.getD i .non) = refOf (vs.getD j .non) → i = j := by
    intro vs as ps h
    have mem : ∀ {vs : List V} {as : List Sl} {ps : List Addr}, ArgsOk C F H vs as ps → ∀ i x, look as i = .io x → refOf (vs.getD i .non) ∈ ps := by
      intro vs as ps h
      induction h with
      | nil => intro i x e; unfold look at e; simp at e
      | d _ _ ih => intro i x e; cases i with
        | zero => cases e
        | succ i => exact ih i x e
      | io _ _ ih => intro i x e; cases i with
        | zero => exact List.mem_cons_self
        | succ i => exact List.mem_cons_of_mem _ (ih i x e)
    induction h with
    | nil => intro _ i j x y e; unfold look at e; simp at e
    | d _ _ ih => intro nd i j x y e1 e2 e3; cases i with
      | zero => cases e1
      | succ i => cases j with
        | zero => cases e2
        | succ j => rw [ih nd i j x y e1 e2 e3]
    | io _ r ih => intro nd i j x y e1 e2 e3; cases i with
      | zero => cases j with
        | zero => rfl
        | succ j =>
          have m := mem r j y e2
          rw [List.getD_cons_zero, List.getD_cons_succ] at e3
          rw [← e3] at m
          exact ((List.nodup_cons.mp nd).1 m).elim
      | succ i => cases j with
        | zero =>
          have m := mem r i x e1
          rw [List.getD_cons_zero, List.getD_cons_succ] at e3
          rw [e3] at m
          exact ((List.nodup_cons.mp nd).1 m).elim
        | succ j => rw [ih (List.nodup_cons.mp nd).2 i j x y e1 e2 e3]
  have Rs : Rep C B F H (L2.start N vs) (as ++ List.replicate (N.length - as.length) .un) := by
    refine ⟨sF, fun _ _ => rfl, fun _ _ _ => rfl, fun p hp => ?_, fun a o h => (by cases h), fun i => by rw [lk], tF, ?_, fun i => by rw [lk]; exact slots i, fun i j p hi hj => ?_⟩
    · obtain ⟨x, _, o, h1, _⟩ := argsIo ao p hp
      rw [h1]; exact fun z => by cases z
    · unfold L2.start
      rw [List.length_append, List.length_append, List.length_map, List.length_replicate, List.length_replicate]
      omega
    · obtain ⟨h1, x, h2⟩ := hi
      obtain ⟨h3, y, h4⟩ := hj
      rw [lk] at h2 h4
      have s1 := slots i
      have s2 := slots j
      cases e1 : look as i with
      | un => rw [e1] at h2; cases h2
      | d z => rw [e1] at h2; cases h2
      | o z => exact absurd e1 (noO ao i z)
      | io z =>
        cases e2 : look as j with
        | un => rw [e2] at h4; cases h4
        | d z => rw [e2] at h4; cases h4
        | o z => exact absurd e2 (noO ao j z)
        | io z2 =>
          rw [e1] at s1
          rw [e2] at s2
          obtain ⟨g1, _⟩ := s1
          obtain ⟨g2, _⟩ := s2
          rw [h1] at g1
          rw [h3] at g2
          injection g1 with g1; injection g1 with g1; injection g1 with g1
          injection g2 with g2; injection g2 with g2; injection g2 with g2
          exact inj ao nd i j z z2 e1 e2 (g1.symm.trans g2)
  refine hb B F H (L2.start N vs) _ _ Rs ?_
  have fin : ∀ {F' H' : Hp} {σ' : St} {ρ' : Rho}, Rep C B F' H' σ' ρ' → After F H ps F' H' ∧ Both (fun p x => Own C F' H' p x) ps (iosOf ρ') ∧ Both (fun p s => ∃ x, s = Sl.io x ∧ Own C F' H' p x) ps (iosS ρ') := fun {F' H' σ' ρ'} R' => by
    refine ⟨⟨R'.sub, R'.fr, R'.hk, fun a h => ?_, R'.tup⟩, iosEnd ao (fun i => R'.ioe i) fun i x h => ?_⟩
    · by_cases hp : a ∈ ps
      · exact R'.live a hp
      · rw [R'.hk a h hp]; exact h
    · have s := R'.slot i
      rw [h] at s
      exact s.2.2
  unfold fnD at q
  cases e : b (as ++ List.replicate (N.length - as.length) .un) with
  | bad => rw [e] at q; exact q
  | ex n fs ρ' =>
    rw [e] at q
    intro σ' F' H' d s R' x
    obtain ⟨af, b1, b2⟩ := fin R'
    exact q F' H' d af b2 x
  | ok f =>
    rw [e] at q
    cases f with
    | nx ρ' =>
      intro F' H' σ' s R'
      obtain ⟨af, b1, b2⟩ := fin R'
      exact q F' H' .non af b1 .non
    | bk ρ' => exact q.elim
    | ct ρ' => exact q.elim
    | rt x ρ' =>
      intro F' H' σ' v s R' dp
      obtain ⟨af, b1, b2⟩ := fin R'
      exact q F' H' v af b1 dp
    | rf x ρ' =>
      intro F' H' σ' p s R' nw ho
      obtain ⟨af, b1, b2⟩ := fin R'
      exact q F' H' p af b1 nw.1 ho
end
end XD

set_option autoImplicit true
set_option Elab.async false
set_option linter.all false
set_option maxRecDepth 100000
set_option maxHeartbeats 1000000
set_option autoImplicit true
/-! the data layer: more operations, methods of lists, stores -/
namespace XD
open PySem PySem.Spec PyProof.Rows L2

/-! ### list + list, list * int: any list -/
section
variable {X : Cx}
theorem Rd.lstM {pins : List (Addr × Obj)} {s : Shared} {σ : L2.St} {H : Hp} {p : Addr} {xs : List V} (I : Inv X pins σ H s) (h : Rd H p (.lst xs)) :
    xs.length ≤ sizeLine ∧ ∃ (its : List Value) (n : Nat), Vals xs its ∧ xs.length = its.length ∧ s.heap.get? p = some { cls := .type "list", data := .seq its.toArray n } := by
  obtain ⟨z, its, n, r, e⟩ := h.ok I.hok
  exact ⟨z, its, n, r, r.length, e⟩
def rCatR (K : PySem.W.Frag) : R2 := fun x y H Q => ∃ l b xs zs, x = .ref l ∧ y = .ref b ∧ SqL K H l xs ∧ SqL K H b zs ∧ xs.length + zs.length ≤ sizeLine ∧ ∀ p, H p = none → Q (.ref p) (upd H p (.lst (xs ++ zs)))
theorem op_catR : OpR X (binaryOp .Add) (rCatR X.K) := by
  intro pins s σ H x y v u Q I rx ry h
  obtain ⟨l, b, xs, zs, rfl, rfl, hH, hB, hz, q⟩ := h
  cases rx
  cases ry
  obtain ⟨its, r, ⟨⟨cls, dd, data, sl⟩, n, ho, hc, hd, hs⟩, z⟩ := I.list hH
  obtain ⟨its2, r2, ⟨⟨cls2, dd2, data2, sl2⟩, n2, ho2, hc2, hd2, hs2⟩, z2⟩ := I.list hB
  simp only at hc hd hs hc2 hd2 hs2
  subst hc hd hs hc2 hd2 hs2
  have hl := r.length
  have hl2 := r2.length
  refine concat_meets ⟨_, ho, rfl⟩ ⟨_, ho2, rfl⟩ noFill_list_add seq_list_add PySem.F.slot_list_add PySem.F.entry_list_add (PySem.F.args_list_add_2 _ _) (list_addW l b its.toArray its2.toArray n n2 none none sl sl2 (by rw [List.size_toArray, List.size_toArray]; omega)) ⟨ho, ho2, ?_⟩
  have ea : its.toArray ++ its2.toArray = (its ++ its2).toArray := by simp
  rw [ea]
  exact ⟨.ref _, _, I.lnew (t' := s.toks) (r.append r2) (by rw [List.length_append]; omega), rfl, q _ I.fresh⟩
theorem list_extendW (l : Addr) (items : Array Value) (n : Nat) (b : Addr) (items2 : Array Value) (n2 : Nat) (sl2 : Array (Option Value)) (hc0 : ¬(!items.isEmpty && Builtin.List.listTooLong (items.size + items2.size)) = true) (hc1 : items.size ≤ sizeLine) (hs2 : items.size + items2.size ≤ sizeLine + 1) :
    Meets (Builtin.«list.extend» ⟨[.ref l, .ref b], []⟩) (fun _ R s => s.heap.get? l = some { cls := .type "list", dict := none, data := .seq items n, slots := #[] } ∧ s.heap.get? b = some { cls := .type "list", dict := none, data := .seq items2 n2, slots := sl2 } ∧ R (.ok (.ret Value.none)) { s with heap := s.heap.update l (Obj.mapSeq fun x => x ++ items2), toks := s.toks }) :=
  .of_wp fun prog w A R s h => by
    obtain ⟨hp, g, d, tk, os⟩ := s; obtain ⟨hl, hb, h⟩ := h; have f1 := AutoSeq1.idx_int; have f2 := AutoSeq1.sub_tuple_tuple; have f3 := AutoSeq1.sub_list_list; have f4 := AutoSeq1.sub_tuple_list; have f5 := AutoSeq1.sub_list_tuple;
    have hz' : (items ++ items2).size ≤ sizeLine + 1 := by rw [Array.size_append]; exact hs2
    wp_walk using (wpAny_updateSeq hl rfl (hz := hc1) (_hz' := hz')), AutoSeq1.wpAny_loadPart' hl, AutoSeq1.wpAny_loadPart' hb; exact ⟨_, rfl, h⟩
def rExtR (K : PySem.W.Frag) : V → List V → Hp → VK → Prop := fun x vs H Q => ∃ l b xs zs, x = .ref l ∧ vs = [.ref b] ∧ H l = some (.lst xs) ∧ SqL K H b zs ∧ xs.length + zs.length ≤ sizeLine ∧ Q .non (upd H l (.lst (xs ++ zs)))
theorem mt_extR : MtM X "list.extend" (rExtR X.K) := by
  intro pins s σ H x vs v us Q I rx rv h
  obtain ⟨l, b, xs, zs, rfl, rfl, hH, hB, hz, q⟩ := h
  cases rx
  obtain ⟨u, rfl, ru⟩ := rv.one
  cases ru
  obtain ⟨z, its, n, r, hl, e⟩ := I.lstM hH
  obtain ⟨its2, r2, ⟨⟨cls2, dd2, data2, sl2⟩, n2, e2, hc2, hd2, hs2⟩, z2⟩ := I.list hB
  simp only at hc2 hd2 hs2
  subst hc2 hd2 hs2
  have hl2 := r2.length
  have hsz : its.toArray.size + its2.toArray.size ≤ sizeLine := by rw [List.size_toArray, List.size_toArray]; omega
  have hlong : ¬ (!its.toArray.isEmpty && Builtin.List.listTooLong (its.toArray.size + its2.toArray.size)) = true := by
    rw [notLongL hsz, Bool.and_false]
    exact Bool.false_ne_true
  refine call_meets F.slot_list_extend ⟨_, e, rfl⟩ F.entry_list_extend (F.args_list_extend_2 _ _)
    (list_extendW l its.toArray n b its2.toArray n2 sl2 hlong (by rw [List.size_toArray]; omega) (by omega)) ⟨e, e2, ?_⟩
  refine ⟨.non, _, I.lset (its' := its ++ its2) hH e (by simp) (r.append r2) ?_, rfl, q⟩
  rw [List.length_append]
  omega
end
def fCat : D → D → Option D
  | .list xs, .list ys => gd (xs.length + ys.length ≤ sizeLine) (.list (xs ++ ys))
  | _, _ => none
def fCatT : D → D → Option D
  | .tuple xs, .tuple ys => gd (xs.length + ys.length ≤ sizeLine) (.tuple (xs ++ ys))
  | _, _ => none
def fRep : D → D → Option D
  | .list xs, .int k => gd (-(2 ^ 63) ≤ k ∧ k < 2 ^ 63 ∧ xs.length * k.toNat ≤ sizeLine) (.list (List.replicate k.toNat xs).flatten)
  | _, _ => none
def fAddS : D → D → Option D
  | .str a, .str b => gd (a.length + b.length ≤ sizeLine) (.str (a ++ b))
  | _, _ => none
def fMulS : D → D → Option D
  | .str a, .int n => gd (-(2 ^ 63) ≤ n ∧ n < 2 ^ 63 ∧ a.length * n.toNat ≤ sizeLine) (.str (repS a n))
  | _, _ => none
section
variable {C : Ct} {W : WX}
theorem o_cat : O2F C (rCatR C.K) fCat := fun B F H σ ρ x y dx dy z Q R lx ly e q => by
  unfold fCat at e
  split at e
  · obtain ⟨e1, rfl⟩ := gd_some e
    obtain ⟨a, xs, rfl, h1, h2⟩ := lx.lst R.sub
    obtain ⟨b, ys, rfl, h3, h4⟩ := ly.lst R.sub
    refine ⟨a, b, xs, ys, rfl, rfl, h1, h3, by rw [DpAll.length h2, DpAll.length h4]; exact e1, fun p hp => ?_⟩
    obtain ⟨R2, n0, nh, ho⟩ := R.fresh hp (DpAll.app h2 h4)
    exact q _ _ _ (Same.refl _) R2 n0 nh ho
  · cases e
theorem o_catT : O2 C (rCatA C.K) fCatT := fun B F H σ ρ x y dx dy z Q R lx ly e q => by
  unfold fCatT at e
  split at e
  · obtain ⟨e1, rfl⟩ := gd_some e
    have dx := lx.tupD
    have dy := ly.tupD
    cases dx with
    | @tup a xs _ h1 h2 =>
    cases dy with
    | @tup b ys _ h3 h4 =>
    refine ⟨a, b, xs, ys, rfl, rfl, SqT.same R.sub h1, SqT.same R.sub h3, by rw [DpAll.length h2, DpAll.length h4]; exact e1, fun e => ?_, fun _ e => ?_, fun n1 n2 p hp => ?_⟩
    · subst e
      cases h2
      exact q F H _ (Same.refl _) R (.tup h3 h4)
    · subst e
      cases h4
      rw [List.append_nil] at q
      exact q F H _ (Same.refl _) R (.tup h1 h2)
    · have sF := sameUpd (o := .tup (xs ++ ys)) (R.free hp).1
      exact q _ _ _ sF (R.new hp) (.tup (.of upd_same) (DpAll.same sF (DpAll.app h2 h4)))
  · cases e
/-- a new list times an int -/
theorem s_rep {ta tb : TE} {a b : DE} (ha : SimF C W ta a) (hs : SimE C W tb b) : SimF C W (tOp rRep ta tb) (d2 fRep a b) := fun B F H σ ρ Q R q => by
  refine ha B F H σ ρ _ R ?_
  unfold d2 at q
  cases e : a ρ with
  | ex n fs ρ' => rw [e] at q; exact q
  | bad => rw [e] at q; exact q
  | ok p =>
    obtain ⟨x, ρ1⟩ := p
    rw [e] at q
    intro F1 H1 p s1 R1 nw nh ho
    replace q : PostF C W B F σ ((b ρ1).bind fun q => lift1 (fRep x q.1) q.2) Q := q
    obtain ⟨nF, o, h1, h2⟩ := ho
    have sF : Same F1 (upd F1 p o) := sameUpd nF
    have R2 := R1.freeze h1 nF nw nh
    refine hs B _ H1 σ ρ1 _ R2 ?_
    cases e1 : b ρ1 with
    | ex n fs ρ' => rw [e1] at q; exact PostX.mono q (s1.trans sF)
    | bad => rw [e1] at q; exact q
    | ok p2 =>
      obtain ⟨y, ρ2⟩ := p2
      rw [e1] at q
      intro F3 H3 w s3 R3 dp
      replace q : PostF C W B F σ (lift1 (fRep x y) ρ2) Q := q
      have h3 : F3 p = some o := s3 _ _ upd_same
      have s13 := sF.trans s3
      cases e2 : fRep x y with
      | none => rw [e2] at q; exact q.elim
      | some z =>
        rw [e2] at q
        unfold fRep at e2
        split at e2
        · obtain ⟨⟨g1, g2, g3⟩, rfl⟩ := gd_some e2
          cases dp
          rcases h2 with ⟨vs, ds, e4, rfl, h2⟩ | ⟨vs, ds, e4, rfl, h2⟩
          · injection e4 with e4; subst e4
            refine ⟨p, _, vs, rfl, rfl, R3.sub _ _ h3, g1, g2, by rw [DpAll.length h2]; exact g3, fun t ht => ?_⟩
            obtain ⟨R4, n0, nh', ho⟩ := R3.fresh ht (DpAll.rep (DpAll.same s13 h2) _)
            exact q _ _ _ (s1.trans s13) R4 n0 nh' ho
          · cases e4
        · cases e2
theorem o_addS : O2 C (fun x y H Q => ∃ i j, x = .str i ∧ y = .str j ∧ i.length + j.length ≤ sizeLine ∧ Q (.str (i ++ j)) H) fAddS := fun B F H σ ρ x y dx dy z Q R lx ly e q => by
  unfold fAddS at e
  split at e
  · obtain ⟨e1, rfl⟩ := gd_some e
    exact ⟨_, _, lx.str, ly.str, e1, q F H _ (Same.refl _) R (.str _)⟩
  · cases e
theorem o_mulS : O2 C (fun x y H Q => ∃ (z : Str) (n : Int), x = .str z ∧ y = .int n ∧ -(2 ^ 63) ≤ n ∧ n < 2 ^ 63 ∧ z.length * n.toNat ≤ sizeLine ∧ Q (.str (repS z n)) H) fMulS := fun B F H σ ρ x y dx dy z Q R lx ly e q => by
  unfold fMulS at e
  split at e
  · obtain ⟨⟨e1, e2, e3⟩, rfl⟩ := gd_some e
    exact ⟨_, _, lx.str, ly.int, e1, e2, e3, q F H _ (Same.refl _) R (.str _)⟩
  · cases e
theorem DpAll.cutW {K : PySem.W.Frag} {H : Hp} {ds : List D} {vs : List V} (h : DpAll K H vs ds) {lo hi : Option Int} (hw : HT.sIx vs.length 0 lo = 0 ∧ HT.sIx vs.length vs.length hi = vs.length) : cutD ds lo hi = ds := by
  unfold cutD
  rw [← DpAll.length h, hw.1, hw.2, List.drop_zero, Nat.sub_zero, List.take_of_length_le]
  rw [DpAll.length h]; exact Nat.le_refl _
theorem o_slT : OS C (rSlA C.K) slT := fun B F H σ ρ x dx lo hi z Q R lx e q => by
  cases dx with
  | tuple ds =>
    replace e : some (PyData.tuple (cutD ds lo hi)) = some z := e
    cases e
    cases lx.tupD with
    | @tup a xs _ h1 h2 =>
    refine ⟨a, xs, rfl, SqT.same R.sub h1, fun hw => ?_, fun hw p hp => ?_⟩
    · rw [DpAll.cutW h2 hw] at q
      exact q F H _ (Same.refl _) R (.tup h1 h2)
    · have sF := sameUpd (o := .tup (cutV xs lo hi)) (R.free hp).1
      exact q _ _ _ sF (R.new hp) (.tup (.of upd_same) (DpAll.same sF (DpAll.cut h2 lo hi)))
  | _ => cases e

/-! ### built-ins -/
theorem s_cb1 {r : List V → Hp → VK → Prop} {ta : TE} {a : DE} {f : D → Option D} (ha : SimP C W ta a) (h : O1 C (fun x H Q => r [x] H Q) f) : SimE C W (tCB r (tCons ta tNil)) (d1 f a) := fun B F H σ ρ Q R q => s_un (ta := ta) (r1 := fun x H Q => r [x] H Q) ha h B F H σ ρ Q R q
theorem s_cb1F {r : List V → Hp → VK → Prop} {ta : TE} {a : DE} {f : D → Option D} (ha : SimP C W ta a) (h : O1F C (fun x H Q => r [x] H Q) f) : SimF C W (tCB r (tCons ta tNil)) (d1 f a) := fun B F H σ ρ Q R q => s_unF (ta := ta) (r1 := fun x H Q => r [x] H Q) ha h B F H σ ρ Q R q
theorem s_cb2 {r : List V → Hp → VK → Prop} {ta tb : TE} {a b : DE} {f : D → D → Option D} (ha : SimE C W ta a) (hb : SimP C W tb b) (h : O2 C (fun x y H Q => r [x, y] H Q) f) : SimE C W (tCB r (tCons ta (tCons tb tNil))) (d2 f a b) := fun B F H σ ρ Q R q => s_op (ta := ta) (tb := tb) (r := fun x y H Q => r [x, y] H Q) ha hb h B F H σ ρ Q R q
def fLen : D → Option D
  | .list xs => some (.int xs.length)
  | .tuple xs => some (.int xs.length)
  | _ => none
theorem o_len : O1 C (fun x H Q => ∃ p ys, [x] = [V.ref p] ∧ (SqL C.K H p ys ∨ SqT C.K H p ys) ∧ Q (.int ys.length) H) fLen := fun B F H σ ρ x dx z Q R lx e q => by
  unfold fLen at e
  split at e
  · cases e
    obtain ⟨a, xs, rfl, h1, h2⟩ := lx.lst R.sub
    exact ⟨a, xs, rfl, .inl h1, by rw [DpAll.length h2]; exact q F H _ (Same.refl _) R (.int _)⟩
  · cases e
    obtain ⟨a, xs, rfl, h1, h2⟩ := lx.tup
    exact ⟨a, xs, rfl, .inr (SqT.same R.sub h1), by rw [DpAll.length h2]; exact q F H _ (Same.refl _) R (.int _)⟩
  · cases e
def fLenS : D → Option D
  | .str x => gd (x.length ≤ sizeLine) (.int x.length)
  | _ => none
theorem o_lenS : O1 C (fun x H Q => ∃ z, [x] = [V.str z] ∧ z.length ≤ sizeLine ∧ Q (.int z.length) H) fLenS := fun B F H σ ρ x dx z Q R lx e q => by
  cases dx with
  | str s =>
    obtain ⟨e1, rfl⟩ := gd_some (show gd (s.length ≤ sizeLine) (.int s.length) = some z from e)
    exact ⟨s, by rw [lx.str], e1, q F H _ (Same.refl _) R (.int _)⟩
  | _ => cases e
def fList : D → Option D
  | .list xs => some (.list xs)
  | .tuple xs => some (.list xs)
  | _ => none
theorem o_list : O1F C (fun x H Q => ∃ p ys, [x] = [V.ref p] ∧ (SqL C.K H p ys ∨ SqT C.K H p ys) ∧ ∀ l, H l = none → Q (.ref l) (upd H l (.lst ys))) fList := fun B F H σ ρ x dx z Q R lx e q => by
  unfold fList at e
  split at e
  · cases e
    obtain ⟨a, xs, rfl, h1, h2⟩ := lx.lst R.sub
    refine ⟨a, xs, rfl, .inl h1, fun l hl => ?_⟩
    obtain ⟨R2, n0, nh, ho⟩ := R.fresh hl h2
    exact q _ _ _ (Same.refl _) R2 n0 nh ho
  · cases e
    obtain ⟨a, xs, rfl, h1, h2⟩ := lx.tup
    refine ⟨a, xs, rfl, .inr (SqT.same R.sub h1), fun l hl => ?_⟩
    obtain ⟨R2, n0, nh, ho⟩ := R.fresh hl h2
    exact q _ _ _ (Same.refl _) R2 n0 nh ho
  · cases e
def fTuple : D → Option D
  | .list xs => some (.tuple xs)
  | .tuple xs => some (.tuple xs)
  | _ => none
theorem o_tuple : O1 C (fun x H Q => ∃ p ys, [x] = [V.ref p] ∧ ((SqL C.K H p ys ∧ ∀ l, H l = none → Q (.ref l) (upd H l (.tup ys))) ∨ (SqT C.K H p ys ∧ Q (.ref p) H))) fTuple := fun B F H σ ρ x dx z Q R lx e q => by
  unfold fTuple at e
  split at e
  · cases e
    obtain ⟨a, xs, rfl, h1, h2⟩ := lx.lst R.sub
    refine ⟨a, xs, rfl, .inl ⟨h1, fun l hl => ?_⟩⟩
    have sF := sameUpd (o := .tup xs) (R.free hl).1
    exact q _ _ _ sF (R.new hl) (.tup (.of upd_same) (DpAll.same sF h2))
  · cases e
    cases lx.tupD with
    | @tup a xs _ h1 h2 => exact ⟨a, xs, rfl, .inr ⟨SqT.same R.sub h1, q F H _ (Same.refl _) R (.tup h1 h2)⟩⟩
  · cases e
def fInt : D → Option D
  | .int i => some (.int i)
  | _ => none
theorem o_int : O1 C (fun x H Q => ∃ i, [x] = [V.int i] ∧ Q (.int i) H) fInt := fun B F H σ ρ x dx z Q R lx e q => by
  cases dx with
  | int i => cases e; exact ⟨i, by rw [lx.int], q F H _ (Same.refl _) R (.int _)⟩
  | _ => cases e
def fIntB : D → Option D
  | .int i => some (.int i)
  | .bool b => some (.int (if b then 1 else 0))
  | _ => none
theorem o_intB : O1 C (fun x H Q => (∃ i, [x] = [V.int i] ∧ Q (.int i) H) ∨ ∃ k, [x] = [V.bl k] ∧ Q (.int (if k then 1 else 0)) H) fIntB := fun B F H σ ρ x dx z Q R lx e q => by
  cases dx with
  | int i => cases e; exact .inl ⟨i, by rw [lx.int], q F H _ (Same.refl _) R (.int _)⟩
  | bool b => cases e; exact .inr ⟨b, by rw [lx.bool], q F H _ (Same.refl _) R (.int _)⟩
  | _ => cases e
def fAbs : D → Option D
  | .int i => some (.int (if i < 0 then -i else i))
  | _ => none
theorem o_abs : O1 C (fun x H Q => ∃ i, [x] = [V.int i] ∧ Q (.int (if i < 0 then -i else i)) H) fAbs := fun B F H σ ρ x dx z Q R lx e q => by
  cases dx with
  | int i => cases e; exact ⟨i, by rw [lx.int], q F H _ (Same.refl _) R (.int _)⟩
  | _ => cases e
def fStrI : D → Option D
  | .int i => gd (i.natAbs.log2 < 1920) (.str (toString i))
  | _ => none
theorem o_strI : O1 C (fun x H Q => ∃ i, [x] = [V.int i] ∧ i.natAbs.log2 < 1920 ∧ Q (.str (toString i)) H) fStrI := fun B F H σ ρ x dx z Q R lx e q => by
  cases dx with
  | int i =>
    obtain ⟨e1, rfl⟩ := gd_some (show gd (i.natAbs.log2 < 1920) (.str (toString i)) = some z from e)
    exact ⟨i, by rw [lx.int], e1, q F H _ (Same.refl _) R (.str _)⟩
  | _ => cases e
def fMax2 := onI fun i j => some (.int (if j > i then j else i))
def fMin2 := onI fun i j => some (.int (if j < i then j else i))
theorem o_max2 : O2 C (fun x y H Q => ∃ i j, [x, y] = [V.int i, .int j] ∧ Q (.int (if j > i then j else i)) H) fMax2 := fun B F H σ ρ x y dx dy z Q R lx ly e q => by
  obtain ⟨i, j, rfl, rfl, e⟩ := onI_some e
  cases e
  exact ⟨i, j, by rw [lx.int, ly.int], q F H _ (Same.refl _) R (.int _)⟩
theorem o_min2 : O2 C (fun x y H Q => ∃ i j, [x, y] = [V.int i, .int j] ∧ Q (.int (if j < i then j else i)) H) fMin2 := fun B F H σ ρ x y dx dy z Q R lx ly e q => by
  obtain ⟨i, j, rfl, rfl, e⟩ := onI_some e
  cases e
  exact ⟨i, j, by rw [lx.int, ly.int], q F H _ (Same.refl _) R (.int _)⟩
/-! lists of ints, of bools, of texts -/
def intsD : List D → Option (List Int)
  | [] => some []
  | .int i :: l => (intsD l).map (i :: ·)
  | _ => none
theorem intsD_map : ∀ {l : List D} {ns : List Int}, intsD l = some ns → l = ns.map .int
  | [], ns, h => by injection h with h; subst h; rfl
  | .int i :: l, ns, h => by
    obtain ⟨ms, e, rfl⟩ := Option.map_eq_some_iff.mp (show (intsD l).map (i :: ·) = some ns from h)
    rw [intsD_map e]; rfl
theorem intsD_of : ∀ ns : List Int, intsD (ns.map .int) = some ns
  | [] => rfl
  | n :: ns => by rw [List.map_cons, intsD, intsD_of ns]; rfl
def boolsD : List D → Option (List Bool)
  | [] => some []
  | .bool i :: l => (boolsD l).map (i :: ·)
  | _ => none
theorem boolsD_map : ∀ {l : List D} {ns : List Bool}, boolsD l = some ns → l = ns.map .bool
  | [], ns, h => by injection h with h; subst h; rfl
  | .bool i :: l, ns, h => by
    obtain ⟨ms, e, rfl⟩ := Option.map_eq_some_iff.mp (show (boolsD l).map (i :: ·) = some ns from h)
    rw [boolsD_map e]; rfl
theorem boolsD_of : ∀ ns : List Bool, boolsD (ns.map .bool) = some ns
  | [] => rfl
  | n :: ns => by rw [List.map_cons, boolsD, boolsD_of ns]; rfl
def strsD : List D → Option (List Str)
  | [] => some []
  | .str i :: l => (strsD l).map (i :: ·)
  | _ => none
theorem strsD_map : ∀ {l : List D} {ns : List Str}, strsD l = some ns → l = ns.map .str
  | [], ns, h => by injection h with h; subst h; rfl
  | .str i :: l, ns, h => by
    obtain ⟨ms, e, rfl⟩ := Option.map_eq_some_iff.mp (show (strsD l).map (i :: ·) = some ns from h)
    rw [strsD_map e]; rfl
theorem strsD_of : ∀ ns : List Str, strsD (ns.map .str) = some ns
  | [] => rfl
  | n :: ns => by rw [List.map_cons, strsD, strsD_of ns]; rfl
def fSum : D → Option D
  | .list xs => (intsD xs).map fun ns => .int ns.sum
  | _ => none
theorem o_sum : O1 C (fun x H Q => rSum C.K [x] H Q) fSum := fun B F H σ ρ x dx z Q R lx e q => by
  cases dx with
  | list ds =>
    obtain ⟨ns, e1, rfl⟩ := Option.map_eq_some_iff.mp (show (intsD ds).map (fun ns => PyData.int ns.sum) = some z from e)
    obtain ⟨a, xs, rfl, h1, h2⟩ := lx.lst R.sub
    rw [intsD_map e1] at h2
    obtain rfl := DpAll.ints h2
    exact ⟨a, ns, rfl, h1, q F H _ (Same.refl _) R (.int _)⟩
  | _ => cases e
def fAll : D → Option D
  | .list xs => (boolsD xs).map fun ns => .bool (ns.all id)
  | _ => none
def fAny : D → Option D
  | .list xs => (boolsD xs).map fun ns => .bool (ns.any id)
  | _ => none
theorem o_all : O1 C (fun x H Q => rAll C.K [x] H Q) fAll := fun B F H σ ρ x dx z Q R lx e q => by
  cases dx with
  | list ds =>
    obtain ⟨ns, e1, rfl⟩ := Option.map_eq_some_iff.mp (show (boolsD ds).map (fun ns => PyData.bool (ns.all id)) = some z from e)
    obtain ⟨a, xs, rfl, h1, h2⟩ := lx.lst R.sub
    rw [boolsD_map e1] at h2
    obtain rfl := DpAll.bools h2
    exact ⟨a, ns, rfl, h1, q F H _ (Same.refl _) R (.bl _)⟩
  | _ => cases e
theorem o_any : O1 C (fun x H Q => rAny C.K [x] H Q) fAny := fun B F H σ ρ x dx z Q R lx e q => by
  cases dx with
  | list ds =>
    obtain ⟨ns, e1, rfl⟩ := Option.map_eq_some_iff.mp (show (boolsD ds).map (fun ns => PyData.bool (ns.any id)) = some z from e)
    obtain ⟨a, xs, rfl, h1, h2⟩ := lx.lst R.sub
    rw [boolsD_map e1] at h2
    obtain rfl := DpAll.bools h2
    exact ⟨a, ns, rfl, h1, q F H _ (Same.refl _) R (.bl _)⟩
  | _ => cases e
def maxL : Int → List Int → Int
  | m, [] => m
  | m, x :: l => maxL (if x > m then x else m) l
theorem maxL_ge : ∀ (l : List Int) (m : Int), m ≤ maxL m l ∧ ∀ y ∈ l, y ≤ maxL m l
  | [], m => ⟨Int.le_refl _, fun y h => by cases h⟩
  | x :: l, m => by
    have ih := maxL_ge l (if x > m then x else m)
    unfold maxL
    refine ⟨?_, fun y hy => ?_⟩
    · have := ih.1
      split at this <;> omega
    · rcases List.mem_cons.mp hy with e | e
      · subst e; have := ih.1; split at this <;> omega
      · exact ih.2 y e
theorem maxL_mem : ∀ (l : List Int) (m : Int), maxL m l = m ∨ maxL m l ∈ l
  | [], m => .inl rfl
  | x :: l, m => by
    unfold maxL
    rcases maxL_mem l (if x > m then x else m) with e | e
    · rw [e]
      split
      · exact .inr List.mem_cons_self
      · exact .inl rfl
    · exact .inr (List.mem_cons_of_mem _ e)
def minL : Int → List Int → Int
  | m, [] => m
  | m, x :: l => minL (if x < m then x else m) l
def fMax : D → Option D
  | .list xs => match intsD xs with
    | some (n :: ns) => some (.int (maxL n ns))
    | _ => none
  | _ => none
theorem o_max : O1 C (fun x H Q => rMax C.K [x] H Q) fMax := fun B F H σ ρ x dx z Q R lx e q => by
  cases dx with
  | list ds =>
    replace e : (match intsD ds with | some (n :: ns) => some (PyData.int (maxL n ns)) | _ => none) = some z := e
    cases e1 : intsD ds with
    | none => rw [e1] at e; cases e
    | some l =>
      rw [e1] at e
      cases l with
      | nil => cases e
      | cons n ns =>
        cases e
        obtain ⟨a, xs, rfl, h1, h2⟩ := lx.lst R.sub
        rw [intsD_map e1] at h2
        obtain rfl := DpAll.ints h2
        refine ⟨a, n :: ns, rfl, h1, by simp, fun m hm hy => ?_⟩
        have e2 : m = maxL n ns := by
          have g := maxL_ge ns n
          have h3 : maxL n ns ≤ m := by
            rcases maxL_mem ns n with e | e
            · rw [e]; exact hy n List.mem_cons_self
            · exact hy _ (List.mem_cons_of_mem _ e)
          have h4 : m ≤ maxL n ns := by
            rcases List.mem_cons.mp hm with e | e
            · subst e; exact g.1
            · exact g.2 m e
          omega
        rw [e2]
        exact q F H _ (Same.refl _) R (.int _)
  | _ => cases e
def fJoin : D → D → Option D
  | .str a, .list xs => match strsD xs with
    | some ys => gd ((ys.map (·.length)).sum + ys.length * a.length ≤ 16777216) (.str (Txt.join a ys))
    | none => none
  | _, _ => none
def dJoin (a b : DE) : DE := fun ρ => (a ρ).bind fun p => match p.1 with
  | .str s => (b p.2).bind fun q => lift1 (fJoin (.str s) q.1) q.2
  | _ => .bad
theorem s_join {ta tb : TE} {a b : DE} {r : V → List V → Hp → VK → Prop} (ha : SimE C W ta a) (hb : SimP C W tb b)
    (hr : r = fun x xs H Q => ∃ a p, ∃ ys : List Str, x = .str a ∧ xs = [.ref p] ∧ (SqL C.K H p (ys.map V.str) ∨ SqT C.K H p (ys.map V.str)) ∧ (ys.map (·.length)).sum + ys.length * a.length ≤ 16777216 ∧ Q (.str (Txt.join a ys)) H) :
    SimE C W (tM1 r ta tb) (dJoin a b) := fun B F H σ ρ Q R q => by
  subst hr
  refine ha B F H σ ρ _ R ?_
  unfold dJoin at q
  cases e : a ρ with
  | ex n fs ρ' => rw [e] at q; exact q
  | bad => rw [e] at q; exact q
  | ok p =>
    obtain ⟨x, ρ1⟩ := p
    rw [e] at q
    intro F1 H1 v s1 R1 dp
    cases x with
    | str sx =>
      replace q : PostE C W B F σ ((b ρ1).bind fun q => lift1 (fJoin (.str sx) q.1) q.2) Q := q
      cases dp
      refine ⟨⟨sx, rfl⟩, hb B F1 H1 σ ρ1 _ R1 ?_⟩
      cases e1 : b ρ1 with
      | ex n fs ρ' => rw [e1] at q; exact PostX.mono q s1
      | bad => rw [e1] at q; exact q
      | ok p2 =>
        obtain ⟨y, ρ2⟩ := p2
        rw [e1] at q
        intro F2 H2 w s2 R2 lk
        replace q : PostE C W B F σ (lift1 (fJoin (.str sx) y) ρ2) Q := q
        cases y with
        | list ds =>
          replace q : PostE C W B F σ (lift1 (match strsD ds with | some ys => gd ((ys.map (·.length)).sum + ys.length * sx.length ≤ 16777216) (.str (Txt.join sx ys)) | none => none) ρ2) Q := q
          cases es : strsD ds with
          | none => rw [es] at q; exact q.elim
          | some ys =>
            rw [es] at q
            replace q : PostE C W B F σ (lift1 (gd ((ys.map (·.length)).sum + ys.length * sx.length ≤ 16777216) (.str (Txt.join sx ys))) ρ2) Q := q
            obtain ⟨p, xs, rfl, h1, h2⟩ := lk.lst R2.sub
            rw [strsD_map es] at h2
            obtain rfl := DpAll.strs h2
            unfold gd at q
            by_cases hz : (ys.map (·.length)).sum + ys.length * sx.length ≤ 16777216
            · rw [if_pos hz] at q
              exact ⟨sx, p, ys, rfl, rfl, .inl h1, hz, q F2 H2 _ (s1.trans s2) R2 (.str _)⟩
            · rw [if_neg hz] at q; exact q.elim
        | _ => exact q.elim
    | _ => exact q.elim

/-! ### methods of a list in a slot -/
/-- what a method does with a list's content: the answer, the new content -/
def mth (i : Nat) (f : D → Option (D × D)) (ρ : Rho) : Res (D × Rho) := match cont (look ρ i) with
  | some x => match f x with
    | some (z, x') => .ok (z, recont ρ i x')
    | none => .bad
  | none => .bad
def isL (ρ : Rho) (i : Nat) : Bool := match cont (look ρ i) with
  | some (.list _) => true
  | _ => false
def dM0 (i : Nat) (f : D → Option (D × D)) : DE := fun ρ => if isL ρ i = true then mth i f ρ else .bad
def dM1 (i : Nat) (f : D → D → Option (D × D)) (a : DE) : DE := fun ρ => if isL ρ i = true then (a ρ).bind fun p => mth i (f p.1) p.2 else .bad
def OM0 (C : Ct) (r : V → List V → Hp → VK → Prop) (f : D → Option (D × D)) : Prop := ∀ B F H σ ρ i q x z x' (Q : VK), Rep C B F H σ ρ → Holds σ ρ i q → Own C F H q x → f x = some (z, x') →
  (∀ F' H' v, Same F F' → Rep C B F' H' σ (recont ρ i x') → Dp C.K F' v z → Q v H') → r (.ref q) [] H Q
def OM1 (C : Ct) (r : V → List V → Hp → VK → Prop) (f : D → D → Option (D × D)) : Prop := ∀ B F H σ ρ i q x y dy z x' (Q : VK), Rep C B F H σ ρ → Holds σ ρ i q → Own C F H q x → Dp C.K F y dy → f dy x = some (z, x') →
  (∀ F' H' v, Same F F' → Rep C B F' H' σ (recont ρ i x') → Dp C.K F' v z → Q v H') → r (.ref q) [y] H Q
theorem isL_at {B : Bs} {F H : Hp} {σ : L2.St} {ρ : Rho} (R : Rep C B F H σ ρ) {i : Nat} (h : isL ρ i = true) : ∃ p vs, Holds σ ρ i p ∧ H p = some (.lst vs) := by
  unfold isL at h
  cases e : cont (look ρ i) with
  | none => rw [e] at h; cases h
  | some x =>
    rw [e] at h
    cases x with
    | list ds =>
      obtain ⟨p, hh, _, o, h1, h2⟩ := R.at e
      rcases h2 with ⟨vs, ds', e4, rfl, h2⟩ | ⟨vs, ds', e4, rfl, h2⟩
      · exact ⟨p, vs, hh, h1⟩
      · cases e4
    | _ => cases h
theorem s_m0 {i : Nat} {r : V → List V → Hp → VK → Prop} {f : D → Option (D × D)} (h : OM0 C r f) : SimE C W (tBM0 C.K "list" r (tVar i)) (dM0 i f) := fun B F H σ ρ Q R q => by
  unfold dM0 at q
  by_cases hl : isL ρ i = true
  · rw [if_pos hl] at q
    obtain ⟨p, vs, hh, hp⟩ := isL_at R hl
    refine ⟨_, hh.1, .inl ⟨rfl, vs, .inl (.of hp)⟩, ?_⟩
    unfold mth at q
    obtain ⟨x, hx, ho⟩ := R.own hh
    rw [hx] at q
    replace q : PostE C W B F σ (match f x with | some (z, x') => .ok (z, recont ρ i x') | none => .bad) Q := q
    cases ef : f x with
    | none => rw [ef] at q; exact q.elim
    | some r =>
      obtain ⟨z, x'⟩ := r
      rw [ef] at q
      exact h B F H σ ρ i p x z x' Q R hh ho ef q
  · rw [if_neg hl] at q; exact q.elim
theorem s_m1 {i : Nat} {r : V → List V → Hp → VK → Prop} {f : D → D → Option (D × D)} {ta : TE} {a : DE} (ha : SimE C W ta a) (h : OM1 C r f) : SimE C W (tBM C.K "list" r (tVar i) (tCons ta tNil)) (dM1 i f a) := fun B F H σ ρ Q R q => by
  unfold dM1 at q
  by_cases hl : isL ρ i = true
  · rw [if_pos hl] at q
    obtain ⟨p, vs, hh, hp⟩ := isL_at R hl
    refine ⟨_, hh.1, .inl ⟨rfl, vs, .inl (.of hp)⟩, ?_⟩
    refine ha B F H σ ρ _ R ?_
    cases e : a ρ with
    | ex n fs ρ' => rw [e] at q; exact q
    | bad => rw [e] at q; exact q
    | ok pr =>
      obtain ⟨y, ρ1⟩ := pr
      rw [e] at q
      replace q : PostE C W B F σ (mth i (f y) ρ1) Q := q
      intro F1 H1 v s1 R1 dp
      unfold mth at q
      cases ec : cont (look ρ1 i) with
      | none => rw [ec] at q; exact q.elim
      | some x =>
        rw [ec] at q
        replace q : PostE C W B F σ (match f y x with | some (z, x') => .ok (z, recont ρ1 i x') | none => .bad) Q := q
        obtain ⟨p', hh', ho⟩ := R1.at ec
        have e1 := hh.1
        rw [hh'.1] at e1
        injection e1 with e1; injection e1 with e1; injection e1 with e1
        subst e1
        cases ef : f y x with
        | none => rw [ef] at q; exact q.elim
        | some r =>
          obtain ⟨z, x'⟩ := r
          rw [ef] at q
          exact h B F1 H1 σ ρ1 i p' x v y z x' Q R1 hh' ho dp ef fun F' H' v' s' => q F' H' v' (s1.trans s')
  · rw [if_neg hl] at q; exact q.elim
theorem Own.lst {F H : Hp} {q : Addr} {ds : List D} (h : Own C F H q (.list ds)) : ∃ vs, H q = some (.lst vs) ∧ DpAll C.K F vs ds := by
  obtain ⟨_, o, h1, h2⟩ := h
  rcases h2 with ⟨vs, ds', e4, rfl, h2⟩ | ⟨vs, ds', e4, rfl, h2⟩
  · injection e4 with e4; subst e4; exact ⟨vs, h1, h2⟩
  · cases e4
def mApp (y : D) : D → Option (D × D)
  | .list xs => if xs.length < sizeLine then some (.none, .list (xs ++ [y])) else none
  | _ => none
theorem o_app : OM1 C rAppend mApp := fun B F H σ ρ i q x y dy z x' Q R hh ho dp e k => by
  unfold mApp at e
  split at e
  · split at e
    · rename_i hz
      cases e
      obtain ⟨vs, h1, h2⟩ := ho.lst
      exact ⟨q, vs, y, rfl, rfl, h1, by rw [DpAll.length h2]; exact hz, k F _ .non (Same.refl _) (R.write hh (.inl ⟨_, _, rfl, rfl, DpAll.app h2 (.cons dp .nil)⟩)) .non⟩
    · cases e
  · cases e
def mExt (y : D) : D → Option (D × D)
  | .list xs => match y with
    | .list ys => if xs.length + ys.length ≤ sizeLine then some (.none, .list (xs ++ ys)) else none
    | _ => none
  | _ => none
theorem o_ext : OM1 C (rExtR C.K) mExt := fun B F H σ ρ i q x y dy z x' Q R hh ho dp e k => by
  unfold mExt at e
  split at e
  · split at e
    · split at e
      · rename_i hz
        cases e
        obtain ⟨vs, h1, h2⟩ := ho.lst
        cases dp with
        | lst h3 h4 =>
          exact ⟨q, _, vs, _, rfl, rfl, h1, R.sub.seq h3, by rw [DpAll.length h2, DpAll.length h4]; exact hz, k F _ .non (Same.refl _) (R.write hh (.inl ⟨_, _, rfl, rfl, DpAll.app h2 h4⟩)) .non⟩
      · cases e
    · cases e
  · cases e
def mPop : D → Option (D × D)
  | .list xs => (xs[xs.length - 1]?).map fun z => (z, .list xs.dropLast)
  | _ => none
theorem o_pop : OM0 C rPop mPop := fun B F H σ ρ i q x z x' Q R hh ho e k => by
  cases x with
  | list xs =>
    obtain ⟨z', e1, e2⟩ := Option.map_eq_some_iff.mp (show (xs[xs.length - 1]?).map (fun z => (z, PyData.list xs.dropLast)) = some (z, x') from e)
    cases e2
    obtain ⟨vs, h1, h2⟩ := ho.lst
    obtain ⟨v, h3, h4⟩ := DpAll.at h2 e1
    exact ⟨q, vs, v, rfl, rfl, h1, by rw [DpAll.length h2]; exact h3, k F _ v (Same.refl _) (R.write hh (.inl ⟨_, _, rfl, rfl, DpAll.dropLast h2⟩)) h4⟩
  | _ => cases e
def mPopAt (y : D) : D → Option (D × D)
  | .list xs => match y with
    | .int i => if -(2 ^ 63) ≤ i ∧ i < 2 ^ 63 then (seqIndex? i xs.length).bind fun k => (xs[k]?).map fun z => (z, .list (xs.eraseIdx k)) else none
    | _ => none
  | _ => none
theorem o_popAt : OM1 C rPopAt mPopAt := fun B F H σ ρ i q x y dy z x' Q R hh ho dp e k => by
  unfold mPopAt at e
  split at e
  · split at e
    · split at e
      · rename_i hz
        obtain ⟨j, e1, e2⟩ := Option.bind_eq_some_iff.mp e
        obtain ⟨z', e3, e4⟩ := Option.map_eq_some_iff.mp e2
        cases e4
        obtain ⟨vs, h1, h2⟩ := ho.lst
        obtain ⟨v, h3, h4⟩ := DpAll.at h2 e3
        cases dp
        exact ⟨q, vs, _, j, v, rfl, rfl, h1, hz.1, hz.2, by rw [DpAll.length h2]; exact e1, h3, k F _ v (Same.refl _) (R.write hh (.inl ⟨_, _, rfl, rfl, DpAll.erase j h2⟩)) h4⟩
      · cases e
    · cases e
  · cases e
def mRev : D → Option (D × D)
  | .list xs => some (.none, .list xs.reverse)
  | _ => none
theorem o_rev : OM0 C rReverse mRev := fun B F H σ ρ i q x z x' Q R hh ho e k => by
  cases x with
  | list xs =>
    cases e
    obtain ⟨vs, h1, h2⟩ := ho.lst
    exact ⟨q, vs, rfl, rfl, h1, k F _ .non (Same.refl _) (R.write hh (.inl ⟨_, _, rfl, rfl, DpAll.rev h2⟩)) .non⟩
  | _ => cases e

/-! ### xs[i] = v of a list in a slot -/
def setAt (v : D) (k : D) : D → Option D
  | .list xs => match k with
    | .int k => (ixN xs.length k).map fun j => .list (xs.set j v)
    | _ => none
  | _ => none
def stA (j : Nat) (v : D) (q : D × Rho) : Res Fl := match cont (look q.2 j) with
  | some x => match setAt v q.1 x with
    | some x' => .ok (.nx (recont q.2 j x'))
    | none => .bad
  | none => .bad
/-- name[i] = value: the value first -/
def dSetAt (j : Nat) (i : DE) (v : DE) : DS := fun ρ => (v ρ).bind fun p => match cont (look p.2 j) with
  | some _ => (i p.2).bind (stA j p.1)
  | none => .bad
theorem s_setAt {j : Nat} {ti tv : TE} {i v : DE} (hv : SimE C W tv v) (hi : SimE C W ti i) : SimS C W (tAsg tv (gSub (tVar j) ti rSetL)) (dSetAt j i v) := fun B F H σ ρ E R q => by
  unfold dSetAt at q
  refine hv B F H σ ρ _ R ?_
  cases e : v ρ with
  | ex n fs ρ' => rw [e] at q; exact fun F' H' d s R' x => q σ F' H' d s R' x
  | bad => rw [e] at q; exact q
  | ok p =>
    obtain ⟨x, ρ1⟩ := p
    rw [e] at q
    replace q : PostS C W B F E (match cont (look ρ1 j) with | some _ => (i ρ1).bind (stA j x) | none => .bad) := q
    intro F1 H1 w s1 R1 dp
    cases ec : cont (look ρ1 j) with
    | none => rw [ec] at q; exact q.elim
    | some c =>
      rw [ec] at q
      replace q : PostS C W B F E ((i ρ1).bind (stA j x)) := q
      obtain ⟨p, hh, ho⟩ := R1.at ec
      refine ⟨_, hh.1, hi B F1 H1 σ ρ1 _ R1 ?_⟩
      cases ei : i ρ1 with
      | ex n fs ρ' => rw [ei] at q; exact fun F' H' d s R' x => q σ F' H' d (s1.trans s) R' x
      | bad => rw [ei] at q; exact q
      | ok p2 =>
        obtain ⟨k, ρ2⟩ := p2
        rw [ei] at q
        replace q : PostS C W B F E (stA j x (k, ρ2)) := q
        intro F2 H2 u s2 R2 dp2
        unfold stA at q
        cases ec2 : cont (look ρ2 j) with
        | none => simp only [ec2] at q; exact q.elim
        | some c2 =>
          simp only [ec2] at q
          obtain ⟨p', hh', ho'⟩ := R2.at ec2
          have e1 := hh.1
          rw [hh'.1] at e1
          injection e1 with e1; injection e1 with e1; injection e1 with e1
          subst e1
          cases es : setAt x k c2 with
          | none => rw [es] at q; exact q.elim
          | some c3 =>
            rw [es] at q
            unfold setAt at es
            split at es
            · split at es
              · obtain ⟨m, e3, e4⟩ := Option.map_eq_some_iff.mp es
                cases e4
                cases dp2
                obtain ⟨vs, h1, h2⟩ := ho'.lst
                exact ⟨p', vs, _, m, rfl, rfl, h1, by rw [DpAll.length h2]; exact e3, q F2 _ σ (s1.trans s2) (R2.write hh' (.inl ⟨_, _, rfl, rfl, DpAll.set m h2 (dp.same s2)⟩))⟩
              · cases es
            · cases es

/-! ### list(range(..)) -/
def SimR (C : Ct) (W : WX) (t : L2.St → Hp → (Int → Int → Hp → Prop) → Prop) (d : Rho → Res (D × D × Rho)) : Prop := ∀ B F H σ ρ Q, Rep C B F H σ ρ →
  (match d ρ with
    | .ok (.int a, .int b, ρ') => ∀ F' H', Same F F' → Rep C B F' H' σ ρ' → Q a b H'
    | .ok _ => False
    | .ex n fs ρ' => PostX C W B F n fs ρ' σ
    | .bad => False) → t σ H Q
def dRg1 (a : DE) : Rho → Res (D × D × Rho) := fun ρ => (a ρ).bind fun p => .ok (.int 0, p.1, p.2)
def dRg2 (a b : DE) : Rho → Res (D × D × Rho) := fun ρ => (a ρ).bind fun p => (b p.2).bind fun q => .ok (p.1, q.1, q.2)
instance {a b : Int} : Decidable (RgOk a b) := by unfold RgOk; exact inferInstance
def lRg (q : D × D × Rho) : Res (D × Rho) := match q.1, q.2.1 with
  | .int a, .int b => if RgOk a b then .ok (.list (rgI a (b - a).toNat), q.2.2) else .bad
  | _, _ => .bad
def dListRg (r : Rho → Res (D × D × Rho)) : DE := fun ρ => (r ρ).bind lRg
theorem s_rg1 {ta : TE} {a : DE} (ha : SimE C W ta a) : SimR C W (tRg1 ta) (dRg1 a) := fun B F H σ ρ Q R q => by
  unfold dRg1 at q
  refine ha B F H σ ρ _ R ?_
  cases e : a ρ with
  | ex n fs ρ' => rw [e] at q; exact q
  | bad => rw [e] at q; exact q
  | ok p =>
    obtain ⟨x, ρ1⟩ := p
    rw [e] at q
    cases x with
    | int j => intro F1 H1 v s1 R1 dp; cases dp; exact ⟨j, rfl, q F1 H1 s1 R1⟩
    | _ => exact q.elim
theorem s_rg2 {ta tb : TE} {a b : DE} (ha : SimE C W ta a) (hb : SimE C W tb b) : SimR C W (tRg2 ta tb) (dRg2 a b) := fun B F H σ ρ Q R q => by
  unfold dRg2 at q
  refine ha B F H σ ρ _ R ?_
  cases e : a ρ with
  | ex n fs ρ' => rw [e] at q; exact q
  | bad => rw [e] at q; exact q
  | ok p =>
    obtain ⟨x, ρ1⟩ := p
    rw [e] at q
    intro F1 H1 v s1 R1 dp
    refine hb B F1 H1 σ ρ1 _ R1 ?_
    simp only [Res.bind] at q
    cases e1 : b ρ1 with
    | ex n fs ρ' => rw [e1] at q; exact PostX.mono q s1
    | bad => rw [e1] at q; exact q
    | ok p2 =>
      obtain ⟨y, ρ2⟩ := p2
      rw [e1] at q
      intro F2 H2 w s2 R2 dp2
      cases x with
      | int i =>
        cases y with
        | int j => cases dp; cases dp2; exact ⟨i, j, rfl, rfl, q F2 H2 (s1.trans s2) R2⟩
        | _ => exact q.elim
      | _ => exact q.elim
theorem dp_rg {K : PySem.W.Frag} {H : Hp} (a b : Int) : DpAll K H (rgV a b) (rgI a (b - a).toNat) := by
  unfold rgV rgI
  have : ∀ l : List Nat, DpAll K H (l.map fun i => V.int (a + (i : Nat))) (l.map fun k => .int (a + (k : Nat))) := fun l => by
    induction l with
    | nil => exact .nil
    | cons x l ih => exact .cons (.int _) ih
  exact this _
theorem s_listRg {tr : L2.St → Hp → (Int → Int → Hp → Prop) → Prop} {r : Rho → Res (D × D × Rho)} (hr : SimR C W tr r) : SimF C W (tLstRg tr) (dListRg r) := fun B F H σ ρ Q R q => by
  unfold dListRg at q
  refine hr B F H σ ρ _ R ?_
  cases e : r ρ with
  | ex n fs ρ' => rw [e] at q; exact q
  | bad => rw [e] at q; exact q
  | ok p =>
    obtain ⟨x, y, ρ1⟩ := p
    rw [e] at q
    replace q : PostF C W B F σ (lRg (x, y, ρ1)) Q := q
    unfold lRg at q
    cases x with
    | int a =>
      cases y with
      | int b =>
        intro F1 H1 s1 R1
        replace q : PostF C W B F σ (if RgOk a b then .ok (.list (rgI a (b - a).toNat), ρ1) else .bad) Q := q
        by_cases hc : RgOk a b
        · rw [if_pos hc] at q
          refine ⟨hc, fun t ht => ?_⟩
          obtain ⟨R2, n0, nh, ho⟩ := R1.fresh ht (dp_rg a b)
          exact q _ _ _ s1 R2 n0 nh ho
        · rw [if_neg hc] at q; exact q.elim
      | _ => exact q.elim
    | _ => exact q.elim
/-! ### a def without a den: its promise by hand -/
end
end XD

set_option autoImplicit true
set_option Elab.async false
set_option linter.all false
set_option maxRecDepth 100000
set_option maxHeartbeats 1000000
set_option autoImplicit true
/-! the data layer: values that are new lists among data, slices stored, keywords, try -/
namespace XD
open PySem PySem.Spec PyProof.Rows L2

/-! ### several values at once: data, or new lists -/
def mixRun : List Pr → Rho → Res (List (Bool × D) × Rho)
  | [], ρ => .ok ([], ρ)
  | .d a :: l, ρ => (a ρ).bind fun p => (mixRun l p.2).bind fun q => .ok ((false, p.1) :: q.1, q.2)
  | .f a :: l, ρ => (a ρ).bind fun p => (mixRun l p.2).bind fun q => .ok ((true, p.1) :: q.1, q.2)
def Mixed (C : Ct) (B : Bs) (F H : Hp) (σ : L2.St) (ρ : Rho) : List V → List (Bool × D) → Prop
  | [], [] => True
  | v :: vs, (false, x) :: xs => Dp C.K F v x ∧ Mixed C B F H σ ρ vs xs
  | v :: vs, (true, x) :: xs => (∃ p, v = .ref p ∧ B.nw p ∧ (∀ i, ¬ Holds σ ρ i p) ∧ Own C F H p x ∧ V.ref p ∉ (vs.zip xs).filterMap fun q => if q.2.1 = true then some q.1 else none) ∧ Mixed C B F H σ ρ vs xs
  | _, _ => False
def SimM (C : Ct) (W : WX) (t : TA) (l : List Pr) : Prop := ∀ B F H σ ρ (Q : List V → Hp → Prop), Rep C B F H σ ρ →
  (match mixRun l ρ with
    | .ok (xs, ρ') => ∀ F' H' vs, Same F F' → Rep C B F' H' σ ρ' → Mixed C B F' H' σ ρ' vs xs → Q vs H'
    | .ex n fs ρ' => PostX C W B F n fs ρ' σ
    | .bad => False) → t σ H Q
section
variable {C : Ct} {W : WX}
theorem sm_nil : SimM C W tNil [] := fun B F H σ ρ Q R q => q F H [] (Same.refl _) R trivial
theorem sm_d {ta : TE} {a : DE} {tr : TA} {l : List Pr} (ha : SimE C W ta a) (hr : SimM C W tr l) : SimM C W (tCons ta tr) (.d a :: l) := fun B F H σ ρ Q R q => by
  refine ha B F H σ ρ _ R ?_
  unfold mixRun at q
  cases e : a ρ with
  | ex n fs ρ' => rw [e] at q; exact q
  | bad => rw [e] at q; exact q
  | ok p =>
    obtain ⟨x, ρ1⟩ := p
    rw [e] at q
    intro F1 H1 v s1 R1 dp
    refine hr B F1 H1 σ ρ1 _ R1 ?_
    simp only [Res.bind] at q
    cases e1 : mixRun l ρ1 with
    | ex n fs ρ' => rw [e1] at q; exact PostX.mono q s1
    | bad => rw [e1] at q; exact q
    | ok p2 =>
      obtain ⟨as, ρ2⟩ := p2
      rw [e1] at q
      exact fun F2 H2 vs s2 R2 m => q F2 H2 (v :: vs) (s1.trans s2) R2 ⟨dp.same s2, m⟩
/-- what was true under one guard more -/
theorem Mixed.ungrd {B : Bs} {F H : Hp} {σ : L2.St} {ρ : Rho} {a : Addr} {o : HO} : ∀ {vs : List V} {xs : List (Bool × D)}, Mixed C (B.grd a o) F H σ ρ vs xs → Mixed C B F H σ ρ vs xs ∧ V.ref a ∉ (vs.zip xs).filterMap fun q => if q.2.1 = true then some q.1 else none
  | [], [], _ => ⟨trivial, by simp⟩
  | v :: vs, (false, x) :: xs, ⟨h1, h2⟩ => by
    obtain ⟨m, n⟩ := Mixed.ungrd h2
    exact ⟨⟨h1, m⟩, by simpa using n⟩
  | v :: vs, (true, x) :: xs, ⟨⟨p, ev, nw, nh, ho, np⟩, h2⟩ => by
    obtain ⟨m, n⟩ := Mixed.ungrd h2
    have nw' := nw_grd.mp nw
    refine ⟨⟨⟨p, ev, nw'.1, nh, ho, np⟩, m⟩, fun h => ?_⟩
    simp only [List.zip_cons_cons, List.filterMap_cons, if_true] at h
    rcases List.mem_cons.mp h with e | e
    · rw [ev] at e; injection e with e; exact nw'.2 e.symm
    · exact n e
theorem sm_f {ta : TE} {a : DE} {tr : TA} {l : List Pr} (ha : SimF C W ta a) (hr' : SimM C W tr l) : SimM C W (tCons ta tr) (.f a :: l) := fun B F H σ ρ Q R q => by
  refine ha B F H σ ρ _ R ?_
  unfold mixRun at q
  cases e : a ρ with
  | ex n fs ρ' => rw [e] at q; exact q
  | bad => rw [e] at q; exact q
  | ok p =>
    obtain ⟨x, ρ1⟩ := p
    rw [e] at q
    intro F1 H1 p s1 R1 nw nh ho
    obtain ⟨nF, o, h1, h2⟩ := ho
    -- under guard
    have Rg : Rep C (B.grd p o) F1 H1 σ ρ1 := by
      refine ⟨R1.sub, R1.fr, R1.hk, R1.live, fun b u hg => ?_, R1.ioe, R1.tup, R1.len, fun i => (R1.slot i).grd fun q x e hc z => ?_, R1.apart⟩
      · have hg' : upd B.gd p o b = some u := hg
        by_cases eb : b = p
        · subst eb
          rw [upd_same] at hg'
          injection hg' with hg'; subst hg'
          exact ⟨h1, nF, nw.1, nh⟩
        · rw [upd_ne eb] at hg'
          exact R1.gdk b u hg'
      · subst z; exact nh i ⟨e, x, hc⟩
    simp only [Res.bind] at q
    refine hr' (B.grd p o) F1 H1 σ ρ1 _ Rg ?_
    cases e1 : mixRun l ρ1 with
    | ex n fs ρ' =>
      rw [e1] at q
      exact fun F' H' d s R' x => PostX.mono q s1 F' H' d s (R'.ungrd nw.2).1 x
    | bad => rw [e1] at q; exact q
    | ok p2 =>
      obtain ⟨as, ρ2⟩ := p2
      rw [e1] at q
      intro F2 H2 vs s2 R2 m
      obtain ⟨g1, g2, g3, g4⟩ := R2.gdAt
      obtain ⟨m', np⟩ := m.ungrd
      exact q F2 H2 _ (s1.trans s2) (R2.ungrd nw.2).1 ⟨⟨p, rfl, nw, g4, ⟨g2, o, g1, h2.same s2⟩, np⟩, m'⟩
/-- put into slots one after another -/
def mixPut : List Nat → List (Bool × D) → Rho → Res Rho
  | [], [], ρ => .ok ρ
  | i :: is, (b, x) :: xs, ρ => (putR i (if b = true then .o x else .d x) ρ).bind (mixPut is xs)
  | _, _, _ => .bad
def setAll : List Nat → List V → L2.St → L2.St
  | i :: is, v :: vs, σ => setAll is vs (σ.set i (some v))
  | _, _, σ => σ
theorem mixPut_noex : ∀ (is : List Nat) (xs : List (Bool × D)) (ρ : Rho), mixPut is xs ρ = .bad ∨ ∃ ρ', mixPut is xs ρ = .ok ρ'
  | [], [], ρ => .inr ⟨ρ, rfl⟩
  | [], _ :: _, ρ => .inl rfl
  | _ :: _, [], ρ => .inl rfl
  | i :: is, (b, x) :: xs, ρ => by
    show (putR i (if b = true then .o x else .d x) ρ).bind (mixPut is xs) = .bad ∨ ∃ ρ', (putR i (if b = true then .o x else .d x) ρ).bind (mixPut is xs) = .ok ρ'
    rcases putR_cases i (if b = true then .o x else .d x) ρ with h | ⟨_, _, h⟩
    · rw [h]; exact .inl rfl
    · rw [h]; exact mixPut_noex is xs _
theorem Rep.mixPut {B : Bs} {F H : Hp} : ∀ {is : List Nat} {xs : List (Bool × D)} {vs : List V} {σ : L2.St} {ρ ρ' : Rho}, Rep C B F H σ ρ → Mixed C B F H σ ρ vs xs → XD.mixPut is xs ρ = .ok ρ' → Rep C B F H (setAll is vs σ) ρ' ∧ vs.length = is.length
  | [], [], [], σ, ρ, ρ', R, _, h => by injection h with h; subst h; exact ⟨R, rfl⟩
  | [], [], _ :: _, _, _, _, _, m, _ => m.elim
  | [], _ :: _, _, _, _, _, _, _, h => by cases h
  | _ :: _, [], _, _, _, _, _, _, h => by cases h
  | i :: is, (false, x) :: xs, [], _, _, _, _, m, _ => m.elim
  | i :: is, (true, x) :: xs, [], _, _, _, _, m, _ => m.elim
  | i :: is, (false, x) :: xs, v :: vs, σ, ρ, ρ', R, ⟨h1, m⟩, h => by
    obtain ⟨ρ1, e1, e2⟩ := Res.bind_ok (show (putR i (.d x) ρ).bind (XD.mixPut is xs) = .ok ρ' from h)
    obtain ⟨g1, g2, rfl⟩ := putR_ok e1
    have R1 := R.put g1 g2 h1
    have keep : ∀ {vs : List V} {xs : List (Bool × D)}, Mixed C B F H σ ρ vs xs → Mixed C B F H (σ.set i (some v)) (ρ.set i (.d x)) vs xs := by
      intro vs
      induction vs with
      | nil => intro xs m; cases xs with
        | nil => trivial
        | cons _ _ => exact m.elim
      | cons w vs ih => intro xs m; cases xs with
        | nil => exact m.elim
        | cons y ys =>
          obtain ⟨b, y⟩ := y
          cases b with
          | false => exact ⟨m.1, ih m.2⟩
          | true =>
            obtain ⟨⟨p, e, nw, nh, ho, np⟩, m2⟩ := m
            refine ⟨⟨p, e, nw, fun j hj => ?_, ho, np⟩, ih m2⟩
            obtain ⟨a1, u, a2⟩ := hj
            rw [look_set g1] at a2
            rw [sig_set (by rw [R.len]; exact g1)] at a1
            by_cases ej : i = j
            · rw [if_pos ej] at a2; cases a2
            · rw [if_neg ej] at a1 a2; exact nh j ⟨a1, u, a2⟩
    obtain ⟨R2, l2⟩ := Rep.mixPut R1 (keep m) e2
    exact ⟨R2, by simp [l2]⟩
  | i :: is, (true, x) :: xs, v :: vs, σ, ρ, ρ', R, ⟨⟨p, ev, nw, nh, ho, np⟩, m⟩, h => by
    subst ev
    obtain ⟨ρ1, e1, e2⟩ := Res.bind_ok (show (putR i (.o x) ρ).bind (XD.mixPut is xs) = .ok ρ' from h)
    obtain ⟨g1, g2, rfl⟩ := putR_ok e1
    have R1 := R.putO g1 g2 nw nh ho
    have keep : ∀ {vs : List V} {xs : List (Bool × D)}, (V.ref p ∉ (vs.zip xs).filterMap fun q => if q.2.1 = true then some q.1 else none) → Mixed C B F H σ ρ vs xs → Mixed C B F H (σ.set i (some (.ref p))) (ρ.set i (.o x)) vs xs := by
      intro vs
      induction vs with
      | nil => intro xs _ m; cases xs with
        | nil => trivial
        | cons _ _ => exact m.elim
      | cons w vs ih => intro xs hn m; cases xs with
        | nil => exact m.elim
        | cons y ys =>
          obtain ⟨b, y⟩ := y
          cases b with
          | false => exact ⟨m.1, ih (by simpa using hn) m.2⟩
          | true =>
            obtain ⟨⟨q, e, nw2, nh2, ho2, np2⟩, m2⟩ := m
            simp only [List.zip_cons_cons, List.filterMap_cons, if_true, List.mem_cons, not_or] at hn
            refine ⟨⟨q, e, nw2, fun j hj => ?_, ho2, np2⟩, ih hn.2 m2⟩
            obtain ⟨a1, u, a2⟩ := hj
            rw [look_set g1] at a2
            rw [sig_set (by rw [R.len]; exact g1)] at a1
            by_cases ej : i = j
            · rw [if_pos ej] at a1
              injection a1 with a1; injection a1 with a1
              exact hn.1 (by rw [e]; exact a1)
            · rw [if_neg ej] at a1 a2; exact nh2 j ⟨a1, u, a2⟩
    obtain ⟨R2, l2⟩ := Rep.mixPut R1 (keep np m) e2
    exact ⟨R2, by simp [l2]⟩
def dMix (is : List Nat) (l : List Pr) : DS := fun ρ => (mixRun l ρ).bind fun p => (mixPut is p.1 p.2).bind fun ρ' => .ok (.nx ρ')
theorem mix_core {is : List Nat} {ta : TA} {l : List Pr} (hl : SimM C W ta l) {B : Bs} {F H : Hp} {σ : L2.St} {ρ : Rho} {E : Ends} (R : Rep C B F H σ ρ) (q : PostS C W B F E (dMix is l ρ)) :
    ta σ H fun vs H' => vs.length = is.length ∧ ∃ F' ρ', Same F F' ∧ Rep C B F' H' (setAll is vs σ) ρ' ∧ ∀ F2 H2 σ2, Same F' F2 → Rep C B F2 H2 σ2 ρ' → E.nx σ2 H2 := by
  refine hl B F H σ ρ _ R ?_
  unfold dMix at q
  cases e : mixRun l ρ with
  | ex n fs ρ' => rw [e] at q; exact fun F' H' d s R' x => q σ F' H' d s R' x
  | bad => rw [e] at q; exact q
  | ok p =>
    obtain ⟨xs, ρ1⟩ := p
    rw [e] at q
    intro F1 H1 vs s1 R1 m
    replace q : PostS C W B F E ((mixPut is xs ρ1).bind fun ρ' => .ok (.nx ρ')) := q
    rcases mixPut_noex is xs ρ1 with h | ⟨ρ2, h⟩
    · rw [h] at q; exact q.elim
    · rw [h] at q
      obtain ⟨R2, hlen⟩ := R1.mixPut m h
      exact ⟨hlen, F1, ρ2, s1, R2, fun F2 H2 σ2 s2 R3 => q F2 H2 σ2 (s1.trans s2) R3⟩
theorem taMono {ta : TA} {l : List Pr} (hl : SimM C W ta l) : True := trivial
/-- a, b = x, y -/
theorem s_mix2 {i j : Nat} {ta : TA} {l : List Pr} (hl : SimM C W ta l) : SimS C W (tPar i j ta) (dMix [i, j] l) := fun B F H σ ρ E R q => by
  show ta σ H fun vs H1 => _
  refine hl B F H σ ρ _ R ?_
  have := @mix_core C W [i, j] (fun σ H Q => ta σ H Q) l hl B F H σ ρ E R q
  unfold dMix at q
  cases e : mixRun l ρ with
  | ex n fs ρ' => rw [e] at q; exact fun F' H' d s R' x => q σ F' H' d s R' x
  | bad => rw [e] at q; exact q
  | ok p =>
    obtain ⟨xs, ρ1⟩ := p
    rw [e] at q
    intro F1 H1 vs s1 R1 m
    replace q : PostS C W B F E ((mixPut [i, j] xs ρ1).bind fun ρ' => .ok (.nx ρ')) := q
    rcases mixPut_noex [i, j] xs ρ1 with h | ⟨ρ2, h⟩
    · rw [h] at q; exact q.elim
    · rw [h] at q
      obtain ⟨R2, hlen⟩ := R1.mixPut m h
      match vs, hlen, R2 with
      | [v, w], _, R2 => exact ⟨v, w, rfl, q F1 H1 _ s1 R2⟩
theorem s_mix3 {i j k : Nat} {ta : TA} {l : List Pr} {t3 : TS} (ht : t3 = fun D σ H => ta σ H fun vs H1 => ∃ u v w, vs = [u, v, w] ∧ D.nx (((σ.set i (some u)).set j (some v)).set k (some w)) H1) (hl : SimM C W ta l) : SimS C W t3 (dMix [i, j, k] l) := fun B F H σ ρ E R q => by
  subst ht
  show ta σ H fun vs H1 => _
  refine hl B F H σ ρ _ R ?_
  unfold dMix at q
  cases e : mixRun l ρ with
  | ex n fs ρ' => rw [e] at q; exact fun F' H' d s R' x => q σ F' H' d s R' x
  | bad => rw [e] at q; exact q
  | ok p =>
    obtain ⟨xs, ρ1⟩ := p
    rw [e] at q
    intro F1 H1 vs s1 R1 m
    replace q : PostS C W B F E ((mixPut [i, j, k] xs ρ1).bind fun ρ' => .ok (.nx ρ')) := q
    rcases mixPut_noex [i, j, k] xs ρ1 with h | ⟨ρ2, h⟩
    · rw [h] at q; exact q.elim
    · rw [h] at q
      obtain ⟨R2, hlen⟩ := R1.mixPut m h
      match vs, hlen, R2 with
      | [u, v, w], _, R2 => exact ⟨u, v, w, rfl, q F1 H1 _ s1 R2⟩
/-- the same by a tuple that is unpacked: names among which some are cells -/
def gNames : List Nat → TGs
  | [] => gNil
  | i :: is => gCons (gName i) (gNames is)
theorem gNames_set : ∀ {is : List Nat} {vs : List V} {σ : L2.St} {H : Hp} {Q : L2.St → Hp → Prop}, vs.length = is.length → Q (setAll is vs σ) H → gNames is vs σ H Q
  | [], [], σ, H, Q, _, h => ⟨rfl, h⟩
  | i :: is, v :: vs, σ, H, Q, hl, h => ⟨v, vs, rfl, gNames_set (by simpa using hl) h⟩
  | [], _ :: _, _, _, _, hl, _ => by cases hl
  | _ :: _, [], _, _, _, hl, _ => by cases hl
theorem s_mixT {is : List Nat} {n : Nat} {ta : TA} {l : List Pr} {gs : TGs} (hg : gs = gNames is) (hn : is.length = n) (hz : n ≤ 1000) (hl : SimM C W ta l) : SimS C W (tAsg (tTup ta) (gTup C.K n gs)) (dMix is l) := fun B F H σ ρ E R q => by
  subst hg
  show ta σ H fun xs H1 => _
  refine hl B F H σ ρ _ R ?_
  unfold dMix at q
  cases e : mixRun l ρ with
  | ex n fs ρ' => rw [e] at q; exact fun F' H' d s R' x => q σ F' H' d s R' x
  | bad => rw [e] at q; exact q
  | ok p =>
    obtain ⟨xs, ρ1⟩ := p
    rw [e] at q
    intro F1 H1 vs s1 R1 m
    replace q : PostS C W B F E ((mixPut is xs ρ1).bind fun ρ' => .ok (.nx ρ')) := q
    rcases mixPut_noex is xs ρ1 with h | ⟨ρ2, h⟩
    · rw [h] at q; exact q.elim
    · rw [h] at q
      obtain ⟨R2, hlen⟩ := R1.mixPut m h
      refine ⟨sizeOf (by omega), fun p hp => ⟨p, vs, rfl, .of upd_same, by omega, gNames_set hlen ?_⟩⟩
      exact q _ _ _ (s1.trans (sameUpd (R1.free hp).1)) (R2.new hp)

/-! ### return of a name: its own list, or data -/
def dRetA (i : Nat) : DS := fun ρ => match look ρ i with
  | .o x => .ok (.rf x (ρ.set i .un))
  | .d x => .ok (.rt x ρ)
  | _ => .bad
theorem s_retA {i : Nat} : SimS C W (tRet (tVar i)) (dRetA i) := fun B F H σ ρ E R q => by
  unfold dRetA at q
  have s := R.slot i
  cases e : look ρ i with
  | o x =>
    rw [e] at q s
    obtain ⟨p, e1, n0, ho⟩ := s
    exact ⟨_, e1, q F H σ p (Same.refl _) (R.forget e) n0 ho⟩
  | un => rw [e] at q; exact q.elim
  | d x =>
    rw [e] at q s
    obtain ⟨v, e1, dp⟩ := s
    exact ⟨v, e1, q F H σ v (Same.refl _) R dp⟩
  | io x => rw [e] at q; exact q.elim

/-! ### len(set(ints)) -/
def fLenSet : D → Option D
  | .list xs => match intsD xs with
    | some ns => gd (ns.length ≤ 4000) (.int ((ns.foldl step_dedup []).length : Nat))
    | none => none
  | _ => none
theorem s_lenSet {ta : TE} {a : DE} (ha : SimP C W ta a) : SimE C W (tLenSetG C.K ta) (d1 fLenSet a) :=
  s_un (ta := ta) (r1 := fun x H1 Q => ∃ (l : Addr) (ns : List Int), x = .ref l ∧ SqL C.K H1 l (ns.map V.int) ∧ ns.length ≤ 4000 ∧ Q (.int ((ns.foldl step_dedup []).length : Nat)) H1) ha fun B F H σ ρ x dx z Q R lx e q => by
    cases dx with
    | list ds =>
      replace e : (match intsD ds with | some ns => gd (ns.length ≤ 4000) (PyData.int ((ns.foldl step_dedup []).length : Nat)) | none => none) = some z := e
      cases ei : intsD ds with
      | none => rw [ei] at e; cases e
      | some ns =>
        rw [ei] at e
        obtain ⟨e1, rfl⟩ := gd_some (show gd (ns.length ≤ 4000) (PyData.int ((ns.foldl step_dedup []).length : Nat)) = some z from e)
        obtain ⟨a, xs, rfl, h1, h2⟩ := lx.lst R.sub
        rw [intsD_map ei] at h2
        obtain rfl := DpAll.ints h2
        exact ⟨a, ns, rfl, h1, e1, q F H _ (Same.refl _) R (.int _)⟩
    | _ => cases e

/-! ### name[a:c] = a new list -/
def slSt (ys : D) (lo hi : Option Int) : D → Option D
  | .list xs => match ys, lo, hi with
    | .list ys, some a, some c => gd (0 ≤ a ∧ a ≤ c ∧ c ≤ (xs.length : Int) ∧ xs.length + ys.length ≤ sizeLine) (.list (xs.take a.toNat ++ ys ++ xs.drop c.toNat))
    | _, _, _ => none
  | _ => none
def slPut (j : Nat) (ys : D) (lo hi : Option Int) (ρ : Rho) : Res Fl := match cont (look ρ j) with
  | some x => match slSt ys lo hi x with
    | some x' => .ok (.nx (recont ρ j x'))
    | none => .bad
  | none => .bad
def dSetSl (j : Nat) (l h : DO) (v : DE) : DS := fun ρ => (v ρ).bind fun p => match cont (look p.2 j) with
  | some _ => (l p.2).bind fun q => (h q.2).bind fun r => slPut j p.1 q.1 r.1 r.2
  | none => .bad
theorem s_setSl {j : Nat} {tl th : TO} {tv : TE} {l h : DO} {v : DE} (hv : SimF C W tv v) (hl : SimO C W tl l) (hh : SimO C W th h) : SimS C W (tAsg tv (gSlc (tVar j) tl th)) (dSetSl j l h v) := fun B F H σ ρ E R q => by
  unfold dSetSl at q
  refine hv B F H σ ρ _ R ?_
  cases e : v ρ with
  | ex n fs ρ' => rw [e] at q; exact fun F' H' d s R' x => q σ F' H' d s R' x
  | bad => rw [e] at q; exact q
  | ok p =>
    obtain ⟨ys, ρ1⟩ := p
    rw [e] at q
    replace q : PostS C W B F E (match cont (look ρ1 j) with | some _ => (l ρ1).bind fun q => (h q.2).bind fun r => slPut j ys q.1 r.1 r.2 | none => .bad) := q
    intro F1 H1 b s1 R1 nw nh ho
    cases ec : cont (look ρ1 j) with
    | none => rw [ec] at q; exact q.elim
    | some c =>
      rw [ec] at q
      replace q : PostS C W B F E ((l ρ1).bind fun q => (h q.2).bind fun r => slPut j ys q.1 r.1 r.2) := q
      obtain ⟨p, hp, hop⟩ := R1.at ec
      obtain ⟨nF, o, h1, h2⟩ := ho
      have sF : Same F1 (upd F1 b o) := sameUpd nF
      have Rz := R1.freeze h1 nF nw nh
      refine ⟨_, hp.1, hl B _ H1 σ ρ1 _ Rz ?_⟩
      cases el : l ρ1 with
      | ex n fs ρ' => rw [el] at q; exact fun F' H' d s R' x => q σ F' H' d ((s1.trans sF).trans s) R' x
      | bad => rw [el] at q; exact q
      | ok p2 =>
        obtain ⟨lo, ρ2⟩ := p2
        rw [el] at q
        intro F2 H2 s2 R2
        replace q : PostS C W B F E ((h ρ2).bind fun r => slPut j ys lo r.1 r.2) := q
        refine hh B F2 H2 σ ρ2 _ R2 ?_
        cases eh : h ρ2 with
        | ex n fs ρ' => rw [eh] at q; exact fun F' H' d s R' x => q σ F' H' d (((s1.trans sF).trans s2).trans s) R' x
        | bad => rw [eh] at q; exact q
        | ok p3 =>
          obtain ⟨hi, ρ3⟩ := p3
          rw [eh] at q
          intro F3 H3 s3 R3
          replace q : PostS C W B F E (slPut j ys lo hi ρ3) := q
          unfold slPut at q
          cases ec2 : cont (look ρ3 j) with
          | none => simp only [ec2] at q; exact q.elim
          | some c2 =>
            simp only [ec2] at q
            cases es : slSt ys lo hi c2 with
            | none => rw [es] at q; exact q.elim
            | some c3 =>
              rw [es] at q
              obtain ⟨p', hh', ho'⟩ := R3.at ec2
              have e1 := hp.1
              rw [hh'.1] at e1
              injection e1 with e1; injection e1 with e1; injection e1 with e1
              subst e1
              unfold slSt at es
              split at es
              · split at es
                · obtain ⟨⟨k1, k2, k3, k4⟩, rfl⟩ := gd_some es
                  obtain ⟨vs, g1, g2⟩ := ho'.lst
                  rcases h2 with ⟨ws, ds, e4, rfl, h2⟩ | ⟨ws, ds, e4, rfl, h2⟩
                  · injection e4 with e4; subst e4
                    have hb3 : F3 b = some (.lst ws) := s3 _ _ (s2 _ _ upd_same)
                    have hbH := R3.sub _ _ hb3
                    have s13 := (sF.trans s2).trans s3
                    refine ⟨p', b, vs, ws, _, _, rfl, rfl, rfl, rfl, g1, hbH, fun z => ?_, k1, k2, by rw [DpAll.length g2]; exact k3, by rw [DpAll.length g2, DpAll.length h2]; exact k4, ?_⟩
                    · subst z
                      have := ho'.1
                      rw [hb3] at this
                      cases this
                    · refine q F3 _ σ (s1.trans s13) (R3.write hh' (.inl ⟨_, _, rfl, rfl, ?_⟩))
                      exact DpAll.app (DpAll.app (DpAll.take _ g2) (DpAll.same s13 h2)) (DpAll.drop _ g2)
                  · cases e4
                · cases es
              · cases es

/-! ### keywords, any sequence -/
section
variable {X : Cx} {CX : CXT} {k : Nat} {f : Addr} {fd : FuncData} {ps ks : List Str} {sp : Sp} {E : L2.St → XK} {x : Str} {p pos : Pos} {kws : List Keyword} {tk : TA}
/-- how keywords alone bind: the values in the parameters' sequence -/
def KwPerm (fd : FuncData) (ps ks : List Str) (pm : List Nat) : Prop := ∀ (s : Shared) (ws : List Value), ws.length = ks.length → BindsTo s fd ⟨[], ks.zip ws⟩ (ps.zip (pm.map fun i => ws.getD i .none))
theorem Fun.perm {K : PySem.W.Frag} {x qual : Str} {st : Stmt} {f : Addr} {fd : FuncData} {ps ks : List Str} {pm : List Nat} (F : L2.Fun K x qual st f fd)
    (h : ∀ (kV doc pm' : Value) (an : Option Addr) (cdv ct : Value) (us : List Value), us.length = ks.length → bindArgs (PySem.W.fnOf x qual (defArgs st) (defBody st) (defScope st) .none kV doc pm' an cdv ct) ⟨[], ks.zip us⟩ = pure (ps.zip (pm.map fun i => us.getD i .none))) : KwPerm fd ps ks pm := by
  obtain ⟨oc, od, kV, doc, pm', an, cdv, ct, osl, rfl, lk, hcd⟩ := F.ex
  exact fun s ws hl => .of_eq (h kV doc pm' an cdv ct ws hl)
def permV (pm : List Nat) (vs : List V) : List V := pm.map fun i => vs.getD i .non
def tCallKS (n : Nat) (pm : List Nat) (sp : Sp) (E : L2.St → XK) (tk : TA) : TE := fun σ H Q => tk σ H fun zs H2 => zs.length = n ∧ sp (permV pm zs) H2 Q (E σ)
theorem vals_getD : ∀ {zs : List V} {ws : List Value} (i : Nat), Vals zs ws → RelV (zs.getD i .non) (ws.getD i .none)
  | _, _, i, .nil => by cases i <;> rfl
  | _, _, 0, .cons r _ => r
  | _, _, i + 1, .cons _ t => vals_getD i t
theorem vals_perm {zs : List V} {ws : List Value} (r : Vals zs ws) : ∀ pm : List Nat, Vals (permV pm zs) (pm.map fun i => ws.getD i .none)
  | [] => .nil
  | i :: pm => .cons (vals_getD i r) (vals_perm r pm)
theorem pe_callKS {pm : List Nat} (F : FnOk X.prog X.w X.K X.mg X.base CX k f fd ps sp) (hr : Room k X.A) (hg : Gl X x) (hm : X.mg x = some (.ref f)) (hk : PySem.W.keepIn X.K (.ref f) = true) (hb : KwPerm fd ps ks pm) (hx : ∀ σ, PassesAt CX X σ (E σ))
    (hkw : PK X kws tk) (hall : (backToKw pos (keywordEach kws X.env)).all (·.1.isSome) = true := by rfl) (hks : (backToKw pos (keywordEach kws X.env)).filterMap (·.1) = ks := by rfl)
    (hdb : (x == ("__debug__" : Str)) = false := by decide) (hpl : ((backTo pos (starEach [] X.env)).any (·.1) || (backToKw pos (keywordEach kws X.env)).any (·.1.isNone)) = false := by rfl) :
    PE X (.Call (.Name x p) [] kws pos) (tCallKS ks.length pm sp E tk) := by
  refine ⟨fun pins s σ H Q I h => ?_⟩
  refine wpAny_Call_Name_kw (ld_glob I hg hm ?_ hdb)
  refine PySem.W.callWith_KW0 (h₀ := X.base) I.ok.mod.kin hk hall (thn (hkw.run pos pins s σ H _ I h) fun ws s2 ⟨zs, H2, I2, rz, hl, q2⟩ => ⟨I2.kIn, ?_⟩) hpl
  rw [hks]
  refine wpAny_call (codeAny_mono (F.run X.A X.stack s2 H2 ⟨[], ks.zip ws⟩ (pm.map fun i => ws.getD i .none) (permV pm zs) Q (E σ) hr I2.env0 (hb s2 ws (rz.length.symm.trans hl)) (vals_perm rz pm) q2) fun r s' hq => ?_)
  cases r with
  | error e => exact hx σ pins H2 s2 e s' I2 hq
  | ok fl =>
    cases fl with
    | ret u => exact I2.after hq
    | next => exact False.elim hq
    | brk => exact False.elim hq
    | cont => exact False.elim hq
theorem pe_callS0 (F : FnOk X.prog X.w X.K X.mg X.base CX k f fd ps sp) (hr : Room k X.A) (hg : Gl X x) (hm : X.mg x = some (.ref f)) (hk : PySem.W.keepIn X.K (.ref f) = true) (hb : Binds X.K fd ps []) (hx : ∀ σ, PassesAt CX X σ (E σ))
    (hdb : (x == ("__debug__" : Str)) = false := by decide) : PE X (.Call (.Name x p) [] [] pos) (tCallS sp E tNil) := by
  refine ⟨fun pins s σ H Q I h => ?_⟩
  refine wpAny_Call_Name_kw (ld_glob I hg hm ?_ hdb)
  exact PySem.W.callWith_K0 I.kIn hk (run_fnS (us := []) F hr hb (hx σ) I .nil h)
theorem pass_f (X : Cx) (σ : L2.St) : PassesAt (L2.CX X.prog X.w) X σ (WE W0 σ) := fun pins H s e s' I c => by
  obtain ⟨a, B, H', cls, d, _, _, _, _, _, _, _, hE⟩ := c
  exact hE.elim
theorem FnOk.cx {P : Program} {w : World} {K : PySem.W.Frag} {mg : Str → Option Value} {base : Heap} {j : Nat} {f : Addr} {fd : FuncData} {ps : List Str} {sp : Sp} {CX : CXT} (F : L2.FnOk P w K mg base L2.CX0 j f fd ps sp) : L2.FnOk P w K mg base CX j f fd ps sp :=
  ⟨F.len, fun A outer s H args us vs Q E hr he hb hv hs => codeAny_mono (F.run A outer s H args us vs Q E hr he hb hv hs) fun r s' q => by
    cases r with
    | error e => exact False.elim q
    | ok f => cases f <;> exact q⟩

/-! ### calls by keywords; of no arguments -/
def permA (pm : List Nat) (as : List Ar) : List Ar := pm.map fun i => as.getD i (.d .none)
def callBK (f : Fn) (pm : List Nat) (l : List Ag) : Rho → Res (Bool × D × Rho) := fun ρ => (agRun l ρ).bind fun p => match arSls p.2 (permA pm p.1) with
  | some as => if (arIs (permA pm p.1)).Nodup then callR (arIs (permA pm p.1)) p.2 (f as) else .bad
  | none => .bad
def dCallK (f : Fn) (pm : List Nat) (l : List Ag) : DE := fun ρ => (callBK f pm l ρ).bind fun p => .ok (p.2.1, p.2.2)
theorem both_getD {R : V → Ar → Prop} (h0 : R .non (.d .none)) : ∀ {vs : List V} {as : List Ar} (i : Nat), Both R vs as → R (vs.getD i .non) (as.getD i (.d .none))
  | _, _, i, .nil => by cases i <;> exact h0
  | _, _, 0, .cons r _ => r
  | _, _, i + 1, .cons _ t => both_getD h0 i t
theorem both_perm {R : V → Ar → Prop} (h0 : R .non (.d .none)) {vs : List V} {as : List Ar} (b : Both R vs as) : ∀ pm : List Nat, Both R (permV pm vs) (permA pm as)
  | [] => .nil
  | i :: pm => .cons (both_getD h0 i b) (both_perm h0 b pm)
theorem s_callK {n m : Nat} {f : Fn} {ta : TA} {l : List Ag} {pm : List Nat} (hn : pm.length = n) (hm : l.length = m) (ha : SimA C W ta l) : SimE C W (tCallKS m pm (spD C n f) (WE W) ta) (dCallK f pm l) := fun B F H σ ρ Q R q => by
  refine ha B F H σ ρ _ R ?_
  unfold dCallK callBK at q
  cases e : agRun l ρ with
  | ex n fs ρ' => rw [e] at q; exact q
  | bad => rw [e] at q; exact q
  | ok p =>
    obtain ⟨ars, ρ1⟩ := p
    rw [e] at q
    intro F1 H1 vs s1 R1 b
    have hlen : ars.length = l.length := by
      clear q R b ha R1 s1
      induction l generalizing ρ ars ρ1 m with
      | nil => injection e with h; injection h with h1 _; subst h1; rfl
      | cons a l ih =>
        cases a with
        | e a =>
          obtain ⟨p, _, h⟩ := Res.bind_ok (show (a ρ).bind (fun p => (agRun l p.2).bind fun q => .ok (.d p.1 :: q.1, q.2)) = .ok (ars, ρ1) from e)
          obtain ⟨p2, h2, h⟩ := Res.bind_ok h
          injection h with h; injection h with h1 _; subst h1
          simp [ih (m := l.length) rfl _ _ _ (show agRun l p.2 = .ok (p2.1, p2.2) from h2)]
        | io i =>
          unfold agRun at e
          split at e
          · obtain ⟨p2, h2, h⟩ := Res.bind_ok e
            injection h with h; injection h with h1 _; subst h1
            simp [ih (m := l.length) rfl _ _ _ (show agRun l ρ = .ok (p2.1, p2.2) from h2)]
          · cases e
    refine ⟨by rw [b.length, hlen]; exact hm, ?_⟩
    simp only [Res.bind] at q
    have b2 := both_perm (R := fun v a => match a with | Ar.d x => Dp C.K F1 v x | Ar.io i => σ[i]? = some (some v)) (.non) b pm
    cases ea : arSls ρ1 (permA pm ars) with
    | none => rw [ea] at q; exact q.elim
    | some as =>
      rw [ea] at q
      simp only at q
      by_cases nd : (arIs (permA pm ars)).Nodup
      · rw [if_pos nd] at q
        obtain ⟨ps, ao, bh⟩ := args_of R1 b2 ea nd
        refine ⟨by unfold permV; rw [List.length_map]; exact hn, F1, as, ps, R1.sub, R1.tup, ao, holds_nodup R1 bh nd, ?_⟩
        have key : ∀ {F' H' : Hp} {xs : List D}, After F1 H1 ps F' H' → Both (fun p x => Own C F' H' p x) ps xs → Rep C B F' H' σ (reconts ρ1 (arIs (permA pm ars)) xs) ∧ Same F1 F' := fun {F' H' xs} af bo =>
          R1.called nd af.sub af.fr af.hk af.live af.tup (tri_of (S := fun _ _ => True) bh bo)
        cases ef : f as with
        | bad => rw [ef] at q; exact q
        | ex n fs ss =>
          rw [ef] at q
          intro F' H' d af bo xo
          obtain ⟨R2, s2⟩ := key af (ios_of bo)
          exact q F' H' d (s1.trans s2) R2 xo
        | ok r =>
          obtain ⟨fr, x, ios⟩ := r
          rw [ef] at q
          cases fr with
          | false =>
            intro F' H' y af bo dp
            obtain ⟨R2, s2⟩ := key af bo
            exact q F' H' y (s1.trans s2) R2 dp
          | true =>
            intro F' H' p af bo hp ho
            obtain ⟨R2, s2⟩ := key af bo
            obtain ⟨nF, nw, nh⟩ := R1.free hp
            have nh2 : ∀ i, ¬ Holds σ (reconts ρ1 (arIs (permA pm ars)) ios) i p := fun i hi => by
              obtain ⟨h1, y, h2⟩ := hi
              have : ∃ z, cont (look ρ1 i) = some z := by
                by_cases hj : i ∈ arIs (permA pm ars)
                · obtain ⟨_, _, _, _, hl⟩ := (tri_of (S := fun _ _ => True) bh bo).at nd hj (ρ := ρ1)
                  rw [hl] at h2
                  exact reSl_cont.mp ⟨_, h2⟩
                · rw [look_reconts_out hj] at h2; exact ⟨_, h2⟩
              exact nh i ⟨h1, this⟩
            obtain ⟨nF, o, h1, h2⟩ := ho
            have sF : Same F' (upd F' p o) := sameUpd nF
            exact q _ H' _ ((s1.trans s2).trans sF) (R2.freeze h1 nF nw nh2) ((h2.same sF).dp upd_same)
      · rw [if_neg nd] at q; exact q.elim

/-! ### try .. except X -/
def dTry (mt : String → Option Bool) (body suite : DS) : DS := fun ρ => match body ρ with
  | .ex n fs ρ' => match mt n with
    | some true => suite ρ'
    | some false => .ex n fs ρ'
    | none => .bad
  | r => r
theorem s_try {c : Value} {tb : WX → TS} {ts : Addr → Value → Option Addr → TS} {body suite : DS} {mt : String → Option Bool} (hm : ∀ n b, mt n = some b → PySem.W.exmOne C.K (C.cl n) c = some b) (hb : ∀ W', SimS C W' (tb W') body) (hs : ∀ a cls d, SimS C W (ts a cls d) suite) :
    SimS C W (fun D σ H => tb (wOnly C.K c ts W D) D σ H) (dTry mt body suite) := fun B F H σ ρ E R q => by
  refine hb (wOnly C.K c ts W E) B F H σ ρ E R ?_
  unfold dTry at q
  cases e : body ρ with
  | bad => rw [e] at q; exact q
  | ok f => rw [e] at q; cases f <;> exact q
  | ex n fs ρ' =>
    rw [e] at q
    intro σ' F' H' d s R' x
    replace q : PostS C W B F E (match mt n with | some true => suite ρ' | some false => .ex n fs ρ' | none => .bad) := q
    cases em : mt n with
    | none => rw [em] at q; exact q.elim
    | some b =>
      rw [em] at q
      refine ⟨b, hm n b em, fun hb a ha => ?_, fun hb => ?_⟩
      · subst hb
        exact hs a _ _ B F' H' σ' ρ' E R' (PostS.mono q s)
      · subst hb
        exact q σ' F' H' d s R' x
end
end
end XD

set_option autoImplicit true
set_option Elab.async false
set_option linter.all false
set_option maxRecDepth 100000
set_option maxHeartbeats 1000000
set_option autoImplicit true
/-! the data layer: wide ints, tuples repeated, alike -/
namespace XD
open PySem PySem.Spec PyProof.Rows L2
def rLenS (K : PySem.W.Frag) : List V → Hp → VK → Prop := fun xs H Q => ∃ p ys, xs = [.ref p] ∧ (SqL K H p ys ∨ SqT K H p ys) ∧ Q (.int ys.length) H
def rListS (K : PySem.W.Frag) : List V → Hp → VK → Prop := fun xs H Q => ∃ p ys, xs = [.ref p] ∧ (SqL K H p ys ∨ SqT K H p ys) ∧ ∀ l, H l = none → Q (.ref l) (upd H l (.lst ys))
def rTupS (K : PySem.W.Frag) : List V → Hp → VK → Prop := fun xs H Q => ∃ p ys, xs = [.ref p] ∧ ((SqL K H p ys ∧ ∀ l, H l = none → Q (.ref l) (upd H l (.tup ys))) ∨ (SqT K H p ys ∧ Q (.ref p) H))
instance {i j : Int} : Decidable (CPowW i j) := by unfold CPowW; exact inferInstance
def fPowW := onI fun i j => gd (CPowW i j) (.int (i ^ j.toNat))
section
variable {C : Ct} {W : WX}
theorem o_powW : O2 C (rI CPowW fun i j => .int (i ^ j.toNat)) fPowW := o_I fun i j K H => .int _

def fRepT : D → D → Option D
  | .tuple xs, .int k => gd (xs ≠ [] ∧ 2 ≤ k ∧ k ≤ 1000 ∧ xs.length ≤ 1000) (.tuple (List.replicate k.toNat xs).flatten)
  | _, _ => none
/-! == on data without bools: equal -/
mutual
def noB : D → Bool
  | .none => true
  | .bool _ => false
  | .int _ => true
  | .str _ => true
  | .list xs => noBs xs
  | .tuple xs => noBs xs
  | .dict _ => false
def noBs : List D → Bool
  | [] => true
  | x :: xs => noB x && noBs xs
end
mutual
theorem eqv_noB : ∀ {x y : D}, noB x = true → noB y = true → (PyData.eqv x y = true ↔ x = y)
  | .none, y, hx, hy => by cases y <;> simp [PyData.eqv] <;> cases hy
  | .int i, y, hx, hy => by cases y <;> simp [PyData.eqv] <;> cases hy
  | .str i, y, hx, hy => by cases y <;> simp [PyData.eqv] <;> cases hy
  | .list xs, y, hx, hy => by
    cases y <;> simp [PyData.eqv] <;> try cases hy
    exact eqvs_noB (by simpa [noB] using hx) (by simpa [noB] using hy)
  | .tuple xs, y, hx, hy => by
    cases y <;> simp [PyData.eqv] <;> try cases hy
    exact eqvs_noB (by simpa [noB] using hx) (by simpa [noB] using hy)
  | .bool _, _, hx, _ => by cases hx
  | .dict _, _, hx, _ => by cases hx
theorem eqvs_noB : ∀ {xs ys : List D}, noBs xs = true → noBs ys = true → (PyData.eqvAll xs ys = true ↔ xs = ys)
  | [], [], _, _ => by simp [PyData.eqvAll]
  | [], _ :: _, _, _ => by simp [PyData.eqvAll]
  | _ :: _, [], _, _ => by simp [PyData.eqvAll]
  | x :: xs, y :: ys, hx, hy => by
    simp only [noBs, Bool.and_eq_true] at hx hy
    simp only [PyData.eqvAll, Bool.and_eq_true, List.cons.injEq]
    rw [eqv_noB hx.1 hy.1, eqvs_noB hx.2 hy.2]
end
/-- what is frozen behind a call that changes nothing of what stood there -/
def over (H F H' : Hp) : Hp := fun a => match H a with
  | none => H' a
  | some _ => F a
theorem over_after {H F H' : Hp} (sF : Same F H) (tF : ∀ a u, H a = some u → keptO u = true → F a = some u) (s' : Same H H') : After F H [] (over H F H') H' := by
  refine ⟨fun a o e => ?_, fun a h => ?_, fun a h _ => ?_, fun a h => ?_, fun a xs h hu => ?_⟩
  · unfold over at e
    cases ha : H a with
    | none => simp only [ha] at e; exact e
    | some u => simp only [ha] at e; exact s' _ _ (sF _ _ e)
  · unfold over
    cases ha : H a with
    | none => exact absurd ha h
    | some u => rfl
  · cases ha : H a with
    | none => exact absurd ha h
    | some o => exact s' _ _ ha
  · cases ha : H a with
    | none => exact absurd ha h
    | some o => rw [s' _ _ ha]; exact fun z => by cases z
  · unfold over
    cases ha : H a with
    | none => exact h
    | some o =>
      have := s' _ _ ha
      rw [h] at this
      injection this with this; subst this
      exact tF a _ ha hu
mutual
/-- no list, no dict within -/
def noL : D → Bool
  | .list _ => false
  | .dict _ => false
  | .tuple xs => noLs xs
  | _ => true
def noLs : List D → Bool
  | [] => true
  | x :: xs => noL x && noLs xs
end
theorem sq_over {K : PySem.W.Frag} {H F H' : Hp} (sF : Same F H) (tF : ∀ a u, H a = some u → keptO u = true → F a = some u) (s' : Same H H') {a : Addr} {xs : List V} (h : SqT K H' a xs) : SqT K (over H F H') a xs := by
  rcases h with (h | ⟨o, h⟩) | h
  · exact .inl (.inl ((over_after sF tF s').tup a _ h rfl))
  · exact .inl (.inr ⟨o, (over_after sF tF s').tup a _ h rfl⟩)
  · exact .inr h
mutual
/-- data of tuples, known by the library's relation behind the call -/
theorem dp_over {K : PySem.W.Frag} {H F H' : Hp} (sF : Same F H) (tF : ∀ a u, H a = some u → keptO u = true → F a = some u) (s' : Same H H') : ∀ {d : D} {v : V}, L2.Dp K H' v d → noL d = true → Dp K (over H F H') v d
  | .none, _, h, _ => by cases h; exact .non
  | .bool b, _, h, _ => by cases h; exact .bl b
  | .int b, _, h, _ => by cases h; exact .int b
  | .str b, _, h, _ => by cases h; exact .str b
  | .list ds, _, _, c => by cases c
  | .dict ds, _, _, c => by cases c
  | .tuple ds, _, h, c => by
    cases h with
    | tup h1 h2 => exact .tup (sq_over sF tF s' h1) (dps_over sF tF s' h2 (by simpa [noL] using c))
theorem dps_over {K : PySem.W.Frag} {H F H' : Hp} (sF : Same F H) (tF : ∀ a u, H a = some u → keptO u = true → F a = some u) (s' : Same H H') : ∀ {d : List D} {v : List V}, L2.DpAll K H' v d → noLs d = true → DpAll K (over H F H') v d
  | [], _, h, _ => by cases h; exact .nil
  | x :: xs, _, h, c => by
    simp only [noLs, Bool.and_eq_true] at c
    cases h with
    | cons h1 h2 => exact .cons (dp_over sF tF s' h1 c.1) (dps_over sF tF s' h2 c.2)
end
/-! alike: of two that are one -/
def sameD (n : Nat) (x y : D) : Prop := x = y ∧ x.canLay0 = true ∧ x.depth < n ∧ nodes x ≤ 1000000
open Classical in
noncomputable def alikeD (n : Nat) : Fn
  | [.d x, .d y] => if sameD n x y then .ok (false, .bool true, []) else .bad
  | _ => .bad
theorem alike_of {P : Program} {w : World} {K : PySem.W.Frag} {mg : Str → Option Value} {base : Heap} {k n : Nat} {f : Addr} {fd : FuncData} {cl : String → Value} {ps : List Str} (hp : ps.length = 2)
    (F : L2.FnOk P w K mg base L2.CX0 k f fd ps (spAlike K n)) : L2.FnOk P w K mg base (L2.CX P w) k f fd ps (spD (⟨K, cl⟩ : Ct) 2 (alikeD n)) := by
  refine ⟨fun vs H Q E h => by rw [h.1, hp], fun A outer s H args us vs Q E hr he hb hv h => ?_⟩
  obtain ⟨hl, F0, as, pp, sF, tF, ao, nd, q⟩ := h
  have go : ∃ x y v v', as = [.d x, .d y] ∧ vs = [v, v'] ∧ pp = [] ∧ Dp K F0 v x ∧ Dp K F0 v' y ∧ sameD n x y := by
    cases ao with
    | nil => exact q.elim
    | io _ r => cases r <;> first | exact q.elim | (rename_i r; cases r <;> exact q.elim)
    | d d1 r =>
      cases r with
      | nil => exact q.elim
      | io _ r => cases r <;> exact q.elim
      | d d2 r =>
        cases r with
        | d _ _ => exact q.elim
        | io _ _ => exact q.elim
        | nil =>
          rename_i v x v' y
          refine ⟨x, y, v, v', rfl, rfl, rfl, d1, d2, ?_⟩
          by_cases hc : sameD n x y
          · exact hc
          · have q' : PostC (⟨K, cl⟩ : Ct) F0 H [] Q E (alikeD n [.d x, .d y]) := q
            unfold alikeD at q'
            simp only [if_neg hc] at q'
            exact q'.elim
  obtain ⟨x, y, v, v', rfl, rfl, rfl, d1, d2, hc⟩ := go
  have q' : PostC (⟨K, cl⟩ : Ct) F0 H [] Q E (alikeD n [.d x, .d y]) := q
  unfold alikeD at q'
  simp only [if_pos hc] at q'
  obtain ⟨rfl, c, hd, hn⟩ := hc
  refine (FnOk.cx F).run A outer s H args us _ Q E hr he hb hv ⟨v, v', x, rfl, (d1.same sF).lib c, (d2.same sF).lib c, hd, hn, fun H' s' => ?_⟩
  exact q' (over H F0 H') H' (.bl true) (over_after sF tF s') .nil (.bl true)
theorem o_repT : O2 C (rRepT C.K) fRepT := fun B F H σ ρ x y dx dy z Q R lx ly e q => by
  unfold fRepT at e
  split at e
  · rename_i ds kk
    obtain ⟨⟨e1, e2, e3, e4⟩, rfl⟩ := gd_some e
    obtain ⟨a, xs, rfl, h1, h2⟩ := lx.tup
    refine ⟨a, _, xs, rfl, ly.int, SqT.same R.sub h1, fun z => ?_, e2, e3, by rw [DpAll.length h2]; exact e4, fun p hp => ?_⟩
    · subst z; cases h2; exact e1 rfl
    · have sF := sameUpd (o := .tup (List.replicate kk.toNat xs).flatten) (R.free hp).1
      exact q _ _ _ sF (R.new hp) (.tup (.of upd_same) (DpAll.same sF (DpAll.rep h2 _)))
  · cases e
end
end XD

set_option autoImplicit true
set_option Elab.async false
set_option linter.all false
set_option maxRecDepth 100000
set_option maxHeartbeats 1000000
set_option autoImplicit true
/-! the data layer: its equations, for simp; loops by what holds at each turn -/
namespace XD
open PySem L2
@[simp] theorem e_bok {α β : Type} {a : α} {k : α → Res β} : (Res.ok a).bind k = k a := rfl
@[simp] theorem e_bbad {α β : Type} {k : α → Res β} : (Res.bad : Res α).bind k = .bad := rfl
@[simp] theorem e_bex {α β : Type} {n : String} {fs : List (Str × D)} {ρ : Rho} {k : α → Res β} : (Res.ex n fs ρ : Res α).bind k = .ex n fs ρ := rfl
@[simp] theorem e_nok {α β : Type} {a : α} {k : α → Res β} : (Res.ok a).nob k = k a := rfl
@[simp] theorem e_nbad {α β : Type} {k : α → Res β} : (Res.bad : Res α).nob k = .bad := rfl
@[simp] theorem e_look0 {s : Sl} {ρ : Rho} : look (s :: ρ) 0 = s := rfl
@[simp] theorem e_lookS {s : Sl} {ρ : Rho} {n : Nat} : look (s :: ρ) (n + 1) = look ρ n := rfl
@[simp] theorem e_pkd {x : D} : pk (.d x) = some x := rfl
@[simp] theorem e_pko {x : D} : pk (.o x) = some x := rfl
@[simp] theorem e_pki {x : D} : pk (.io x) = some x := rfl
@[simp] theorem e_pku : pk .un = none := rfl
@[simp] theorem e_cd {x : D} : cont (.d x) = none := rfl
@[simp] theorem e_co {x : D} : cont (.o x) = some x := rfl
@[simp] theorem e_ci {x : D} : cont (.io x) = some x := rfl
@[simp] theorem e_cu : cont .un = none := rfl
@[simp] theorem e_iod {x : D} : isIo (.d x) = false := rfl
@[simp] theorem e_ioo {x : D} : isIo (.o x) = false := rfl
@[simp] theorem e_ioi {x : D} : isIo (.io x) = true := rfl
@[simp] theorem e_iou : isIo .un = false := rfl
@[simp] theorem e_C {x : D} {ρ : Rho} : dC x ρ = .ok (x, ρ) := rfl
def varR (i : Nat) (ρ : Rho) : Sl → Res (D × Rho)
  | .d x => .ok (x, ρ)
  | .o x => .ok (x, ρ.set i (.d x))
  | _ => .bad
@[simp] theorem e_varR1 {i : Nat} {ρ : Rho} {x : D} : varR i ρ (.d x) = .ok (x, ρ) := rfl
@[simp] theorem e_varR2 {i : Nat} {ρ : Rho} {x : D} : varR i ρ (.o x) = .ok (x, ρ.set i (.d x)) := rfl
@[simp] theorem e_Var {i : Nat} {ρ : Rho} : dVar i ρ = varR i ρ (look ρ i) := by unfold dVar varR; cases look ρ i <;> rfl
def pkR (ρ : Rho) : Option D → Res (D × Rho)
  | some x => .ok (x, ρ)
  | none => .bad
@[simp] theorem e_pkR1 {ρ : Rho} {x : D} : pkR ρ (some x) = .ok (x, ρ) := rfl
@[simp] theorem e_Pk {i : Nat} {ρ : Rho} : dPk i ρ = pkR ρ (pk (look ρ i)) := by unfold dPk pkR; cases pk (look ρ i) <;> rfl
@[simp] theorem e_lift1 {z : D} {ρ : Rho} : lift1 (some z) ρ = .ok (z, ρ) := rfl
@[simp] theorem e_lift0 {ρ : Rho} : lift1 none ρ = .bad := rfl
@[simp] theorem e_d1 {f : D → Option D} {a : DE} {ρ : Rho} : d1 f a ρ = (a ρ).bind fun p => lift1 (f p.1) p.2 := rfl
@[simp] theorem e_d2 {f : D → D → Option D} {a b : DE} {ρ : Rho} : d2 f a b ρ = (a ρ).bind fun p => (b p.2).bind fun q => lift1 (f p.1 q.1) q.2 := rfl
def look2R (f : D → D → Option D) (y : D) (ρ : Rho) : Option D → Res (D × Rho)
  | some x => lift1 (f x y) ρ
  | none => .bad
@[simp] theorem e_look2R {f : D → D → Option D} {y x : D} {ρ : Rho} : look2R f y ρ (some x) = lift1 (f x y) ρ := rfl
def v2R (r : Res (D × Rho)) : Option D → Res (D × Rho)
  | some _ => r
  | none => .bad
@[simp] theorem e_v2R {r : Res (D × Rho)} {x : D} : v2R r (some x) = r := rfl
@[simp] theorem e_d2V {f : D → D → Option D} {i : Nat} {b : DE} {ρ : Rho} : d2V f i b ρ = v2R ((b ρ).bind fun q => look2R f q.1 q.2 (pk (look q.2 i))) (pk (look ρ i)) := rfl
@[simp] theorem e_gd {p : Prop} [Decidable p] {x : D} : gd p x = if p then some x else none := rfl
@[simp] theorem e_add {i j : Int} : fAdd (.int i) (.int j) = some (.int (i + j)) := rfl
@[simp] theorem e_sub {i j : Int} : fSub (.int i) (.int j) = some (.int (i - j)) := rfl
@[simp] theorem e_mul {i j : Int} : fMul (.int i) (.int j) = gd (CMul i j) (.int (i * j)) := rfl
@[simp] theorem e_mod {i j : Int} : fMod (.int i) (.int j) = gd (0 < j) (.int (i % j)) := rfl
@[simp] theorem e_div {i j : Int} : fDiv (.int i) (.int j) = gd (CDiv i j) (.int (i / j)) := rfl
@[simp] theorem e_pow {i j : Int} : fPow (.int i) (.int j) = gd (CPow i j) (.int (i ^ j.toNat)) := rfl
@[simp] theorem e_powW {i j : Int} : fPowW (.int i) (.int j) = gd (CPowW i j) (.int (i ^ j.toNat)) := rfl
@[simp] theorem e_lt {i j : Int} : fLt (.int i) (.int j) = some (.bool (decide (i < j))) := rfl
@[simp] theorem e_le {i j : Int} : fLe (.int i) (.int j) = some (.bool (decide (i ≤ j))) := rfl
@[simp] theorem e_gt {i j : Int} : fGt (.int i) (.int j) = some (.bool (decide (j < i))) := rfl
@[simp] theorem e_ge {i j : Int} : fGe (.int i) (.int j) = some (.bool (decide (j ≤ i))) := rfl
@[simp] theorem e_neg {i : Int} : fNeg (.int i) = some (.int (-i)) := rfl
@[simp] theorem e_eqI {i j : Int} : fEq (.int i) (.int j) = some (.bool (decide (i = j))) := rfl
@[simp] theorem e_eqS {i j : Str} : fEq (.str i) (.str j) = some (.bool (decide (i = j))) := rfl
@[simp] theorem e_eqB {i j : Bool} : fEq (.bool i) (.bool j) = some (.bool (decide (i = j))) := rfl
@[simp] theorem e_neI {i j : Int} : fNe (.int i) (.int j) = some (.bool (!decide (i = j))) := rfl
@[simp] theorem e_neS {i j : Str} : fNe (.str i) (.str j) = some (.bool (!decide (i = j))) := rfl
@[simp] theorem e_neB {i j : Bool} : fNe (.bool i) (.bool j) = some (.bool (!decide (i = j))) := rfl
@[simp] theorem e_isN2 {x : D} : fIsN2 x .none = some (.bool (isN x)) := rfl
@[simp] theorem e_notN2 {x : D} : fNotN2 x .none = some (.bool (!isN x)) := rfl
@[simp] theorem e_isN0 : isN .none = true := rfl
@[simp] theorem e_isN1 {i : Int} : isN (.int i) = false := rfl
@[simp] theorem e_isN2' {i : Str} : isN (.str i) = false := rfl
@[simp] theorem e_isN3 {i : List D} : isN (.list i) = false := rfl
@[simp] theorem e_isN4 {i : List D} : isN (.tuple i) = false := rfl
@[simp] theorem e_isN5 {i : Bool} : isN (.bool i) = false := rfl
@[simp] theorem e_eqNil {xs : List D} : fEqNil (.list xs) (.list []) = some (.bool xs.isEmpty) := rfl
@[simp] theorem e_neNil {xs : List D} : fNeNil (.list xs) (.list []) = some (.bool !xs.isEmpty) := rfl
@[simp] theorem e_eqNilT {xs : List D} : fEqNilT (.tuple xs) (.tuple []) = some (.bool xs.isEmpty) := rfl
@[simp] theorem e_neNilT {xs : List D} : fNeNilT (.tuple xs) (.tuple []) = some (.bool !xs.isEmpty) := rfl
@[simp] theorem e_eqD {x y : D} : fEqD x y = gd (shp x y) (.bool (PyData.eqv x y)) := rfl
@[simp] theorem e_neD {x y : D} : fNeD x y = gd (shp x y) (.bool (!PyData.eqv x y)) := rfl
@[simp] theorem e_ixL {xs : List D} {i : Int} : ixF (.list xs) (.int i) = atI xs i := rfl
@[simp] theorem e_ixT {xs : List D} {i : Int} : ixF (.tuple xs) (.int i) = atI xs i := rfl
theorem e_at {xs : List D} {n : Nat} : atI xs (n : Int) = xs[n]? := by
  unfold atI ixN
  by_cases h : n < xs.length
  · rw [if_pos (by omega), if_pos (by omega)]; rfl
  · rw [if_pos (by omega), if_neg (by omega), List.getElem?_eq_none (by omega)]; rfl
@[simp] theorem e_at0 {x : D} {xs : List D} : atI (x :: xs) 0 = some x := e_at (n := 0)
@[simp] theorem e_at1 {x y : D} {xs : List D} : atI (x :: y :: xs) 1 = some y := e_at (n := 1)
@[simp] theorem e_at2 {x y z : D} {xs : List D} : atI (x :: y :: z :: xs) 2 = some z := e_at (n := 2)
@[simp] theorem e_slL {xs : List D} {lo hi : Option Int} : slL (.list xs) lo hi = some (.list (cutD xs lo hi)) := rfl
@[simp] theorem e_slT {xs : List D} {lo hi : Option Int} : slT (.tuple xs) lo hi = some (.tuple (cutD xs lo hi)) := rfl
theorem cut_nn {xs : List D} : cutD xs none none = xs := by unfold cutD; rw [HT.sIx_none, HT.sIx_none]; simp
theorem cut_fr {xs : List D} {k : Nat} : cutD xs (some (k : Int)) none = xs.drop k := by
  unfold cutD
  rw [HT.sIx_nat, HT.sIx_none, drop_min, List.take_of_length_le]
  rw [List.length_drop]
  by_cases h : k ≤ xs.length
  · rw [Nat.min_eq_left h]; exact Nat.le_refl _
  · omega
theorem cut_to {xs : List D} {k : Nat} : cutD xs none (some (k : Int)) = xs.take k := by
  unfold cutD
  rw [HT.sIx_nat, HT.sIx_none, List.drop_zero, Nat.sub_zero]
  by_cases h : k ≤ xs.length
  · rw [Nat.min_eq_left h]
  · rw [Nat.min_eq_right (by omega), List.take_of_length_le (Nat.le_refl _), List.take_of_length_le (by omega)]
theorem cut_mid {xs : List D} {a b : Nat} : cutD xs (some (a : Int)) (some (b : Int)) = (xs.drop a).take (b - a) := by
  unfold cutD
  rw [HT.sIx_nat, HT.sIx_nat, drop_min, take_min]
@[simp] theorem e_No {ρ : Rho} : dNo ρ = .ok (none, ρ) := rfl
def partR (ρ : Rho) : D → Res (Option Int × Rho)
  | .int i => .ok (some i, ρ)
  | _ => .bad
@[simp] theorem e_partR {ρ : Rho} {i : Int} : partR ρ (.int i) = .ok (some i, ρ) := rfl
@[simp] theorem e_Part {a : DE} {ρ : Rho} : dPart a ρ = (a ρ).bind fun p => partR p.2 p.1 := rfl
@[simp] theorem e_Slc {f : D → Option Int → Option Int → Option D} {a : DE} {l h : DO} {ρ : Rho} : dSlc f a l h ρ = (a ρ).bind fun p => (l p.2).bind fun q => (h q.2).bind fun r => lift1 (f p.1 q.1 r.1) r.2 := rfl
def look3R (f : D → Option Int → Option Int → Option D) (lo hi : Option Int) (ρ : Rho) : Option D → Res (D × Rho)
  | some x => lift1 (f x lo hi) ρ
  | none => .bad
@[simp] theorem e_look3R {f : D → Option Int → Option Int → Option D} {lo hi : Option Int} {ρ : Rho} {x : D} : look3R f lo hi ρ (some x) = lift1 (f x lo hi) ρ := rfl
@[simp] theorem e_SlcV {f : D → Option Int → Option Int → Option D} {i : Nat} {l h : DO} {ρ : Rho} : dSlcV f i l h ρ = v2R ((l ρ).bind fun q => (h q.2).bind fun r => look3R f q.1 r.1 r.2 (pk (look r.2 i))) (pk (look ρ i)) := rfl
def bR (ρ : Rho) : D → Res (Bool × Rho)
  | .bool b => .ok (b, ρ)
  | _ => .bad
@[simp] theorem e_bR {ρ : Rho} {b : Bool} : bR ρ (.bool b) = .ok (b, ρ) := rfl
@[simp] theorem e_B {a : DE} {ρ : Rho} : dB a ρ = (a ρ).bind fun p => bR p.2 p.1 := rfl
@[simp] theorem e_NotT {a : DT} {ρ : Rho} : dNotT a ρ = (a ρ).bind fun p => .ok (!p.1, p.2) := rfl
@[simp] theorem e_AndT {a b : DT} {ρ : Rho} : dAndT a b ρ = (a ρ).bind fun p => if p.1 = true then b p.2 else .ok (false, p.2) := rfl
@[simp] theorem e_OrT {a b : DT} {ρ : Rho} : dOrT a b ρ = (a ρ).bind fun p => if p.1 = true then .ok (true, p.2) else b p.2 := rfl
@[simp] theorem e_IfE {t : DT} {a b : DE} {ρ : Rho} : dIfE t a b ρ = (t ρ).bind fun p => if p.1 = true then a p.2 else b p.2 := rfl
@[simp] theorem e_yes {ρ : Rho} : dYes ρ = .ok (true, ρ) := rfl
@[simp] theorem e_not {b : Bool} : notF (.bool b) = some (.bool !b) := rfl
def andR (k : Res (D × Rho)) (ρ : Rho) : D → Res (D × Rho)
  | .bool c => if c = true then k else .ok (.bool false, ρ)
  | _ => .bad
@[simp] theorem e_andR {k : Res (D × Rho)} {ρ : Rho} {c : Bool} : andR k ρ (.bool c) = if c = true then k else .ok (.bool false, ρ) := rfl
@[simp] theorem e_AndE {a b : DE} {ρ : Rho} : dAndE a b ρ = (a ρ).bind fun p => andR (b p.2) p.2 p.1 := rfl
def orR (k : Res (D × Rho)) (ρ : Rho) : D → Res (D × Rho)
  | .bool c => if c = true then .ok (.bool true, ρ) else k
  | _ => .bad
@[simp] theorem e_orR {k : Res (D × Rho)} {ρ : Rho} {c : Bool} : orR k ρ (.bool c) = if c = true then .ok (.bool true, ρ) else k := rfl
@[simp] theorem e_OrE {a b : DE} {ρ : Rho} : dOrE a b ρ = (a ρ).bind fun p => orR (b p.2) p.2 p.1 := rfl
@[simp] theorem e_Nil {ρ : Rho} : dNil ρ = .ok ([], ρ) := rfl
@[simp] theorem e_Cons {a : DE} {r : DL} {ρ : Rho} : dCons a r ρ = (a ρ).bind fun p => (r p.2).bind fun q => .ok (p.1 :: q.1, q.2) := rfl
@[simp] theorem e_SeqOf {f : List D → D} {r : DL} {ρ : Rho} : dSeqOf f r ρ = (r ρ).bind fun p => lift1 (seqF f p.1) p.2 := rfl
@[simp] theorem e_seqF {f : List D → D} {xs : List D} : seqF f xs = if xs.length ≤ sizeLine then some (f xs) else none := rfl
/-! statements -/
@[simp] theorem e_Next {ρ : Rho} : dNext ρ = .ok (.nx ρ) := rfl
@[simp] theorem e_seqK1 {k : DS} {ρ : Rho} : seqK k (.nx ρ) = k ρ := rfl
@[simp] theorem e_seqK2 {k : DS} {ρ : Rho} : seqK k (.bk ρ) = .ok (.bk ρ) := rfl
@[simp] theorem e_seqK3 {k : DS} {ρ : Rho} : seqK k (.ct ρ) = .ok (.ct ρ) := rfl
@[simp] theorem e_seqK4 {k : DS} {x : D} {ρ : Rho} : seqK k (.rt x ρ) = .ok (.rt x ρ) := rfl
@[simp] theorem e_seqK5 {k : DS} {x : D} {ρ : Rho} : seqK k (.rf x ρ) = .ok (.rf x ρ) := rfl
@[simp] theorem e_Seq {a k : DS} {ρ : Rho} : dSeq a k ρ = (a ρ).bind (seqK k) := rfl
@[simp] theorem e_putR {i : Nat} {s : Sl} {ρ : Rho} : putR i s ρ = if i < ρ.length ∧ isIo (look ρ i) = false then .ok (ρ.set i s) else .bad := rfl
@[simp] theorem e_Set {i : Nat} {a : DE} {ρ : Rho} : dSet i a ρ = (a ρ).bind fun p => (putR i (.d p.1) p.2).bind fun ρ' => .ok (.nx ρ') := rfl
@[simp] theorem e_SetF {i : Nat} {a : DE} {ρ : Rho} : dSetF i a ρ = (a ρ).bind fun p => (putR i (.o p.1) p.2).bind fun ρ' => .ok (.nx ρ') := rfl
@[simp] theorem e_Drop {a : DE} {ρ : Rho} : dDrop a ρ = (a ρ).bind fun p => .ok (.nx p.2) := rfl
@[simp] theorem e_Ret {a : DE} {ρ : Rho} : dRet a ρ = (a ρ).bind fun p => .ok (.rt p.1 p.2) := rfl
@[simp] theorem e_RetF {a : DE} {ρ : Rho} : dRetF a ρ = (a ρ).bind fun p => .ok (.rf p.1 p.2) := rfl
@[simp] theorem e_RetN {ρ : Rho} : dRetN ρ = .ok (.rt .none ρ) := rfl
def retR (i : Nat) (ρ : Rho) : Sl → Res Fl
  | .o x => .ok (.rf x (ρ.set i .un))
  | .d x => .ok (.rt x ρ)
  | _ => .bad
@[simp] theorem e_retR1 {i : Nat} {ρ : Rho} {x : D} : retR i ρ (.o x) = .ok (.rf x (ρ.set i .un)) := rfl
@[simp] theorem e_retR2 {i : Nat} {ρ : Rho} {x : D} : retR i ρ (.d x) = .ok (.rt x ρ) := rfl
@[simp] theorem e_RetA {i : Nat} {ρ : Rho} : dRetA i ρ = retR i ρ (look ρ i) := by unfold dRetA retR; cases look ρ i <;> rfl
@[simp] theorem e_If {t : DT} {a b : DS} {ρ : Rho} : dIf t a b ρ = (t ρ).bind fun p => if p.1 = true then a p.2 else b p.2 := rfl
@[simp] theorem e_Break {ρ : Rho} : dBreak ρ = .ok (.bk ρ) := rfl
@[simp] theorem e_Cont {ρ : Rho} : dCont ρ = .ok (.ct ρ) := rfl
@[simp] theorem e_For {it : DL} {t : Tg} {b : DS} {ρ : Rho} : dFor it t b ρ = (it ρ).bind fun p => dForL t b p.1 p.2 := rfl
@[simp] theorem e_Lc {it : DL} {t : Tg} {te : DT} {el : DE} {vs : List Nat} {ρ : Rho} : dLc it t te el vs ρ = (it ρ).bind fun p => dLcL t te el vs p.1 [] p.2 := rfl
@[simp] theorem e_tg1 {i : Nat} {x : D} {ρ : Rho} : tgPut (.nm i) x ρ = putR i (.d x) ρ := rfl
@[simp] theorem e_tg2 {l : List Tg} {xs : List D} {ρ : Rho} : tgPut (.tp l) (.tuple xs) ρ = tgPuts l xs ρ := rfl
@[simp] theorem e_tg3 {ρ : Rho} : tgPuts [] [] ρ = .ok ρ := rfl
@[simp] theorem e_tg4 {t : Tg} {l : List Tg} {x : D} {xs : List D} {ρ : Rho} : tgPuts (t :: l) (x :: xs) ρ = (tgPut t x ρ).bind (tgPuts l xs) := rfl
@[simp] theorem e_Asg {t : Tg} {a : DE} {ρ : Rho} : dAsg t a ρ = (a ρ).bind fun p => (tgPut t p.1 p.2).bind fun ρ' => .ok (.nx ρ') := rfl
@[simp] theorem e_mix0 {ρ : Rho} : mixRun [] ρ = .ok ([], ρ) := rfl
@[simp] theorem e_mix1 {a : DE} {l : List Pr} {ρ : Rho} : mixRun (.d a :: l) ρ = (a ρ).bind fun p => (mixRun l p.2).bind fun q => .ok ((false, p.1) :: q.1, q.2) := rfl
@[simp] theorem e_mix2 {a : DE} {l : List Pr} {ρ : Rho} : mixRun (.f a :: l) ρ = (a ρ).bind fun p => (mixRun l p.2).bind fun q => .ok ((true, p.1) :: q.1, q.2) := rfl
@[simp] theorem e_mixP0 {ρ : Rho} : mixPut [] [] ρ = .ok ρ := rfl
@[simp] theorem e_mixP1 {i : Nat} {is : List Nat} {x : D} {xs : List (Bool × D)} {ρ : Rho} : mixPut (i :: is) ((false, x) :: xs) ρ = (putR i (.d x) ρ).bind (mixPut is xs) := rfl
@[simp] theorem e_mixP2 {i : Nat} {is : List Nat} {x : D} {xs : List (Bool × D)} {ρ : Rho} : mixPut (i :: is) ((true, x) :: xs) ρ = (putR i (.o x) ρ).bind (mixPut is xs) := rfl
@[simp] theorem e_Mix {is : List Nat} {l : List Pr} {ρ : Rho} : dMix is l ρ = (mixRun l ρ).bind fun p => (mixPut is p.1 p.2).bind fun ρ' => .ok (.nx ρ') := rfl
def reM (ρ : Rho) (i : Nat) (x : D) : Sl → Rho
  | .o _ => ρ.set i (.o x)
  | .io _ => ρ.set i (.io x)
  | _ => ρ
@[simp] theorem e_reM1 {ρ : Rho} {i : Nat} {x y : D} : reM ρ i x (.o y) = ρ.set i (.o x) := rfl
@[simp] theorem e_reM2 {ρ : Rho} {i : Nat} {x y : D} : reM ρ i x (.io y) = ρ.set i (.io x) := rfl
@[simp] theorem e_recont {ρ : Rho} {i : Nat} {x : D} : recont ρ i x = reM ρ i x (look ρ i) := by unfold recont reM; cases look ρ i <;> rfl
@[simp] theorem e_recs0 {ρ : Rho} : reconts ρ [] [] = ρ := rfl
@[simp] theorem e_recs1 {ρ : Rho} {i : Nat} {is : List Nat} {x : D} {xs : List D} : reconts ρ (i :: is) (x :: xs) = reconts (recont ρ i x) is xs := rfl
/-! calls -/
@[simp] theorem e_ag0 {ρ : Rho} : agRun [] ρ = .ok ([], ρ) := rfl
@[simp] theorem e_ag1 {a : DE} {l : List Ag} {ρ : Rho} : agRun (.e a :: l) ρ = (a ρ).bind fun p => (agRun l p.2).bind fun q => .ok (.d p.1 :: q.1, q.2) := rfl
def agR (k : Res (List Ar × Rho)) (i : Nat) : Option D → Res (List Ar × Rho)
  | some _ => k.bind fun q => .ok (.io i :: q.1, q.2)
  | none => .bad
@[simp] theorem e_agR {k : Res (List Ar × Rho)} {i : Nat} {x : D} : agR k i (some x) = k.bind fun q => .ok (.io i :: q.1, q.2) := rfl
@[simp] theorem e_ag2 {i : Nat} {l : List Ag} {ρ : Rho} : agRun (.io i :: l) ρ = agR (agRun l ρ) i (cont (look ρ i)) := by
  show (match cont (look ρ i) with | some _ => _ | none => _) = _
  unfold agR
  cases cont (look ρ i) <;> rfl
@[simp] theorem e_ar0 {ρ : Rho} : arSls ρ [] = some [] := rfl
@[simp] theorem e_ar1 {ρ : Rho} {x : D} {l : List Ar} : arSls ρ (.d x :: l) = (arSls ρ l).map fun r => .d x :: r := rfl
@[simp] theorem e_ar2 {ρ : Rho} {i : Nat} {l : List Ar} : arSls ρ (.io i :: l) = ((cont (look ρ i)).map Sl.io).bind fun s => (arSls ρ l).map fun r => s :: r := rfl
@[simp] theorem e_is0 : arIs [] = [] := rfl
@[simp] theorem e_is1 {x : D} {l : List Ar} : arIs (.d x :: l) = arIs l := rfl
@[simp] theorem e_is2 {i : Nat} {l : List Ar} : arIs (.io i :: l) = i :: arIs l := rfl
@[simp] theorem e_cr1 {is : List Nat} {ρ : Rho} {b : Bool} {x : D} {ios : List D} : callR is ρ (.ok (b, x, ios)) = .ok (b, x, reconts ρ is ios) := rfl
@[simp] theorem e_cr2 {is : List Nat} {ρ : Rho} : callR is ρ .bad = .bad := rfl
@[simp] theorem e_cr3 {is : List Nat} {ρ ss : Rho} {n : String} {fs : List (Str × D)} : callR is ρ (.ex n fs ss) = .ex n fs (reconts ρ is (ss.filterMap cont)) := rfl
def cbR (f : Fn) (ars : List Ar) (ρ : Rho) : Option (List Sl) → Res (Bool × D × Rho)
  | some as => if (arIs ars).Nodup then callR (arIs ars) ρ (f as) else .bad
  | none => .bad
@[simp] theorem e_cbR {f : Fn} {ars : List Ar} {ρ : Rho} {as : List Sl} : cbR f ars ρ (some as) = if (arIs ars).Nodup then callR (arIs ars) ρ (f as) else .bad := rfl
@[simp] theorem e_callB {f : Fn} {l : List Ag} {ρ : Rho} : callB f l ρ = (agRun l ρ).bind fun p => cbR f p.1 p.2 (arSls p.2 p.1) := rfl
@[simp] theorem e_Call {f : Fn} {l : List Ag} {ρ : Rho} : dCall f l ρ = (callB f l ρ).bind fun p => .ok (p.2.1, p.2.2) := rfl
@[simp] theorem e_CallF {f : Fn} {l : List Ag} {ρ : Rho} : dCallF f l ρ = (callB f l ρ).bind fun p => if p.1 = true then .ok (p.2.1, p.2.2) else .bad := rfl
@[simp] theorem e_callBK {f : Fn} {pm : List Nat} {l : List Ag} {ρ : Rho} : callBK f pm l ρ = (agRun l ρ).bind fun p => cbR f (permA pm p.1) p.2 (arSls p.2 (permA pm p.1)) := rfl
@[simp] theorem e_CallK {f : Fn} {pm : List Nat} {l : List Ag} {ρ : Rho} : dCallK f pm l ρ = (callBK f pm l ρ).bind fun p => .ok (p.2.1, p.2.2) := rfl
@[simp] theorem e_permA {pm : List Nat} {as : List Ar} : permA pm as = pm.map fun i => as.getD i (.d .none) := rfl
@[simp] theorem e_ios0 : iosOf [] = [] := rfl
@[simp] theorem e_ios1 {x : D} {ρ : Rho} : iosOf (.io x :: ρ) = x :: iosOf ρ := rfl
@[simp] theorem e_ios2 {x : D} {ρ : Rho} : iosOf (.d x :: ρ) = iosOf ρ := rfl
@[simp] theorem e_ios3 {x : D} {ρ : Rho} : iosOf (.o x :: ρ) = iosOf ρ := rfl
@[simp] theorem e_ios4 {ρ : Rho} : iosOf (.un :: ρ) = iosOf ρ := rfl
@[simp] theorem e_fin1 {ρ : Rho} : finR (.ok (.nx ρ)) = .ok (false, .none, iosOf ρ) := rfl
@[simp] theorem e_fin2 {x : D} {ρ : Rho} : finR (.ok (.rt x ρ)) = .ok (false, x, iosOf ρ) := rfl
@[simp] theorem e_fin3 {x : D} {ρ : Rho} : finR (.ok (.rf x ρ)) = .ok (true, x, iosOf ρ) := rfl
@[simp] theorem e_fin4 {n : String} {fs : List (Str × D)} {ρ : Rho} : finR (.ex n fs ρ) = .ex n fs (iosS ρ) := rfl
@[simp] theorem e_fnD {N : Nat} {b : DS} {as : List Sl} : fnD N b as = finR (b (as ++ List.replicate (N - as.length) .un)) := rfl
/-! more operations -/
@[simp] theorem e_cat {xs ys : List D} : fCat (.list xs) (.list ys) = gd (xs.length + ys.length ≤ sizeLine) (.list (xs ++ ys)) := rfl
@[simp] theorem e_catT {xs ys : List D} : fCatT (.tuple xs) (.tuple ys) = gd (xs.length + ys.length ≤ sizeLine) (.tuple (xs ++ ys)) := rfl
@[simp] theorem e_rep {xs : List D} {k : Int} : fRep (.list xs) (.int k) = gd (-(2 ^ 63) ≤ k ∧ k < 2 ^ 63 ∧ xs.length * k.toNat ≤ sizeLine) (.list (List.replicate k.toNat xs).flatten) := rfl
@[simp] theorem e_repT {xs : List D} {k : Int} : fRepT (.tuple xs) (.int k) = gd (xs ≠ [] ∧ 2 ≤ k ∧ k ≤ 1000 ∧ xs.length ≤ 1000) (.tuple (List.replicate k.toNat xs).flatten) := rfl
@[simp] theorem e_len1 {xs : List D} : fLen (.list xs) = some (.int xs.length) := rfl
@[simp] theorem e_len2 {xs : List D} : fLen (.tuple xs) = some (.int xs.length) := rfl
@[simp] theorem e_list1 {xs : List D} : fList (.list xs) = some (.list xs) := rfl
@[simp] theorem e_list2 {xs : List D} : fList (.tuple xs) = some (.list xs) := rfl
@[simp] theorem e_tup1 {xs : List D} : fTuple (.list xs) = some (.tuple xs) := rfl
@[simp] theorem e_tup2 {xs : List D} : fTuple (.tuple xs) = some (.tuple xs) := rfl
@[simp] theorem e_int {i : Int} : fInt (.int i) = some (.int i) := rfl
@[simp] theorem e_intB1 {i : Int} : fIntB (.int i) = some (.int i) := rfl
@[simp] theorem e_intB2 {b : Bool} : fIntB (.bool b) = some (.int (if b then 1 else 0)) := rfl
@[simp] theorem e_abs {i : Int} : fAbs (.int i) = some (.int (if i < 0 then -i else i)) := rfl
@[simp] theorem e_max2 {i j : Int} : fMax2 (.int i) (.int j) = some (.int (if j > i then j else i)) := rfl
@[simp] theorem e_min2 {i j : Int} : fMin2 (.int i) (.int j) = some (.int (if j < i then j else i)) := rfl
/-! methods, stores -/
def isLR : Option D → Bool
  | some (.list _) => true
  | _ => false
@[simp] theorem e_isLR {xs : List D} : isLR (some (.list xs)) = true := rfl
@[simp] theorem e_isL {ρ : Rho} {i : Nat} : isL ρ i = isLR (cont (look ρ i)) := by
  unfold isL isLR
  cases cont (look ρ i) with
  | none => rfl
  | some x => cases x <;> rfl
def mthR (i : Nat) (ρ : Rho) : Option (D × D) → Res (D × Rho)
  | some (z, x') => .ok (z, recont ρ i x')
  | none => .bad
@[simp] theorem e_mthR {i : Nat} {ρ : Rho} {z x : D} : mthR i ρ (some (z, x)) = .ok (z, recont ρ i x) := rfl
def mth0R (i : Nat) (f : D → Option (D × D)) (ρ : Rho) : Option D → Res (D × Rho)
  | some x => mthR i ρ (f x)
  | none => .bad
@[simp] theorem e_mth0R {i : Nat} {f : D → Option (D × D)} {ρ : Rho} {x : D} : mth0R i f ρ (some x) = mthR i ρ (f x) := rfl
@[simp] theorem e_mth {i : Nat} {f : D → Option (D × D)} {ρ : Rho} : mth i f ρ = mth0R i f ρ (cont (look ρ i)) := by
  unfold mth mth0R
  cases cont (look ρ i) with
  | none => rfl
  | some x =>
    show (match f x with | some (z, x') => Res.ok (z, recont ρ i x') | none => .bad) = mthR i ρ (f x)
    unfold mthR
    cases f x <;> rfl
@[simp] theorem e_M0 {i : Nat} {f : D → Option (D × D)} {ρ : Rho} : dM0 i f ρ = if isL ρ i = true then mth i f ρ else .bad := rfl
@[simp] theorem e_M1 {i : Nat} {f : D → D → Option (D × D)} {a : DE} {ρ : Rho} : dM1 i f a ρ = if isL ρ i = true then (a ρ).bind fun p => mth i (f p.1) p.2 else .bad := rfl
@[simp] theorem e_app {y : D} {xs : List D} : mApp y (.list xs) = if xs.length < sizeLine then some (.none, .list (xs ++ [y])) else none := rfl
@[simp] theorem e_popAt {i : Int} {xs : List D} : mPopAt (.int i) (.list xs) = if -(2 ^ 63) ≤ i ∧ i < 2 ^ 63 then (seqIndex? i xs.length).bind fun k => (xs[k]?).map fun z => (z, .list (xs.eraseIdx k)) else none := rfl
@[simp] theorem e_setAt {v : D} {k : Int} {xs : List D} : setAt v (.int k) (.list xs) = (ixN xs.length k).map fun j => .list (xs.set j v) := rfl
def stAR (j : Nat) (ρ : Rho) : Option D → Res Fl
  | some x' => .ok (.nx (recont ρ j x'))
  | none => .bad
@[simp] theorem e_stAR {j : Nat} {ρ : Rho} {x : D} : stAR j ρ (some x) = .ok (.nx (recont ρ j x)) := rfl
def stA0 (j : Nat) (v k : D) (ρ : Rho) : Option D → Res Fl
  | some x => stAR j ρ (setAt v k x)
  | none => .bad
@[simp] theorem e_stA0 {j : Nat} {v k x : D} {ρ : Rho} : stA0 j v k ρ (some x) = stAR j ρ (setAt v k x) := rfl
def vsR (r : Res Fl) : Option D → Res Fl
  | some _ => r
  | none => .bad
@[simp] theorem e_vsR {r : Res Fl} {x : D} : vsR r (some x) = r := rfl
@[simp] theorem e_SetAt {j : Nat} {i v : DE} {ρ : Rho} : dSetAt j i v ρ = (v ρ).bind fun p => vsR ((i p.2).bind fun q => stA0 j p.1 q.1 q.2 (cont (look q.2 j))) (cont (look p.2 j)) := rfl
@[simp] theorem e_slSt {xs ys : List D} {a c : Int} : slSt (.list ys) (some a) (some c) (.list xs) = gd (0 ≤ a ∧ a ≤ c ∧ c ≤ (xs.length : Int) ∧ xs.length + ys.length ≤ sizeLine) (.list (xs.take a.toNat ++ ys ++ xs.drop c.toNat)) := rfl
def slPR (j : Nat) (ys : D) (lo hi : Option Int) (ρ : Rho) : Option D → Res Fl
  | some x => stAR j ρ (slSt ys lo hi x)
  | none => .bad
@[simp] theorem e_slPR {j : Nat} {ys x : D} {lo hi : Option Int} {ρ : Rho} : slPR j ys lo hi ρ (some x) = stAR j ρ (slSt ys lo hi x) := rfl
@[simp] theorem e_SetSl {j : Nat} {l h : DO} {v : DE} {ρ : Rho} : dSetSl j l h v ρ = (v ρ).bind fun p => vsR ((l p.2).bind fun q => (h q.2).bind fun r => slPR j p.1 q.1 r.1 r.2 (cont (look r.2 j))) (cont (look p.2 j)) := rfl
/-! walks -/
def itLR (ρ : Rho) : D → Res (List D × Rho)
  | .list xs => .ok (xs, ρ)
  | _ => .bad
@[simp] theorem e_itLR {ρ : Rho} {xs : List D} : itLR ρ (.list xs) = .ok (xs, ρ) := rfl
@[simp] theorem e_ItL {a : DE} {ρ : Rho} : dItL a ρ = (a ρ).bind fun p => itLR p.2 p.1 := rfl
def itTR (ρ : Rho) : D → Res (List D × Rho)
  | .tuple xs => .ok (xs, ρ)
  | _ => .bad
@[simp] theorem e_itTR {ρ : Rho} {xs : List D} : itTR ρ (.tuple xs) = .ok (xs, ρ) := rfl
@[simp] theorem e_ItT {a : DE} {ρ : Rho} : dItT a ρ = (a ρ).bind fun p => itTR p.2 p.1 := rfl
def rg1R (ρ : Rho) : D → Res (List D × Rho)
  | .int j => if rgC 0 j then .ok (rgI 0 j.toNat, ρ) else .bad
  | _ => .bad
@[simp] theorem e_rg1R {ρ : Rho} {j : Int} : rg1R ρ (.int j) = if rgC 0 j then .ok (rgI 0 j.toNat, ρ) else .bad := rfl
@[simp] theorem e_Rng1 {a : DE} {ρ : Rho} : dRng1 a ρ = (a ρ).bind fun p => rg1R p.2 p.1 := rfl
@[simp] theorem e_rg2 {ρ : Rho} {i j : Int} : rg2 ρ (.int i) (.int j) = if rgC i j then .ok (rgI i (j - i).toNat, ρ) else .bad := rfl
@[simp] theorem e_Rng2 {a b : DE} {ρ : Rho} : dRng2 a b ρ = (a ρ).bind fun p => (b p.2).bind fun r => rg2 r.2 p.1 r.1 := rfl
def enR (ρ : Rho) : Option (List D) → Res (List D × Rho)
  | some xs => .ok (numb xs, ρ)
  | none => .bad
@[simp] theorem e_enR {ρ : Rho} {xs : List D} : enR ρ (some xs) = .ok (numb xs, ρ) := rfl
@[simp] theorem e_items1 {xs : List D} : itemsD (.list xs) = some xs := rfl
@[simp] theorem e_items2 {xs : List D} : itemsD (.tuple xs) = some xs := rfl
@[simp] theorem e_Enum {a : DE} {ρ : Rho} : dEnum a ρ = (a ρ).bind fun p => enR p.2 (itemsD p.1) := rfl
@[simp] theorem e_zip2 {ρ : Rho} {xs ys : List D} : zip2 ρ (.list xs) (.list ys) = .ok (zipD xs ys, ρ) := rfl
@[simp] theorem e_Zip {a b : DE} {ρ : Rho} : dZip a b ρ = (a ρ).bind fun p => (b p.2).bind fun r => zip2 r.2 p.1 r.1 := rfl
@[simp] theorem e_lRg {a b : Int} {ρ : Rho} : lRg (.int a, .int b, ρ) = if RgOk a b then .ok (.list (rgI a (b - a).toNat), ρ) else .bad := rfl
@[simp] theorem e_Rg1 {a : DE} {ρ : Rho} : dRg1 a ρ = (a ρ).bind fun p => .ok (.int 0, p.1, p.2) := rfl
@[simp] theorem e_Rg2 {a b : DE} {ρ : Rho} : dRg2 a b ρ = (a ρ).bind fun p => (b p.2).bind fun q => .ok (p.1, q.1, q.2) := rfl
@[simp] theorem e_ListRg {r : Rho → Res (D × D × Rho)} {ρ : Rho} : dListRg r ρ = (r ρ).bind lRg := rfl
def tryR (mt : String → Option Bool) (suite : DS) : Res Fl → Res Fl
  | .ex n fs ρ' => match mt n with
    | some true => suite ρ'
    | some false => .ex n fs ρ'
    | none => .bad
  | r => r
@[simp] theorem e_tryR1 {mt : String → Option Bool} {s : DS} {f : Fl} : tryR mt s (.ok f) = .ok f := rfl
@[simp] theorem e_tryR2 {mt : String → Option Bool} {s : DS} {n : String} {fs : List (Str × D)} {ρ : Rho} : tryR mt s (.ex n fs ρ) = match mt n with | some true => s ρ | some false => .ex n fs ρ | none => .bad := rfl
@[simp] theorem e_Try {mt : String → Option Bool} {b s : DS} {ρ : Rho} : dTry mt b s ρ = tryR mt s (b ρ) := by
  unfold dTry tryR
  cases b ρ <;> rfl

/-! ### loops -/
/-- P holds ahead of each turn; each turn goes on -/
theorem forL_inv {t : Tg} {b : DS} {xs : List D} (P : Nat → Rho → Prop) {ρ : Rho} (h0 : P 0 ρ) (hs : ∀ i x ρ, xs[i]? = some x → P i ρ → ∃ ρ1 ρ2, tgPut t x ρ = .ok ρ1 ∧ (b ρ1 = .ok (.nx ρ2) ∨ b ρ1 = .ok (.ct ρ2)) ∧ P (i + 1) ρ2) :
    ∃ ρ', dForL t b xs ρ = .ok (.nx ρ') ∧ P xs.length ρ' := by
  have : ∀ (k i : Nat) (ρ : Rho), i + k = xs.length → P i ρ → ∃ ρ', dForL t b (xs.drop i) ρ = .ok (.nx ρ') ∧ P xs.length ρ' := by
    intro k
    induction k with
    | zero => intro i ρ hi p; rw [List.drop_eq_nil_of_le (by omega)]; exact ⟨ρ, rfl, by rw [← hi]; exact p⟩
    | succ k ih =>
      intro i ρ hi p
      have hlt : i < xs.length := by omega
      obtain ⟨ρ1, ρ2, e1, e2, p2⟩ := hs i xs[i] ρ (List.getElem?_eq_getElem hlt) p
      rw [List.drop_eq_getElem_cons hlt]
      obtain ⟨ρ', e3, p3⟩ := ih (i + 1) ρ2 (by omega) p2
      refine ⟨ρ', ?_, p3⟩
      show (tgPut t xs[i] ρ).bind _ = _
      rw [e1]
      show (b ρ1).bind _ = _
      rcases e2 with e2 | e2 <;> rw [e2] <;> exact e3
  exact this xs.length 0 ρ (by omega) h0
/-- a comprehension whose block leaves all as it was -/
theorem lcL_pure {t : Tg} {te : DT} {el : DE} {vs : List Nat} {ρ : Rho} (f : D → Option D) (hw : wipeOk ρ vs = true) : ∀ (xs : List D) (acc : List D), acc.length + xs.length ≤ 1000000 →
    (∀ x ∈ xs, ∃ ρ1 b ρ2, tgPut t x (wipeR ρ vs) = .ok ρ1 ∧ te ρ1 = .ok (b, ρ2) ∧ ((b = false ∧ f x = none ∧ unwipe ρ ρ2 vs = ρ) ∨ (b = true ∧ ∃ y ρ3, el ρ2 = .ok (y, ρ3) ∧ f x = some y ∧ unwipe ρ ρ3 vs = ρ))) →
    dLcL t te el vs xs acc ρ = .ok (.list (acc ++ xs.filterMap f), ρ)
  | [], acc, _, _ => by simp [dLcL]
  | x :: xs, acc, hl, h => by
    obtain ⟨ρ1, b, ρ2, e1, e2, e3⟩ := h x List.mem_cons_self
    have ih := fun acc hl => lcL_pure (t := t) (te := te) (el := el) (vs := vs) f hw xs acc hl fun y hy => h y (List.mem_cons_of_mem _ hy)
    simp only [List.length_cons] at hl
    unfold dLcL
    rw [if_pos hw, e1]
    show (te ρ1).nob _ = _
    rw [e2]
    rcases e3 with ⟨rfl, e4, e5⟩ | ⟨rfl, y, ρ3, e4, e5, e6⟩
    · show dLcL t te el vs xs acc (unwipe ρ ρ2 vs) = _
      rw [e5, ih acc (by omega), List.filterMap_cons, e4]
    · show (el ρ2).nob _ = _
      rw [e4]
      show (if acc.length < sizeLine then dLcL t te el vs xs (acc ++ [y]) (unwipe ρ ρ3 vs) else .bad) = _
      rw [if_pos (sizeOfL (by omega)), e6, ih _ (by simp; omega), List.filterMap_cons, e5]
      simp
/-- .. whose block changes what it may -/
theorem lcL_inv {t : Tg} {te : DT} {el : DE} {vs : List Nat} {xs : List D} (P : Nat → List D → Rho → Prop) {ρ : Rho} (hn : xs.length ≤ 1000000) (h0 : P 0 [] ρ)
    (hs : ∀ i x acc ρ, xs[i]? = some x → acc.length ≤ i → P i acc ρ → wipeOk ρ vs = true ∧ ∃ ρ1 b ρ2, tgPut t x (wipeR ρ vs) = .ok ρ1 ∧ te ρ1 = .ok (b, ρ2) ∧ ((b = false ∧ P (i + 1) acc (unwipe ρ ρ2 vs)) ∨ (b = true ∧ ∃ y ρ3, el ρ2 = .ok (y, ρ3) ∧ P (i + 1) (acc ++ [y]) (unwipe ρ ρ3 vs)))) :
    ∃ acc ρ', dLcL t te el vs xs [] ρ = .ok (.list acc, ρ') ∧ P xs.length acc ρ' := by
  have : ∀ (k i : Nat) (acc : List D) (ρ : Rho), i + k = xs.length → acc.length ≤ i → P i acc ρ → ∃ acc' ρ', dLcL t te el vs (xs.drop i) acc ρ = .ok (.list acc', ρ') ∧ P xs.length acc' ρ' := by
    intro k
    induction k with
    | zero => intro i acc ρ hi ha p; rw [List.drop_eq_nil_of_le (by omega)]; exact ⟨acc, ρ, rfl, by rw [← hi]; exact p⟩
    | succ k ih =>
      intro i acc ρ hi ha p
      have hlt : i < xs.length := by omega
      obtain ⟨hw, ρ1, b, ρ2, e1, e2, e3⟩ := hs i xs[i] acc ρ (List.getElem?_eq_getElem hlt) ha p
      rw [List.drop_eq_getElem_cons hlt]
      unfold dLcL
      rw [if_pos hw, e1]
      show ∃ acc' ρ', (te ρ1).nob _ = _ ∧ _
      rw [e2]
      rcases e3 with ⟨rfl, p2⟩ | ⟨rfl, y, ρ3, e4, p2⟩
      · exact ih (i + 1) acc _ (by omega) (by omega) p2
      · show ∃ acc' ρ', (el ρ2).nob _ = _ ∧ _
        rw [e4]
        show ∃ acc' ρ', (if acc.length < sizeLine then dLcL t te el vs (xs.drop (i + 1)) (acc ++ [y]) (unwipe ρ ρ3 vs) else .bad) = _ ∧ _
        rw [if_pos (sizeOfL (by omega))]
        exact ih (i + 1) (acc ++ [y]) _ (by omega) (by simp; omega) p2
  exact this xs.length 0 [] ρ (by omega) (Nat.le_refl _) h0
end XD

set_option autoImplicit true
set_option Elab.async false
set_option linter.all false
set_option maxRecDepth 100000
set_option maxHeartbeats 1000000
set_option autoImplicit true
/-! the data layer: f(new list, ..), the list the callee's to change -/
namespace XD
open PySem L2
section
variable {C : Ct} {B : Bs} {F H : Hp} {σ : St} {ρ : Rho}
theorem Rep.calledT (R : Rep C B F H σ ρ) {F' H' : Hp} {p : Addr} (nw : B.nw p) (nh : ∀ i, ¬ Holds σ ρ i p) (af : After F H [p] F' H') : Rep C B F' H' σ ρ ∧ Same F F' := by
  have sF : Same F F' := fun a o e => by rw [af.fr a (by rw [R.sub a o e]; exact fun z => by cases z)]; exact e
  have h0 : ∀ a, B.H0 a ≠ none → H a ≠ none := fun a h => by
    by_cases hp : a ∈ B.ps
    · exact R.live a hp
    · rw [R.hk a h hp]; exact h
  refine ⟨⟨af.sub, fun a h => ?_, fun a h1 h2 => ?_, fun q hq => af.live q (R.live q hq), fun a u hg => ?_, R.ioe, af.tup, R.len, fun j => ?_, R.apart⟩, sF⟩
  · rw [af.fr a (h0 a h)]; exact R.fr a h
  · rw [af.hk a (h0 a h1) (by intro hp; rcases List.mem_cons.mp hp with e | e; · subst e; exact h1 nw.1
                              · cases e)]
    exact R.hk a h1 h2
  · obtain ⟨g1, g2, g3, g4⟩ := R.gdk a u hg
    have hne : H a ≠ none := by rw [g1]; exact fun z => by cases z
    refine ⟨?_, by rw [af.fr a hne]; exact g2, g3, g4⟩
    rw [af.hk a hne (by intro hp; rcases List.mem_cons.mp hp with e | e; · subst e; rw [nw.2] at hg; cases hg
                        · cases e)]
    exact g1
  · refine (R.slot j).mono sF fun q x e hc ho => ?_
    obtain ⟨n, o, h1, h2⟩ := ho
    have hne : H q ≠ none := by rw [h1]; exact fun z => by cases z
    refine ⟨by rw [af.fr q hne]; exact n, o, ?_, h2.same sF⟩
    rw [af.hk q hne (by intro hp; rcases List.mem_cons.mp hp with e' | e'; · subst e'; exact nh j ⟨e, x, hc⟩
                        · cases e')]
    exact h1
/-- the data among arguments -/
def dArs : List Ar → Option (List Sl)
  | [] => some []
  | .d x :: l => (dArs l).map fun r => .d x :: r
  | .io _ :: _ => none
theorem dArs_ok {σ : St} : ∀ {vs : List V} {ars : List Ar} {as : List Sl}, Both (fun v a => match a with | Ar.d x => Dp C.K F v x | Ar.io i => σ[i]? = some (some v)) vs ars → dArs ars = some as → ArgsOk C F H vs as []
  | _, _, _, .nil, h => by injection h with h; subst h; exact .nil
  | _, _, _, @Both.cons _ _ _ v a vs ars h1 h2, h => by
    cases a with
    | d x =>
      obtain ⟨r, e, rfl⟩ := Option.map_eq_some_iff.mp (show (dArs ars).map (fun r => Sl.d x :: r) = some _ from h)
      exact .d h1 (dArs_ok h2 e)
    | io i => cases h
def calT (f : Fn) (x : D) (ρ : Rho) : Option (List Sl) → Res (D × Rho)
  | some as => match f (.io x :: as) with
    | .ok (_, y, _) => .ok (y, ρ)
    | .ex n fs _ => .ex n fs ρ
    | .bad => .bad
  | none => .bad
def dCallT (f : Fn) (a : DE) (l : List Ag) : DE := fun ρ => (a ρ).bind fun p => (agRun l p.2).bind fun q => calT f p.1 q.2 (dArs q.1)
@[simp] theorem e_dArs0 : dArs [] = some [] := rfl
@[simp] theorem e_dArs1 {x : D} {l : List Ar} : dArs (.d x :: l) = (dArs l).map fun r => .d x :: r := rfl
@[simp] theorem e_calT {f : Fn} {x : D} {ρ : Rho} {as : List Sl} : calT f x ρ (some as) = match f (.io x :: as) with
    | .ok (_, y, _) => .ok (y, ρ)
    | .ex n fs _ => .ex n fs ρ
    | .bad => .bad := rfl
@[simp] theorem e_CallT {f : Fn} {a : DE} {l : List Ag} {ρ : Rho} : dCallT f a l ρ = (a ρ).bind fun p => (agRun l p.2).bind fun q => calT f p.1 q.2 (dArs q.1) := rfl
theorem agRun_len : ∀ {l : List Ag} {ρ : Rho} {as : List Ar} {ρ1 : Rho}, agRun l ρ = .ok (as, ρ1) → as.length = l.length := by
  intro l
  induction l with
  | nil => intro ρ as ρ1 h; injection h with h; injection h with h1 _; subst h1; rfl
  | cons a l ih =>
    intro ρ as ρ1 h
    cases a with
    | e a =>
      obtain ⟨p, _, h⟩ := Res.bind_ok (show (a ρ).bind (fun p => (agRun l p.2).bind fun q => .ok (.d p.1 :: q.1, q.2)) = .ok (as, ρ1) from h)
      obtain ⟨p2, h2, h⟩ := Res.bind_ok h
      injection h with h; injection h with h1 _; subst h1
      simp [ih (show agRun l p.2 = .ok (p2.1, p2.2) from h2)]
    | io i =>
      unfold agRun at h
      split at h
      · obtain ⟨p2, h2, h⟩ := Res.bind_ok h
        injection h with h; injection h with h1 _; subst h1
        simp [ih (show agRun l ρ = .ok (p2.1, p2.2) from h2)]
      · cases h
variable {W : WX}
theorem s_callT {n : Nat} {f : Fn} {ta : TE} {tl : TA} {a : DE} {l : List Ag} (hn : l.length + 1 = n) (ha : SimF C W ta a) (hl : SimA C W tl l) : SimE C W (tCallS (spD C n f) (WE W) (tCons ta tl)) (dCallT f a l) := fun B F H σ ρ Q R q => by
  refine ha B F H σ ρ _ R ?_
  unfold dCallT at q
  cases e : a ρ with
  | ex n fs ρ' => rw [e] at q; exact q
  | bad => rw [e] at q; exact q
  | ok p =>
    obtain ⟨x, ρ1⟩ := p
    rw [e] at q
    intro F1 H1 p s1 R1 nw nh ho
    obtain ⟨nF, o, h1, h2⟩ := ho
    have Rg : Rep C (B.grd p o) F1 H1 σ ρ1 := by
      refine ⟨R1.sub, R1.fr, R1.hk, R1.live, fun b u hg => ?_, R1.ioe, R1.tup, R1.len, fun i => (R1.slot i).grd fun q x e hc z => ?_, R1.apart⟩
      · have hg' : upd B.gd p o b = some u := hg
        by_cases eb : b = p
        · subst eb
          rw [upd_same] at hg'
          injection hg' with hg'; subst hg'
          exact ⟨h1, nF, nw.1, nh⟩
        · rw [upd_ne eb] at hg'
          exact R1.gdk b u hg'
      · subst z; exact nh i ⟨e, x, hc⟩
    simp only [Res.bind] at q
    refine hl (B.grd p o) F1 H1 σ ρ1 _ Rg ?_
    cases e1 : agRun l ρ1 with
    | ex n fs ρ' =>
      rw [e1] at q
      exact fun F' H' d s R' x => PostX.mono q s1 F' H' d s (R'.ungrd nw.2).1 x
    | bad => rw [e1] at q; exact q
    | ok p2 =>
      obtain ⟨ars, ρ2⟩ := p2
      rw [e1] at q
      intro F2 H2 vs s2 R2 b
      obtain ⟨g1, g2, g3, g4⟩ := R2.gdAt
      have Ru := (R2.ungrd nw.2).1
      replace q : PostE C W B F σ (calT f x ρ2 (dArs ars)) Q := q
      cases ed : dArs ars with
      | none => rw [ed] at q; exact q.elim
      | some as =>
        rw [ed] at q
        have ao : ArgsOk C F2 H2 (V.ref p :: vs) (.io x :: as) [p] := .io ⟨g2, o, g1, h2.same s2⟩ (dArs_ok b ed)
        have ln : (V.ref p :: vs).length = n := by simp only [List.length_cons]; rw [b.length, agRun_len e1]; exact hn
        refine ⟨ln, F2, _, [p], R2.sub, R2.tup, ao, by simp, ?_⟩
        simp only [e_calT] at q
        cases ef : f (.io x :: as) with
        | bad => rw [ef] at q; exact q
        | ex n fs ss =>
          rw [ef] at q
          intro F' H' d af bo xo
          obtain ⟨R3, s3⟩ := Ru.calledT nw g4 af
          exact q F' H' d ((s1.trans s2).trans s3) R3 xo
        | ok r =>
          obtain ⟨fr, y, ios⟩ := r
          rw [ef] at q
          cases fr with
          | false =>
            intro F' H' v af bo dp
            obtain ⟨R3, s3⟩ := Ru.calledT nw g4 af
            exact q F' H' v ((s1.trans s2).trans s3) R3 dp
          | true =>
            intro F' H' p' af bo hp ho
            obtain ⟨R3, s3⟩ := Ru.calledT nw g4 af
            obtain ⟨nF', nw', nh'⟩ := Ru.free hp
            obtain ⟨nF2, o', h1', h2'⟩ := ho
            have sF : Same F' (upd F' p' o') := sameUpd nF2
            exact q _ H' _ (((s1.trans s2).trans s3).trans sF) (R3.freeze h1' nF2 nw' nh') ((h2'.same sF).dp upd_same)
end
end XD

set_option autoImplicit true
set_option Elab.async false
set_option linter.all false
set_option maxRecDepth 100000
set_option maxHeartbeats 1000000
set_option autoImplicit true
/-! the data layer: the end, a law of a list of numbers that answers True -/
namespace XD
open PySem L2
def spTrue (K : PySem.W.Frag) : Sp := fun vs H Q _ => ∃ (a : Addr) (ns : List Int), vs = [.ref a] ∧ SqL K H a (ns.map V.int) ∧ ns.length ≤ 63 ∧ ∀ H', Q (.bl true) H'
theorem dp_numbers {K : PySem.W.Frag} {H : Hp} : ∀ ns : List Int, DpAll K H (ns.map V.int) (ns.map .int)
  | [] => .nil
  | n :: ns => .cons (.int n) (dp_numbers ns)
theorem law_end {P : Program} {w : World} {K : PySem.W.Frag} {mg : Str → Option Value} {base : Heap} {cl : String → Value} {j : Nat} {fa : Addr} {fd : FuncData} {x : Str} {f : Fn}
    (F : L2.FnOk P w K mg base (L2.CX P w) j fa fd [x] (spD (⟨K, cl⟩ : Ct) 1 f)) (h : ∀ ns : List Int, ns.length ≤ 63 → f [.d (.list (ns.map .int))] = .ok (false, .bool true, [])) : L2.FnOk P w K mg base L2.CX0 j fa fd [x] (spTrue K) := by
  refine ⟨fun vs H Q E ⟨a, ns, e, _⟩ => by rw [e]; rfl, fun A outer s H args us vs Q E hr he hb hv hs => ?_⟩
  obtain ⟨a, ns, rfl, hS, hl, q⟩ := hs
  refine codeAny_mono (F.run A outer s H args us [.ref a] Q E0 hr he hb hv ⟨rfl, H, [.d (.list (ns.map .int))], [], Same.refl H, fun _ _ e _ => e, .d (.lst hS (dp_numbers ns)) .nil, by simp, ?_⟩) fun r s' z => ?_
  · rw [h ns hl]
    intro F' H' y af bo dp
    cases dp
    exact q H'
  · cases r with
    | error e =>
      obtain ⟨_, _, _, _, _, _, _, _, _, _, _, _, hE⟩ := z
      exact hE.elim
    | ok f => cases f <;> exact z
end XD

set_option autoImplicit true
set_option Elab.async false
set_option linter.all false
set_option maxRecDepth 100000
set_option maxHeartbeats 8000000
namespace B80
open PySem L2
def top (i : Nat) : Stmt := PySem.Challenge.pw_tasksapart_k80_drums_recovered.main.body.getD i (.Pass ⟨0, 0, 0, 0⟩)
abbrev s_is_from : Stmt := top 4
abbrev s_is_tuple : Stmt := top 5
abbrev s_is_figure : Stmt := top 8
abbrev s_is_block : Stmt := top 13
abbrev s_are_blocks : Stmt := top 14
abbrev s_need_blocks : Stmt := top 15
abbrev s_figure_at : Stmt := top 16
abbrev s_with_blocks : Stmt := top 17
abbrev s_has_leaves : Stmt := top 23
abbrev s_has_head : Stmt := top 24
abbrev s_need_head : Stmt := top 25
abbrev s_journal_of : Stmt := top 26
abbrev s_first_leaf : Stmt := top 27
abbrev s_home_of : Stmt := top 28
abbrev s_with_home : Stmt := top 29
abbrev s_is_put : Stmt := top 35
abbrev s_is_end : Stmt := top 36
abbrev s_can_go_home : Stmt := top 37
abbrev s_whole_bundle : Stmt := top 38
abbrev s_brought_home : Stmt := top 39
abbrev s_put_home : Stmt := top 41
abbrev s_recovered : Stmt := top 42
abbrev s__law_urn : Stmt := top 44
abbrev s__law_of : Stmt := top 45
abbrev s__law_one : Stmt := top 46
abbrev s__law_turned : Stmt := top 47
abbrev s__law_alike : Stmt := top 48
abbrev s__law_puts_of : Stmt := top 49
abbrev s__law_recovered : Stmt := top 50
abbrev s__law_block : Stmt := top 51
abbrev s__law_figures : Stmt := top 52
abbrev s__law_items : Stmt := top 53
abbrev s__law_drawn_drum : Stmt := top 54
abbrev s__law_refused : Stmt := top 55
abbrev s__law_right : Stmt := top 56
abbrev s_law : Stmt := top 57
abbrev N_is_from : List Str := ["value", "low", "high"]
theorem sc_is_from : FnScope N_is_from ["value", "low", "high"] (defScope s_is_from) := ⟨rfl, rfl, rfl, by decide +kernel, rfl, by decide +kernel, by decide +kernel⟩
abbrev N_is_tuple : List Str := ["value", "low", "high"]
theorem sc_is_tuple : FnScope N_is_tuple ["value", "low", "high"] (defScope s_is_tuple) := ⟨rfl, rfl, rfl, by decide +kernel, rfl, by decide +kernel, by decide +kernel⟩
abbrev N_is_figure : List Str := ["value"]
theorem sc_is_figure : FnScope N_is_figure ["value"] (defScope s_is_figure) := ⟨rfl, rfl, rfl, by decide +kernel, rfl, by decide +kernel, by decide +kernel⟩
abbrev N_is_block : List Str := ["value", "figure"]
theorem sc_is_block : FnScope N_is_block ["value"] (defScope s_is_block) := ⟨rfl, rfl, rfl, by decide +kernel, rfl, by decide +kernel, by decide +kernel⟩
abbrev N_are_blocks : List Str := ["value", "block"]
theorem sc_are_blocks : FnScope N_are_blocks ["value"] (defScope s_are_blocks) := ⟨rfl, rfl, rfl, by decide +kernel, rfl, by decide +kernel, by decide +kernel⟩
abbrev N_need_blocks : List Str := ["image"]
theorem sc_need_blocks : FnScope N_need_blocks ["image"] (defScope s_need_blocks) := ⟨rfl, rfl, rfl, by decide +kernel, rfl, by decide +kernel, by decide +kernel⟩
abbrev N_figure_at : List Str := ["block", "index"]
theorem sc_figure_at : FnScope N_figure_at ["block", "index"] (defScope s_figure_at) := ⟨rfl, rfl, rfl, by decide +kernel, rfl, by decide +kernel, by decide +kernel⟩
abbrev N_with_blocks : List Str := ["image", "blocks", "at", "block"]
theorem sc_with_blocks : FnScope N_with_blocks ["image", "blocks"] (defScope s_with_blocks) := ⟨rfl, rfl, rfl, by decide +kernel, rfl, by decide +kernel, by decide +kernel⟩
abbrev N_has_leaves : List Str := ["many", "journal"]
theorem sc_has_leaves : FnScope N_has_leaves ["many", "journal"] (defScope s_has_leaves) := ⟨rfl, rfl, rfl, by decide +kernel, rfl, by decide +kernel, by decide +kernel⟩
abbrev N_has_head : List Str := ["image", "many", "journal", "home"]
theorem sc_has_head : FnScope N_has_head ["image"] (defScope s_has_head) := ⟨rfl, rfl, rfl, by decide +kernel, rfl, by decide +kernel, by decide +kernel⟩
abbrev N_need_head : List Str := ["image"]
theorem sc_need_head : FnScope N_need_head ["image"] (defScope s_need_head) := ⟨rfl, rfl, rfl, by decide +kernel, rfl, by decide +kernel, by decide +kernel⟩
abbrev N_journal_of : List Str := ["image"]
theorem sc_journal_of : FnScope N_journal_of ["image"] (defScope s_journal_of) := ⟨rfl, rfl, rfl, by decide +kernel, rfl, by decide +kernel, by decide +kernel⟩
abbrev N_first_leaf : List Str := ["image"]
theorem sc_first_leaf : FnScope N_first_leaf ["image"] (defScope s_first_leaf) := ⟨rfl, rfl, rfl, by decide +kernel, rfl, by decide +kernel, by decide +kernel⟩
abbrev N_home_of : List Str := ["image"]
theorem sc_home_of : FnScope N_home_of ["image"] (defScope s_home_of) := ⟨rfl, rfl, rfl, by decide +kernel, rfl, by decide +kernel, by decide +kernel⟩
abbrev N_with_home : List Str := ["image", "number"]
theorem sc_with_home : FnScope N_with_home ["image", "number"] (defScope s_with_home) := ⟨rfl, rfl, rfl, by decide +kernel, rfl, by decide +kernel, by decide +kernel⟩
abbrev N_is_put : List Str := ["block"]
theorem sc_is_put : FnScope N_is_put ["block"] (defScope s_is_put) := ⟨rfl, rfl, rfl, by decide +kernel, rfl, by decide +kernel, by decide +kernel⟩
abbrev N_is_end : List Str := ["block"]
theorem sc_is_end : FnScope N_is_end ["block"] (defScope s_is_end) := ⟨rfl, rfl, rfl, by decide +kernel, rfl, by decide +kernel, by decide +kernel⟩
abbrev N_can_go_home : List Str := ["image", "at"]
theorem sc_can_go_home : FnScope N_can_go_home ["image", "at"] (defScope s_can_go_home) := ⟨rfl, rfl, rfl, by decide +kernel, rfl, by decide +kernel, by decide +kernel⟩
abbrev N_whole_bundle : List Str := ["image", "number", "own", "puts", "ends", "found", "at", "block"]
theorem sc_whole_bundle : FnScope N_whole_bundle ["image", "number"] (defScope s_whole_bundle) := ⟨rfl, rfl, rfl, by decide +kernel, rfl, by decide +kernel, by decide +kernel⟩
abbrev N_brought_home : List Str := ["image", "number", "found", "bundle"]
theorem sc_brought_home : FnScope N_brought_home ["image"] (defScope s_brought_home) := ⟨rfl, rfl, rfl, by decide +kernel, rfl, by decide +kernel, by decide +kernel⟩
abbrev N_put_home : List Str := ["image", "blocks", "number", "at"]
theorem sc_put_home : FnScope N_put_home ["image"] (defScope s_put_home) := ⟨rfl, rfl, rfl, by decide +kernel, rfl, by decide +kernel, by decide +kernel⟩
abbrev N_recovered : List Str := ["image"]
theorem sc_recovered : FnScope N_recovered ["image"] (defScope s_recovered) := ⟨rfl, rfl, rfl, by decide +kernel, rfl, by decide +kernel, by decide +kernel⟩
abbrev N__law_urn : List Str := ["script", "k", "seed", "at", "cell", "great"]
theorem sc__law_urn : FnScope N__law_urn ["script", "k"] (defScope s__law_urn) := ⟨rfl, rfl, rfl, by decide +kernel, rfl, by decide +kernel, by decide +kernel⟩
abbrev N__law_of : List Str := ["urn", "many", "found", "one"]
theorem sc__law_of : FnScope N__law_of ["urn", "many"] (defScope s__law_of) := ⟨rfl, rfl, rfl, by decide +kernel, rfl, by decide +kernel, by decide +kernel⟩
abbrev N__law_one : List Str := ["urn", "some"]
theorem sc__law_one : FnScope N__law_one ["urn", "some"] (defScope s__law_one) := ⟨rfl, rfl, rfl, by decide +kernel, rfl, by decide +kernel, by decide +kernel⟩
abbrev N__law_turned : List Str := ["urn", "some", "left", "found", "turn"]
theorem sc__law_turned : FnScope N__law_turned ["urn", "some"] (defScope s__law_turned) := ⟨rfl, rfl, rfl, by decide +kernel, rfl, by decide +kernel, by decide +kernel⟩
abbrev N__law_alike : List Str := ["one", "due", "at", "key"]
theorem sc__law_alike : FnScope N__law_alike ["one", "due"] (defScope s__law_alike) := ⟨rfl, rfl, rfl, by decide +kernel, rfl, by decide +kernel, by decide +kernel⟩
abbrev N__law_puts_of : List Str := ["image", "bundle", "puts", "ends", "block", "figures", "blocks", "barred"]
theorem sc__law_puts_of : FnScope N__law_puts_of ["image", "bundle"] (defScope s__law_puts_of) := ⟨rfl, rfl, rfl, by decide +kernel, rfl, by decide +kernel, by decide +kernel⟩
abbrev N__law_recovered : List Str := ["image", "blocks", "journal", "home", "turn", "puts", "block", "figures"]
theorem sc__law_recovered : FnScope N__law_recovered ["image"] (defScope s__law_recovered) := ⟨rfl, rfl, rfl, by decide +kernel, rfl, by decide +kernel, by decide +kernel⟩
abbrev N__law_block : List Str := ["figures", "at", "figure"]
theorem sc__law_block : FnScope N__law_block ["figures"] (defScope s__law_block) := ⟨rfl, rfl, rfl, by decide +kernel, rfl, by decide +kernel, by decide +kernel⟩
abbrev N__law_figures : List Str := ["block", "many"]
theorem sc__law_figures : FnScope N__law_figures ["block", "many"] (defScope s__law_figures) := ⟨rfl, rfl, rfl, by decide +kernel, rfl, by decide +kernel, by decide +kernel⟩
abbrev N__law_items : List Str := ["urn", "bundle", "many", "first", "blocks", "items", "way", "end", "block"]
theorem sc__law_items : FnScope N__law_items ["urn", "bundle", "many", "first"] (defScope s__law_items) := ⟨rfl, rfl, rfl, by decide +kernel, rfl, by decide +kernel, by decide +kernel⟩
abbrev N__law_drawn_drum : List Str := ["urn", "journal", "many", "home", "turn", "blocks", "items", "bundle", "item", "spots", "spot"]
theorem sc__law_drawn_drum : FnScope N__law_drawn_drum ["urn"] (defScope s__law_drawn_drum) := ⟨rfl, rfl, rfl, by decide +kernel, rfl, by decide +kernel, by decide +kernel⟩
abbrev N__law_refused : List Str := ["image", "told"]
theorem sc__law_refused : FnScope N__law_refused ["image"] (defScope s__law_refused) := ⟨rfl, rfl, rfl, by decide +kernel, rfl, by decide +kernel, by decide +kernel⟩
abbrev N__law_right : List Str := ["urn", "turn", "image", "due", "journal", "heads", "odd", "head", "one"]
theorem sc__law_right : FnScope N__law_right ["urn"] (defScope s__law_right) := ⟨rfl, rfl, rfl, by decide +kernel, rfl, by decide +kernel, by decide +kernel⟩
abbrev N_law : List Str := ["script", "k"]
theorem sc_law : FnScope N_law ["script"] (defScope s_law) := ⟨rfl, rfl, rfl, by decide +kernel, rfl, by decide +kernel, by decide +kernel⟩
structure Txt (K : PySem.W.Frag) (mg : Str → Option Value) (a : Nat → Addr) (fd : Nat → FuncData) : Prop where
  n_int : mg "int" = none
  n_isinstance : mg "isinstance" = none
  n_bool : mg "bool" = none
  n_tuple : mg "tuple" = none
  n_len : mg "len" = none
  n_all : mg "all" = none
  n_range : mg "range" = none
  n_list : mg "list" = none
  n_enumerate : mg "enumerate" = none
  n_dict : mg "dict" = none
  n_abs : mg "abs" = none
  n_max : mg "max" = none
  n_min : mg "min" = none
  n_set : mg "set" = none
  n_str : mg "str" = none
  n_zip : mg "zip" = none
  g_MOST_FIGURE : ∃ t, mg "MOST_FIGURE" = some (.int 65535 t)
  g_MOST_IN_BLOCK : ∃ t, mg "MOST_IN_BLOCK" = some (.int 64 t)
  g_LEAST_BLOCKS : ∃ t, mg "LEAST_BLOCKS" = some (.int 16 t)
  g_MOST_BLOCKS : ∃ t, mg "MOST_BLOCKS" = some (.int 96 t)
  g_FIRST_JOURNAL : ∃ t, mg "FIRST_JOURNAL" = some (.int 6 t)
  g_LEAST_JOURNAL : ∃ t, mg "LEAST_JOURNAL" = some (.int 4 t)
  g_MOST_JOURNAL : ∃ t, mg "MOST_JOURNAL" = some (.int 40 t)
  g_MOST_HOME : ∃ t, mg "MOST_HOME" = some (.int 60000 t)
  g_PUT : ∃ t, mg "PUT" = some (.int 2 t)
  g_END : ∃ t, mg "END" = some (.int 3 t)
  g_IN_HEAD : ∃ t, mg "IN_HEAD" = some (.int 3 t)
  g_MOST_PUT : ∃ t, mg "MOST_PUT" = some (.int 60 t)
  m_is_from : mg "is_from" = some (.ref (a 0))
  F_is_from : Fun K "is_from" "is_from" s_is_from (a 0) (fd 0)
  b_is_from : Binds K (fd 0) ["value", "low", "high"] []
  m_is_tuple : mg "is_tuple" = some (.ref (a 1))
  F_is_tuple : Fun K "is_tuple" "is_tuple" s_is_tuple (a 1) (fd 1)
  b_is_tuple : Binds K (fd 1) ["value", "low", "high"] []
  m_is_figure : mg "is_figure" = some (.ref (a 2))
  F_is_figure : Fun K "is_figure" "is_figure" s_is_figure (a 2) (fd 2)
  b_is_figure : Binds K (fd 2) ["value"] []
  m_is_block : mg "is_block" = some (.ref (a 3))
  F_is_block : Fun K "is_block" "is_block" s_is_block (a 3) (fd 3)
  b_is_block : Binds K (fd 3) ["value"] []
  m_are_blocks : mg "are_blocks" = some (.ref (a 4))
  F_are_blocks : Fun K "are_blocks" "are_blocks" s_are_blocks (a 4) (fd 4)
  b_are_blocks : Binds K (fd 4) ["value"] []
  m_need_blocks : mg "need_blocks" = some (.ref (a 5))
  F_need_blocks : Fun K "need_blocks" "need_blocks" s_need_blocks (a 5) (fd 5)
  b_need_blocks : Binds K (fd 5) ["image"] []
  m_figure_at : mg "figure_at" = some (.ref (a 6))
  F_figure_at : Fun K "figure_at" "figure_at" s_figure_at (a 6) (fd 6)
  b_figure_at : Binds K (fd 6) ["block", "index"] []
  m_with_blocks : mg "with_blocks" = some (.ref (a 7))
  F_with_blocks : Fun K "with_blocks" "with_blocks" s_with_blocks (a 7) (fd 7)
  b_with_blocks : Binds K (fd 7) ["image", "blocks"] []
  m_has_leaves : mg "has_leaves" = some (.ref (a 8))
  F_has_leaves : Fun K "has_leaves" "has_leaves" s_has_leaves (a 8) (fd 8)
  b_has_leaves : Binds K (fd 8) ["many", "journal"] []
  m_has_head : mg "has_head" = some (.ref (a 9))
  F_has_head : Fun K "has_head" "has_head" s_has_head (a 9) (fd 9)
  b_has_head : Binds K (fd 9) ["image"] []
  m_need_head : mg "need_head" = some (.ref (a 10))
  F_need_head : Fun K "need_head" "need_head" s_need_head (a 10) (fd 10)
  b_need_head : Binds K (fd 10) ["image"] []
  m_journal_of : mg "journal_of" = some (.ref (a 11))
  F_journal_of : Fun K "journal_of" "journal_of" s_journal_of (a 11) (fd 11)
  b_journal_of : Binds K (fd 11) ["image"] []
  m_first_leaf : mg "first_leaf" = some (.ref (a 12))
  F_first_leaf : Fun K "first_leaf" "first_leaf" s_first_leaf (a 12) (fd 12)
  b_first_leaf : Binds K (fd 12) ["image"] []
  m_home_of : mg "home_of" = some (.ref (a 13))
  F_home_of : Fun K "home_of" "home_of" s_home_of (a 13) (fd 13)
  b_home_of : Binds K (fd 13) ["image"] []
  m_with_home : mg "with_home" = some (.ref (a 14))
  F_with_home : Fun K "with_home" "with_home" s_with_home (a 14) (fd 14)
  b_with_home : Binds K (fd 14) ["image", "number"] []
  m_is_put : mg "is_put" = some (.ref (a 15))
  F_is_put : Fun K "is_put" "is_put" s_is_put (a 15) (fd 15)
  b_is_put : Binds K (fd 15) ["block"] []
  m_is_end : mg "is_end" = some (.ref (a 16))
  F_is_end : Fun K "is_end" "is_end" s_is_end (a 16) (fd 16)
  b_is_end : Binds K (fd 16) ["block"] []
  m_can_go_home : mg "can_go_home" = some (.ref (a 17))
  F_can_go_home : Fun K "can_go_home" "can_go_home" s_can_go_home (a 17) (fd 17)
  b_can_go_home : Binds K (fd 17) ["image", "at"] []
  m_whole_bundle : mg "whole_bundle" = some (.ref (a 18))
  F_whole_bundle : Fun K "whole_bundle" "whole_bundle" s_whole_bundle (a 18) (fd 18)
  b_whole_bundle : Binds K (fd 18) ["image", "number"] []
  m_brought_home : mg "brought_home" = some (.ref (a 19))
  F_brought_home : Fun K "brought_home" "brought_home" s_brought_home (a 19) (fd 19)
  b_brought_home : Binds K (fd 19) ["image"] []
  m_put_home : mg "put_home" = some (.ref (a 20))
  F_put_home : Fun K "put_home" "put_home" s_put_home (a 20) (fd 20)
  b_put_home : Binds K (fd 20) ["image"] []
  m_recovered : mg "recovered" = some (.ref (a 21))
  F_recovered : Fun K "recovered" "recovered" s_recovered (a 21) (fd 21)
  b_recovered : Binds K (fd 21) ["image"] []
  m__law_urn : mg "_law_urn" = some (.ref (a 22))
  F__law_urn : Fun K "_law_urn" "_law_urn" s__law_urn (a 22) (fd 22)
  b__law_urn : Binds K (fd 22) ["script", "k"] []
  m__law_of : mg "_law_of" = some (.ref (a 23))
  F__law_of : Fun K "_law_of" "_law_of" s__law_of (a 23) (fd 23)
  b__law_of : Binds K (fd 23) ["urn", "many"] []
  m__law_one : mg "_law_one" = some (.ref (a 24))
  F__law_one : Fun K "_law_one" "_law_one" s__law_one (a 24) (fd 24)
  b__law_one : Binds K (fd 24) ["urn", "some"] []
  m__law_turned : mg "_law_turned" = some (.ref (a 25))
  F__law_turned : Fun K "_law_turned" "_law_turned" s__law_turned (a 25) (fd 25)
  b__law_turned : Binds K (fd 25) ["urn", "some"] []
  m__law_alike : mg "_law_alike" = some (.ref (a 26))
  F__law_alike : Fun K "_law_alike" "_law_alike" s__law_alike (a 26) (fd 26)
  b__law_alike : Binds K (fd 26) ["one", "due"] []
  m__law_puts_of : mg "_law_puts_of" = some (.ref (a 27))
  F__law_puts_of : Fun K "_law_puts_of" "_law_puts_of" s__law_puts_of (a 27) (fd 27)
  b__law_puts_of : Binds K (fd 27) ["image", "bundle"] []
  m__law_recovered : mg "_law_recovered" = some (.ref (a 28))
  F__law_recovered : Fun K "_law_recovered" "_law_recovered" s__law_recovered (a 28) (fd 28)
  b__law_recovered : Binds K (fd 28) ["image"] []
  m__law_block : mg "_law_block" = some (.ref (a 29))
  F__law_block : Fun K "_law_block" "_law_block" s__law_block (a 29) (fd 29)
  b__law_block : Binds K (fd 29) ["figures"] []
  m__law_figures : mg "_law_figures" = some (.ref (a 30))
  F__law_figures : Fun K "_law_figures" "_law_figures" s__law_figures (a 30) (fd 30)
  b__law_figures : Binds K (fd 30) ["block", "many"] []
  m__law_items : mg "_law_items" = some (.ref (a 31))
  F__law_items : Fun K "_law_items" "_law_items" s__law_items (a 31) (fd 31)
  b__law_items : Binds K (fd 31) ["urn", "bundle", "many", "first"] []
  m__law_drawn_drum : mg "_law_drawn_drum" = some (.ref (a 32))
  F__law_drawn_drum : Fun K "_law_drawn_drum" "_law_drawn_drum" s__law_drawn_drum (a 32) (fd 32)
  b__law_drawn_drum : Binds K (fd 32) ["urn"] []
  m__law_refused : mg "_law_refused" = some (.ref (a 33))
  F__law_refused : Fun K "_law_refused" "_law_refused" s__law_refused (a 33) (fd 33)
  b__law_refused : Binds K (fd 33) ["image"] []
  m__law_right : mg "_law_right" = some (.ref (a 34))
  F__law_right : Fun K "_law_right" "_law_right" s__law_right (a 34) (fd 34)
  b__law_right : Binds K (fd 34) ["urn"] []
  m_law : mg "law" = some (.ref (a 35))
  F_law : Fun K "law" "law" s_law (a 35) (fd 35)
  b_law : Binds K (fd 35) ["script"] []
section
variable {P : Program} {w : World} {K : PySem.W.Frag} {mg : Str → Option Value} {base : Heap} {a : Nat → Addr} {fd : Nat → FuncData}
theorem ok__law_urn (T : Txt K mg a fd) : FnOk P w K mg base CX0 1 (a 22) (fd 22) ["script", "k"] (spUrn K) := by
  refine T.F__law_urn.ok sc__law_urn (fun vs H Q E h => ?_) (fun cdv A outer s H vs Q E hr h => ?_)
  · obtain ⟨_, _, _, rfl, _⟩ := h; rfl
  · obtain ⟨p, ns, k, rfl, hS, hlen, hk, kk⟩ := h
    refine ⟨_, pss_cons (ps_set (i := 2) sc__law_urn.nd rfl (Or.inl rfl) (pe_op op_add (pe_op op_mul pe_int (pv 1)) pe_int))
    (pss_cons (ps_for PassesOwn.never rfl (pi_enum (by rfl) T.n_enumerate (pa_cons (pe_slice (show SlR _ (rSlL K) from sl_list) (pv 0) po_none (po_some pe_int)) pa_nil)) (pg_tup rfl (pgs_cons (pg_name (i := 3) sc__law_urn.nd rfl (Or.inl rfl)) (pgs_cons (pg_name (i := 4) sc__law_urn.nd rfl (Or.inl rfl)) pgs_nil))) (pss_one (ps_set (i := 2) sc__law_urn.nd rfl (Or.inl rfl) (pe_op op_mod (pe_callTy call_intI (by rfl) T.n_int (by decide +kernel) (pa_cons (pe_op op_add (pe_op op_add (pe_op op_mul (pv 2) pe_int) (pe_op op_mul (pe_op op_mod (pe_callTy call_intI (by rfl) T.n_int (by decide +kernel) (pa_cons (pv 4) pa_nil)) (pe_op op_add (pe_op op_pow pe_int pe_int) pe_int)) (pe_op op_add (pe_op op_mul pe_int (pv 3)) pe_int))) pe_int) pa_nil)) (pe_op op_add (pe_op op_pow pe_int pe_int) pe_int)))))
    (pss_cons (ps_set (i := 5) sc__law_urn.nd rfl (Or.inl rfl) (pe_mono (pe_ifExp (pt_cmpR op_lt (pv 1) (pe_callB call_len_seq (by rfl) T.n_len PySem.boot_len (pa_cons (pv 0) pa_nil)) (nomark _)) (pe_callB call_abs (by rfl) T.n_abs (by decide +kernel) (pa_cons (pe_callTy call_intI (by rfl) T.n_int (by decide +kernel) (pa_cons (pe_ix (show IxR _ (rIxL K) from ix_list) (pv 0) (pv 1) (fun _ _ => rfl)) pa_nil)) pa_nil)) pe_int)))
    (pss_one (ps_ret (pe_lst (pa_cons (pe_mono (pe_ifExp (pt_cmpR op_ge (pv 5) (pe_op op_pow pe_int pe_int) (nomark _)) (pv 5) pe_int)) (pa_cons (pv 2) (pa_cons (pv 1) pa_nil)))))))), ?_⟩
    have e1 : cutV (ns.map V.int) none (some 63) = ns.map V.int := cutV_all (k := 63) (by rw [List.length_map]; exact hlen)
    refine ⟨_, rfl, _, _, rfl, rfl, (by first | exact .inr ⟨by decide, by decide⟩ | exact .inl ⟨by decide, by decide⟩ | exact .inl ⟨by omega, by omega⟩ | exact .inr ⟨by omega, by omega⟩), _, _, rfl, rfl, _, rfl, _, rfl, _, _, rfl, hS, fun p1 hp1 => ⟨_, _, rfl, .of upd_same, ?_⟩⟩
    rw [e1]
    refine for_same (walk_enumMap (f := V.int) (xs := ns)) (fun i σ H' => ∃ c3 c4 c5 m, σ = [some (.ref p), some (.int k), some (.int m), c3, c4, c5] ∧ (0 < i → 0 ≤ m ∧ m < 10 ^ 29 + 319) ∧ 0 ≤ m ∧ m < 10 ^ 29 + 319)
      ⟨_, _, _, _, rfl, fun h => absurd h (Nat.lt_irrefl 0), by omega, by omega⟩ (fun H' s => s.seq (.of upd_same)) (fun i x σ H1 H2 hi s ⟨c3, c4, c5, m, e, _, m1, m2⟩ hy => ?_) (fun σ H1 s ⟨c3, c4, c5, m, e, _, m1, m2⟩ => ?_)
    · subst e
      obtain ⟨t, n, rfl, ht, rfl, hn⟩ := hy
      have hi2 : i < 63 := by omega
      refine ⟨_, _, rfl, (.of upd_same), rfl, _, _, rfl, _, _, rfl, rfl, _, rfl, _, _, rfl, rfl, (by first | exact .inr ⟨by decide, by decide⟩ | exact .inl ⟨by decide, by decide⟩ | exact .inl ⟨by omega, by omega⟩ | exact .inr ⟨by omega, by omega⟩), _, rfl, _, rfl, _, _, rfl, rfl, ⟨by decide, by decide, by decide⟩, _, _, rfl, rfl, _, _, rfl, rfl, (by show (0 : Int) < _; first | decide | omega | assumption), _, rfl, _, _, rfl, rfl, (by first | exact .inr ⟨by decide, by decide⟩ | exact .inl ⟨by decide, by decide⟩ | exact .inl ⟨by omega, by omega⟩ | exact .inr ⟨by omega, by omega⟩), _, _, rfl, rfl, _, _, rfl, rfl, (by first | exact .inr ⟨by decide, by decide⟩ | exact .inl ⟨by decide, by decide⟩ | exact .inl ⟨by omega, by omega⟩ | exact .inr ⟨by omega, by omega⟩), _, _, rfl, rfl, _, _, rfl, rfl, _, rfl, _, _, rfl, rfl, ⟨by decide, by decide, by decide⟩, _, _, rfl, rfl, _, _, rfl, rfl, (by show (0 : Int) < _; first | decide | omega | assumption), ?_⟩
      exact ⟨s.upd_new ht, _, _, _, _, rfl, fun _ => ⟨Int.emod_nonneg _ (by decide), Int.emod_lt_of_pos _ (by decide)⟩, Int.emod_nonneg _ (by decide), Int.emod_lt_of_pos _ (by decide)⟩
    · subst e
      have hS1 : SqL K H1 p (ns.map V.int) := s.seq (((Same.refl H).upd_new hp1).seq hS)
      have s1 : Same H H1 := ((Same.refl H).upd_new hp1).trans s
      refine ⟨fun x H' => ∃ z : Int, 0 ≤ z ∧ x = .int z ∧ H' = H1, ?_, fun x H' ⟨z, hz, ex, eH⟩ => ?_⟩
      · refine ⟨_, rfl, _, rfl, _, _, rfl, .inl hS1, _, _, rfl, rfl, _, rfl, ?_⟩
        refine ite2 (fun h => ?_) (fun h => ⟨0, by decide, rfl, rfl⟩)
        have hk2 : k < ns.length := by simpa using h
        refine ⟨_, rfl, _, rfl, _, _, _, _, rfl, rfl, hS1, atI_nat (j := k) (v := V.int ns[k]) (by rw [List.getElem?_map, List.getElem?_eq_getElem hk2]; rfl), _, rfl, _, rfl, _, ?_, rfl, rfl⟩
        split <;> omega
      subst ex
      rw [eH]
      clear eH
      refine ⟨fun x H' => ∃ y : Int, 0 ≤ y ∧ x = .int y ∧ H' = H1, ?_, fun x H' ⟨y, hy, ex, eH⟩ => ?_⟩
      · refine ⟨_, rfl, _, _, rfl, rfl, ⟨by decide, by decide, by decide⟩, _, _, rfl, rfl, _, rfl, ?_⟩
        exact ite2 (fun _ => ⟨_, rfl, z, hz, rfl, rfl⟩) (fun _ => ⟨0, by decide, rfl, rfl⟩)
      subst ex
      rw [eH]
      clear eH
      refine ⟨_, rfl, _, rfl, sizeOf (by simp), fun p2 hp2 => ?_⟩
      exact kk _ p2 (s1.upd_new hp2) (s1.free hp2) ⟨y, m, k, upd_same, hy, m1, m2, by omega, by omega⟩
theorem ok__law_of (T : Txt K mg a fd) : FnOk P w K mg base CX0 1 (a 23) (fd 23) ["urn", "many"] spOf := by
  refine T.F__law_of.ok sc__law_of (fun vs H Q E h => ?_) (fun cdv A outer s H vs Q E hr h => ?_)
  · obtain ⟨_, _, _, rfl, _⟩ := h; rfl
  · obtain ⟨u, n, m, rfl, W, hn, hm, hm2, k⟩ := h
    refine ⟨_, pss_cons (ps_if (pt_cmpR op_gt (pe_ix (show IxR _ (rIxL K) from ix_list) (pv 0) pe_int (fun _ _ => rfl)) pe_int (nomark _)) (pss_cons (ps_set (i := 2) sc__law_of.nd rfl (Or.inl rfl) (pe_op op_mod (pe_callTy call_intI (by rfl) T.n_int (by decide +kernel) (pa_cons (pe_ix (show IxR _ (rIxL K) from ix_list) (pv 0) pe_int (fun _ _ => rfl)) pa_nil)) (pv 1)))
    (pss_cons (ps_asg (pe_op op_fdiv (pe_ix (show IxR _ (rIxL K) from ix_list) (pv 0) pe_int (fun _ _ => rfl)) (pv 1)) (pg_sub (pv 0) pe_int set_list))
    (pss_one (ps_ret (pv 2))))) pss_nil)
    (pss_cons (ps_asg (pe_op op_add (pe_ix (show IxR _ (rIxL K) from ix_list) (pv 0) pe_int (fun _ _ => rfl)) pe_int) (pg_sub (pv 0) pe_int set_list))
    (pss_cons (ps_set (i := 3) sc__law_of.nd rfl (Or.inl rfl) (pe_op op_mod (pe_callTy call_intI (by rfl) T.n_int (by decide +kernel) (pa_cons (pe_op op_add (pe_op op_powW (pe_op op_add (pe_ix (show IxR _ (rIxL K) from ix_list) (pv 0) pe_int (fun _ _ => rfl)) (pe_op op_mul (pe_ix (show IxR _ (rIxL K) from ix_list) (pv 0) pe_int (fun _ _ => rfl)) pe_int)) pe_int) (pe_ix (show IxR _ (rIxL K) from ix_list) (pv 0) pe_int (fun _ _ => rfl))) pa_nil)) (pe_op op_add (pe_op op_pow pe_int pe_int) pe_int)))
    (pss_cons (ps_asg (pe_op op_mod (pe_callTy call_intI (by rfl) T.n_int (by decide +kernel) (pa_cons (pe_op op_add (pe_op op_add (pe_op op_mul (pe_ix (show IxR _ (rIxL K) from ix_list) (pv 0) pe_int (fun _ _ => rfl)) pe_int) (pv 3)) pe_int) pa_nil)) (pe_op op_add (pe_op op_pow pe_int pe_int) pe_int)) (pg_sub (pv 0) pe_int set_list))
    (pss_one (ps_ret (pe_op op_mod (pe_callTy call_intI (by rfl) T.n_int (by decide +kernel) (pa_cons (pe_op op_fdiv (pv 3) pe_int) pa_nil)) (pv 1))))))), ?_⟩
    obtain ⟨r, q, c, h1, r0, q0, q1, c0, c1⟩ := W
    refine ⟨_, rfl, _, _, _, _, rfl, rfl, .of h1, rfl, _, _, rfl, rfl, _, rfl, ?_⟩
    refine ite2 (fun h => ?_) (fun h => ?_)
    · refine ⟨_, rfl, _, _, _, _, rfl, rfl, .of h1, rfl, _, rfl, _, rfl, _, _, rfl, rfl, (by show (0 : Int) < _; first | decide | omega | assumption), _, rfl, _, _, _, _, rfl, rfl, .of h1, rfl, _, rfl, _, _, rfl, rfl, (by first | exact ⟨by decide, by decide⟩ | exact ⟨by omega, by omega⟩), _, rfl, _, _, _, _, rfl, rfl, h1, rfl, _, rfl, ?_⟩
      refine k _ _ (Off.refl u u H).w ⟨r / m, q, c, upd_same, Int.ediv_nonneg r0 (by omega), q0, q1, c0, by omega⟩ (Int.emod_nonneg _ (by omega)) (Int.emod_lt_of_pos _ hm)
    · refine ⟨_, rfl, _, _, _, _, rfl, rfl, .of h1, rfl, _, _, rfl, rfl, _, rfl, _, _, _, _, rfl, rfl, h1, rfl, _, rfl, _, _, _, _, rfl, rfl, .of upd_same, rfl, _, rfl, _, _, _, _, rfl, rfl, .of upd_same, rfl, _, _, rfl, rfl, (by first | exact .inr ⟨by decide, by decide⟩ | exact .inl ⟨by decide, by decide⟩ | exact .inl ⟨by omega, by omega⟩ | exact .inr ⟨by omega, by omega⟩), _, _, rfl, rfl, _, _, rfl, rfl, powW2 (n := 110) ?_ (by decide) (by decide), _, rfl, _, _, _, _, rfl, rfl, .of upd_same, rfl, _, _, rfl, rfl, _, rfl, _, _, rfl, rfl, ⟨by decide, by decide, by decide⟩, _, _, rfl, rfl, _, _, rfl, rfl, (by show (0 : Int) < _; first | decide | omega | assumption), _, rfl, _, _, _, _, rfl, rfl, .of upd_same, rfl, _, _, rfl, rfl, (by first | exact .inr ⟨by decide, by decide⟩ | exact .inl ⟨by decide, by decide⟩ | exact .inl ⟨by omega, by omega⟩ | exact .inr ⟨by omega, by omega⟩), _, rfl, _, _, rfl, rfl, _, _, rfl, rfl, _, rfl, _, _, rfl, rfl, ⟨by decide, by decide, by decide⟩, _, _, rfl, rfl, _, _, rfl, rfl, (by show (0 : Int) < _; first | decide | omega | assumption), _, rfl, _, _, _, _, rfl, rfl, upd_same, rfl, _, rfl, _, _, rfl, rfl, (by first | exact ⟨by decide, by decide⟩ | exact ⟨by omega, by omega⟩), _, rfl, _, rfl, _, _, rfl, rfl, (by show (0 : Int) < _; first | decide | omega | assumption), ?_⟩
      · show (q + (c + 1) * 15485867).natAbs < 2 ^ 110
        omega
      rw [upd_upd]
      exact k _ _ (Off.refl u u H).w ⟨r, _, c + 1, upd_same, r0, Int.emod_nonneg _ (by decide), Int.emod_lt_of_pos _ (by decide), by omega, by omega⟩ (Int.emod_nonneg _ (by omega)) (Int.emod_lt_of_pos _ hm)
theorem ok__law_one (T : Txt K mg a fd) : FnOk P w K mg base CX0 2 (a 24) (fd 24) ["urn", "some"] (spOneU K) := by
  refine T.F__law_one.ok sc__law_one (fun vs H Q E h => ?_) (fun cdv A outer s H vs Q E hr h => ?_)
  · obtain ⟨_, _, _, _, rfl, _⟩ := h; rfl
  · obtain ⟨u, l, n, xs, rfl, W, hn, hS, lu, x0, x1, k⟩ := h
    have G__law_of := ok__law_of (P := P) (w := w) (base := base) T
    refine ⟨_, pss_one (ps_ret (pe_ix (show IxR _ (rIxL K) from ix_list) (pv 1) (pe_call G__law_of (hr.mono (by first | decide | omega)) rfl T.m__law_of T.F__law_of.kp T.b__law_of .nil pass0 (pa_cons (pv 0) (pa_cons (pe_callB call_len_seq (by rfl) T.n_len PySem.boot_len (pa_cons (pv 1) pa_nil)) pa_nil))) (fun _ _ => rfl))), ?_⟩
    refine ⟨_, rfl, _, rfl, _, rfl, _, _, rfl, .inl hS, u, n, _, rfl, W, hn, (by omega), (by omega), fun H1 r O1 W1 r0 r1 => ⟨_, _, _, _, rfl, rfl, O1.seq hS lu lu, atI_ok r0 r1, ?_⟩⟩
    exact k _ _ O1 W1 (List.getElem_mem _)
theorem ok__law_turned (T : Txt K mg a fd) : FnOk P w K mg base CX0 2 (a 25) (fd 25) ["urn", "some"] (spTurned K) := by
  refine T.F__law_turned.ok sc__law_turned (fun vs H Q E h => ?_) (fun cdv A outer s H vs Q E hr h => ?_)
  · obtain ⟨_, _, _, _, rfl, _⟩ := h; rfl
  · obtain ⟨u, l, n, xs, rfl, W, hn, hS, lu, x1, k⟩ := h
    have G__law_of := ok__law_of (P := P) (w := w) (base := base) T
    refine ⟨_, pss_cons (ps_par (i := 2) (j := 3) (by rfl) sc__law_turned.nd rfl rfl (by decide) rfl rfl (pa_cons (pe_callTy call_list_of (by rfl) T.n_list (by decide +kernel) (pa_cons (pv 1) pa_nil)) (pa_cons (pe_lst pa_nil) pa_nil)) (by rfl))
    (pss_cons (ps_for PassesOwn.never rfl (pi_range1 (by rfl) T.n_range (pa_cons (pe_callB call_len_seq (by rfl) T.n_len PySem.boot_len (pa_cons (pv 2) pa_nil)) pa_nil)) (pg_name (i := 4) sc__law_turned.nd rfl (Or.inl rfl)) (pss_one (ps_expr (pe_bm PySem.F.plainAttrs_list PySem.F.slot_list_append PySem.F.type_list_append mt_append (pv 3) (pa_cons (pe_bm PySem.F.plainAttrs_list PySem.F.slot_list_pop PySem.F.type_list_pop mt_popAt (pv 2) (pa_cons (pe_call G__law_of (hr.mono (by first | decide | omega)) rfl T.m__law_of T.F__law_of.kp T.b__law_of .nil pass0 (pa_cons (pv 0) (pa_cons (pe_callB call_len_seq (by rfl) T.n_len PySem.boot_len (pa_cons (pv 2) pa_nil)) pa_nil))) pa_nil)) pa_nil)))))
    (pss_one (ps_ret (pv 3)))), ?_⟩
    refine ⟨_, rfl, _, _, rfl, .inl hS, fun p1 hp1 => ⟨(sizeOf (by simp)), fun p2 hp2 => ⟨_, _, rfl, ?_⟩⟩⟩
    have n12 : p2 ≠ p1 := ne_of_none' hp2 upd_same
    have hp20 : H p2 = none := by rw [upd_ne n12] at hp2; exact hp2
    have hp1L : upd (upd H p1 (.lst xs)) p2 (.lst []) p1 = some (.lst xs) := by rw [upd_ne (Ne.symm n12)]; exact upd_same
    refine ⟨_, rfl, _, _, rfl, .inl (.of hp1L), _, rfl, (by omega), (by omega), ?_⟩
    have W2 := (W.new hp1 (o := .lst xs)).new hp2 (o := .lst [])
    have d1 := W.ne hp1
    have d2 := W.ne hp20
    refine for_it walk_range (fun i σ H' => OffU u H H' ∧ UrnAt H' u (n + i) ∧ ∃ c4 rest ys, σ = [some (.ref u), some (.ref l), some (.ref p1), some (.ref p2), c4] ∧ H' p1 = some (.lst rest) ∧ H' p2 = some (.lst ys) ∧ (ys ++ rest).Perm xs ∧ ys.length = i)
      ⟨(((Same.refl H).upd_new hp1).upd_new hp2).off, by simpa using W2, _, xs, [], rfl, hp1L, upd_same, .refl _, rfl⟩ (fun _ _ _ _ _ => trivial)
      (fun i x σ H1 H2 hi ⟨O1, W1, c4, rest, ys, e, h1, h2, pm, hl⟩ hy => ?_) (fun σ H1 ⟨O1, W1, c4, rest, ys, e, h1, h2, pm, hl⟩ => ?_)
    · subst e
      obtain ⟨rfl, rfl⟩ := hy
      have hlen := pm.length_eq
      rw [List.length_append] at hlen
      have hi2 : i < xs.length := by simpa using hi
      refine ⟨_, rfl, (.inl ⟨rfl, _, .of (h2)⟩), _, rfl, (.inl ⟨rfl, _, .of (h1)⟩), _, rfl, _, rfl, _, _, rfl, .inl (.of h1), u, n + i, _, rfl, W1, (by omega), (by omega), (by omega), fun H3 r O3 W3 r0 r1 => ⟨_, _, _, _, _, rfl, rfl, O3 _ _ h1 d1 d1, (by omega), (by omega), sIx_ok r0 r1, List.getElem?_eq_getElem (by omega), _, _, _, rfl, rfl, (by rw [upd_ne n12]; exact O3 _ _ h2 d2 d2), (sizeOfL (by first | omega | (simp; done) | (simp; omega))), ?_⟩⟩
      refine ⟨((O1.trans O3).own hp1).own hp20, ?_, _, _, _, rfl, by rw [upd_ne (Ne.symm n12)]; exact upd_same, upd_same, perm_pick _ pm, by simp [hl]⟩
      rw [show n + ((i + 1 : Nat) : Int) = n + i + 1 by push_cast; omega]
      exact (W3.upd d1).upd d2
    · subst e
      have hlen := pm.length_eq
      rw [List.length_append] at hlen
      have e0 : rest = [] := List.eq_nil_of_length_eq_zero (by simp at hl; omega)
      subst e0
      refine ⟨_, rfl, ?_⟩
      rw [List.append_nil] at pm
      exact k _ p2 ys O1 (by simpa using W1) hp20 d2 h2 pm

end
end B80

set_option autoImplicit true
set_option Elab.async false
set_option linter.all false
set_option maxRecDepth 100000
set_option maxHeartbeats 8000000
namespace B80
open PySem L2
theorem keepN {H : Hp} {p q : Addr} {o u : HO} (h : H p = some o) (n : H q = none) : upd H q u p = some o := (upd_ne (ne_of_none h n)).trans h
section
variable {P : Program} {w : World} {K : PySem.W.Frag} {mg : Str → Option Value} {base : Heap} {a : Nat → Addr} {fd : Nat → FuncData}
theorem ok__law_alike (T : Txt K mg a fd) : ∀ n, FnOk P w K mg base CX0 n (a 26) (fd 26) ["one", "due"] (spAlike K n)
  | 0 => ⟨fun vs H Q E ⟨_, _, _, _, _, _, h, _⟩ => absurd h (Nat.not_lt_zero _), fun A outer s H args us vs Q E _ _ _ _ ⟨_, _, _, _, _, _, h, _⟩ => absurd h (Nat.not_lt_zero _)⟩
  | n + 1 => by
    have G__law_alike := ok__law_alike T n
    refine T.F__law_alike.ok sc__law_alike (fun vs H Q E h => ?_) (fun cdv A outer s H vs Q E hr h => ?_)
    · obtain ⟨_, _, _, rfl, _⟩ := h; rfl
    · obtain ⟨x, y, d, rfl, hx, hy, hd, hnd, k⟩ := h
      refine ⟨_, pss_cons (ps_if (pt_val (pe_callB call_isiT2 (by rfl) T.n_isinstance (by decide +kernel) (pa_cons (pv 1) (pa_cons (pe_tup (pa_cons (pe_bltn rfl T.n_tuple (by decide +kernel) (show RelV (.ty "tuple") _ from rfl)) (pa_cons (pe_bltn rfl T.n_list (by decide +kernel) (show RelV (.ty "list") _ from rfl)) pa_nil))) pa_nil)))) (pss_cons (ps_if (PW.pt (pw_or (pt_cmpR op_ne (pe_callB call_isiD (by rfl) T.n_isinstance (by decide +kernel) (pa_cons (pv 1) (pa_cons (pe_bltn rfl T.n_tuple (by decide +kernel) (show RelV (.ty "tuple") _ from rfl)) pa_nil))) (pe_callB call_isiD (by rfl) T.n_isinstance (by decide +kernel) (pa_cons (pv 0) (pa_cons (pe_bltn rfl T.n_tuple (by decide +kernel) (show RelV (.ty "tuple") _ from rfl)) pa_nil))) (nomark _)) (pw_or (pt_not (pt_val (pe_callB call_isiT2 (by rfl) T.n_isinstance (by decide +kernel) (pa_cons (pv 0) (pa_cons (pe_tup (pa_cons (pe_bltn rfl T.n_tuple (by decide +kernel) (show RelV (.ty "tuple") _ from rfl)) (pa_cons (pe_bltn rfl T.n_list (by decide +kernel) (show RelV (.ty "list") _ from rfl)) pa_nil))) pa_nil))))) (pw_or1 (pt_cmpR op_ne (pe_callB call_len_seq (by rfl) T.n_len PySem.boot_len (pa_cons (pv 0) pa_nil)) (pe_callB call_len_seq (by rfl) T.n_len PySem.boot_len (pa_cons (pv 1) pa_nil)) (nomark _)))))) (pss_one (ps_ret pe_bl)) pss_nil)
    (pss_one (ps_ret (pe_cmpR (op_eqNil hr.units0) (pe_lc (own := [("at", 2)]) (g := gName 2) (by rfl) sc__law_alike.nd (pi_range1 (by rfl) T.n_range (pa_cons (pe_callB call_len_seq (by rfl) T.n_len PySem.boot_len (pa_cons (pv 1) pa_nil)) pa_nil)) (blkOk_by (own := [("at", 2)]) (N := N__law_alike) (sc := defScope s__law_alike) (by decide +kernel)) (fun _ _ _ _ _ => pg_name (i := 2) sc__law_alike.nd rfl (Or.inl rfl)) (fun _ _ _ _ _ => pts_one (pt_not (pt_val (pe_call G__law_alike (hr.mono (by first | decide | omega)) rfl T.m__law_alike T.F__law_alike.kp T.b__law_alike .nil pass0 (pa_cons (pe_ix (show IxR _ (rIx K) from ix_seq) (pv 0) (pv 2) (fun _ _ => rfl)) (pa_cons (pe_ix (show IxR _ (rIx K) from ix_seq) (pv 1) (pv 2) (fun _ _ => rfl)) pa_nil)))))) (fun _ _ _ _ _ => (pv 2))) (pe_lst pa_nil) (nomark _))))) pss_nil)
    (pss_cons (ps_if (pt_val (pe_callB call_isiD (by rfl) T.n_isinstance (by decide +kernel) (pa_cons (pv 1) (pa_cons (pe_bltn rfl T.n_dict (by decide +kernel) (show RelV (.ty "dict") _ from rfl)) pa_nil)))) (pss_one (ps_never)) pss_nil)
    (pss_cons (ps_if (pt_cmpR op_isN (pv 1) pe_non (nomark _)) (pss_one (ps_ret (pe_cmpR op_isN (pv 0) pe_non (nomark _)))) pss_nil)
    (pss_cons (ps_if (pt_val (pe_callB call_isiD (by rfl) T.n_isinstance (by decide +kernel) (pa_cons (pv 1) (pa_cons (pe_bltn rfl T.n_bool (by decide +kernel) (show RelV (.ty "bool") _ from rfl)) pa_nil)))) (pss_one (ps_ret (pe_and (pe_callB call_isiD (by rfl) T.n_isinstance (by decide +kernel) (pa_cons (pv 0) (pa_cons (pe_bltn rfl T.n_bool (by decide +kernel) (show RelV (.ty "bool") _ from rfl)) pa_nil))) (pe_one (pe_cmpR op_eq (pv 0) (pv 1) (nomark _)))))) pss_nil)
    (pss_cons (ps_if (pt_val (pe_callB call_isiD (by rfl) T.n_isinstance (by decide +kernel) (pa_cons (pv 1) (pa_cons (pe_bltn rfl T.n_str (by decide +kernel) (show RelV (.ty "str") _ from rfl)) pa_nil)))) (pss_one (ps_ret (pe_and (pe_callB call_isiD (by rfl) T.n_isinstance (by decide +kernel) (pa_cons (pv 0) (pa_cons (pe_bltn rfl T.n_str (by decide +kernel) (show RelV (.ty "str") _ from rfl)) pa_nil))) (pe_one (pe_cmpR op_eq (pv 0) (pv 1) (nomark _)))))) pss_nil)
    (pss_one (ps_ret (pe_and (pe_callB call_isiD (by rfl) T.n_isinstance (by decide +kernel) (pa_cons (pv 0) (pa_cons (pe_bltn rfl T.n_int (by decide +kernel) (show RelV (.ty "int") _ from rfl)) pa_nil))) (pe_and (pe_not (pe_callB call_isiD (by rfl) T.n_isinstance (by decide +kernel) (pa_cons (pv 0) (pa_cons (pe_bltn rfl T.n_bool (by decide +kernel) (show RelV (.ty "bool") _ from rfl)) pa_nil)))) (pe_one (pe_cmpR op_eq (pv 0) (pv 1) (nomark _))))))))))), ?_⟩
      cases d with
      | none =>
        have hx0 := hx
        have hy0 := hy
        cases hx0
        cases hy0
        refine ⟨_, rfl, sizeOf (by simp), fun t1 ht1 => ⟨_, _, _, _, _, false, false, rfl, upd_same, (hy.same ((Same.refl H).upd_new ht1)), (show kitB "NoneType" _ = some _ from by decide +kernel), (show kitB "NoneType" _ = some _ from by decide +kernel), _, rfl, ?_⟩⟩
        refine iteF ?_
        have S1 := (Same.refl H).upd_new ht1 (o := .tup [.ty "tuple", .ty "list"])
        have hx1 := hx.same S1
        have hy1 := hy.same S1
        refine ⟨_, rfl, _, _, _, false, rfl, hy1, (show kitB "NoneType" _ = some _ from by decide +kernel), _, rfl, ?_⟩
        refine iteF ?_
        refine ⟨_, rfl, rfl, _, rfl, ?_⟩
        refine ite2 (fun _ => ?_) (fun h => absurd (by simp) h)
        refine ⟨_, rfl, rfl, ?_⟩
        simpa using k _ S1
      | bool b =>
        have hx0 := hx
        have hy0 := hy
        cases hx0
        cases hy0
        refine ⟨_, rfl, sizeOf (by simp), fun t1 ht1 => ⟨_, _, _, _, _, false, false, rfl, upd_same, (hy.same ((Same.refl H).upd_new ht1)), (show kitB "bool" _ = some _ from by decide +kernel), (show kitB "bool" _ = some _ from by decide +kernel), _, rfl, ?_⟩⟩
        refine iteF ?_
        have S1 := (Same.refl H).upd_new ht1 (o := .tup [.ty "tuple", .ty "list"])
        have hx1 := hx.same S1
        have hy1 := hy.same S1
        refine ⟨_, rfl, _, _, _, false, rfl, hy1, (show kitB "bool" _ = some _ from by decide +kernel), _, rfl, ?_⟩
        refine iteF ?_
        refine ⟨_, rfl, rfl, _, rfl, ?_⟩
        refine ite2 (fun h => absurd h (by simp)) (fun _ => ?_)
        refine ⟨_, rfl, _, _, _, true, rfl, hy1, (show kitB "bool" _ = some _ from by decide +kernel), _, rfl, _, rfl, _, _, _, true, rfl, hx1, (show kitB "bool" _ = some _ from by decide +kernel), _, rfl, _, rfl, _, rfl, rfl, ?_⟩
        simpa using k _ S1
      | int i =>
        have hx0 := hx
        have hy0 := hy
        cases hx0
        cases hy0
        refine ⟨_, rfl, sizeOf (by simp), fun t1 ht1 => ⟨_, _, _, _, _, false, false, rfl, upd_same, (hy.same ((Same.refl H).upd_new ht1)), (show kitB "int" _ = some _ from by decide +kernel), (show kitB "int" _ = some _ from by decide +kernel), _, rfl, ?_⟩⟩
        refine iteF ?_
        have S1 := (Same.refl H).upd_new ht1 (o := .tup [.ty "tuple", .ty "list"])
        have hx1 := hx.same S1
        have hy1 := hy.same S1
        refine ⟨_, rfl, _, _, _, false, rfl, hy1, (show kitB "int" _ = some _ from by decide +kernel), _, rfl, ?_⟩
        refine iteF ?_
        refine ⟨_, rfl, rfl, _, rfl, ?_⟩
        refine ite2 (fun h => absurd h (by simp)) (fun _ => ?_)
        refine ⟨_, rfl, _, _, _, false, rfl, hy1, (show kitB "int" _ = some _ from by decide +kernel), _, rfl, _, rfl, _, _, _, false, rfl, hy1, (show kitB "int" _ = some _ from by decide +kernel), _, rfl, _, rfl, _, _, _, true, rfl, hx1, (show kitB "int" _ = some _ from by decide +kernel), _, rfl, _, rfl, _, _, _, false, rfl, hx1, (show kitB "int" _ = some _ from by decide +kernel), _, rfl, _, rfl, _, rfl, _, rfl, rfl, ?_⟩
        simpa using k _ S1
      | str z =>
        have hx0 := hx
        have hy0 := hy
        cases hx0
        cases hy0
        refine ⟨_, rfl, sizeOf (by simp), fun t1 ht1 => ⟨_, _, _, _, _, false, false, rfl, upd_same, (hy.same ((Same.refl H).upd_new ht1)), (show kitB "str" _ = some _ from by decide +kernel), (show kitB "str" _ = some _ from by decide +kernel), _, rfl, ?_⟩⟩
        refine iteF ?_
        have S1 := (Same.refl H).upd_new ht1 (o := .tup [.ty "tuple", .ty "list"])
        have hx1 := hx.same S1
        have hy1 := hy.same S1
        refine ⟨_, rfl, _, _, _, false, rfl, hy1, (show kitB "str" _ = some _ from by decide +kernel), _, rfl, ?_⟩
        refine iteF ?_
        refine ⟨_, rfl, rfl, _, rfl, ?_⟩
        refine ite2 (fun h => absurd h (by simp)) (fun _ => ?_)
        refine ⟨_, rfl, _, _, _, false, rfl, hy1, (show kitB "str" _ = some _ from by decide +kernel), _, rfl, _, rfl, _, _, _, true, rfl, hy1, (show kitB "str" _ = some _ from by decide +kernel), _, rfl, _, rfl, _, _, _, true, rfl, hx1, (show kitB "str" _ = some _ from by decide +kernel), _, rfl, _, rfl, _, rfl, rfl, ?_⟩
        simpa using k _ S1
      | list ds =>
        have hx0 := hx
        have hy0 := hy
        cases hx0 with
        | @lst p xs _ hs1 ha1 =>
        cases hy0 with
        | @lst q ys _ hs2 ha2 =>
        refine ⟨_, rfl, sizeOf (by simp), fun t1 ht1 => ⟨_, _, _, _, _, false, true, rfl, upd_same, (hy.same ((Same.refl H).upd_new ht1)), (show kitB "list" _ = some _ from by decide +kernel), (show kitB "list" _ = some _ from by decide +kernel), _, rfl, ?_⟩⟩
        refine iteT ?_
        have S1 := (Same.refl H).upd_new ht1 (o := .tup [.ty "tuple", .ty "list"])
        have hx1 := hx.same S1
        have hy1 := hy.same S1
        refine ⟨_, rfl, _, _, _, false, rfl, hy1, (show kitB "list" _ = some _ from by decide +kernel), _, rfl, _, _, _, false, rfl, hx1, (show kitB "list" _ = some _ from by decide +kernel), rfl, _, rfl, ?_⟩
        refine ite2 (fun h => absurd h (by decide)) (fun _ => ?_)
        refine ⟨_, rfl, sizeOf (by simp), fun t2 ht2 => ⟨_, _, _, _, _, false, true, rfl, upd_same, (hx1.same ((Same.refl _).upd_new ht2)), (show kitB "list" _ = some _ from by decide +kernel), (show kitB "list" _ = some _ from by decide +kernel), _, rfl, ?_⟩⟩
        refine ite2 (fun h => absurd h (by decide)) (fun _ => ?_)
        have S2 := S1.upd_new ht2 (o := .tup [.ty "tuple", .ty "list"])
        have e1 := ha1.length
        have e2 := ha2.length
        refine ⟨_, rfl, p, xs, rfl, .inl (S2.seq hs1), _, rfl, q, ys, rfl, .inl (S2.seq hs2), rfl, _, rfl, ?_⟩
        refine ite2 (fun h => absurd h (by simp [e1, e2])) (fun _ => ?_)
        have hnd' : nodesAll ds + 1 ≤ 1000000 := hnd
        have hln := nodes_len ds
        refine ⟨_, rfl, q, ys, rfl, .inl (S2.seq hs2), _, rfl, by omega, by omega, fun D hD => ?_⟩
        refine lc_same walk_range hD (fun i H' acc => acc = []) rfl (fun _ _ => trivial) (fun i x H1 H2 acc hi s3 hacc e hy3 => ?_) (fun H1 acc s3 hacc e => ?_)
        · subst e
          obtain ⟨rfl, rfl⟩ := hy3
          have hi2 : i < ys.length := by simpa using hi
          have hi1 : i < xs.length := by omega
          have S3 := S2.trans s3
          obtain ⟨di, hdi, hdy⟩ := ha2.get (List.getElem?_eq_getElem hi2)
          obtain ⟨di', hdi', hdx⟩ := ha1.get (List.getElem?_eq_getElem hi1)
          rw [hdi] at hdi'
          cases hdi'
          have hdep := depth_get hdi
          have hd' : PyData.depthAll ds + 1 < n + 1 := hd
          refine ⟨rfl, ?_⟩
          refine ⟨_, rfl, _, rfl, .inl ⟨p, xs, _, _, rfl, rfl, S3.seq hs1, (by rw [Int.zero_add]; exact atI_nat (List.getElem?_eq_getElem hi1)), ?_⟩⟩
          refine ⟨_, rfl, _, rfl, .inl ⟨q, ys, _, _, rfl, rfl, S3.seq hs2, (by rw [Int.zero_add]; exact atI_nat (List.getElem?_eq_getElem hi2)), ?_⟩⟩
          refine ⟨_, _, di, rfl, hdx.same S3, hdy.same S3, by omega, Nat.le_trans (nodes_get hdi) (Nat.le_trans (Nat.le_succ _) hnd), fun H3 s5 => ⟨_, rfl, ?_⟩⟩
          refine iteF ?_
          exact ⟨s3.trans s5, _, s5 _ _ hacc, rfl⟩
        · subst e
          refine ⟨sizeOf (by simp), fun z hz => ⟨_, _, _, rfl, rfl, .of (keepN hacc hz), .of upd_same, ?_⟩⟩
          exact k _ ((S2.trans s3).upd_new hz)
      | tuple ds =>
        have hx0 := hx
        have hy0 := hy
        cases hx0 with
        | @tup p xs _ hs1 ha1 =>
        cases hy0 with
        | @tup q ys _ hs2 ha2 =>
        refine ⟨_, rfl, sizeOf (by simp), fun t1 ht1 => ⟨_, _, _, _, _, true, false, rfl, upd_same, (hy.same ((Same.refl H).upd_new ht1)), (show kitB "tuple" _ = some _ from by decide +kernel), (show kitB "tuple" _ = some _ from by decide +kernel), _, rfl, ?_⟩⟩
        refine iteT ?_
        have S1 := (Same.refl H).upd_new ht1 (o := .tup [.ty "tuple", .ty "list"])
        have hx1 := hx.same S1
        have hy1 := hy.same S1
        refine ⟨_, rfl, _, _, _, true, rfl, hy1, (show kitB "tuple" _ = some _ from by decide +kernel), _, rfl, _, _, _, true, rfl, hx1, (show kitB "tuple" _ = some _ from by decide +kernel), rfl, _, rfl, ?_⟩
        refine ite2 (fun h => absurd h (by decide)) (fun _ => ?_)
        refine ⟨_, rfl, sizeOf (by simp), fun t2 ht2 => ⟨_, _, _, _, _, true, false, rfl, upd_same, (hx1.same ((Same.refl _).upd_new ht2)), (show kitB "tuple" _ = some _ from by decide +kernel), (show kitB "tuple" _ = some _ from by decide +kernel), _, rfl, ?_⟩⟩
        refine ite2 (fun h => absurd h (by decide)) (fun _ => ?_)
        have S2 := S1.upd_new ht2 (o := .tup [.ty "tuple", .ty "list"])
        have e1 := ha1.length
        have e2 := ha2.length
        refine ⟨_, rfl, p, xs, rfl, .inr (SqT.same S2 hs1), _, rfl, q, ys, rfl, .inr (SqT.same S2 hs2), rfl, _, rfl, ?_⟩
        refine ite2 (fun h => absurd h (by simp [e1, e2])) (fun _ => ?_)
        have hnd' : nodesAll ds + 1 ≤ 1000000 := hnd
        have hln := nodes_len ds
        refine ⟨_, rfl, q, ys, rfl, .inr (SqT.same S2 hs2), _, rfl, by omega, by omega, fun D hD => ?_⟩
        refine lc_same walk_range hD (fun i H' acc => acc = []) rfl (fun _ _ => trivial) (fun i x H1 H2 acc hi s3 hacc e hy3 => ?_) (fun H1 acc s3 hacc e => ?_)
        · subst e
          obtain ⟨rfl, rfl⟩ := hy3
          have hi2 : i < ys.length := by simpa using hi
          have hi1 : i < xs.length := by omega
          have S3 := S2.trans s3
          obtain ⟨di, hdi, hdy⟩ := ha2.get (List.getElem?_eq_getElem hi2)
          obtain ⟨di', hdi', hdx⟩ := ha1.get (List.getElem?_eq_getElem hi1)
          rw [hdi] at hdi'
          cases hdi'
          have hdep := depth_get hdi
          have hd' : PyData.depthAll ds + 1 < n + 1 := hd
          refine ⟨rfl, ?_⟩
          refine ⟨_, rfl, _, rfl, .inr <| .inl ⟨p, xs, _, _, rfl, rfl, SqT.same S3 hs1, (by rw [Int.zero_add]; exact atI_nat (List.getElem?_eq_getElem hi1)), ?_⟩⟩
          refine ⟨_, rfl, _, rfl, .inr <| .inl ⟨q, ys, _, _, rfl, rfl, SqT.same S3 hs2, (by rw [Int.zero_add]; exact atI_nat (List.getElem?_eq_getElem hi2)), ?_⟩⟩
          refine ⟨_, _, di, rfl, hdx.same S3, hdy.same S3, by omega, Nat.le_trans (nodes_get hdi) (Nat.le_trans (Nat.le_succ _) hnd), fun H3 s5 => ⟨_, rfl, ?_⟩⟩
          refine iteF ?_
          exact ⟨s3.trans s5, _, s5 _ _ hacc, rfl⟩
        · subst e
          refine ⟨sizeOf (by simp), fun z hz => ⟨_, _, _, rfl, rfl, .of (keepN hacc hz), .of upd_same, ?_⟩⟩
          exact k _ ((S2.trans s3).upd_new hz)
      | dict _ => cases hx

end
end B80

set_option autoImplicit true
set_option Elab.async false
set_option linter.all false
set_option maxRecDepth 100000
set_option maxHeartbeats 8000000
namespace B80
open PySem L2
/-! ### images as lists of lists of figures -/
def blkD (b : List Nat) : PyData := .tuple (b.map fun n => .int (n : Nat))
def imD (im : List (List Nat)) : PyData := .tuple (im.map blkD)
def blkOk (b : List Nat) : Bool := decide (b.length ≤ 64) && b.all (fun n => decide (n ≤ 65535)) && (b.isEmpty || decide (b.getLast? ≠ some 0))
def imOk (im : List (List Nat)) : Bool := decide (16 ≤ im.length) && decide (im.length ≤ 96) && im.all blkOk
def spFrom (K : PySem.W.Frag) : Sp := fun vs H Q _ => ∃ (v lo hi : Int), vs = [.int v, .int lo, .int hi] ∧ ∀ H', Same H H' → Q (.bl (decide (lo ≤ v) && decide (v ≤ hi))) H'
def spIsTuple (K : PySem.W.Frag) : Sp := fun vs H Q _ => ∃ (x : V) (d : PyData) (lo hi : Int), vs = [x, .int lo, .int hi] ∧ Dp K H x d ∧
  ((∀ ds, d ≠ .tuple ds) → Q (.bl false) H) ∧ (∀ ds, d = .tuple ds → Q (.bl (decide (lo ≤ ds.length) && decide ((ds.length : Int) ≤ hi))) H)
def spFigure : Sp := fun vs H Q _ => ∃ (v : Nat), vs = [.int v] ∧ ∀ H', Same H H' → Q (.bl (decide (v ≤ 65535))) H'
section
variable {P : Program} {w : World} {K : PySem.W.Frag} {mg : Str → Option Value} {base : Heap} {a : Nat → Addr} {fd : Nat → FuncData}
theorem ok_is_from (T : Txt K mg a fd) : FnOk P w K mg base CX0 1 (a 0) (fd 0) ["value", "low", "high"] (spFrom K) := by
  refine T.F_is_from.ok sc_is_from (fun vs H Q E h => ?_) (fun cdv A outer s H vs Q E hr h => ?_)
  · obtain ⟨_, _, _, rfl, _⟩ := h; rfl
  · obtain ⟨v, lo, hi, rfl, k⟩ := h
    refine ⟨_, pss_one (ps_ret (pe_and (pe_callB call_isiD (by rfl) T.n_isinstance (by decide +kernel) (pa_cons (pv 0) (pa_cons (pe_bltn rfl T.n_int (by decide +kernel) (show RelV (.ty "int") _ from rfl)) pa_nil))) (pe_and (pe_not (pe_callB call_isiD (by rfl) T.n_isinstance (by decide +kernel) (pa_cons (pv 0) (pa_cons (pe_bltn rfl T.n_bool (by decide +kernel) (show RelV (.ty "bool") _ from rfl)) pa_nil)))) (pe_one (pe_chain op_le op_le (pv 1) (pv 0) (pv 2)))))), ?_⟩
    have hv : Dp K H (.int v) (.int v) := .int v
    refine ⟨_, rfl, _, _, _, true, rfl, hv, (show kitB "int" _ = some _ from by decide +kernel), _, rfl, _, rfl, _, _, _, false, rfl, hv, (show kitB "int" _ = some _ from by decide +kernel), _, rfl, _, rfl, _, rfl, _, rfl, _, _, rfl, rfl, _, rfl, ?_⟩
    have kk := k H (Same.refl H)
    refine ite2 (fun h => ?_) (fun h => ?_)
    · refine ⟨_, rfl, _, _, rfl, rfl, ?_⟩
      rw [h, Bool.true_and] at kk
      exact kk
    · rw [Bool.eq_false_iff.mpr h, Bool.false_and] at kk
      exact kk
theorem ok_is_tuple (T : Txt K mg a fd) : FnOk P w K mg base CX0 1 (a 1) (fd 1) ["value", "low", "high"] (spIsTuple K) := by
  refine T.F_is_tuple.ok sc_is_tuple (fun vs H Q E h => ?_) (fun cdv A outer s H vs Q E hr h => ?_)
  · obtain ⟨_, _, _, _, rfl, _⟩ := h; rfl
  · obtain ⟨x, d, lo, hi, rfl, hd, k1, k2⟩ := h
    refine ⟨_, pss_one (ps_ret (pe_and (pe_callB call_isiD (by rfl) T.n_isinstance (by decide +kernel) (pa_cons (pv 0) (pa_cons (pe_bltn rfl T.n_tuple (by decide +kernel) (show RelV (.ty "tuple") _ from rfl)) pa_nil))) (pe_one (pe_chain op_le op_le (pv 1) (pe_callB call_len_seq (by rfl) T.n_len PySem.boot_len (pa_cons (pv 0) pa_nil)) (pv 2))))), ?_⟩
    cases d with
    | none =>
      refine ⟨_, rfl, _, _, _, false, rfl, hd, (show kitB "NoneType" _ = some _ from by decide +kernel), _, rfl, ?_⟩
      exact k1 (by intro ds e; cases e)
    | bool _ =>
      refine ⟨_, rfl, _, _, _, false, rfl, hd, (show kitB "bool" _ = some _ from by decide +kernel), _, rfl, ?_⟩
      exact k1 (by intro ds e; cases e)
    | int _ =>
      refine ⟨_, rfl, _, _, _, false, rfl, hd, (show kitB "int" _ = some _ from by decide +kernel), _, rfl, ?_⟩
      exact k1 (by intro ds e; cases e)
    | str _ =>
      refine ⟨_, rfl, _, _, _, false, rfl, hd, (show kitB "str" _ = some _ from by decide +kernel), _, rfl, ?_⟩
      exact k1 (by intro ds e; cases e)
    | list _ =>
      refine ⟨_, rfl, _, _, _, false, rfl, hd, (show kitB "list" _ = some _ from by decide +kernel), _, rfl, ?_⟩
      exact k1 (by intro ds e; cases e)
    | dict _ => cases hd
    | tuple ds =>
      have hd0 := hd
      cases hd0 with
      | @tup p xs _ hs ha =>
      have e1 := ha.length
      refine ⟨_, rfl, _, _, _, true, rfl, hd, (show kitB "tuple" _ = some _ from by decide +kernel), _, rfl, _, rfl, _, rfl, p, xs, rfl, .inr hs, _, _, rfl, rfl, _, rfl, ?_⟩
      have kk := k2 ds rfl
      rw [← e1] at kk
      refine ite2 (fun h => ?_) (fun h => ?_)
      · refine ⟨_, rfl, _, _, rfl, rfl, ?_⟩
        rw [h, Bool.true_and] at kk
        exact kk
      · rw [Bool.eq_false_iff.mpr h, Bool.false_and] at kk
        exact kk
theorem ok_is_figure (T : Txt K mg a fd) : FnOk P w K mg base CX0 2 (a 2) (fd 2) ["value"] spFigure := by
  have G_is_from := ok_is_from (P := P) (w := w) (base := base) T
  refine T.F_is_figure.ok sc_is_figure (fun vs H Q E h => ?_) (fun cdv A outer s H vs Q E hr h => ?_)
  · obtain ⟨_, rfl, _⟩ := h; rfl
  · obtain ⟨v, rfl, k⟩ := h
    refine ⟨_, pss_one (ps_ret (pe_call G_is_from (hr.mono (by first | decide | omega)) rfl T.m_is_from T.F_is_from.kp T.b_is_from .nil pass0 (pa_cons (pv 0) (pa_cons pe_int (pa_cons (pe_glob (v := .int 65535) rfl T.g_MOST_FIGURE.choose_spec ⟨_, rfl⟩) pa_nil))))), ?_⟩
    refine ⟨_, rfl, v, 0, 65535, rfl, fun H' s => ?_⟩
    have := k H' s
    rw [show (decide ((0 : Int) ≤ v) && decide ((v : Int) ≤ 65535)) = decide (v ≤ 65535) by rw [decide_eq_true (by omega : (0 : Int) ≤ v), Bool.true_and]; exact decide_eq_decide.mpr (by omega)]
    exact this
def spBlock (K : PySem.W.Frag) : Sp := fun vs H Q _ => ∃ (x : V) (b : List Nat), vs = [x] ∧ Dp K H x (blkD b) ∧ b.length ≤ 100000 ∧ ∀ H', Same H H' → Q (.bl (blkOk b)) H'
theorem ok_is_block (T : Txt K mg a fd) : FnOk P w K mg base CX0 3 (a 3) (fd 3) ["value"] (spBlock K) := by
  have G_is_tuple := ok_is_tuple (P := P) (w := w) (base := base) T
  have G_is_figure := ok_is_figure (P := P) (w := w) (base := base) T
  refine T.F_is_block.ok sc_is_block (fun vs H Q E h => ?_) (fun cdv A outer s H vs Q E hr h => ?_)
  · obtain ⟨_, _, rfl, _⟩ := h; rfl
  · obtain ⟨x, b, rfl, hd, hl, k⟩ := h
    refine ⟨_, pss_cons (ps_if (pt_mono (PW.pt (pw_or (pt_not (pt_val (pe_call G_is_tuple (hr.mono (by first | decide | omega)) rfl T.m_is_tuple T.F_is_tuple.kp T.b_is_tuple .nil pass0 (pa_cons (pv 0) (pa_cons pe_int (pa_cons (pe_glob (v := .int 64) rfl T.g_MOST_IN_BLOCK.choose_spec ⟨_, rfl⟩) pa_nil)))))) (pw_or1 (pt_not (pt_val (pe_callB (cr_all rfl) (by rfl) T.n_all (by decide +kernel) (pa_cons (pe_lc (own := [("figure", 1)]) (g := gName 1) (tt := tYes) (by rfl) sc_is_block.nd (pi_tup (pv 0)) (blkOk_by (own := [("figure", 1)]) (N := N_is_block) (sc := defScope s_is_block) (by decide +kernel)) (fun _ _ _ _ _ => pg_name (i := 1) sc_is_block.nd rfl (Or.inl rfl)) (fun _ _ _ _ _ => pts_nil) (fun _ _ _ _ _ => (pe_call G_is_figure (hr.mono (by first | decide | omega)) rfl T.m_is_figure T.F_is_figure.kp T.b_is_figure .nil pass0 (pa_cons (pv 1) pa_nil)))) pa_nil)))))))) (pss_one (ps_ret pe_bl)) pss_nil)
    (pss_one (ps_ret (pe_or (pe_cmpR (op_eqNilT hr.units0) (pv 0) (pe_tup pa_nil) (nomark _)) (pe_one (pe_cmpR op_ne (pe_ix (show IxR _ (rIxT K) from ix_tup) (pv 0) (pe_un un_neg pe_int) (fun _ _ => rfl)) pe_int (nomark _)))))), ?_⟩
    have hd0 := hd
    cases hd0 with
    | @tup p xs _ hs ha =>
    have ex := dp_nats_inv ha
    subst ex
    refine ⟨fun c H' => c = !(decide (b.length ≤ 64) && b.all (fun n => decide (n ≤ 65535))) ∧ Same H H', ?_, fun c H1 ⟨hc, S1⟩ => ?_⟩
    · refine ⟨_, rfl, .ref p, blkD b, 0, 64, rfl, hd, (fun h => absurd rfl (h _)), fun ds e => ⟨_, rfl, ?_⟩⟩
      injection e with e
      subst e
      rw [List.length_map]
      have e2 : (decide ((0 : Int) ≤ b.length) && decide ((b.length : Int) ≤ 64)) = decide (b.length ≤ 64) := by
        rw [decide_eq_true (by omega : (0 : Int) ≤ b.length), Bool.true_and]
        exact decide_eq_decide.mpr (by omega)
      rw [e2]
      refine ite2 (fun h => ?_) (fun h => ?_)
      · have h' : decide (b.length ≤ 64) = false := by simpa using h
        exact ⟨by rw [h', Bool.false_and]; rfl, Same.refl H⟩
      · have h' : decide (b.length ≤ 64) = true := by simpa using h
        refine ⟨_, rfl, p, rfl, ⟨_, hs⟩, fun D hD => ?_⟩
        refine lc_same (walk_mapT (f := fun n : Nat => V.int (n : Nat)) (xs := b)) hD (fun j H' acc => acc = ((b.take j).map fun n => decide (n ≤ 65535)).map V.bl) rfl (fun H' s3 => SqT.same s3 hs) (fun j x H2 H3 acc hj s3 hacc e hy => ?_) (fun H2 acc s3 hacc e => ?_)
        · subst e
          obtain ⟨rfl, z, hz, rfl⟩ := hy
          refine ⟨rfl, _, rfl, z, rfl, fun H4 s4 => ?_⟩
          refine ⟨_, s4 _ _ hacc, sizeOfL (by rw [List.length_map, List.length_map, List.length_take]; omega), (s3.trans s4).own hD, _, upd_same, ?_⟩
          rw [takeNext hz, List.map_append, List.map_append]
          rfl
        · refine ⟨D, b.map fun n => decide (n ≤ 65535), rfl, .of (by rw [hacc, e, List.take_length]), _, rfl, ?_, s3⟩
          rw [h', Bool.true_and]
          congr 1
          induction b with
          | nil => rfl
          | cons z l ih => simp
    · subst hc
      have kk := k H1 S1
      cases hAB : (decide (b.length ≤ 64) && b.all (fun n => decide (n ≤ 65535))) with
      | false =>
        refine iteT ?_
        have : blkOk b = false := by unfold blkOk; rw [hAB, Bool.false_and]
        rw [this] at kk
        exact kk
      | true =>
        refine iteF ?_
        have hbo : blkOk b = (b.isEmpty || decide (b.getLast? ≠ some 0)) := by unfold blkOk; rw [hAB, Bool.true_and]
        rw [hbo] at kk
        have hs1 := SqT.same S1 hs
        refine ⟨_, rfl, sizeOf (by simp), fun t1 ht1 => ⟨_, _, _, rfl, rfl, SqT.same ((Same.refl H1).upd_new ht1) hs1, .of upd_same, _, rfl, ?_⟩⟩
        have kk2 := k _ (S1.upd_new ht1 (o := .tup []))
        rw [hbo] at kk2
        rcases b.eq_nil_or_concat with rfl | ⟨init, v, rfl⟩
        · exact kk2
        · rw [List.concat_eq_append] at *
          have hne : ((init ++ [v]).map fun n : Nat => V.int (n : Nat)).isEmpty = false := by simp
          rw [hne]
          refine iteF ?_
          have hat : atI ((init ++ [v]).map fun n : Nat => V.int (n : Nat)) (-1) = some (V.int (v : Nat)) := by rw [List.map_append]; exact atI_last _ _
          refine ⟨_, rfl, _, rfl, _, _, _, _, rfl, rfl, SqT.same ((Same.refl H1).upd_new ht1) hs1, hat, rfl, ?_⟩
          have e3 : ((init ++ [v]).isEmpty || decide ((init ++ [v]).getLast? ≠ some 0)) = !decide (V.int ((v : Nat) : Int) = V.int 0) := by
            rw [List.getLast?_concat]
            by_cases h0 : v = 0
            · subst h0; simp
            · have : ¬ (V.int ((v : Nat) : Int) = V.int 0) := by intro e; injection e with e; omega
              simp [h0, this]
          rw [e3] at kk2
          exact kk2
def spAre (K : PySem.W.Frag) : Sp := fun vs H Q _ => ∃ x : V, vs = [x] ∧ ((∃ d, Dp K H x d ∧ (∀ ds, d ≠ .tuple ds) ∧ ∀ H', Same H H' → Q (.bl false) H') ∨
  ∃ im, Dp K H x (imD im) ∧ im.length ≤ 100000 ∧ (∀ b ∈ im, b.length ≤ 100000) ∧ ∀ H', Same H H' → Q (.bl (imOk im)) H')
theorem ok_are_blocks (T : Txt K mg a fd) : FnOk P w K mg base CX0 4 (a 4) (fd 4) ["value"] (spAre K) := by
  have G_is_tuple := ok_is_tuple (P := P) (w := w) (base := base) T
  have G_is_block := ok_is_block (P := P) (w := w) (base := base) T
  refine T.F_are_blocks.ok sc_are_blocks (fun vs H Q E h => ?_) (fun cdv A outer s H vs Q E hr h => ?_)
  · obtain ⟨_, rfl, _⟩ := h; rfl
  · obtain ⟨x, rfl, h⟩ := h
    refine ⟨_, pss_one (ps_ret (pe_and (pe_call G_is_tuple (hr.mono (by first | decide | omega)) rfl T.m_is_tuple T.F_is_tuple.kp T.b_is_tuple .nil pass0 (pa_cons (pv 0) (pa_cons (pe_glob (v := .int 16) rfl T.g_LEAST_BLOCKS.choose_spec ⟨_, rfl⟩) (pa_cons (pe_glob (v := .int 96) rfl T.g_MOST_BLOCKS.choose_spec ⟨_, rfl⟩) pa_nil)))) (pe_one (pe_callB (cr_all rfl) (by rfl) T.n_all (by decide +kernel) (pa_cons (pe_lc (own := [("block", 1)]) (g := gName 1) (tt := tYes) (by rfl) sc_are_blocks.nd (pi_tup (pv 0)) (blkOk_by (own := [("block", 1)]) (N := N_are_blocks) (sc := defScope s_are_blocks) (by decide +kernel)) (fun _ _ _ _ _ => pg_name (i := 1) sc_are_blocks.nd rfl (Or.inl rfl)) (fun _ _ _ _ _ => pts_nil) (fun _ _ _ _ _ => (pe_call G_is_block (hr.mono (by first | decide | omega)) rfl T.m_is_block T.F_is_block.kp T.b_is_block .nil pass0 (pa_cons (pv 1) pa_nil)))) pa_nil))))), ?_⟩
    rcases h with ⟨d, hd, hn, k⟩ | ⟨im, hd, hl, hbl, k⟩
    · exact ⟨_, rfl, x, d, 16, 96, rfl, hd, fun _ => ⟨_, rfl, k _ (Same.refl H)⟩, fun ds e => absurd e (hn ds)⟩
    · have hd0 := hd
      cases hd0 with
      | @tup p xs _ hs ha =>
      have e0 := ha.length
      rw [List.length_map] at e0
      refine ⟨_, rfl, .ref p, imD im, 16, 96, rfl, hd, (fun h => absurd rfl (h _)), fun ds e => ⟨_, rfl, ?_⟩⟩
      injection e with e
      subst e
      rw [List.length_map]
      have e2 : (decide ((16 : Int) ≤ im.length) && decide ((im.length : Int) ≤ 96)) = (decide (16 ≤ im.length) && decide (im.length ≤ 96)) := by
        congr 1
        · exact decide_eq_decide.mpr (by omega)
        · exact decide_eq_decide.mpr (by omega)
      rw [e2]
      have kk := k H (Same.refl H)
      refine ite2 (fun h => ?_) (fun h => ?_)
      · refine ⟨_, rfl, p, rfl, ⟨_, hs⟩, fun D hD => ?_⟩
        refine lc_same (walk_tup (xs := xs)) hD (fun j H' acc => acc = ((im.take j).map blkOk).map V.bl) rfl (fun H' s3 => SqT.same s3 hs) (fun j x H2 H3 acc hj s3 hacc e hy => ?_) (fun H2 acc s3 hacc e => ?_)
        · subst e
          obtain ⟨rfl, hx⟩ := hy
          obtain ⟨db, hdb, hdx⟩ := ha.get hx
          rw [List.getElem?_map] at hdb
          obtain ⟨b, hb, rfl⟩ := Option.map_eq_some_iff.mp hdb
          refine ⟨rfl, _, rfl, x, b, rfl, hdx.same s3, hbl b (List.mem_of_getElem? hb), fun H4 s4 => ?_⟩
          refine ⟨_, s4 _ _ hacc, sizeOfL (by rw [List.length_map, List.length_map, List.length_take]; omega), (s3.trans s4).own hD, _, upd_same, ?_⟩
          rw [takeNext hb, List.map_append, List.map_append]
          rfl
        · refine ⟨D, im.map blkOk, rfl, .of (by rw [hacc, e, e0, List.take_length]), ?_⟩
          have kk2 := k H2 s3
          have e3 : imOk im = (im.map blkOk).all id := by
            unfold imOk
            rw [h, Bool.true_and, List.all_map]
            rfl
          rw [e3] at kk2
          exact kk2
      · have e3 : imOk im = false := by
          unfold imOk
          rw [Bool.eq_false_iff.mpr h, Bool.false_and]
        rw [e3] at kk
        exact kk
end
end B80

set_option autoImplicit true
set_option Elab.async false
set_option linter.all false
set_option maxRecDepth 100000
set_option maxHeartbeats 8000000
namespace B80
open PySem L2
/-- what is told of InvalidImage, a class without a maker of its own -/
structure Exc_InvalidImage (K : PySem.W.Frag) (mg : Str → Option Value) (C : Addr) : Prop where
  q : PySem.W.excIn K C [.type "ValueError", .type "Exception", .type "BaseException", .type "object"] "ValueError.__new__" = true
  gC : mg "InvalidImage" = some (.ref C)
  kC : PySem.W.keepIn K (.ref C) = true
  bC : PySem.W.subIn K (.ref C) (.type "BaseException") = some true
  tC : PySem.W.typeIn K (.ref C) = some (.type "type")
  te : PySem.W.exmOne K (.ref C) (.ref C) = some true
def spNeed (K : PySem.W.Frag) (C : Addr) : Sp := fun vs H Q E => ∃ x : V, vs = [x] ∧ ((∃ d, Dp K H x d ∧ (∀ ds, d ≠ .tuple ds) ∧ ∀ H', Same H H' → E (.ref C) none H') ∨
  ∃ im, Dp K H x (imD im) ∧ im.length ≤ 100000 ∧ (∀ b ∈ im, b.length ≤ 100000) ∧ (imOk im = true → ∀ H', Same H H' → Q .non H') ∧ (imOk im = false → ∀ H', Same H H' → E (.ref C) none H'))
def spFig (K : PySem.W.Frag) : Sp := fun vs H Q _ => ∃ (x : V) (b : List Nat) (i : Nat), vs = [x, .int i] ∧ Dp K H x (blkD b) ∧ Q (.int (b.getD i 0 : Nat)) H
section
variable {P : Program} {w : World} {K : PySem.W.Frag} {mg : Str → Option Value} {base : Heap} {a : Nat → Addr} {fd : Nat → FuncData} {C : Addr}
theorem okx_need_blocks (T : Txt K mg a fd) (X_InvalidImage : Exc_InvalidImage K mg C) : FnOk P w K mg base (L2.CX P w) 5 (a 5) (fd 5) ["image"] (spNeed K C) := by
  have G_are_blocks := ok_are_blocks (P := P) (w := w) (base := base) T
  refine T.F_need_blocks.okX sc_need_blocks (fun vs H Q E h => ?_) (fun cdv A outer s H vs Q E hr h => ?_)
  · obtain ⟨_, rfl, _⟩ := h; rfl
  · obtain ⟨x, rfl, h⟩ := h
    refine ⟨_, pss_one (ps_if (pt_not (pt_val (pe_call G_are_blocks (hr.mono (by first | decide | omega)) rfl T.m_are_blocks T.F_are_blocks.kp T.b_are_blocks .nil pass0 (pa_cons (pv 0) pa_nil)))) (pss_one (ps_raise rfl (takes_of rfl rfl rfl rfl) (pmk_own PySem.F.excBase_ValueError X_InvalidImage.q X_InvalidImage.gC X_InvalidImage.kC (raises_own X_InvalidImage.bC X_InvalidImage.tC) rfl))) pss_nil), ?_⟩
    rcases h with ⟨d, hd, hn, k⟩ | ⟨im, hd, hl, hbl, k1, k2⟩
    · refine ⟨_, rfl, x, rfl, .inl ⟨d, hd, hn, fun H' S => ⟨_, rfl, ?_⟩⟩⟩
      refine iteT ?_
      exact k H' S
    · refine ⟨_, rfl, x, rfl, .inr ⟨im, hd, hl, hbl, fun H' S => ⟨_, rfl, ?_⟩⟩⟩
      cases h : imOk im with
      | true =>
        refine iteF ?_
        exact k1 h H' S
      | false =>
        refine iteT ?_
        exact k2 h H' S
theorem ok_figure_at (T : Txt K mg a fd) : FnOk P w K mg base CX0 1 (a 6) (fd 6) ["block", "index"] (spFig K) := by
  refine T.F_figure_at.ok sc_figure_at (fun vs H Q E h => ?_) (fun cdv A outer s H vs Q E hr h => ?_)
  · obtain ⟨_, _, _, rfl, _⟩ := h; rfl
  · obtain ⟨x, b, i, rfl, hd, k⟩ := h
    refine ⟨_, pss_one (ps_ret (pe_mono (pe_ifExp (pt_cmpR op_lt (pv 1) (pe_callB call_len_seq (by rfl) T.n_len PySem.boot_len (pa_cons (pv 0) pa_nil)) (nomark _)) (pe_ix (show IxR _ (rIxT K) from ix_tup) (pv 0) (pv 1) (fun _ _ => rfl)) pe_int))), ?_⟩
    cases hd with
    | @tup p xs _ hs ha =>
    have ex := dp_nats_inv ha
    subst ex
    refine ⟨fun x H' => x = .int (b.getD i 0 : Nat) ∧ H' = H, ?_, fun x H' ⟨e1, e2⟩ => ?_⟩
    · refine ⟨_, rfl, _, rfl, _, _, rfl, .inr hs, _, _, rfl, rfl, _, rfl, ?_⟩
      refine ite2 (fun h => ?_) (fun h => ?_)
      · have hi : i < b.length := by simpa using h
        refine ⟨_, rfl, _, rfl, _, _, _, _, rfl, rfl, hs, atI_nat (j := i) (v := V.int (b[i] : Nat)) (by rw [List.getElem?_map, List.getElem?_eq_getElem hi]; rfl), ?_, rfl⟩
        rw [List.getD_eq_getElem?_getD, List.getElem?_eq_getElem hi]; rfl
      · have hi : ¬ i < b.length := by simpa using h
        refine ⟨?_, rfl⟩
        rw [List.getD_eq_getElem?_getD, List.getElem?_eq_none (by omega)]; rfl
    · subst e1
      rw [e2]
      exact k
end
end B80

set_option autoImplicit true
set_option Elab.async false
set_option linter.all false
set_option maxRecDepth 100000
set_option maxHeartbeats 8000000
namespace B80
open PySem L2
theorem notT {b : Bool} (h : (!b) = true) : b = false := by
  cases b with
  | false => rfl
  | true => exact absurd h (by decide)
theorem notF {b : Bool} (h : ¬ (!b) = true) : b = true := by
  cases b with
  | true => rfl
  | false => exact absurd rfl h
theorem imAt {K : PySem.W.Frag} {H : Hp} {x : V} {im : List (List Nat)} (h : Dp K H x (imD im)) :
    ∃ p xs, x = .ref p ∧ SqT K H p xs ∧ xs.length = im.length ∧ ∀ (i : Nat) (b : List Nat), im[i]? = some b → ∃ q, xs[i]? = some (.ref q) ∧ SqT K H q (b.map fun n => V.int (n : Nat)) := by
  cases h with
  | @tup p xs _ hs ha =>
    have e0 := ha.length
    rw [List.length_map] at e0
    refine ⟨p, xs, rfl, hs, e0, fun i b hb => ?_⟩
    have hi : i < xs.length := by
      have := (List.getElem?_eq_some_iff.mp hb).1
      omega
    obtain ⟨d, hd, hx⟩ := ha.get (List.getElem?_eq_getElem hi)
    rw [List.getElem?_map, hb] at hd
    cases hd
    generalize hv : xs[i] = v at hx
    cases hx with
    | @tup q ys _ hq hb2 =>
      have := dp_nats_inv hb2
      subst this
      exact ⟨q, by rw [List.getElem?_eq_getElem hi, hv], hq⟩
def headOk (im : List (List Nat)) : Bool := match im with
  | [m, j, h] :: _ => decide (m = im.length) && (decide (4 ≤ j) && decide (j ≤ 40)) && (decide (1 ≤ h) && decide (h ≤ 60000)) && decide (6 + j < m)
  | _ => false
def spHasHead (K : PySem.W.Frag) : Sp := fun vs H Q _ => ∃ (x : V) (b : List Nat) (r : List (List Nat)), vs = [x] ∧ Dp K H x (imD (b :: r)) ∧ ∀ H', Same H H' → Q (.bl (headOk (b :: r))) H'
def spFirst (K : PySem.W.Frag) : Sp := fun vs H Q _ => ∃ (x : V) (m j h : Nat) (r : List (List Nat)), vs = [x] ∧ Dp K H x (imD ([m, j, h] :: r)) ∧ Q (.int (6 + j : Nat)) H
def spHome (K : PySem.W.Frag) : Sp := fun vs H Q _ => ∃ (x : V) (m j h : Nat) (r : List (List Nat)), vs = [x] ∧ Dp K H x (imD ([m, j, h] :: r)) ∧ Q (.int (h : Nat)) H
def spJournal (K : PySem.W.Frag) : Sp := fun vs H Q _ => ∃ (x : V) (m j h : Nat) (r : List (List Nat)), vs = [x] ∧ Dp K H x (imD ([m, j, h] :: r)) ∧ j ≤ 1000 ∧
  ∀ H' p, Same H H' → H p = none → H' p = some (.lst ((List.range j).map fun i => V.int (6 + i : Nat))) → Q (.ref p) H'
def spLeaves : Sp := fun vs H Q _ => ∃ m j : Nat, vs = [.int m, .int j] ∧ Q (.bl (decide (6 + j < m))) H
section
variable {P : Program} {w : World} {K : PySem.W.Frag} {mg : Str → Option Value} {base : Heap} {a : Nat → Addr} {fd : Nat → FuncData} {C : Addr}
theorem ok_has_leaves (T : Txt K mg a fd) : FnOk P w K mg base CX0 1 (a 8) (fd 8) ["many", "journal"] spLeaves := by
  refine T.F_has_leaves.ok sc_has_leaves (fun vs H Q E h => ?_) (fun cdv A outer s H vs Q E hr h => ?_)
  · obtain ⟨_, _, rfl, _⟩ := h; rfl
  · obtain ⟨m, j, rfl, k⟩ := h
    refine ⟨_, pss_one (ps_ret (pe_cmpR op_lt (pe_op op_add (pe_glob (v := .int 6) rfl T.g_FIRST_JOURNAL.choose_spec ⟨_, rfl⟩) (pv 1)) (pv 0) (nomark _))), ?_⟩
    refine ⟨_, rfl, _, _, rfl, rfl, _, rfl, _, _, rfl, rfl, ?_⟩
    have e : decide ((6 : Int) + (j : Nat) < (m : Nat)) = decide (6 + j < m) := decide_eq_decide.mpr (by omega)
    show Q (.bl (decide ((6 : Int) + (j : Nat) < (m : Nat)))) H
    rw [e]
    exact k
theorem ok_first_leaf (T : Txt K mg a fd) : FnOk P w K mg base CX0 1 (a 12) (fd 12) ["image"] (spFirst K) := by
  refine T.F_first_leaf.ok sc_first_leaf (fun vs H Q E h => ?_) (fun cdv A outer s H vs Q E hr h => ?_)
  · obtain ⟨_, _, _, _, _, rfl, _⟩ := h; rfl
  · obtain ⟨x, m, j, h, r, rfl, hd, k⟩ := h
    refine ⟨_, pss_one (ps_ret (pe_op op_add (pe_glob (v := .int 6) rfl T.g_FIRST_JOURNAL.choose_spec ⟨_, rfl⟩) (pe_ix (show IxR _ (rIxT K) from ix_tup) (pe_ix (show IxR _ (rIxT K) from ix_tup) (pv 0) pe_int (fun _ _ => rfl)) pe_int (fun _ _ => rfl)))), ?_⟩
    obtain ⟨p, xs, rfl, hs, hl, hi⟩ := imAt hd
    obtain ⟨q, hq, hb⟩ := hi 0 _ rfl
    refine ⟨_, rfl, _, _, _, _, rfl, rfl, hs, atI_nat (j := 0) hq, _, _, _, _, rfl, rfl, hb, atI_nat (j := 1) (v := V.int (j : Nat)) rfl, _, _, rfl, rfl, ?_⟩
    have e : (6 : Int) + (j : Nat) = ((6 + j : Nat) : Int) := by push_cast; rfl
    show Q (.int ((6 : Int) + (j : Nat))) H
    rw [e]
    exact k
theorem ok_home_of (T : Txt K mg a fd) : FnOk P w K mg base CX0 1 (a 13) (fd 13) ["image"] (spHome K) := by
  refine T.F_home_of.ok sc_home_of (fun vs H Q E h => ?_) (fun cdv A outer s H vs Q E hr h => ?_)
  · obtain ⟨_, _, _, _, _, rfl, _⟩ := h; rfl
  · obtain ⟨x, m, j, h, r, rfl, hd, k⟩ := h
    refine ⟨_, pss_one (ps_ret (pe_ix (show IxR _ (rIxT K) from ix_tup) (pe_ix (show IxR _ (rIxT K) from ix_tup) (pv 0) pe_int (fun _ _ => rfl)) pe_int (fun _ _ => rfl))), ?_⟩
    obtain ⟨p, xs, rfl, hs, hl, hi⟩ := imAt hd
    obtain ⟨q, hq, hb⟩ := hi 0 _ rfl
    exact ⟨_, rfl, _, _, _, _, rfl, rfl, hs, atI_nat (j := 0) hq, _, _, _, _, rfl, rfl, hb, atI_nat (j := 2) (v := V.int (h : Nat)) rfl, k⟩
theorem ok_journal_of (T : Txt K mg a fd) : FnOk P w K mg base CX0 1 (a 11) (fd 11) ["image"] (spJournal K) := by
  refine T.F_journal_of.ok sc_journal_of (fun vs H Q E h => ?_) (fun cdv A outer s H vs Q E hr h => ?_)
  · obtain ⟨_, _, _, _, _, rfl, _⟩ := h; rfl
  · obtain ⟨x, m, j, h, r, rfl, hd, hj, k⟩ := h
    refine ⟨_, pss_one (ps_ret (pe_listRg rfl (by rfl) T.n_list (prg_2 (by rfl) T.n_range (pe_glob (v := .int 6) rfl T.g_FIRST_JOURNAL.choose_spec ⟨_, rfl⟩) (pe_op op_add (pe_glob (v := .int 6) rfl T.g_FIRST_JOURNAL.choose_spec ⟨_, rfl⟩) (pe_ix (show IxR _ (rIxT K) from ix_tup) (pe_ix (show IxR _ (rIxT K) from ix_tup) (pv 0) pe_int (fun _ _ => rfl)) pe_int (fun _ _ => rfl)))))), ?_⟩
    obtain ⟨p, xs, rfl, hs, hl, hi⟩ := imAt hd
    obtain ⟨q, hq, hb⟩ := hi 0 _ rfl
    refine ⟨_, rfl, _, _, _, _, rfl, rfl, hs, atI_nat (j := 0) hq, _, _, _, _, rfl, rfl, hb, atI_nat (j := 1) (v := V.int (j : Nat)) rfl, _, _, rfl, rfl, _, _, rfl, rfl, RgOk.of_le (by decide) (by omega) (by decide) (by omega), fun t ht => ?_⟩
    refine k _ t ((Same.refl H).upd_new ht) ht ?_
    rw [upd_same]
    unfold rgV
    rw [show ((6 : Int) + (j : Nat) - 6).toNat = j by omega]
    refine congrArg (fun z => some (HO.lst z)) (List.map_congr_left fun i _ => ?_)
    push_cast
    rfl
theorem ok_has_head (T : Txt K mg a fd) : FnOk P w K mg base CX0 2 (a 9) (fd 9) ["image"] (spHasHead K) := by
  have G_is_from := ok_is_from (P := P) (w := w) (base := base) T
  have G_has_leaves := ok_has_leaves (P := P) (w := w) (base := base) T
  refine T.F_has_head.ok sc_has_head (fun vs H Q E h => ?_) (fun cdv A outer s H vs Q E hr h => ?_)
  · obtain ⟨_, _, _, rfl, _⟩ := h; rfl
  · obtain ⟨x, b, r, rfl, hd, k⟩ := h
    refine ⟨_, pss_cons (ps_if (pt_cmpR op_ne (pe_callB call_len_seq (by rfl) T.n_len PySem.boot_len (pa_cons (pe_ix (show IxR _ (rIxT K) from ix_tup) (pv 0) pe_int (fun _ _ => rfl)) pa_nil)) pe_int (nomark _)) (pss_one (ps_ret pe_bl)) pss_nil)
    (pss_cons (ps_asg (pe_ix (show IxR _ (rIxT K) from ix_tup) (pv 0) pe_int (fun _ _ => rfl)) (pg_tup rfl (pgs_cons (pg_name (i := 1) sc_has_head.nd rfl (Or.inl rfl)) (pgs_cons (pg_name (i := 2) sc_has_head.nd rfl (Or.inl rfl)) (pgs_cons (pg_name (i := 3) sc_has_head.nd rfl (Or.inl rfl)) pgs_nil)))))
    (pss_cons (ps_if (pt_mono (PW.pt (pw_or (pt_cmpR op_ne (pv 1) (pe_callB call_len_seq (by rfl) T.n_len PySem.boot_len (pa_cons (pv 0) pa_nil)) (nomark _)) (pw_or (pt_not (pt_val (pe_call G_is_from (hr.mono (by first | decide | omega)) rfl T.m_is_from T.F_is_from.kp T.b_is_from .nil pass0 (pa_cons (pv 2) (pa_cons (pe_glob (v := .int 4) rfl T.g_LEAST_JOURNAL.choose_spec ⟨_, rfl⟩) (pa_cons (pe_glob (v := .int 40) rfl T.g_MOST_JOURNAL.choose_spec ⟨_, rfl⟩) pa_nil)))))) (pw_or1 (pt_not (pt_val (pe_call G_is_from (hr.mono (by first | decide | omega)) rfl T.m_is_from T.F_is_from.kp T.b_is_from .nil pass0 (pa_cons (pv 3) (pa_cons pe_int (pa_cons (pe_glob (v := .int 60000) rfl T.g_MOST_HOME.choose_spec ⟨_, rfl⟩) pa_nil))))))))))) (pss_one (ps_ret pe_bl)) pss_nil)
    (pss_one (ps_ret (pe_call G_has_leaves (hr.mono (by first | decide | omega)) rfl T.m_has_leaves T.F_has_leaves.kp T.b_has_leaves .nil pass0 (pa_cons (pv 1) (pa_cons (pv 2) pa_nil))))))), ?_⟩
    obtain ⟨p, xs, rfl, hs, hl, hi⟩ := imAt hd
    obtain ⟨q, hq, hb⟩ := hi 0 _ rfl
    refine ⟨_, rfl, _, _, _, _, rfl, rfl, hs, atI_nat (j := 0) hq, _, _, rfl, .inr hb, rfl, _, rfl, ?_⟩
    have kk := k H (Same.refl H)
    rw [List.length_map]
    by_cases hl3 : b.length = 3
    · refine ite2 (fun h => absurd h (by simp [hl3])) (fun _ => ?_)
      obtain ⟨m, j, h, rfl⟩ : ∃ m j h, b = [m, j, h] := by
        match b, hl3 with
        | [m, j, h], _ => exact ⟨m, j, h, rfl⟩
      refine ⟨_, rfl, _, _, _, _, rfl, rfl, hs, atI_nat (j := 0) hq, _, _, rfl, hb, rfl, _, _, rfl, _, _, rfl, _, _, rfl, rfl, ?_⟩
      have hl' : xs.length = r.length + 1 := by simpa using hl
      refine ⟨fun c H' => c = !(decide (m = r.length + 1) && (decide (4 ≤ j) && decide (j ≤ 40)) && (decide (1 ≤ h) && decide (h ≤ 60000))) ∧ Same H H', ?_, fun c H1 ⟨hc, S1⟩ => ?_⟩
      · refine ⟨_, rfl, _, rfl, p, xs, rfl, .inr hs, rfl, _, rfl, ?_⟩
        have e1 : (!decide (V.int ((m : Nat) : Int) = V.int (xs.length : Nat))) = !decide (m = r.length + 1) := by
          congr 1
          refine decide_eq_decide.mpr ⟨fun e => ?_, fun e => ?_⟩
          · injection e with e; omega
          · rw [hl', e]
        rw [e1]
        refine ite2 (fun h1 => ?_) (fun h1 => ?_)
        · have : decide (m = r.length + 1) = false := by simpa using h1
          exact ⟨by rw [this]; rfl, Same.refl H⟩
        · have h1' : decide (m = r.length + 1) = true := by simpa using h1
          rw [h1', Bool.true_and]
          refine ⟨_, rfl, (j : Nat), 4, 40, rfl, fun H2 S2 => ⟨_, rfl, ?_⟩⟩
          have e2 : (decide ((4 : Int) ≤ (j : Nat)) && decide (((j : Nat) : Int) ≤ 40)) = (decide (4 ≤ j) && decide (j ≤ 40)) := by
            congr 1 <;> exact decide_eq_decide.mpr (by omega)
          rw [e2]
          refine ite2 (fun h2 => ?_) (fun h2 => ?_)
          · have h2' : (decide (4 ≤ j) && decide (j ≤ 40)) = false := notT h2
            exact ⟨by rw [h2']; rfl, S2⟩
          · have h2' : (decide (4 ≤ j) && decide (j ≤ 40)) = true := notF h2
            rw [h2', Bool.true_and]
            refine ⟨_, rfl, (h : Nat), 1, 60000, rfl, fun H3 S3 => ⟨_, rfl, ?_, S2.trans S3⟩⟩
            have e3 : (decide ((1 : Int) ≤ (h : Nat)) && decide (((h : Nat) : Int) ≤ 60000)) = (decide (1 ≤ h) && decide (h ≤ 60000)) := by
              congr 1 <;> exact decide_eq_decide.mpr (by omega)
            rw [e3]
      · have kk1 := k H1 S1
        have e4 : headOk ([m, j, h] :: r) = ((decide (m = r.length + 1) && (decide (4 ≤ j) && decide (j ≤ 40)) && (decide (1 ≤ h) && decide (h ≤ 60000))) && decide (6 + j < m)) := rfl
        rw [e4] at kk1
        subst hc
        cases hz : (decide (m = r.length + 1) && (decide (4 ≤ j) && decide (j ≤ 40)) && (decide (1 ≤ h) && decide (h ≤ 60000))) with
        | false =>
          refine iteT ?_
          rw [hz, Bool.false_and] at kk1
          exact kk1
        | true =>
          refine iteF ?_
          rw [hz, Bool.true_and] at kk1
          exact ⟨_, rfl, _, rfl, m, j, rfl, kk1⟩
    · refine ite2 (fun _ => ?_) (fun h => absurd (by simp; omega) h)
      have e4 : headOk (b :: r) = false := by
        match b, hl3 with
        | [], _ => rfl
        | [_], _ => rfl
        | [_, _], _ => rfl
        | [_, _, _], h => exact absurd rfl h
        | _ :: _ :: _ :: _ :: _, _ => rfl
      rw [e4] at kk
      exact kk
end
end B80

set_option autoImplicit true
set_option Elab.async false
set_option linter.all false
set_option maxRecDepth 100000
set_option maxHeartbeats 8000000
namespace B80
open PySem L2
def putB (b : List Nat) : Bool := decide (b.getD 0 0 = 2) && decide (b.length ≤ 63)
def endB (b : List Nat) : Bool := decide (b.getD 0 0 = 3) && decide (b.length ≤ 3)
def goB (n j at' : Nat) : Bool := (decide (1 ≤ at') && decide (at' < 6)) || (decide (6 + j ≤ at') && decide (at' < n))
def spBlkT (K : PySem.W.Frag) (f : List Nat → Bool) : Sp := fun vs H Q _ => ∃ (x : V) (b : List Nat), vs = [x] ∧ Dp K H x (blkD b) ∧ Q (.bl (f b)) H
def spGo (K : PySem.W.Frag) : Sp := fun vs H Q _ => ∃ (x : V) (m j h : Nat) (r : List (List Nat)) (i : Nat), vs = [x, .int i] ∧ Dp K H x (imD ([m, j, h] :: r)) ∧ Q (.bl (goB (r.length + 1) j i)) H
def spNeedHead (K : PySem.W.Frag) (C : Addr) : Sp := fun vs H Q E => ∃ (x : V) (b : List Nat) (r : List (List Nat)), vs = [x] ∧ Dp K H x (imD (b :: r)) ∧
  (headOk (b :: r) = true → ∀ H', Same H H' → Q .non H') ∧ (headOk (b :: r) = false → ∀ H', Same H H' → E (.ref C) none H')
def spWithHome (K : PySem.W.Frag) : Sp := fun vs H Q _ => ∃ (x : V) (m j h n : Nat) (r : List (List Nat)), vs = [x, .int n] ∧ Dp K H x (imD ([m, j, h] :: r)) ∧ r.length ≤ 1000 ∧
  ∀ H' y, Same H H' → Dp K H' y (imD ([m, j, n] :: r)) → Q y H'
section
variable {P : Program} {w : World} {K : PySem.W.Frag} {mg : Str → Option Value} {base : Heap} {a : Nat → Addr} {fd : Nat → FuncData} {C : Addr}
theorem blkAt {H : Hp} {x : V} {b : List Nat} (h : Dp K H x (blkD b)) : ∃ p, x = .ref p ∧ SqT K H p (b.map fun n => V.int (n : Nat)) := by
  cases h with
  | @tup p xs _ hs ha =>
    have := dp_nats_inv ha
    subst this
    exact ⟨p, rfl, hs⟩
theorem int_eq (m n : Nat) : decide (V.int ((m : Nat) : Int) = V.int (n : Nat)) = decide (m = n) := by
  refine decide_eq_decide.mpr ⟨fun e => ?_, fun e => by rw [e]⟩
  injection e with e
  omega
theorem okx_need_head (T : Txt K mg a fd) (X_InvalidImage : Exc_InvalidImage K mg C) : FnOk P w K mg base (L2.CX P w) 3 (a 10) (fd 10) ["image"] (spNeedHead K C) := by
  have G_has_head := ok_has_head (P := P) (w := w) (base := base) T
  refine T.F_need_head.okX sc_need_head (fun vs H Q E h => ?_) (fun cdv A outer s H vs Q E hr h => ?_)
  · obtain ⟨_, _, _, rfl, _⟩ := h; rfl
  · obtain ⟨x, b, r, rfl, hd, k1, k2⟩ := h
    refine ⟨_, pss_one (ps_if (pt_not (pt_val (pe_call G_has_head (hr.mono (by first | decide | omega)) rfl T.m_has_head T.F_has_head.kp T.b_has_head .nil pass0 (pa_cons (pv 0) pa_nil)))) (pss_one (ps_raise rfl (takes_of rfl rfl rfl rfl) (pmk_own PySem.F.excBase_ValueError X_InvalidImage.q X_InvalidImage.gC X_InvalidImage.kC (raises_own X_InvalidImage.bC X_InvalidImage.tC) rfl))) pss_nil), ?_⟩
    refine ⟨_, rfl, x, b, r, rfl, hd, fun H' S => ⟨_, rfl, ?_⟩⟩
    cases h : headOk (b :: r) with
    | true =>
      refine iteF ?_
      exact k1 h H' S
    | false =>
      refine iteT ?_
      exact k2 h H' S
theorem ok_is_put (T : Txt K mg a fd) : FnOk P w K mg base CX0 2 (a 15) (fd 15) ["block"] (spBlkT K putB) := by
  have G_figure_at := ok_figure_at (P := P) (w := w) (base := base) T
  refine T.F_is_put.ok sc_is_put (fun vs H Q E h => ?_) (fun cdv A outer s H vs Q E hr h => ?_)
  · obtain ⟨_, _, rfl, _⟩ := h; rfl
  · obtain ⟨x, b, rfl, hd, k⟩ := h
    refine ⟨_, pss_one (ps_ret (pe_and (pe_cmpR op_eq (pe_call G_figure_at (hr.mono (by first | decide | omega)) rfl T.m_figure_at T.F_figure_at.kp T.b_figure_at .nil pass0 (pa_cons (pv 0) (pa_cons pe_int pa_nil))) (pe_glob (v := .int 2) rfl T.g_PUT.choose_spec ⟨_, rfl⟩) (nomark _)) (pe_one (pe_cmpR op_le (pe_callB call_len_seq (by rfl) T.n_len PySem.boot_len (pa_cons (pv 0) pa_nil)) (pe_op op_add (pe_glob (v := .int 3) rfl T.g_IN_HEAD.choose_spec ⟨_, rfl⟩) (pe_glob (v := .int 60) rfl T.g_MOST_PUT.choose_spec ⟨_, rfl⟩)) (nomark _))))), ?_⟩
    obtain ⟨p, rfl, hs⟩ := blkAt hd
    refine ⟨_, rfl, _, b, 0, rfl, hd, rfl, _, rfl, ?_⟩
    unfold putB at k
    refine ite2 (fun h => ?_) (fun h => ?_)
    · have h' : decide (b.getD 0 0 = 2) = true := (int_eq _ 2).symm.trans h
      rw [h', Bool.true_and] at k
      refine ⟨_, rfl, _, _, rfl, .inr hs, _, _, rfl, rfl, _, _, rfl, rfl, ?_⟩
      rw [List.length_map]
      have e : decide (((b.length : Nat) : Int) ≤ 3 + 60) = decide (b.length ≤ 63) := decide_eq_decide.mpr (by omega)
      show Q (.bl (decide (((b.length : Nat) : Int) ≤ 3 + 60))) H
      rw [e]
      exact k
    · have h' : decide (b.getD 0 0 = 2) = false := (int_eq _ 2).symm.trans (Bool.eq_false_iff.mpr h)
      rw [h', Bool.false_and] at k
      exact k
theorem ok_is_end (T : Txt K mg a fd) : FnOk P w K mg base CX0 2 (a 16) (fd 16) ["block"] (spBlkT K endB) := by
  have G_figure_at := ok_figure_at (P := P) (w := w) (base := base) T
  refine T.F_is_end.ok sc_is_end (fun vs H Q E h => ?_) (fun cdv A outer s H vs Q E hr h => ?_)
  · obtain ⟨_, _, rfl, _⟩ := h; rfl
  · obtain ⟨x, b, rfl, hd, k⟩ := h
    refine ⟨_, pss_one (ps_ret (pe_and (pe_cmpR op_eq (pe_call G_figure_at (hr.mono (by first | decide | omega)) rfl T.m_figure_at T.F_figure_at.kp T.b_figure_at .nil pass0 (pa_cons (pv 0) (pa_cons pe_int pa_nil))) (pe_glob (v := .int 3) rfl T.g_END.choose_spec ⟨_, rfl⟩) (nomark _)) (pe_one (pe_cmpR op_le (pe_callB call_len_seq (by rfl) T.n_len PySem.boot_len (pa_cons (pv 0) pa_nil)) (pe_glob (v := .int 3) rfl T.g_IN_HEAD.choose_spec ⟨_, rfl⟩) (nomark _))))), ?_⟩
    obtain ⟨p, rfl, hs⟩ := blkAt hd
    refine ⟨_, rfl, _, b, 0, rfl, hd, rfl, _, rfl, ?_⟩
    unfold endB at k
    refine ite2 (fun h => ?_) (fun h => ?_)
    · have h' : decide (b.getD 0 0 = 3) = true := (int_eq _ 3).symm.trans h
      rw [h', Bool.true_and] at k
      refine ⟨_, rfl, _, _, rfl, .inr hs, _, _, rfl, rfl, ?_⟩
      rw [List.length_map]
      have e : decide (((b.length : Nat) : Int) ≤ 3) = decide (b.length ≤ 3) := decide_eq_decide.mpr (by omega)
      show Q (.bl (decide (((b.length : Nat) : Int) ≤ 3))) H
      rw [e]
      exact k
    · have h' : decide (b.getD 0 0 = 3) = false := (int_eq _ 3).symm.trans (Bool.eq_false_iff.mpr h)
      rw [h', Bool.false_and] at k
      exact k
theorem ok_can_go_home (T : Txt K mg a fd) : FnOk P w K mg base CX0 2 (a 17) (fd 17) ["image", "at"] (spGo K) := by
  have G_first_leaf := ok_first_leaf (P := P) (w := w) (base := base) T
  refine T.F_can_go_home.ok sc_can_go_home (fun vs H Q E h => ?_) (fun cdv A outer s H vs Q E hr h => ?_)
  · obtain ⟨_, _, _, _, _, _, rfl, _⟩ := h; rfl
  · obtain ⟨x, m, j, h, r, i, rfl, hd, k⟩ := h
    refine ⟨_, pss_one (ps_ret (pe_or (pe_mono (pe_chain op_le op_lt pe_int (pv 1) (pe_glob (v := .int 6) rfl T.g_FIRST_JOURNAL.choose_spec ⟨_, rfl⟩))) (pe_one (pe_mono (pe_chain op_le op_lt (pe_call G_first_leaf (hr.mono (by first | decide | omega)) rfl T.m_first_leaf T.F_first_leaf.kp T.b_first_leaf .nil pass0 (pa_cons (pv 0) pa_nil)) (pv 1) (pe_callB call_len_seq (by rfl) T.n_len PySem.boot_len (pa_cons (pv 0) pa_nil))))))), ?_⟩
    obtain ⟨p, xs, rfl, hs, hl, hi⟩ := imAt hd
    refine ⟨fun x H' => x = .bl (decide (1 ≤ i) && decide (i < 6)) ∧ H' = H, ?_, fun y H' ⟨e1, e2⟩ => ?_⟩
    · refine ⟨_, rfl, _, _, rfl, rfl, _, rfl, ?_⟩
      have a1 : decide ((1 : Int) ≤ (i : Nat)) = decide (1 ≤ i) := decide_eq_decide.mpr (by omega)
      have a2 : decide (((i : Nat) : Int) < 6) = decide (i < 6) := decide_eq_decide.mpr (by omega)
      rw [a1]
      refine ite2 (fun h => ?_) (fun h => ?_)
      · refine ⟨_, _, rfl, rfl, ?_, rfl⟩
        show V.bl (decide (((i : Nat) : Int) < 6)) = _
        rw [a2, h, Bool.true_and]
      · refine ⟨?_, rfl⟩
        rw [Bool.eq_false_iff.mpr h, Bool.false_and]
    · subst e1
      rw [e2]
      unfold goB at k
      refine ⟨_, rfl, ?_⟩
      refine ite2 (fun h => ?_) (fun h => ?_)
      · rw [h, Bool.true_or] at k
        exact k
      · rw [Bool.eq_false_iff.mpr h, Bool.false_or] at k
        refine ⟨fun x H' => x = .bl (decide (6 + j ≤ i) && decide (i < r.length + 1)) ∧ H' = H, ?_, fun y H' ⟨e1, e2⟩ => ?_⟩
        · have hl' : xs.length = r.length + 1 := by simpa using hl
          refine ⟨_, rfl, _, m, j, _, r, rfl, hd, _, rfl, _, _, rfl, rfl, _, rfl, ?_⟩
          have a1 : decide (((6 + j : Nat) : Int) ≤ (i : Nat)) = decide (6 + j ≤ i) := decide_eq_decide.mpr (by omega)
          have a2 : decide (((i : Nat) : Int) < (xs.length : Nat)) = decide (i < r.length + 1) := decide_eq_decide.mpr (by omega)
          rw [a1]
          refine ite2 (fun h => ?_) (fun h => ?_)
          · refine ⟨_, rfl, _, _, rfl, .inr hs, _, _, rfl, rfl, ?_, rfl⟩
            show V.bl (decide (((i : Nat) : Int) < (xs.length : Nat))) = _
            rw [a2, h, Bool.true_and]
          · refine ⟨?_, rfl⟩
            rw [Bool.eq_false_iff.mpr h, Bool.false_and]
        · subst e1
          rw [e2]
          exact k
theorem ok_with_home (T : Txt K mg a fd) : FnOk P w K mg base CX0 1 (a 14) (fd 14) ["image", "number"] (spWithHome K) := by
  refine T.F_with_home.ok sc_with_home (fun vs H Q E h => ?_) (fun cdv A outer s H vs Q E hr h => ?_)
  · obtain ⟨_, _, _, _, _, _, rfl, _⟩ := h; rfl
  · obtain ⟨x, m, j, h, n, r, rfl, hd, hr2, k⟩ := h
    refine ⟨_, pss_one (ps_ret (pe_op op_catT (pe_tup (pa_cons (pe_op op_catT (pe_slice (show SlR _ (rSlT K) from sl_tup) (pe_ix (show IxR _ (rIxT K) from ix_tup) (pv 0) pe_int (fun _ _ => rfl)) po_none (po_some pe_int)) (pe_tup (pa_cons (pv 1) pa_nil))) pa_nil)) (pe_slice (show SlR _ (rSlT K) from sl_tup) (pv 0) (po_some pe_int) po_none))), ?_⟩
    cases hd with
    | @tup p xs _ hs ha =>
    cases ha with
    | @cons v vs _ _ h1 h2 =>
    obtain ⟨q, rfl, hb⟩ := blkAt h1
    have hb' : SqT K H q [V.int (m : Nat), V.int (j : Nat), V.int (h : Nat)] := hb
    have lv := h2.length
    rw [List.length_map] at lv
    refine ⟨_, rfl, _, _, _, _, rfl, rfl, hs, atI_nat (j := 0) (v := V.ref q) rfl, _, rfl, q, _, rfl, hb', (show ¬ (HT.sIx 3 0 none = 0 ∧ HT.sIx 3 3 (some 2) = 3) by decide), fun t1 ht1 => ?_⟩
    have S1 := (Same.refl H).upd_new ht1 (o := .tup [V.int (m : Nat), V.int (j : Nat)])
    refine ⟨_, rfl, sizeOf (by simp), fun t2 ht2 => ?_⟩
    have S2 := S1.upd_new ht2 (o := .tup [V.int (n : Nat)])
    have f1 := keepN (p := t1) (o := .tup [V.int (m : Nat), V.int (j : Nat)]) upd_same ht2 (u := .tup [V.int (n : Nat)])
    refine ⟨t1, t2, [V.int (m : Nat), V.int (j : Nat)], [V.int (n : Nat)], rfl, rfl, .of f1, .of upd_same, by simp, sizeOf (by simp), (fun h => absurd h (by simp)), fun _ t3 ht3 => ⟨sizeOf (by simp), fun t4 ht4 => ?_⟩⟩
    have S3 := S2.upd_new ht3 (o := .tup ([V.int (m : Nat), V.int (j : Nat)] ++ [V.int (n : Nat)]))
    have S4 := S3.upd_new ht4 (o := .tup [V.ref t3])
    refine ⟨_, rfl, _, rfl, p, _, rfl, SqT.same S4 hs, ?_, fun t5 ht5 => ?_⟩
    · intro h
      have := h.1
      rw [show (some (1 : Int)) = some ((1 : Nat) : Int) from rfl, HT.sIx_nat] at this
      simp at this
    rw [cutV_tail]
    have S5 := S4.upd_new ht5 (o := .tup vs)
    have f3 := keepN (keepN (p := t3) (o := .tup ([V.int (m : Nat), V.int (j : Nat)] ++ [V.int (n : Nat)])) upd_same ht4 (u := .tup [V.ref t3])) ht5 (u := .tup vs)
    have f4 := keepN (p := t4) (o := .tup [V.ref t3]) upd_same ht5 (u := .tup vs)
    refine ⟨t4, t5, [V.ref t3], vs, rfl, rfl, .of f4, .of upd_same, by simp, sizeOf (by simp; omega), (fun h => ?_), fun _ t6 ht6 => ?_⟩
    · subst h
      have er : r = [] := List.eq_nil_of_length_eq_zero (by simpa using lv.symm)
      subst er
      exact k _ _ S5 (.tup (.of f4) (.cons (.tup (.of f3) (dp_nats [m, j, n])) .nil))
    · have S6 := S5.upd_new ht6 (o := .tup ([V.ref t3] ++ vs))
      exact k _ _ S6 (.tup (.of upd_same) (.cons (.tup (.of (keepN f3 ht6)) (dp_nats [m, j, n])) (DpAll.same S6 h2)))
end
end B80

set_option autoImplicit true
set_option Elab.async false
set_option linter.all false
set_option maxRecDepth 100000
set_option maxHeartbeats 8000000
namespace B80
open PySem L2
/-- a dict of numbers to blocks, as a function -/
def DictF (K : PySem.W.Frag) (H : Hp) (d : Addr) (f : Nat → Option (List Nat)) : Prop := ∃ kvs, H d = some (.dK kvs) ∧ ∀ n : Nat, (f n = none → valV kvs (Sum.inl (n : Int)) = none) ∧ ∀ b, f n = some b → ∃ v, valV kvs (Sum.inl (n : Int)) = some v ∧ Dp K H v (blkD b)
def withB (im : List (List Nat)) (f : Nat → Option (List Nat)) : List (List Nat) := im.mapIdx fun i b => (f i).getD b
def spWithB (K : PySem.W.Frag) : Sp := fun vs H Q _ => ∃ (x : V) (d : Addr) (im : List (List Nat)) (f : Nat → Option (List Nat)), vs = [x, .ref d] ∧ Dp K H x (imD im) ∧ DictF K H d f ∧ im.length ≤ 1000 ∧
  ∀ H' y, Same H H' → Dp K H' y (imD (withB im f)) → Q y H'
section
variable {P : Program} {w : World} {K : PySem.W.Frag} {mg : Str → Option Value} {base : Heap} {a : Nat → Addr} {fd : Nat → FuncData} {C : Addr}
theorem DpAll.app {H : Hp} : ∀ {xs ys : List V} {ds es : List PyData}, DpAll K H xs ds → DpAll K H ys es → DpAll K H (xs ++ ys) (ds ++ es)
  | _, _, _, _, .nil, h => h
  | _, _, _, _, .cons h1 h2, h => .cons h1 (DpAll.app h2 h)
theorem ok_with_blocks (T : Txt K mg a fd) : FnOk P w K mg base CX0 1 (a 7) (fd 7) ["image", "blocks"] (spWithB K) := by
  refine T.F_with_blocks.ok sc_with_blocks (fun vs H Q E h => ?_) (fun cdv A outer s H vs Q E hr h => ?_)
  · obtain ⟨_, _, _, _, rfl, _⟩ := h; rfl
  · obtain ⟨x, d, im, f, rfl, hd, ⟨kvs, hk, hf⟩, hl, k⟩ := h
    refine ⟨_, pss_one (ps_ret (pe_callTy call_tuple_of (by rfl) T.n_tuple (by decide +kernel) (pa_cons (pe_lc (own := [("at", 2), ("block", 3)]) (g := gTup K 2 (gCons (gName 2) (gCons (gName 3) gNil))) (tt := tYes) (by rfl) sc_with_blocks.nd (pi_enumA (by rfl) T.n_enumerate (pa_cons (pv 0) pa_nil)) (blkOk_by (own := [("at", 2), ("block", 3)]) (N := N_with_blocks) (sc := defScope s_with_blocks) (by decide +kernel)) (fun _ _ _ _ _ => pg_tup rfl (pgs_cons (pg_name (i := 2) sc_with_blocks.nd rfl (Or.inl rfl)) (pgs_cons (pg_name (i := 3) sc_with_blocks.nd rfl (Or.inl rfl)) pgs_nil))) (fun _ _ _ _ _ => pts_nil) (fun _ _ _ _ _ => (pe_dget2 (hu_of hr) (pv 1) (pv 2) (pv 3) ⟨rfl, rfl, rfl, rfl⟩))) pa_nil))), ?_⟩
    cases hd with
    | @tup p xs _ hs ha =>
    have e0 := ha.length
    rw [List.length_map] at e0
    refine ⟨_, rfl, p, xs, rfl, .inr ⟨hs, fun D hD => ?_⟩⟩
    refine lc_same walk_enumT hD (fun j _ acc => DpAll K H acc ((withB im f).take j |>.map blkD)) .nil (fun H' s3 => SqT.same s3 hs) (fun j x H2 H3 acc hj s3 hacc hp hy => ?_) (fun H2 acc s3 hacc hp => ?_)
    · obtain ⟨t, z0, y0, rfl, ht, rfl, h1, h2⟩ := hy
      cases h1
      have h2' : xs[j]? = some y0 := h2
      obtain ⟨di, hdi, hdx⟩ := ha.get h2'
      rw [List.getElem?_map] at hdi
      obtain ⟨b, hb, rfl⟩ := Option.map_eq_some_iff.mp hdi
      have s4 := s3.upd_new ht (o := .tup [.int (j : Nat), y0])
      refine ⟨_, _, rfl, .of upd_same, rfl, _, _, rfl, _, _, rfl, rfl, rfl, ?_⟩
      refine ⟨_, rfl, d, rfl, .inl ⟨kvs, .inl (s4 _ _ hk)⟩, _, rfl, _, rfl, _, DGet.k (k := Sum.inl (j : Int)) (s4 _ _ hk), ?_⟩
      obtain ⟨v, hv, hvd⟩ : ∃ v, (valV kvs (Sum.inl ((j : Nat) : Int))).getD y0 = v ∧ Dp K H v (blkD ((f j).getD b)) := by
        cases hfj : f j with
        | none => exact ⟨y0, by rw [(hf j).1 hfj]; rfl, hdx⟩
        | some b' =>
          obtain ⟨v, h1, h2⟩ := (hf j).2 b' hfj
          exact ⟨v, by rw [h1]; rfl, h2⟩
      rw [hv]
      have la := DpAll.length hp
      rw [List.length_map, List.length_take] at la
      refine ⟨_, (upd_ne (ne_of_none hacc ht)).trans hacc, sizeOfL (by omega), s4.own hD, _, upd_same, ?_⟩
      have hw : (withB im f)[j]? = some ((f j).getD b) := by unfold withB; rw [List.getElem?_mapIdx, hb]; rfl
      rw [takeNext hw, List.map_append]
      exact DpAll.app hp (.cons hvd .nil)
    · have lw : (withB im f).length = xs.length := by unfold withB; rw [List.length_mapIdx, e0]
      rw [List.take_of_length_le (by omega)] at hp
      refine ⟨_, _, rfl, .inl ⟨.of hacc, fun q hq => ?_⟩⟩
      have S := s3.upd_new hq (o := .tup acc)
      exact k _ _ S (.tup (.of upd_same) (DpAll.same S hp))
end
end B80

set_option autoImplicit true
set_option Elab.async false
set_option linter.all false
set_option maxRecDepth 100000
set_option maxHeartbeats 8000000
namespace B80
open PySem L2
/-! ### bundles -/
def jour (im : List (List Nat)) (j : Nat) : List (List Nat) := (List.range j).map fun i => im.getD (6 + i) []
def ownB (im : List (List Nat)) (j n : Nat) : List (List Nat) := (jour im j).filter fun b => decide (b.getD 1 0 = n)
def putsB (im : List (List Nat)) (j n : Nat) : List (Nat × List Nat) := ((ownB im j n).filter putB).map fun b => (b.getD 2 0, b.drop 3)
def endsB (im : List (List Nat)) (j n : Nat) : List Nat := ((ownB im j n).filter endB).map fun b => b.getD 2 0
def bundle (im : List (List Nat)) (j n : Nat) : Option (List (Nat × List Nat)) :=
  if 60000 ≤ n ∨ (putsB im j n).length ∉ endsB im j n ∨ ¬ ((putsB im j n).map (·.1)).Nodup then none
  else if (putsB im j n).all (fun p => goB im.length j p.1) then some (putsB im j n) else none
/-- the dict of a bundle -/
def DictL (K : PySem.W.Frag) (H : Hp) (d : Addr) (l : List (Nat × List Nat)) : Prop := ∃ kvs, H d = some (.dK kvs) ∧ Both (fun (kv : Key × V) p => kv.1 = Sum.inl ((p.1 : Nat) : Int) ∧ Dp K H kv.2 (blkD p.2)) kvs l
/-- a pair of a number and a block -/
def PutAt (H : Hp) (v : V) (p : Nat × List Nat) : Prop := ∃ r q, v = .ref r ∧ H r = some (.tup [.int (p.1 : Nat), .ref q]) ∧ H q = some (.tup (p.2.map fun n => V.int (n : Nat)))
theorem PutAt.mono {H H' : Hp} {v : V} {p : Nat × List Nat} (s : Tups H H') (h : PutAt H v p) : PutAt H' v p := by
  obtain ⟨r, q, e, h1, h2⟩ := h
  exact ⟨r, q, e, s _ _ h1, s _ _ h2⟩
theorem cutV_drop (xs : List V) (k : Nat) : cutV xs (some (k : Int)) none = xs.drop k := by
  unfold cutV
  rw [HT.sIx_nat, HT.sIx_none, drop_min, List.take_of_length_le]
  rw [List.length_drop]
  by_cases h : k ≤ xs.length
  · rw [Nat.min_eq_left h]; exact Nat.le_refl _
  · omega
theorem Both.pairs {K : PySem.W.Frag} {H : Hp} {vs : List V} {l : List (Nat × List Nat)} (h : Both (PutAt H) vs l) : ∃ (ps : List Addr) (kvs : List (Key × V)), vs = ps.map V.ref ∧ Paired (fun p kv => SqT K H p [kV kv.1, kv.2]) ps kvs ∧
    Both (fun (kv : Key × V) p => kv.1 = Sum.inl ((p.1 : Nat) : Int) ∧ Dp K H kv.2 (blkD p.2)) kvs l := by
  induction h with
  | nil => exact ⟨[], [], rfl, .nil, .nil⟩
  | @cons v p vs l h1 _ ih =>
    obtain ⟨ps, kvs, e, pr, b⟩ := ih
    obtain ⟨r, q, rfl, g1, g2⟩ := h1
    exact ⟨r :: ps, (Sum.inl ((p.1 : Nat) : Int), .ref q) :: kvs, by rw [e]; rfl, .cons (.of g1) pr, .cons ⟨rfl, .tup (.of g2) (dp_nats p.2)⟩ b⟩
theorem Both.keys {K : PySem.W.Frag} {H : Hp} {kvs : List (Key × V)} {l : List (Nat × List Nat)} (h : Both (fun (kv : Key × V) p => kv.1 = Sum.inl ((p.1 : Nat) : Int) ∧ Dp K H kv.2 (blkD p.2)) kvs l) : kvs.map (·.1) = l.map fun p => (Sum.inl ((p.1 : Nat) : Int) : Key) := by
  induction h with
  | nil => rfl
  | cons h _ ih => rw [List.map_cons, List.map_cons, ih, h.1]
def spBundle (K : PySem.W.Frag) : Sp := fun vs H Q _ => ∃ (x : V) (m j h n : Nat) (r : List (List Nat)), vs = [x, .int n] ∧ Dp K H x (imD ([m, j, h] :: r)) ∧ j ≤ 100 ∧ 6 + j ≤ r.length ∧ r.length ≤ 1000 ∧ (∀ b ∈ r, b.length ≤ 1000) ∧
  (bundle ([m, j, h] :: r) j n = none → ∀ H', Same H H' → Q .non H') ∧ (∀ l, bundle ([m, j, h] :: r) j n = some l → ∀ H' d, Same H H' → H d = none → DictL K H' d l → Q (.ref d) H')
section
variable {P : Program} {w : World} {K : PySem.W.Frag} {mg : Str → Option Value} {base : Heap} {a : Nat → Addr} {fd : Nat → FuncData} {C : Addr}
theorem ok_whole_bundle (T : Txt K mg a fd) : FnOk P w K mg base CX0 3 (a 18) (fd 18) ["image", "number"] (spBundle K) := by
  have G_journal_of := ok_journal_of (P := P) (w := w) (base := base) T
  have G_figure_at := ok_figure_at (P := P) (w := w) (base := base) T
  have G_is_put := ok_is_put (P := P) (w := w) (base := base) T
  have G_is_end := ok_is_end (P := P) (w := w) (base := base) T
  have G_can_go_home := ok_can_go_home (P := P) (w := w) (base := base) T
  refine T.F_whole_bundle.ok sc_whole_bundle (fun vs H Q E h => ?_) (fun cdv A outer s H vs Q E hr h => ?_)
  · obtain ⟨_, _, _, _, _, _, rfl, _⟩ := h; rfl
  · obtain ⟨x, m, j, h, n, r, rfl, hd, hj, hjr, hr1, hrb, k1, k2⟩ := h
    refine ⟨_, pss_cons (ps_setLc (i := 2) (own := [("at", 6)]) (g := gName 6) (by rfl) sc_whole_bundle.nd rfl rfl (sw_true rfl rfl rfl (by decide +kernel)) (pi_list (pe_call G_journal_of (hr.mono (by first | decide | omega)) rfl T.m_journal_of T.F_journal_of.kp T.b_journal_of .nil pass0 (pa_cons (pv 0) pa_nil))) (blkOk_by (own := [("at", 6)]) (N := N_whole_bundle) (sc := defScope s_whole_bundle) (by decide +kernel)) (fun _ _ _ _ _ => pg_name (i := 6) sc_whole_bundle.nd rfl (Or.inl rfl)) (fun _ _ _ _ _ => pts_one (pt_cmpR op_eq (pe_call G_figure_at (hr.mono (by first | decide | omega)) rfl T.m_figure_at T.F_figure_at.kp T.b_figure_at .nil pass0 (pa_cons (pe_ix (show IxR _ (rIxT K) from ix_tup) (pv 0) (pv 6) (fun _ _ => rfl)) (pa_cons pe_int pa_nil))) (pv 1) (nomark _))) (fun _ _ _ _ _ => (pe_ix (show IxR _ (rIxT K) from ix_tup) (pv 0) (pv 6) (fun _ _ => rfl))))
    (pss_cons (ps_setLc (i := 3) (own := [("block", 7)]) (g := gName 7) (by rfl) sc_whole_bundle.nd rfl rfl (sw_true rfl rfl rfl (by decide +kernel)) (pi_list (pv 2)) (blkOk_by (own := [("block", 7)]) (N := N_whole_bundle) (sc := defScope s_whole_bundle) (by decide +kernel)) (fun _ _ _ _ _ => pg_name (i := 7) sc_whole_bundle.nd rfl (Or.inl rfl)) (fun _ _ _ _ _ => pts_one (pt_val (pe_call G_is_put (hr.mono (by first | decide | omega)) rfl T.m_is_put T.F_is_put.kp T.b_is_put .nil pass0 (pa_cons (pv 7) pa_nil)))) (fun _ _ _ _ _ => (pe_tup (pa_cons (pe_call G_figure_at (hr.mono (by first | decide | omega)) rfl T.m_figure_at T.F_figure_at.kp T.b_figure_at .nil pass0 (pa_cons (pv 7) (pa_cons pe_int pa_nil))) (pa_cons (pe_slice (show SlR _ (rSlT K) from sl_tup) (pv 7) (po_some (pe_glob (v := .int 3) rfl T.g_IN_HEAD.choose_spec ⟨_, rfl⟩)) po_none) pa_nil)))))
    (pss_cons (ps_setLc (i := 4) (own := [("block", 7)]) (g := gName 7) (by rfl) sc_whole_bundle.nd rfl rfl (sw_true rfl rfl rfl (by decide +kernel)) (pi_list (pv 2)) (blkOk_by (own := [("block", 7)]) (N := N_whole_bundle) (sc := defScope s_whole_bundle) (by decide +kernel)) (fun _ _ _ _ _ => pg_name (i := 7) sc_whole_bundle.nd rfl (Or.inl rfl)) (fun _ _ _ _ _ => pts_one (pt_val (pe_call G_is_end (hr.mono (by first | decide | omega)) rfl T.m_is_end T.F_is_end.kp T.b_is_end .nil pass0 (pa_cons (pv 7) pa_nil)))) (fun _ _ _ _ _ => (pe_call G_figure_at (hr.mono (by first | decide | omega)) rfl T.m_figure_at T.F_figure_at.kp T.b_figure_at .nil pass0 (pa_cons (pv 7) (pa_cons pe_int pa_nil)))))
    (pss_cons (ps_set (i := 5) sc_whole_bundle.nd rfl (Or.inl rfl) (pe_callTy (call_dictP rfl) (by rfl) T.n_dict (by decide +kernel) (pa_cons (pv 3) pa_nil)))
    (pss_cons (ps_if (pt_mono (PW.pt (pw_or (pt_cmpR op_ge (pv 1) (pe_glob (v := .int 60000) rfl T.g_MOST_HOME.choose_spec ⟨_, rfl⟩) (nomark _)) (pw_or (pt_cmpR op_notIn_seq (pe_callB call_len_seq (by rfl) T.n_len PySem.boot_len (pa_cons (pv 3) pa_nil)) (pv 4) rfl) (pw_or1 (pt_cmpR op_ne (pe_callB call_lenD (by rfl) T.n_len PySem.boot_len (pa_cons (pv 5) pa_nil)) (pe_callB call_len_seq (by rfl) T.n_len PySem.boot_len (pa_cons (pv 3) pa_nil)) (nomark _))))))) (pss_one (ps_ret pe_non)) pss_nil)
    (pss_one (ps_ret (pe_mono (pe_ifExp (pt_val (pe_callB (cr_all rfl) (by rfl) T.n_all (by decide +kernel) (pa_cons (pe_lock (pe_lc (own := [("at", 6)]) (g := gName 6) (tt := tYes) (by rfl) sc_whole_bundle.nd (pi_keys (pv 5)) (blkOk_by (own := [("at", 6)]) (N := N_whole_bundle) (sc := defScope s_whole_bundle) (by decide +kernel)) (fun _ _ _ _ _ => pg_name (i := 6) sc_whole_bundle.nd rfl (Or.inl rfl)) (fun _ _ _ _ _ => pts_nil) (fun _ _ _ _ _ => (pe_call G_can_go_home (hr.mono (by first | decide | omega)) rfl T.m_can_go_home T.F_can_go_home.kp T.b_can_go_home .nil pass0 (pa_cons (pv 0) (pa_cons (pv 6) pa_nil)))))) pa_nil))) (pv 5) pe_non)))))))), ?_⟩
    obtain ⟨p, xs, rfl, hs, hl, hi⟩ := imAt hd
    obtain ⟨im, him⟩ : ∃ im, im = [m, j, h] :: r := ⟨_, rfl⟩
    rw [← him] at hi hl hd k1 k2
    have hlen : im.length = r.length + 1 := by rw [him]; rfl
    have lj : (jour im j).length = j := by unfold jour; simp
    refine ⟨_, rfl, .ref p, m, j, h, r, rfl, (him ▸ hd), by omega, fun H1 pj S1 hpj hj1 => ⟨_, rfl, ⟨_, .of hj1⟩, fun D hD => ?_⟩⟩
    refine lc_same (walk_map (f := fun i => V.int (6 + i : Nat)) (xs := List.range j)) hD (fun jx _ acc => DpAll K H acc ((((jour im j).take jx).filter fun b => decide (b.getD 1 0 = n)).map blkD)) .nil (fun H' s3 => s3.seq (.of hj1)) (fun jx y H2 H3 acc hjx s3 hacc hp hy => ?_) (fun H2 acc s3 hacc hp => ?_)
    · obtain ⟨rfl, i, hir, rfl⟩ := hy
      have hij : i = jx := by
        rw [List.getElem?_range (by simpa using hjx)] at hir
        exact (Option.some.inj hir).symm
      subst hij
      have hij2 : i < j := by simpa using hjx
      have hlt : 6 + i < im.length := by omega
      obtain ⟨b, hb⟩ : ∃ b, im[6 + i]? = some b := ⟨_, List.getElem?_eq_getElem hlt⟩
      obtain ⟨q, hq, hqs⟩ := hi (6 + i) b hb
      have hjb : (jour im j)[i]? = some b := by
        unfold jour
        rw [List.getElem?_map, List.getElem?_range hij2]
        show some (im.getD (6 + i) []) = _
        rw [List.getD_eq_getElem?_getD, hb]
        rfl
      have S3 := S1.trans s3
      have hqd : Dp K H (.ref q) (blkD b) := .tup hqs (dp_nats b)
      have la := DpAll.length hp
      refine ⟨rfl, ?_⟩
      refine ⟨_, rfl, _, rfl, _, _, _, _, rfl, rfl, SqT.same S3 hs, atI_nat (j := 6 + i) hq, .ref q, b, 1, rfl, hqd.same S3, _, rfl, rfl, _, rfl, ?_⟩
      rw [int_eq]
      rw [takeNext hjb, List.filter_append, List.map_append]
      refine ite2 (fun h => ?_) (fun h => ?_)
      · have hf : ([b].filter fun b => decide (b.getD 1 0 = n)) = [b] := by rw [List.filter_cons, if_pos h]; rfl
        rw [hf]
        refine ⟨_, rfl, _, rfl, _, _, _, _, rfl, rfl, SqT.same S3 hs, atI_nat (j := 6 + i) hq, acc, hacc, ?_, s3.own hD, _, upd_same, DpAll.app hp (.cons hqd .nil)⟩
        rw [List.length_map] at la
        have := List.length_filter_le (fun b => decide (b.getD 1 0 = n)) ((jour im j).take i)
        rw [List.length_take] at this
        exact sizeOfL (by omega)
      · have hf : ([b].filter fun b => decide (b.getD 1 0 = n)) = [] := by rw [List.filter_cons, if_neg h]; rfl
        rw [hf, List.map_nil, List.append_nil]
        exact ⟨s3, acc, hacc, hp⟩
    · rw [List.length_range, List.take_of_length_le (by omega)] at hp
      replace hp : DpAll K H acc ((ownB im j n).map blkD) := hp
      have lo : (ownB im j n).length ≤ j := by
        unfold ownB
        exact Nat.le_trans (List.length_filter_le _ _) (by omega)
      have la := DpAll.length hp
      rw [List.length_map] at la
      have S2 : Same H H2 := S1.trans s3
      refine ⟨_, rfl, _, rfl, ⟨_, .of hacc⟩, fun D2 hD2 => ?_⟩
      refine lc_same (walk_list (xs := acc)) hD2 (fun jx H' acc2 => Both (PutAt H') acc2 ((((ownB im j n).take jx).filter putB).map fun b => (b.getD 2 0, b.drop 3))) .nil (fun H' s4 => s4.seq (.of hacc)) (fun jx y H3 H4 acc2 hjx s4 hacc2 hB hy => ?_) (fun H3 acc2 s4 hacc2 hB => ?_)
      · obtain ⟨rfl, hx⟩ := hy
        obtain ⟨db, hdb, hdx⟩ := hp.get hx
        rw [List.getElem?_map] at hdb
        obtain ⟨b, hb, rfl⟩ := Option.map_eq_some_iff.mp hdb
        have S4 := S2.trans s4
        obtain ⟨q, rfl, hq⟩ := blkAt hdx
        have hdx4 := hdx.same S4
        refine ⟨rfl, ?_⟩
        refine ⟨_, rfl, .ref q, b, rfl, hdx4, _, rfl, ?_⟩
        rw [takeNext hb, List.filter_append, List.map_append]
        refine ite2 (fun h => ?_) (fun h => ?_)
        · have hf : ([b].filter putB) = [b] := by rw [List.filter_cons, if_pos h]; rfl
          rw [hf]
          have hne : 1 ≤ b.length := by
            cases b with
            | nil => exact absurd h (by decide)
            | cons z l => simp
          refine ⟨_, rfl, .ref q, b, 2, rfl, hdx4, _, rfl, _, rfl, q, _, rfl, SqT.same S4 hq, ?_, fun t1 ht1 => ⟨sizeOf (by simp), fun t2 ht2 => ?_⟩⟩
          · intro hh
            have := hh.1
            rw [show (some (3 : Int)) = some ((3 : Nat) : Int) from rfl, HT.sIx_nat, List.length_map] at this
            omega
          · rw [show (some (3 : Int)) = some ((3 : Nat) : Int) from rfl, cutV_drop, ← List.map_drop] at ht2 ⊢
            have g1 : upd (upd H4 t1 (.tup ((b.drop 3).map fun n => V.int (n : Nat)))) t2 (.tup [.int (b.getD 2 0 : Nat), .ref t1]) D2 = some (.lst acc2) := keepN (keepN hacc2 ht1) ht2
            have tt : Tups H4 (upd (upd (upd H4 t1 (.tup ((b.drop 3).map fun n => V.int (n : Nat)))) t2 (.tup [.int (b.getD 2 0 : Nat), .ref t1])) D2 (.lst (acc2 ++ [.ref t2]))) := (((Tups.refl _).new ht1).new ht2).set g1
            have lb := hB.length
            rw [List.length_map] at lb
            have lf := List.length_filter_le putB ((ownB im j n).take jx)
            rw [List.length_take] at lf
            refine ⟨acc2, g1, sizeOfL (by omega), ((s4.upd_new ht1).upd_new ht2).own hD2, _, upd_same, (hB.mono fun _ _ h => h.mono tt).app (.one ⟨t2, t1, rfl, ?_, ?_⟩)⟩
            · rw [upd_ne (ne_of_none' ht2 (keepN hacc2 ht1))]; exact upd_same
            · rw [upd_ne (ne_of_none' ht1 hacc2)]; exact keepN upd_same ht2
        · have hf : ([b].filter putB) = [] := by rw [List.filter_cons, if_neg h]; rfl
          rw [hf, List.map_nil, List.append_nil]
          exact ⟨s4, acc2, hacc2, hB⟩
      · rw [List.take_of_length_le (by omega)] at hB
        replace hB : Both (PutAt H3) acc2 (putsB im j n) := hB
        have hacc3 := s4 _ _ hacc
        refine ⟨_, rfl, _, rfl, ⟨_, .of hacc3⟩, fun D3 hD3 => ?_⟩
        refine lc_same (walk_list (xs := acc)) hD3 (fun jx _ acc3 => acc3 = (((ownB im j n).take jx).filter endB).map fun b => V.int (b.getD 2 0 : Nat)) rfl (fun H' s5 => s5.seq (.of hacc3)) (fun jx y H4 H5 acc3 hjx s5 hacc4 hE hy => ?_) (fun H4 acc3 s5 hacc4 hE => ?_)
        · subst hE
          obtain ⟨rfl, hx⟩ := hy
          obtain ⟨db, hdb, hdx⟩ := hp.get hx
          rw [List.getElem?_map] at hdb
          obtain ⟨b, hb, rfl⟩ := Option.map_eq_some_iff.mp hdb
          have S5 := (S2.trans s4).trans s5
          have hdx4 := hdx.same S5
          refine ⟨rfl, ?_⟩
          refine ⟨_, rfl, y, b, rfl, hdx4, _, rfl, ?_⟩
          rw [takeNext hb, List.filter_append, List.map_append]
          refine ite2 (fun h => ?_) (fun h => ?_)
          · have hf : ([b].filter endB) = [b] := by rw [List.filter_cons, if_pos h]; rfl
            rw [hf]
            have lf := List.length_filter_le endB ((ownB im j n).take jx)
            rw [List.length_take] at lf
            exact ⟨_, rfl, y, b, 2, rfl, hdx4, _, hacc4, sizeOfL (by rw [List.length_map]; omega), s5.own hD3, _, upd_same, rfl⟩
          · have hf : ([b].filter endB) = [] := by rw [List.filter_cons, if_neg h]; rfl
            rw [hf, List.map_nil, List.append_nil]
            exact ⟨s5, _, hacc4, rfl⟩
        · rw [List.take_of_length_le (by omega)] at hE
          have hE2 : acc3 = (endsB im j n).map fun e => V.int (e : Nat) := by rw [hE]; unfold endsB; rw [List.map_map]; rfl
          have hB4 := hB.mono fun _ _ h => PutAt.mono s5.tups h
          obtain ⟨ps, kvs, hps, hpr, hkv⟩ := Both.pairs (K := K) hB4
          have hacc5 : H4 D2 = some (.lst (ps.map V.ref)) := by rw [← hps]; exact s5 _ _ hacc2
          refine ⟨_, rfl, D2, ps, kvs, rfl, .of hacc5, hpr, fun dd hdd => ?_⟩
          have lp : ps.length = (putsB im j n).length := by
            have := hB4.length
            rw [hps, List.length_map] at this
            exact this
          have lkv := hkv.length
          have keys := Both.keys hkv
          have nodk : (kvs.map (·.1)).Nodup ↔ ((putsB im j n).map (·.1)).Nodup := by
            rw [keys, show ((putsB im j n).map fun p => (Sum.inl ((p.1 : Nat) : Int) : Key)) = ((putsB im j n).map (·.1)).map fun i => (Sum.inl ((i : Nat) : Int) : Key) by rw [List.map_map]; rfl]
            constructor
            · intro hh
              exact (List.pairwise_map.mp hh).imp fun ne e => ne (by rw [e])
            · intro hh
              refine List.Pairwise.map _ (fun x y ne e => ne ?_) hh
              injection e with e
              omega
          have lmk : (mergeK [] kvs).length = kvs.length ↔ (kvs.map (·.1)).Nodup := by
            constructor
            · intro hh
              exact (mergeK_less kvs [] (by simpa using hh)).2
            · intro hh
              rw [mergeK_of kvs [] (by simp) hh]
              simp
          have g2 : upd H4 dd (.dK (mergeK [] kvs)) D2 = some (.lst (ps.map V.ref)) := keepN hacc5 hdd
          have g3 : upd H4 dd (.dK (mergeK [] kvs)) D3 = some (.lst ((endsB im j n).map fun e => V.int (e : Nat))) := by rw [← hE2]; exact keepN hacc4 hdd
          have g4 : upd H4 dd (.dK (mergeK [] kvs)) dd = some (.dK (mergeK [] kvs)) := upd_same
          refine ⟨fun c H' => c = (decide (60000 ≤ n) || (!decide ((putsB im j n).length ∈ endsB im j n)) || (!decide (((putsB im j n).map (·.1)).Nodup))) ∧ H' = upd H4 dd (.dK (mergeK [] kvs)), ?_, fun c H' ⟨hc, hH⟩ => ?_⟩
          · refine ⟨_, rfl, _, _, rfl, rfl, _, rfl, ?_⟩
            have c1 : decide ((60000 : Int) ≤ (n : Nat)) = decide (60000 ≤ n) := decide_eq_decide.mpr (by omega)
            rw [c1]
            refine ite2 (fun h1 => ⟨by rw [h1]; rfl, rfl⟩) (fun h1 => ?_)
            rw [Bool.eq_false_iff.mpr h1, Bool.false_or]
            refine ⟨_, rfl, _, _, rfl, .inl (.of g2), _, rfl, _, _, rfl, .inl (.of g3), rfl, flat_nats _, _, rfl, ?_⟩
            rw [List.length_map, lp]
            have c2 : (!inV (.int ((putsB im j n).length : Nat)) ((endsB im j n).map fun e => V.int (e : Nat))) = !decide ((putsB im j n).length ∈ endsB im j n) := by rw [inV_nats]
            refine ite2 (fun h2 => ?_) (fun h2 => ?_)
            · have h2' : (!decide ((putsB im j n).length ∈ endsB im j n)) = true := c2.symm.trans h2
              exact ⟨by rw [h2']; rfl, rfl⟩
            · have h2' : (!decide ((putsB im j n).length ∈ endsB im j n)) = false := c2.symm.trans (Bool.eq_false_iff.mpr h2)
              rw [h2', Bool.false_or]
              refine ⟨_, rfl, _, _, rfl, g4, _, rfl, _, _, rfl, .inl (.of g2), rfl, _, rfl, ?_, rfl⟩
              rw [List.length_map, lp]
              congr 1
              refine decide_eq_decide.mpr ⟨fun e => ?_, fun e => ?_⟩
              · injection e with e
                exact nodk.mp (lmk.mp (by rw [lkv]; omega))
              · have := lmk.mpr (nodk.mpr e)
                rw [lkv] at this
                rw [this]
          · rw [hH]
            have S5 : Same H (upd H4 dd (.dK (mergeK [] kvs))) := ((S2.trans s4).trans s5).upd_new hdd
            have hdd0 : H dd = none := ((S2.trans s4).trans s5).free hdd
            cases hC : (decide (60000 ≤ n) || (!decide ((putsB im j n).length ∈ endsB im j n)) || (!decide (((putsB im j n).map (·.1)).Nodup))) with
            | true =>
              rw [hc, hC]
              refine iteT ?_
              refine k1 ?_ _ S5
              unfold bundle
              rw [if_pos]
              simp only [Bool.or_eq_true, decide_eq_true_eq, Bool.not_eq_true', decide_eq_false_iff_not] at hC
              rcases hC with (h | h) | h
              · exact .inl h
              · exact .inr (.inl h)
              · exact .inr (.inr h)
            | false =>
              rw [hc, hC]
              refine iteF ?_
              simp only [Bool.or_eq_false_iff, decide_eq_false_iff_not, Bool.not_eq_false', decide_eq_true_eq] at hC
              obtain ⟨⟨q1, q2⟩, q3⟩ := hC
              have hm : mergeK [] kvs = kvs := by
                rw [mergeK_of kvs [] (by simp) (nodk.mpr q3)]
                rfl
              have hbun : bundle im j n = if (putsB im j n).all (fun p => goB im.length j p.1) then some (putsB im j n) else none := by
                unfold bundle
                rw [if_neg]
                rintro (h | h | h)
                · exact q1 h
                · exact h q2
                · exact h q3
              have lpu : (putsB im j n).length ≤ j := by
                unfold putsB
                rw [List.length_map]
                exact Nat.le_trans (List.length_filter_le _ _) (by unfold ownB; exact Nat.le_trans (List.length_filter_le _ _) (Nat.le_of_eq lj))
              rw [hm] at g4 S5 ⊢
              refine ⟨Q, ?_, fun x H' h => h⟩
              refine ⟨dd, _, g4, trivial, fun od => ?_⟩
              have SF : Same H (upd (upd H4 dd (.dK kvs)) dd (.frz od (.dK kvs))) := S5.own hdd0
              refine ⟨_, rfl, dd, od, rfl, .inl ⟨kvs, upd_same, fun D4 hD4 => ?_⟩⟩
              refine lc_same walk_keys hD4 (fun jx _ acc4 => acc4 = (((putsB im j n).take jx).map fun p => goB im.length j p.1).map V.bl) rfl (fun H' s6 => s6 _ _ upd_same) (fun jx y H5 H6 acc4 hjx s6 hacc6 hG hy => ?_) (fun H5 acc4 s6 hacc6 hG => ?_)
              · subst hG
                obtain ⟨rfl, ky, v, hkv2, rfl⟩ := hy
                obtain ⟨pr, hpr2, e1, e2⟩ := hkv.get hkv2
                replace e1 : ky = Sum.inl ((pr.1 : Nat) : Int) := e1
                subst e1
                refine ⟨rfl, ?_⟩
                refine ⟨_, rfl, _, rfl, .ref p, m, j, h, r, pr.1, rfl, (him ▸ hd).same (SF.trans s6), ?_⟩
                rw [← hlen]
                refine ⟨_, hacc6, sizeOfL (by rw [List.length_map, List.length_map, List.length_take]; omega), s6.own hD4, _, upd_same, ?_⟩
                rw [takeNext hpr2, List.map_append, List.map_append]
                rfl
              · subst hG
                have := hkv.length
                have e1 : (putsB im j n).take kvs.length = putsB im j n := List.take_of_length_le (by omega)
                rw [e1] at hacc6
                have g5 := s6 _ _ upd_same
                refine ⟨g5, ?_⟩
                have S6 : Same H (upd H5 dd (.dK kvs)) := (SF.trans s6).own hdd0
                have nd : dd ≠ D4 := fun e => by rw [← e, g5] at hacc6; injection hacc6 with e2; cases e2
                refine ⟨D4, (putsB im j n).map (fun p => goB im.length j p.1), rfl, .of ?_, _, rfl, ?_⟩
                · rw [upd_ne nd.symm]; exact hacc6
                · refine ite2 (fun hall => ?_) (fun hall => ?_)
                  · rw [List.all_map] at hall
                    refine ⟨.ref dd, rfl, k2 _ (hbun.trans (if_pos hall)) _ _ S6 hdd0 ⟨kvs, upd_same, ?_⟩⟩
                    exact hkv.mono fun _ _ h => ⟨h.1, h.2.same ((((((Same.refl H4).upd_new hdd).own hdd).trans s6).own hdd))⟩
                  · rw [List.all_map] at hall
                    exact k1 (hbun.trans (if_neg hall)) _ S6
end
end B80

set_option autoImplicit true
set_option Elab.async false
set_option linter.all false
set_option maxRecDepth 100000
set_option maxHeartbeats 8000000
namespace B80
open PySem L2
/-! ### what is brought home -/
def updF (f : Nat → Option (List Nat)) (k : Nat) (v : List Nat) : Nat → Option (List Nat) := fun n => if n = k then some v else f n
def putF (f : Nat → Option (List Nat)) (l : List (Nat × List Nat)) : Nat → Option (List Nat) := l.foldl (fun f p => updF f p.1 p.2) f
def bring (im : List (List Nat)) (j : Nat) : Nat → Nat → (Nat → Option (List Nat)) → (Nat → Option (List Nat)) × Nat
  | 0, n, f => (f, n)
  | k + 1, n, f => match bundle im j n with
    | none => (f, n)
    | some l => bring im j k (n + 1) (putF f l)
theorem bundle_lt {im : List (List Nat)} {j n : Nat} {l : List (Nat × List Nat)} (h : bundle im j n = some l) : n < 60000 := by
  unfold bundle at h
  split at h
  · cases h
  · omega
theorem bundle_len {im : List (List Nat)} {j n : Nat} {l : List (Nat × List Nat)} (h : bundle im j n = some l) : l.length ≤ j := by
  have lpu : (putsB im j n).length ≤ j := by
    unfold putsB
    rw [List.length_map]
    exact Nat.le_trans (List.length_filter_le _ _) (by unfold ownB; exact Nat.le_trans (List.length_filter_le _ _) (Nat.le_of_eq (by unfold jour; simp)))
  unfold bundle at h
  split at h
  · cases h
  · split at h
    · injection h with h; subst h; exact lpu
    · cases h
theorem bring_none {im : List (List Nat)} {j n : Nat} {f : Nat → Option (List Nat)} (h : bundle im j n = none) : ∀ k, bring im j k n f = (f, n)
  | 0 => rfl
  | k + 1 => by unfold bring; rw [h]
theorem bring_some {im : List (List Nat)} {j n : Nat} {f : Nat → Option (List Nat)} {l : List (Nat × List Nat)} (h : bundle im j n = some l) : bring im j (60000 - n) n f = bring im j (60000 - (n + 1)) (n + 1) (putF f l) := by
  have := bundle_lt h
  rw [show 60000 - n = (60000 - (n + 1)) + 1 by omega]
  rw [bring, h]
/-- the keys that are numbers tell f -/
def KvF (K : PySem.W.Frag) (H : Hp) (kvs : List (Key × V)) (f : Nat → Option (List Nat)) : Prop := ∀ n : Nat, (f n = none → valV kvs (Sum.inl (n : Int)) = none) ∧ ∀ b, f n = some b → ∃ v, valV kvs (Sum.inl (n : Int)) = some v ∧ Dp K H v (blkD b)
theorem blk_set {K : PySem.W.Frag} {H : Hp} {v : V} {b : List Nat} {p : Addr} {kvs : List (Key × V)} {o : HO} (h : Dp K H v (blkD b)) (e : H p = some (.dK kvs)) : Dp K (upd H p o) v (blkD b) := by
  cases h with
  | @tup q xs _ hs ha =>
  obtain rfl := dp_nats_inv ha
  refine .tup ?_ (dp_nats b)
  rcases hs with (h | ⟨o', h⟩) | h
  · exact .inl (.inl ((upd_ne (ne_of h e (by intro z; cases z))).trans h))
  · exact .inl (.inr ⟨o', (upd_ne (ne_of h e (by intro z; cases z))).trans h⟩)
  · exact .inr h
theorem KvF.set {K : PySem.W.Frag} {H : Hp} {kvs kv0 : List (Key × V)} {f : Nat → Option (List Nat)} {p : Addr} {o : HO} (h : KvF K H kvs f) (e : H p = some (.dK kv0)) : KvF K (upd H p o) kvs f := fun n => by
  refine ⟨(h n).1, fun b hb => ?_⟩
  obtain ⟨v, h1, h2⟩ := (h n).2 b hb
  exact ⟨v, h1, blk_set h2 e⟩
theorem KvF.same {K : PySem.W.Frag} {H H' : Hp} {kvs : List (Key × V)} {f : Nat → Option (List Nat)} (h : KvF K H kvs f) (s : Same H H') : KvF K H' kvs f := fun n => by
  refine ⟨(h n).1, fun b hb => ?_⟩
  obtain ⟨v, h1, h2⟩ := (h n).2 b hb
  exact ⟨v, h1, h2.same s⟩
theorem KvF.nil {K : PySem.W.Frag} {H : Hp} : KvF K H [] (fun _ => none) := fun n => ⟨fun _ => rfl, fun b h => by cases h⟩
theorem KvF.put {K : PySem.W.Frag} {H : Hp} {kvs : List (Key × V)} {f : Nat → Option (List Nat)} {k : Nat} {v : V} {b : List Nat} (h : KvF K H kvs f) (hv : Dp K H v (blkD b)) : KvF K H (putK kvs (Sum.inl ((k : Nat) : Int)) v) (updF f k b) := fun n => by
  unfold updF
  by_cases e : n = k
  · subst e
    rw [if_pos rfl]
    refine ⟨fun h => (by cases h), fun b' h => ?_⟩
    injection h with h; subst h
    exact ⟨v, by rw [valV_put, if_pos rfl], hv⟩
  · rw [if_neg e, valV_put, if_neg (by intro z; injection z with z; omega)]
    exact h n
theorem KvF.merge {K : PySem.W.Frag} {H : Hp} {more : List (Key × V)} {l : List (Nat × List Nat)} (hb : Both (fun (kv : Key × V) p => kv.1 = Sum.inl ((p.1 : Nat) : Int) ∧ Dp K H kv.2 (blkD p.2)) more l) :
    ∀ {kvs : List (Key × V)} {f : Nat → Option (List Nat)}, KvF K H kvs f → KvF K H (mergeK kvs more) (putF f l) := by
  induction hb with
  | nil => exact fun h => h
  | @cons kv p more l h1 _ ih =>
    intro kvs f h
    obtain ⟨k, v⟩ := kv
    obtain ⟨h1, h2⟩ := h1
    replace h1 : k = Sum.inl ((p.1 : Nat) : Int) := h1
    subst h1
    exact ih (KvF.put h h2)
def spBring (K : PySem.W.Frag) : Sp := fun vs H Q _ => ∃ (x : V) (m j h : Nat) (r : List (List Nat)), vs = [x] ∧ Dp K H x (imD ([m, j, h] :: r)) ∧ j ≤ 100 ∧ 6 + j ≤ r.length ∧ r.length ≤ 1000 ∧ (∀ b ∈ r, b.length ≤ 1000) ∧ h ≤ 60000 ∧
  ∀ H' t d kvs, Same H H' → H t = none → H d = none → H' t = some (.tup [.ref d, .int ((bring ([m, j, h] :: r) j (60000 - h) h (fun _ => none)).2 : Nat)]) → H' d = some (.dK kvs) → kvs.length ≤ 6000000 → KvF K H' kvs (bring ([m, j, h] :: r) j (60000 - h) h (fun _ => none)).1 → Q (.ref t) H'
section
variable {P : Program} {w : World} {K : PySem.W.Frag} {mg : Str → Option Value} {base : Heap} {a : Nat → Addr} {fd : Nat → FuncData} {C : Addr}
theorem ok_brought_home (T : Txt K mg a fd) : FnOk P w K mg base CX0 4 (a 19) (fd 19) ["image"] (spBring K) := by
  have G_home_of := ok_home_of (P := P) (w := w) (base := base) T
  have G_whole_bundle := ok_whole_bundle (P := P) (w := w) (base := base) T
  refine T.F_brought_home.ok sc_brought_home (fun vs H Q E h => ?_) (fun cdv A outer s H vs Q E hr h => ?_)
  · obtain ⟨_, _, _, _, _, rfl, _⟩ := h; rfl
  · obtain ⟨x, m, j, h, r, rfl, hd, hj, hjr, hr1, hrb, hh, k⟩ := h
    refine ⟨_, pss_cons (ps_par (i := 1) (j := 2) (by rfl) sc_brought_home.nd rfl rfl (by decide) rfl rfl (pa_cons (pe_call G_home_of (hr.mono (by first | decide | omega)) rfl T.m_home_of T.F_home_of.kp T.b_home_of .nil pass0 (pa_cons (pv 0) pa_nil)) (pa_cons pe_dnewK pa_nil)) (by rfl))
    (pss_cons (ps_set (i := 3) sc_brought_home.nd rfl (Or.inl rfl) (pe_call G_whole_bundle (hr.mono (by first | decide | omega)) rfl T.m_whole_bundle T.F_whole_bundle.kp T.b_whole_bundle .nil pass0 (pa_cons (pv 0) (pa_cons (pv 1) pa_nil))))
    (pss_cons (ps_while PassesOwn.never (pt_cmpR op_notN (pv 3) pe_non (nomark _)) (pss_cons (ps_expr (pe_bm PySem.F.plainAttrs_dict PySem.F.slot_dict_update PySem.F.type_dict_update mtd_update (pv 2) (pa_cons (pv 3) pa_nil)))
    (pss_cons (ps_aug (i := 1) sc_brought_home.nd rfl (Or.inl rfl) pe_int ip_add)
    (pss_one (ps_set (i := 3) sc_brought_home.nd rfl (Or.inl rfl) (pe_call G_whole_bundle (hr.mono (by first | decide | omega)) rfl T.m_whole_bundle T.F_whole_bundle.kp T.b_whole_bundle .nil pass0 (pa_cons (pv 0) (pa_cons (pv 1) pa_nil))))))))
    (pss_one (ps_ret (pe_tup (pa_cons (pv 2) (pa_cons (pv 1) pa_nil))))))), ?_⟩
    have hne : ∀ {H1 : Hp}, Same H H1 → Dp K H1 x (imD ([m, j, h] :: r)) := fun s => hd.same s
    refine ⟨_, rfl, x, m, j, h, r, rfl, hd, fun d hdn => ?_⟩
    refine ⟨_, _, rfl, ?_⟩
    have S0 : Same H (upd H d (.dK [])) := Same.upd_new (Same.refl _) hdn
    obtain ⟨im, him⟩ : ∃ im, im = [m, j, h] :: r := ⟨_, rfl⟩
    refine ⟨_, rfl, _, rfl, x, m, j, h, h, r, rfl, hd.same S0, hj, hjr, hr1, hrb, ?_⟩
    rw [← him]
    have hd' : ∀ {H1 : Hp}, Same H H1 → Dp K H1 x (imD ([m, j, h] :: r)) := fun s => hd.same s
    rw [← him] at k
    obtain ⟨R, hR⟩ : ∃ R, R = bring im j (60000 - h) h (fun _ => none) := ⟨_, rfl⟩
    rw [← hR] at k
    let W : Nat → St → Hp → Prop := fun u σ H1 => ∃ n f kvs bv, u = 60000 - n ∧ n ≤ 60000 ∧ h ≤ n ∧ σ = [some x, some (.int (n : Nat)), some (.ref d), some bv] ∧ Same H H1 ∧ H1 d = some (.dK kvs) ∧ kvs.length ≤ (n - h) * 100 ∧
      KvF K H1 kvs f ∧ bring im j (60000 - n) n f = R ∧ (bundle im j n = none → bv = .non) ∧ (∀ l, bundle im j n = some l → ∃ e more, bv = .ref e ∧ e ≠ d ∧ H1 e = some (.dK more) ∧ Both (fun (kv : Key × V) p => kv.1 = Sum.inl ((p.1 : Nat) : Int) ∧ Dp K H1 kv.2 (blkD p.2)) more l)
    have main : ∀ u σ H1, W u σ H1 → tSeq (tWhile (tTest (tOp (fun x y H Q => y = V.non ∧ Q (V.bl !decide (x = V.non)) H) (tVar 3) (tC V.non)))
          (tSeq
            (tDrop
              (tBM
                (cxOf CX0 P w K mg base N_brought_home (Str.ofString "brought_home") (defScope s_brought_home) (a 19)
                      cdv A outer s H E).nox.K
                "dict" rDUpd (tVar 2) (tCons (tVar 3) tNil)))
            (tSeq (tAug 1 (tC (V.int 1)) (ipI fun i j => i + j))
              (tAsg (tCall (spBundle K) [] E0 (tCons (tVar 0) (tCons (tVar 1) tNil))) (gName 3)))))
        (tRet (tTup (tCons (tVar 2) (tCons (tVar 1) tNil)))) { nx := fun x H' => Q V.non H', rt := Q } σ H1 := by
      intro u σ H1 hW
      refine ⟨W, ⟨u, hW⟩, ?_⟩
      intro u σ H1 ⟨n, f, kvs, bv, hu, hn, hhn, hσ, s1, hdk, hlen, hkv, hb, hb1, hb2⟩
      subst hσ
      cases hbn : bundle im j n with
      | none =>
        obtain rfl := hb1 hbn
        refine ⟨_, rfl, rfl, _, rfl, ?_⟩
        rw [show (!decide (V.non = V.non)) = false by rw [decide_eq_true rfl]; rfl]
        refine iteF ?_
        rw [bring_none hbn] at hb
        refine ⟨_, rfl, _, rfl, sizeOf (by simp), fun p hp => ?_⟩
        refine k _ _ d kvs (s1.upd_new hp) (s1.free hp) hdn ?_ (keepN hdk hp) ?_ ?_
        · rw [← hb]; exact upd_same
        · omega
        · rw [← hb]; exact hkv.same (Same.upd_new (Same.refl _) hp)
      | some l =>
        obtain ⟨e, more, rfl, hed, hem, hm⟩ := hb2 l hbn
        refine ⟨_, rfl, rfl, _, rfl, ?_⟩
        rw [show (!decide (V.ref e = V.non)) = true by rw [decide_eq_false (by intro z; cases z)]; rfl]
        refine iteT ?_
        refine ⟨fun σ H => ∃ u', u' < u ∧ W u' σ H, fun σ H h => h, ?_⟩
        have hlt := bundle_lt hbn
        have lm : more.length ≤ 100 := by rw [hm.length]; exact Nat.le_trans (bundle_len hbn) hj
        refine ⟨_, rfl, .inr (.inr (.inl ⟨rfl, .inl ⟨kvs, hdk⟩⟩)), _, rfl, d, e, kvs, more, rfl, rfl, hed.symm, hdk, hem, by unfold sizeLine; omega, ?_⟩
        have s2 : Same H (upd H1 d (.dK (mergeK kvs more))) := s1.own hdn
        refine ⟨_, rfl, n, 1, rfl, rfl, ?_⟩
        refine ⟨_, rfl, _, rfl, x, m, j, h, n + 1, r, rfl, hd' s2, hj, hjr, hr1, hrb, ?_⟩
        rw [← him]
        have kv2 : KvF K (upd H1 d (.dK (mergeK kvs more))) (mergeK kvs more) (putF f l) := KvF.set (KvF.merge hm hkv) hdk
        have le2 := length_mergeK more kvs
        rw [bring_some hbn] at hb
        refine ⟨fun hb3 H2 s3 => ?_, fun l3 hb3 H2 e3 s3 he3 hdl => ?_⟩
        · exact ⟨60000 - (n + 1), by omega, n + 1, putF f l, mergeK kvs more, .non, rfl, by omega, by omega, rfl, s2.trans s3, s3 _ _ upd_same, by omega, kv2.same s3, hb, fun _ => rfl, fun l4 h4 => by rw [hb3] at h4; cases h4⟩
        · obtain ⟨more3, h31, h32⟩ := hdl
          refine ⟨60000 - (n + 1), by omega, n + 1, putF f l, mergeK kvs more, .ref e3, rfl, by omega, by omega, rfl, s2.trans s3, s3 _ _ upd_same, by omega, kv2.same s3, hb, fun h4 => (by rw [hb3] at h4; cases h4), fun l4 h4 => ?_⟩
          rw [hb3] at h4
          injection h4 with h4
          subst h4
          exact ⟨e3, more3, rfl, (fun z => by rw [z, upd_same] at he3; cases he3), h31, h32⟩
    refine ⟨fun hb3 H2 s3 => ?_, fun l3 hb3 H2 e3 s3 he3 hdl => ?_⟩
    · exact main _ _ _ ⟨h, fun _ => none, [], .non, rfl, hh, Nat.le_refl _, rfl, S0.trans s3, s3 _ _ upd_same, Nat.zero_le _, KvF.nil, hR.symm, fun _ => rfl, fun l4 h4 => by rw [hb3] at h4; cases h4⟩
    · obtain ⟨more3, h31, h32⟩ := hdl
      refine main _ _ _ ⟨h, fun _ => none, [], .ref e3, rfl, hh, Nat.le_refl _, rfl, S0.trans s3, s3 _ _ upd_same, Nat.zero_le _, KvF.nil, hR.symm, fun h4 => (by rw [hb3] at h4; cases h4), fun l4 h4 => ?_⟩
      rw [hb3] at h4
      injection h4 with h4
      subst h4
      exact ⟨e3, more3, rfl, (fun z => by rw [z, upd_same] at he3; cases he3), h31, h32⟩
end
end B80

set_option autoImplicit true
set_option Elab.async false
set_option linter.all false
set_option maxRecDepth 100000
set_option maxHeartbeats 8000000
namespace B80
open PySem L2
/-! ### the drum put home -/
def emptyL (j : Nat) : List (Nat × List Nat) := (List.range j).map fun i => (6 + i, [])
def recIm (m j h : Nat) (r : List (List Nat)) : List (List Nat) :=
  withB ([m, j, (bring ([m, j, h] :: r) j (60000 - h) h (fun _ => none)).2] :: r) (putF (bring ([m, j, h] :: r) j (60000 - h) h (fun _ => none)).1 (emptyL j))
def spPut (K : PySem.W.Frag) : Sp := fun vs H Q _ => ∃ (x : V) (m j h : Nat) (r : List (List Nat)), vs = [x] ∧ Dp K H x (imD ([m, j, h] :: r)) ∧ j ≤ 100 ∧ 6 + j ≤ r.length ∧ r.length ≤ 999 ∧ (∀ b ∈ r, b.length ≤ 1000) ∧ h ≤ 60000 ∧
  ∀ H' y, Same H H' → Dp K H' y (imD (recIm m j h r)) → Q y H'
section
variable {P : Program} {w : World} {K : PySem.W.Frag} {mg : Str → Option Value} {base : Heap} {a : Nat → Addr} {fd : Nat → FuncData} {C : Addr}
theorem ok_put_home (T : Txt K mg a fd) : FnOk P w K mg base CX0 5 (a 20) (fd 20) ["image"] (spPut K) := by
  have G_brought_home := ok_brought_home (P := P) (w := w) (base := base) T
  have G_journal_of := ok_journal_of (P := P) (w := w) (base := base) T
  have G_with_home := ok_with_home (P := P) (w := w) (base := base) T
  have G_with_blocks := ok_with_blocks (P := P) (w := w) (base := base) T
  refine T.F_put_home.ok sc_put_home (fun vs H Q E h => ?_) (fun cdv A outer s H vs Q E hr h => ?_)
  · obtain ⟨_, _, _, _, _, rfl, _⟩ := h; rfl
  · obtain ⟨x, m, j, h, r, rfl, hd, hj, hjr, hr1, hrb, hh, k⟩ := h
    refine ⟨_, pss_cons (ps_asg (pe_call G_brought_home (hr.mono (by first | decide | omega)) rfl T.m_brought_home T.F_brought_home.kp T.b_brought_home .nil pass0 (pa_cons (pv 0) pa_nil)) (pg_tup rfl (pgs_cons (pg_name (i := 1) sc_put_home.nd rfl (Or.inl rfl)) (pgs_cons (pg_name (i := 2) sc_put_home.nd rfl (Or.inl rfl)) pgs_nil))))
    (pss_cons (ps_expr (pe_bm PySem.F.plainAttrs_dict PySem.F.slot_dict_update PySem.F.type_dict_update mtd_update (pv 1) (pa_cons (pe_dc (own := [("at", 3)]) (g := gName 3) (tt := tYes) (by rfl) sc_put_home.nd (pi_list (pe_call G_journal_of (hr.mono (by first | decide | omega)) rfl T.m_journal_of T.F_journal_of.kp T.b_journal_of .nil pass0 (pa_cons (pv 0) pa_nil))) (blkOk_by (own := [("at", 3)]) (N := N_put_home) (sc := defScope s_put_home) (by decide +kernel)) (fun _ _ _ _ _ => pg_name (i := 3) sc_put_home.nd rfl (Or.inl rfl)) (fun _ _ _ _ _ => pts_nil) (fun _ _ _ _ _ => (pv 3)) (fun _ _ _ _ _ => (pe_tup pa_nil))) pa_nil)))
    (pss_one (ps_ret (pe_call G_with_blocks (hr.mono (by first | decide | omega)) rfl T.m_with_blocks T.F_with_blocks.kp T.b_with_blocks .nil pass0 (pa_cons (pe_call G_with_home (hr.mono (by first | decide | omega)) rfl T.m_with_home T.F_with_home.kp T.b_with_home .nil pass0 (pa_cons (pv 0) (pa_cons (pv 2) pa_nil))) (pa_cons (pv 1) pa_nil)))))), ?_⟩
    refine ⟨_, rfl, x, m, j, h, r, rfl, hd, hj, hjr, by omega, hrb, hh, fun H1 t d kvs s1 ht hdn h1t h1d hkl hkv => ?_⟩
    refine ⟨_, _, rfl, .of h1t, rfl, _, _, rfl, _, _, rfl, rfl, ?_⟩
    refine ⟨_, rfl, .inr (.inr (.inl ⟨rfl, .inl ⟨kvs, h1d⟩⟩)), ?_⟩
    have hd1 : Dp K H1 x (imD ([m, j, h] :: r)) := hd.same s1
    refine ⟨_, rfl, x, m, j, h, r, rfl, hd1, by omega, fun H2 p s2 hp2 h2p => ⟨_, rfl, ⟨_, .of h2p⟩, fun D hD => ?_⟩⟩
    obtain ⟨R, hR⟩ : ∃ R, R = bring ([m, j, h] :: r) j (60000 - h) h (fun _ => none) := ⟨_, rfl⟩
    unfold recIm at k
    rw [← hR] at k hkv ⊢
    refine dc_same (walk_map (f := fun i => V.int (6 + i : Nat)) (xs := List.range j)) hD (fun jx H' acc => Both (fun (kv : Key × V) p => kv.1 = Sum.inl ((p.1 : Nat) : Int) ∧ Dp K H' kv.2 (blkD p.2)) acc ((emptyL j).take jx)) .nil (fun H' s3 => s3.seq (.of h2p)) (fun jx y H3 H4 acc hjx s3 hacc hp hy => ?_) (fun H3 acc s3 hacc hp => ?_)
    · obtain ⟨rfl, i, hir, rfl⟩ := hy
      have hij : i = jx := by
        rw [List.getElem?_range (by simpa using hjx)] at hir
        injection hir with hir
        exact hir.symm
      subst hij
      have hij2 : i < j := by simpa using hjx
      refine ⟨rfl, ?_⟩
      refine ⟨_, rfl, sizeOf (by simp), fun q hq => ?_⟩
      have la := hp.length
      rw [List.length_take] at la
      have he : (emptyL j)[i]? = some (6 + i, []) := by unfold emptyL; rw [List.getElem?_map, List.getElem?_range hij2]; rfl
      refine ⟨acc, Sum.inl ((6 + i : Nat) : Int), rfl, keepN hacc hq, by unfold sizeLine; omega, (s3.upd_new hq).own hD, _, upd_same, ?_⟩
      have hk : (Sum.inl ((6 + i : Nat) : Int) : Key) ∉ acc.map (·.1) := by
        rw [Both.keys hp]
        intro z
        obtain ⟨pr, hpr, e⟩ := List.mem_map.mp z
        unfold emptyL at hpr
        rw [← List.map_take] at hpr
        obtain ⟨u, hu, rfl⟩ := List.mem_map.mp hpr
        rw [List.take_range] at hu
        have := List.mem_range.mp hu
        injection e with e
        have e' : ((6 + u : Nat) : Int) = ((6 + i : Nat) : Int) := e
        omega
      rw [putK_newX hk, takeNext he]
      have nq : q ≠ D := fun z => by rw [z, hacc] at hq; cases hq
      refine Both.app (hp.mono fun kv p hh => ⟨hh.1, blk_set (hh.2.same (Same.upd_new (Same.refl _) hq)) (keepN hacc hq)⟩) (.one ⟨rfl, .tup (.of ?_) .nil⟩)
      rw [upd_ne nq]; exact upd_same
    · rw [List.length_range, List.take_of_length_le (by unfold emptyL; simp)] at hp
      have ld : acc.length = j := by rw [hp.length]; unfold emptyL; simp
      have s4 : Same H1 H3 := (s2.trans (Same.refl _)).trans s3
      have h3d : H3 d = some (.dK kvs) := s4 _ _ h1d
      have ndD : d ≠ D := fun z => by rw [← z, s2 _ _ h1d] at hD; cases hD
      refine ⟨d, D, kvs, acc, rfl, rfl, ndD, h3d, hacc, by unfold sizeLine; omega, ?_⟩
      have kv2 : KvF K (upd H3 d (.dK (mergeK kvs acc))) (mergeK kvs acc) (putF R.1 (emptyL j)) := KvF.set (KvF.merge hp (hkv.same s4)) h3d
      have s5 : Same H (upd H3 d (.dK (mergeK kvs acc))) := (s1.trans s4).own hdn
      refine ⟨_, rfl, _, rfl, x, m, j, h, R.2, r, rfl, hd.same s5, by omega, fun H5 y s6 hy => ?_⟩
      refine ⟨_, rfl, y, d, _, _, rfl, hy, ⟨mergeK kvs acc, s6 _ _ upd_same, kv2.same s6⟩, by show r.length + 1 ≤ 1000; omega, fun H6 y2 s7 hy2 => ?_⟩
      exact k _ _ ((s5.trans s6).trans s7) hy2
end
end B80

set_option autoImplicit true
set_option Elab.async false
set_option linter.all false
set_option maxRecDepth 100000
set_option maxHeartbeats 8000000
namespace B80
open PySem L2
/-! ### recovered -/
def spRec (K : PySem.W.Frag) (C : Addr) : Sp := fun vs H Q E => ∃ x : V, vs = [x] ∧ ((∃ d, Dp K H x d ∧ (∀ ds, d ≠ .tuple ds) ∧ ∀ H', Same H H' → E (.ref C) none H') ∨
  ∃ (b : List Nat) (r : List (List Nat)), Dp K H x (imD (b :: r)) ∧ r.length ≤ 1000 ∧ (∀ c ∈ b :: r, c.length ≤ 1000) ∧
    ((imOk (b :: r) && headOk (b :: r)) = false → ∀ H', Same H H' → E (.ref C) none H') ∧
    (∀ m j h, b = [m, j, h] → imOk (b :: r) = true → headOk (b :: r) = true → ∀ H' y, Same H H' → Dp K H' y (imD (recIm m j h r)) → Q y H'))
def spNeed2 (K : PySem.W.Frag) : Sp := fun vs H Q _ => ∃ (x : V) (im : List (List Nat)), vs = [x] ∧ Dp K H x (imD im) ∧ im.length ≤ 100000 ∧ (∀ b ∈ im, b.length ≤ 100000) ∧ imOk im = true ∧ ∀ H', Same H H' → Q .non H'
def spNeedHead2 (K : PySem.W.Frag) : Sp := fun vs H Q _ => ∃ (x : V) (b : List Nat) (r : List (List Nat)), vs = [x] ∧ Dp K H x (imD (b :: r)) ∧ headOk (b :: r) = true ∧ ∀ H', Same H H' → Q .non H'
def spRec2 (K : PySem.W.Frag) : Sp := fun vs H Q _ => ∃ (x : V) (m j h : Nat) (r : List (List Nat)), vs = [x] ∧ Dp K H x (imD ([m, j, h] :: r)) ∧ imOk ([m, j, h] :: r) = true ∧ headOk ([m, j, h] :: r) = true ∧
  ∀ H' y, Same H H' → Dp K H' y (imD (recIm m j h r)) → Q y H'
section
variable {P : Program} {w : World} {K : PySem.W.Frag} {mg : Str → Option Value} {base : Heap} {a : Nat → Addr} {fd : Nat → FuncData} {C : Addr}
theorem okx_recovered (T : Txt K mg a fd) (X_InvalidImage : Exc_InvalidImage K mg C) : FnOk P w K mg base (L2.CX P w) 6 (a 21) (fd 21) ["image"] (spRec K C) := by
  have GX_need_blocks := okx_need_blocks (P := P) (w := w) (base := base) T X_InvalidImage
  have GX_need_head := okx_need_head (P := P) (w := w) (base := base) T X_InvalidImage
  have G_put_home := ok_put_home (P := P) (w := w) (base := base) T
  refine T.F_recovered.okX sc_recovered (fun vs H Q E h => ?_) (fun cdv A outer s H vs Q E hr h => ?_)
  · obtain ⟨_, rfl, _⟩ := h; rfl
  · obtain ⟨x, rfl, h⟩ := h
    refine ⟨_, pss_cons (ps_expr (pe_callS GX_need_blocks (hr.mono (by first | decide | omega)) rfl T.m_need_blocks T.F_need_blocks.kp T.b_need_blocks (fun σ => passAt (takes_of rfl rfl rfl rfl) σ) (pa_cons (pv 0) pa_nil)))
    (pss_cons (ps_expr (pe_callS GX_need_head (hr.mono (by first | decide | omega)) rfl T.m_need_head T.F_need_head.kp T.b_need_head (fun σ => passAt (takes_of rfl rfl rfl rfl) σ) (pa_cons (pv 0) pa_nil)))
    (pss_one (ps_ret (pe_call G_put_home (hr.mono (by first | decide | omega)) rfl T.m_put_home T.F_put_home.kp T.b_put_home .nil pass0 (pa_cons (pv 0) pa_nil))))), ?_⟩
    rcases h with ⟨d, hd, hn, k⟩ | ⟨b, r, hd, hl, hbl, k2, k1⟩
    · exact ⟨_, rfl, x, rfl, .inl ⟨d, hd, hn, k⟩⟩
    · refine ⟨_, rfl, x, rfl, .inr ⟨b :: r, hd, by rw [List.length_cons]; omega, fun c hc => Nat.le_trans (hbl c hc) (by decide), fun h1 H1 s1 => ?_, fun h1 => k2 (by rw [h1]; rfl)⟩⟩
      refine ⟨_, rfl, x, b, r, rfl, hd.same s1, fun h2 H2 s2 => ?_, fun h2 H2 s2 => k2 (by rw [h2, Bool.and_false]) _ (s1.trans s2)⟩
      have h2' := h2
      unfold headOk at h2'
      split at h2'
      · rename_i m j h r' e
        injection e with e1 e2
        subst e1; subst e2
        simp only [Bool.and_eq_true, decide_eq_true_eq, List.length_cons] at h2'
        obtain ⟨⟨⟨p1, p2, p3⟩, p4, p5⟩, p6⟩ := h2'
        have h1' := h1
        unfold imOk at h1'
        simp only [Bool.and_eq_true, decide_eq_true_eq, List.length_cons] at h1'
        refine ⟨_, rfl, x, m, j, h, r, rfl, (hd.same s1).same s2, by omega, by omega, by omega, fun c hc => hbl c (List.mem_cons_of_mem _ hc), p5, fun H3 y s3 hy => ?_⟩
        exact k1 m j h rfl h1 h2 _ _ ((s1.trans s2).trans s3) hy
      · cases h2'
theorem ok_need_blocks (T : Txt K mg a fd) : FnOk P w K mg base CX0 5 (a 5) (fd 5) ["image"] (spNeed2 K) := by
  have G_are_blocks := ok_are_blocks (P := P) (w := w) (base := base) T
  refine T.F_need_blocks.ok sc_need_blocks (fun vs H Q E h => ?_) (fun cdv A outer s H vs Q E hr h => ?_)
  · obtain ⟨_, _, rfl, _⟩ := h; rfl
  · obtain ⟨x, im, rfl, hd, hl, hbl, h, k⟩ := h
    refine ⟨_, pss_one (ps_if (pt_not (pt_val (pe_call G_are_blocks (hr.mono (by first | decide | omega)) rfl T.m_are_blocks T.F_are_blocks.kp T.b_are_blocks .nil pass0 (pa_cons (pv 0) pa_nil)))) (pss_one (ps_never)) pss_nil), ?_⟩
    refine ⟨_, rfl, x, rfl, .inr ⟨im, hd, hl, hbl, fun H' S => ⟨_, rfl, ?_⟩⟩⟩
    rw [h]
    refine iteF ?_
    exact k H' S
theorem ok_need_head (T : Txt K mg a fd) : FnOk P w K mg base CX0 3 (a 10) (fd 10) ["image"] (spNeedHead2 K) := by
  have G_has_head := ok_has_head (P := P) (w := w) (base := base) T
  refine T.F_need_head.ok sc_need_head (fun vs H Q E h => ?_) (fun cdv A outer s H vs Q E hr h => ?_)
  · obtain ⟨_, _, _, rfl, _⟩ := h; rfl
  · obtain ⟨x, b, r, rfl, hd, h, k⟩ := h
    refine ⟨_, pss_one (ps_if (pt_not (pt_val (pe_call G_has_head (hr.mono (by first | decide | omega)) rfl T.m_has_head T.F_has_head.kp T.b_has_head .nil pass0 (pa_cons (pv 0) pa_nil)))) (pss_one (ps_never)) pss_nil), ?_⟩
    refine ⟨_, rfl, x, b, r, rfl, hd, fun H' S => ⟨_, rfl, ?_⟩⟩
    rw [h]
    refine iteF ?_
    exact k H' S
theorem ok_recovered (T : Txt K mg a fd) : FnOk P w K mg base CX0 6 (a 21) (fd 21) ["image"] (spRec2 K) := by
  have G_need_blocks := ok_need_blocks (P := P) (w := w) (base := base) T
  have G_need_head := ok_need_head (P := P) (w := w) (base := base) T
  have G_put_home := ok_put_home (P := P) (w := w) (base := base) T
  refine T.F_recovered.ok sc_recovered (fun vs H Q E h => ?_) (fun cdv A outer s H vs Q E hr h => ?_)
  · obtain ⟨_, _, _, _, _, rfl, _⟩ := h; rfl
  · obtain ⟨x, m, j, h, r, rfl, hd, h1, h2, k1⟩ := h
    refine ⟨_, pss_cons (ps_expr (pe_call G_need_blocks (hr.mono (by first | decide | omega)) rfl T.m_need_blocks T.F_need_blocks.kp T.b_need_blocks .nil pass0 (pa_cons (pv 0) pa_nil)))
    (pss_cons (ps_expr (pe_call G_need_head (hr.mono (by first | decide | omega)) rfl T.m_need_head T.F_need_head.kp T.b_need_head .nil pass0 (pa_cons (pv 0) pa_nil)))
    (pss_one (ps_ret (pe_call G_put_home (hr.mono (by first | decide | omega)) rfl T.m_put_home T.F_put_home.kp T.b_put_home .nil pass0 (pa_cons (pv 0) pa_nil))))), ?_⟩
    have h1' := h1
    unfold imOk at h1'
    simp only [Bool.and_eq_true, decide_eq_true_eq, List.length_cons] at h1'
    have hbl : ∀ c ∈ [m, j, h] :: r, c.length ≤ 64 := fun c hc => by
      have := List.all_eq_true.mp h1'.2 c hc
      unfold blkOk at this
      simp only [Bool.and_eq_true, decide_eq_true_eq] at this
      exact this.1.1
    refine ⟨_, rfl, x, _, rfl, hd, by rw [List.length_cons]; omega, fun c hc => Nat.le_trans (hbl c hc) (by decide), h1, fun H1 s1 => ?_⟩
    refine ⟨_, rfl, x, _, r, rfl, hd.same s1, h2, fun H2 s2 => ?_⟩
    have h2' := h2
    unfold headOk at h2'
    simp only [Bool.and_eq_true, decide_eq_true_eq, List.length_cons] at h2'
    obtain ⟨⟨⟨p1, p2, p3⟩, p4, p5⟩, p6⟩ := h2'
    refine ⟨_, rfl, x, m, j, h, r, rfl, (hd.same s1).same s2, by omega, by omega, by omega, fun c hc => Nat.le_trans (hbl c (List.mem_cons_of_mem _ hc)) (by decide), p5, fun H3 y s3 hy => ?_⟩
    exact k1 _ _ ((s1.trans s2).trans s3) hy
end
end B80

set_option autoImplicit true
set_option Elab.async false
set_option linter.all false
set_option maxRecDepth 100000
set_option maxHeartbeats 8000000
namespace B80
open PySem L2 XD
section
variable {P : Program} {w : World} {K : PySem.W.Frag} {mg : Str → Option Value} {base : Heap} {a : Nat → Addr} {fd : Nat → FuncData} {cl : String → Value}
noncomputable def den__law_urn : DS := (dSeq (dSet 2 (d2 fAdd (d2 fMul (dC (.int 331)) (dPk 1)) (dC (.int 17))))
    (dSeq (dFor (dEnum (dSlcV slL 0 dNo (dPart (dC (.int 63))))) (.tp ((.nm 3) :: (.nm 4) :: [])) (dSet 2 (d2 fMod (d1 fInt (d2 fAdd (d2 fAdd (d2 fMul (dVar 2) (dC (.int 48271))) (d2 fMul (d2 fMod (d1 fInt (dPk 4)) (d2 fAdd (d2 fPow (dC (.int 10)) (dC (.int 23))) (dC (.int 117)))) (d2 fAdd (d2 fMul (dC (.int 2)) (dPk 3)) (dC (.int 7))))) (dC (.int 11)))) (d2 fAdd (d2 fPow (dC (.int 10)) (dC (.int 29))) (dC (.int 319))))))
    (dSeq (dSet 5 (dIfE (dB (d2 fLt (dVar 1) (d1 fLen (dPk 0)))) (d1 fAbs (d1 fInt (d2V ixF 0 (dVar 1)))) (dC (.int 0))))
    (dRetF (dLst (dCons (dIfE (dB (d2 fGe (dVar 5) (d2 fPow (dC (.int 10)) (dC (.int 18))))) (dVar 5) (dC (.int 0))) (dCons (dVar 2) (dCons (dVar 1) dNil))))))))
noncomputable def _law_urn_d : Fn := fnD 6 den__law_urn
theorem d__law_urn (T : Txt K mg a fd) : FnOk P w K mg base (L2.CX P w) 1 (a 22) (fd 22) ["script", "k"] (spD (⟨K, cl⟩ : Ct) 2 _law_urn_d) := by
  refine T.F__law_urn.okX sc__law_urn (fun vs H Q E h => h.1) (fun cdv A outer s H vs Q E hr h => ?_)
  refine ⟨_, (pss_cons (ps_set (i := 2) sc__law_urn.nd rfl (Or.inl rfl) (pe_op op_add (pe_op op_mul pe_int (pv 1)) pe_int))
    (pss_cons (ps_for (passes_of rfl) rfl (pi_enumA (by rfl) T.n_enumerate (pa_cons (pe_slice (show SlR _ (rSlL K) from sl_list) (pv 0) po_none (po_some pe_int)) pa_nil)) (pg_tup rfl (pgs_cons (pg_name (i := 3) sc__law_urn.nd rfl (Or.inl rfl)) (pgs_cons (pg_name (i := 4) sc__law_urn.nd rfl (Or.inl rfl)) pgs_nil))) (pss_one (ps_set (i := 2) sc__law_urn.nd rfl (Or.inl rfl) (pe_op op_mod (pe_callTy call_intI (by rfl) T.n_int (by decide +kernel) (pa_cons (pe_op op_add (pe_op op_add (pe_op op_mul (pv 2) pe_int) (pe_op op_mul (pe_op op_mod (pe_callTy call_intI (by rfl) T.n_int (by decide +kernel) (pa_cons (pv 4) pa_nil)) (pe_op op_add (pe_op op_pow pe_int pe_int) pe_int)) (pe_op op_add (pe_op op_mul pe_int (pv 3)) pe_int))) pe_int) pa_nil)) (pe_op op_add (pe_op op_pow pe_int pe_int) pe_int)))))
    (pss_cons (ps_set (i := 5) sc__law_urn.nd rfl (Or.inl rfl) (pe_ifExp (pt_cmpR op_lt (pv 1) (pe_callB (show CallR _ _ (rLenS K) from call_len_seq) (by rfl) T.n_len PySem.boot_len (pa_cons (pv 0) pa_nil)) (nomark _)) (pe_callB call_abs (by rfl) T.n_abs (by decide +kernel) (pa_cons (pe_callTy call_intI (by rfl) T.n_int (by decide +kernel) (pa_cons (pe_ix (show IxR _ (rIx K) from ix_seq) (pv 0) (pv 1) (fun _ _ => rfl)) pa_nil)) pa_nil)) pe_int))
    (pss_one (ps_ret (pe_lst (pa_cons (pe_ifExp (pt_cmpR op_ge (pv 5) (pe_op op_pow pe_int pe_int) (nomark _)) (pv 5) pe_int) (pa_cons (pv 2) (pa_cons (pv 1) pa_nil))))))))), ?_⟩
  exact fn_sim (C := ⟨K, cl⟩) (b := den__law_urn) (s_seq (s_set (s_op (s_op s_int s_pk o_mul) (SimE.p s_int) o_add))
    (s_seq (s_for (s_enum (SimF.e (s_slcVF s_no (s_part s_int) o_slL))) (g_tp rfl (gs_cons g_nm (gs_cons g_nm gs_nil))) (s_set (s_op (s_cb1 (SimE.p (s_op (s_op (s_op s_var (SimE.p s_int) o_mul) (SimE.p (s_op (s_op (s_cb1 s_pk o_int) (SimE.p (s_op (s_op s_int (SimE.p s_int) o_pow) (SimE.p s_int) o_add)) o_mod) (SimE.p (s_op (s_op s_int s_pk o_mul) (SimE.p s_int) o_add)) o_mul)) o_add) (SimE.p s_int) o_add)) o_int) (SimE.p (s_op (s_op s_int (SimE.p s_int) o_pow) (SimE.p s_int) o_add)) o_mod)))
    (s_seq (s_set (s_ifE (s_b (s_op s_var (SimE.p (s_cb1 s_pk o_len)) o_lt)) (s_cb1 (SimE.p (s_cb1 (SimE.p (s_opV s_var o_ix)) o_int)) o_abs) s_int))
    (s_retF (s_lst (s_cons (s_ifE (s_b (s_op s_var (SimE.p (s_op s_int (SimE.p s_int) o_pow)) o_ge)) s_var s_int) (s_cons s_var (s_cons s_var s_nil)))))))) (by decide) h
noncomputable def den__law_of : DS := (dSeq (dIf (dB (d2 fGt (d2V ixF 0 (dC (.int 0))) (dC (.int 0)))) (dSeq (dSet 2 (d2 fMod (d1 fInt (d2V ixF 0 (dC (.int 0)))) (dPk 1)))
    (dSeq (dSetAt 0 (dC (.int 0)) (d2 fDiv (d2V ixF 0 (dC (.int 0))) (dPk 1)))
    (dRetA 2))) dNext)
    (dSeq (dSetAt 0 (dC (.int 2)) (d2 fAdd (d2V ixF 0 (dC (.int 2))) (dC (.int 1))))
    (dSeq (dSet 3 (d2 fMod (d1 fInt (d2 fAdd (d2 fPowW (d2 fAdd (d2V ixF 0 (dC (.int 1))) (d2 fMul (d2V ixF 0 (dC (.int 2))) (dC (.int 15485867)))) (dC (.int 2))) (d2V ixF 0 (dC (.int 2))))) (d2 fAdd (d2 fPow (dC (.int 10)) (dC (.int 27))) (dC (.int 103)))))
    (dSeq (dSetAt 0 (dC (.int 1)) (d2 fMod (d1 fInt (d2 fAdd (d2 fAdd (d2 fMul (d2V ixF 0 (dC (.int 1))) (dC (.int 3))) (dPk 3)) (dC (.int 5)))) (d2 fAdd (d2 fPow (dC (.int 10)) (dC (.int 29))) (dC (.int 319)))))
    (dRet (d2 fMod (d1 fInt (d2 fDiv (dVar 3) (dC (.int 999983)))) (dPk 1)))))))
noncomputable def _law_of_d : Fn := fnD 4 den__law_of
theorem d__law_of (T : Txt K mg a fd) : FnOk P w K mg base (L2.CX P w) 1 (a 23) (fd 23) ["urn", "many"] (spD (⟨K, cl⟩ : Ct) 2 _law_of_d) := by
  refine T.F__law_of.okX sc__law_of (fun vs H Q E h => h.1) (fun cdv A outer s H vs Q E hr h => ?_)
  refine ⟨_, (pss_cons (ps_if (pt_cmpR op_gt (pe_ix (show IxR _ (rIx K) from ix_seq) (pv 0) pe_int (fun _ _ => rfl)) pe_int (nomark _)) (pss_cons (ps_set (i := 2) sc__law_of.nd rfl (Or.inl rfl) (pe_op op_mod (pe_callTy call_intI (by rfl) T.n_int (by decide +kernel) (pa_cons (pe_ix (show IxR _ (rIx K) from ix_seq) (pv 0) pe_int (fun _ _ => rfl)) pa_nil)) (pv 1)))
    (pss_cons (ps_asg (pe_op op_fdiv (pe_ix (show IxR _ (rIx K) from ix_seq) (pv 0) pe_int (fun _ _ => rfl)) (pv 1)) (pg_sub (pv 0) pe_int set_list))
    (pss_one (ps_ret (pv 2))))) pss_nil)
    (pss_cons (ps_asg (pe_op op_add (pe_ix (show IxR _ (rIx K) from ix_seq) (pv 0) pe_int (fun _ _ => rfl)) pe_int) (pg_sub (pv 0) pe_int set_list))
    (pss_cons (ps_set (i := 3) sc__law_of.nd rfl (Or.inl rfl) (pe_op op_mod (pe_callTy call_intI (by rfl) T.n_int (by decide +kernel) (pa_cons (pe_op op_add (pe_op op_powW (pe_op op_add (pe_ix (show IxR _ (rIx K) from ix_seq) (pv 0) pe_int (fun _ _ => rfl)) (pe_op op_mul (pe_ix (show IxR _ (rIx K) from ix_seq) (pv 0) pe_int (fun _ _ => rfl)) pe_int)) pe_int) (pe_ix (show IxR _ (rIx K) from ix_seq) (pv 0) pe_int (fun _ _ => rfl))) pa_nil)) (pe_op op_add (pe_op op_pow pe_int pe_int) pe_int)))
    (pss_cons (ps_asg (pe_op op_mod (pe_callTy call_intI (by rfl) T.n_int (by decide +kernel) (pa_cons (pe_op op_add (pe_op op_add (pe_op op_mul (pe_ix (show IxR _ (rIx K) from ix_seq) (pv 0) pe_int (fun _ _ => rfl)) pe_int) (pv 3)) pe_int) pa_nil)) (pe_op op_add (pe_op op_pow pe_int pe_int) pe_int)) (pg_sub (pv 0) pe_int set_list))
    (pss_one (ps_ret (pe_op op_mod (pe_callTy call_intI (by rfl) T.n_int (by decide +kernel) (pa_cons (pe_op op_fdiv (pv 3) pe_int) pa_nil)) (pv 1)))))))), ?_⟩
  exact fn_sim (C := ⟨K, cl⟩) (b := den__law_of) (s_seq (s_if (s_b (s_op (s_opV s_int o_ix) (SimE.p s_int) o_gt)) (s_seq (s_set (s_op (s_cb1 (SimE.p (s_opV s_int o_ix)) o_int) s_pk o_mod))
    (s_seq (s_setAt (s_op (s_opV s_int o_ix) s_pk o_div) s_int)
    s_retA)) s_next)
    (s_seq (s_setAt (s_op (s_opV s_int o_ix) (SimE.p s_int) o_add) s_int)
    (s_seq (s_set (s_op (s_cb1 (SimE.p (s_op (s_op (s_op (s_opV s_int o_ix) (SimE.p (s_op (s_opV s_int o_ix) (SimE.p s_int) o_mul)) o_add) (SimE.p s_int) o_powW) (SimE.p (s_opV s_int o_ix)) o_add)) o_int) (SimE.p (s_op (s_op s_int (SimE.p s_int) o_pow) (SimE.p s_int) o_add)) o_mod))
    (s_seq (s_setAt (s_op (s_cb1 (SimE.p (s_op (s_op (s_op (s_opV s_int o_ix) (SimE.p s_int) o_mul) s_pk o_add) (SimE.p s_int) o_add)) o_int) (SimE.p (s_op (s_op s_int (SimE.p s_int) o_pow) (SimE.p s_int) o_add)) o_mod) s_int)
    (s_ret (s_op (s_cb1 (SimE.p (s_op s_var (SimE.p s_int) o_div)) o_int) s_pk o_mod)))))) (by decide) h
noncomputable def den__law_one : DS := (dRet (d2V ixF 1 (dCall _law_of_d (.io 0 :: (.e (d1 fLen (dPk 1)) :: [])))))
noncomputable def _law_one_d : Fn := fnD 2 den__law_one
theorem d__law_one (T : Txt K mg a fd) : FnOk P w K mg base (L2.CX P w) 2 (a 24) (fd 24) ["urn", "some"] (spD (⟨K, cl⟩ : Ct) 2 _law_one_d) := by
  have GX__law_of := d__law_of (P := P) (w := w) (base := base) (cl := cl) T
  refine T.F__law_one.okX sc__law_one (fun vs H Q E h => h.1) (fun cdv A outer s H vs Q E hr h => ?_)
  refine ⟨_, (pss_one (ps_ret (pe_ix (show IxR _ (rIx K) from ix_seq) (pv 1) (pe_callS GX__law_of (hr.mono (by first | decide | omega)) rfl T.m__law_of T.F__law_of.kp T.b__law_of (fun σ => passAt (takes_of rfl rfl rfl rfl) σ) (pa_cons (pv 0) (pa_cons (pe_callB (show CallR _ _ (rLenS K) from call_len_seq) (by rfl) T.n_len PySem.boot_len (pa_cons (pv 1) pa_nil)) pa_nil))) (fun _ _ => rfl)))), ?_⟩
  exact fn_sim (C := ⟨K, cl⟩) (b := den__law_one) (s_ret (s_opV (s_call rfl (sa_io (sa_d (s_cb1 s_pk o_len) sa_nil))) o_ix)) (by decide) h
noncomputable def den__law_turned : DS := (dSeq (dMix [2, 3] (.f (d1 fList (dPk 1)) :: (.f (dLst dNil) :: [])))
    (dSeq (dFor (dRng1 (d1 fLen (dPk 2))) (.nm 4) (dDrop (dM1 3 mApp (dM1 2 mPopAt (dCall _law_of_d (.io 0 :: (.e (d1 fLen (dPk 2)) :: [])))))))
    (dRetA 3)))
noncomputable def _law_turned_d : Fn := fnD 5 den__law_turned
theorem d__law_turned (T : Txt K mg a fd) : FnOk P w K mg base (L2.CX P w) 2 (a 25) (fd 25) ["urn", "some"] (spD (⟨K, cl⟩ : Ct) 2 _law_turned_d) := by
  have GX__law_of := d__law_of (P := P) (w := w) (base := base) (cl := cl) T
  refine T.F__law_turned.okX sc__law_turned (fun vs H Q E h => h.1) (fun cdv A outer s H vs Q E hr h => ?_)
  refine ⟨_, (pss_cons (ps_par (i := 2) (j := 3) (by rfl) sc__law_turned.nd rfl rfl (by decide) rfl rfl (pa_cons (pe_callTy (show CallR _ _ (rListS K) from call_list_of) (by rfl) T.n_list (by decide +kernel) (pa_cons (pv 1) pa_nil)) (pa_cons (pe_lst pa_nil) pa_nil)) (by rfl))
    (pss_cons (ps_for (passes_of rfl) rfl (pi_range1 (by rfl) T.n_range (pa_cons (pe_callB (show CallR _ _ (rLenS K) from call_len_seq) (by rfl) T.n_len PySem.boot_len (pa_cons (pv 2) pa_nil)) pa_nil)) (pg_name (i := 4) sc__law_turned.nd rfl (Or.inl rfl)) (pss_one (ps_expr (pe_bm PySem.F.plainAttrs_list PySem.F.slot_list_append PySem.F.type_list_append mt_append (pv 3) (pa_cons (pe_bm PySem.F.plainAttrs_list PySem.F.slot_list_pop PySem.F.type_list_pop mt_popAt (pv 2) (pa_cons (pe_callS GX__law_of (hr.mono (by first | decide | omega)) rfl T.m__law_of T.F__law_of.kp T.b__law_of (fun σ => passAt (takes_of rfl rfl rfl rfl) σ) (pa_cons (pv 0) (pa_cons (pe_callB (show CallR _ _ (rLenS K) from call_len_seq) (by rfl) T.n_len PySem.boot_len (pa_cons (pv 2) pa_nil)) pa_nil))) pa_nil)) pa_nil)))))
    (pss_one (ps_ret (pv 3))))), ?_⟩
  exact fn_sim (C := ⟨K, cl⟩) (b := den__law_turned) (s_seq (s_mix2 (sm_f (s_cb1F s_pk o_list) (sm_f (s_lst s_nil) sm_nil)))
    (s_seq (s_for (s_rng1 (s_cb1 s_pk o_len)) g_nm (s_drop (s_m1 (s_m1 (s_call rfl (sa_io (sa_d (s_cb1 s_pk o_len) sa_nil))) o_popAt) o_app)))
    s_retA)) (by decide) h
noncomputable def den__law_block : DS := (dRet (d1 fTuple (dSlc slT (dVar 0) dNo (dPart (d1 fMax (d2 fCat (dLst (dCons (dC (.int 0)) dNil)) (dLc (dEnum (dVar 0)) (.tp ((.nm 1) :: (.nm 2) :: [])) (dB (d2 fNe (dVar 2) (dC (.int 0)))) (d2 fAdd (dVar 1) (dC (.int 1))) [1, 2])))))))
noncomputable def _law_block_d : Fn := fnD 3 den__law_block
theorem d__law_block (T : Txt K mg a fd) : FnOk P w K mg base (L2.CX P w) 1 (a 29) (fd 29) ["figures"] (spD (⟨K, cl⟩ : Ct) 1 _law_block_d) := by
  refine T.F__law_block.okX sc__law_block (fun vs H Q E h => h.1) (fun cdv A outer s H vs Q E hr h => ?_)
  refine ⟨_, (pss_one (ps_ret (pe_callTy (show CallR _ _ (rTupS K) from call_tuple_of) (by rfl) T.n_tuple (by decide +kernel) (pa_cons (pe_slice (show SlR _ (rSlA K) from sl_tupA) (pv 0) po_none (po_some (pe_callB (show CallR _ _ (rMax K) from cr_max rfl) (by rfl) T.n_max (by decide +kernel) (pa_cons (pe_op (show OpR _ _ (rCatR K) from op_catR) (pe_lst (pa_cons pe_int pa_nil)) (pe_lc (own := [("at", 1), ("figure", 2)]) (g := gTup K 2 (gCons (gName 1) (gCons (gName 2) gNil))) (by rfl) sc__law_block.nd (pi_enumA (by rfl) T.n_enumerate (pa_cons (pv 0) pa_nil)) (blkOk_by (own := [("at", 1), ("figure", 2)]) (N := N__law_block) (sc := defScope s__law_block) (by decide +kernel)) (fun _ _ _ _ _ => (pg_tup rfl (pgs_cons (pg_name (i := 1) sc__law_block.nd rfl (Or.inl rfl)) (pgs_cons (pg_name (i := 2) sc__law_block.nd rfl (Or.inl rfl)) pgs_nil)))) (fun _ _ _ _ _ => pts_one (pt_cmpR op_ne (pv 2) pe_int (nomark _))) (fun _ _ _ _ _ => (pe_op op_add (pv 1) pe_int)))) pa_nil)))) pa_nil)))), ?_⟩
  exact fn_sim (C := ⟨K, cl⟩) (b := den__law_block) (s_ret (s_cb1 (SimE.p (s_slc s_var s_no (s_part (s_cb1 (SimE.p (SimF.e (s_opF (SimF.e (s_lst (s_cons s_int s_nil))) (SimE.p (SimF.e (s_lc (vs := [1, 2]) (s_enum s_var) (g_tp rfl (gs_cons g_nm (gs_cons g_nm gs_nil))) (by decide) (s_b (s_op s_var (SimE.p s_int) o_ne)) (s_op s_var (SimE.p s_int) o_add)))) o_cat))) o_max)) o_slT)) o_tuple)) (by decide) h
noncomputable def den__law_figures : DS := (dRetF (d2 fCat (d1 fList (dPk 0)) (d2 fRep (dLst (dCons (dC (.int 0)) dNil)) (d2 fSub (dVar 1) (d1 fLen (dPk 0))))))
noncomputable def _law_figures_d : Fn := fnD 2 den__law_figures
theorem d__law_figures (T : Txt K mg a fd) : FnOk P w K mg base (L2.CX P w) 1 (a 30) (fd 30) ["block", "many"] (spD (⟨K, cl⟩ : Ct) 2 _law_figures_d) := by
  refine T.F__law_figures.okX sc__law_figures (fun vs H Q E h => h.1) (fun cdv A outer s H vs Q E hr h => ?_)
  refine ⟨_, (pss_one (ps_ret (pe_op (show OpR _ _ (rCatR K) from op_catR) (pe_callTy (show CallR _ _ (rListS K) from call_list_of) (by rfl) T.n_list (by decide +kernel) (pa_cons (pv 0) pa_nil)) (pe_op op_rep (pe_lst (pa_cons pe_int pa_nil)) (pe_op op_sub (pv 1) (pe_callB (show CallR _ _ (rLenS K) from call_len_seq) (by rfl) T.n_len PySem.boot_len (pa_cons (pv 0) pa_nil))))))), ?_⟩
  exact fn_sim (C := ⟨K, cl⟩) (b := den__law_figures) (s_retF (s_opF (SimF.e (s_cb1F s_pk o_list)) (SimE.p (SimF.e (s_rep (s_lst (s_cons s_int s_nil)) (s_op s_var (SimE.p (s_cb1 s_pk o_len)) o_sub)))) o_cat)) (by decide) h
noncomputable def den__law_puts_of : DS := (dSeq (dMix [2, 3] (.f (dLst dNil) :: (.f (dLst dNil) :: [])))
    (dSeq (dFor (dItT (dSlc slT (dVar 0) (dPart (dC (.int 6))) (dPart (d2 fAdd (dC (.int 6)) (d2 ixF (d2V ixF 0 (dC (.int 0))) (dC (.int 1))))))) (.nm 4) (dSeq (dSet 5 (dCallF _law_figures_d (.e (dVar 4) :: (.e (dC (.int 3)) :: []))))
    (dSeq (dIf (dAndT (dB (d2V fNeNilT 4 (dTup dNil))) (dAndT (dB (d2 fGt (d1 fLen (dPk 4)) (dC (.int 0)))) (dAndT (dB (d2 fEq (d2V ixF 5 (dC (.int 0))) (dC (.int 2)))) (dAndT (dB (d2 fEq (d2V ixF 5 (dC (.int 1))) (dPk 1))) (dB (d2 fLe (d1 fLen (dPk 4)) (dC (.int 63)))))))) (dDrop (dM1 2 mApp (dTup (dCons (d2V ixF 5 (dC (.int 2))) (dCons (dCall _law_block_d (.e (dSlc slT (dVar 4) (dPart (dC (.int 3))) dNo) :: [])) dNil))))) dNext)
    (dIf (dAndT (dB (d2 fEq (d2V ixF 5 (dC (.int 0))) (dC (.int 3)))) (dAndT (dB (d2 fEq (d2V ixF 5 (dC (.int 1))) (dPk 1))) (dB (d2 fLe (d1 fLen (dPk 4)) (dC (.int 3)))))) (dDrop (dM1 3 mApp (d2V ixF 5 (dC (.int 2))))) dNext))))
    (dSeq (dSetF 6 (dLc (dItL (dVar 2)) (.tp ((.nm 4) :: (.nm 5) :: [])) dYes (dVar 4) [4, 5]))
    (dSeq (dSet 7 (d2 fCat (dLst (dCons (dC (.int 0)) dNil)) (dListRg (dRg2 (dC (.int 6)) (d2 fAdd (dC (.int 6)) (d2 ixF (d2V ixF 0 (dC (.int 0))) (dC (.int 1))))))))
    (dSeq (dIf (dOrT (dB (d2 fGt (dVar 1) (dC (.int 59999)))) (dOrT (dB (d2 (inF true) (d1 fLen (dPk 2)) (dPk 3))) (dB (d2 fNe (d1 fLenSet (dPk 6)) (d1 fLen (dPk 6)))))) (dRet (dC .none)) dNext)
    (dRet (dIfE (dB (d2 fEqNil (dLc (dItL (dVar 6)) (.nm 4) (dOrT (dB (d2V (inF false) 4 (dVar 7))) (dB (d2V fGe 4 (d1 fLen (dPk 0))))) (dVar 4) [4]) (dLst dNil))) (dVar 2) (dC .none))))))))
noncomputable def _law_puts_of_d : Fn := fnD 8 den__law_puts_of
theorem d__law_puts_of (T : Txt K mg a fd) : FnOk P w K mg base (L2.CX P w) 2 (a 27) (fd 27) ["image", "bundle"] (spD (⟨K, cl⟩ : Ct) 2 _law_puts_of_d) := by
  have GX__law_figures := d__law_figures (P := P) (w := w) (base := base) (cl := cl) T
  have GX__law_block := d__law_block (P := P) (w := w) (base := base) (cl := cl) T
  refine T.F__law_puts_of.okX sc__law_puts_of (fun vs H Q E h => h.1) (fun cdv A outer s H vs Q E hr h => ?_)
  refine ⟨_, (pss_cons (ps_par (i := 2) (j := 3) (by rfl) sc__law_puts_of.nd rfl rfl (by decide) rfl rfl (pa_cons (pe_lst pa_nil) (pa_cons (pe_lst pa_nil) pa_nil)) (by rfl))
    (pss_cons (ps_for (passes_of rfl) rfl (pi_tup (pe_slice (show SlR _ (rSlA K) from sl_tupA) (pv 0) (po_some pe_int) (po_some (pe_op op_add pe_int (pe_ix (show IxR _ (rIx K) from ix_seq) (pe_ix (show IxR _ (rIx K) from ix_seq) (pv 0) pe_int (fun _ _ => rfl)) pe_int (fun _ _ => rfl)))))) (pg_name (i := 4) sc__law_puts_of.nd rfl (Or.inl rfl)) (pss_cons (ps_set (i := 5) sc__law_puts_of.nd rfl (Or.inl rfl) (pe_callS GX__law_figures (hr.mono (by first | decide | omega)) rfl T.m__law_figures T.F__law_figures.kp T.b__law_figures (fun σ => passAt (takes_of rfl rfl rfl rfl) σ) (pa_cons (pv 4) (pa_cons pe_int pa_nil))))
    (pss_cons (ps_if (PW.pt (pw_and (pt_cmpR (show OpR _ _ (rNeNilT K) from op_neNilT hr.units0) (pv 4) (pe_tup pa_nil) (nomark _)) (pw_and (pt_cmpR op_gt (pe_callB (show CallR _ _ (rLenS K) from call_len_seq) (by rfl) T.n_len PySem.boot_len (pa_cons (pv 4) pa_nil)) pe_int (nomark _)) (pw_and (pt_cmpR op_eq (pe_ix (show IxR _ (rIx K) from ix_seq) (pv 5) pe_int (fun _ _ => rfl)) pe_int (nomark _)) (pw_and (pt_cmpR op_eq (pe_ix (show IxR _ (rIx K) from ix_seq) (pv 5) pe_int (fun _ _ => rfl)) (pv 1) (nomark _)) (pw_and1 (pt_cmpR op_le (pe_callB (show CallR _ _ (rLenS K) from call_len_seq) (by rfl) T.n_len PySem.boot_len (pa_cons (pv 4) pa_nil)) pe_int (nomark _)))))))) (pss_one (ps_expr (pe_bm PySem.F.plainAttrs_list PySem.F.slot_list_append PySem.F.type_list_append mt_append (pv 2) (pa_cons (pe_tup (pa_cons (pe_ix (show IxR _ (rIx K) from ix_seq) (pv 5) pe_int (fun _ _ => rfl)) (pa_cons (pe_callS GX__law_block (hr.mono (by first | decide | omega)) rfl T.m__law_block T.F__law_block.kp T.b__law_block (fun σ => passAt (takes_of rfl rfl rfl rfl) σ) (pa_cons (pe_slice (show SlR _ (rSlA K) from sl_tupA) (pv 4) (po_some pe_int) po_none) pa_nil)) pa_nil))) pa_nil)))) pss_nil)
    (pss_one (ps_if (PW.pt (pw_and (pt_cmpR op_eq (pe_ix (show IxR _ (rIx K) from ix_seq) (pv 5) pe_int (fun _ _ => rfl)) pe_int (nomark _)) (pw_and (pt_cmpR op_eq (pe_ix (show IxR _ (rIx K) from ix_seq) (pv 5) pe_int (fun _ _ => rfl)) (pv 1) (nomark _)) (pw_and1 (pt_cmpR op_le (pe_callB (show CallR _ _ (rLenS K) from call_len_seq) (by rfl) T.n_len PySem.boot_len (pa_cons (pv 4) pa_nil)) pe_int (nomark _)))))) (pss_one (ps_expr (pe_bm PySem.F.plainAttrs_list PySem.F.slot_list_append PySem.F.type_list_append mt_append (pv 3) (pa_cons (pe_ix (show IxR _ (rIx K) from ix_seq) (pv 5) pe_int (fun _ _ => rfl)) pa_nil)))) pss_nil)))))
    (pss_cons (ps_setLc (i := 6) (own := [("block", 4), ("figures", 5)]) (g := gTup K 2 (gCons (gName 4) (gCons (gName 5) gNil))) (tt := tYes) (by rfl) sc__law_puts_of.nd rfl rfl (sw_true rfl rfl rfl (by decide +kernel)) (pi_list (pv 2)) (blkOk_by (own := [("block", 4), ("figures", 5)]) (N := N__law_puts_of) (sc := defScope s__law_puts_of) (by decide +kernel)) (fun _ _ _ _ _ => (pg_tup rfl (pgs_cons (pg_name (i := 4) sc__law_puts_of.nd rfl (Or.inl rfl)) (pgs_cons (pg_name (i := 5) sc__law_puts_of.nd rfl (Or.inl rfl)) pgs_nil)))) (fun _ _ _ _ _ => pts_nil) (fun _ _ _ _ _ => (pv 4)))
    (pss_cons (ps_set (i := 7) sc__law_puts_of.nd rfl (Or.inr rfl) (pe_op (show OpR _ _ (rCatR K) from op_catR) (pe_lst (pa_cons pe_int pa_nil)) (pe_listRg rfl (by rfl) T.n_list (prg_2 (by rfl) T.n_range pe_int (pe_op op_add pe_int (pe_ix (show IxR _ (rIx K) from ix_seq) (pe_ix (show IxR _ (rIx K) from ix_seq) (pv 0) pe_int (fun _ _ => rfl)) pe_int (fun _ _ => rfl)))))))
    (pss_cons (ps_if (PW.pt (pw_or (pt_cmpR op_gt (pv 1) pe_int (nomark _)) (pw_or (pt_cmpR (show OpR _ _ (rIn K true) from op_notIn_seq) (pe_callB (show CallR _ _ (rLenS K) from call_len_seq) (by rfl) T.n_len PySem.boot_len (pa_cons (pv 2) pa_nil)) (pv 3) rfl) (pw_or1 (pt_cmpR op_ne (pe_lenSetG rfl rfl T.n_len rfl T.n_set (pv 6)) (pe_callB (show CallR _ _ (rLenS K) from call_len_seq) (by rfl) T.n_len PySem.boot_len (pa_cons (pv 6) pa_nil)) (nomark _)))))) (pss_one (ps_ret pe_non)) pss_nil)
    (pss_one (ps_ret (pe_ifExp (pt_cmpR (show OpR _ _ (rEqNil K) from op_eqNil hr.units0) (pe_lc (own := [("block", 4)]) (g := gName 4) (by rfl) sc__law_puts_of.nd (pi_list (pv 6)) (blkOk_by (own := [("block", 4)]) (N := N__law_puts_of) (sc := defScope s__law_puts_of) (by decide +kernel)) (fun _ _ _ _ _ => (pg_name (i := 4) sc__law_puts_of.nd rfl (Or.inl rfl))) (fun _ _ _ _ _ => pts_one (PW.pt (pw_or (pt_cmpR (show OpR _ _ (rIn K false) from op_in_seq) (pv 4) (pv 7) rfl) (pw_or1 (pt_cmpR op_ge (pv 4) (pe_callB (show CallR _ _ (rLenS K) from call_len_seq) (by rfl) T.n_len PySem.boot_len (pa_cons (pv 0) pa_nil)) (nomark _)))))) (fun _ _ _ _ _ => (pv 4))) (pe_lst pa_nil) (nomark _)) (pv 2) pe_non)))))))), ?_⟩
  exact fn_sim (C := ⟨K, cl⟩) (b := den__law_puts_of) (s_seq (s_mix2 (sm_f (s_lst s_nil) (sm_f (s_lst s_nil) sm_nil)))
    (s_seq (s_for (s_itT (s_slc s_var (s_part s_int) (s_part (s_op s_int (SimE.p (s_op (s_opV s_int o_ix) (SimE.p s_int) o_ix)) o_add)) o_slT)) g_nm (s_seq (s_set (SimF.e (s_callF rfl (sa_d s_var (sa_d s_int sa_nil)))))
    (s_seq (s_if (s_andT (s_b (s_opV (s_tup s_nil) o_neNilT)) (s_andT (s_b (s_op (s_cb1 s_pk o_len) (SimE.p s_int) o_gt)) (s_andT (s_b (s_op (s_opV s_int o_ix) (SimE.p s_int) o_eq)) (s_andT (s_b (s_op (s_opV s_int o_ix) s_pk o_eq)) (s_b (s_op (s_cb1 s_pk o_len) (SimE.p s_int) o_le)))))) (s_drop (s_m1 (s_tup (s_cons (s_opV s_int o_ix) (s_cons (s_call rfl (sa_d (s_slc s_var (s_part s_int) s_no o_slT) sa_nil)) s_nil))) o_app)) s_next)
    (s_if (s_andT (s_b (s_op (s_opV s_int o_ix) (SimE.p s_int) o_eq)) (s_andT (s_b (s_op (s_opV s_int o_ix) s_pk o_eq)) (s_b (s_op (s_cb1 s_pk o_len) (SimE.p s_int) o_le)))) (s_drop (s_m1 (s_opV s_int o_ix) o_app)) s_next))))
    (s_seq (s_setF (s_lc (vs := [4, 5]) (s_itL s_var) (g_tp rfl (gs_cons g_nm (gs_cons g_nm gs_nil))) (by decide) s_yes s_var))
    (s_seq (s_set (SimF.e (s_opF (SimF.e (s_lst (s_cons s_int s_nil))) (SimE.p (SimF.e (s_listRg (s_rg2 s_int (s_op s_int (SimE.p (s_op (s_opV s_int o_ix) (SimE.p s_int) o_ix)) o_add))))) o_cat)))
    (s_seq (s_if (s_orT (s_b (s_op s_var (SimE.p s_int) o_gt)) (s_orT (s_b (s_op (s_cb1 s_pk o_len) s_pk (o_in true))) (s_b (s_op (s_lenSet s_pk) (SimE.p (s_cb1 s_pk o_len)) o_ne)))) (s_ret s_non) s_next)
    (s_ret (s_ifE (s_b (s_op (SimF.e (s_lc (vs := [4]) (s_itL s_var) g_nm (by decide) (s_orT (s_b (s_opV s_var (o_in false))) (s_b (s_opV (s_cb1 s_pk o_len) o_ge))) s_var)) (SimE.p (SimF.e (s_lst s_nil))) o_eqNil)) s_var s_non))))))) (by decide) h
noncomputable def den__law_recovered : DS := (dSeq (dMix [1, 2, 3] (.f (d1 fList (dPk 0)) :: (.d (d2 ixF (d2V ixF 0 (dC (.int 0))) (dC (.int 1))) :: (.d (d2 ixF (d2V ixF 0 (dC (.int 0))) (dC (.int 2))) :: []))))
    (dSeq (dFor (dRng1 (dC (.int 60))) (.nm 4) (dSeq (dSet 5 (dCall _law_puts_of_d (.e (dVar 0) :: (.e (dVar 3) :: []))))
    (dSeq (dIf (dB (d2V fIsN2 5 (dC .none))) dBreak dNext)
    (dSeq (dFor (dItL (dVar 5)) (.tp ((.nm 6) :: (.nm 7) :: [])) (dSetAt 1 (dVar 6) (dVar 7)))
    (dSet 3 (d2 fAdd (dVar 3) (dC (.int 1))))))))
    (dSeq (dSetAt 1 (dC (.int 0)) (dTup (dCons (d2 ixF (d2V ixF 0 (dC (.int 0))) (dC (.int 0))) (dCons (dVar 2) (dCons (dVar 3) dNil)))))
    (dSeq (dSetSl 1 (dPart (dC (.int 6))) (dPart (d2 fAdd (dC (.int 6)) (dPk 2))) (d2 fRep (dLst (dCons (dTup dNil) dNil)) (dVar 2)))
    (dRet (d1 fTuple (dPk 1)))))))
noncomputable def _law_recovered_d : Fn := fnD 8 den__law_recovered
theorem d__law_recovered (T : Txt K mg a fd) : FnOk P w K mg base (L2.CX P w) 3 (a 28) (fd 28) ["image"] (spD (⟨K, cl⟩ : Ct) 1 _law_recovered_d) := by
  have GX__law_puts_of := d__law_puts_of (P := P) (w := w) (base := base) (cl := cl) T
  refine T.F__law_recovered.okX sc__law_recovered (fun vs H Q E h => h.1) (fun cdv A outer s H vs Q E hr h => ?_)
  refine ⟨_, (pss_cons (ps_par3 (i := 1) (j := 2) (l := 3) (by rfl) sc__law_recovered.nd rfl rfl rfl (by decide) (by decide) (by decide) rfl rfl rfl (pa_cons (pe_callTy (show CallR _ _ (rListS K) from call_list_of) (by rfl) T.n_list (by decide +kernel) (pa_cons (pv 0) pa_nil)) (pa_cons (pe_ix (show IxR _ (rIx K) from ix_seq) (pe_ix (show IxR _ (rIx K) from ix_seq) (pv 0) pe_int (fun _ _ => rfl)) pe_int (fun _ _ => rfl)) (pa_cons (pe_ix (show IxR _ (rIx K) from ix_seq) (pe_ix (show IxR _ (rIx K) from ix_seq) (pv 0) pe_int (fun _ _ => rfl)) pe_int (fun _ _ => rfl)) pa_nil))) (by rfl))
    (pss_cons (ps_for (passes_of rfl) rfl (pi_range1 (by rfl) T.n_range (pa_cons pe_int pa_nil)) (pg_name (i := 4) sc__law_recovered.nd rfl (Or.inl rfl)) (pss_cons (ps_set (i := 5) sc__law_recovered.nd rfl (Or.inl rfl) (pe_callS GX__law_puts_of (hr.mono (by first | decide | omega)) rfl T.m__law_puts_of T.F__law_puts_of.kp T.b__law_puts_of (fun σ => passAt (takes_of rfl rfl rfl rfl) σ) (pa_cons (pv 0) (pa_cons (pv 3) pa_nil))))
    (pss_cons (ps_if (pt_cmpR op_isN (pv 5) pe_non (nomark _)) (pss_one ps_break) pss_nil)
    (pss_cons (ps_for (passes_of rfl) rfl (pi_list (pv 5)) (pg_tup rfl (pgs_cons (pg_name (i := 6) sc__law_recovered.nd rfl (Or.inl rfl)) (pgs_cons (pg_name (i := 7) sc__law_recovered.nd rfl (Or.inl rfl)) pgs_nil))) (pss_one (ps_asg (pv 7) (pg_sub (pv 1) (pv 6) set_list))))
    (pss_one (ps_set (i := 3) sc__law_recovered.nd rfl (Or.inl rfl) (pe_op op_add (pv 3) pe_int)))))))
    (pss_cons (ps_asg (pe_tup (pa_cons (pe_ix (show IxR _ (rIx K) from ix_seq) (pe_ix (show IxR _ (rIx K) from ix_seq) (pv 0) pe_int (fun _ _ => rfl)) pe_int (fun _ _ => rfl)) (pa_cons (pv 2) (pa_cons (pv 3) pa_nil)))) (pg_sub (pv 1) pe_int set_list))
    (pss_cons (ps_asg (pe_op op_rep (pe_lst (pa_cons (pe_tup pa_nil) pa_nil)) (pv 2)) (pg_slc (pv 1) (po_some pe_int) (po_some (pe_op op_add pe_int (pv 2)))))
    (pss_one (ps_ret (pe_callTy (show CallR _ _ (rTupS K) from call_tuple_of) (by rfl) T.n_tuple (by decide +kernel) (pa_cons (pv 1) pa_nil)))))))), ?_⟩
  exact fn_sim (C := ⟨K, cl⟩) (b := den__law_recovered) (s_seq (s_mix3 rfl (sm_f (s_cb1F s_pk o_list) (sm_d (s_op (s_opV s_int o_ix) (SimE.p s_int) o_ix) (sm_d (s_op (s_opV s_int o_ix) (SimE.p s_int) o_ix) sm_nil))))
    (s_seq (s_for (s_rng1 s_int) g_nm (s_seq (s_set (s_call rfl (sa_d s_var (sa_d s_var sa_nil))))
    (s_seq (s_if (s_b (s_opV s_non o_isN)) s_break s_next)
    (s_seq (s_for (s_itL s_var) (g_tp rfl (gs_cons g_nm (gs_cons g_nm gs_nil))) (s_setAt s_var s_var))
    (s_set (s_op s_var (SimE.p s_int) o_add))))))
    (s_seq (s_setAt (s_tup (s_cons (s_op (s_opV s_int o_ix) (SimE.p s_int) o_ix) (s_cons s_var (s_cons s_var s_nil)))) s_int)
    (s_seq (s_setSl (s_rep (s_lst (s_cons (s_tup s_nil) s_nil)) s_var) (s_part s_int) (s_part (s_op s_int s_pk o_add)))
    (s_ret (s_cb1 s_pk o_tuple)))))) (by decide) h
noncomputable def den__law_items : DS := (dSeq (dSetF 4 (dSlc slL (dCallF _law_turned_d (.io 0 :: (.e (d2 fCat (dLst (dCons (dC (.int 1)) (dCons (dC (.int 2)) (dCons (dC (.int 3)) (dCons (dC (.int 4)) (dCons (dC (.int 5)) dNil)))))) (dListRg (dRg2 (dVar 3) (dVar 2)))) :: []))) dNo (dPart (d2 fAdd (dC (.int 1)) (dCall _law_of_d (.io 0 :: (.e (dC (.int 3)) :: [])))))))
    (dSeq (dSetF 5 (dLc (dItL (dVar 4)) (.nm 8) dYes (d2 fCatT (dTup (dCons (dC (.int 2)) (dCons (dVar 1) (dCons (dVar 8) dNil)))) (dCall _law_one_d (.io 0 :: (.e (dLst (dCons (dTup dNil) (dCons (dTup (dCons (dC (.int 7)) dNil)) (dCons (dTup (dCons (dC (.int 0)) (dCons (dC (.int 8)) dNil))) (dCons (d2 fRepT (dTup (dCons (dC (.int 9)) dNil)) (dC (.int 60))) dNil))))) :: [])))) [8]))
    (dSeq (dMix [6, 7] (.d (dCall _law_of_d (.io 0 :: (.e (dC (.int 12)) :: []))) :: (.d (dTup (dCons (dC (.int 3)) (dCons (dVar 1) (dCons (d1 fLen (dPk 5)) dNil)))) :: [])))
    (dSeq (dIf (dB (d2 fEq (dVar 6) (dC (.int 0)))) (dRetA 5) dNext)
    (dSeq (dIf (dB (d2 fEq (dVar 6) (dC (.int 1)))) (dRetF (d2 fCat (dSlcV slL 5 (dPart (dC (.int 1))) dNo) (dLst (dCons (dVar 7) dNil)))) dNext)
    (dSeq (dIf (dB (d2 fEq (dVar 6) (dC (.int 2)))) (dRetF (d2 fCat (dVar 5) (dLst (dCons (d2 fCatT (dSlc slT (d2V ixF 5 (dC (.int 0))) dNo (dPart (dC (.int 3)))) (dTup (dCons (dC (.int 55)) dNil))) (dCons (dVar 7) dNil))))) dNext)
    (dSeq (dIf (dB (d2 fEq (dVar 6) (dC (.int 3)))) (dRetF (d2 fCat (dSlcV slL 5 (dPart (dC (.int 1))) dNo) (dLst (dCons (d2 fCatT (dTup (dCons (dC (.int 2)) (dCons (dVar 1) (dCons (dCall _law_one_d (.io 0 :: (.e (dLst (dCons (dC (.int 6)) (dCons (d2 fSub (dVar 3) (dC (.int 1))) (dCons (dVar 2) (dCons (d2 fAdd (dVar 2) (dC (.int 3))) dNil))))) :: []))) dNil)))) (dTup (dCons (dC (.int 1)) dNil))) (dCons (dVar 7) dNil))))) dNext)
    (dSeq (dIf (dB (d2 fEq (dVar 6) (dC (.int 4)))) (dRetF (d2 fCat (dVar 5) (dLst (dCons (dTup (dCons (dC (.int 3)) (dCons (dVar 1) (dCons (d2 fAdd (d2 fAdd (d1 fLen (dPk 5)) (dC (.int 1))) (dCall _law_of_d (.io 0 :: (.e (dC (.int 2)) :: [])))) dNil)))) dNil)))) dNext)
    (dSeq (dIf (dB (d2 fEq (dVar 6) (dC (.int 5)))) (dRetF (d2 fCat (dVar 5) (dLst (dCons (dVar 7) (dCons (dTup (dCons (dC (.int 3)) (dCons (dVar 1) (dCons (d2 fAdd (d1 fLen (dPk 5)) (dC (.int 1))) dNil)))) dNil))))) dNext)
    (dSeq (dIf (dB (d2 fEq (dVar 6) (dC (.int 6)))) (dRetF (d2 fCat (dSlcV slL 5 (dPart (dC (.int 1))) dNo) (dLst (dCons (d2 fCatT (dTup (dCons (dC (.int 2)) (dCons (dVar 1) (dCons (d2V ixF 4 (dC (.int 0))) dNil)))) (d2 fRepT (dTup (dCons (dC (.int 9)) dNil)) (dC (.int 61)))) (dCons (dVar 7) dNil))))) dNext)
    (dSeq (dIf (dB (d2 fEq (dVar 6) (dC (.int 7)))) (dRetF (d2 fCat (d2 fCat (dLst (dCons (dTup (dCons (dC (.int 2)) (dCons (dVar 1) (dCons (dC (.int 0)) (dCons (dC (.int 5)) (dCons (dC (.int 5)) (dCons (dC (.int 5)) dNil))))))) dNil)) (dSlcV slL 5 (dPart (dC (.int 1))) dNo)) (dLst (dCons (dVar 7) dNil)))) dNext)
    (dRetF (d2 fCat (dVar 5) (dLst (dCons (dVar 7) dNil)))))))))))))))
noncomputable def _law_items_d : Fn := fnD 9 den__law_items
theorem d__law_items (T : Txt K mg a fd) : FnOk P w K mg base (L2.CX P w) 3 (a 31) (fd 31) ["urn", "bundle", "many", "first"] (spD (⟨K, cl⟩ : Ct) 4 _law_items_d) := by
  have GX__law_turned := d__law_turned (P := P) (w := w) (base := base) (cl := cl) T
  have GX__law_of := d__law_of (P := P) (w := w) (base := base) (cl := cl) T
  have GX__law_one := d__law_one (P := P) (w := w) (base := base) (cl := cl) T
  refine T.F__law_items.okX sc__law_items (fun vs H Q E h => h.1) (fun cdv A outer s H vs Q E hr h => ?_)
  refine ⟨_, (pss_cons (ps_set (i := 4) sc__law_items.nd rfl (Or.inl rfl) (pe_slice (show SlR _ (rSlL K) from sl_list) (pe_callS GX__law_turned (hr.mono (by first | decide | omega)) rfl T.m__law_turned T.F__law_turned.kp T.b__law_turned (fun σ => passAt (takes_of rfl rfl rfl rfl) σ) (pa_cons (pv 0) (pa_cons (pe_op (show OpR _ _ (rCatR K) from op_catR) (pe_lst (pa_cons pe_int (pa_cons pe_int (pa_cons pe_int (pa_cons pe_int (pa_cons pe_int pa_nil)))))) (pe_listRg rfl (by rfl) T.n_list (prg_2 (by rfl) T.n_range (pv 3) (pv 2)))) pa_nil))) po_none (po_some (pe_op op_add pe_int (pe_callS GX__law_of (hr.mono (by first | decide | omega)) rfl T.m__law_of T.F__law_of.kp T.b__law_of (fun σ => passAt (takes_of rfl rfl rfl rfl) σ) (pa_cons (pv 0) (pa_cons pe_int pa_nil)))))))
    (pss_cons (ps_setLc (i := 5) (own := [("block", 8)]) (g := gName 8) (tt := tYes) (by rfl) sc__law_items.nd rfl rfl (sw_true rfl rfl rfl (by decide +kernel)) (pi_list (pv 4)) (blkOk_by (own := [("block", 8)]) (N := N__law_items) (sc := defScope s__law_items) (by decide +kernel)) (fun _ _ _ _ _ => (pg_name (i := 8) sc__law_items.nd rfl (Or.inl rfl))) (fun _ _ _ _ _ => pts_nil) (fun _ _ _ _ _ => (pe_op (show OpR _ _ (rCatA K) from op_catA) (pe_tup (pa_cons pe_int (pa_cons (pv 1) (pa_cons (pv 8) pa_nil)))) (pe_callS GX__law_one (hr.mono (by first | decide | omega)) rfl T.m__law_one T.F__law_one.kp T.b__law_one (fun σ => XD.pass_f _ σ) (pa_cons (pv 0) (pa_cons (pe_lst (pa_cons (pe_tup pa_nil) (pa_cons (pe_tup (pa_cons pe_int pa_nil)) (pa_cons (pe_tup (pa_cons pe_int (pa_cons pe_int pa_nil))) (pa_cons (pe_op (show OpR _ _ (rRepT K) from op_repT) (pe_tup (pa_cons pe_int pa_nil)) pe_int) pa_nil))))) pa_nil))))))
    (pss_cons (ps_par (i := 6) (j := 7) (by rfl) sc__law_items.nd rfl rfl (by decide) rfl rfl (pa_cons (pe_callS GX__law_of (hr.mono (by first | decide | omega)) rfl T.m__law_of T.F__law_of.kp T.b__law_of (fun σ => passAt (takes_of rfl rfl rfl rfl) σ) (pa_cons (pv 0) (pa_cons pe_int pa_nil))) (pa_cons (pe_tup (pa_cons pe_int (pa_cons (pv 1) (pa_cons (pe_callB (show CallR _ _ (rLenS K) from call_len_seq) (by rfl) T.n_len PySem.boot_len (pa_cons (pv 5) pa_nil)) pa_nil)))) pa_nil)) (by rfl))
    (pss_cons (ps_if (pt_cmpR op_eq (pv 6) pe_int (nomark _)) (pss_one (ps_ret (pv 5))) pss_nil)
    (pss_cons (ps_if (pt_cmpR op_eq (pv 6) pe_int (nomark _)) (pss_one (ps_ret (pe_op (show OpR _ _ (rCatR K) from op_catR) (pe_slice (show SlR _ (rSlL K) from sl_list) (pv 5) (po_some pe_int) po_none) (pe_lst (pa_cons (pv 7) pa_nil))))) pss_nil)
    (pss_cons (ps_if (pt_cmpR op_eq (pv 6) pe_int (nomark _)) (pss_one (ps_ret (pe_op (show OpR _ _ (rCatR K) from op_catR) (pv 5) (pe_lst (pa_cons (pe_op (show OpR _ _ (rCatA K) from op_catA) (pe_slice (show SlR _ (rSlA K) from sl_tupA) (pe_ix (show IxR _ (rIx K) from ix_seq) (pv 5) pe_int (fun _ _ => rfl)) po_none (po_some pe_int)) (pe_tup (pa_cons pe_int pa_nil))) (pa_cons (pv 7) pa_nil)))))) pss_nil)
    (pss_cons (ps_if (pt_cmpR op_eq (pv 6) pe_int (nomark _)) (pss_one (ps_ret (pe_op (show OpR _ _ (rCatR K) from op_catR) (pe_slice (show SlR _ (rSlL K) from sl_list) (pv 5) (po_some pe_int) po_none) (pe_lst (pa_cons (pe_op (show OpR _ _ (rCatA K) from op_catA) (pe_tup (pa_cons pe_int (pa_cons (pv 1) (pa_cons (pe_callS GX__law_one (hr.mono (by first | decide | omega)) rfl T.m__law_one T.F__law_one.kp T.b__law_one (fun σ => passAt (takes_of rfl rfl rfl rfl) σ) (pa_cons (pv 0) (pa_cons (pe_lst (pa_cons pe_int (pa_cons (pe_op op_sub (pv 3) pe_int) (pa_cons (pv 2) (pa_cons (pe_op op_add (pv 2) pe_int) pa_nil))))) pa_nil))) pa_nil)))) (pe_tup (pa_cons pe_int pa_nil))) (pa_cons (pv 7) pa_nil)))))) pss_nil)
    (pss_cons (ps_if (pt_cmpR op_eq (pv 6) pe_int (nomark _)) (pss_one (ps_ret (pe_op (show OpR _ _ (rCatR K) from op_catR) (pv 5) (pe_lst (pa_cons (pe_tup (pa_cons pe_int (pa_cons (pv 1) (pa_cons (pe_op op_add (pe_op op_add (pe_callB (show CallR _ _ (rLenS K) from call_len_seq) (by rfl) T.n_len PySem.boot_len (pa_cons (pv 5) pa_nil)) pe_int) (pe_callS GX__law_of (hr.mono (by first | decide | omega)) rfl T.m__law_of T.F__law_of.kp T.b__law_of (fun σ => passAt (takes_of rfl rfl rfl rfl) σ) (pa_cons (pv 0) (pa_cons pe_int pa_nil)))) pa_nil)))) pa_nil))))) pss_nil)
    (pss_cons (ps_if (pt_cmpR op_eq (pv 6) pe_int (nomark _)) (pss_one (ps_ret (pe_op (show OpR _ _ (rCatR K) from op_catR) (pv 5) (pe_lst (pa_cons (pv 7) (pa_cons (pe_tup (pa_cons pe_int (pa_cons (pv 1) (pa_cons (pe_op op_add (pe_callB (show CallR _ _ (rLenS K) from call_len_seq) (by rfl) T.n_len PySem.boot_len (pa_cons (pv 5) pa_nil)) pe_int) pa_nil)))) pa_nil)))))) pss_nil)
    (pss_cons (ps_if (pt_cmpR op_eq (pv 6) pe_int (nomark _)) (pss_one (ps_ret (pe_op (show OpR _ _ (rCatR K) from op_catR) (pe_slice (show SlR _ (rSlL K) from sl_list) (pv 5) (po_some pe_int) po_none) (pe_lst (pa_cons (pe_op (show OpR _ _ (rCatA K) from op_catA) (pe_tup (pa_cons pe_int (pa_cons (pv 1) (pa_cons (pe_ix (show IxR _ (rIx K) from ix_seq) (pv 4) pe_int (fun _ _ => rfl)) pa_nil)))) (pe_op (show OpR _ _ (rRepT K) from op_repT) (pe_tup (pa_cons pe_int pa_nil)) pe_int)) (pa_cons (pv 7) pa_nil)))))) pss_nil)
    (pss_cons (ps_if (pt_cmpR op_eq (pv 6) pe_int (nomark _)) (pss_one (ps_ret (pe_op (show OpR _ _ (rCatR K) from op_catR) (pe_op (show OpR _ _ (rCatR K) from op_catR) (pe_lst (pa_cons (pe_tup (pa_cons pe_int (pa_cons (pv 1) (pa_cons pe_int (pa_cons pe_int (pa_cons pe_int (pa_cons pe_int pa_nil))))))) pa_nil)) (pe_slice (show SlR _ (rSlL K) from sl_list) (pv 5) (po_some pe_int) po_none)) (pe_lst (pa_cons (pv 7) pa_nil))))) pss_nil)
    (pss_one (ps_ret (pe_op (show OpR _ _ (rCatR K) from op_catR) (pv 5) (pe_lst (pa_cons (pv 7) pa_nil)))))))))))))))), ?_⟩
  exact fn_sim (C := ⟨K, cl⟩) (b := den__law_items) (s_seq (s_setF (s_slcF (SimF.e (s_callF rfl (sa_io (sa_d (SimF.e (s_opF (SimF.e (s_lst (s_cons s_int (s_cons s_int (s_cons s_int (s_cons s_int (s_cons s_int s_nil))))))) (SimE.p (SimF.e (s_listRg (s_rg2 s_var s_var)))) o_cat)) sa_nil)))) s_no (s_part (s_op s_int (SimE.p (s_call rfl (sa_io (sa_d s_int sa_nil)))) o_add)) o_slL))
    (s_seq (s_setF (s_lc (vs := [8]) (s_itL s_var) g_nm (by decide) s_yes (s_op (s_tup (s_cons s_int (s_cons s_var (s_cons s_var s_nil)))) (SimE.p (s_call rfl (sa_io (sa_d (SimF.e (s_lst (s_cons (s_tup s_nil) (s_cons (s_tup (s_cons s_int s_nil)) (s_cons (s_tup (s_cons s_int (s_cons s_int s_nil))) (s_cons (s_op (s_tup (s_cons s_int s_nil)) (SimE.p s_int) o_repT) s_nil)))))) sa_nil)))) o_catT)))
    (s_seq (s_mix2 (sm_d (s_call rfl (sa_io (sa_d s_int sa_nil))) (sm_d (s_tup (s_cons s_int (s_cons s_var (s_cons (s_cb1 s_pk o_len) s_nil)))) sm_nil)))
    (s_seq (s_if (s_b (s_op s_var (SimE.p s_int) o_eq)) s_retA s_next)
    (s_seq (s_if (s_b (s_op s_var (SimE.p s_int) o_eq)) (s_retF (s_opF (SimF.e (s_slcVF (s_part s_int) s_no o_slL)) (SimE.p (SimF.e (s_lst (s_cons s_var s_nil)))) o_cat)) s_next)
    (s_seq (s_if (s_b (s_op s_var (SimE.p s_int) o_eq)) (s_retF (s_opF s_var (SimE.p (SimF.e (s_lst (s_cons (s_op (s_slc (s_opV s_int o_ix) s_no (s_part s_int) o_slT) (SimE.p (s_tup (s_cons s_int s_nil))) o_catT) (s_cons s_var s_nil))))) o_cat)) s_next)
    (s_seq (s_if (s_b (s_op s_var (SimE.p s_int) o_eq)) (s_retF (s_opF (SimF.e (s_slcVF (s_part s_int) s_no o_slL)) (SimE.p (SimF.e (s_lst (s_cons (s_op (s_tup (s_cons s_int (s_cons s_var (s_cons (s_call rfl (sa_io (sa_d (SimF.e (s_lst (s_cons s_int (s_cons (s_op s_var (SimE.p s_int) o_sub) (s_cons s_var (s_cons (s_op s_var (SimE.p s_int) o_add) s_nil)))))) sa_nil))) s_nil)))) (SimE.p (s_tup (s_cons s_int s_nil))) o_catT) (s_cons s_var s_nil))))) o_cat)) s_next)
    (s_seq (s_if (s_b (s_op s_var (SimE.p s_int) o_eq)) (s_retF (s_opF s_var (SimE.p (SimF.e (s_lst (s_cons (s_tup (s_cons s_int (s_cons s_var (s_cons (s_op (s_op (s_cb1 s_pk o_len) (SimE.p s_int) o_add) (SimE.p (s_call rfl (sa_io (sa_d s_int sa_nil)))) o_add) s_nil)))) s_nil)))) o_cat)) s_next)
    (s_seq (s_if (s_b (s_op s_var (SimE.p s_int) o_eq)) (s_retF (s_opF s_var (SimE.p (SimF.e (s_lst (s_cons s_var (s_cons (s_tup (s_cons s_int (s_cons s_var (s_cons (s_op (s_cb1 s_pk o_len) (SimE.p s_int) o_add) s_nil)))) s_nil))))) o_cat)) s_next)
    (s_seq (s_if (s_b (s_op s_var (SimE.p s_int) o_eq)) (s_retF (s_opF (SimF.e (s_slcVF (s_part s_int) s_no o_slL)) (SimE.p (SimF.e (s_lst (s_cons (s_op (s_tup (s_cons s_int (s_cons s_var (s_cons (s_opV s_int o_ix) s_nil)))) (SimE.p (s_op (s_tup (s_cons s_int s_nil)) (SimE.p s_int) o_repT)) o_catT) (s_cons s_var s_nil))))) o_cat)) s_next)
    (s_seq (s_if (s_b (s_op s_var (SimE.p s_int) o_eq)) (s_retF (s_opF (SimF.e (s_opF (SimF.e (s_lst (s_cons (s_tup (s_cons s_int (s_cons s_var (s_cons s_int (s_cons s_int (s_cons s_int (s_cons s_int s_nil))))))) s_nil))) (SimE.p (SimF.e (s_slcVF (s_part s_int) s_no o_slL))) o_cat)) (SimE.p (SimF.e (s_lst (s_cons s_var s_nil)))) o_cat)) s_next)
    (s_retF (s_opF s_var (SimE.p (SimF.e (s_lst (s_cons s_var s_nil)))) o_cat))))))))))))) (by decide) h
noncomputable def den__law_drawn_drum : DS := (dSeq (dSet 1 (d2 fAdd (dC (.int 8)) (dCall _law_of_d (.io 0 :: (.e (dC (.int 32)) :: [])))))
    (dSeq (dSet 2 (d2 fMax2 (dC (.int 16)) (d2 fMin2 (dC (.int 96)) (d2 fAdd (d2 fAdd (d2 fAdd (dC (.int 6)) (dPk 1)) (dC (.int 1))) (dCall _law_of_d (.io 0 :: (.e (dC (.int 40)) :: [])))))))
    (dSeq (dSet 3 (dCall _law_one_d (.io 0 :: (.e (dLst (dCons (dC (.int 1)) (dCons (dC (.int 2)) (dCons (dC (.int 59998)) (dCons (dC (.int 59999)) (dCons (dC (.int 60000)) (dCons (d2 fAdd (dC (.int 1)) (dCall _law_of_d (.io 0 :: (.e (dC (.int 500)) :: [])))) dNil))))))) :: []))))
    (dSeq (dSetF 5 (d2 fCat (dLst (dCons (dTup (dCons (dVar 2) (dCons (dVar 1) (dCons (dVar 3) dNil)))) dNil)) (dLc (dRng1 (d2 fSub (dVar 2) (dC (.int 1)))) (.nm 4) dYes (dCall _law_one_d (.io 0 :: (.e (dLst (dCons (dTup dNil) (dCons (dTup (dCons (dC (.int 1)) dNil)) (dCons (dTup (dCons (dC (.int 4)) (dCons (dC (.int 4)) dNil))) dNil)))) :: []))) [4])))
    (dSeq (dMix [6, 7] (.f (dLst dNil) :: (.d (dVar 3) :: [])))
    (dSeq (dFor (dRng1 (d2 fAdd (dC (.int 1)) (dCall _law_of_d (.io 0 :: (.e (dC (.int 5)) :: []))))) (.nm 4) (dSeq (dSetF 6 (d2 fCat (dVar 6) (dCall _law_items_d (.io 0 :: (.e (dVar 7) :: (.e (dVar 2) :: (.e (d2 fAdd (dC (.int 6)) (dPk 1)) :: [])))))))
    (dSet 7 (d2 fAdd (dVar 7) (dCall _law_one_d (.io 0 :: (.e (dLst (dCons (dC (.int 1)) (dCons (dC (.int 1)) (dCons (dC (.int 1)) (dCons (dC (.int 1)) (dCons (dC (.int 2)) dNil)))))) :: [])))))))
    (dSeq (dSetF 6 (d2 fCat (dVar 6) (dLc (dRng1 (dCall _law_of_d (.io 0 :: (.e (dC (.int 3)) :: [])))) (.nm 4) dYes (dCall _law_one_d (.io 0 :: (.e (dLst (dCons (dTup (dCons (dC (.int 2)) (dCons (d2 fAdd (dVar 3) (dC (.int 40))) (dCons (dC (.int 1)) (dCons (dC (.int 1)) dNil))))) (dCons (dTup (dCons (dC (.int 3)) (dCons (d2 fAdd (dVar 3) (dC (.int 40))) (dCons (dC (.int 9)) dNil)))) (dCons (dTup (dCons (dC (.int 5)) (dCons (dC (.int 5)) dNil))) (dCons (dTup (dCons (dC (.int 2)) dNil)) (dCons (dTup (dCons (dC (.int 1)) (dCons (dVar 3) (dCons (dC (.int 2)) dNil)))) (dCons (dTup (dCons (dC (.int 3)) dNil)) dNil))))))) :: []))) [4])))
    (dSeq (dSetF 6 (dLc (dItL (dVar 6)) (.nm 8) (dOrT (dB (d2 fEqNilT (dSlc slT (dVar 8) (dPart (dC (.int 1))) (dPart (dC (.int 2)))) (dTup dNil))) (dB (d2 fLe (d2V ixF 8 (dC (.int 1))) (dC (.int 65535))))) (dVar 8) [8]))
    (dSeq (dSetF 9 (dCallF _law_turned_d (.io 0 :: (.e (dListRg (dRg2 (dC (.int 6)) (d2 fAdd (dC (.int 6)) (dPk 1)))) :: []))))
    (dSeq (dSetSl 5 (dPart (dC (.int 6))) (dPart (d2 fAdd (dC (.int 6)) (dPk 1))) (d2 fRep (dLst (dCons (dTup dNil) dNil)) (dVar 1)))
    (dSeq (dFor (dZip (dVar 9) (dVar 6)) (.tp ((.nm 10) :: (.nm 8) :: [])) (dSetAt 5 (dVar 10) (dCall _law_block_d (.e (dVar 8) :: []))))
    (dRet (d1 fTuple (dPk 5))))))))))))))
noncomputable def _law_drawn_drum_d : Fn := fnD 11 den__law_drawn_drum
theorem d__law_drawn_drum (T : Txt K mg a fd) : FnOk P w K mg base (L2.CX P w) 4 (a 32) (fd 32) ["urn"] (spD (⟨K, cl⟩ : Ct) 1 _law_drawn_drum_d) := by
  have GX__law_one := d__law_one (P := P) (w := w) (base := base) (cl := cl) T
  have GX__law_turned := d__law_turned (P := P) (w := w) (base := base) (cl := cl) T
  have GX__law_of := d__law_of (P := P) (w := w) (base := base) (cl := cl) T
  have GX__law_block := d__law_block (P := P) (w := w) (base := base) (cl := cl) T
  have GX__law_items := d__law_items (P := P) (w := w) (base := base) (cl := cl) T
  refine T.F__law_drawn_drum.okX sc__law_drawn_drum (fun vs H Q E h => h.1) (fun cdv A outer s H vs Q E hr h => ?_)
  refine ⟨_, (pss_cons (ps_set (i := 1) sc__law_drawn_drum.nd rfl (Or.inl rfl) (pe_op op_add pe_int (pe_callS GX__law_of (hr.mono (by first | decide | omega)) rfl T.m__law_of T.F__law_of.kp T.b__law_of (fun σ => passAt (takes_of rfl rfl rfl rfl) σ) (pa_cons (pv 0) (pa_cons pe_int pa_nil)))))
    (pss_cons (ps_set (i := 2) sc__law_drawn_drum.nd rfl (Or.inl rfl) (pe_callB (call_max2 rfl) (by rfl) T.n_max (by decide +kernel) (pa_cons pe_int (pa_cons (pe_callB (call_min2 rfl) (by rfl) T.n_min (by decide +kernel) (pa_cons pe_int (pa_cons (pe_op op_add (pe_op op_add (pe_op op_add pe_int (pv 1)) pe_int) (pe_callS GX__law_of (hr.mono (by first | decide | omega)) rfl T.m__law_of T.F__law_of.kp T.b__law_of (fun σ => passAt (takes_of rfl rfl rfl rfl) σ) (pa_cons (pv 0) (pa_cons pe_int pa_nil)))) pa_nil))) pa_nil))))
    (pss_cons (ps_set (i := 3) sc__law_drawn_drum.nd rfl (Or.inr rfl) (pe_callS GX__law_one (hr.mono (by first | decide | omega)) rfl T.m__law_one T.F__law_one.kp T.b__law_one (fun σ => passAt (takes_of rfl rfl rfl rfl) σ) (pa_cons (pv 0) (pa_cons (pe_lst (pa_cons pe_int (pa_cons pe_int (pa_cons pe_int (pa_cons pe_int (pa_cons pe_int (pa_cons (pe_op op_add pe_int (pe_callS GX__law_of (hr.mono (by first | decide | omega)) rfl T.m__law_of T.F__law_of.kp T.b__law_of (fun σ => passAt (takes_of rfl rfl rfl rfl) σ) (pa_cons (pv 0) (pa_cons pe_int pa_nil)))) pa_nil))))))) pa_nil))))
    (pss_cons (ps_set (i := 5) sc__law_drawn_drum.nd rfl (Or.inl rfl) (pe_op (show OpR _ _ (rCatR K) from op_catR) (pe_lst (pa_cons (pe_tup (pa_cons (pv 2) (pa_cons (pv 1) (pa_cons (pv 3) pa_nil)))) pa_nil)) (pe_lc (own := [("turn", 4)]) (g := gName 4) (tt := tYes) (by rfl) sc__law_drawn_drum.nd (pi_range1 (by rfl) T.n_range (pa_cons (pe_op op_sub (pv 2) pe_int) pa_nil)) (blkOk_by (own := [("turn", 4)]) (N := N__law_drawn_drum) (sc := defScope s__law_drawn_drum) (by decide +kernel)) (fun _ _ _ _ _ => (pg_name (i := 4) sc__law_drawn_drum.nd rfl (Or.inl rfl))) (fun _ _ _ _ _ => pts_nil) (fun _ _ _ _ _ => (pe_callS GX__law_one (hr.mono (by first | decide | omega)) rfl T.m__law_one T.F__law_one.kp T.b__law_one (fun σ => XD.pass_f _ σ) (pa_cons (pv 0) (pa_cons (pe_lst (pa_cons (pe_tup pa_nil) (pa_cons (pe_tup (pa_cons pe_int pa_nil)) (pa_cons (pe_tup (pa_cons pe_int (pa_cons pe_int pa_nil))) pa_nil)))) pa_nil)))))))
    (pss_cons (ps_par (i := 6) (j := 7) (by rfl) sc__law_drawn_drum.nd rfl rfl (by decide) rfl rfl (pa_cons (pe_lst pa_nil) (pa_cons (pv 3) pa_nil)) (by rfl))
    (pss_cons (ps_for (passes_of rfl) rfl (pi_range1 (by rfl) T.n_range (pa_cons (pe_op op_add pe_int (pe_callS GX__law_of (hr.mono (by first | decide | omega)) rfl T.m__law_of T.F__law_of.kp T.b__law_of (fun σ => passAt (takes_of rfl rfl rfl rfl) σ) (pa_cons (pv 0) (pa_cons pe_int pa_nil)))) pa_nil)) (pg_name (i := 4) sc__law_drawn_drum.nd rfl (Or.inl rfl)) (pss_cons (ps_set (i := 6) sc__law_drawn_drum.nd rfl (Or.inl rfl) (pe_op (show OpR _ _ (rCatR K) from op_catR) (pv 6) (pe_callS GX__law_items (hr.mono (by first | decide | omega)) rfl T.m__law_items T.F__law_items.kp T.b__law_items (fun σ => passAt (takes_of rfl rfl rfl rfl) σ) (pa_cons (pv 0) (pa_cons (pv 7) (pa_cons (pv 2) (pa_cons (pe_op op_add pe_int (pv 1)) pa_nil)))))))
    (pss_one (ps_set (i := 7) sc__law_drawn_drum.nd rfl (Or.inl rfl) (pe_op op_add (pv 7) (pe_callS GX__law_one (hr.mono (by first | decide | omega)) rfl T.m__law_one T.F__law_one.kp T.b__law_one (fun σ => passAt (takes_of rfl rfl rfl rfl) σ) (pa_cons (pv 0) (pa_cons (pe_lst (pa_cons pe_int (pa_cons pe_int (pa_cons pe_int (pa_cons pe_int (pa_cons pe_int pa_nil)))))) pa_nil))))))))
    (pss_cons (ps_set (i := 6) sc__law_drawn_drum.nd rfl (Or.inl rfl) (pe_op (show OpR _ _ (rCatR K) from op_catR) (pv 6) (pe_lc (own := [("turn", 4)]) (g := gName 4) (tt := tYes) (by rfl) sc__law_drawn_drum.nd (pi_range1 (by rfl) T.n_range (pa_cons (pe_callS GX__law_of (hr.mono (by first | decide | omega)) rfl T.m__law_of T.F__law_of.kp T.b__law_of (fun σ => passAt (takes_of rfl rfl rfl rfl) σ) (pa_cons (pv 0) (pa_cons pe_int pa_nil))) pa_nil)) (blkOk_by (own := [("turn", 4)]) (N := N__law_drawn_drum) (sc := defScope s__law_drawn_drum) (by decide +kernel)) (fun _ _ _ _ _ => (pg_name (i := 4) sc__law_drawn_drum.nd rfl (Or.inl rfl))) (fun _ _ _ _ _ => pts_nil) (fun _ _ _ _ _ => (pe_callS GX__law_one (hr.mono (by first | decide | omega)) rfl T.m__law_one T.F__law_one.kp T.b__law_one (fun σ => XD.pass_f _ σ) (pa_cons (pv 0) (pa_cons (pe_lst (pa_cons (pe_tup (pa_cons pe_int (pa_cons (pe_op op_add (pv 3) pe_int) (pa_cons pe_int (pa_cons pe_int pa_nil))))) (pa_cons (pe_tup (pa_cons pe_int (pa_cons (pe_op op_add (pv 3) pe_int) (pa_cons pe_int pa_nil)))) (pa_cons (pe_tup (pa_cons pe_int (pa_cons pe_int pa_nil))) (pa_cons (pe_tup (pa_cons pe_int pa_nil)) (pa_cons (pe_tup (pa_cons pe_int (pa_cons (pv 3) (pa_cons pe_int pa_nil)))) (pa_cons (pe_tup (pa_cons pe_int pa_nil)) pa_nil))))))) pa_nil)))))))
    (pss_cons (ps_setLc (i := 6) (own := [("item", 8)]) (g := gName 8) (by rfl) sc__law_drawn_drum.nd rfl rfl (sw_true rfl rfl rfl (by decide +kernel)) (pi_list (pv 6)) (blkOk_by (own := [("item", 8)]) (N := N__law_drawn_drum) (sc := defScope s__law_drawn_drum) (by decide +kernel)) (fun _ _ _ _ _ => (pg_name (i := 8) sc__law_drawn_drum.nd rfl (Or.inl rfl))) (fun _ _ _ _ _ => pts_one (PW.pt (pw_or (pt_cmpR (show OpR _ _ (rEqNilT K) from op_eqNilT hr.units0) (pe_slice (show SlR _ (rSlA K) from sl_tupA) (pv 8) (po_some pe_int) (po_some pe_int)) (pe_tup pa_nil) (nomark _)) (pw_or1 (pt_cmpR op_le (pe_ix (show IxR _ (rIx K) from ix_seq) (pv 8) pe_int (fun _ _ => rfl)) pe_int (nomark _)))))) (fun _ _ _ _ _ => (pv 8)))
    (pss_cons (ps_set (i := 9) sc__law_drawn_drum.nd rfl (Or.inl rfl) (pe_callS GX__law_turned (hr.mono (by first | decide | omega)) rfl T.m__law_turned T.F__law_turned.kp T.b__law_turned (fun σ => passAt (takes_of rfl rfl rfl rfl) σ) (pa_cons (pv 0) (pa_cons (pe_listRg rfl (by rfl) T.n_list (prg_2 (by rfl) T.n_range pe_int (pe_op op_add pe_int (pv 1)))) pa_nil))))
    (pss_cons (ps_asg (pe_op op_rep (pe_lst (pa_cons (pe_tup pa_nil) pa_nil)) (pv 1)) (pg_slc (pv 5) (po_some pe_int) (po_some (pe_op op_add pe_int (pv 1)))))
    (pss_cons (ps_for (passes_of rfl) rfl (pi_zip (by rfl) T.n_zip (pa_cons (pv 9) (pa_cons (pv 6) pa_nil))) (pg_tup rfl (pgs_cons (pg_name (i := 10) sc__law_drawn_drum.nd rfl (Or.inl rfl)) (pgs_cons (pg_name (i := 8) sc__law_drawn_drum.nd rfl (Or.inl rfl)) pgs_nil))) (pss_one (ps_asg (pe_callS GX__law_block (hr.mono (by first | decide | omega)) rfl T.m__law_block T.F__law_block.kp T.b__law_block (fun σ => passAt (takes_of rfl rfl rfl rfl) σ) (pa_cons (pv 8) pa_nil)) (pg_sub (pv 5) (pv 10) set_list))))
    (pss_one (ps_ret (pe_callTy (show CallR _ _ (rTupS K) from call_tuple_of) (by rfl) T.n_tuple (by decide +kernel) (pa_cons (pv 5) pa_nil))))))))))))))), ?_⟩
  exact fn_sim (C := ⟨K, cl⟩) (b := den__law_drawn_drum) (s_seq (s_set (s_op s_int (SimE.p (s_call rfl (sa_io (sa_d s_int sa_nil)))) o_add))
    (s_seq (s_set (s_cb2 s_int (SimE.p (s_cb2 s_int (SimE.p (s_op (s_op (s_op s_int s_pk o_add) (SimE.p s_int) o_add) (SimE.p (s_call rfl (sa_io (sa_d s_int sa_nil)))) o_add)) o_min2)) o_max2))
    (s_seq (s_set (s_call rfl (sa_io (sa_d (SimF.e (s_lst (s_cons s_int (s_cons s_int (s_cons s_int (s_cons s_int (s_cons s_int (s_cons (s_op s_int (SimE.p (s_call rfl (sa_io (sa_d s_int sa_nil)))) o_add) s_nil)))))))) sa_nil))))
    (s_seq (s_setF (s_opF (SimF.e (s_lst (s_cons (s_tup (s_cons s_var (s_cons s_var (s_cons s_var s_nil)))) s_nil))) (SimE.p (SimF.e (s_lc (vs := [4]) (s_rng1 (s_op s_var (SimE.p s_int) o_sub)) g_nm (by decide) s_yes (s_call rfl (sa_io (sa_d (SimF.e (s_lst (s_cons (s_tup s_nil) (s_cons (s_tup (s_cons s_int s_nil)) (s_cons (s_tup (s_cons s_int (s_cons s_int s_nil))) s_nil))))) sa_nil)))))) o_cat))
    (s_seq (s_mix2 (sm_f (s_lst s_nil) (sm_d s_var sm_nil)))
    (s_seq (s_for (s_rng1 (s_op s_int (SimE.p (s_call rfl (sa_io (sa_d s_int sa_nil)))) o_add)) g_nm (s_seq (s_setF (s_opF s_var (SimE.p (s_call rfl (sa_io (sa_d s_var (sa_d s_var (sa_d (s_op s_int s_pk o_add) sa_nil)))))) o_cat))
    (s_set (s_op s_var (SimE.p (s_call rfl (sa_io (sa_d (SimF.e (s_lst (s_cons s_int (s_cons s_int (s_cons s_int (s_cons s_int (s_cons s_int s_nil))))))) sa_nil)))) o_add))))
    (s_seq (s_setF (s_opF s_var (SimE.p (SimF.e (s_lc (vs := [4]) (s_rng1 (s_call rfl (sa_io (sa_d s_int sa_nil)))) g_nm (by decide) s_yes (s_call rfl (sa_io (sa_d (SimF.e (s_lst (s_cons (s_tup (s_cons s_int (s_cons (s_op s_var (SimE.p s_int) o_add) (s_cons s_int (s_cons s_int s_nil))))) (s_cons (s_tup (s_cons s_int (s_cons (s_op s_var (SimE.p s_int) o_add) (s_cons s_int s_nil)))) (s_cons (s_tup (s_cons s_int (s_cons s_int s_nil))) (s_cons (s_tup (s_cons s_int s_nil)) (s_cons (s_tup (s_cons s_int (s_cons s_var (s_cons s_int s_nil)))) (s_cons (s_tup (s_cons s_int s_nil)) s_nil)))))))) sa_nil)))))) o_cat))
    (s_seq (s_setF (s_lc (vs := [8]) (s_itL s_var) g_nm (by decide) (s_orT (s_b (s_op (s_slc s_var (s_part s_int) (s_part s_int) o_slT) (SimE.p (s_tup s_nil)) o_eqNilT)) (s_b (s_op (s_opV s_int o_ix) (SimE.p s_int) o_le))) s_var))
    (s_seq (s_setF (s_callF rfl (sa_io (sa_d (SimF.e (s_listRg (s_rg2 s_int (s_op s_int s_pk o_add)))) sa_nil))))
    (s_seq (s_setSl (s_rep (s_lst (s_cons (s_tup s_nil) s_nil)) s_var) (s_part s_int) (s_part (s_op s_int s_pk o_add)))
    (s_seq (s_for (s_zip s_var s_var) (g_tp rfl (gs_cons g_nm (gs_cons g_nm gs_nil))) (s_setAt (s_call rfl (sa_d s_var sa_nil)) s_var))
    (s_ret (s_cb1 s_pk o_tuple))))))))))))) (by decide) h
end
end B80

set_option autoImplicit true
set_option Elab.async false
set_option linter.all false
set_option maxRecDepth 100000
set_option maxHeartbeats 8000000
namespace B80
open PySem L2 XD
/-! ### recovered, on data -/
theorem canLay_ints : ∀ b : List Nat, PyData.canLayAll0 (b.map fun n => PyData.int (n : Nat)) = true
  | [] => rfl
  | x :: b => by rw [List.map_cons]; simp [PyData.canLayAll0, PyData.canLay0, canLay_ints b]
theorem canLay_im : ∀ im : List (List Nat), PyData.canLayAll0 (im.map blkD) = true
  | [] => rfl
  | x :: b => by rw [List.map_cons]; simp [PyData.canLayAll0, blkD, PyData.canLay0, canLay_ints x, canLay_im b]
theorem noL_ints : ∀ b : List Nat, noLs (b.map fun n => PyData.int (n : Nat)) = true
  | [] => rfl
  | x :: b => by rw [List.map_cons]; simp [noLs, noL, noL_ints b]
theorem noL_im : ∀ im : List (List Nat), noLs (im.map blkD) = true
  | [] => rfl
  | x :: b => by rw [List.map_cons]; simp [noLs, blkD, noL, noL_ints x, noL_im b]
theorem map_inj {α β : Type} {f : α → β} (hf : ∀ x y, f x = f y → x = y) : ∀ {a b : List α}, a.map f = b.map f → a = b
  | [], [], _ => rfl
  | [], _ :: _, h => by cases h
  | _ :: _, [], h => by cases h
  | x :: a, y :: b, h => by
    rw [List.map_cons, List.map_cons] at h
    injection h with h1 h2
    rw [hf _ _ h1, map_inj hf h2]
theorem blkD_inj {a b : List Nat} (h : blkD a = blkD b) : a = b := by
  unfold blkD at h
  injection h with h
  exact map_inj (fun x y e => by injection e with e; omega) h
theorem imD_inj {a b : List (List Nat)} (h : imD a = imD b) : a = b := by
  unfold imD at h
  injection h with h
  exact map_inj (fun x y e => blkD_inj e) h
def GoodIm (x : XD.D) (q : Nat × Nat × Nat × List (List Nat)) : Prop := x = imD ([q.1, q.2.1, q.2.2.1] :: q.2.2.2) ∧ imOk ([q.1, q.2.1, q.2.2.1] :: q.2.2.2) = true ∧ headOk ([q.1, q.2.1, q.2.2.1] :: q.2.2.2) = true
def BadIm (x : XD.D) : Prop := (x.canLay0 = true ∧ ∀ ds, x ≠ .tuple ds) ∨ ∃ b r, x = imD (b :: r) ∧ r.length ≤ 1000 ∧ (∀ c ∈ b :: r, c.length ≤ 1000) ∧ (imOk (b :: r) && headOk (b :: r)) = false
open Classical in
noncomputable def rec_x (x : XD.D) : Res (Bool × XD.D × List XD.D) := if h : ∃ q, GoodIm x q then .ok (false, imD (recIm h.choose.1 h.choose.2.1 h.choose.2.2.1 h.choose.2.2.2), []) else if BadIm x then .ex "InvalidImage" [] [] else .bad
noncomputable def rec_d : Fn
  | [.d x] => rec_x x
  | _ => .bad
theorem rec_good {m j h : Nat} {r : List (List Nat)} (h1 : imOk ([m, j, h] :: r) = true) (h2 : headOk ([m, j, h] :: r) = true) : rec_d [.d (imD ([m, j, h] :: r))] = .ok (false, imD (recIm m j h r), []) := by
  have g : ∃ q, GoodIm (imD ([m, j, h] :: r)) q := ⟨(m, j, h, r), rfl, h1, h2⟩
  show rec_x _ = _
  unfold rec_x
  rw [dif_pos g]
  have e := imD_inj g.choose_spec.1
  generalize g.choose = q at e
  obtain ⟨m', j', h', r'⟩ := q
  injection e with e1 e2
  injection e1 with e1 e3
  injection e3 with e3 e4
  injection e4 with e4
  subst e1; subst e2; subst e3; subst e4
  rfl
theorem rec_bad {x : XD.D} (h : BadIm x) : rec_d [.d x] = .ex "InvalidImage" [] [] := by
  have g : ¬ ∃ q, GoodIm x q := by
    rintro ⟨⟨m, j, h', r⟩, e, h1, h2⟩
    rcases h with ⟨_, h⟩ | ⟨b, r', e2, _, _, h⟩
    · exact h _ e
    · rw [e] at e2
      have := imD_inj e2
      rw [← this] at h
      simp only [h1, h2, Bool.and_self] at h
      cases h
  show rec_x _ = _
  unfold rec_x
  rw [dif_neg g, if_pos h]
section
variable {P : Program} {w : World} {K : PySem.W.Frag} {mg : Str → Option Value} {base : Heap} {a : Nat → Addr} {fd : Nat → FuncData} {cl : String → Value}
theorem d_recovered (T : Txt K mg a fd) {C_InvalidImage : Addr} (X_InvalidImage : Exc_InvalidImage K mg C_InvalidImage) (hcl_InvalidImage : cl "InvalidImage" = .ref C_InvalidImage) : FnOk P w K mg base (L2.CX P w) 6 (a 21) (fd 21) ["image"] (spD (⟨K, cl⟩ : Ct) 1 rec_d) := by
  refine (okx_recovered T X_InvalidImage).imp fun vs H Q E h => ?_
  obtain ⟨hl, F, as, ps, sF, tF, ao, nd, q⟩ := h
  have go : ∃ v x, as = [.d x] ∧ vs = [v] ∧ ps = [] ∧ XD.Dp K F v x := by
    cases ao with
    | nil => cases hl
    | io _ r => exact (show False from q).elim
    | d d1 r =>
      cases r with
      | nil => exact ⟨_, _, rfl, rfl, rfl, d1⟩
      | d _ _ => exact (show False from q).elim
      | io _ _ => exact (show False from q).elim
  obtain ⟨v, x, rfl, rfl, rfl, d1⟩ := go
  refine ⟨v, rfl, ?_⟩
  have ad : ∀ {H' : Hp}, Same H H' → After F H [] (over H F H') H' := fun s => over_after sF tF s
  by_cases g : ∃ q, GoodIm x q
  · obtain ⟨⟨m, j, h, r⟩, e, h1, h2⟩ := g
    subst e
    rw [rec_good h1 h2] at q
    have h1' := h1
    unfold imOk at h1'
    simp only [Bool.and_eq_true, decide_eq_true_eq, List.length_cons] at h1'
    have hbl : ∀ c ∈ [m, j, h] :: r, c.length ≤ 64 := fun c hc => by
      have := List.all_eq_true.mp h1'.2 c hc
      unfold blkOk at this
      simp only [Bool.and_eq_true, decide_eq_true_eq] at this
      exact this.1.1
    refine .inr ⟨[m, j, h], r, (d1.same sF).lib (by unfold imD; exact canLay_im _), by omega, fun c hc => Nat.le_trans (hbl c hc) (by decide), fun z => ?_, fun m' j' h' e _ _ H' y s' dy => ?_⟩
    · rw [h1, h2] at z; cases z
    · injection e with e1 e3
      injection e3 with e3 e4
      injection e4 with e4
      subst e1; subst e3; subst e4
      exact q (over H F H') H' y (ad s') .nil (dp_over sF tF s' dy (by unfold imD; exact noL_im _))
  · by_cases b : BadIm x
    · rw [rec_bad b] at q
      have ex : ∀ H', Same H H' → E (.ref C_InvalidImage) none H' := fun H' s' => by
        have := q (over H F H') H' none (ad s') .nil (.inl ⟨rfl, rfl⟩)
        rw [show (⟨K, cl⟩ : Ct).cl "InvalidImage" = .ref C_InvalidImage from hcl_InvalidImage] at this
        exact this
      rcases b with ⟨c, n⟩ | ⟨b, r, rfl, h1, h2, h3⟩
      · exact .inl ⟨x, (d1.same sF).lib c, n, ex⟩
      · refine .inr ⟨b, r, (d1.same sF).lib (by unfold imD; exact canLay_im _), h1, h2, fun _ => ex, fun m j h e k1 k2 => ?_⟩
        rw [k1, k2] at h3
        cases h3
    · exfalso
      have q' : PostC (⟨K, cl⟩ : Ct) F H [] Q E (rec_x x) := q
      unfold rec_x at q'
      rw [dif_neg g, if_neg b] at q'
      exact q'
theorem d__law_alike (T : Txt K mg a fd) : FnOk P w K mg base (L2.CX P w) 9 (a 26) (fd 26) ["one", "due"] (spD (⟨K, cl⟩ : Ct) 2 (alikeD 9)) := alike_of rfl (ok__law_alike (P := P) (w := w) (base := base) T 9)
def mt_InvalidImage (n : String) : Option Bool := if n = "InvalidImage" then some true else none
theorem hm_InvalidImage {C : Addr} (X : Exc_InvalidImage K mg C) (hcl : cl "InvalidImage" = .ref C) (n : String) (b : Bool) (h : mt_InvalidImage n = some b) : PySem.W.exmOne K (cl n) (.ref C) = some b := by
  unfold mt_InvalidImage at h
  by_cases e : n = "InvalidImage"
  · rw [if_pos e] at h
    injection h with h
    subst e; subst h
    rw [hcl]
    exact X.te
  · rw [if_neg e] at h; cases h
noncomputable def den__law_refused : DS := (dSeq (dSet 1 (dC (.bool false)))
    (dSeq (dTry mt_InvalidImage (dDrop (dCall rec_d (.e (dVar 0) :: []))) (dSet 1 (dC (.bool true))))
    (dRetA 1)))
noncomputable def _law_refused_d : Fn := fnD 2 den__law_refused
theorem d__law_refused (T : Txt K mg a fd) {C_InvalidImage : Addr} (X_InvalidImage : Exc_InvalidImage K mg C_InvalidImage) (hcl_InvalidImage : cl "InvalidImage" = .ref C_InvalidImage) : FnOk P w K mg base (L2.CX P w) 7 (a 33) (fd 33) ["image"] (spD (⟨K, cl⟩ : Ct) 1 _law_refused_d) := by
  have GX_recovered := d_recovered (P := P) (w := w) (base := base) (cl := cl) T X_InvalidImage hcl_InvalidImage
  refine T.F__law_refused.okX sc__law_refused (fun vs H Q E h => h.1) (fun cdv A outer s H vs Q E hr h => ?_)
  refine ⟨_, (pss_cons (ps_set (i := 1) sc__law_refused.nd rfl (Or.inl rfl) pe_bl)
    (pss_cons (ps_try_only (tb := fun W => _) rfl rfl ⟨rfl, by decide, .inl X_InvalidImage.gC⟩ (takes_of rfl rfl rfl rfl) (fun W pn xe tk po => (pss_one (ps_expr (pe_callS GX_recovered (hr.mono (by first | decide | omega)) rfl T.m_recovered T.F_recovered.kp T.b_recovered (fun σ => passAt tk σ) (pa_cons (pv 0) pa_nil))))) (fun a oe cls d pn hz hf => (pss_one (ps_set (i := 1) sc__law_refused.nd rfl (Or.inl rfl) pe_bl))))
    (pss_one (ps_ret (pv 1))))), ?_⟩
  exact fn_sim (C := ⟨K, cl⟩) (b := den__law_refused) (s_seq (s_set s_bl)
    (s_seq (s_try (hm_InvalidImage X_InvalidImage hcl_InvalidImage) (fun W => (s_drop (s_call rfl (sa_d s_var sa_nil)))) (fun _ _ _ => (s_set s_bl)))
    s_retA)) (by decide) h
noncomputable def den__law_right : DS := (dSeq (dFor (dRng1 (dC (.int 20))) (.nm 1) (dSeq (dSet 2 (dCall _law_drawn_drum_d (.io 0 :: [])))
    (dSeq (dSet 3 (dCall _law_recovered_d (.e (dVar 2) :: [])))
    (dIf (dOrT (dNotT (dB (dCall (alikeD 9) (.e (dCall rec_d (.e (dVar 2) :: [])) :: (.e (dVar 3) :: []))))) (dNotT (dB (dCall (alikeD 9) (.e (dCallK rec_d [0] (.e (dVar 3) :: [])) :: (.e (dVar 3) :: [])))))) (dRet (dC (.bool false))) dNext))))
    (dSeq (dSet 4 (d2 ixF (d2V ixF 2 (dC (.int 0))) (dC (.int 1))))
    (dSeq (dSetF 5 (dLst (dCons (dTup (dCons (d2 fAdd (d1 fLen (dPk 2)) (dC (.int 1))) (dCons (dVar 4) (dCons (dC (.int 1)) dNil)))) (dCons (dTup (dCons (d1 fLen (dPk 2)) (dCons (dC (.int 3)) (dCons (dC (.int 1)) dNil)))) (dCons (dTup (dCons (d1 fLen (dPk 2)) (dCons (dC (.int 41)) (dCons (dC (.int 1)) dNil)))) (dCons (dTup (dCons (d1 fLen (dPk 2)) (dCons (dVar 4) dNil))) (dCons (dTup (dCons (d1 fLen (dPk 2)) (dCons (dVar 4) (dCons (dC (.int 1)) (dCons (dC (.int 1)) dNil))))) (dCons (dTup (dCons (d1 fLen (dPk 2)) (dCons (dVar 4) (dCons (dC (.int 60001)) dNil)))) dNil))))))))
    (dSeq (dSetF 6 (d2 fCat (dLc (dItL (dVar 5)) (.nm 7) dYes (d2 fCatT (dTup (dCons (dVar 7) dNil)) (dSlc slT (dVar 2) (dPart (dC (.int 1))) dNo)) [7]) (dLst (dCons (dC .none) (dCons (d1 fList (dPk 2)) (dCons (dSlc slT (dVar 2) dNo (dPart (dC (.int 15)))) (dCons (d2 fCatT (d2 fCatT (dTup (dCons (d2V ixF 2 (dC (.int 0))) dNil)) (dSlc slT (dVar 2) (dPart (dC (.int 1))) (dPart (d1 fNeg (dC (.int 1)))))) (dTup (dCons (dTup (dCons (dC (.int 0)) dNil)) dNil))) dNil)))))))
    (dRet (d2 fEqNil (dLc (dItL (dVar 6)) (.nm 8) (dNotT (dB (dCall _law_refused_d (.e (dVar 8) :: [])))) (dVar 8) [8]) (dLst dNil)))))))
noncomputable def _law_right_d : Fn := fnD 9 den__law_right
theorem d__law_right (T : Txt K mg a fd) {C_InvalidImage : Addr} (X_InvalidImage : Exc_InvalidImage K mg C_InvalidImage) (hcl_InvalidImage : cl "InvalidImage" = .ref C_InvalidImage) : FnOk P w K mg base (L2.CX P w) 10 (a 34) (fd 34) ["urn"] (spD (⟨K, cl⟩ : Ct) 1 _law_right_d) := by
  have GX__law_drawn_drum := d__law_drawn_drum (P := P) (w := w) (base := base) (cl := cl) T
  have GX__law_recovered := d__law_recovered (P := P) (w := w) (base := base) (cl := cl) T
  have GX__law_alike := d__law_alike (P := P) (w := w) (base := base) (cl := cl) T
  have GX_recovered := d_recovered (P := P) (w := w) (base := base) (cl := cl) T X_InvalidImage hcl_InvalidImage
  have GX__law_refused := d__law_refused (P := P) (w := w) (base := base) (cl := cl) T X_InvalidImage hcl_InvalidImage
  refine T.F__law_right.okX sc__law_right (fun vs H Q E h => h.1) (fun cdv A outer s H vs Q E hr h => ?_)
  refine ⟨_, (pss_cons (ps_for (passes_of rfl) rfl (pi_range1 (by rfl) T.n_range (pa_cons pe_int pa_nil)) (pg_name (i := 1) sc__law_right.nd rfl (Or.inl rfl)) (pss_cons (ps_set (i := 2) sc__law_right.nd rfl (Or.inr rfl) (pe_callS GX__law_drawn_drum (hr.mono (by first | decide | omega)) rfl T.m__law_drawn_drum T.F__law_drawn_drum.kp T.b__law_drawn_drum (fun σ => passAt (takes_of rfl rfl rfl rfl) σ) (pa_cons (pv 0) pa_nil)))
    (pss_cons (ps_set (i := 3) sc__law_right.nd rfl (Or.inl rfl) (pe_callS GX__law_recovered (hr.mono (by first | decide | omega)) rfl T.m__law_recovered T.F__law_recovered.kp T.b__law_recovered (fun σ => passAt (takes_of rfl rfl rfl rfl) σ) (pa_cons (pv 2) pa_nil)))
    (pss_one (ps_if (PW.pt (pw_or (pt_not (pt_val (pe_callS GX__law_alike (hr.mono (by first | decide | omega)) rfl T.m__law_alike T.F__law_alike.kp T.b__law_alike (fun σ => passAt (takes_of rfl rfl rfl rfl) σ) (pa_cons (pe_callS GX_recovered (hr.mono (by first | decide | omega)) rfl T.m_recovered T.F_recovered.kp T.b_recovered (fun σ => passAt (takes_of rfl rfl rfl rfl) σ) (pa_cons (pv 2) pa_nil)) (pa_cons (pv 3) pa_nil))))) (pw_or1 (pt_not (pt_val (pe_callS GX__law_alike (hr.mono (by first | decide | omega)) rfl T.m__law_alike T.F__law_alike.kp T.b__law_alike (fun σ => passAt (takes_of rfl rfl rfl rfl) σ) (pa_cons (pe_callKS GX_recovered (hr.mono (by first | decide | omega)) rfl T.m_recovered T.F_recovered.kp (XD.Fun.perm T.F_recovered (ks := ["image"]) (pm := [0]) fun _ _ _ _ _ _ us hl => match us, hl with | [_], _ => rfl) (fun σ => passAt (takes_of rfl rfl rfl rfl) σ) (pk_cons (pv 3) pk_nil)) (pa_cons (pv 3) pa_nil)))))))) (pss_one (ps_ret pe_bl)) pss_nil)))))
    (pss_cons (ps_set (i := 4) sc__law_right.nd rfl (Or.inl rfl) (pe_ix (show IxR _ (rIx K) from ix_seq) (pe_ix (show IxR _ (rIx K) from ix_seq) (pv 2) pe_int (fun _ _ => rfl)) pe_int (fun _ _ => rfl)))
    (pss_cons (ps_set (i := 5) sc__law_right.nd rfl (Or.inl rfl) (pe_lst (pa_cons (pe_tup (pa_cons (pe_op op_add (pe_callB (show CallR _ _ (rLenS K) from call_len_seq) (by rfl) T.n_len PySem.boot_len (pa_cons (pv 2) pa_nil)) pe_int) (pa_cons (pv 4) (pa_cons pe_int pa_nil)))) (pa_cons (pe_tup (pa_cons (pe_callB (show CallR _ _ (rLenS K) from call_len_seq) (by rfl) T.n_len PySem.boot_len (pa_cons (pv 2) pa_nil)) (pa_cons pe_int (pa_cons pe_int pa_nil)))) (pa_cons (pe_tup (pa_cons (pe_callB (show CallR _ _ (rLenS K) from call_len_seq) (by rfl) T.n_len PySem.boot_len (pa_cons (pv 2) pa_nil)) (pa_cons pe_int (pa_cons pe_int pa_nil)))) (pa_cons (pe_tup (pa_cons (pe_callB (show CallR _ _ (rLenS K) from call_len_seq) (by rfl) T.n_len PySem.boot_len (pa_cons (pv 2) pa_nil)) (pa_cons (pv 4) pa_nil))) (pa_cons (pe_tup (pa_cons (pe_callB (show CallR _ _ (rLenS K) from call_len_seq) (by rfl) T.n_len PySem.boot_len (pa_cons (pv 2) pa_nil)) (pa_cons (pv 4) (pa_cons pe_int (pa_cons pe_int pa_nil))))) (pa_cons (pe_tup (pa_cons (pe_callB (show CallR _ _ (rLenS K) from call_len_seq) (by rfl) T.n_len PySem.boot_len (pa_cons (pv 2) pa_nil)) (pa_cons (pv 4) (pa_cons pe_int pa_nil)))) pa_nil))))))))
    (pss_cons (ps_set (i := 6) sc__law_right.nd rfl (Or.inl rfl) (pe_op (show OpR _ _ (rCatR K) from op_catR) (pe_lc (own := [("head", 7)]) (g := gName 7) (tt := tYes) (by rfl) sc__law_right.nd (pi_list (pv 5)) (blkOk_by (own := [("head", 7)]) (N := N__law_right) (sc := defScope s__law_right) (by decide +kernel)) (fun _ _ _ _ _ => (pg_name (i := 7) sc__law_right.nd rfl (Or.inl rfl))) (fun _ _ _ _ _ => pts_nil) (fun _ _ _ _ _ => (pe_op (show OpR _ _ (rCatA K) from op_catA) (pe_tup (pa_cons (pv 7) pa_nil)) (pe_slice (show SlR _ (rSlA K) from sl_tupA) (pv 2) (po_some pe_int) po_none)))) (pe_lst (pa_cons pe_non (pa_cons (pe_callTy (show CallR _ _ (rListS K) from call_list_of) (by rfl) T.n_list (by decide +kernel) (pa_cons (pv 2) pa_nil)) (pa_cons (pe_slice (show SlR _ (rSlA K) from sl_tupA) (pv 2) po_none (po_some pe_int)) (pa_cons (pe_op (show OpR _ _ (rCatA K) from op_catA) (pe_op (show OpR _ _ (rCatA K) from op_catA) (pe_tup (pa_cons (pe_ix (show IxR _ (rIx K) from ix_seq) (pv 2) pe_int (fun _ _ => rfl)) pa_nil)) (pe_slice (show SlR _ (rSlA K) from sl_tupA) (pv 2) (po_some pe_int) (po_some (pe_un un_neg pe_int)))) (pe_tup (pa_cons (pe_tup (pa_cons pe_int pa_nil)) pa_nil))) pa_nil)))))))
    (pss_one (ps_ret (pe_cmpR (show OpR _ _ (rEqNil K) from op_eqNil hr.units0) (pe_lc (own := [("one", 8)]) (g := gName 8) (by rfl) sc__law_right.nd (pi_list (pv 6)) (blkOk_by (own := [("one", 8)]) (N := N__law_right) (sc := defScope s__law_right) (by decide +kernel)) (fun _ _ _ _ _ => (pg_name (i := 8) sc__law_right.nd rfl (Or.inl rfl))) (fun _ _ _ _ _ => pts_one (pt_not (pt_val (pe_callS GX__law_refused (hr.mono (by first | decide | omega)) rfl T.m__law_refused T.F__law_refused.kp T.b__law_refused (fun σ => XD.pass_f _ σ) (pa_cons (pv 8) pa_nil))))) (fun _ _ _ _ _ => (pv 8))) (pe_lst pa_nil) (nomark _)))))))), ?_⟩
  exact fn_sim (C := ⟨K, cl⟩) (b := den__law_right) (s_seq (s_for (s_rng1 s_int) g_nm (s_seq (s_set (s_call rfl (sa_io sa_nil)))
    (s_seq (s_set (s_call rfl (sa_d s_var sa_nil)))
    (s_if (s_orT (s_notT (s_bB (s_call rfl (sa_d (s_call rfl (sa_d s_var sa_nil)) (sa_d s_var sa_nil))))) (s_notT (s_bB (s_call rfl (sa_d (s_callK rfl rfl (sa_d s_var sa_nil)) (sa_d s_var sa_nil)))))) (s_ret s_bl) s_next))))
    (s_seq (s_set (s_op (s_opV s_int o_ix) (SimE.p s_int) o_ix))
    (s_seq (s_setF (s_lst (s_cons (s_tup (s_cons (s_op (s_cb1 s_pk o_len) (SimE.p s_int) o_add) (s_cons s_var (s_cons s_int s_nil)))) (s_cons (s_tup (s_cons (s_cb1 s_pk o_len) (s_cons s_int (s_cons s_int s_nil)))) (s_cons (s_tup (s_cons (s_cb1 s_pk o_len) (s_cons s_int (s_cons s_int s_nil)))) (s_cons (s_tup (s_cons (s_cb1 s_pk o_len) (s_cons s_var s_nil))) (s_cons (s_tup (s_cons (s_cb1 s_pk o_len) (s_cons s_var (s_cons s_int (s_cons s_int s_nil))))) (s_cons (s_tup (s_cons (s_cb1 s_pk o_len) (s_cons s_var (s_cons s_int s_nil)))) s_nil))))))))
    (s_seq (s_setF (s_opF (SimF.e (s_lc (vs := [7]) (s_itL s_var) g_nm (by decide) s_yes (s_op (s_tup (s_cons s_var s_nil)) (SimE.p (s_slc s_var (s_part s_int) s_no o_slT)) o_catT))) (SimE.p (SimF.e (s_lst (s_cons s_non (s_cons (SimF.e (s_cb1F s_pk o_list)) (s_cons (s_slc s_var s_no (s_part s_int) o_slT) (s_cons (s_op (s_op (s_tup (s_cons (s_opV s_int o_ix) s_nil)) (SimE.p (s_slc s_var (s_part s_int) (s_part (s_un (r1 := rU fun i => V.int (-i)) (SimE.p s_int) o_neg)) o_slT)) o_catT) (SimE.p (s_tup (s_cons (s_tup (s_cons s_int s_nil)) s_nil))) o_catT) s_nil))))))) o_cat))
    (s_ret (s_op (SimF.e (s_lc (vs := [8]) (s_itL s_var) g_nm (by decide) (s_notT (s_bB (s_call rfl (sa_d s_var sa_nil)))) s_var)) (SimE.p (SimF.e (s_lst s_nil))) o_eqNil)))))) (by decide) h
noncomputable def den_law : DS := (dSeq (dFor (dRng1 (d2 fMax2 (dC (.int 1)) (d2 fMin2 (dC (.int 2)) (d1 fLen (dPk 0))))) (.nm 1) (dIf (dNotT (dB (dCallT _law_right_d (dCallF _law_urn_d (.e (dVar 0) :: (.e (dVar 1) :: []))) []))) (dRet (dC (.bool false))) dNext))
    (dRet (dC (.bool true))))
noncomputable def law_d : Fn := fnD 2 den_law
theorem d_law (T : Txt K mg a fd) {C_InvalidImage : Addr} (X_InvalidImage : Exc_InvalidImage K mg C_InvalidImage) (hcl_InvalidImage : cl "InvalidImage" = .ref C_InvalidImage) : FnOk P w K mg base (L2.CX P w) 11 (a 35) (fd 35) ["script"] (spD (⟨K, cl⟩ : Ct) 1 law_d) := by
  have GX__law_right := d__law_right (P := P) (w := w) (base := base) (cl := cl) T X_InvalidImage hcl_InvalidImage
  have GX__law_urn := d__law_urn (P := P) (w := w) (base := base) (cl := cl) T
  refine T.F_law.okX sc_law (fun vs H Q E h => h.1) (fun cdv A outer s H vs Q E hr h => ?_)
  refine ⟨_, (pss_cons (ps_for (passes_of rfl) rfl (pi_range1 (by rfl) T.n_range (pa_cons (pe_callB (call_max2 rfl) (by rfl) T.n_max (by decide +kernel) (pa_cons pe_int (pa_cons (pe_callB (call_min2 rfl) (by rfl) T.n_min (by decide +kernel) (pa_cons pe_int (pa_cons (pe_callB (show CallR _ _ (rLenS K) from call_len_seq) (by rfl) T.n_len PySem.boot_len (pa_cons (pv 0) pa_nil)) pa_nil))) pa_nil))) pa_nil)) (pg_name (i := 1) sc_law.nd rfl (Or.inl rfl)) (pss_one (ps_if (pt_not (pt_val (pe_callS GX__law_right (hr.mono (by first | decide | omega)) rfl T.m__law_right T.F__law_right.kp T.b__law_right (fun σ => passAt (takes_of rfl rfl rfl rfl) σ) (pa_cons (pe_callS GX__law_urn (hr.mono (by first | decide | omega)) rfl T.m__law_urn T.F__law_urn.kp T.b__law_urn (fun σ => passAt (takes_of rfl rfl rfl rfl) σ) (pa_cons (pv 0) (pa_cons (pv 1) pa_nil))) pa_nil)))) (pss_one (ps_ret pe_bl)) pss_nil)))
    (pss_one (ps_ret pe_bl))), ?_⟩
  exact fn_sim (C := ⟨K, cl⟩) (b := den_law) (s_seq (s_for (s_rng1 (s_cb2 s_int (SimE.p (s_cb2 s_int (SimE.p (s_cb1 s_pk o_len)) o_min2)) o_max2)) g_nm (s_if (s_notT (s_bB (s_callT rfl (s_callF rfl (sa_d s_var (sa_d s_var sa_nil))) sa_nil))) (s_ret s_bl) s_next))
    (s_ret s_bl)) (by decide) h
end
end B80

set_option autoImplicit true
set_option Elab.async false
set_option linter.all false
set_option maxRecDepth 100000
set_option maxHeartbeats 2000000
namespace B80
open PySem L2 XD
/-! ### the urn on data -/
def UrnD (u : XD.D) (n : Int) : Prop := ∃ r m c : Int, u = .list [.int r, .int m, .int c] ∧ 0 ≤ r ∧ 0 ≤ m ∧ m < 10 ^ 29 + 319 ∧ 0 ≤ c ∧ c ≤ n
theorem UrnD.mono {u : XD.D} {n k : Int} (h : UrnD u n) (l : n ≤ k) : UrnD u k := by
  obtain ⟨r, m, c, e, h1, h2, h3, h4, h5⟩ := h
  exact ⟨r, m, c, e, h1, h2, h3, h4, by omega⟩
theorem of_ok {u : XD.D} {n m : Int} (h : UrnD u n) (hn : n ≤ 1000000000) (m0 : 0 < m) (m1 : m ≤ 1000000) : ∃ r u', _law_of_d [.io u, .d (.int m)] = .ok (false, .int r, [u']) ∧ UrnD u' (n + 1) ∧ 0 ≤ r ∧ r < m := by
  obtain ⟨r, q, c, rfl, r0, q0, q1, c0, c1⟩ := h
  by_cases hr : 0 < r
  · refine ⟨r % m, .list [.int (r / m), .int q, .int c], ?_, ⟨_, _, _, rfl, Int.ediv_nonneg r0 (by omega), q0, q1, c0, by omega⟩, Int.emod_nonneg _ (by omega), Int.emod_lt_of_pos _ m0⟩
    simp [_law_of_d, den__law_of, hr, m0, CDiv, show m < 1073741824 by omega, ixN]
  · have hr0 : r = 0 := by omega
    subst hr0
    have hp : CPowW (q + (c + 1) * 15485867) 2 := powW2 (n := 110) (by omega) (by decide) (by decide)
    obtain ⟨one, ho⟩ : ∃ one : Int, one = ((q + (c + 1) * 15485867) ^ 2 + (c + 1)) % (10 ^ 27 + 103) := ⟨_, rfl⟩
    refine ⟨one / 999983 % m, .list [.int 0, .int ((q * 3 + one + 5) % (10 ^ 29 + 319)), .int (c + 1)], ?_, ⟨_, _, _, rfl, Int.le_refl _, Int.emod_nonneg _ (by decide), Int.emod_lt_of_pos _ (by decide), by omega, by omega⟩, Int.emod_nonneg _ (by omega), Int.emod_lt_of_pos _ m0⟩
    subst ho
    simp [_law_of_d, den__law_of, m0, CDiv, CPow, CMul, ixN, hp, show -18446744073709551616 < c + 1 ∧ c + 1 < 18446744073709551616 by omega]
theorem one_ok {u : XD.D} {n : Int} {xs : List XD.D} (h : UrnD u n) (hn : n ≤ 1000000000) (h0 : xs ≠ []) (h1 : xs.length ≤ 1000000) : ∃ x u', _law_one_d [.io u, .d (.list xs)] = .ok (false, x, [u']) ∧ UrnD u' (n + 1) ∧ x ∈ xs := by
  have h0' : 0 < xs.length := List.length_pos_iff.mpr h0
  obtain ⟨r, u', e, hu, r0, r1⟩ := of_ok (m := (xs.length : Int)) h hn (by omega) (by omega)
  obtain ⟨k, rfl⟩ := Int.eq_ofNat_of_zero_le r0
  have hk : k < xs.length := by omega
  refine ⟨xs[k], u', ?_, hu, List.getElem_mem _⟩
  simp [_law_one_d, den__law_one, e, e_at, hk]
@[simp] theorem e_sz1 {n : Nat} (h : n ≤ 1000000) : n ≤ sizeLine := by unfold sizeLine; omega
@[simp] theorem e_sz2 {n : Nat} (h : n ≤ 1000000) : n < sizeLine := by unfold sizeLine; omega
/-! ### running a body -/
def Run (b : DS) (ρ : Rho) (Q : Bool → XD.D → List XD.D → Prop) : Prop := ∃ f x ios, finR (b ρ) = .ok (f, x, ios) ∧ Q f x ios
theorem run_seq {a k : DS} {ρ : Rho} {Q : Bool → XD.D → List XD.D → Prop} (ρ1 : Rho) (h : a ρ = .ok (.nx ρ1)) (g : Run k ρ1 Q) : Run (dSeq a k) ρ Q := by
  obtain ⟨f, x, ios, e, q⟩ := g
  refine ⟨f, x, ios, ?_, q⟩
  rw [e_Seq, h]
  exact e
theorem fn_run {N : Nat} {b : DS} {as : List Sl} {Q : Bool → XD.D → List XD.D → Prop} (g : Run b (as ++ List.replicate (N - as.length) .un) Q) : ∃ f x ios, fnD N b as = .ok (f, x, ios) ∧ Q f x ios := g
theorem iosOf_nio {s : Sl} {ρ : Rho} (h : isIo s = false) : iosOf (s :: ρ) = iosOf ρ := by cases s <;> first | rfl | cases h
theorem rgI_len {a : Int} {n : Nat} : (rgI a n).length = n := by unfold rgI; simp
theorem rgI_at {a : Int} {n i : Nat} {x : XD.D} (h : (rgI a n)[i]? = some x) : i < n ∧ x = .int (a + i) := by
  have h1 := (List.getElem?_eq_some_iff.mp h).1
  rw [rgI_len] at h1
  refine ⟨h1, ?_⟩
  unfold rgI at h
  rw [List.getElem?_map, List.getElem?_range h1] at h
  exact (Option.some.inj h).symm
noncomputable def turnB : DS := dDrop (dM1 3 mApp (dM1 2 mPopAt (dCall _law_of_d (.io 0 :: (.e (d1 fLen (dPk 2)) :: [])))))
theorem turn_step {u1 u2 x y : XD.D} {rest ys : List XD.D} {k : Nat} (hk : k < rest.length) (e : _law_of_d [.io u1, .d (.int rest.length)] = .ok (false, .int k, [u2])) (h1 : rest.length ≤ 1000000) (h2 : ys.length ≤ 1000000) :
    turnB [.io u1, .d y, .o (.list rest), .o (.list ys), .d x] = .ok (.nx [.io u2, .d y, .o (.list (rest.eraseIdx k)), .o (.list (ys ++ [rest[k]])), .d x]) := by
  have h3 : ys.length < sizeLine := sizeOfL h2
  have h4 : seqIndex? (k : Int) rest.length = some k := sIx_ok (r := (k : Int)) (by omega) (by omega)
  have h5 : -9223372036854775808 ≤ (k : Int) ∧ (k : Int) < 9223372036854775808 := by omega
  unfold turnB
  simp -implicitDefEqProofs [e, h4, h5, h3, hk]
theorem turned_ok {u : XD.D} {n : Int} {xs : List XD.D} (h : UrnD u n) (hn : n + xs.length ≤ 1000000000) (h1 : xs.length ≤ 1000000) : ∃ ys u', _law_turned_d [.io u, .d (.list xs)] = .ok (true, .list ys, [u']) ∧ UrnD u' (n + xs.length) ∧ ys.Perm xs := by
  have hr : rgC 0 (xs.length : Int) := ⟨by decide, by decide, by omega, by omega⟩
  obtain ⟨ρ', e, hP⟩ := forL_inv (t := .nm 4) (b := turnB) (xs := rgI 0 xs.length) (ρ := [.io u, .d (.list xs), .o (.list xs), .o (.list []), .un])
    (fun i ρ => ∃ u' c4 rest ys, ρ = [.io u', .d (.list xs), .o (.list rest), .o (.list ys), c4] ∧ isIo c4 = false ∧ UrnD u' (n + i) ∧ (ys ++ rest).Perm xs ∧ ys.length = i) ⟨u, .un, xs, [], rfl, rfl, by simpa using h, .refl _, rfl⟩
    (fun i x ρ hx ⟨u1, c4, rest, ys, e, hc, hu, pm, hl⟩ => by
      subst e
      obtain ⟨hi, rfl⟩ := rgI_at hx
      have hlen := pm.length_eq
      rw [List.length_append] at hlen
      have hr0 : 0 < rest.length := by omega
      obtain ⟨r, u2, e2, hu2, r0, r1⟩ := of_ok (m := (rest.length : Int)) hu (by omega) (by omega) (by omega)
      obtain ⟨k, rfl⟩ := Int.eq_ofNat_of_zero_le r0
      have hk : k < rest.length := by omega
      exact ⟨[.io u1, .d (.list xs), .o (.list rest), .o (.list ys), .d (.int (0 + (i : Nat)))], _, by simp [hc], .inl (turn_step hk e2 (by omega) (by omega)), u2, _, _, _, rfl, rfl, by rw [show n + ((i + 1 : Nat) : Int) = n + i + 1 by push_cast; omega]; exact hu2, perm_pick hk pm, by simp [hl]⟩)
  obtain ⟨u', c4, rest, ys, rfl, hc, hu, pm, hl⟩ := hP
  rw [rgI_len] at hu hl
  have hlen := pm.length_eq
  rw [List.length_append] at hlen
  have e0 : rest = [] := List.eq_nil_of_length_eq_zero (by omega)
  subst e0
  rw [List.append_nil] at pm
  refine ⟨ys, u', ?_, hu, pm⟩
  have e' : dFor (dRng1 (d1 fLen (dPk 2))) (.nm 4) turnB [.io u, .d (.list xs), .o (.list xs), .o (.list []), .un] = .ok (.nx [.io u', .d (.list xs), .o (.list []), .o (.list ys), c4]) := by
    simp -implicitDefEqProofs [hr, e]
  obtain ⟨f, x, ios, e2, e3, e4, e5⟩ := fn_run (N := 5) (b := den__law_turned) (as := [.io u, .d (.list xs)]) (Q := fun f x ios => f = true ∧ x = .list ys ∧ ios = [u'])
    (run_seq [.io u, .d (.list xs), .o (.list xs), .o (.list []), .un] (by simp -implicitDefEqProofs [Nat.zero_le]) (run_seq _ e' ⟨true, .list ys, [u'], by simp -implicitDefEqProofs [iosOf_nio hc], rfl, rfl, rfl⟩))
  rw [← e3, ← e4, ← e5]
  exact e2
theorem numb_at {xs : List XD.D} {i : Nat} {x : XD.D} (h : (numb xs)[i]? = some x) : ∃ y, xs[i]? = some y ∧ x = .tuple [.int (i : Nat), y] := by
  unfold numb at h
  rw [List.getElem?_mapIdx] at h
  obtain ⟨y, h1, h2⟩ := Option.map_eq_some_iff.mp h
  exact ⟨y, h1, h2.symm⟩
theorem numb_len {xs : List XD.D} : (numb xs).length = xs.length := by unfold numb; simp
noncomputable def urnB : DS := dSet 2 (d2 fMod (d1 fInt (d2 fAdd (d2 fAdd (d2 fMul (dVar 2) (dC (.int 48271))) (d2 fMul (d2 fMod (d1 fInt (dPk 4)) (d2 fAdd (d2 fPow (dC (.int 10)) (dC (.int 23))) (dC (.int 117)))) (d2 fAdd (d2 fMul (dC (.int 2)) (dPk 3)) (dC (.int 7))))) (dC (.int 11)))) (d2 fAdd (d2 fPow (dC (.int 10)) (dC (.int 29))) (dC (.int 319))))
theorem urn_step {s k : XD.D} {m n : Int} {i : Nat} (hi : i < 63) : urnB [.d s, .d k, .d (.int m), .d (.int (i : Nat)), .d (.int n), .un] = .ok (.nx [.d s, .d k, .d (.int ((m * 48271 + n % (10 ^ 23 + 117) * (2 * i + 7) + 11) % (10 ^ 29 + 319))), .d (.int (i : Nat)), .d (.int n), .un]) := by
  have h1 : CMul 2 i := .inl (by decide)
  have h2 : CMul (n % (10 ^ 23 + 117)) (2 * i + 7) := .inr (by omega)
  have h3 : CMul m 48271 := .inr (by decide)
  have h4 : CPow 10 23 := by decide
  have h5 : CPow 10 29 := by decide
  have h6 : (0 : Int) < 10 ^ 23 + 117 := by decide
  have h7 : (0 : Int) < 10 ^ 29 + 319 := by decide
  unfold urnB
  simp -implicitDefEqProofs only [e_Set, e_d2, e_d1, e_Var, e_Pk, e_C, e_look0, e_lookS, e_varR1, e_pkd, e_pkR1, e_bok, e_mul, e_add, e_pow, e_mod, e_int, e_gd, h1, h2, h3, h4, h5, h6, h7, if_true, e_lift1, e_putR, e_iod, List.length_cons, List.length_nil, List.set_cons_succ, List.set_cons_zero, show Int.toNat 23 = 23 from rfl, show Int.toNat 29 = 29 from rfl, and_self, Nat.reduceAdd, Nat.reduceLT]
theorem urn_ok {ns : List Int} {k : Nat} (hl : ns.length ≤ 63) (hk : k ≤ 63) : ∃ u, _law_urn_d [.d (.list (ns.map .int)), .d (.int k)] = .ok (true, u, []) ∧ UrnD u k := by
  have e1 : cutD (ns.map PyData.int) none (some 63) = ns.map PyData.int := by
    rw [show (63 : Int) = ((63 : Nat) : Int) from rfl, cut_to, List.take_of_length_le (by simpa using hl)]
  obtain ⟨s, hs⟩ : ∃ s : XD.D, s = .list (ns.map .int) := ⟨_, rfl⟩
  obtain ⟨ρ', e, hP⟩ := forL_inv (t := .tp [.nm 3, .nm 4]) (b := urnB) (xs := numb (ns.map .int)) (ρ := [.d s, .d (.int k), .d (.int (331 * k + 17)), .un, .un, .un])
    (fun i ρ => ∃ m c3 c4, ρ = [.d s, .d (.int k), .d (.int m), c3, c4, .un] ∧ isIo c3 = false ∧ isIo c4 = false ∧ 0 ≤ m ∧ m < 10 ^ 29 + 319) ⟨_, _, _, rfl, rfl, rfl, by omega, by omega⟩
    (fun i x ρ hx ⟨m, c3, c4, e, h3, h4, m0, m1⟩ => by
      subst e
      obtain ⟨y, hy, rfl⟩ := numb_at hx
      rw [List.getElem?_map] at hy
      obtain ⟨n, hn, rfl⟩ := Option.map_eq_some_iff.mp hy
      have hi := (List.getElem?_eq_some_iff.mp hn).1
      exact ⟨[.d s, .d (.int k), .d (.int m), .d (.int (i : Nat)), .d (.int n), .un], _, by simp -implicitDefEqProofs [h3, h4], .inl (urn_step (by omega)), _, _, _, rfl, rfl, rfl, Int.emod_nonneg _ (by decide), Int.emod_lt_of_pos _ (by decide)⟩)
  obtain ⟨m, c3, c4, rfl, h3, h4, m0, m1⟩ := hP
  have e2 : dFor (dEnum (dSlcV slL 0 dNo (dPart (dC (.int 63))))) (.tp [.nm 3, .nm 4]) urnB [.d s, .d (.int k), .d (.int (331 * k + 17)), .un, .un, .un] = .ok (.nx [.d s, .d (.int k), .d (.int m), c3, c4, .un]) := by
    rw [hs] at e ⊢
    simp -implicitDefEqProofs [e1, e]
  obtain ⟨z, hz, e3⟩ : ∃ z : Int, 0 ≤ z ∧ dIfE (dB (d2 fLt (dVar 1) (d1 fLen (dPk 0)))) (d1 fAbs (d1 fInt (d2V ixF 0 (dVar 1)))) (dC (.int 0)) [.d s, .d (.int k), .d (.int m), c3, c4, .un] = .ok (.int z, [.d s, .d (.int k), .d (.int m), c3, c4, .un]) := by
    rw [hs]
    by_cases hk2 : k < ns.length
    · refine ⟨if ns[k] < 0 then -ns[k] else ns[k], by split <;> omega, ?_⟩
      simp -implicitDefEqProofs [hk2, e_at]
    · exact ⟨0, Int.le_refl _, by simp -implicitDefEqProofs [hk2]⟩
  obtain ⟨f, x, ios, e4, rfl, y, hy, rfl, rfl⟩ := fn_run (N := 6) (b := den__law_urn) (as := [.d s, .d (.int k)]) (Q := fun f x ios => f = true ∧ ∃ y : Int, 0 ≤ y ∧ x = .list [.int y, .int m, .int k] ∧ ios = [])
    (run_seq [.d s, .d (.int k), .d (.int (331 * k + 17)), .un, .un, .un] (by simp -implicitDefEqProofs [CMul]) (run_seq _ e2 (run_seq [.d s, .d (.int k), .d (.int m), c3, c4, .d (.int z)] (by rw [e_Set, e3]; simp -implicitDefEqProofs []) (by
      by_cases hz2 : z ≥ 10 ^ 18
      · exact ⟨true, .list [.int z, .int m, .int k], [], by simp -implicitDefEqProofs [CPow, show (1000000000000000000 : Int) ≤ z from hz2, iosOf_nio h3, iosOf_nio h4], rfl, z, hz, rfl, rfl⟩
      · exact ⟨true, .list [.int 0, .int m, .int k], [], by simp -implicitDefEqProofs [CPow, show ¬ (1000000000000000000 : Int) ≤ z from hz2, iosOf_nio h3, iosOf_nio h4], rfl, 0, Int.le_refl _, rfl, rfl⟩))))
  exact ⟨_, hs ▸ e4, y, m, k, rfl, hy, m0, m1, by omega, by omega⟩

/-! ### the law's own: figures, blocks -/
def topB : List Nat → Nat
  | [] => 0
  | x :: l => if topB l = 0 then (if x = 0 then 0 else 1) else topB l + 1
def trimB (b : List Nat) : List Nat := b.take (topB b)
theorem topB_ge : ∀ (b : List Nat) (i : Nat), b.getD i 0 ≠ 0 → i + 1 ≤ topB b
  | [], i, h => absurd rfl h
  | x :: l, 0, h => by
    unfold topB
    have hx : x ≠ 0 := h
    rw [if_neg hx]
    split <;> omega
  | x :: l, i + 1, h => by
    have := topB_ge l i h
    unfold topB
    rw [if_neg (by omega)]
    omega
theorem topB_at : ∀ (b : List Nat), topB b = 0 ∨ ∃ i, topB b = i + 1 ∧ i < b.length ∧ b.getD i 0 ≠ 0
  | [] => .inl rfl
  | x :: l => by
    unfold topB
    by_cases h0 : topB l = 0
    · rw [if_pos h0]
      by_cases hx : x = 0
      · rw [if_pos hx]; exact .inl rfl
      · rw [if_neg hx]; exact .inr ⟨0, rfl, by simp, hx⟩
    · rw [if_neg h0]
      rcases topB_at l with h | ⟨i, h1, h2, h3⟩
      · exact absurd h h0
      · exact .inr ⟨i + 1, by omega, by simp; omega, h3⟩
theorem topB_le (b : List Nat) : topB b ≤ b.length := by
  rcases topB_at b with h | ⟨i, h1, h2, _⟩ <;> omega
def marksB (b : List Nat) (n : Nat) : List Nat := (List.range n).filter fun i => decide (b.getD i 0 ≠ 0)
theorem marksB_succ (b : List Nat) (n : Nat) : marksB b (n + 1) = marksB b n ++ (if b.getD n 0 ≠ 0 then [n] else []) := by
  unfold marksB
  rw [List.range_succ, List.filter_append]
  congr 1
  by_cases h : b.getD n 0 ≠ 0
  · rw [if_pos h, List.filter_cons, if_pos (decide_eq_true h)]; rfl
  · rw [if_neg h, List.filter_cons, if_neg (by rw [decide_eq_true_eq]; exact h)]; rfl
theorem marksB_len (b : List Nat) (n : Nat) : (marksB b n).length ≤ n := by
  unfold marksB
  exact Nat.le_trans (List.length_filter_le _ _) (by simp)
theorem marks_top {b : List Nat} {m : Int} (h1 : m ∈ (0 : Int) :: (marksB b b.length).map fun i => ((i : Nat) : Int) + 1) (h2 : ∀ y ∈ (0 : Int) :: (marksB b b.length).map (fun i => ((i : Nat) : Int) + 1), y ≤ m) : m = (topB b : Nat) := by
  have up : m ≤ (topB b : Nat) := by
    rcases List.mem_cons.mp h1 with e | h
    · omega
    · obtain ⟨i, hi, e⟩ := List.mem_map.mp h
      have := topB_ge b i (of_decide_eq_true (List.mem_filter.mp hi).2)
      omega
  rcases topB_at b with e | ⟨i, e1, e2, e3⟩
  · have := h2 0 List.mem_cons_self
    omega
  · have := h2 ((i : Nat) + 1) (List.mem_cons_of_mem _ (List.mem_map.mpr ⟨i, List.mem_filter.mpr ⟨List.mem_range.mpr e2, decide_eq_true e3⟩, rfl⟩))
    omega
def padB (b : List Nat) : List Nat := b ++ List.replicate (3 - b.length) 0

theorem intsD_int {α : Type} (f : α → Int) : ∀ l : List α, intsD (l.map fun i => PyData.int (f i)) = some (l.map f)
  | [] => rfl
  | x :: l => by
    rw [List.map_cons, List.map_cons]
    unfold intsD
    rw [intsD_int f l]
    rfl
theorem figures_ok {b : List Nat} (h : b.length ≤ 1000) : _law_figures_d [.d (blkD b), .d (.int 3)] = .ok (true, .list ((padB b).map fun n => .int (n : Nat)), []) := by
  have e1 : (3 - (b.length : Int)).toNat = 3 - b.length := by omega
  have e2 : -9223372036854775808 ≤ 3 - (b.length : Int) ∧ 3 - (b.length : Int) < 9223372036854775808 := by omega
  have e3 : 3 - b.length ≤ sizeLine := e_sz1 (by omega)
  have e4 : b.length + (3 - b.length) ≤ sizeLine := e_sz1 (by omega)
  unfold _law_figures_d den__law_figures blkD padB
  simp -implicitDefEqProofs [e1, e2, e3, e4]
def blockL : DE := dLc (dEnum (dVar 0)) (.tp ((.nm 1) :: (.nm 2) :: [])) (dB (d2 fNe (dVar 2) (dC (.int 0)))) (d2 fAdd (dVar 1) (dC (.int 1))) [1, 2]
theorem block_ok {b : List Nat} (h : b.length ≤ 1000) : _law_block_d [.d (blkD b)] = .ok (false, blkD (trimB b), []) := by
  obtain ⟨acc, ρ', e, ea, er⟩ := lcL_inv (t := .tp [.nm 1, .nm 2]) (te := dB (d2 fNe (dVar 2) (dC (.int 0)))) (el := d2 fAdd (dVar 1) (dC (.int 1))) (vs := [1, 2]) (xs := numb (b.map fun n => PyData.int (n : Nat))) (ρ := [.d (blkD b), .un, .un])
    (fun i acc ρ => acc = (marksB b i).map (fun i => .int (((i : Nat) : Int) + 1)) ∧ ρ = [.d (blkD b), .un, .un]) (by rw [numb_len]; simpa using Nat.le_trans h (by decide)) ⟨rfl, rfl⟩
    (fun i x acc ρ hx ha ⟨e1, e2⟩ => by
      subst e1; subst e2
      obtain ⟨y, hy, rfl⟩ := numb_at hx
      rw [List.getElem?_map] at hy
      obtain ⟨n, hn, rfl⟩ := Option.map_eq_some_iff.mp hy
      have hg : b.getD i 0 = n := by rw [List.getD_eq_getElem?_getD, hn]; rfl
      refine ⟨rfl, [.d (blkD b), .d (.int (i : Nat)), .d (.int (n : Nat))], !decide ((n : Int) = 0), [.d (blkD b), .d (.int (i : Nat)), .d (.int (n : Nat))], by simp -implicitDefEqProofs [wipeR], by simp -implicitDefEqProofs [], ?_⟩
      by_cases h0 : n = 0
      · refine .inl ⟨by simp [h0], ?_, rfl⟩
        rw [marksB_succ, hg, if_neg (by omega), List.append_nil]
      · refine .inr ⟨by simp [h0], .int ((i : Nat) + 1), [.d (blkD b), .d (.int (i : Nat)), .d (.int (n : Nat))], by simp -implicitDefEqProofs [], ?_, rfl⟩
        rw [marksB_succ, hg, if_pos (by omega), List.map_append]
        rfl)
  subst ea; subst er
  rw [numb_len, List.length_map] at e
  have hm : maxL 0 ((marksB b b.length).map fun i => ((i : Nat) : Int) + 1) = (topB b : Nat) := by
    obtain ⟨g1, g2⟩ := maxL_ge ((marksB b b.length).map fun i => ((i : Nat) : Int) + 1) 0
    refine marks_top ?_ fun y hy => ?_
    · rcases maxL_mem ((marksB b b.length).map fun i => ((i : Nat) : Int) + 1) 0 with e | e
      · rw [e]; exact List.mem_cons_self
      · exact List.mem_cons_of_mem _ e
    · rcases List.mem_cons.mp hy with e | e
      · subst e; exact g1
      · exact g2 y e
  have hf : fMax (.list (PyData.int 0 :: (marksB b b.length).map fun i => .int (((i : Nat) : Int) + 1))) = some (.int (topB b : Nat)) := by
    have : intsD (PyData.int 0 :: (marksB b b.length).map fun i => .int (((i : Nat) : Int) + 1)) = some (0 :: (marksB b b.length).map fun i => ((i : Nat) : Int) + 1) := by
      unfold intsD
      rw [intsD_int]
      rfl
    simp only [fMax]
    rw [this]
    show some (PyData.int (maxL 0 _)) = _
    rw [hm]
  have hl : (marksB b b.length).length ≤ 1000000 := Nat.le_trans (marksB_len b b.length) (by omega)
  have hl2 : 1 + (marksB b b.length).length ≤ sizeLine := e_sz1 (by have := marksB_len b b.length; omega)
  have e2 : blockL [.d (blkD b), .un, .un] = .ok (.list ((marksB b b.length).map (fun i => .int (((i : Nat) : Int) + 1))), [.d (blkD b), .un, .un]) := by
    unfold blockL
    rw [e_Lc]
    have : dEnum (dVar 0) [.d (blkD b), .un, .un] = .ok (numb (b.map fun n => PyData.int (n : Nat)), [.d (blkD b), .un, .un]) := rfl
    rw [this]
    exact e
  have e3 : d1 fMax (d2 fCat (dLst (dCons (dC (.int 0)) dNil)) blockL) [.d (blkD b), .un, .un] = .ok (.int (topB b : Nat), [.d (blkD b), .un, .un]) := by
    simp -implicitDefEqProofs [e2, hl2, hf]
  have e4 : dSlc slT (dVar 0) dNo (dPart (d1 fMax (d2 fCat (dLst (dCons (dC (.int 0)) dNil)) blockL))) [.d (blkD b), .un, .un] = .ok (blkD (trimB b), [.d (blkD b), .un, .un]) := by
    have ep : dPart (d1 fMax (d2 fCat (dLst (dCons (dC (.int 0)) dNil)) blockL)) [.d (blkD b), .un, .un] = .ok (some ((topB b : Nat) : Int), [.d (blkD b), .un, .un]) := by
      rw [e_Part, e3]; rfl
    unfold blkD at ep ⊢
    unfold trimB
    rw [List.map_take]
    simp -implicitDefEqProofs [-e_Part, ep, cut_to]
  show fnD 3 den__law_block _ = _
  unfold den__law_block
  rw [e_fnD]
  show finR (dRet (d1 fTuple (dSlc slT (dVar 0) dNo (dPart (d1 fMax (d2 fCat (dLst (dCons (dC (.int 0)) dNil)) blockL))))) [.d (blkD b), .un, .un]) = _
  rw [e_Ret, e_d1, e4]
  rfl
end B80

set_option autoImplicit true
set_option Elab.async false
set_option linter.all false
set_option maxRecDepth 100000
set_option maxHeartbeats 2000000
namespace B80
open PySem L2 XD PyProof.Rows
/-! ### a bundle's puts on data -/
theorem dedup_step (ks : List Int) (a : Int) : step_dedup ks a = if a ∈ ks then ks else ks ++ [a] := by
  unfold step_dedup
  by_cases h : a ∈ ks
  · rw [if_pos h, if_pos]
    exact List.any_eq_true.mpr ⟨a, h, by simp⟩
  · rw [if_neg h, if_neg]
    intro z
    obtain ⟨y, hy, e⟩ := List.any_eq_true.mp z
    rw [beq_iff_eq] at e
    exact h (e ▸ hy)
theorem dedup_le : ∀ (l ks : List Int), (l.foldl step_dedup ks).length ≤ ks.length + l.length
  | [], ks => Nat.le_refl _
  | x :: l, ks => by
    rw [List.foldl_cons, dedup_step]
    by_cases h : x ∈ ks
    · rw [if_pos h]
      have := dedup_le l ks
      simp only [List.length_cons]
      omega
    · rw [if_neg h]
      have := dedup_le l (ks ++ [x])
      simp only [List.length_cons, List.length_append, List.length_nil] at this ⊢
      omega
theorem dedup_nodup : ∀ (l ks : List Int), (l.foldl step_dedup ks).length = ks.length + l.length ↔ l.Nodup ∧ ∀ x ∈ l, x ∉ ks
  | [], ks => by simp
  | x :: l, ks => by
    rw [List.foldl_cons, dedup_step]
    by_cases h : x ∈ ks
    · rw [if_pos h]
      have := dedup_le l ks
      constructor
      · intro e; simp only [List.length_cons] at e; omega
      · intro e; exact absurd h (e.2 x List.mem_cons_self)
    · rw [if_neg h]
      have := dedup_nodup l (ks ++ [x])
      rw [List.length_append, List.length_cons, List.length_nil] at this
      rw [List.length_cons, show ks.length + (l.length + 1) = ks.length + (0 + 1) + l.length by omega, this, List.nodup_cons]
      constructor
      · rintro ⟨h1, h2⟩
        refine ⟨⟨fun hx => (h2 x hx) (by simp), h1⟩, fun y hy => ?_⟩
        rcases List.mem_cons.mp hy with e | hy
        · subst e; exact h
        · exact fun z => h2 y hy (by simp [z])
      · rintro ⟨⟨h1, h2⟩, h3⟩
        refine ⟨h2, fun y hy z => ?_⟩
        rcases List.mem_append.mp z with z | z
        · exact h3 y (List.mem_cons_of_mem _ hy) z
        · rw [List.mem_singleton] at z
          subst z
          exact h1 hy
theorem pad_at {b : List Nat} {k : Nat} (hk : k < 3) : atI ((padB b).map fun n => PyData.int (n : Nat)) (k : Int) = some (.int (b.getD k 0 : Nat)) := by
  rw [e_at, List.getElem?_map]
  have : (padB b)[k]? = some (b.getD k 0) := by
    unfold padB
    by_cases h : k < b.length
    · rw [List.getElem?_append_left h, List.getD_eq_getElem?_getD, List.getElem?_eq_getElem h]; rfl
    · rw [List.getElem?_append_right (by omega), List.getElem?_replicate_of_lt (by omega), List.getD_eq_getElem?_getD, List.getElem?_eq_none (by omega)]; rfl
  rw [this]; rfl
theorem trim_id {b : List Nat} (h : b.getLast? ≠ some 0) : trimB b = b := by
  unfold trimB
  refine List.take_of_length_le ?_
  cases b with
  | nil => exact Nat.le_refl _
  | cons x l =>
    have := topB_ge (x :: l) l.length (fun z => h ?_)
    · simpa using this
    · rw [List.getLast?_eq_getElem?]
      rw [List.getD_eq_getElem?_getD] at z
      have hl : l.length < (x :: l).length := by simp
      rw [List.getElem?_eq_getElem hl] at z
      rw [show (x :: l).length - 1 = l.length by simp, List.getElem?_eq_getElem hl]
      exact congrArg some z
theorem getLast_drop {b : List Nat} (k : Nat) (h : b.getLast? ≠ some 0) : (b.drop k).getLast? ≠ some 0 := by
  rw [List.getLast?_drop]
  split
  · exact fun z => by cases z
  · exact h
def putD (p : Nat × List Nat) : XD.D := .tuple [.int (p.1 : Nat), blkD p.2]
def isPut (n : Nat) (b : List Nat) : Bool := decide (b.getD 1 0 = n) && putB b
def isEnd (n : Nat) (b : List Nat) : Bool := decide (b.getD 1 0 = n) && endB b
def ptOf (b : List Nat) : Nat × List Nat := (b.getD 2 0, b.drop 3)
theorem putsB_eq (im : List (List Nat)) (j n : Nat) : putsB im j n = ((jour im j).filter (isPut n)).map ptOf := by
  unfold putsB ownB
  rw [List.filter_filter]
  congr 1
  congr 1
  funext b
  unfold isPut
  rw [Bool.and_comm]
theorem endsB_eq (im : List (List Nat)) (j n : Nat) : endsB im j n = ((jour im j).filter (isEnd n)).map fun b => b.getD 2 0 := by
  unfold endsB ownB
  rw [List.filter_filter]
  congr 1
  congr 1
  funext b
  unfold isEnd
  rw [Bool.and_comm]
theorem jour_eq {im : List (List Nat)} {j : Nat} (h : 6 + j ≤ im.length) : jour im j = (im.drop 6).take j := by
  unfold jour
  refine List.ext_getElem? fun i => ?_
  by_cases hi : i < j
  · rw [List.getElem?_map, List.getElem?_range hi, List.getElem?_take_of_lt hi, List.getElem?_drop]
    show some (im.getD (6 + i) []) = _
    rw [List.getD_eq_getElem?_getD, List.getElem?_eq_getElem (by omega)]
    rfl
  · rw [List.getElem?_eq_none (by simpa using hi), List.getElem?_eq_none (by rw [List.length_take, List.length_drop]; omega)]
noncomputable def putsT1 : DT := (dAndT (dB (d2V fNeNilT 4 (dTup dNil))) (dAndT (dB (d2 fGt (d1 fLen (dPk 4)) (dC (.int 0)))) (dAndT (dB (d2 fEq (d2V ixF 5 (dC (.int 0))) (dC (.int 2)))) (dAndT (dB (d2 fEq (d2V ixF 5 (dC (.int 1))) (dPk 1))) (dB (d2 fLe (d1 fLen (dPk 4)) (dC (.int 63))))))))
noncomputable def putsT2 : DT := (dAndT (dB (d2 fEq (d2V ixF 5 (dC (.int 0))) (dC (.int 3)))) (dAndT (dB (d2 fEq (d2V ixF 5 (dC (.int 1))) (dPk 1))) (dB (d2 fLe (d1 fLen (dPk 4)) (dC (.int 3))))))
noncomputable def putsA1 : DS := dDrop (dM1 2 mApp (dTup (dCons (d2V ixF 5 (dC (.int 2))) (dCons (dCall _law_block_d (.e (dSlc slT (dVar 4) (dPart (dC (.int 3))) dNo) :: [])) dNil))))
noncomputable def putsA2 : DS := dDrop (dM1 3 mApp (d2V ixF 5 (dC (.int 2))))
noncomputable def putsBody : DS := (dSeq (dSet 5 (dCallF _law_figures_d (.e (dVar 4) :: (.e (dC (.int 3)) :: []))))
    (dSeq (dIf putsT1 putsA1 dNext) (dIf putsT2 putsA2 dNext)))
theorem puts_t1 {x y z : XD.D} {p bs : List XD.D} {v0 v1 n : Nat} (a0 : atI p 0 = some (.int v0)) (a1 : atI p 1 = some (.int v1)) (hz : bs = [] → v0 = 0) :
    putsT1 [.d x, .d (.int n), .o y, .o z, .d (.tuple bs), .d (.list p), .un, .un] = .ok (decide (v1 = n) && (decide (v0 = 2) && decide (bs.length ≤ 63)), [.d x, .d (.int n), .o y, .o z, .d (.tuple bs), .d (.list p), .un, .un]) := by
  unfold putsT1
  by_cases hb : bs = []
  · have h0 := hz hb
    subst h0; subst hb
    simp -implicitDefEqProofs []
  · have hp : 0 < bs.length := List.length_pos_iff.mpr hb
    by_cases k0 : v0 = 2 <;> by_cases k1 : v1 = n <;> by_cases k2 : bs.length ≤ 63
    all_goals
      have e0 : ((v0 : Int) = 2) = (v0 = 2) := by apply propext; omega
      have e1 : ((v1 : Int) = n) = (v1 = n) := by apply propext; omega
      have e2 : ((bs.length : Int) ≤ 63) = (bs.length ≤ 63) := by apply propext; omega
      simp -implicitDefEqProofs [a0, a1, hb, hp, k0, k1, k2, e0, e1, e2]
theorem puts_t2 {x y z : XD.D} {p bs : List XD.D} {v0 v1 n : Nat} (a0 : atI p 0 = some (.int v0)) (a1 : atI p 1 = some (.int v1)) :
    putsT2 [.d x, .d (.int n), .o y, .o z, .d (.tuple bs), .d (.list p), .un, .un] = .ok (decide (v1 = n) && (decide (v0 = 3) && decide (bs.length ≤ 3)), [.d x, .d (.int n), .o y, .o z, .d (.tuple bs), .d (.list p), .un, .un]) := by
  unfold putsT2
  by_cases k0 : v0 = 3 <;> by_cases k1 : v1 = n <;> by_cases k2 : bs.length ≤ 3
  all_goals
    have e0 : ((v0 : Int) = 3) = (v0 = 3) := by apply propext; omega
    have e1 : ((v1 : Int) = n) = (v1 = n) := by apply propext; omega
    have e2 : ((bs.length : Int) ≤ 3) = (bs.length ≤ 3) := by apply propext; omega
    simp -implicitDefEqProofs [a0, a1, k0, k1, k2, e0, e1, e2]
theorem puts_step {x : XD.D} {n : Nat} {b : List Nat} {ps es : List XD.D} {c5 : Sl} (h5 : isIo c5 = false) (hb : b.length ≤ 64) (ht : b.getLast? ≠ some 0) (lp : ps.length ≤ 1000) (le : es.length ≤ 1000) :
    putsBody [.d x, .d (.int n), .o (.list ps), .o (.list es), .d (blkD b), c5, .un, .un] = .ok (.nx [.d x, .d (.int n), .o (.list (ps ++ (if isPut n b = true then [putD (ptOf b)] else []))), .o (.list (es ++ (if isEnd n b = true then [.int (b.getD 2 0 : Nat)] else []))), .d (blkD b), .d (.list ((padB b).map fun n => .int (n : Nat))), .un, .un]) := by
  have f := figures_ok (b := b) (by omega)
  have a0 : atI ((padB b).map fun n => PyData.int (n : Nat)) 0 = _ := pad_at (b := b) (k := 0) (by omega)
  have a1 : atI ((padB b).map fun n => PyData.int (n : Nat)) 1 = _ := pad_at (b := b) (k := 1) (by omega)
  have a2 : atI ((padB b).map fun n => PyData.int (n : Nat)) 2 = _ := pad_at (b := b) (k := 2) (by omega)
  have hd := block_ok (b := b.drop 3) (by rw [List.length_drop]; omega)
  rw [trim_id (getLast_drop 3 ht)] at hd
  have z1 : ps.length < sizeLine := e_sz2 (by omega)
  have z2 : es.length < sizeLine := e_sz2 (by omega)
  obtain ⟨p, hp⟩ : ∃ p, p = (padB b).map fun n => PyData.int (n : Nat) := ⟨_, rfl⟩
  rw [← hp] at f a0 a1 a2 ⊢
  obtain ⟨ρ, hρ⟩ : ∃ ρ : Rho, ρ = [.d x, .d (.int n), .o (.list ps), .o (.list es), .d (blkD b), .d (.list p), .un, .un] := ⟨_, rfl⟩
  have s1 : (dSet 5 (dCallF _law_figures_d (.e (dVar 4) :: (.e (dC (.int 3)) :: [])))) [.d x, .d (.int n), .o (.list ps), .o (.list es), .d (blkD b), c5, .un, .un] = .ok (.nx ρ) := by
    rw [hρ]
    simp -implicitDefEqProofs [f, h5]
  have t1 : putsT1 ρ = .ok (isPut n b, ρ) := by
    have := puts_t1 (x := x) (y := .list ps) (z := .list es) (n := n) (bs := b.map fun n => PyData.int (n : Nat)) a0 a1 (fun z => by rw [List.map_eq_nil_iff.mp z]; rfl)
    rw [List.length_map] at this
    rw [hρ]
    exact this
  have t2 : ∀ q : List XD.D, putsT2 [.d x, .d (.int n), .o (.list q), .o (.list es), .d (blkD b), .d (.list p), .un, .un] = .ok (isEnd n b, [.d x, .d (.int n), .o (.list q), .o (.list es), .d (blkD b), .d (.list p), .un, .un]) := fun q => by
    have := puts_t2 (x := x) (y := .list q) (z := .list es) (n := n) (bs := b.map fun n => PyData.int (n : Nat)) a0 a1
    rw [List.length_map] at this
    exact this
  have s2 : dIf putsT1 putsA1 dNext ρ = .ok (.nx [.d x, .d (.int n), .o (.list (ps ++ (if isPut n b = true then [putD (ptOf b)] else []))), .o (.list es), .d (blkD b), .d (.list p), .un, .un]) := by
    rw [e_If, t1]
    by_cases g : isPut n b = true
    · rw [if_pos g, e_bok, if_pos g, hρ]
      have es1 : cutD (b.map fun n => PyData.int (n : Nat)) (some 3) none = (b.drop 3).map fun n => PyData.int (n : Nat) := by
        rw [show (3 : Int) = ((3 : Nat) : Int) from rfl, cut_fr, List.map_drop]
      unfold putsA1 putD ptOf
      unfold blkD at hd ⊢
      rw [← es1] at hd ⊢
      simp -implicitDefEqProofs [a2, hd, z1]
    · rw [if_neg g, e_bok, if_neg g, hρ, List.append_nil]
      rfl
  have s3 : ∀ q : List XD.D, dIf putsT2 putsA2 dNext [.d x, .d (.int n), .o (.list q), .o (.list es), .d (blkD b), .d (.list p), .un, .un] = .ok (.nx [.d x, .d (.int n), .o (.list q), .o (.list (es ++ (if isEnd n b = true then [.int (b.getD 2 0 : Nat)] else []))), .d (blkD b), .d (.list p), .un, .un]) := fun q => by
    rw [e_If, t2 q]
    by_cases g : isEnd n b = true
    · rw [if_pos g, e_bok, if_pos g]
      unfold putsA2
      simp -implicitDefEqProofs [a2, z2]
    · rw [if_neg g, e_bok, if_neg g, List.append_nil]
      rfl
  unfold putsBody
  rw [e_Seq, s1, e_bok, e_seqK1, e_Seq, s2, e_bok, e_seqK1, s3]

noncomputable def putsLoop : DS := dFor (dItT (dSlc slT (dVar 0) (dPart (dC (.int 6))) (dPart (d2 fAdd (dC (.int 6)) (d2 ixF (d2V ixF 0 (dC (.int 0))) (dC (.int 1))))))) (.nm 4) putsBody
theorem puts_loop {m j h n : Nat} {r : List (List Nat)} (hj : 6 + j ≤ r.length) (hj2 : j ≤ 1000) (hb : ∀ b ∈ r, b.length ≤ 64 ∧ b.getLast? ≠ some 0) :
    ∃ c4 c5, cont c4 = none ∧ cont c5 = none ∧ putsLoop [.d (imD ([m, j, h] :: r)), .d (.int n), .o (.list []), .o (.list []), .un, .un, .un, .un] = .ok (.nx [.d (imD ([m, j, h] :: r)), .d (.int n), .o (.list ((putsB ([m, j, h] :: r) j n).map putD)), .o (.list ((endsB ([m, j, h] :: r) j n).map fun e => .int (e : Nat))), c4, c5, .un, .un]) := by
  obtain ⟨im, him⟩ : ∃ im, im = [m, j, h] :: r := ⟨_, rfl⟩
  have hjr : jour im j = (im.drop 6).take j := jour_eq (by rw [him, List.length_cons]; omega)
  have hjl : (jour im j).length = j := by unfold jour; simp
  have hmem : ∀ b ∈ jour im j, b ∈ r := fun b hb => by
    rw [hjr, him] at hb
    have := List.mem_of_mem_take hb
    rw [List.drop_succ_cons] at this
    exact List.mem_of_mem_drop this
  have hcut : cutD (im.map blkD) (some 6) (some (6 + (j : Int))) = (jour im j).map blkD := by
    rw [show (6 : Int) + (j : Int) = ((6 + j : Nat) : Int) by push_cast; rfl, show (6 : Int) = ((6 : Nat) : Int) from rfl, cut_mid, hjr, List.map_take, List.map_drop]
    congr 1
    omega
  obtain ⟨ρ', e, hP⟩ := forL_inv (t := .nm 4) (b := putsBody) (xs := (jour im j).map blkD) (ρ := [.d (imD im), .d (.int n), .o (.list []), .o (.list []), .un, .un, .un, .un])
    (fun i ρ => ∃ c4 c5, cont c4 = none ∧ cont c5 = none ∧ ρ = [.d (imD im), .d (.int n), .o (.list (((((jour im j).take i).filter (isPut n)).map ptOf).map putD)), .o (.list (((((jour im j).take i).filter (isEnd n)).map fun b => b.getD 2 0).map fun e => .int (e : Nat))), c4, c5, .un, .un])
    ⟨.un, .un, rfl, rfl, rfl⟩
    (fun i x ρ hx ⟨c4, c5, h4, h5, e⟩ => by
      subst e
      rw [List.getElem?_map] at hx
      obtain ⟨b, hb1, rfl⟩ := Option.map_eq_some_iff.mp hx
      obtain ⟨l1, l2⟩ := hb b (hmem b (List.mem_of_getElem? hb1))
      have z1 : ((((jour im j).take i).filter (isPut n)).map ptOf).length ≤ 1000 := by
        rw [List.length_map]
        have := List.length_filter_le (isPut n) ((jour im j).take i)
        rw [List.length_take] at this
        omega
      have z2 : ((((jour im j).take i).filter (isEnd n)).map fun b => b.getD 2 0).length ≤ 1000 := by
        rw [List.length_map]
        have := List.length_filter_le (isEnd n) ((jour im j).take i)
        rw [List.length_take] at this
        omega
      have st := puts_step (x := imD im) (n := n) (b := b) (ps := ((((jour im j).take i).filter (isPut n)).map ptOf).map putD) (es := ((((jour im j).take i).filter (isEnd n)).map fun b => b.getD 2 0).map fun e => .int (e : Nat)) (io_cont h5) l1 l2 (by rw [List.length_map]; exact z1) (by rw [List.length_map]; exact z2)
      refine ⟨_, _, by rw [e_tg1, e_putR, if_pos ⟨by simp, io_cont h4⟩]; rfl, .inl st, .d (blkD b), .d (.list ((padB b).map fun n => .int (n : Nat))), rfl, rfl, ?_⟩
      rw [takeNext hb1, List.filter_append, List.filter_append]
      have f1 : ∀ p : List Nat → Bool, [b].filter p = if p b = true then [b] else [] := fun p => by rw [List.filter_cons]; rfl
      rw [f1, f1]
      by_cases g1 : isPut n b = true <;> by_cases g2 : isEnd n b = true <;> simp [g1, g2])
  obtain ⟨c4, c5, h4, h5, e2⟩ := hP
  rw [List.length_map, List.take_of_length_le (Nat.le_refl _), ← putsB_eq, ← endsB_eq] at e2
  subst e2
  refine ⟨c4, c5, h4, h5, ?_⟩
  rw [← him]
  unfold putsLoop
  rw [e_For]
  have hit : dItT (dSlc slT (dVar 0) (dPart (dC (.int 6))) (dPart (d2 fAdd (dC (.int 6)) (d2 ixF (d2V ixF 0 (dC (.int 0))) (dC (.int 1)))))) [.d (imD im), .d (.int n), .o (.list []), .o (.list []), .un, .un, .un, .un] = .ok ((jour im j).map blkD, [.d (imD im), .d (.int n), .o (.list []), .o (.list []), .un, .un, .un, .un]) := by
    have h0 : atI (im.map blkD) 0 = some (blkD [m, j, h]) := by rw [him, List.map_cons]; exact e_at0
    have h1 : ixF (blkD [m, j, h]) (.int 1) = some (.int (j : Nat)) := by
      unfold blkD
      exact e_at1
    unfold imD
    simp -implicitDefEqProofs [h0, h1, hcut]
  rw [hit, e_bok]
  exact e
theorem any_int {l : List Nat} {n : Nat} : ((l.map fun e => PyData.int (e : Nat)).any fun y => PyData.eqv y (.int (n : Nat))) = decide (n ∈ l) := by
  induction l with
  | nil => rfl
  | cons x l ih =>
    rw [List.map_cons, List.any_cons, ih, show PyData.eqv (.int (x : Nat)) (.int (n : Nat)) = decide ((x : Int) = (n : Int)) from rfl]
    by_cases h : x = n
    · subst h; simp
    · have h2 : ¬ (x : Int) = n := by omega
      have h3 : ¬ n = x := fun z => h z.symm
      simp [h2, h3]
theorem flat_ints (l : List Nat) : (l.map fun e => PyData.int (e : Nat)).all flatD = true := by
  rw [List.all_map]
  exact List.all_eq_true.mpr fun _ _ => rfl
theorem in_ints {b : Bool} {l : List Nat} {n : Nat} : inF b (.int (n : Nat)) (.list (l.map fun e => .int (e : Nat))) = some (.bool (if b then !decide (n ∈ l) else decide (n ∈ l))) := by
  unfold inF
  show gd _ _ = _
  rw [any_int]
  unfold gd
  rw [if_pos ⟨rfl, flat_ints l⟩]

theorem blk_lc {l : List (Nat × List Nat)} {s0 s1 s2 s3 c4 c5 s6 s7 : Sl} (h : l.length ≤ 1000) (h4 : cont c4 = none) (h5 : cont c5 = none) : dLcL (.tp ((.nm 4) :: (.nm 5) :: [])) dYes (dVar 4) [4, 5] (l.map putD) [] [s0, s1, s2, s3, c4, c5, s6, s7] = .ok (.list (l.map fun p => .int (p.1 : Nat)), [s0, s1, s2, s3, c4, c5, s6, s7]) := by
  have fm : (l.map putD).filterMap (fun x => match x with | .tuple (y :: _) => some y | _ => none) = l.map fun p => PyData.int (p.1 : Nat) := by
    clear h
    induction l with
    | nil => rfl
    | cons p l ih => rw [List.map_cons, List.filterMap_cons, List.map_cons, ← ih]; rfl
  rw [lcL_pure (fun x => match x with | .tuple (y :: _) => some y | _ => none) (by simp [wipeOk, h4, h5]) (l.map putD) [] (by rw [List.length_map]; simpa using Nat.le_trans h (by decide)) fun x hx => ?_, fm]
  · rfl
  · obtain ⟨p, hp, rfl⟩ := List.mem_map.mp hx
    refine ⟨[s0, s1, s2, s3, .d (.int (p.1 : Nat)), .d (blkD p.2), s6, s7], true, [s0, s1, s2, s3, .d (.int (p.1 : Nat)), .d (blkD p.2), s6, s7], ?_, rfl, .inr ⟨rfl, .int (p.1 : Nat), [s0, s1, s2, s3, .d (.int (p.1 : Nat)), .d (blkD p.2), s6, s7], rfl, rfl, rfl⟩⟩
    unfold putD
    simp -implicitDefEqProofs [wipeR]
def badAt (n j at' : Nat) : Bool := decide (at' = 0 ∨ (6 ≤ at' ∧ at' < 6 + j)) || decide (n ≤ at')
theorem bad_go {n j i : Nat} (h : 6 + j < n) : badAt n j i = !goB n j i := by
  unfold badAt goB
  by_cases h1 : i = 0 <;> by_cases h2 : 6 ≤ i <;> by_cases h3 : i < 6 + j <;> by_cases h4 : n ≤ i <;> simp [h1, h2, h3, h4] <;> omega
def barF (n j : Nat) : XD.D → Option XD.D
  | .int y => if badAt n j y.toNat = true then some (.int y) else none
  | _ => none
theorem barF_at {n j p : Nat} : barF n j (.int (p : Nat)) = if badAt n j p = true then some (.int (p : Nat)) else none := rfl
theorem bar_lc {l : List Nat} {im bs : List XD.D} {j : Nat} {s1 s2 s3 c4 c5 s6 : Sl} (h : l.length ≤ 1000) (h4 : cont c4 = none) (hbs : bs = ((0 :: (List.range j).map fun i => 6 + i).map fun e => PyData.int (e : Nat))) :
    dLcL (.nm 4) (dOrT (dB (d2V (inF false) 4 (dVar 7))) (dB (d2V fGe 4 (d1 fLen (dPk 0))))) (dVar 4) [4] (l.map fun i => .int (i : Nat)) [] [.d (.tuple im), s1, s2, s3, c4, c5, s6, .d (.list bs)] = .ok (.list ((l.filter (badAt im.length j)).map fun i => .int (i : Nat)), [.d (.tuple im), s1, s2, s3, c4, c5, s6, .d (.list bs)]) := by
  have hin : ∀ i : Nat, inF false (.int (i : Nat)) (.list bs) = some (.bool (decide (i = 0 ∨ (6 ≤ i ∧ i < 6 + j)))) := fun i => by
    rw [hbs, in_ints]
    congr 2
    show decide _ = _
    refine decide_eq_decide.mpr ?_
    rw [List.mem_cons, List.mem_map]
    constructor
    · rintro (e | ⟨k, hk, e⟩)
      · exact .inl e
      · have := List.mem_range.mp hk
        exact .inr ⟨by omega, by omega⟩
    · rintro (e | ⟨e1, e2⟩)
      · exact .inl e
      · exact .inr ⟨i - 6, List.mem_range.mpr (by omega), by omega⟩
  have fm : (l.map fun i => PyData.int (i : Nat)).filterMap (barF im.length j) = (l.filter (badAt im.length j)).map fun i => PyData.int (i : Nat) := by
    clear h
    induction l with
    | nil => rfl
    | cons p l ih =>
      rw [List.map_cons, List.filterMap_cons, List.filter_cons, ih]
      by_cases g : badAt im.length j p = true
      · rw [barF_at, if_pos g, if_pos g]; rfl
      · rw [barF_at, if_neg g, if_neg g]
  rw [lcL_pure (barF im.length j) (by simp [wipeOk, h4]) (l.map fun i => .int (i : Nat)) [] (by rw [List.length_map]; simpa using Nat.le_trans h (by decide)) fun x hx => ?_, fm]
  · rfl
  · obtain ⟨p, hp, rfl⟩ := List.mem_map.mp hx
    refine ⟨[.d (.tuple im), s1, s2, s3, .d (.int (p : Nat)), c5, s6, .d (.list bs)], badAt im.length j p, [.d (.tuple im), s1, s2, s3, .d (.int (p : Nat)), c5, s6, .d (.list bs)], by simp -implicitDefEqProofs [wipeR], ?_, ?_⟩
    · have hi := hin p
      by_cases g : p = 0 ∨ (6 ≤ p ∧ p < 6 + j)
      · rw [decide_eq_true g] at hi
        have : badAt im.length j p = true := by unfold badAt; rw [decide_eq_true g]; rfl
        rw [this]
        simp -implicitDefEqProofs [hi]
      · rw [decide_eq_false g] at hi
        have : badAt im.length j p = decide (im.length ≤ p) := by unfold badAt; rw [decide_eq_false g]; rfl
        rw [this]
        have e : ((im.length : Int) ≤ (p : Int)) = (im.length ≤ p) := by apply propext; omega
        simp -implicitDefEqProofs [hi, e]
    · rw [barF_at]
      by_cases g : badAt im.length j p = true
      · exact .inr ⟨g, .int (p : Nat), _, rfl, if_pos g, rfl⟩
      · exact .inl ⟨by simpa using g, if_neg g, rfl⟩
end B80

set_option autoImplicit true
set_option Elab.async false
set_option linter.all false
set_option maxRecDepth 100000
set_option maxHeartbeats 2000000
namespace B80
open PySem L2 XD PyProof.Rows
def optD : Option (List (Nat × List Nat)) → XD.D
  | none => .none
  | some l => .list (l.map putD)
theorem ints_len {l : List Nat} : intsD (l.map fun e => PyData.int (e : Nat)) = some (l.map fun e => ((e : Nat) : Int)) := intsD_int (fun e : Nat => (e : Int)) l
theorem nodup_ints {l : List Nat} : (l.map fun e => ((e : Nat) : Int)).Nodup ↔ l.Nodup := by
  induction l with
  | nil => simp
  | cons x l ih =>
    rw [List.map_cons, List.nodup_cons, List.nodup_cons, ih]
    have : ((x : Int) ∈ l.map fun e => ((e : Nat) : Int)) ↔ x ∈ l := by
      rw [List.mem_map]
      constructor
      · rintro ⟨y, hy, e⟩; rw [show x = y by omega]; exact hy
      · intro hx; exact ⟨x, hx, rfl⟩
    rw [this]
theorem lenSet_ok {l : List Nat} (h : l.length ≤ 4000) : ∃ k : Nat, fLenSet (.list (l.map fun e => .int (e : Nat))) = some (.int (k : Nat)) ∧ (k = l.length ↔ l.Nodup) := by
  refine ⟨((l.map fun e => ((e : Nat) : Int)).foldl step_dedup []).length, ?_, ?_⟩
  · simp only [fLenSet]
    rw [ints_len]
    show gd _ _ = _
    unfold gd
    rw [if_pos (by rw [List.length_map]; exact h)]
  · have := dedup_nodup (l.map fun e => ((e : Nat) : Int)) []
    rw [List.length_map, nodup_ints] at this
    simpa using this
theorem filter_nil {l : List (Nat × List Nat)} {n j : Nat} (h : 6 + j < n) : (((l.map fun p => p.1).filter (badAt n j)).map fun i => PyData.int (i : Nat)).isEmpty = l.all fun p => goB n j p.1 := by
  induction l with
  | nil => rfl
  | cons p l ih =>
    rw [List.map_cons, List.filter_cons, List.all_cons, bad_go h]
    by_cases g : goB n j p.1 = true
    · rw [g]; simpa using ih
    · rw [Bool.not_eq_true] at g
      rw [g]; rfl
noncomputable def pA : DS := dSetF 6 (dLc (dItL (dVar 2)) (.tp ((.nm 4) :: (.nm 5) :: [])) dYes (dVar 4) [4, 5])
noncomputable def pB : DS := dSet 7 (d2 fCat (dLst (dCons (dC (.int 0)) dNil)) (dListRg (dRg2 (dC (.int 6)) (d2 fAdd (dC (.int 6)) (d2 ixF (d2V ixF 0 (dC (.int 0))) (dC (.int 1)))))))
noncomputable def pT : DT := dOrT (dB (d2 fGt (dVar 1) (dC (.int 59999)))) (dOrT (dB (d2 (inF true) (d1 fLen (dPk 2)) (dPk 3))) (dB (d2 fNe (d1 fLenSet (dPk 6)) (d1 fLen (dPk 6)))))
noncomputable def pL : DE := dLc (dItL (dVar 6)) (.nm 4) (dOrT (dB (d2V (inF false) 4 (dVar 7))) (dB (d2V fGe 4 (d1 fLen (dPk 0))))) (dVar 4) [4]
noncomputable def pD : DE := dIfE (dB (d2 fEqNil pL (dLst dNil))) (dVar 2) (dC .none)
theorem puts_of_ok {m j h n : Nat} {r : List (List Nat)} (hj : 6 + j ≤ r.length) (hj2 : j ≤ 1000) (hb : ∀ b ∈ r, b.length ≤ 64 ∧ b.getLast? ≠ some 0) :
    _law_puts_of_d [.d (imD ([m, j, h] :: r)), .d (.int n)] = .ok (false, optD (bundle ([m, j, h] :: r) j n), []) := by
  obtain ⟨c4, c5, h4, h5, e0⟩ := puts_loop (m := m) (h := h) (n := n) hj hj2 hb
  obtain ⟨im, him⟩ : ∃ im, im = [m, j, h] :: r := ⟨_, rfl⟩
  rw [← him] at e0 ⊢
  have hlen : im.length = r.length + 1 := by rw [him]; rfl
  have hjl : (jour im j).length = j := by unfold jour; simp
  obtain ⟨pl, hpl⟩ : ∃ pl, pl = putsB im j n := ⟨_, rfl⟩
  obtain ⟨el, hel⟩ : ∃ el, el = endsB im j n := ⟨_, rfl⟩
  have lp : pl.length ≤ 1000 := by
    rw [hpl, putsB_eq, List.length_map]
    have := List.length_filter_le (isPut n) (jour im j)
    omega
  have eb : bundle im j n = if 60000 ≤ n ∨ pl.length ∉ el ∨ ¬ (pl.map (·.1)).Nodup then none else if pl.all (fun p => goB im.length j p.1) then some pl else none := by
    rw [hpl, hel]; rfl
  rw [eb]
  rw [← hpl, ← hel] at e0
  obtain ⟨bs, hbs⟩ : ∃ bs, bs = ((0 :: (List.range j).map fun i => 6 + i).map fun e => PyData.int (e : Nat)) := ⟨_, rfl⟩
  have hb2 : bs = [PyData.int 0] ++ rgI 6 j := by
    rw [hbs, List.map_cons, List.map_map]
    unfold rgI
    rfl
  have g0 : atI (im.map blkD) 0 = some (blkD [m, j, h]) := by rw [him, List.map_cons]; exact e_at0
  have g1 : ixF (blkD [m, j, h]) (.int 1) = some (.int (j : Nat)) := by
    unfold blkD
    exact e_at1
  have eA : pA [.d (imD im), .d (.int n), .o (.list (pl.map putD)), .o (.list (el.map fun e => .int (e : Nat))), c4, c5, .un, .un] = .ok (.nx [.d (imD im), .d (.int n), .d (.list (pl.map putD)), .o (.list (el.map fun e => .int (e : Nat))), c4, c5, .o (.list (pl.map fun p => .int (p.1 : Nat))), .un]) := by
    unfold pA
    have := blk_lc (l := pl) (s0 := .d (imD im)) (s1 := .d (.int n)) (s2 := .d (.list (pl.map putD))) (s3 := .o (.list (el.map fun e => .int (e : Nat)))) (s6 := .un) (s7 := .un) lp h4 h5
    simp -implicitDefEqProofs [this]
  have hrg : RgOk 6 (6 + (j : Int)) := RgOk.of_le (by decide) (by omega) (by decide) (by omega)
  have eB : pB [.d (imD im), .d (.int n), .d (.list (pl.map putD)), .o (.list (el.map fun e => .int (e : Nat))), c4, c5, .o (.list (pl.map fun p => .int (p.1 : Nat))), .un] = .ok (.nx [.d (imD im), .d (.int n), .d (.list (pl.map putD)), .o (.list (el.map fun e => .int (e : Nat))), c4, c5, .o (.list (pl.map fun p => .int (p.1 : Nat))), .d (.list bs)]) := by
    unfold pB imD
    have e1 : (6 + (j : Int) - 6).toNat = j := by omega
    have e2 : 1 + j ≤ sizeLine := e_sz1 (by omega)
    simp -implicitDefEqProofs [g0, g1, hrg, e1, rgI_len, e2, hb2]
  obtain ⟨kk, hk1, hk2⟩ := lenSet_ok (l := pl.map (·.1)) (by rw [List.length_map]; omega)
  rw [List.length_map] at hk2
  rw [List.map_map] at hk1
  obtain ⟨ρ4, h4'⟩ : ∃ ρ4 : Rho, ρ4 = [.d (imD im), .d (.int n), .d (.list (pl.map putD)), .o (.list (el.map fun e => .int (e : Nat))), c4, c5, .o (.list (pl.map fun p => .int (p.1 : Nat))), .d (.list bs)] := ⟨_, rfl⟩
  have eT : pT ρ4 = .ok (decide (60000 ≤ n ∨ pl.length ∉ el ∨ ¬ (pl.map (·.1)).Nodup), ρ4) := by
    have k1 : fLenSet (.list (pl.map fun p => .int (p.1 : Nat))) = some (.int (kk : Nat)) := hk1
    have i1 : inF true (.int (pl.length : Nat)) (.list (el.map fun e => .int (e : Nat))) = _ := in_ints
    rw [h4']
    unfold pT
    by_cases q1 : 60000 ≤ n
    · have : (59999 : Int) < n := by omega
      rw [decide_eq_true (.inl q1)]
      simp -implicitDefEqProofs [this]
    · have n1 : ¬ (59999 : Int) < n := by omega
      by_cases q2 : pl.length ∈ el
      · have e2 : (if true = true then !decide (pl.length ∈ el) else decide (pl.length ∈ el)) = false := by rw [if_pos rfl, decide_eq_true q2]; rfl
        rw [e2] at i1
        by_cases q3 : (pl.map (·.1)).Nodup
        · have e3 : kk = pl.length := hk2.mpr q3
          rw [decide_eq_false (fun z => z.elim q1 (fun z => z.elim (fun z => z q2) (fun z => z q3)))]
          simp -implicitDefEqProofs [n1, i1, k1, e3]
        · have e3 : ¬ (kk : Int) = pl.length := fun z => q3 (hk2.mp (by omega))
          rw [decide_eq_true (.inr (.inr q3))]
          simp -implicitDefEqProofs [n1, i1, k1, e3]
      · have e2 : (if true = true then !decide (pl.length ∈ el) else decide (pl.length ∈ el)) = true := by rw [if_pos rfl, decide_eq_false q2]; rfl
        rw [e2] at i1
        rw [decide_eq_true (.inr (.inl q2))]
        simp -implicitDefEqProofs [n1, i1]
  have eD : ∃ ρ5, iosOf ρ5 = [] ∧ pD ρ4 = .ok (optD (if pl.all (fun p => goB im.length j p.1) then some pl else none), ρ5) := by
    have hbl := bar_lc (l := pl.map (·.1)) (im := im.map blkD) (j := j) (s1 := .d (.int n)) (s2 := .d (.list (pl.map putD))) (s3 := .o (.list (el.map fun e => .int (e : Nat)))) (c5 := c5) (s6 := .d (.list (pl.map fun p => .int (p.1 : Nat)))) (by rw [List.length_map]; exact lp) h4 hbs
    rw [List.map_map] at hbl
    have fn := filter_nil (l := pl) (n := im.length) (j := j) (by omega)
    rw [List.length_map] at hbl
    have eL : pL ρ4 = .ok (.list (((pl.map (·.1)).filter (badAt im.length j)).map fun i => .int (i : Nat)), [.d (imD im), .d (.int n), .d (.list (pl.map putD)), .o (.list (el.map fun e => .int (e : Nat))), c4, c5, .d (.list (pl.map fun p => .int (p.1 : Nat))), .d (.list bs)]) := by
      rw [h4']
      unfold pL
      rw [e_Lc]
      exact hbl
    refine ⟨[.d (imD im), .d (.int n), .d (.list (pl.map putD)), .o (.list (el.map fun e => .int (e : Nat))), c4, c5, .d (.list (pl.map fun p => .int (p.1 : Nat))), .d (.list bs)], ?_, ?_⟩
    · rw [e_ios2, e_ios2, e_ios2, e_ios3, iosOf_nio (io_cont h4), iosOf_nio (io_cont h5)]; rfl
    · unfold pD
      by_cases g : pl.all (fun p => goB im.length j p.1) = true
      · rw [g] at fn
        rw [if_pos g]
        simp -implicitDefEqProofs [eL, fn]
        rfl
      · rw [Bool.not_eq_true] at g
        rw [g] at fn
        rw [if_neg (by rw [g]; decide)]
        simp -implicitDefEqProofs [eL, fn]
        rfl
  obtain ⟨ρ5, i5, eD⟩ := eD
  rw [← h4'] at eB
  have i4 : iosOf ρ4 = [] := by
    rw [h4', e_ios2, e_ios2, e_ios2, e_ios3, iosOf_nio (io_cont h4), iosOf_nio (io_cont h5)]; rfl
  obtain ⟨f, x, ios, e1, rfl, rfl, rfl⟩ := fn_run (N := 8) (b := den__law_puts_of) (as := [.d (imD im), .d (.int n)]) (Q := fun f x ios => f = false ∧ x = optD (if 60000 ≤ n ∨ pl.length ∉ el ∨ ¬ (pl.map (·.1)).Nodup then none else if pl.all (fun p => goB im.length j p.1) then some pl else none) ∧ ios = [])
    (run_seq [.d (imD im), .d (.int n), .o (.list []), .o (.list []), .un, .un, .un, .un] rfl (run_seq _ e0 (run_seq _ eA (run_seq _ eB (by
      show Run (dSeq (dIf pT (dRet (dC .none)) dNext) (dRet pD)) ρ4 _
      by_cases q : 60000 ≤ n ∨ pl.length ∉ el ∨ ¬ (pl.map (·.1)).Nodup
      · refine ⟨false, .none, [], ?_, rfl, by rw [if_pos q]; rfl, rfl⟩
        rw [e_Seq, e_If, eT, e_bok, if_pos (decide_eq_true q), e_Ret, e_C, e_bok, e_bok, e_seqK4, e_fin2, i4]
      · refine ⟨false, _, [], ?_, rfl, by rw [if_neg q], rfl⟩
        rw [e_Seq, e_If, eT, e_bok, if_neg (by rw [decide_eq_false q]; exact Bool.false_ne_true), e_Next, e_bok, e_seqK1, e_Ret, eD, e_bok, e_fin2, i5])))))
  exact e1
end B80

set_option autoImplicit true
set_option Elab.async false
set_option linter.all false
set_option maxRecDepth 100000
set_option maxHeartbeats 2000000
namespace B80
open PySem L2 XD PyProof.Rows
/-! ### the law's recovered on data -/
theorem forL_brk {t : Tg} {b : DS} {xs : List XD.D} (P : Nat → Rho → Prop) (Q : Rho → Prop) {ρ : Rho} (h0 : P 0 ρ) (hs : ∀ i x ρ, xs[i]? = some x → P i ρ → ∃ ρ1, tgPut t x ρ = .ok ρ1 ∧ ((∃ ρ2, (b ρ1 = .ok (.nx ρ2) ∨ b ρ1 = .ok (.ct ρ2)) ∧ P (i + 1) ρ2) ∨ ∃ ρ2, b ρ1 = .ok (.bk ρ2) ∧ Q ρ2)) (hq : ∀ ρ, P xs.length ρ → Q ρ) :
    ∃ ρ', dForL t b xs ρ = .ok (.nx ρ') ∧ Q ρ' := by
  have : ∀ (k i : Nat) (ρ : Rho), i + k = xs.length → P i ρ → ∃ ρ', dForL t b (xs.drop i) ρ = .ok (.nx ρ') ∧ Q ρ' := by
    intro k
    induction k with
    | zero => intro i ρ hi p; rw [List.drop_eq_nil_of_le (by omega)]; exact ⟨ρ, rfl, hq ρ (by rw [← hi]; exact p)⟩
    | succ k ih =>
      intro i ρ hi p
      have hlt : i < xs.length := by omega
      obtain ⟨ρ1, e1, h⟩ := hs i xs[i] ρ (List.getElem?_eq_getElem hlt) p
      rw [List.drop_eq_getElem_cons hlt]
      rcases h with ⟨ρ2, e2, p2⟩ | ⟨ρ2, e2, q2⟩
      · obtain ⟨ρ', e3, p3⟩ := ih (i + 1) ρ2 (by omega) p2
        refine ⟨ρ', ?_, p3⟩
        show (tgPut t xs[i] ρ).bind _ = _
        rw [e1]
        show (b ρ1).bind _ = _
        rcases e2 with e2 | e2 <;> rw [e2] <;> exact e3
      · refine ⟨ρ2, ?_, q2⟩
        show (tgPut t xs[i] ρ).bind _ = _
        rw [e1]
        show (b ρ1).bind _ = _
        rw [e2]
        rfl
  exact this xs.length 0 ρ (by omega) h0
theorem ixN_nat {n k : Nat} (h : k < n) : ixN n (k : Int) = some k := by
  unfold ixN
  rw [if_pos (by omega), if_pos (by omega)]
  rfl
/-! the plain part -/
theorem nodup_le : ∀ (l L : List Nat), l.Nodup → (∀ x ∈ l, x ∈ L) → l.length ≤ L.length
  | [], L, _, _ => Nat.zero_le _
  | x :: l, L, hn, h => by
    rw [List.nodup_cons] at hn
    have h1 := h x List.mem_cons_self
    have := nodup_le l (L.erase x) hn.2 fun y hy => (List.mem_erase_of_ne (fun e => hn.1 (by rw [← e]; exact hy))).mpr (h y (List.mem_cons_of_mem _ hy))
    rw [List.length_erase_of_mem h1] at this
    have : 0 < L.length := List.length_pos_of_mem h1
    simp only [List.length_cons]
    omega
theorem bundle_own {im : List (List Nat)} {j n : Nat} {l : List (Nat × List Nat)} (h : bundle im j n = some l) : n ∈ (jour im j).map fun b => b.getD 1 0 := by
  unfold bundle at h
  by_cases c : 60000 ≤ n ∨ (putsB im j n).length ∉ endsB im j n ∨ ¬ ((putsB im j n).map (·.1)).Nodup
  · rw [if_pos c] at h; cases h
  · have h2 : (putsB im j n).length ∈ endsB im j n := Classical.byContradiction fun z => c (.inr (.inl z))
    unfold endsB ownB at h2
    obtain ⟨b, hb, _⟩ := List.mem_map.mp h2
    obtain ⟨hb, _⟩ := List.mem_filter.mp hb
    obtain ⟨hb, e⟩ := List.mem_filter.mp hb
    exact List.mem_map.mpr ⟨b, hb, of_decide_eq_true e⟩
theorem many_bundles {im : List (List Nat)} {j n k : Nat} (h : ∀ i, i < k → bundle im j (n + i) ≠ none) : k ≤ j := by
  have := nodup_le ((List.range k).map fun i => n + i) ((jour im j).map fun b => b.getD 1 0) (by
    rw [List.nodup_iff_pairwise_ne, List.pairwise_map]
    exact List.Pairwise.imp (fun h => by omega) (List.nodup_iff_pairwise_ne.mp List.nodup_range)) fun x hx => by
      obtain ⟨i, hi, rfl⟩ := List.mem_map.mp hx
      cases e : bundle im j (n + i) with
      | none => exact absurd e (h i (List.mem_range.mp hi))
      | some l => exact bundle_own e
  have lj : (jour im j).length = j := by unfold jour; simp
  rw [List.length_map, List.length_range, List.length_map, lj] at this
  exact this
theorem bring_more {im : List (List Nat)} {j : Nat} : ∀ (c k n : Nat) (f : Nat → Option (List Nat)), bundle im j (n + c) = none → c ≤ k → bring im j k n f = bring im j c n f
  | 0, k, n, f, h, _ => by rw [bring_none (n := n) h]; rfl
  | c + 1, 0, n, f, h, l => by omega
  | c + 1, k + 1, n, f, h, l => by
    cases e : bundle im j n with
    | none => rw [bring_none e, bring_none e]
    | some x =>
      show (match bundle im j n with | none => (f, n) | some l => bring im j k (n + 1) (putF f l)) = (match bundle im j n with | none => (f, n) | some l => bring im j c (n + 1) (putF f l))
      rw [e]
      exact bring_more c k (n + 1) _ (by rw [← h]; congr 1; omega) (by omega)
theorem bring_60 {im : List (List Nat)} {j h : Nat} {f : Nat → Option (List Nat)} (hj : j ≤ 59) (hh : h ≤ 60000) : bring im j 60 h f = bring im j (60000 - h) h f := by
  obtain ⟨c, hc, hm, hl⟩ : ∃ c, bundle im j (h + c) = none ∧ c ≤ j ∧ c ≤ 60000 - h := by
    have : ∀ k, (∀ i, i < k → bundle im j (h + i) ≠ none) ∨ ∃ c, bundle im j (h + c) = none ∧ (∀ i, i < c → bundle im j (h + i) ≠ none) := by
      intro k
      induction k with
      | zero => exact .inl fun i hi => by omega
      | succ k ih =>
        rcases ih with ih | ih
        · cases e : bundle im j (h + k) with
          | none => exact .inr ⟨k, e, ih⟩
          | some x =>
            refine .inl fun i hi => ?_
            by_cases g : i = k
            · subst g; rw [e]; exact fun z => by cases z
            · exact ih i (by omega)
        · exact .inr ih
    rcases this (j + 1) with h1 | ⟨c, h1, h2⟩
    · have := many_bundles h1
      omega
    · refine ⟨c, h1, many_bundles h2, ?_⟩
      by_cases c0 : c = 0
      · omega
      · have h3 := h2 (c - 1) (by omega)
        cases e : bundle im j (h + (c - 1)) with
        | none => exact absurd e h3
        | some x =>
          have := bundle_lt e
          omega
  rw [bring_more c 60 h f hc (by omega), bring_more c (60000 - h) h f hc hl]
theorem withB_set {im : List (List Nat)} {f : Nat → Option (List Nat)} {k : Nat} {b : List Nat} : withB im (updF f k b) = (withB im f).set k b := by
  unfold withB
  refine List.ext_getElem? fun i => ?_
  rw [List.getElem?_set, List.getElem?_mapIdx, List.getElem?_mapIdx, List.length_mapIdx]
  unfold updF
  by_cases h : k = i
  · subst h
    rw [if_pos rfl]
    by_cases hl : k < im.length
    · rw [if_pos hl, List.getElem?_eq_getElem hl, if_pos rfl]; rfl
    · rw [if_neg hl, List.getElem?_eq_none (by omega), if_pos rfl]; rfl
  · rw [if_neg h, if_neg fun z => h z.symm]
theorem withB_len {im : List (List Nat)} {f : Nat → Option (List Nat)} : (withB im f).length = im.length := by unfold withB; simp
theorem withB_none {im : List (List Nat)} : withB im (fun _ => none) = im := by
  unfold withB
  refine List.ext_getElem? fun i => ?_
  rw [List.getElem?_mapIdx]
  cases im[i]? <;> rfl
theorem bundle_go {im : List (List Nat)} {j n : Nat} {l : List (Nat × List Nat)} (h : bundle im j n = some l) : (∀ p ∈ l, goB im.length j p.1 = true) ∧ l = putsB im j n := by
  unfold bundle at h
  split at h
  · cases h
  · split at h
    · injection h with h
      subst h
      rename_i g
      exact ⟨fun p hp => List.all_eq_true.mp g p hp, rfl⟩
    · cases h
theorem go_lt {n j i : Nat} (h : goB n j i = true) (hj : 6 < n) : 1 ≤ i ∧ i < n := by
  unfold goB at h
  simp only [Bool.or_eq_true, Bool.and_eq_true, decide_eq_true_eq] at h
  omega
end B80

set_option autoImplicit true
set_option Elab.async false
set_option linter.all false
set_option maxRecDepth 100000
set_option maxHeartbeats 2000000
namespace B80
open PySem L2 XD PyProof.Rows
theorem putF_take {f : Nat → Option (List Nat)} {l : List (Nat × List Nat)} {i : Nat} {p : Nat × List Nat} (h : l[i]? = some p) : putF f (l.take (i + 1)) = updF (putF f (l.take i)) p.1 p.2 := by
  unfold putF
  rw [takeNext h, List.foldl_append]
  rfl
theorem putF_0 : ∀ {l : List (Nat × List Nat)} {f : Nat → Option (List Nat)}, f 0 = none → (∀ p ∈ l, 1 ≤ p.1) → putF f l 0 = none
  | [], f, h, _ => h
  | p :: l, f, h, hl => putF_0 (l := l) (f := updF f p.1 p.2) (by
      unfold updF
      rw [if_neg (by have := hl p List.mem_cons_self; omega)]
      exact h) fun q hq => hl q (List.mem_cons_of_mem _ hq)
theorem inner_ok {x a b : XD.D} {c4 c5 c6 c7 : Sl} {im : List (List Nat)} {f : Nat → Option (List Nat)} {l : List (Nat × List Nat)} (h6 : cont c6 = none) (h7 : cont c7 = none) (hl : ∀ p ∈ l, p.1 < im.length) :
    ∃ d6 d7, cont d6 = none ∧ cont d7 = none ∧ dForL (.tp ((.nm 6) :: (.nm 7) :: [])) (dSetAt 1 (dVar 6) (dVar 7)) (l.map putD) [.d x, .o (.list ((withB im f).map blkD)), .d a, .d b, c4, c5, c6, c7] = .ok (.nx [.d x, .o (.list ((withB im (putF f l)).map blkD)), .d a, .d b, c4, c5, d6, d7]) := by
  obtain ⟨ρ', e, hP⟩ := forL_inv (t := .tp ((.nm 6) :: (.nm 7) :: [])) (b := dSetAt 1 (dVar 6) (dVar 7)) (xs := l.map putD) (ρ := [.d x, .o (.list ((withB im f).map blkD)), .d a, .d b, c4, c5, c6, c7])
    (fun i ρ => ∃ d6 d7, cont d6 = none ∧ cont d7 = none ∧ ρ = [.d x, .o (.list ((withB im (putF f (l.take i))).map blkD)), .d a, .d b, c4, c5, d6, d7]) ⟨c6, c7, h6, h7, rfl⟩
    (fun i y ρ hy ⟨d6, d7, g6, g7, e⟩ => by
      subst e
      rw [List.getElem?_map] at hy
      obtain ⟨p, hp, rfl⟩ := Option.map_eq_some_iff.mp hy
      have hlt := hl p (List.mem_of_getElem? hp)
      have hs : ixN (withB im (putF f (l.take i))).length (p.1 : Int) = some p.1 := ixN_nat (by rw [withB_len]; exact hlt)
      refine ⟨[.d x, .o (.list ((withB im (putF f (l.take i))).map blkD)), .d a, .d b, c4, c5, .d (.int (p.1 : Nat)), .d (blkD p.2)], [.d x, .o (.list ((withB im (putF f (l.take (i + 1)))).map blkD)), .d a, .d b, c4, c5, .d (.int (p.1 : Nat)), .d (blkD p.2)], ?_, .inl ?_, _, _, rfl, rfl, rfl⟩
      · unfold putD
        simp -implicitDefEqProofs [io_cont g6, io_cont g7]
      · rw [putF_take hp, withB_set, List.map_set]
        simp -implicitDefEqProofs [hs])
  obtain ⟨d6, d7, g6, g7, e2⟩ := hP
  rw [List.length_map, List.take_of_length_le (Nat.le_refl _)] at e2
  subst e2
  exact ⟨d6, d7, g6, g7, e⟩
noncomputable def recB : DS := (dSeq (dSet 5 (dCall _law_puts_of_d (.e (dVar 0) :: (.e (dVar 3) :: []))))
    (dSeq (dIf (dB (d2V fIsN2 5 (dC .none))) dBreak dNext)
    (dSeq (dFor (dItL (dVar 5)) (.tp ((.nm 6) :: (.nm 7) :: [])) (dSetAt 1 (dVar 6) (dVar 7)))
    (dSet 3 (d2 fAdd (dVar 3) (dC (.int 1)))))))
theorem rec_loop {m j h : Nat} {r : List (List Nat)} (hj : 6 + j ≤ r.length) (hj2 : j ≤ 59) (hh : h ≤ 60000) (hb : ∀ b ∈ r, b.length ≤ 64 ∧ b.getLast? ≠ some 0) :
    ∃ f n c4 c5 c6 c7, cont c4 = none ∧ cont c5 = none ∧ cont c6 = none ∧ cont c7 = none ∧ f 0 = none ∧ bring ([m, j, h] :: r) j (60000 - h) h (fun _ => none) = (f, n) ∧
      dFor (dRng1 (dC (.int 60))) (.nm 4) recB [.d (imD ([m, j, h] :: r)), .o (.list (([m, j, h] :: r).map blkD)), .d (.int (j : Nat)), .d (.int (h : Nat)), .un, .un, .un, .un] = .ok (.nx [.d (imD ([m, j, h] :: r)), .o (.list ((withB ([m, j, h] :: r) f).map blkD)), .d (.int (j : Nat)), .d (.int (n : Nat)), c4, c5, c6, c7]) := by
  have hp := fun n : Nat => puts_of_ok (m := m) (h := h) (n := n) hj (by omega) hb
  obtain ⟨im, him⟩ : ∃ im, im = [m, j, h] :: r := ⟨_, rfl⟩
  rw [← him] at hp ⊢
  have hlen : im.length = r.length + 1 := by rw [him]; rfl
  obtain ⟨ρ', e, hQ⟩ := forL_brk (t := .nm 4) (b := recB) (xs := rgI 0 60) (ρ := [.d (imD im), .o (.list (im.map blkD)), .d (.int (j : Nat)), .d (.int (h : Nat)), .un, .un, .un, .un])
    (fun i ρ => ∃ f c4 c5 c6 c7, cont c4 = none ∧ cont c5 = none ∧ cont c6 = none ∧ cont c7 = none ∧ f 0 = none ∧ bring im j 60 h (fun _ => none) = bring im j (60 - i) (h + i) f ∧ ρ = [.d (imD im), .o (.list ((withB im f).map blkD)), .d (.int (j : Nat)), .d (.int (h + i : Nat)), c4, c5, c6, c7])
    (fun ρ => ∃ f n c4 c5 c6 c7, cont c4 = none ∧ cont c5 = none ∧ cont c6 = none ∧ cont c7 = none ∧ f 0 = none ∧ bring im j 60 h (fun _ => none) = (f, n) ∧ ρ = [.d (imD im), .o (.list ((withB im f).map blkD)), .d (.int (j : Nat)), .d (.int (n : Nat)), c4, c5, c6, c7])
    ⟨fun _ => none, .un, .un, .un, .un, rfl, rfl, rfl, rfl, rfl, rfl, by rw [withB_none]; rfl⟩
    (fun i x ρ hx ⟨f, c4, c5, c6, c7, g4, g5, g6, g7, f0, eb, e⟩ => by
      subst e
      obtain ⟨hi, rfl⟩ := rgI_at hx
      have hpi := hp (h + i)
      refine ⟨[.d (imD im), .o (.list ((withB im f).map blkD)), .d (.int (j : Nat)), .d (.int (h + i : Nat)), .d (.int (0 + (i : Nat))), c5, c6, c7], by simp -implicitDefEqProofs [io_cont g4], ?_⟩
      have e1 : dSet 5 (dCall _law_puts_of_d (.e (dVar 0) :: (.e (dVar 3) :: []))) [.d (imD im), .o (.list ((withB im f).map blkD)), .d (.int (j : Nat)), .d (.int (h + i : Nat)), .d (.int (0 + (i : Nat))), c5, c6, c7] = .ok (.nx [.d (imD im), .o (.list ((withB im f).map blkD)), .d (.int (j : Nat)), .d (.int (h + i : Nat)), .d (.int (0 + (i : Nat))), .d (optD (bundle im j (h + i))), c6, c7]) := by
        clear eb
        generalize h + i = q at hpi ⊢
        simp -implicitDefEqProofs [hpi, io_cont g5]
      cases hbn : bundle im j (h + i) with
      | none =>
        rw [hbn] at e1
        refine .inr ⟨[.d (imD im), .o (.list ((withB im f).map blkD)), .d (.int (j : Nat)), .d (.int (h + i : Nat)), .d (.int (0 + (i : Nat))), .d (optD none), c6, c7], ?_, f, h + i, _, _, c6, c7, rfl, rfl, g6, g7, f0, ?_, rfl⟩
        · unfold recB
          rw [e_Seq, e1]
          unfold optD
          simp -implicitDefEqProofs []
        · rw [eb, bring_none hbn]
      | some l =>
        rw [hbn] at e1
        obtain ⟨hg, _⟩ := bundle_go hbn
        have hl : ∀ p ∈ l, 1 ≤ p.1 ∧ p.1 < im.length := fun p hp => go_lt (hg p hp) (by omega)
        obtain ⟨d6, d7, k6, k7, e2⟩ := inner_ok (x := imD im) (a := .int (j : Nat)) (b := .int (h + i : Nat)) (c4 := .d (.int (0 + (i : Nat)))) (c5 := .d (optD (some l))) (f := f) g6 g7 fun p hp => (hl p hp).2
        refine .inl ⟨[.d (imD im), .o (.list ((withB im (putF f l)).map blkD)), .d (.int (j : Nat)), .d (.int (h + (i + 1) : Nat)), .d (.int (0 + (i : Nat))), .d (optD (some l)), d6, d7], .inl ?_, putF f l, _, _, d6, d7, rfl, rfl, k6, k7, putF_0 f0 (fun p hp => (hl p hp).1), ?_, rfl⟩
        · unfold recB
          rw [e_Seq, e1, e_bok, e_seqK1]
          have e3 : dFor (dItL (dVar 5)) (.tp ((.nm 6) :: (.nm 7) :: [])) (dSetAt 1 (dVar 6) (dVar 7)) [.d (imD im), .o (.list ((withB im f).map blkD)), .d (.int (j : Nat)), .d (.int (h + i : Nat)), .d (.int (0 + (i : Nat))), .d (optD (some l)), c6, c7] = .ok (.nx [.d (imD im), .o (.list ((withB im (putF f l)).map blkD)), .d (.int (j : Nat)), .d (.int (h + i : Nat)), .d (.int (0 + (i : Nat))), .d (optD (some l)), d6, d7]) := e2
          have e4 : dIf (dB (d2V fIsN2 5 (dC .none))) dBreak dNext [.d (imD im), .o (.list ((withB im f).map blkD)), .d (.int (j : Nat)), .d (.int (h + i : Nat)), .d (.int (0 + (i : Nat))), .d (optD (some l)), c6, c7] = .ok (.nx [.d (imD im), .o (.list ((withB im f).map blkD)), .d (.int (j : Nat)), .d (.int (h + i : Nat)), .d (.int (0 + (i : Nat))), .d (optD (some l)), c6, c7]) := rfl
          rw [e_Seq, e4, e_bok, e_seqK1, e_Seq, e3, e_bok, e_seqK1]
          have e5 : ((h + i : Nat) : Int) + 1 = ((h + (i + 1) : Nat) : Int) := by push_cast; omega
          rw [← e5]
          simp -implicitDefEqProofs []
        · rw [eb, show 60 - i = 60 - (i + 1) + 1 by omega]
          show (match bundle im j (h + i) with | none => (f, h + i) | some l => bring im j (60 - (i + 1)) (h + i + 1) (putF f l)) = _
          rw [hbn]
          rfl)
    (fun ρ ⟨f, c4, c5, c6, c7, g4, g5, g6, g7, f0, eb, e⟩ => ⟨f, h + 60, c4, c5, c6, c7, g4, g5, g6, g7, f0, by rw [eb, rgI_len]; rfl, by rw [e, rgI_len]⟩)
  obtain ⟨f, n, c4, c5, c6, c7, g4, g5, g6, g7, f0, eb, e2⟩ := hQ
  subst e2
  rw [bring_60 hj2 hh] at eb
  refine ⟨f, n, c4, c5, c6, c7, g4, g5, g6, g7, f0, eb, ?_⟩
  rw [e_For]
  have : dRng1 (dC (.int 60)) [.d (imD im), .o (.list (im.map blkD)), .d (.int (j : Nat)), .d (.int (h : Nat)), .un, .un, .un, .un] = .ok (rgI 0 60, [.d (imD im), .o (.list (im.map blkD)), .d (.int (j : Nat)), .d (.int (h : Nat)), .un, .un, .un, .un]) := by
    simp -implicitDefEqProofs [show rgC 0 60 by decide]
  rw [this]
  exact e
theorem putF_empty {f : Nat → Option (List Nat)} {i : Nat} : ∀ {j : Nat}, putF f (emptyL j) i = if 6 ≤ i ∧ i < 6 + j then some [] else f i
  | 0 => by rw [if_neg (by omega)]; rfl
  | j + 1 => by
    have : emptyL (j + 1) = emptyL j ++ [(6 + j, [])] := by unfold emptyL; rw [List.range_succ, List.map_append]; rfl
    unfold putF
    rw [this, List.foldl_append]
    show updF (putF f (emptyL j)) (6 + j) [] i = _
    unfold updF
    by_cases h : i = 6 + j
    · rw [if_pos h, if_pos (by omega)]
    · rw [if_neg h, putF_empty]
      by_cases g : 6 ≤ i ∧ i < 6 + j
      · rw [if_pos g, if_pos (by omega)]
      · rw [if_neg g, if_neg (by omega)]
theorem withB_at {im : List (List Nat)} {f : Nat → Option (List Nat)} {i : Nat} : (withB im f)[i]? = im[i]?.map fun b => (f i).getD b := by
  unfold withB
  rw [List.getElem?_mapIdx]
theorem emptied {m j h n : Nat} {r : List (List Nat)} {f : Nat → Option (List Nat)} (hj : 6 + j ≤ r.length) :
    ((withB ([m, j, h] :: r) f).set 0 [m, j, n]).take 6 ++ List.replicate j [] ++ ((withB ([m, j, h] :: r) f).set 0 [m, j, n]).drop (6 + j) = withB ([m, j, n] :: r) (putF (fun i => if i = 0 then none else f i) (emptyL j)) := by
  have hl : ((withB ([m, j, h] :: r) f).set 0 [m, j, n]).length = r.length + 1 := by rw [List.length_set, withB_len]; rfl
  refine List.ext_getElem? fun i => ?_
  rw [withB_at, putF_empty]
  by_cases h1 : i < 6
  · rw [List.append_assoc, List.getElem?_append_left (by rw [List.length_take]; omega), List.getElem?_take_of_lt h1, if_neg (by omega), List.getElem?_set]
    cases i with
    | zero => rw [if_pos rfl, withB_len, if_pos (by simp)]; rfl
    | succ i =>
      rw [if_neg (by omega), withB_at, if_neg (by omega)]
      rfl
  · have lt6 : (((withB ([m, j, h] :: r) f).set 0 [m, j, n]).take 6).length = 6 := by rw [List.length_take]; omega
    by_cases h2 : i < 6 + j
    · rw [List.getElem?_append_left (by rw [List.length_append, lt6, List.length_replicate]; omega), List.getElem?_append_right (by omega), lt6, List.getElem?_replicate_of_lt (by omega), if_pos ⟨by omega, h2⟩]
      rw [List.getElem?_eq_getElem (show i < ([m, j, n] :: r).length by rw [List.length_cons]; omega)]
      rfl
    · rw [List.getElem?_append_right (by rw [List.length_append, lt6, List.length_replicate]; omega), List.length_append, lt6, List.length_replicate, List.getElem?_drop, show 6 + j + (i - (6 + j)) = i by omega, if_neg (by omega), List.getElem?_set, if_neg (by omega), withB_at, if_neg (by omega)]
      cases i with
      | zero => omega
      | succ i => rfl
theorem recovered_ok {m j h : Nat} {r : List (List Nat)} (hj : 6 + j ≤ r.length) (hj2 : j ≤ 59) (hr : r.length ≤ 1000) (hh : h ≤ 60000) (hb : ∀ b ∈ r, b.length ≤ 64 ∧ b.getLast? ≠ some 0) :
    _law_recovered_d [.d (imD ([m, j, h] :: r))] = .ok (false, imD (recIm m j h r), []) := by
  obtain ⟨f, n, c4, c5, c6, c7, g4, g5, g6, g7, f0, eb, el⟩ := rec_loop (m := m) (r := r) hj hj2 hh hb
  have er : recIm m j h r = withB ([m, j, n] :: r) (putF f (emptyL j)) := by unfold recIm; rw [eb]
  have ef : (fun i => if i = 0 then none else f i) = f := by
    funext i
    by_cases h : i = 0
    · rw [if_pos h, h, f0]
    · rw [if_neg h]
  have em := emptied (m := m) (h := h) (n := n) (f := f) hj
  rw [ef, ← er] at em
  rw [← em]
  obtain ⟨im, him⟩ : ∃ im, im = [m, j, h] :: r := ⟨_, rfl⟩
  rw [← him] at el ⊢
  obtain ⟨W, hW⟩ : ∃ W, W = withB im f := ⟨_, rfl⟩
  rw [← hW] at el ⊢
  have hWl : W.length = r.length + 1 := by rw [hW, withB_len, him]; rfl
  have g0 : atI (im.map blkD) 0 = some (.tuple [.int (m : Nat), .int (j : Nat), .int (h : Nat)]) := by rw [him, List.map_cons]; exact e_at0
  have e1 : dMix [1, 2, 3] (.f (d1 fList (dPk 0)) :: (.d (d2 ixF (d2V ixF 0 (dC (.int 0))) (dC (.int 1))) :: (.d (d2 ixF (d2V ixF 0 (dC (.int 0))) (dC (.int 2))) :: []))) [.d (imD im), .un, .un, .un, .un, .un, .un, .un] = .ok (.nx [.d (imD im), .o (.list (im.map blkD)), .d (.int (j : Nat)), .d (.int (h : Nat)), .un, .un, .un, .un]) := by
    unfold imD
    simp -implicitDefEqProofs [g0]
  have e2 : dSetAt 1 (dC (.int 0)) (dTup (dCons (d2 ixF (d2V ixF 0 (dC (.int 0))) (dC (.int 0))) (dCons (dVar 2) (dCons (dVar 3) dNil)))) [.d (imD im), .o (.list (W.map blkD)), .d (.int (j : Nat)), .d (.int (n : Nat)), c4, c5, c6, c7] = .ok (.nx [.d (imD im), .o (.list ((W.set 0 [m, j, n]).map blkD)), .d (.int (j : Nat)), .d (.int (n : Nat)), c4, c5, c6, c7]) := by
    have hs : ixN W.length 0 = some 0 := ixN_nat (n := W.length) (k := 0) (by omega)
    rw [List.map_set]
    unfold imD blkD at *
    simp -implicitDefEqProofs [g0, hs]
  have e3 : dSetSl 1 (dPart (dC (.int 6))) (dPart (d2 fAdd (dC (.int 6)) (dPk 2))) (d2 fRep (dLst (dCons (dTup dNil) dNil)) (dVar 2)) [.d (imD im), .o (.list ((W.set 0 [m, j, n]).map blkD)), .d (.int (j : Nat)), .d (.int (n : Nat)), c4, c5, c6, c7] = .ok (.nx [.d (imD im), .o (.list (((W.set 0 [m, j, n]).take 6 ++ List.replicate j [] ++ (W.set 0 [m, j, n]).drop (6 + j)).map blkD)), .d (.int (j : Nat)), .d (.int (n : Nat)), c4, c5, c6, c7]) := by
    obtain ⟨X, hX⟩ : ∃ X, X = W.set 0 [m, j, n] := ⟨_, rfl⟩
    have hXl : X.length = r.length + 1 := by rw [hX, List.length_set, hWl]
    rw [← hX]
    have k1 : -9223372036854775808 ≤ (j : Int) ∧ (j : Int) < 9223372036854775808 := by omega
    have k2 : j ≤ sizeLine := e_sz1 (by omega)
    have k3 : 6 + (j : Int) ≤ (X.length : Int) := by omega
    have k4 : (6 : Int) ≤ 6 + (j : Int) := by omega
    have k5 : (6 + (j : Int)).toNat = 6 + j := by omega
    have k6 : X.length + j ≤ sizeLine := e_sz1 (by omega)
    have k7 : PyData.tuple [] = blkD [] := rfl
    rw [List.map_append, List.map_append, List.map_take, List.map_drop, List.map_replicate]
    simp -implicitDefEqProofs [k1, k2, k3, k4, k5, k6, k7]
  have e4 : dRet (d1 fTuple (dPk 1)) [.d (imD im), .o (.list (((W.set 0 [m, j, n]).take 6 ++ List.replicate j [] ++ (W.set 0 [m, j, n]).drop (6 + j)).map blkD)), .d (.int (j : Nat)), .d (.int (n : Nat)), c4, c5, c6, c7] = .ok (.rt (imD ((W.set 0 [m, j, n]).take 6 ++ List.replicate j [] ++ (W.set 0 [m, j, n]).drop (6 + j))) [.d (imD im), .o (.list (((W.set 0 [m, j, n]).take 6 ++ List.replicate j [] ++ (W.set 0 [m, j, n]).drop (6 + j)).map blkD)), .d (.int (j : Nat)), .d (.int (n : Nat)), c4, c5, c6, c7]) := rfl
  have e5 : dFor (dRng1 (dC (.int 60))) (.nm 4) recB [.d (imD im), .o (.list (im.map blkD)), .d (.int (j : Nat)), .d (.int (h : Nat)), .un, .un, .un, .un] = _ := el
  obtain ⟨q, x, ios, eq, rfl, rfl, rfl⟩ := fn_run (N := 8) (b := den__law_recovered) (as := [.d (imD im)]) (Q := fun f x ios => f = false ∧ x = imD ((W.set 0 [m, j, n]).take 6 ++ List.replicate j [] ++ (W.set 0 [m, j, n]).drop (6 + j)) ∧ ios = [])
    (run_seq _ e1 (run_seq _ e5 (run_seq _ e2 (run_seq _ e3 ⟨false, _, [], by
      rw [e4, e_fin2, e_ios2, e_ios3, e_ios2, e_ios2, iosOf_nio (io_cont g4), iosOf_nio (io_cont g5), iosOf_nio (io_cont g6), iosOf_nio (io_cont g7)]; rfl, rfl, rfl, rfl⟩))))
  exact eq
end B80

set_option autoImplicit true
set_option Elab.async false
set_option linter.all false
set_option maxRecDepth 100000
set_option maxHeartbeats 2000000
namespace B80
open PySem L2 XD PyProof.Rows
/-! ### items on data -/
def FigE (y : XD.D) : Prop := ∃ i : Int, y = .int i ∧ 0 ≤ i ∧ i ≤ 65535
def ItE (x : XD.D) : Prop := ∃ xs, x = .tuple xs ∧ xs.length ≤ 64 ∧ ∀ y ∈ xs, FigE y
theorem run_ifr {T : DT} {a k : DS} {ρ : Rho} {Q : Bool → XD.D → List XD.D → Prop} (b : Bool) (hT : T ρ = .ok (b, ρ)) (h1 : b = true → ∃ x ρ', a ρ = .ok (.rf x ρ') ∧ Q true x (iosOf ρ')) (h2 : b = false → Run k ρ Q) : Run (dSeq (dIf T a dNext) k) ρ Q := by
  cases b with
  | true =>
    obtain ⟨x, ρ', e, q⟩ := h1 rfl
    refine ⟨true, x, iosOf ρ', ?_, q⟩
    rw [e_Seq, e_If, hT, e_bok, if_pos rfl, e, e_bok, e_seqK5, e_fin3]
  | false =>
    obtain ⟨f, x, ios, e, q⟩ := h2 rfl
    refine ⟨f, x, ios, ?_, q⟩
    rw [e_Seq, e_If, hT, e_bok, if_neg Bool.false_ne_true, e_Next, e_bok, e_seqK1, e]
theorem figE {i : Int} (h0 : 0 ≤ i) (h1 : i ≤ 65535) : FigE (.int i) := ⟨i, rfl, h0, h1⟩
theorem itE {xs : List XD.D} (h : xs.length ≤ 64) (hx : ∀ y ∈ xs, FigE y) : ItE (.tuple xs) := ⟨xs, rfl, h, hx⟩
/-- the blocks of a bundle, the urn after them -/
theorem items_blocks {u : XD.D} {n bu many first : Int} {c5 c6 c7 c8 : Sl} (h : UrnD u n) (hn : n + 200 ≤ 1000000000) (f0 : 6 ≤ first) (f1 : first < many) (f2 : many ≤ 96) :
    ∃ (u' : XD.D) (bs : List XD.D), UrnD u' (n + 110) ∧ 1 ≤ bs.length ∧ bs.length ≤ 3 ∧ (∀ y ∈ bs, FigE y) ∧
      dSetF 4 (dSlc slL (dCallF _law_turned_d (.io 0 :: (.e (d2 fCat (dLst (dCons (dC (.int 1)) (dCons (dC (.int 2)) (dCons (dC (.int 3)) (dCons (dC (.int 4)) (dCons (dC (.int 5)) dNil)))))) (dListRg (dRg2 (dVar 3) (dVar 2)))) :: []))) dNo (dPart (d2 fAdd (dC (.int 1)) (dCall _law_of_d (.io 0 :: (.e (dC (.int 3)) :: []))))))
        [.io u, .d (.int bu), .d (.int many), .d (.int first), .un, c5, c6, c7, c8] = .ok (.nx [.io u', .d (.int bu), .d (.int many), .d (.int first), .o (.list bs), c5, c6, c7, c8]) := by
  obtain ⟨xs, hxs⟩ : ∃ xs, xs = [PyData.int 1, .int 2, .int 3, .int 4, .int 5] ++ rgI first (many - first).toNat := ⟨_, rfl⟩
  have hl : xs.length = 5 + (many - first).toNat := by rw [hxs, List.length_append, rgI_len]; rfl
  obtain ⟨ys, u1, e1, hu1, pm⟩ := turned_ok (xs := xs) h (by omega) (by omega)
  obtain ⟨r, u2, e2, hu2, r0, r1⟩ := of_ok (m := 3) hu1 (by omega) (by decide) (by decide)
  have hF : ∀ y ∈ xs, FigE y := fun y hy => by
    rw [hxs] at hy
    rcases List.mem_append.mp hy with hy | hy
    · simp only [List.mem_cons, List.not_mem_nil, or_false] at hy
      rcases hy with rfl | rfl | rfl | rfl | rfl <;> exact figE (by decide) (by decide)
    · obtain ⟨i, hi⟩ := List.getElem?_of_mem hy
      obtain ⟨hi, rfl⟩ := rgI_at hi
      exact figE (by omega) (by omega)
  have hyl := pm.length_eq
  obtain ⟨k, rfl⟩ := Int.eq_ofNat_of_zero_le r0
  refine ⟨u2, ys.take (1 + k), hu2.mono (by omega), by rw [List.length_take]; omega, by rw [List.length_take]; omega, fun y hy => hF y (pm.mem_iff.mp (List.mem_of_mem_take hy)), ?_⟩
  have hc : cutD ys none (some (1 + (k : Int))) = ys.take (1 + k) := by
    rw [show (1 : Int) + (k : Int) = ((1 + k : Nat) : Int) by push_cast; rfl, cut_to]
  have hrg : RgOk first many := RgOk.of_le (by omega) (by omega) (by omega) (by omega)
  have hs : 5 + (many - first).toNat ≤ sizeLine := e_sz1 (by omega)
  have e1' : _law_turned_d [.io u, .d (.list (.int 1 :: .int 2 :: .int 3 :: .int 4 :: .int 5 :: rgI first (many - first).toNat))] = .ok (true, .list ys, [u1]) := by rw [← e1, hxs]; rfl
  simp -implicitDefEqProofs [e1', e2, hc, hrg, hs, rgI_len]
theorem figs_all {xs : List Int} (h : xs.all (fun i => decide (0 ≤ i ∧ i ≤ 65535)) = true) : ∀ y ∈ xs.map PyData.int, FigE y := fun y hy => by
  obtain ⟨i, hi, rfl⟩ := List.mem_map.mp hy
  have := of_decide_eq_true (List.all_eq_true.mp h i hi)
  exact figE this.1 this.2
theorem rep9 {k : Nat} (h : 2 ≤ k) (h2 : k ≤ 1000) : fRepT (.tuple [PyData.int 9]) (.int (k : Nat)) = some (.tuple (List.replicate k (.int 9))) := by
  rw [e_repT, e_gd, if_pos ⟨by simp, by omega, by omega, by simp⟩, Int.toNat_natCast]
  congr 2
  induction k with
  | zero => rfl
  | succ k ih =>
    by_cases hk : 2 ≤ k
    · rw [List.replicate_succ, List.flatten_cons, ih hk (by omega), List.replicate_succ]; rfl
    · have : k = 1 := by omega
      subst this
      rfl
theorem items_items {u : XD.D} {n bu many first : Int} {bs : List XD.D} {c5 c6 c7 : Sl} (h : UrnD u n) (hn : n + 10 ≤ 1000000000) (b0 : 0 ≤ bu) (b1 : bu ≤ 65535) (hb : bs.length ≤ 3) (hF : ∀ y ∈ bs, FigE y) (h5 : isIo c5 = false) :
    ∃ (u' : XD.D) (is : List XD.D), UrnD u' (n + 3) ∧ is.length = bs.length ∧ (∀ y ∈ is, ItE y) ∧
      dSetF 5 (dLc (dItL (dVar 4)) (.nm 8) dYes (d2 fCatT (dTup (dCons (dC (.int 2)) (dCons (dVar 1) (dCons (dVar 8) dNil)))) (dCall _law_one_d (.io 0 :: (.e (dLst (dCons (dTup dNil) (dCons (dTup (dCons (dC (.int 7)) dNil)) (dCons (dTup (dCons (dC (.int 0)) (dCons (dC (.int 8)) dNil))) (dCons (d2 fRepT (dTup (dCons (dC (.int 9)) dNil)) (dC (.int 60))) dNil))))) :: [])))) [8])
        [.io u, .d (.int bu), .d (.int many), .d (.int first), .o (.list bs), c5, c6, c7, .un] = .ok (.nx [.io u', .d (.int bu), .d (.int many), .d (.int first), .d (.list bs), .o (.list is), c6, c7, .un]) := by
  obtain ⟨acc, ρ', e, u', er, hu', hl, hI⟩ := lcL_inv (t := .nm 8) (te := dYes) (el := d2 fCatT (dTup (dCons (dC (.int 2)) (dCons (dVar 1) (dCons (dVar 8) dNil)))) (dCall _law_one_d (.io 0 :: (.e (dLst (dCons (dTup dNil) (dCons (dTup (dCons (dC (.int 7)) dNil)) (dCons (dTup (dCons (dC (.int 0)) (dCons (dC (.int 8)) dNil))) (dCons (d2 fRepT (dTup (dCons (dC (.int 9)) dNil)) (dC (.int 60))) dNil))))) :: [])))) (vs := [8]) (xs := bs) (ρ := [.io u, .d (.int bu), .d (.int many), .d (.int first), .d (.list bs), c5, c6, c7, .un])
    (fun i acc ρ => ∃ u', ρ = [.io u', .d (.int bu), .d (.int many), .d (.int first), .d (.list bs), c5, c6, c7, .un] ∧ UrnD u' (n + i) ∧ acc.length = i ∧ ∀ y ∈ acc, ItE y) (by omega) ⟨u, rfl, by simpa using h, rfl, fun y hy => by cases hy⟩
    (fun i x acc ρ hx ha ⟨u1, er, hu1, hl, hI⟩ => by
      subst er
      have hi := (List.getElem?_eq_some_iff.mp hx).1
      obtain ⟨v, rfl, v0, v1⟩ := hF x (List.mem_of_getElem? hx)
      obtain ⟨N, hN⟩ : ∃ N, N = List.replicate 60 (PyData.int 9) := ⟨_, rfl⟩
      have hrep : fRepT (.tuple [PyData.int 9]) (.int 60) = some (.tuple N) := by rw [hN]; exact rep9 (k := 60) (by decide) (by decide)
      obtain ⟨z, u2, e2, hu2, hz⟩ := one_ok (xs := [PyData.tuple [], .tuple [.int 7], .tuple [.int 0, .int 8], .tuple N]) hu1 (by omega) (by simp) (by simp)
      obtain ⟨zs, rfl, zl, zF⟩ : ∃ zs, z = .tuple zs ∧ zs.length ≤ 60 ∧ ∀ y ∈ zs, FigE y := by
        simp only [List.mem_cons, List.not_mem_nil, or_false] at hz
        rcases hz with rfl | rfl | rfl | rfl
        · exact ⟨[], rfl, by decide, fun y hy => by cases hy⟩
        · exact ⟨_, rfl, by decide, figs_all (xs := [7]) (by decide)⟩
        · exact ⟨_, rfl, by decide, figs_all (xs := [0, 8]) (by decide)⟩
        · refine ⟨N, rfl, by rw [hN]; simp, fun y hy => ?_⟩
          rw [hN] at hy
          rw [(List.mem_replicate.mp hy).2]
          exact figE (by decide) (by decide)
      refine ⟨rfl, [.io u1, .d (.int bu), .d (.int many), .d (.int first), .d (.list bs), c5, c6, c7, .d (.int v)], true, [.io u1, .d (.int bu), .d (.int many), .d (.int first), .d (.list bs), c5, c6, c7, .d (.int v)], by simp -implicitDefEqProofs [wipeR], rfl, .inr ⟨rfl, .tuple (.int 2 :: .int bu :: .int v :: zs), [.io u2, .d (.int bu), .d (.int many), .d (.int first), .d (.list bs), c5, c6, c7, .d (.int v)], ?_, u2, rfl, by rw [show n + ((i + 1 : Nat) : Int) = n + i + 1 by push_cast; omega]; exact hu2, by simp [hl], fun y hy => ?_⟩⟩
      · have hs : 3 + zs.length ≤ sizeLine := e_sz1 (by omega)
        simp -implicitDefEqProofs [-e_repT, hrep, e2, hs]
      · rcases List.mem_append.mp hy with hy | hy
        · exact hI y hy
        · rw [List.mem_singleton] at hy
          subst hy
          refine itE (by simp; omega) fun y hy => ?_
          rcases List.mem_cons.mp hy with rfl | hy
          · exact figE (by decide) (by decide)
          rcases List.mem_cons.mp hy with rfl | hy
          · exact figE b0 b1
          rcases List.mem_cons.mp hy with rfl | hy
          · exact figE v0 v1
          · exact zF y hy)
  subst er
  refine ⟨u', acc, hu'.mono (by omega), hl, hI, ?_⟩
  simp -implicitDefEqProofs [e, h5]
end B80

set_option autoImplicit true
set_option Elab.async false
set_option linter.all false
set_option maxRecDepth 100000
set_option maxHeartbeats 2000000
namespace B80
open PySem L2 XD PyProof.Rows
theorem way_t {a b c d e f : Sl} {g h : Sl} {w k : Int} : dB (d2 fEq (dVar 6) (dC (.int k))) [a, b, c, d, e, f, .d (.int w), g, h] = .ok (decide (w = k), [a, b, c, d, e, f, .d (.int w), g, h]) := rfl
theorem items_ok {u : XD.D} {n bu many first : Int} (h : UrnD u n) (hn : n + 200 ≤ 1000000000) (f0 : 6 ≤ first) (f1 : first < many) (f2 : many ≤ 96) (b0 : 0 ≤ bu) (b1 : bu ≤ 65535) :
    ∃ f x ios, _law_items_d [.io u, .d (.int bu), .d (.int many), .d (.int first)] = .ok (f, x, ios) ∧ ∃ (u' : XD.D) (is : List XD.D), ios = [u'] ∧ x = .list is ∧ UrnD u' (n + 120) ∧ is.length ≤ 6 ∧ ∀ y ∈ is, ItE y := by
  obtain ⟨u1, bs, hu1, bl1, bl3, hbF, e1⟩ := items_blocks (bu := bu) (c5 := .un) (c6 := .un) (c7 := .un) (c8 := .un) h hn f0 f1 f2
  obtain ⟨u2, is, hu2, il, hI, e2⟩ := items_items (many := many) (first := first) (c5 := .un) (c6 := .un) (c7 := .un) hu1 (by omega) b0 b1 bl3 hbF rfl
  obtain ⟨way, u3, e3, hu3, w0, w1⟩ := of_ok (m := 12) hu2 (by omega) (by decide) (by decide)
  obtain ⟨i0, it, rfl⟩ : ∃ i0 it, is = i0 :: it := by
    cases is with
    | nil => simp at il; omega
    | cons a l => exact ⟨a, l, rfl⟩
  obtain ⟨b1', bt, rfl⟩ : ∃ b bt, bs = b :: bt := by
    cases bs with
    | nil => simp at bl1
    | cons a l => exact ⟨a, l, rfl⟩
  obtain ⟨v, rfl, v0, v1⟩ := hbF b1' List.mem_cons_self
  obtain ⟨t0, rfl, tl, tF⟩ := hI i0 List.mem_cons_self
  have itl : it.length ≤ 2 := by simp only [List.length_cons] at il bl3; omega
  have hT : ∀ y ∈ it, ItE y := fun y hy => hI y (List.mem_cons_of_mem _ hy)
  obtain ⟨L, hL⟩ : ∃ L : Int, L = it.length + 1 := ⟨_, rfl⟩
  have e3' : dMix [6, 7] (.d (dCall _law_of_d (.io 0 :: (.e (dC (.int 12)) :: []))) :: (.d (dTup (dCons (dC (.int 3)) (dCons (dVar 1) (dCons (d1 fLen (dPk 5)) dNil)))) :: [])) [.io u2, .d (.int bu), .d (.int many), .d (.int first), .d (.list (.int v :: bt)), .o (.list (.tuple t0 :: it)), .un, .un, .un] =
      .ok (.nx [.io u3, .d (.int bu), .d (.int many), .d (.int first), .d (.list (.int v :: bt)), .o (.list (.tuple t0 :: it)), .d (.int way), .d (.tuple [.int 3, .int bu, .int L]), .un]) := by
    rw [hL]
    simp -implicitDefEqProofs [e3]
  have hE : ItE (.tuple [.int 3, .int bu, .int L]) := itE (by simp) fun y hy => by
    simp only [List.mem_cons, List.not_mem_nil, or_false] at hy
    rcases hy with rfl | rfl | rfl
    · exact figE (by decide) (by decide)
    · exact figE b0 b1
    · exact figE (by omega) (by omega)
  obtain ⟨E, hEe⟩ : ∃ E, E = PyData.tuple [.int 3, .int bu, .int L] := ⟨_, rfl⟩
  rw [← hEe] at e3' hE
  have c1 : ∀ x : XD.D, cutD (x :: it) (some 1) none = it := fun x => by rw [show (1 : Int) = ((1 : Nat) : Int) from rfl, cut_fr]; rfl
  have c3 : cutD t0 none (some 3) = t0.take 3 := by rw [show (3 : Int) = ((3 : Nat) : Int) from rfl, cut_to]
  have sz : ∀ k, k ≤ 100 → it.length + k ≤ sizeLine := fun k hk => e_sz1 (by omega)
  refine fn_run (N := 9) (b := den__law_items) (as := [.io u, .d (.int bu), .d (.int many), .d (.int first)]) (Q := fun f x ios => ∃ (u' : XD.D) (is : List XD.D), ios = [u'] ∧ x = .list is ∧ UrnD u' (n + 120) ∧ is.length ≤ 6 ∧ ∀ y ∈ is, ItE y) ?_
  refine run_seq _ e1 (run_seq _ e2 (run_seq _ e3' ?_))
  have hu3' : UrnD u3 (n + 120) := hu3.mono (by omega)
  refine run_ifr _ way_t (fun _ => ?_) fun _ => ?_
  · exact ⟨.list (.tuple t0 :: it), _, rfl, u3, _, rfl, rfl, hu3', by simp; omega, hI⟩
  refine run_ifr _ way_t (fun _ => ?_) fun _ => ?_
  · refine ⟨.list (it ++ [E]), [.io u3, .d (.int bu), .d (.int many), .d (.int first), .d (.list (.int v :: bt)), .o (.list (.tuple t0 :: it)), .d (.int way), .d E, .un], ?_, u3, _, rfl, rfl, hu3', by simp; omega, fun y hy => ?_⟩
    · simp -implicitDefEqProofs [c1, sz]
    · simp only [List.mem_append, List.mem_cons, List.not_mem_nil, or_false] at hy
      rcases hy with hy | rfl
      · exact hT y hy
      · exact hE
  refine run_ifr _ way_t (fun _ => ?_) fun _ => ?_
  · refine ⟨.list ((.tuple t0 :: it) ++ [.tuple (t0.take 3 ++ [.int 55]), E]), [.io u3, .d (.int bu), .d (.int many), .d (.int first), .d (.list (.int v :: bt)), .d (.list (.tuple t0 :: it)), .d (.int way), .d E, .un], ?_, u3, _, rfl, rfl, hu3', by simp; omega, fun y hy => ?_⟩
    · have s1 : min 3 t0.length + 1 ≤ sizeLine := e_sz1 (by omega)
      have s2 : it.length + 1 + 2 ≤ sizeLine := e_sz1 (by omega)
      simp -implicitDefEqProofs [c3, s1, s2]
    · simp only [List.mem_append, List.mem_cons, List.not_mem_nil, or_false] at hy
      rcases hy with (rfl | hy) | rfl | rfl
      · exact hI _ List.mem_cons_self
      · exact hT y hy
      · refine itE (by rw [List.length_append, List.length_take]; simp; omega) fun y hy => ?_
        rcases List.mem_append.mp hy with hy | hy
        · exact tF y (List.mem_of_mem_take hy)
        · rw [List.mem_singleton] at hy
          subst hy
          exact figE (by decide) (by decide)
      · exact hE
  refine run_ifr _ way_t (fun _ => ?_) fun _ => ?_
  · obtain ⟨z, u4, e4, hu4, hz⟩ := one_ok (xs := [PyData.int 6, .int (first - 1), .int many, .int (many + 3)]) hu3 (by omega) (by simp) (by simp)
    obtain ⟨q, rfl, q0, q1⟩ : FigE z := by
      simp only [List.mem_cons, List.not_mem_nil, or_false] at hz
      rcases hz with rfl | rfl | rfl | rfl <;> exact figE (by omega) (by omega)
    refine ⟨.list (it ++ [.tuple [.int 2, .int bu, .int q, .int 1], E]), [.io u4, .d (.int bu), .d (.int many), .d (.int first), .d (.list (.int v :: bt)), .o (.list (.tuple t0 :: it)), .d (.int way), .d E, .un], ?_, u4, _, rfl, rfl, hu4.mono (by omega), by simp; omega, fun y hy => ?_⟩
    · simp -implicitDefEqProofs [c1, sz, e4]
    · simp only [List.mem_append, List.mem_cons, List.not_mem_nil, or_false] at hy
      rcases hy with hy | rfl | rfl
      · exact hT y hy
      · refine itE (by simp) fun y hy => ?_
        simp only [List.mem_cons, List.not_mem_nil, or_false] at hy
        rcases hy with rfl | rfl | rfl | rfl
        · exact figE (by decide) (by decide)
        · exact figE b0 b1
        · exact figE q0 q1
        · exact figE (by decide) (by decide)
      · exact hE
  refine run_ifr _ way_t (fun _ => ?_) fun _ => ?_
  · obtain ⟨r, u4, e4, hu4, r0, r1⟩ := of_ok (m := 2) hu3 (by omega) (by decide) (by decide)
    refine ⟨.list ((.tuple t0 :: it) ++ [.tuple [.int 3, .int bu, .int (L + 1 + r)]]), [.io u4, .d (.int bu), .d (.int many), .d (.int first), .d (.list (.int v :: bt)), .d (.list (.tuple t0 :: it)), .d (.int way), .d E, .un], ?_, u4, _, rfl, rfl, hu4.mono (by omega), by simp; omega, fun y hy => ?_⟩
    · rw [hL]
      have s2 : it.length + 1 + 1 ≤ sizeLine := e_sz1 (by omega)
      simp -implicitDefEqProofs [s2, e4]
    · simp only [List.mem_append, List.mem_cons, List.not_mem_nil, or_false] at hy
      rcases hy with (rfl | hy) | rfl
      · exact hI _ List.mem_cons_self
      · exact hT y hy
      · refine itE (by simp) fun y hy => ?_
        simp only [List.mem_cons, List.not_mem_nil, or_false] at hy
        rcases hy with rfl | rfl | rfl
        · exact figE (by decide) (by decide)
        · exact figE b0 b1
        · exact figE (by omega) (by omega)
  refine run_ifr _ way_t (fun _ => ?_) fun _ => ?_
  · refine ⟨.list ((.tuple t0 :: it) ++ [E, .tuple [.int 3, .int bu, .int (L + 1)]]), [.io u3, .d (.int bu), .d (.int many), .d (.int first), .d (.list (.int v :: bt)), .d (.list (.tuple t0 :: it)), .d (.int way), .d E, .un], ?_, u3, _, rfl, rfl, hu3', by simp; omega, fun y hy => ?_⟩
    · rw [hL]
      have s2 : it.length + 1 + 2 ≤ sizeLine := e_sz1 (by omega)
      simp -implicitDefEqProofs [s2]
    · simp only [List.mem_append, List.mem_cons, List.not_mem_nil, or_false] at hy
      rcases hy with (rfl | hy) | rfl | rfl
      · exact hI _ List.mem_cons_self
      · exact hT y hy
      · exact hE
      · refine itE (by simp) fun y hy => ?_
        simp only [List.mem_cons, List.not_mem_nil, or_false] at hy
        rcases hy with rfl | rfl | rfl
        · exact figE (by decide) (by decide)
        · exact figE b0 b1
        · exact figE (by omega) (by omega)
  refine run_ifr _ way_t (fun _ => ?_) fun _ => ?_
  · obtain ⟨N, hN⟩ : ∃ N, N = List.replicate 61 (PyData.int 9) := ⟨_, rfl⟩
    have hrep : fRepT (.tuple [PyData.int 9]) (.int 61) = some (.tuple N) := by rw [hN]; exact rep9 (k := 61) (by decide) (by decide)
    have hNl : N.length = 61 := by rw [hN]; simp
    refine ⟨.list (it ++ [.tuple (.int 2 :: .int bu :: .int v :: N), E]), [.io u3, .d (.int bu), .d (.int many), .d (.int first), .d (.list (.int v :: bt)), .o (.list (.tuple t0 :: it)), .d (.int way), .d E, .un], ?_, u3, _, rfl, rfl, hu3', by simp; omega, fun y hy => ?_⟩
    · have s2 : 3 + N.length ≤ sizeLine := e_sz1 (by omega)
      simp -implicitDefEqProofs [-e_repT, hrep, c1, sz, s2]
    · simp only [List.mem_append, List.mem_cons, List.not_mem_nil, or_false] at hy
      rcases hy with hy | rfl | rfl
      · exact hT y hy
      · refine itE (by simp [hNl]) fun y hy => ?_
        rcases List.mem_cons.mp hy with rfl | hy
        · exact figE (by decide) (by decide)
        rcases List.mem_cons.mp hy with rfl | hy
        · exact figE b0 b1
        rcases List.mem_cons.mp hy with rfl | hy
        · exact figE v0 v1
        · rw [hN] at hy
          rw [(List.mem_replicate.mp hy).2]
          exact figE (by decide) (by decide)
      · exact hE
  refine run_ifr _ way_t (fun _ => ?_) fun _ => ?_
  · refine ⟨.list (.tuple [.int 2, .int bu, .int 0, .int 5, .int 5, .int 5] :: it ++ [E]), [.io u3, .d (.int bu), .d (.int many), .d (.int first), .d (.list (.int v :: bt)), .o (.list (.tuple t0 :: it)), .d (.int way), .d E, .un], ?_, u3, _, rfl, rfl, hu3', by simp; omega, fun y hy => ?_⟩
    · have s2 : 1 + it.length ≤ sizeLine := e_sz1 (by omega)
      have s3 : it.length + 1 + 1 ≤ sizeLine := e_sz1 (by omega)
      simp -implicitDefEqProofs [c1, sz, s2, s3]
    · simp only [List.mem_append, List.mem_cons, List.not_mem_nil, or_false] at hy
      rcases hy with (rfl | hy) | rfl
      · refine itE (by simp) fun y hy => ?_
        simp only [List.mem_cons, List.not_mem_nil, or_false] at hy
        rcases hy with rfl | rfl | rfl | rfl | rfl | rfl
        · exact figE (by decide) (by decide)
        · exact figE b0 b1
        all_goals exact figE (by decide) (by decide)
      · exact hT y hy
      · exact hE
  · refine ⟨true, .list ((.tuple t0 :: it) ++ [E]), [u3], ?_, u3, _, rfl, rfl, hu3', by simp; omega, fun y hy => ?_⟩
    · have s2 : it.length + 1 + 1 ≤ sizeLine := e_sz1 (by omega)
      simp -implicitDefEqProofs [s2]
    · simp only [List.mem_append, List.mem_cons, List.not_mem_nil, or_false] at hy
      rcases hy with (rfl | hy) | rfl
      · exact hI _ List.mem_cons_self
      · exact hT y hy
      · exact hE
end B80

set_option autoImplicit true
set_option Elab.async false
set_option linter.all false
set_option maxRecDepth 100000
set_option maxHeartbeats 2000000
namespace B80
open PySem L2 XD PyProof.Rows
/-! ### the drawn drum on data -/
def BlkE (x : XD.D) : Prop := ∃ b, x = blkD b ∧ blkOk b = true
theorem itE_nat {x : XD.D} (h : ItE x) : ∃ b : List Nat, x = blkD b ∧ b.length ≤ 64 ∧ ∀ k ∈ b, k ≤ 65535 := by
  obtain ⟨xs, rfl, hl, hF⟩ := h
  have : ∃ b : List Nat, xs = b.map (fun n => PyData.int (n : Nat)) ∧ ∀ k ∈ b, k ≤ 65535 := by
    clear hl
    induction xs with
    | nil => exact ⟨[], rfl, fun k hk => by cases hk⟩
    | cons x xs ih =>
      obtain ⟨b, e, hb⟩ := ih fun y hy => hF y (List.mem_cons_of_mem _ hy)
      obtain ⟨i, rfl, i0, i1⟩ := hF x List.mem_cons_self
      obtain ⟨k, rfl⟩ := Int.eq_ofNat_of_zero_le i0
      refine ⟨k :: b, by rw [e]; rfl, fun q hq => ?_⟩
      rcases List.mem_cons.mp hq with rfl | hq
      · omega
      · exact hb q hq
  obtain ⟨b, rfl, hb⟩ := this
  rw [List.length_map] at hl
  exact ⟨b, rfl, hl, hb⟩
theorem trim_last (b : List Nat) : (trimB b).getLast? ≠ some 0 := by
  unfold trimB
  rcases topB_at b with e | ⟨i, e1, e2, e3⟩
  · rw [e]; exact fun z => by cases z
  · rw [e1, List.getLast?_eq_getElem?, List.length_take, show min (i + 1) b.length - 1 = i by omega, List.getElem?_take_of_lt (by omega), List.getElem?_eq_getElem e2]
    intro z
    injection z with z
    apply e3
    rw [List.getD_eq_getElem?_getD, List.getElem?_eq_getElem e2]
    exact z
theorem trim_ok {b : List Nat} (h : b.length ≤ 64) (hb : ∀ k ∈ b, k ≤ 65535) : blkOk (trimB b) = true := by
  unfold blkOk
  simp only [Bool.and_eq_true, Bool.or_eq_true, decide_eq_true_eq]
  refine ⟨⟨?_, ?_⟩, .inr (trim_last b)⟩
  · unfold trimB; rw [List.length_take]; omega
  · exact List.all_eq_true.mpr fun k hk => decide_eq_true (hb k (by unfold trimB at hk; exact List.mem_of_mem_take hk))
theorem ones_lc {ex : DE} {xs : List XD.D} {T : XD.D → Prop} {u : XD.D} {n : Int} {k : Nat} {s1 s2 s3 c4 s5 s6 s7 s8 s9 s10 : Sl} (h : UrnD u n) (hn : n + k ≤ 1000000000) (hk : k ≤ 1000) (h4 : cont c4 = none)
    (hex : ∀ (u : XD.D) (c : Sl), ex [.io u, s1, s2, s3, c, s5, s6, s7, s8, s9, s10] = .ok (.list xs, [.io u, s1, s2, s3, c, s5, s6, s7, s8, s9, s10])) (hT : ∀ x ∈ xs, T x) (x0 : xs ≠ []) (x1 : xs.length ≤ 1000) :
    ∃ (u' : XD.D) (acc : List XD.D), UrnD u' (n + k) ∧ acc.length = k ∧ (∀ y ∈ acc, T y) ∧ dLcL (.nm 4) dYes (dCall _law_one_d (.io 0 :: (.e ex :: []))) [4] (rgI 0 k) [] [.io u, s1, s2, s3, c4, s5, s6, s7, s8, s9, s10] = .ok (.list acc, [.io u', s1, s2, s3, c4, s5, s6, s7, s8, s9, s10]) := by
  obtain ⟨acc, ρ', e, u', er, hu', hl, hI⟩ := lcL_inv (t := .nm 4) (te := dYes) (el := dCall _law_one_d (.io 0 :: (.e ex :: []))) (vs := [4]) (xs := rgI 0 k) (ρ := [.io u, s1, s2, s3, c4, s5, s6, s7, s8, s9, s10])
    (fun i acc ρ => ∃ u', ρ = [.io u', s1, s2, s3, c4, s5, s6, s7, s8, s9, s10] ∧ UrnD u' (n + i) ∧ acc.length = i ∧ ∀ y ∈ acc, T y) (by rw [rgI_len]; omega) ⟨u, rfl, by simpa using h, rfl, fun y hy => by cases hy⟩
    (fun i x acc ρ hx ha ⟨u1, er, hu1, hl, hI⟩ => by
      subst er
      obtain ⟨hi, rfl⟩ := rgI_at hx
      obtain ⟨z, u2, e2, hu2, hz⟩ := one_ok (xs := xs) hu1 (by omega) x0 (by omega)
      refine ⟨by simp [wipeOk, h4], [.io u1, s1, s2, s3, .d (.int (0 + (i : Nat))), s5, s6, s7, s8, s9, s10], true, [.io u1, s1, s2, s3, .d (.int (0 + (i : Nat))), s5, s6, s7, s8, s9, s10], by simp -implicitDefEqProofs [wipeR], rfl, .inr ⟨rfl, z, [.io u2, s1, s2, s3, .d (.int (0 + (i : Nat))), s5, s6, s7, s8, s9, s10], ?_, u2, rfl, by rw [show n + ((i + 1 : Nat) : Int) = n + i + 1 by push_cast; omega]; exact hu2, by simp [hl], fun y hy => ?_⟩⟩
      · simp -implicitDefEqProofs [hex, e2]
      · rcases List.mem_append.mp hy with hy | hy
        · exact hI y hy
        · rw [List.mem_singleton] at hy
          subst hy
          exact hT _ hz)
  subst er
  rw [rgI_len] at hu' hl
  exact ⟨u', acc, hu', hl, hI, e⟩
/-- the numbers of a drawn drum -/
theorem drum_head {u : XD.D} {n : Int} (h : UrnD u n) (hn : n + 10 ≤ 1000000000) :
    ∃ (u' : XD.D) (j m ho : Int), UrnD u' (n + 4) ∧ 8 ≤ j ∧ j < 40 ∧ 16 ≤ m ∧ m ≤ 96 ∧ 6 + j < m ∧ 1 ≤ ho ∧ ho ≤ 60000 ∧ ∀ {k : DS} {Q : Bool → XD.D → List XD.D → Prop},
      Run k [.io u', .d (.int j), .d (.int m), .d (.int ho), .un, .un, .un, .un, .un, .un, .un] Q →
      Run (dSeq (dSet 1 (d2 fAdd (dC (.int 8)) (dCall _law_of_d (.io 0 :: (.e (dC (.int 32)) :: [])))))
    (dSeq (dSet 2 (d2 fMax2 (dC (.int 16)) (d2 fMin2 (dC (.int 96)) (d2 fAdd (d2 fAdd (d2 fAdd (dC (.int 6)) (dPk 1)) (dC (.int 1))) (dCall _law_of_d (.io 0 :: (.e (dC (.int 40)) :: [])))))))
    (dSeq (dSet 3 (dCall _law_one_d (.io 0 :: (.e (dLst (dCons (dC (.int 1)) (dCons (dC (.int 2)) (dCons (dC (.int 59998)) (dCons (dC (.int 59999)) (dCons (dC (.int 60000)) (dCons (d2 fAdd (dC (.int 1)) (dCall _law_of_d (.io 0 :: (.e (dC (.int 500)) :: [])))) dNil))))))) :: [])))) k))) [.io u, .un, .un, .un, .un, .un, .un, .un, .un, .un, .un] Q := by
  obtain ⟨r1, u1, e1, hu1, a1, b1⟩ := of_ok (m := 32) h (by omega) (by decide) (by decide)
  obtain ⟨r2, u2, e2, hu2, a2, b2⟩ := of_ok (m := 40) hu1 (by omega) (by decide) (by decide)
  obtain ⟨r3, u3, e3, hu3, a3, b3⟩ := of_ok (m := 500) hu2 (by omega) (by decide) (by decide)
  obtain ⟨z, u4, e4, hu4, hz⟩ := one_ok (xs := [PyData.int 1, .int 2, .int 59998, .int 59999, .int 60000, .int (1 + r3)]) hu3 (by omega) (by simp) (by simp)
  obtain ⟨ho, rfl, h0, h1⟩ : ∃ ho : Int, z = .int ho ∧ 1 ≤ ho ∧ ho ≤ 60000 := by
    simp only [List.mem_cons, List.not_mem_nil, or_false] at hz
    rcases hz with rfl | rfl | rfl | rfl | rfl | rfl <;> exact ⟨_, rfl, by omega, by omega⟩
  obtain ⟨j, hj⟩ : ∃ j : Int, j = 8 + r1 := ⟨_, rfl⟩
  obtain ⟨q, hq⟩ : ∃ q : Int, q = 6 + j + 1 + r2 := ⟨_, rfl⟩
  obtain ⟨m, hm⟩ : ∃ m : Int, m = if (if q < 96 then q else 96) > 16 then (if q < 96 then q else 96) else 16 := ⟨_, rfl⟩
  have hm2 : 16 ≤ m ∧ m ≤ 96 ∧ 6 + j < m := by
    rw [hm]
    by_cases g : q < 96
    · rw [if_pos g]
      split <;> omega
    · rw [if_neg g, if_pos (by decide)]
      omega
  refine ⟨u4, j, m, ho, hu4.mono (by omega), by omega, by omega, hm2.1, hm2.2.1, hm2.2.2, h0, h1, fun {k Q} R => ?_⟩
  refine run_seq [.io u1, .d (.int j), .un, .un, .un, .un, .un, .un, .un, .un, .un] (by rw [hj]; simp -implicitDefEqProofs [e1]) ?_
  refine run_seq [.io u2, .d (.int j), .d (.int m), .un, .un, .un, .un, .un, .un, .un, .un] ?_ ?_
  · have f1 : fMin2 (.int 96) (.int (6 + j + 1 + r2)) = some (.int (if q < 96 then q else 96)) := by rw [hq]; rfl
    have f2 : fMax2 (.int 16) (.int (if q < 96 then q else 96)) = some (.int m) := by rw [hm]; rfl
    simp -implicitDefEqProofs [-e_max2, -e_min2, e2, f1, f2]
  · refine run_seq _ ?_ R
    simp -implicitDefEqProofs [e3, e4]
theorem drum_blocks {u : XD.D} {n j m ho : Int} (h : UrnD u n) (hn : n + 200 ≤ 1000000000) (m0 : 16 ≤ m) (m1 : m ≤ 96) :
    ∃ (u' : XD.D) (bl : List XD.D), UrnD u' (n + 100) ∧ (bl.length : Int) = m - 1 ∧ (∀ y ∈ bl, BlkE y) ∧
      dSetF 5 (d2 fCat (dLst (dCons (dTup (dCons (dVar 2) (dCons (dVar 1) (dCons (dVar 3) dNil)))) dNil)) (dLc (dRng1 (d2 fSub (dVar 2) (dC (.int 1)))) (.nm 4) dYes (dCall _law_one_d (.io 0 :: (.e (dLst (dCons (dTup dNil) (dCons (dTup (dCons (dC (.int 1)) dNil)) (dCons (dTup (dCons (dC (.int 4)) (dCons (dC (.int 4)) dNil))) dNil)))) :: []))) [4]))
        [.io u, .d (.int j), .d (.int m), .d (.int ho), .un, .un, .un, .un, .un, .un, .un] = .ok (.nx [.io u', .d (.int j), .d (.int m), .d (.int ho), .un, .o (.list (.tuple [.int m, .int j, .int ho] :: bl)), .un, .un, .un, .un, .un]) := by
  obtain ⟨k, hk⟩ := Int.eq_ofNat_of_zero_le (show 0 ≤ m - 1 by omega)
  obtain ⟨u', bl, hu', hl, hB, e⟩ := ones_lc (ex := dLst (dCons (dTup dNil) (dCons (dTup (dCons (dC (.int 1)) dNil)) (dCons (dTup (dCons (dC (.int 4)) (dCons (dC (.int 4)) dNil))) dNil)))) (xs := [PyData.tuple [], .tuple [.int 1], .tuple [.int 4, .int 4]]) (T := BlkE) (k := k) (s1 := .d (.int j)) (s2 := .d (.int m)) (s3 := .d (.int ho)) (c4 := .un) (s5 := .un) (s6 := .un) (s7 := .un) (s8 := .un) (s9 := .un) (s10 := .un) h (by omega) (by omega) rfl (fun u c => by simp -implicitDefEqProofs []) (fun x hx => by
    simp only [List.mem_cons, List.not_mem_nil, or_false] at hx
    rcases hx with rfl | rfl | rfl
    · exact ⟨[], rfl, rfl⟩
    · exact ⟨[1], rfl, rfl⟩
    · exact ⟨[4, 4], rfl, rfl⟩) (by simp) (by simp)
  refine ⟨u', bl, hu'.mono (by omega), by omega, hB, ?_⟩
  have hr : rgC 0 (m - 1) := ⟨by decide, by decide, by omega, by omega⟩
  have hk2 : (m - 1).toNat = k := by omega
  have hs : 1 + bl.length ≤ sizeLine := e_sz1 (by omega)
  simp -implicitDefEqProofs [hr, hk2, e, hs]
end B80

set_option autoImplicit true
set_option Elab.async false
set_option linter.all false
set_option maxRecDepth 100000
set_option maxHeartbeats 2000000
namespace B80
open PySem L2 XD PyProof.Rows
noncomputable def drumB : DS := (dSeq (dSetF 6 (d2 fCat (dVar 6) (dCall _law_items_d (.io 0 :: (.e (dVar 7) :: (.e (dVar 2) :: (.e (d2 fAdd (dC (.int 6)) (dPk 1)) :: [])))))))
    (dSet 7 (d2 fAdd (dVar 7) (dCall _law_one_d (.io 0 :: (.e (dLst (dCons (dC (.int 1)) (dCons (dC (.int 1)) (dCons (dC (.int 1)) (dCons (dC (.int 1)) (dCons (dC (.int 2)) dNil)))))) :: []))))))
theorem drum_items {u B : XD.D} {n j m ho : Int} (h : UrnD u n) (hn : n + 2000 ≤ 1000000000) (j0 : 8 ≤ j) (m1 : m ≤ 96) (jm : 6 + j < m) (h0 : 1 ≤ ho) (h1 : ho ≤ 60000) :
    ∃ (u' : XD.D) (is : List XD.D) (bu : Int) (c4 : Sl), UrnD u' (n + 1500) ∧ is.length ≤ 100 ∧ (∀ y ∈ is, ItE y) ∧ cont c4 = none ∧
      dFor (dRng1 (d2 fAdd (dC (.int 1)) (dCall _law_of_d (.io 0 :: (.e (dC (.int 5)) :: []))))) (.nm 4) drumB [.io u, .d (.int j), .d (.int m), .d (.int ho), .un, .o B, .o (.list []), .d (.int ho), .un, .un, .un] =
        .ok (.nx [.io u', .d (.int j), .d (.int m), .d (.int ho), c4, .o B, .o (.list is), .d (.int bu), .un, .un, .un]) := by
  obtain ⟨r1, u1, e1, hu1, a1, b1⟩ := of_ok (m := 5) h (by omega) (by decide) (by decide)
  obtain ⟨k, rfl⟩ := Int.eq_ofNat_of_zero_le a1
  obtain ⟨ρ', e, u', is, bu, c4, er, hu', hl, hI, b0, b2, h4⟩ := forL_inv (t := .nm 4) (b := drumB) (xs := rgI 0 (1 + k)) (ρ := [.io u1, .d (.int j), .d (.int m), .d (.int ho), .un, .o B, .o (.list []), .d (.int ho), .un, .un, .un])
    (fun i ρ => ∃ (u' : XD.D) (is : List XD.D) (bu : Int) (c4 : Sl), ρ = [.io u', .d (.int j), .d (.int m), .d (.int ho), c4, .o B, .o (.list is), .d (.int bu), .un, .un, .un] ∧ UrnD u' (n + 1 + 200 * i) ∧ is.length ≤ 6 * i ∧ (∀ y ∈ is, ItE y) ∧ 0 ≤ bu ∧ bu ≤ 60000 + 2 * i ∧ cont c4 = none)
    ⟨u1, [], ho, .un, rfl, by simpa using hu1, Nat.le_refl 0, (fun y (hy : y ∈ []) => by cases hy), by omega, by omega, rfl⟩
    (fun i x ρ hx ⟨u2, is, bu, c4, er, hu2, hl, hI, b0, b2, h4⟩ => by
      subst er
      obtain ⟨hi, rfl⟩ := rgI_at hx
      obtain ⟨f, y, ios, e3, u3, ys, rfl, rfl, hu3, yl, yI⟩ := items_ok (bu := bu) (many := m) (first := 6 + j) hu2 (by omega) (by omega) jm m1 b0 (by omega)
      obtain ⟨z, u4, e4, hu4, hz⟩ := one_ok (xs := [PyData.int 1, .int 1, .int 1, .int 1, .int 2]) hu3 (by omega) (by simp) (by simp)
      obtain ⟨d, rfl, d0, d1⟩ : ∃ d : Int, z = .int d ∧ 1 ≤ d ∧ d ≤ 2 := by
        simp only [List.mem_cons, List.not_mem_nil, or_false] at hz
        rcases hz with rfl | rfl | rfl | rfl | rfl <;> exact ⟨_, rfl, by decide, by decide⟩
      refine ⟨[.io u2, .d (.int j), .d (.int m), .d (.int ho), .d (.int (0 + (i : Nat))), .o B, .o (.list is), .d (.int bu), .un, .un, .un], [.io u4, .d (.int j), .d (.int m), .d (.int ho), .d (.int (0 + (i : Nat))), .o B, .o (.list (is ++ ys)), .d (.int (bu + d)), .un, .un, .un], by simp -implicitDefEqProofs [io_cont h4], .inl ?_, u4, is ++ ys, bu + d, _, rfl, hu4.mono (by push_cast; omega), by rw [List.length_append]; omega, fun y hy => ?_, by omega, by push_cast; omega, rfl⟩
      · have hs : is.length + ys.length ≤ sizeLine := e_sz1 (by omega)
        have s1 : dSetF 6 (d2 fCat (dVar 6) (dCall _law_items_d (.io 0 :: (.e (dVar 7) :: (.e (dVar 2) :: (.e (d2 fAdd (dC (.int 6)) (dPk 1)) :: [])))))) [.io u2, .d (.int j), .d (.int m), .d (.int ho), .d (.int (0 + (i : Nat))), .o B, .o (.list is), .d (.int bu), .un, .un, .un] = .ok (.nx [.io u3, .d (.int j), .d (.int m), .d (.int ho), .d (.int (0 + (i : Nat))), .o B, .o (.list (is ++ ys)), .d (.int bu), .un, .un, .un]) := by
          simp -implicitDefEqProofs [e3, hs]
        unfold drumB
        rw [e_Seq, s1, e_bok, e_seqK1]
        simp -implicitDefEqProofs [e4]
      · rcases List.mem_append.mp hy with hy | hy
        · exact hI y hy
        · exact yI y hy)
  subst er
  rw [rgI_len] at hu' hl b2
  refine ⟨u', is, bu, c4, hu'.mono (by push_cast; omega), by omega, hI, h4, ?_⟩
  have hr : rgC 0 (1 + (k : Int)) := ⟨by decide, by decide, by omega, by omega⟩
  have hk2 : (1 + (k : Int)).toNat = 1 + k := by omega
  simp -implicitDefEqProofs [e1, hr, hk2, e]
noncomputable def drumT : DT := dOrT (dB (d2 fEqNilT (dSlc slT (dVar 8) (dPart (dC (.int 1))) (dPart (dC (.int 2)))) (dTup dNil))) (dB (d2 fLe (d2V ixF 8 (dC (.int 1))) (dC (.int 65535))))
theorem drum_t {x : XD.D} {s0 s1 s2 s3 s4 s5 s6 s7 s9 s10 : Sl} (h : ItE x) : drumT [s0, s1, s2, s3, s4, s5, s6, s7, .d x, s9, s10] = .ok (true, [s0, s1, s2, s3, s4, s5, s6, s7, .d x, s9, s10]) := by
  obtain ⟨xs, rfl, hl, hF⟩ := h
  unfold drumT
  have hc : cutD xs (some 1) (some 2) = (xs.drop 1).take 1 := by
    rw [show (1 : Int) = ((1 : Nat) : Int) from rfl, show (2 : Int) = ((2 : Nat) : Int) from rfl, cut_mid]
  match xs, hF with
  | [], _ => simp -implicitDefEqProofs [hc]
  | [a], _ => simp -implicitDefEqProofs [hc]
  | a :: b :: l, hF =>
    obtain ⟨i, rfl, i0, i1⟩ := hF b (by simp)
    simp -implicitDefEqProofs [hc, i1]
theorem drum_more {u B : XD.D} {n j m ho bu : Int} {c4 : Sl} {is : List XD.D} (h : UrnD u n) (hn : n + 10 ≤ 1000000000) (h0 : 1 ≤ ho) (h1 : ho ≤ 60000) (h4 : cont c4 = none) (hl : is.length ≤ 100) (hI : ∀ y ∈ is, ItE y) :
    ∃ (u' : XD.D) (is' : List XD.D), UrnD u' (n + 4) ∧ is'.length ≤ 110 ∧ (∀ y ∈ is', ItE y) ∧ ∀ {k : DS} {Q : Bool → XD.D → List XD.D → Prop},
      Run k [.io u', .d (.int j), .d (.int m), .d (.int ho), c4, .o B, .o (.list is'), .d (.int bu), .un, .un, .un] Q →
      Run (dSeq (dSetF 6 (d2 fCat (dVar 6) (dLc (dRng1 (dCall _law_of_d (.io 0 :: (.e (dC (.int 3)) :: [])))) (.nm 4) dYes (dCall _law_one_d (.io 0 :: (.e (dLst (dCons (dTup (dCons (dC (.int 2)) (dCons (d2 fAdd (dVar 3) (dC (.int 40))) (dCons (dC (.int 1)) (dCons (dC (.int 1)) dNil))))) (dCons (dTup (dCons (dC (.int 3)) (dCons (d2 fAdd (dVar 3) (dC (.int 40))) (dCons (dC (.int 9)) dNil)))) (dCons (dTup (dCons (dC (.int 5)) (dCons (dC (.int 5)) dNil))) (dCons (dTup (dCons (dC (.int 2)) dNil)) (dCons (dTup (dCons (dC (.int 1)) (dCons (dVar 3) (dCons (dC (.int 2)) dNil)))) (dCons (dTup (dCons (dC (.int 3)) dNil)) dNil))))))) :: []))) [4])))
    (dSeq (dSetF 6 (dLc (dItL (dVar 6)) (.nm 8) drumT (dVar 8) [8])) k)) [.io u, .d (.int j), .d (.int m), .d (.int ho), c4, .o B, .o (.list is), .d (.int bu), .un, .un, .un] Q := by
  obtain ⟨r, u1, e1, hu1, a1, b1⟩ := of_ok (m := 3) h (by omega) (by decide) (by decide)
  obtain ⟨k, rfl⟩ := Int.eq_ofNat_of_zero_le a1
  obtain ⟨u2, ys, hu2, yl, yI, e2⟩ := ones_lc (ex := dLst (dCons (dTup (dCons (dC (.int 2)) (dCons (d2 fAdd (dVar 3) (dC (.int 40))) (dCons (dC (.int 1)) (dCons (dC (.int 1)) dNil))))) (dCons (dTup (dCons (dC (.int 3)) (dCons (d2 fAdd (dVar 3) (dC (.int 40))) (dCons (dC (.int 9)) dNil)))) (dCons (dTup (dCons (dC (.int 5)) (dCons (dC (.int 5)) dNil))) (dCons (dTup (dCons (dC (.int 2)) dNil)) (dCons (dTup (dCons (dC (.int 1)) (dCons (dVar 3) (dCons (dC (.int 2)) dNil)))) (dCons (dTup (dCons (dC (.int 3)) dNil)) dNil)))))))
    (xs := [PyData.tuple [.int 2, .int (ho + 40), .int 1, .int 1], .tuple [.int 3, .int (ho + 40), .int 9], .tuple [.int 5, .int 5], .tuple [.int 2], .tuple [.int 1, .int ho, .int 2], .tuple [.int 3]]) (T := ItE) (k := k) (s1 := .d (.int j)) (s2 := .d (.int m)) (s3 := .d (.int ho)) (c4 := c4) (s5 := .o B) (s6 := .d (.list is)) (s7 := .d (.int bu)) (s8 := .un) (s9 := .un) (s10 := .un) hu1 (by omega) (by omega) h4 (fun u c => by simp -implicitDefEqProofs []) (fun x hx => by
    simp only [List.mem_cons, List.not_mem_nil, or_false] at hx
    rcases hx with rfl | rfl | rfl | rfl | rfl | rfl <;> refine itE (by simp) fun y hy => ?_ <;> simp only [List.mem_cons, List.not_mem_nil, or_false] at hy
    · rcases hy with rfl | rfl | rfl | rfl <;> exact figE (by omega) (by omega)
    · rcases hy with rfl | rfl | rfl <;> exact figE (by omega) (by omega)
    · rcases hy with rfl | rfl <;> exact figE (by omega) (by omega)
    · subst hy; exact figE (by omega) (by omega)
    · rcases hy with rfl | rfl | rfl <;> exact figE (by omega) (by omega)
    · subst hy; exact figE (by omega) (by omega)) (by simp) (by simp)
  have hA : ∀ y ∈ is ++ ys, ItE y := fun y hy => by
    rcases List.mem_append.mp hy with hy | hy
    · exact hI y hy
    · exact yI y hy
  have hAl : (is ++ ys).length ≤ 110 := by rw [List.length_append]; omega
  refine ⟨u2, is ++ ys, hu2.mono (by omega), hAl, hA, fun {kk Q} R => ?_⟩
  refine run_seq [.io u2, .d (.int j), .d (.int m), .d (.int ho), c4, .o B, .o (.list (is ++ ys)), .d (.int bu), .un, .un, .un] ?_ (run_seq _ ?_ R)
  · have hr : rgC 0 (k : Int) := ⟨by decide, by decide, by omega, by omega⟩
    have hs : is.length + ys.length ≤ sizeLine := e_sz1 (by omega)
    have hk2 : (k : Int).toNat = k := by omega
    simp -implicitDefEqProofs [e1, hr, hk2, e2, hs]
  · have e3 := lcL_pure (t := .nm 8) (te := drumT) (el := dVar 8) (vs := [8]) (ρ := [.io u2, .d (.int j), .d (.int m), .d (.int ho), c4, .o B, .d (.list (is ++ ys)), .d (.int bu), .un, .un, .un]) some rfl (is ++ ys) [] (by simp only [List.length_nil]; omega) fun x hx =>
      ⟨[.io u2, .d (.int j), .d (.int m), .d (.int ho), c4, .o B, .d (.list (is ++ ys)), .d (.int bu), .d x, .un, .un], true, [.io u2, .d (.int j), .d (.int m), .d (.int ho), c4, .o B, .d (.list (is ++ ys)), .d (.int bu), .d x, .un, .un], rfl, drum_t (hA x hx), .inr ⟨rfl, x, _, rfl, rfl, rfl⟩⟩
    rw [List.filterMap_some] at e3
    have e4 : dLc (dItL (dVar 6)) (.nm 8) drumT (dVar 8) [8] [.io u2, .d (.int j), .d (.int m), .d (.int ho), c4, .o B, .o (.list (is ++ ys)), .d (.int bu), .un, .un, .un] = .ok (.list ([] ++ (is ++ ys)), [.io u2, .d (.int j), .d (.int m), .d (.int ho), c4, .o B, .d (.list (is ++ ys)), .d (.int bu), .un, .un, .un]) := by
      rw [e_Lc]
      exact e3
    rw [e_SetF, e4]
    rfl
end B80

set_option autoImplicit true
set_option Elab.async false
set_option linter.all false
set_option maxRecDepth 100000
set_option maxHeartbeats 2000000
namespace B80
open PySem L2 XD PyProof.Rows
def PlE (j : Int) (y : XD.D) : Prop := ∃ i : Int, y = .int i ∧ 6 ≤ i ∧ i < 6 + j
theorem drum_spots {u B I : XD.D} {n j m ho bu : Int} {c4 : Sl} (h : UrnD u n) (hn : n + 100 ≤ 1000000000) (j0 : 8 ≤ j) (j1 : j < 40) :
    ∃ (u' : XD.D) (sp : List XD.D), UrnD u' (n + 40) ∧ (∀ y ∈ sp, PlE j y) ∧ sp.length ≤ 100 ∧
      dSetF 9 (dCallF _law_turned_d (.io 0 :: (.e (dListRg (dRg2 (dC (.int 6)) (d2 fAdd (dC (.int 6)) (dPk 1)))) :: []))) [.io u, .d (.int j), .d (.int m), .d (.int ho), c4, .o B, .o I, .d (.int bu), .un, .un, .un] = .ok (.nx [.io u', .d (.int j), .d (.int m), .d (.int ho), c4, .o B, .o I, .d (.int bu), .un, .o (.list sp), .un]) := by
  obtain ⟨ys, u1, e1, hu1, pm⟩ := turned_ok (xs := rgI 6 j.toNat) h (by rw [rgI_len]; omega) (by rw [rgI_len]; omega)
  rw [rgI_len] at hu1
  have hl := pm.length_eq
  rw [rgI_len] at hl
  refine ⟨u1, ys, hu1.mono (by omega), fun y hy => ?_, by omega, ?_⟩
  · obtain ⟨i, hi⟩ := List.getElem?_of_mem (pm.mem_iff.mp hy)
    obtain ⟨hi, rfl⟩ := rgI_at hi
    exact ⟨_, rfl, by omega, by omega⟩
  · have hrg : RgOk 6 (6 + j) := RgOk.of_le (by decide) (by omega) (by decide) (by omega)
    have hk : (6 + j - 6).toNat = j.toNat := by omega
    simp -implicitDefEqProofs [hrg, hk, e1]
/-- the places put in -/
theorem drum_put {u I : XD.D} {n j m ho bu : Int} {c4 c9 : Sl} {sp is : List XD.D} {hd : XD.D} {bl : List XD.D} (hl : (bl.length : Int) = m - 1) (jm : 6 + j < m) (hB : ∀ y ∈ bl, BlkE y) (hS : ∀ y ∈ sp, PlE j y) (hI : ∀ y ∈ is, ItE y) :
    ∃ (bl' : List XD.D) (c8 c10 : Sl), isIo c8 = false ∧ isIo c10 = false ∧ bl'.length = bl.length ∧ (∀ y ∈ bl', BlkE y) ∧
      dFor (dZip (dVar 9) (dVar 6)) (.tp ((.nm 10) :: (.nm 8) :: [])) (dSetAt 5 (dVar 10) (dCall _law_block_d (.e (dVar 8) :: []))) [.io u, .d (.int j), .d (.int m), .d (.int ho), c4, .o (.list (hd :: bl)), .o (.list is), .d (.int bu), .un, .o (.list sp), .un] = .ok (.nx [.io u, .d (.int j), .d (.int m), .d (.int ho), c4, .o (.list (hd :: bl')), .d (.list is), .d (.int bu), c8, .d (.list sp), c10]) := by
  obtain ⟨ρ', e, bl', c8, c10, er, h8, h10, bl2, hB2⟩ := forL_inv (t := .tp ((.nm 10) :: (.nm 8) :: [])) (b := dSetAt 5 (dVar 10) (dCall _law_block_d (.e (dVar 8) :: []))) (xs := zipD sp is) (ρ := [.io u, .d (.int j), .d (.int m), .d (.int ho), c4, .o (.list (hd :: bl)), .d (.list is), .d (.int bu), .un, .d (.list sp), .un])
    (fun i ρ => ∃ (bl' : List XD.D) (c8 c10 : Sl), ρ = [.io u, .d (.int j), .d (.int m), .d (.int ho), c4, .o (.list (hd :: bl')), .d (.list is), .d (.int bu), c8, .d (.list sp), c10] ∧ isIo c8 = false ∧ isIo c10 = false ∧ bl'.length = bl.length ∧ (∀ y ∈ bl', BlkE y))
    ⟨bl, .un, .un, rfl, rfl, rfl, rfl, hB⟩
    (fun i x ρ hx ⟨bl1, c8, c10, er, h8, h10, bl2, hB2⟩ => by
      subst er
      unfold zipD at hx
      rw [List.getElem?_zipWith] at hx
      obtain ⟨s, hs⟩ : ∃ s, sp[i]? = some s := by
        cases e : sp[i]? with
        | none => rw [e] at hx; cases hx
        | some s => exact ⟨s, rfl⟩
      obtain ⟨it, hit⟩ : ∃ it, is[i]? = some it := by
        cases e : is[i]? with
        | none => rw [hs, e] at hx; cases hx
        | some s => exact ⟨s, rfl⟩
      rw [hs, hit] at hx
      obtain rfl := Option.some.inj hx
      obtain ⟨v, rfl, v0, v1⟩ := hS s (List.mem_of_getElem? hs)
      obtain ⟨b, rfl, lb, bv⟩ := itE_nat (hI it (List.mem_of_getElem? hit))
      obtain ⟨k, hk⟩ := Int.eq_ofNat_of_zero_le (show 0 ≤ v - 1 by omega)
      obtain rfl : v = (k : Int) + 1 := by omega
      have hb := block_ok (b := b) (by omega)
      obtain ⟨x, hx⟩ : ∃ x, x = blkD b := ⟨_, rfl⟩
      rw [← hx] at hb ⊢
      have hix : ixN (bl1.length + 1) ((k : Int) + 1) = some (k + 1) := by
        have := ixN_nat (n := bl1.length + 1) (k := k + 1) (by omega)
        rw [← this]
        push_cast
        rfl
      refine ⟨[.io u, .d (.int j), .d (.int m), .d (.int ho), c4, .o (.list (hd :: bl1)), .d (.list is), .d (.int bu), .d x, .d (.list sp), .d (.int ((k : Int) + 1))], [.io u, .d (.int j), .d (.int m), .d (.int ho), c4, .o (.list (hd :: bl1.set k (blkD (trimB b)))), .d (.list is), .d (.int bu), .d x, .d (.list sp), .d (.int ((k : Int) + 1))], by simp -implicitDefEqProofs [h8, h10], .inl ?_, bl1.set k (blkD (trimB b)), _, _, rfl, rfl, rfl, by rw [List.length_set, bl2], fun y hy => ?_⟩
      · simp -implicitDefEqProofs [hb, hix]
      · rcases List.mem_or_eq_of_mem_set hy with hy | rfl
        · exact hB2 y hy
        · exact ⟨_, rfl, trim_ok lb bv⟩)
  subst er
  refine ⟨bl', c8, c10, h8, h10, bl2, hB2, ?_⟩
  simp -implicitDefEqProofs [e]
theorem blks_nat : ∀ {bl : List XD.D}, (∀ y ∈ bl, BlkE y) → ∃ r : List (List Nat), bl = r.map blkD ∧ r.all blkOk = true
  | [], _ => ⟨[], rfl, rfl⟩
  | x :: bl, h => by
    obtain ⟨b, rfl, hb⟩ := h x List.mem_cons_self
    obtain ⟨r, rfl, hr⟩ := blks_nat fun y hy => h y (List.mem_cons_of_mem _ hy)
    exact ⟨b :: r, rfl, by rw [List.all_cons, hb, hr]; rfl⟩
theorem drawn_ok {u : XD.D} {n : Int} (h : UrnD u n) (hn : n + 5000 ≤ 1000000000) :
    ∃ f x ios, _law_drawn_drum_d [.io u] = .ok (f, x, ios) ∧ ∃ (u' : XD.D) (m j ho : Nat) (r : List (List Nat)), f = false ∧ ios = [u'] ∧ x = imD ([m, j, ho] :: r) ∧ UrnD u' (n + 4000) ∧ imOk ([m, j, ho] :: r) = true ∧ headOk ([m, j, ho] :: r) = true ∧ 8 ≤ j ∧ j < 40 := by
  obtain ⟨u1, j, m, ho, hu1, j0, j1, m0, m1, jm, h0, h1, k1⟩ := drum_head h (by omega)
  obtain ⟨u2, bl, hu2, bll, hB, e2⟩ := drum_blocks (j := j) (ho := ho) hu1 (by omega) m0 m1
  obtain ⟨u3, is, bu, c4, hu3, isl, hI, h4, e3⟩ := drum_items (B := .list (.tuple [.int m, .int j, .int ho] :: bl)) hu2 (by omega) j0 m1 jm h0 h1
  obtain ⟨u4, is', hu4, isl', hI', k4⟩ := drum_more (B := .list (.tuple [.int m, .int j, .int ho] :: bl)) (j := j) (m := m) (bu := bu) hu3 (by omega) h0 h1 h4 isl hI
  obtain ⟨u5, sp, hu5, hS, spl, e5⟩ := drum_spots (B := .list (.tuple [.int m, .int j, .int ho] :: bl)) (I := .list is') (m := m) (ho := ho) (bu := bu) (c4 := c4) hu4 (by omega) j0 j1
  obtain ⟨J, rfl⟩ := Int.eq_ofNat_of_zero_le (show 0 ≤ j by omega)
  obtain ⟨bl1, hb1⟩ : ∃ bl1, bl1 = bl.take 5 ++ List.replicate J (PyData.tuple []) ++ bl.drop (5 + J) := ⟨_, rfl⟩
  have hb1l : bl1.length = bl.length := by
    rw [hb1, List.length_append, List.length_append, List.length_take, List.length_replicate, List.length_drop]
    omega
  have hB1 : ∀ y ∈ bl1, BlkE y := fun y hy => by
    rw [hb1] at hy
    rcases List.mem_append.mp hy with hy | hy
    · rcases List.mem_append.mp hy with hy | hy
      · exact hB y (List.mem_of_mem_take hy)
      · rw [(List.mem_replicate.mp hy).2]
        exact ⟨[], rfl, rfl⟩
    · exact hB y (List.mem_of_mem_drop hy)
  obtain ⟨bl2, c8, c10, h8, h10, bl2l, hB2, e7⟩ := drum_put (u := u5) (ho := ho) (bu := bu) (c4 := c4) (c9 := .un) (I := .none) (n := 0) (hd := .tuple [.int m, .int (J : Nat), .int ho]) (bl := bl1) (sp := sp) (is := is') (by rw [hb1l]; exact bll) jm hB1 hS hI'
  obtain ⟨M, rfl⟩ := Int.eq_ofNat_of_zero_le (show 0 ≤ m by omega)
  obtain ⟨Ho, rfl⟩ := Int.eq_ofNat_of_zero_le (show 0 ≤ ho by omega)
  obtain ⟨r, rfl, hr⟩ := blks_nat hB2
  rw [List.length_map] at bl2l
  have e6 : dSetSl 5 (dPart (dC (.int 6))) (dPart (d2 fAdd (dC (.int 6)) (dPk 1))) (d2 fRep (dLst (dCons (dTup dNil) dNil)) (dVar 1)) [.io u5, .d (.int (J : Nat)), .d (.int (M : Nat)), .d (.int (Ho : Nat)), c4, .o (.list (.tuple [.int (M : Nat), .int (J : Nat), .int (Ho : Nat)] :: bl)), .o (.list is'), .d (.int bu), .un, .o (.list sp), .un] =
      .ok (.nx [.io u5, .d (.int (J : Nat)), .d (.int (M : Nat)), .d (.int (Ho : Nat)), c4, .o (.list (.tuple [.int (M : Nat), .int (J : Nat), .int (Ho : Nat)] :: bl1)), .o (.list is'), .d (.int bu), .un, .o (.list sp), .un]) := by
    have q1 : -9223372036854775808 ≤ (J : Int) ∧ (J : Int) < 9223372036854775808 := by omega
    have q2 : J ≤ sizeLine := e_sz1 (by omega)
    have q3 : 6 + (J : Int) ≤ (bl.length : Int) + 1 := by omega
    have q4 : (6 : Int) ≤ 6 + (J : Int) := by omega
    have q5 : (6 + (J : Int)).toNat = (5 + J) + 1 := by omega
    have q6 : bl.length + 1 + J ≤ sizeLine := e_sz1 (by omega)
    rw [hb1]
    simp -implicitDefEqProofs [q1, q2, q3, q4, q5, q6]
  refine fn_run (N := 11) (b := den__law_drawn_drum) (as := [.io u]) (Q := fun f x ios => ∃ (u' : XD.D) (m j ho : Nat) (r : List (List Nat)), f = false ∧ ios = [u'] ∧ x = imD ([m, j, ho] :: r) ∧ UrnD u' (n + 4000) ∧ imOk ([m, j, ho] :: r) = true ∧ headOk ([m, j, ho] :: r) = true ∧ 8 ≤ j ∧ j < 40) ?_
  refine k1 (run_seq _ e2 (run_seq [.io u2, .d (.int (J : Nat)), .d (.int (M : Nat)), .d (.int (Ho : Nat)), .un, .o (.list (.tuple [.int (M : Nat), .int (J : Nat), .int (Ho : Nat)] :: bl)), .o (.list []), .d (.int (Ho : Nat)), .un, .un, .un] rfl (run_seq _ e3 (k4 (run_seq _ e5 (run_seq _ e6 (run_seq _ e7 ⟨false, imD ([M, J, Ho] :: r), [u5], ?_, u5, M, J, Ho, r, rfl, rfl, rfl, hu5.mono (by omega), ?_, ?_, by omega, by omega⟩)))))))
  · rw [e_Ret, e_d1]
    show Res.ok (false, _, iosOf (_ :: _ :: _ :: _ :: c4 :: _ :: _ :: _ :: c8 :: _ :: c10 :: [])) = _
    rw [e_ios1, e_ios2, e_ios2, e_ios2, iosOf_nio (io_cont h4), e_ios3, e_ios2, e_ios2, iosOf_nio h8, e_ios2, iosOf_nio h10]
    rfl
  · have hl : ([M, J, Ho] :: r).length = r.length + 1 := rfl
    unfold imOk
    rw [List.all_cons, hr, hl]
    have : blkOk [M, J, Ho] = true := by
      unfold blkOk
      simp
      omega
    rw [this, decide_eq_true (by omega), decide_eq_true (by omega)]
    rfl
  · unfold headOk
    simp only [Bool.and_eq_true, decide_eq_true_eq, List.length_cons]
    omega
end B80

set_option autoImplicit true
set_option Elab.async false
set_option linter.all false
set_option maxRecDepth 100000
set_option maxHeartbeats 2000000
namespace B80
open PySem L2 XD PyProof.Rows
/-! ### what is recovered is right, and its own -/
theorem depth_ints : ∀ b : List Nat, PyData.depthAll (b.map fun n => PyData.int (n : Nat)) = 0
  | [] => rfl
  | x :: b => by simp [PyData.depthAll, PyData.depth, depth_ints b]
theorem depth_blks : ∀ im : List (List Nat), PyData.depthAll (im.map blkD) ≤ 1
  | [] => Nat.zero_le _
  | x :: im => by
    have h := depth_blks im
    simp only [List.map_cons, PyData.depthAll, blkD, PyData.depth, depth_ints]
    omega
theorem nodes_ints : ∀ b : List Nat, nodesAll (b.map fun n => PyData.int (n : Nat)) = b.length
  | [] => rfl
  | x :: b => by simp [nodesAll, nodes, nodes_ints b]; omega
theorem nodes_blks : ∀ im : List (List Nat), im.all blkOk = true → nodesAll (im.map blkD) ≤ im.length * 65
  | [], _ => Nat.zero_le _
  | x :: im, h => by
    rw [List.all_cons, Bool.and_eq_true] at h
    have h2 := nodes_blks im h.2
    have h1 := h.1
    unfold blkOk at h1
    simp only [Bool.and_eq_true, decide_eq_true_eq] at h1
    simp only [List.map_cons, nodesAll, blkD, nodes, nodes_ints, List.length_cons] at h2 ⊢
    omega
theorem im_same {im : List (List Nat)} (h : imOk im = true) : alikeD 9 [.d (imD im), .d (imD im)] = .ok (false, .bool true, []) := by
  unfold imOk at h
  simp only [Bool.and_eq_true, decide_eq_true_eq] at h
  have hs : sameD 9 (imD im) (imD im) := by
    refine ⟨rfl, by unfold imD; exact canLay_im im, ?_, ?_⟩
    · unfold imD
      have := depth_blks im
      simp only [PyData.depth]
      omega
    · unfold imD
      have := nodes_blks im h.2
      simp only [nodes]
      omega
  unfold alikeD
  exact if_pos hs
theorem blkOk_drop {b : List Nat} (k : Nat) (h : blkOk b = true) : blkOk (b.drop k) = true := by
  unfold blkOk at h ⊢
  simp only [Bool.and_eq_true, Bool.or_eq_true, decide_eq_true_eq, List.all_eq_true] at h ⊢
  refine ⟨⟨by rw [List.length_drop]; omega, fun x hx => h.1.2 x (List.mem_of_mem_drop hx)⟩, ?_⟩
  rcases h.2 with e | e
  · left
    rw [List.isEmpty_iff] at e ⊢
    rw [e, List.drop_nil]
  · exact .inr (getLast_drop k e)
def FOk (f : Nat → Option (List Nat)) : Prop := f 0 = none ∧ ∀ i b, f i = some b → blkOk b = true
theorem putF_ok : ∀ {l : List (Nat × List Nat)} {f : Nat → Option (List Nat)}, FOk f → (∀ p ∈ l, 1 ≤ p.1 ∧ blkOk p.2 = true) → FOk (putF f l)
  | [], f, h, _ => h
  | p :: l, f, h, hl => putF_ok (l := l) (f := updF f p.1 p.2) (by
      have hp := hl p List.mem_cons_self
      refine ⟨?_, fun i b e => ?_⟩
      · unfold updF
        rw [if_neg (by omega)]
        exact h.1
      · unfold updF at e
        by_cases g : i = p.1
        · rw [if_pos g] at e
          injection e with e
          rw [← e]; exact hp.2
        · rw [if_neg g] at e
          exact h.2 i b e) fun q hq => hl q (List.mem_cons_of_mem _ hq)
theorem puts_good {im : List (List Nat)} {j n : Nat} {l : List (Nat × List Nat)} (h : bundle im j n = some l) (hl : 6 < im.length) (hi : ∀ b ∈ jour im j, blkOk b = true) : ∀ p ∈ l, 1 ≤ p.1 ∧ blkOk p.2 = true := fun p hp => by
  obtain ⟨h1, h2⟩ := bundle_go h
  refine ⟨(go_lt (h1 p hp) hl).1, ?_⟩
  rw [h2, putsB_eq] at hp
  obtain ⟨b, hb, rfl⟩ := List.mem_map.mp hp
  exact blkOk_drop 3 (hi b (List.mem_filter.mp hb).1)
theorem bring_ok {im : List (List Nat)} {j : Nat} (hl : 6 < im.length) (hi : ∀ b ∈ jour im j, blkOk b = true) : ∀ (k n : Nat) (f : Nat → Option (List Nat)), FOk f → 1 ≤ n → n ≤ 60000 → FOk (bring im j k n f).1 ∧ 1 ≤ (bring im j k n f).2 ∧ (bring im j k n f).2 ≤ 60000
  | 0, n, f, hf, h1, h2 => ⟨hf, h1, h2⟩
  | k + 1, n, f, hf, h1, h2 => by
    cases e : bundle im j n with
    | none => rw [bring_none e]; exact ⟨hf, h1, h2⟩
    | some l =>
      have : bring im j (k + 1) n f = bring im j k (n + 1) (putF f l) := by
        show (match bundle im j n with | none => (f, n) | some l => bring im j k (n + 1) (putF f l)) = _
        rw [e]
      rw [this]
      exact bring_ok hl hi k (n + 1) _ (putF_ok hf (puts_good e hl hi)) (by omega) (by have := bundle_lt e; omega)
theorem recIm_ok {m j h : Nat} {r : List (List Nat)} (h1 : imOk ([m, j, h] :: r) = true) (h2 : headOk ([m, j, h] :: r) = true) :
    ∃ (n : Nat) (r' : List (List Nat)), recIm m j h r = [m, j, n] :: r' ∧ imOk ([m, j, n] :: r') = true ∧ headOk ([m, j, n] :: r') = true ∧ recIm m j n r' = [m, j, n] :: r' := by
  have h1' := h1
  have h2' := h2
  unfold imOk at h1
  unfold headOk at h2
  simp only [Bool.and_eq_true, decide_eq_true_eq, List.length_cons, List.all_cons] at h1 h2
  have hrl : m = r.length + 1 := h2.1.1.1
  have hall : ∀ b ∈ r, blkOk b = true := fun b hb => List.all_eq_true.mp h1.2.2 b hb
  have hjr : ∀ b ∈ jour ([m, j, h] :: r) j, blkOk b = true := fun b hb => by
    rw [jour_eq (by rw [List.length_cons]; omega), List.drop_succ_cons] at hb
    exact hall b (List.mem_of_mem_drop (List.mem_of_mem_take hb))
  obtain ⟨⟨f0, fb⟩, n1, n2⟩ := bring_ok (im := [m, j, h] :: r) (by rw [List.length_cons]; omega) hjr (60000 - h) h (fun _ => none) ⟨rfl, fun i b e => by cases e⟩ h2.1.2.1 h2.1.2.2
  have er : recIm m j h r = withB ([m, j, (bring ([m, j, h] :: r) j (60000 - h) h (fun _ => none)).2] :: r) (putF (bring ([m, j, h] :: r) j (60000 - h) h (fun _ => none)).1 (emptyL j)) := rfl
  generalize (bring ([m, j, h] :: r) j (60000 - h) h (fun _ => none)).2 = n at er n1 n2
  generalize (bring ([m, j, h] :: r) j (60000 - h) h (fun _ => none)).1 = f at er f0 fb
  obtain ⟨g, hg⟩ : ∃ g, g = putF f (emptyL j) := ⟨_, rfl⟩
  rw [← hg] at er
  have g0 : g 0 = none := by rw [hg, putF_empty, if_neg (by omega), f0]
  have gb : ∀ i b, g i = some b → blkOk b = true := fun i b e => by
    rw [hg, putF_empty] at e
    split at e
    · injection e with e; rw [← e]; rfl
    · exact fb i b e
  obtain ⟨r', hr'⟩ : ∃ r', r' = r.mapIdx fun i b => (g (i + 1)).getD b := ⟨_, rfl⟩
  have e1 : withB ([m, j, n] :: r) g = [m, j, n] :: r' := by
    unfold withB
    rw [List.mapIdx_cons, g0, hr']
    rfl
  have hl' : r'.length = r.length := by rw [hr']; simp
  have hall' : ∀ b ∈ r', blkOk b = true := fun b hb => by
    rw [hr'] at hb
    obtain ⟨i, hi, e⟩ := List.mem_mapIdx.mp hb
    cases eg : g (i + 1) with
    | none => rw [eg] at e; rw [← e]; exact hall _ (List.getElem_mem _)
    | some b' => rw [eg] at e; rw [← e]; exact gb _ _ eg
  have hd : blkOk [m, j, n] = true := by
    unfold blkOk
    simp
    omega
  have hj' : ∀ i, i < j → ([m, j, n] :: r')[6 + i]? = some [] := fun i hi => by
    rw [← e1, withB_at, hg, putF_empty, if_pos ⟨by omega, by omega⟩, List.getElem?_eq_getElem (show 6 + i < ([m, j, n] :: r).length by rw [List.length_cons]; omega)]
    rfl
  have i1 : imOk ([m, j, n] :: r') = true := by
    unfold imOk
    rw [List.all_cons, hd, List.length_cons, hl', List.all_eq_true.mpr hall', decide_eq_true h1.1.1, decide_eq_true h1.1.2]
    rfl
  have i2 : headOk ([m, j, n] :: r') = true := by
    unfold headOk
    simp only [Bool.and_eq_true, decide_eq_true_eq, List.length_cons, hl']
    exact ⟨⟨⟨h2.1.1.1, h2.1.1.2⟩, n1, n2⟩, h2.2⟩
  refine ⟨n, r', er.trans e1, i1, i2, ?_⟩
  have hj0 : jour ([m, j, n] :: r') j = List.replicate j [] := by
    unfold jour
    refine List.ext_getElem? fun i => ?_
    rw [List.getElem?_map]
    by_cases hi : i < j
    · rw [List.getElem?_range hi, List.getElem?_replicate_of_lt hi]
      show some (([m, j, n] :: r').getD (6 + i) []) = _
      rw [List.getD_eq_getElem?_getD, hj' i hi]
      rfl
    · rw [List.getElem?_eq_none (by simpa using hi), List.getElem?_eq_none (by simpa using hi)]
      rfl
  have hb0 : bundle ([m, j, n] :: r') j n = none := by
    unfold bundle
    refine if_pos (.inr (.inl ?_))
    rw [endsB_eq, hj0]
    intro z
    obtain ⟨b, hb, _⟩ := List.mem_map.mp z
    obtain ⟨hb, hb2⟩ := List.mem_filter.mp hb
    rw [(List.mem_replicate.mp hb).2] at hb2
    exact absurd hb2 (by unfold isEnd endB; simp)
  unfold recIm
  rw [bring_none hb0]
  show withB ([m, j, n] :: r') (putF (fun _ => none) (emptyL j)) = _
  refine List.ext_getElem? fun i => ?_
  rw [withB_at, putF_empty]
  by_cases hi : 6 ≤ i ∧ i < 6 + j
  · rw [if_pos hi]
    have := hj' (i - 6) (by omega)
    rw [show 6 + (i - 6) = i by omega] at this
    rw [this]
    rfl
  · rw [if_neg hi]
    cases ([m, j, n] :: r')[i]? <;> rfl
end B80

set_option autoImplicit true
set_option Elab.async false
set_option linter.all false
set_option maxRecDepth 100000
set_option maxHeartbeats 2000000
namespace B80
open PySem L2 XD PyProof.Rows
theorem refused_ok {x : XD.D} (h : BadIm x) : _law_refused_d [.d x] = .ok (false, .bool true, []) := by
  have e := rec_bad h
  have e1 : dDrop (dCall rec_d (.e (dVar 0) :: [])) [.d x, .d (.bool false)] = .ex "InvalidImage" [] [.d x, .d (.bool false)] := by
    simp -implicitDefEqProofs [e]
  have e2 : dTry mt_InvalidImage (dDrop (dCall rec_d (.e (dVar 0) :: []))) (dSet 1 (dC (.bool true))) [.d x, .d (.bool false)] = .ok (.nx [.d x, .d (.bool true)]) := by
    rw [e_Try, e1]
    rfl
  obtain ⟨f, y, ios, e3, rfl, rfl, rfl⟩ := fn_run (N := 2) (b := den__law_refused) (as := [.d x]) (Q := fun f y ios => f = false ∧ y = .bool true ∧ ios = [])
    (run_seq [.d x, .d (.bool false)] rfl (run_seq _ e2 ⟨false, .bool true, [], rfl, rfl, rfl, rfl⟩))
  exact e3
theorem blk_last {b : List Nat} (h : blkOk b = true) : b.length ≤ 64 ∧ b.getLast? ≠ some 0 := by
  unfold blkOk at h
  simp only [Bool.and_eq_true, Bool.or_eq_true, decide_eq_true_eq] at h
  refine ⟨h.1.1, ?_⟩
  rcases h.2 with e | e
  · rw [List.isEmpty_iff] at e
    rw [e]; exact fun z => by cases z
  · exact e
noncomputable def rightB : DS := (dSeq (dSet 2 (dCall _law_drawn_drum_d (.io 0 :: [])))
    (dSeq (dSet 3 (dCall _law_recovered_d (.e (dVar 2) :: [])))
    (dIf (dOrT (dNotT (dB (dCall (alikeD 9) (.e (dCall rec_d (.e (dVar 2) :: [])) :: (.e (dVar 3) :: []))))) (dNotT (dB (dCall (alikeD 9) (.e (dCallK rec_d [0] (.e (dVar 3) :: [])) :: (.e (dVar 3) :: [])))))) (dRet (dC (.bool false))) dNext)))
theorem right_step {u x : XD.D} {n : Int} {c2 c3 : Sl} (h : UrnD u n) (hn : n + 5000 ≤ 1000000000) (h2 : isIo c2 = false) (h3 : isIo c3 = false) :
    ∃ (u' : XD.D) (m j ho : Nat) (r : List (List Nat)) (c3' : Sl), isIo c3' = false ∧ UrnD u' (n + 4000) ∧ imOk ([m, j, ho] :: r) = true ∧ headOk ([m, j, ho] :: r) = true ∧
      rightB [.io u, .d x, c2, c3, .un, .un, .un, .un, .un] = .ok (.nx [.io u', .d x, .d (imD ([m, j, ho] :: r)), c3', .un, .un, .un, .un, .un]) := by
  obtain ⟨f, y, ios, e1, u', m, j, ho, r, rfl, rfl, rfl, hu', i1, i2, j0, j1⟩ := drawn_ok h hn
  have i1' := i1
  have i2' := i2
  unfold imOk at i1'
  unfold headOk at i2'
  simp only [Bool.and_eq_true, decide_eq_true_eq, List.length_cons, List.all_cons] at i1' i2'
  have e2 := recovered_ok (m := m) (j := j) (h := ho) (r := r) (by omega) (by omega) (by omega) i2'.1.2.2 fun b hb => blk_last (List.all_eq_true.mp i1'.2.2 b hb)
  have e3 := rec_good i1 i2
  obtain ⟨k, r', er, k1, k2, ek⟩ := recIm_ok i1 i2
  rw [er] at e2 e3
  have e4 := rec_good k1 k2
  rw [ek] at e4
  have e5 := im_same k1
  obtain ⟨X, hX⟩ : ∃ X, X = imD ([m, j, ho] :: r) := ⟨_, rfl⟩
  obtain ⟨Y, hY⟩ : ∃ Y, Y = imD ([m, j, k] :: r') := ⟨_, rfl⟩
  rw [← hX] at e1 e2 e3
  rw [← hY] at e2 e3 e4 e5
  refine ⟨u', m, j, ho, r, .d Y, rfl, hu', i1, i2, ?_⟩
  rw [← hX]
  unfold rightB
  have s1 : dSet 2 (dCall _law_drawn_drum_d (.io 0 :: [])) [.io u, .d x, c2, c3, .un, .un, .un, .un, .un] = .ok (.nx [.io u', .d x, .d X, c3, .un, .un, .un, .un, .un]) := by
    simp -implicitDefEqProofs [e1, h2]
  have s2 : dSet 3 (dCall _law_recovered_d (.e (dVar 2) :: [])) [.io u', .d x, .d X, c3, .un, .un, .un, .un, .un] = .ok (.nx [.io u', .d x, .d X, .d Y, .un, .un, .un, .un, .un]) := by
    simp -implicitDefEqProofs [e2, h3]
  have t1 : dCall (alikeD 9) (.e (dCall rec_d (.e (dVar 2) :: [])) :: (.e (dVar 3) :: [])) [.io u', .d x, .d X, .d Y, .un, .un, .un, .un, .un] = .ok (.bool true, [.io u', .d x, .d X, .d Y, .un, .un, .un, .un, .un]) := by
    simp -implicitDefEqProofs [e3, e5]
  have t2 : dCall (alikeD 9) (.e (dCallK rec_d [0] (.e (dVar 3) :: [])) :: (.e (dVar 3) :: [])) [.io u', .d x, .d X, .d Y, .un, .un, .un, .un, .un] = .ok (.bool true, [.io u', .d x, .d X, .d Y, .un, .un, .un, .un, .un]) := by
    simp -implicitDefEqProofs [e4, e5]
  rw [e_Seq, s1, e_bok, e_seqK1, e_Seq, s2, e_bok, e_seqK1, e_If, e_OrT, e_NotT, e_B, t1]
  show ((dNotT (dB (dCall (alikeD 9) (.e (dCallK rec_d [0] (.e (dVar 3) :: [])) :: (.e (dVar 3) :: [])))) [.io u', .d x, .d X, .d Y, .un, .un, .un, .un, .un]).bind _) = _
  rw [e_NotT, e_B, t2]
  rfl
/-! the odd ones -/
theorem bad_head {hd : List Nat} {r : List (List Nat)} (hl : hd.length ≤ 1000) (hr : r.length ≤ 1000) (hb : ∀ c ∈ r, c.length ≤ 64) (h : headOk (hd :: r) = false) : BadIm (imD (hd :: r)) := by
  refine .inr ⟨hd, r, rfl, hr, fun c hc => ?_, by rw [h, Bool.and_false]⟩
  rcases List.mem_cons.mp hc with rfl | hc
  · exact hl
  · exact Nat.le_trans (hb c hc) (by decide)
theorem bad_im {hd : List Nat} {r : List (List Nat)} (hl : hd.length ≤ 1000) (hr : r.length ≤ 1000) (hb : ∀ c ∈ r, c.length ≤ 64) (h : imOk (hd :: r) = false) : BadIm (imD (hd :: r)) := by
  refine .inr ⟨hd, r, rfl, hr, fun c hc => ?_, by rw [h, Bool.false_and]⟩
  rcases List.mem_cons.mp hc with rfl | hc
  · exact hl
  · exact Nat.le_trans (hb c hc) (by decide)
theorem cut_1m {x y : XD.D} {xs : List XD.D} : XD.cutD (x :: (xs ++ [y])) (some 1) (some (-1)) = xs := by
  unfold XD.cutD
  have h1 : HT.sIx (x :: (xs ++ [y])).length 0 (some 1) = 1 := by
    rw [show (1 : Int) = ((1 : Nat) : Int) from rfl, HT.sIx_nat, List.length_cons]
    omega
  have h2 : HT.sIx (x :: (xs ++ [y])).length (x :: (xs ++ [y])).length (some (-1)) = xs.length + 1 := by
    show (if (-1 : Int) < 0 then ((-1 : Int) + ((x :: (xs ++ [y])).length : Int)).toNat else min (-1 : Int).toNat (x :: (xs ++ [y])).length) = _
    rw [if_pos (by decide), List.length_cons, List.length_append, List.length_cons, List.length_nil]
    omega
  rw [h1, h2]
  simp
def oddL (L j : Nat) (hd : List Nat) (r : List (List Nat)) (q : List (List Nat)) : List XD.D := [imD ([L + 1, j, 1] :: r), imD ([L, 3, 1] :: r), imD ([L, 41, 1] :: r), imD ([L, j] :: r), imD ([L, j, 1, 1] :: r), imD ([L, j, 60001] :: r), .none, .list ((hd :: r).map blkD), imD (hd :: r.take 14), imD (hd :: (q ++ [[0]]))]
theorem odd_bad {m j ho : Nat} {r q : List (List Nat)} {z : List Nat} (i1 : imOk ([m, j, ho] :: r) = true) (i2 : headOk ([m, j, ho] :: r) = true) (hq : r = q ++ [z]) : ∀ x ∈ oddL (r.length + 1) j [m, j, ho] r q, BadIm x := by
  unfold imOk at i1
  unfold headOk at i2
  simp only [Bool.and_eq_true, decide_eq_true_eq, List.length_cons, List.all_cons] at i1 i2
  have hb : ∀ c ∈ r, c.length ≤ 64 := fun b hb => (blk_last (List.all_eq_true.mp i1.2.2 b hb)).1
  have hr : r.length ≤ 1000 := by omega
  intro x hx
  unfold oddL at hx
  simp only [List.mem_cons, List.not_mem_nil, or_false] at hx
  rcases hx with rfl | rfl | rfl | rfl | rfl | rfl | rfl | rfl | rfl | rfl
  · refine bad_head (by simp) hr hb ?_
    unfold headOk
    simp
  · refine bad_head (by simp) hr hb ?_
    unfold headOk
    simp
  · refine bad_head (by simp) hr hb ?_
    unfold headOk
    simp
  · exact bad_head (by simp) hr hb rfl
  · exact bad_head (by simp) hr hb rfl
  · refine bad_head (by simp) hr hb ?_
    unfold headOk
    simp
  · exact .inl ⟨rfl, fun ds z => by cases z⟩
  · exact .inl ⟨canLay_im _, fun ds z => by cases z⟩
  · refine bad_im (by simp) (by rw [List.length_take]; omega) (fun c hc => hb c (List.mem_of_mem_take hc)) ?_
    unfold imOk
    rw [List.length_cons, List.length_take, decide_eq_false (by omega)]
    rfl
  · have hq2 : q.length + 1 = r.length := by rw [hq]; simp
    refine bad_im (by simp) (by rw [List.length_append, List.length_singleton]; omega) (fun c hc => ?_) ?_
    · rcases List.mem_append.mp hc with hc | hc
      · exact hb c (by rw [hq]; exact List.mem_append_left _ hc)
      · rw [List.mem_singleton] at hc
        subst hc
        decide
    · unfold imOk
      rw [List.all_cons, List.all_append]
      have : ([[0]] : List (List Nat)).all blkOk = false := rfl
      rw [this, Bool.and_false, Bool.and_false, Bool.and_false]
end B80

set_option autoImplicit true
set_option Elab.async false
set_option linter.all false
set_option maxRecDepth 100000
set_option maxHeartbeats 2000000
namespace B80
open PySem L2 XD
noncomputable def rA : DS := dSetF 5 (dLst (dCons (dTup (dCons (d2 fAdd (d1 fLen (dPk 2)) (dC (.int 1))) (dCons (dVar 4) (dCons (dC (.int 1)) dNil)))) (dCons (dTup (dCons (d1 fLen (dPk 2)) (dCons (dC (.int 3)) (dCons (dC (.int 1)) dNil)))) (dCons (dTup (dCons (d1 fLen (dPk 2)) (dCons (dC (.int 41)) (dCons (dC (.int 1)) dNil)))) (dCons (dTup (dCons (d1 fLen (dPk 2)) (dCons (dVar 4) dNil))) (dCons (dTup (dCons (d1 fLen (dPk 2)) (dCons (dVar 4) (dCons (dC (.int 1)) (dCons (dC (.int 1)) dNil))))) (dCons (dTup (dCons (d1 fLen (dPk 2)) (dCons (dVar 4) (dCons (dC (.int 60001)) dNil)))) dNil)))))))
noncomputable def rEl : DE := d2 fCatT (dTup (dCons (dVar 7) dNil)) (dSlc slT (dVar 2) (dPart (dC (.int 1))) dNo)
noncomputable def rLs : DE := (dLst (dCons (dC .none) (dCons (d1 fList (dPk 2)) (dCons (dSlc slT (dVar 2) dNo (dPart (dC (.int 15)))) (dCons (d2 fCatT (d2 fCatT (dTup (dCons (d2V ixF 2 (dC (.int 0))) dNil)) (dSlc slT (dVar 2) (dPart (dC (.int 1))) (dPart (d1 fNeg (dC (.int 1)))))) (dTup (dCons (dTup (dCons (dC (.int 0)) dNil)) dNil))) dNil)))))
noncomputable def rC : DS := dSetF 6 (d2 fCat (dLc (dItL (dVar 5)) (.nm 7) dYes rEl [7]) rLs)
noncomputable def rD : DE := d2 fEqNil (dLc (dItL (dVar 6)) (.nm 8) (dNotT (dB (dCall _law_refused_d (.e (dVar 8) :: [])))) (dVar 8) [8]) (dLst dNil)
theorem odd_set {m j ho : Nat} {r q : List (List Nat)} {z : List Nat} {u x c3 : Sl} (hr : r.length ≤ 1000) (hq : r = q ++ [z]) (hx : isIo x = false) :
    ∃ ρ5, rA [u, x, .d (imD ([m, j, ho] :: r)), c3, .d (.int (j : Nat)), .un, .un, .un, .un] = .ok (.nx ρ5) ∧ ∃ c5, isIo c5 = false ∧ rC ρ5 = .ok (.nx [u, x, .d (imD ([m, j, ho] :: r)), c3, .d (.int (j : Nat)), c5, .o (.list (oddL (r.length + 1) j [m, j, ho] r q)), .un, .un]) := by
  obtain ⟨hd, hhd⟩ : ∃ hd : List Nat, hd = [m, j, ho] := ⟨_, rfl⟩
  rw [← hhd]
  obtain ⟨L, hL⟩ : ∃ L : Nat, L = r.length + 1 := ⟨_, rfl⟩
  have hLi : (r.length : Int) + 1 = (L : Int) := by omega
  obtain ⟨hs, hhs⟩ : ∃ hs, hs = [[L + 1, j, 1], [L, 3, 1], [L, 41, 1], [L, j], [L, j, 1, 1], [L, j, 60001]] := ⟨_, rfl⟩
  have hA : rA [u, x, .d (imD (hd :: r)), c3, .d (.int (j : Nat)), .un, .un, .un, .un] = .ok (.nx [u, x, .d (imD (hd :: r)), c3, .d (.int (j : Nat)), .o (.list (hs.map blkD)), .un, .un, .un]) := by
    rw [hhs]
    unfold rA imD
    simp -implicitDefEqProofs [blkD, hLi]
  refine ⟨_, hA, .d (.list (hs.map blkD)), rfl, ?_⟩
  have hsl : hs.length = 6 := by rw [hhs]; rfl
  have c1 : XD.cutD (blkD hd :: r.map blkD) (some 1) none = r.map blkD := by rw [show (1 : Int) = ((1 : Nat) : Int) from rfl, cut_fr]; rfl
  have c15 : XD.cutD (blkD hd :: r.map blkD) none (some 15) = blkD hd :: (r.take 14).map blkD := by rw [show (15 : Int) = ((15 : Nat) : Int) from rfl, cut_to, List.take_succ_cons, List.map_take]
  have cm : XD.cutD (blkD hd :: r.map blkD) (some 1) (some (-1)) = q.map blkD := by rw [hq, List.map_append]; exact cut_1m
  have ql : q.length + 1 = r.length := by rw [hq]; simp
  have s1 : 1 + r.length ≤ sizeLine := e_sz1 (by omega)
  have s2 : 1 + q.length ≤ sizeLine := e_sz1 (by omega)
  have s3 : q.length + 1 + 1 ≤ sizeLine := e_sz1 (by omega)
  have fm : (hs.map blkD).filterMap (fun y => some (PyData.tuple (y :: r.map blkD))) = hs.map fun h => imD (h :: r) := by
    clear hA hsl hhs
    induction hs with
    | nil => rfl
    | cons a l ih => rw [List.map_cons, List.filterMap_cons, List.map_cons, ← ih]; rfl
  have e1 := lcL_pure (t := .nm 7) (te := dYes) (el := rEl) (vs := [7]) (ρ := [u, x, .d (imD (hd :: r)), c3, .d (.int (j : Nat)), .d (.list (hs.map blkD)), .un, .un, .un]) (fun y => some (PyData.tuple (y :: r.map blkD))) rfl (hs.map blkD) [] (by rw [List.length_map, hsl]; decide) fun y hy =>
    ⟨[u, x, .d (imD (hd :: r)), c3, .d (.int (j : Nat)), .d (.list (hs.map blkD)), .un, .d y, .un], true, [u, x, .d (imD (hd :: r)), c3, .d (.int (j : Nat)), .d (.list (hs.map blkD)), .un, .d y, .un], rfl, rfl, .inr ⟨rfl, .tuple (y :: r.map blkD), [u, x, .d (imD (hd :: r)), c3, .d (.int (j : Nat)), .d (.list (hs.map blkD)), .un, .d y, .un], (by
      unfold rEl imD
      simp -implicitDefEqProofs [c1, s1]), rfl, rfl⟩⟩
  rw [fm, List.nil_append] at e1
  have e2 : dLc (dItL (dVar 5)) (.nm 7) dYes rEl [7] [u, x, .d (imD (hd :: r)), c3, .d (.int (j : Nat)), .o (.list (hs.map blkD)), .un, .un, .un] = .ok (.list (hs.map fun h => imD (h :: r)), [u, x, .d (imD (hd :: r)), c3, .d (.int (j : Nat)), .d (.list (hs.map blkD)), .un, .un, .un]) := by
    rw [e_Lc]
    exact e1
  have e3 : rLs [u, x, .d (imD (hd :: r)), c3, .d (.int (j : Nat)), .d (.list (hs.map blkD)), .un, .un, .un] = .ok (.list [.none, .list ((hd :: r).map blkD), imD (hd :: r.take 14), imD (hd :: (q ++ [[0]]))], [u, x, .d (imD (hd :: r)), c3, .d (.int (j : Nat)), .d (.list (hs.map blkD)), .un, .un, .un]) := by
    unfold rLs imD
    have b0 : blkD [0] = .tuple [.int 0] := rfl
    simp -implicitDefEqProofs [c15, cm, s2, s3, b0]
  unfold rC
  rw [e_SetF, e_d2, e2, e_bok, e3, e_bok]
  have hcat : fCat (.list (hs.map fun h => imD (h :: r))) (.list [.none, .list ((hd :: r).map blkD), imD (hd :: r.take 14), imD (hd :: (q ++ [[0]]))]) = some (.list (oddL L j hd r q)) := by
    rw [e_cat, e_gd, if_pos (by rw [List.length_map, hsl]; exact e_sz1 (by simp)), hhs]
    rfl
  rw [hcat, hL]
  rfl
theorem right_end {odd : List XD.D} {u x : XD.D} {s0 s1 s2 s3 s4 s5 : Sl} (hl : odd.length ≤ 1000) (h : ∀ x ∈ odd, BadIm x) : ∃ ρ', rD [s0, s1, s2, s3, s4, s5, .o (.list odd), .un, .un] = .ok (.bool true, ρ') := by
  have e1 := lcL_pure (t := .nm 8) (te := dNotT (dB (dCall _law_refused_d (.e (dVar 8) :: [])))) (el := dVar 8) (vs := [8]) (ρ := [s0, s1, s2, s3, s4, s5, .d (.list odd), .un, .un]) (fun _ => none) rfl odd [] (by simp; omega) fun y hy =>
    ⟨[s0, s1, s2, s3, s4, s5, .d (.list odd), .un, .d y], false, [s0, s1, s2, s3, s4, s5, .d (.list odd), .un, .d y], rfl, (by
      have := refused_ok (h y hy)
      simp -implicitDefEqProofs [this]), .inl ⟨rfl, rfl, rfl⟩⟩
  have fm : odd.filterMap (fun _ => (none : Option XD.D)) = [] := by
    clear hl h e1
    induction odd with
    | nil => rfl
    | cons a l ih => rw [List.filterMap_cons, ih]
  rw [fm] at e1
  have e2 : dLc (dItL (dVar 6)) (.nm 8) (dNotT (dB (dCall _law_refused_d (.e (dVar 8) :: [])))) (dVar 8) [8] [s0, s1, s2, s3, s4, s5, .o (.list odd), .un, .un] = .ok (.list ([] ++ []), [s0, s1, s2, s3, s4, s5, .d (.list odd), .un, .un]) := by
    rw [e_Lc]
    exact e1
  refine ⟨[s0, s1, s2, s3, s4, s5, .d (.list odd), .un, .un], ?_⟩
  unfold rD
  rw [e_d2, e2]
  rfl
theorem right_ok {u : XD.D} {n : Int} (h : UrnD u n) (hn : n + 100000 ≤ 1000000000) : ∃ f x ios, _law_right_d [.io u] = .ok (f, x, ios) ∧ x = .bool true := by
  obtain ⟨ρ', e, u', c1, c2, c3, er, h1, h2, h3, hu', hc⟩ := forL_inv (t := .nm 1) (b := rightB) (xs := rgI 0 20) (ρ := [.io u, .un, .un, .un, .un, .un, .un, .un, .un])
    (fun i ρ => ∃ (u' : XD.D) (c1 c2 c3 : Sl), ρ = [.io u', c1, c2, c3, .un, .un, .un, .un, .un] ∧ isIo c1 = false ∧ isIo c2 = false ∧ isIo c3 = false ∧ UrnD u' (n + 4000 * i) ∧ (0 < i → ∃ (m j ho : Nat) (r : List (List Nat)), c2 = .d (imD ([m, j, ho] :: r)) ∧ imOk ([m, j, ho] :: r) = true ∧ headOk ([m, j, ho] :: r) = true))
    ⟨u, .un, .un, .un, rfl, rfl, rfl, rfl, by simpa using h, fun z => absurd z (Nat.lt_irrefl 0)⟩
    (fun i x ρ hx ⟨u1, c1, c2, c3, er, h1, h2, h3, hu1, _⟩ => by
      subst er
      obtain ⟨hi, rfl⟩ := rgI_at hx
      obtain ⟨u2, m, j, ho, r, c3', k3, hu2, i1, i2, e2⟩ := right_step (x := .int (0 + (i : Nat))) (c2 := c2) (c3 := c3) hu1 (by omega) h2 h3
      exact ⟨[.io u1, .d (.int (0 + (i : Nat))), c2, c3, .un, .un, .un, .un, .un], _, by simp -implicitDefEqProofs [h1], .inl e2, u2, _, _, c3', rfl, rfl, rfl, k3, hu2.mono (by push_cast; omega), fun _ => ⟨m, j, ho, r, rfl, i1, i2⟩⟩)
  obtain ⟨m, j, ho, r, rfl, i1, i2⟩ := hc (by rw [rgI_len]; decide)
  subst er
  have i1' := i1
  unfold imOk at i1'
  simp only [Bool.and_eq_true, decide_eq_true_eq, List.length_cons, List.all_cons] at i1'
  obtain ⟨q, z, hq⟩ : ∃ q z, r = q ++ [z] := by
    have hne : r ≠ [] := fun z => by subst z; simp at i1'
    exact ⟨r.dropLast, r.getLast hne, (List.dropLast_concat_getLast hne).symm⟩
  obtain ⟨ρ5, e5, c5, h5, e6⟩ := odd_set (m := m) (j := j) (ho := ho) (u := .io u') (x := c1) (c3 := c3) (by omega) hq h1
  have ob := odd_bad i1 i2 hq
  obtain ⟨ρ7, e7⟩ := right_end (u := u') (x := u') (s0 := .io u') (s1 := c1) (s2 := .d (imD ([m, j, ho] :: r))) (s3 := c3) (s4 := .d (.int (j : Nat))) (s5 := c5) (odd := oddL (r.length + 1) j [m, j, ho] r q) (by unfold oddL; simp) ob
  refine fn_run (N := 9) (b := den__law_right) (as := [.io u]) (Q := fun _ x _ => x = .bool true) ?_
  have e8 : dFor (dRng1 (dC (.int 20))) (.nm 1) rightB [.io u, .un, .un, .un, .un, .un, .un, .un, .un] = .ok (.nx [.io u', c1, .d (imD ([m, j, ho] :: r)), c3, .un, .un, .un, .un, .un]) := by
    simp -implicitDefEqProofs [show rgC 0 20 by decide, e]
  refine run_seq _ e8 (run_seq [.io u', c1, .d (imD ([m, j, ho] :: r)), c3, .d (.int (j : Nat)), .un, .un, .un, .un] (by unfold imD; simp -implicitDefEqProofs [blkD]) (run_seq _ e5 (run_seq _ e6 ⟨false, .bool true, iosOf ρ7, ?_, rfl⟩)))
  show finR (dRet rD _) = _
  rw [e_Ret, e7]
  rfl
theorem law_ok {ns : List Int} (hl : ns.length ≤ 63) : law_d [.d (.list (ns.map .int))] = .ok (false, .bool true, []) := by
  obtain ⟨s, hs⟩ : ∃ s : XD.D, s = .list (ns.map .int) := ⟨_, rfl⟩
  obtain ⟨k, hk, hk2⟩ : ∃ k : Nat, (if (if (ns.length : Int) < 2 then (ns.length : Int) else 2) > 1 then (if (ns.length : Int) < 2 then (ns.length : Int) else 2) else 1) = (k : Int) ∧ k ≤ 2 := by
    by_cases g : (ns.length : Int) < 2
    · rw [if_pos g]
      by_cases g2 : (ns.length : Int) > 1
      · rw [if_pos g2]; exact ⟨ns.length, rfl, by omega⟩
      · rw [if_neg g2]; exact ⟨1, rfl, by omega⟩
    · rw [if_neg g]; exact ⟨2, rfl, by omega⟩
  have hu := fun i : Nat => urn_ok (ns := ns) (k := i) hl
  obtain ⟨B, hB⟩ : ∃ B : DS, B = dIf (dNotT (dB (dCallT _law_right_d (dCallF _law_urn_d (.e (dVar 0) :: (.e (dVar 1) :: []))) []))) (dRet (dC (.bool false))) dNext := ⟨_, rfl⟩
  obtain ⟨ρ', e, c1, er, h1⟩ := forL_inv (t := .nm 1) (b := B) (xs := rgI 0 k) (ρ := [.d s, .un])
    (fun i ρ => ∃ c1 : Sl, ρ = [.d s, c1] ∧ isIo c1 = false) ⟨.un, rfl, rfl⟩
    (fun i x ρ hx ⟨c1, er, h1⟩ => by
      subst er
      obtain ⟨hi, rfl⟩ := rgI_at hx
      obtain ⟨u, e1, hu1⟩ := hu i (by omega)
      rw [← hs] at e1
      obtain ⟨f, y, ios, e2, rfl⟩ := right_ok hu1 (by omega)
      have i0 : (0 : Int) + (i : Nat) = (i : Nat) := by omega
      refine ⟨[.d s, .d (.int (i : Nat))], [.d s, .d (.int (i : Nat))], by simp -implicitDefEqProofs [h1], .inl ?_, _, rfl, rfl⟩
      rw [hB]
      simp -implicitDefEqProofs [e1, e2])
  subst er
  rw [hB] at e
  have e2 : dFor (dRng1 (d2 fMax2 (dC (.int 1)) (d2 fMin2 (dC (.int 2)) (d1 fLen (dPk 0))))) (.nm 1) (dIf (dNotT (dB (dCallT _law_right_d (dCallF _law_urn_d (.e (dVar 0) :: (.e (dVar 1) :: []))) []))) (dRet (dC (.bool false))) dNext) [.d s, .un] = .ok (.nx [.d s, c1]) := by
    have hr : rgC 0 (k : Int) := ⟨by decide, by decide, by omega, by omega⟩
    have hm : (d2 fMax2 (dC (.int 1)) (d2 fMin2 (dC (.int 2)) (d1 fLen (dPk 0)))) [.d s, .un] = .ok (.int (k : Nat), [.d s, .un]) := by
      rw [← hk, hs]
      have : ((ns.map PyData.int).length : Int) = ns.length := by rw [List.length_map]
      show Res.ok (PyData.int (if (if (((ns.map PyData.int).length : Nat) : Int) < 2 then (((ns.map PyData.int).length : Nat) : Int) else 2) > 1 then (if (((ns.map PyData.int).length : Nat) : Int) < 2 then (((ns.map PyData.int).length : Nat) : Int) else 2) else 1), _) = _
      rw [this]
    rw [e_For, e_Rng1, hm, e_bok, e_rg1R, if_pos hr, Int.toNat_natCast]
    exact e
  obtain ⟨f, y, ios, e3, rfl, rfl, rfl⟩ := fn_run (N := 2) (b := den_law) (as := [.d s]) (Q := fun f y ios => f = false ∧ y = .bool true ∧ ios = [])
    (run_seq _ e2 ⟨false, .bool true, [], by
      show finR (Res.ok (Fl.rt (.bool true) [.d s, c1])) = _
      rw [e_fin2, e_ios2, iosOf_nio h1]; rfl, rfl, rfl, rfl⟩)
  rw [← hs]
  exact e3
end B80

set_option autoImplicit true
set_option Elab.async false
set_option linter.all false
set_option maxRecDepth 100000
set_option maxHeartbeats 8000000
namespace B80
open PySem L2
abbrev spLaw (K : PySem.W.Frag) : Sp := XD.spTrue K
theorem ok_law {P : Program} {w : World} {K : PySem.W.Frag} {mg : Str → Option Value} {base : Heap} {a : Nat → Addr} {fd : Nat → FuncData} {C : Addr} (T : Txt K mg a fd) (X_InvalidImage : Exc_InvalidImage K mg C) : FnOk P w K mg base CX0 11 (a 35) (fd 35) ["script"] (spLaw K) :=
  XD.law_end (d_law (cl := fun n => if n = "InvalidImage" then .ref C else .none) T X_InvalidImage rfl) fun ns hl => law_ok hl
theorem exm_one {K : PySem.W.Frag} {S : Addr} (h1 : PySem.W.subIn K (.ref S) (.type "BaseException") = some true) (h2 : PySem.W.isClsIn K S = true) (h3 : PySem.W.typeIn K (.ref S) = some (.type "type")) (h4 : PySem.W.subIn K (.ref S) (.ref S) = some true) :
    PySem.W.exmOne K (.ref S) (.ref S) = some true := by
  have e1 : (PySem.W.subIn K (.ref S) (.type "BaseException") == some true) = true := by rw [h1] <;> rfl
  have e2 : ((PySem.W.clsIn K S).isSome && PySem.W.typeIn K (.ref S) == some (.type "type")) = true := by
    have h2' : (PySem.W.clsIn K S).isSome = true := h2
    rw [h2', h3] <;> rfl
  show (if (PySem.W.subIn K (.ref S) (.type "BaseException") == some true) = true then (if ((PySem.W.clsIn K S).isSome && PySem.W.typeIn K (.ref S) == some (.type "type")) = true then PySem.W.subIn K (.ref S) (.ref S) else none) else none) = some true
  rw [if_pos e1, if_pos e2]
  exact h4

/-! ### the end -/
def adr (l : List Addr) (i : Nat) : Addr := l.getD i 0
theorem all_mk {P : Program} {w : World} {K : PySem.W.Frag} {h : Heap} {mg : Str → Option Value} {fa f0 f1 f2 f3 f4 f5 f6 f7 f8 f9 f10 f11 f12 f13 f14 f15 f16 f17 f18 f19 f20 f21 f22 f23 f24 f25 f26 f27 f28 f29 f30 f31 f32 f33 f34 f35 : Addr}
    {od0 an0 od1 an1 od2 an2 od3 an3 od4 an4 od5 an5 od6 an6 od7 an7 od8 an8 od9 an9 od10 an10 od11 an11 od12 an12 od13 an13 od14 an14 od15 an15 od16 an16 od17 an17 od18 an18 od19 an19 od20 an20 od21 an21 od22 an22 od23 an23 od24 an24 od25 an25 od26 an26 od27 an27 od28 an28 od29 an29 od30 an30 od31 an31 od32 an32 od33 an33 od34 an34 od35 an35 : Option Addr} {sl0 sl1 sl2 sl3 sl4 sl5 sl6 sl7 sl8 sl9 sl10 sl11 sl12 sl13 sl14 sl15 sl16 sl17 sl18 sl19 sl20 sl21 sl22 sl23 sl24 sl25 sl26 sl27 sl28 sl29 sl30 sl31 sl32 sl33 sl34 sl35 : Array (Option Value)} {oc0 kV0 dc0 pm0 cd0 ct0 oc1 kV1 dc1 pm1 cd1 ct1 oc2 kV2 dc2 pm2 cd2 ct2 oc3 kV3 dc3 pm3 cd3 ct3 oc4 kV4 dc4 pm4 cd4 ct4 oc5 kV5 dc5 pm5 cd5 ct5 oc6 kV6 dc6 pm6 cd6 ct6 oc7 kV7 dc7 pm7 cd7 ct7 oc8 kV8 dc8 pm8 cd8 ct8 oc9 kV9 dc9 pm9 cd9 ct9 oc10 kV10 dc10 pm10 cd10 ct10 oc11 kV11 dc11 pm11 cd11 ct11 oc12 kV12 dc12 pm12 cd12 ct12 oc13 kV13 dc13 pm13 cd13 ct13 oc14 kV14 dc14 pm14 cd14 ct14 oc15 kV15 dc15 pm15 cd15 ct15 oc16 kV16 dc16 pm16 cd16 ct16 oc17 kV17 dc17 pm17 cd17 ct17 oc18 kV18 dc18 pm18 cd18 ct18 oc19 kV19 dc19 pm19 cd19 ct19 oc20 kV20 dc20 pm20 cd20 ct20 oc21 kV21 dc21 pm21 cd21 ct21 oc22 kV22 dc22 pm22 cd22 ct22 oc23 kV23 dc23 pm23 cd23 ct23 oc24 kV24 dc24 pm24 cd24 ct24 oc25 kV25 dc25 pm25 cd25 ct25 oc26 kV26 dc26 pm26 cd26 ct26 oc27 kV27 dc27 pm27 cd27 ct27 oc28 kV28 dc28 pm28 cd28 ct28 oc29 kV29 dc29 pm29 cd29 ct29 oc30 kV30 dc30 pm30 cd30 ct30 oc31 kV31 dc31 pm31 cd31 ct31 oc32 kV32 dc32 pm32 cd32 ct32 oc33 kV33 dc33 pm33 cd33 ct33 oc34 kV34 dc34 pm34 cd34 ct34 oc35 kV35 dc35 pm35 cd35 ct35 : Value}
    {t_MOST_FIGURE : Tok}
    {t_MOST_IN_BLOCK : Tok}
    {t_LEAST_BLOCKS : Tok}
    {t_MOST_BLOCKS : Tok}
    {t_FIRST_JOURNAL : Tok}
    {t_LEAST_JOURNAL : Tok}
    {t_MOST_JOURNAL : Tok}
    {t_MOST_HOME : Tok}
    {t_PUT : Tok}
    {t_END : Tok}
    {t_IN_HEAD : Tok}
    {t_MOST_PUT : Tok}
    {C_InvalidImage : Addr} (X : K.In h) (G : h.Ns mainGlobals mg) (hfa : mg "law" = some (.ref fa))
    (a0 : PySem.W.nsIn K mainGlobals "is_from" = some (some (.ref f0)))
    (l0 : K.lookup f0 = some ⟨oc0, od0, .func (PySem.W.fnOf "is_from" "is_from" (defArgs s_is_from) (defBody s_is_from) (defScope s_is_from) .none kV0 dc0 pm0 an0 cd0 ct0), sl0⟩)
    (c0 : PySem.W.codeIn K cd0 "is_from" = true)
    (k0 : PySem.W.keepIn K (.ref f0) = true)
    (a1 : PySem.W.nsIn K mainGlobals "is_tuple" = some (some (.ref f1)))
    (l1 : K.lookup f1 = some ⟨oc1, od1, .func (PySem.W.fnOf "is_tuple" "is_tuple" (defArgs s_is_tuple) (defBody s_is_tuple) (defScope s_is_tuple) .none kV1 dc1 pm1 an1 cd1 ct1), sl1⟩)
    (c1 : PySem.W.codeIn K cd1 "is_tuple" = true)
    (k1 : PySem.W.keepIn K (.ref f1) = true)
    (a2 : PySem.W.nsIn K mainGlobals "is_figure" = some (some (.ref f2)))
    (l2 : K.lookup f2 = some ⟨oc2, od2, .func (PySem.W.fnOf "is_figure" "is_figure" (defArgs s_is_figure) (defBody s_is_figure) (defScope s_is_figure) .none kV2 dc2 pm2 an2 cd2 ct2), sl2⟩)
    (c2 : PySem.W.codeIn K cd2 "is_figure" = true)
    (k2 : PySem.W.keepIn K (.ref f2) = true)
    (a3 : PySem.W.nsIn K mainGlobals "is_block" = some (some (.ref f3)))
    (l3 : K.lookup f3 = some ⟨oc3, od3, .func (PySem.W.fnOf "is_block" "is_block" (defArgs s_is_block) (defBody s_is_block) (defScope s_is_block) .none kV3 dc3 pm3 an3 cd3 ct3), sl3⟩)
    (c3 : PySem.W.codeIn K cd3 "is_block" = true)
    (k3 : PySem.W.keepIn K (.ref f3) = true)
    (a4 : PySem.W.nsIn K mainGlobals "are_blocks" = some (some (.ref f4)))
    (l4 : K.lookup f4 = some ⟨oc4, od4, .func (PySem.W.fnOf "are_blocks" "are_blocks" (defArgs s_are_blocks) (defBody s_are_blocks) (defScope s_are_blocks) .none kV4 dc4 pm4 an4 cd4 ct4), sl4⟩)
    (c4 : PySem.W.codeIn K cd4 "are_blocks" = true)
    (k4 : PySem.W.keepIn K (.ref f4) = true)
    (a5 : PySem.W.nsIn K mainGlobals "need_blocks" = some (some (.ref f5)))
    (l5 : K.lookup f5 = some ⟨oc5, od5, .func (PySem.W.fnOf "need_blocks" "need_blocks" (defArgs s_need_blocks) (defBody s_need_blocks) (defScope s_need_blocks) .none kV5 dc5 pm5 an5 cd5 ct5), sl5⟩)
    (c5 : PySem.W.codeIn K cd5 "need_blocks" = true)
    (k5 : PySem.W.keepIn K (.ref f5) = true)
    (a6 : PySem.W.nsIn K mainGlobals "figure_at" = some (some (.ref f6)))
    (l6 : K.lookup f6 = some ⟨oc6, od6, .func (PySem.W.fnOf "figure_at" "figure_at" (defArgs s_figure_at) (defBody s_figure_at) (defScope s_figure_at) .none kV6 dc6 pm6 an6 cd6 ct6), sl6⟩)
    (c6 : PySem.W.codeIn K cd6 "figure_at" = true)
    (k6 : PySem.W.keepIn K (.ref f6) = true)
    (a7 : PySem.W.nsIn K mainGlobals "with_blocks" = some (some (.ref f7)))
    (l7 : K.lookup f7 = some ⟨oc7, od7, .func (PySem.W.fnOf "with_blocks" "with_blocks" (defArgs s_with_blocks) (defBody s_with_blocks) (defScope s_with_blocks) .none kV7 dc7 pm7 an7 cd7 ct7), sl7⟩)
    (c7 : PySem.W.codeIn K cd7 "with_blocks" = true)
    (k7 : PySem.W.keepIn K (.ref f7) = true)
    (a8 : PySem.W.nsIn K mainGlobals "has_leaves" = some (some (.ref f8)))
    (l8 : K.lookup f8 = some ⟨oc8, od8, .func (PySem.W.fnOf "has_leaves" "has_leaves" (defArgs s_has_leaves) (defBody s_has_leaves) (defScope s_has_leaves) .none kV8 dc8 pm8 an8 cd8 ct8), sl8⟩)
    (c8 : PySem.W.codeIn K cd8 "has_leaves" = true)
    (k8 : PySem.W.keepIn K (.ref f8) = true)
    (a9 : PySem.W.nsIn K mainGlobals "has_head" = some (some (.ref f9)))
    (l9 : K.lookup f9 = some ⟨oc9, od9, .func (PySem.W.fnOf "has_head" "has_head" (defArgs s_has_head) (defBody s_has_head) (defScope s_has_head) .none kV9 dc9 pm9 an9 cd9 ct9), sl9⟩)
    (c9 : PySem.W.codeIn K cd9 "has_head" = true)
    (k9 : PySem.W.keepIn K (.ref f9) = true)
    (a10 : PySem.W.nsIn K mainGlobals "need_head" = some (some (.ref f10)))
    (l10 : K.lookup f10 = some ⟨oc10, od10, .func (PySem.W.fnOf "need_head" "need_head" (defArgs s_need_head) (defBody s_need_head) (defScope s_need_head) .none kV10 dc10 pm10 an10 cd10 ct10), sl10⟩)
    (c10 : PySem.W.codeIn K cd10 "need_head" = true)
    (k10 : PySem.W.keepIn K (.ref f10) = true)
    (a11 : PySem.W.nsIn K mainGlobals "journal_of" = some (some (.ref f11)))
    (l11 : K.lookup f11 = some ⟨oc11, od11, .func (PySem.W.fnOf "journal_of" "journal_of" (defArgs s_journal_of) (defBody s_journal_of) (defScope s_journal_of) .none kV11 dc11 pm11 an11 cd11 ct11), sl11⟩)
    (c11 : PySem.W.codeIn K cd11 "journal_of" = true)
    (k11 : PySem.W.keepIn K (.ref f11) = true)
    (a12 : PySem.W.nsIn K mainGlobals "first_leaf" = some (some (.ref f12)))
    (l12 : K.lookup f12 = some ⟨oc12, od12, .func (PySem.W.fnOf "first_leaf" "first_leaf" (defArgs s_first_leaf) (defBody s_first_leaf) (defScope s_first_leaf) .none kV12 dc12 pm12 an12 cd12 ct12), sl12⟩)
    (c12 : PySem.W.codeIn K cd12 "first_leaf" = true)
    (k12 : PySem.W.keepIn K (.ref f12) = true)
    (a13 : PySem.W.nsIn K mainGlobals "home_of" = some (some (.ref f13)))
    (l13 : K.lookup f13 = some ⟨oc13, od13, .func (PySem.W.fnOf "home_of" "home_of" (defArgs s_home_of) (defBody s_home_of) (defScope s_home_of) .none kV13 dc13 pm13 an13 cd13 ct13), sl13⟩)
    (c13 : PySem.W.codeIn K cd13 "home_of" = true)
    (k13 : PySem.W.keepIn K (.ref f13) = true)
    (a14 : PySem.W.nsIn K mainGlobals "with_home" = some (some (.ref f14)))
    (l14 : K.lookup f14 = some ⟨oc14, od14, .func (PySem.W.fnOf "with_home" "with_home" (defArgs s_with_home) (defBody s_with_home) (defScope s_with_home) .none kV14 dc14 pm14 an14 cd14 ct14), sl14⟩)
    (c14 : PySem.W.codeIn K cd14 "with_home" = true)
    (k14 : PySem.W.keepIn K (.ref f14) = true)
    (a15 : PySem.W.nsIn K mainGlobals "is_put" = some (some (.ref f15)))
    (l15 : K.lookup f15 = some ⟨oc15, od15, .func (PySem.W.fnOf "is_put" "is_put" (defArgs s_is_put) (defBody s_is_put) (defScope s_is_put) .none kV15 dc15 pm15 an15 cd15 ct15), sl15⟩)
    (c15 : PySem.W.codeIn K cd15 "is_put" = true)
    (k15 : PySem.W.keepIn K (.ref f15) = true)
    (a16 : PySem.W.nsIn K mainGlobals "is_end" = some (some (.ref f16)))
    (l16 : K.lookup f16 = some ⟨oc16, od16, .func (PySem.W.fnOf "is_end" "is_end" (defArgs s_is_end) (defBody s_is_end) (defScope s_is_end) .none kV16 dc16 pm16 an16 cd16 ct16), sl16⟩)
    (c16 : PySem.W.codeIn K cd16 "is_end" = true)
    (k16 : PySem.W.keepIn K (.ref f16) = true)
    (a17 : PySem.W.nsIn K mainGlobals "can_go_home" = some (some (.ref f17)))
    (l17 : K.lookup f17 = some ⟨oc17, od17, .func (PySem.W.fnOf "can_go_home" "can_go_home" (defArgs s_can_go_home) (defBody s_can_go_home) (defScope s_can_go_home) .none kV17 dc17 pm17 an17 cd17 ct17), sl17⟩)
    (c17 : PySem.W.codeIn K cd17 "can_go_home" = true)
    (k17 : PySem.W.keepIn K (.ref f17) = true)
    (a18 : PySem.W.nsIn K mainGlobals "whole_bundle" = some (some (.ref f18)))
    (l18 : K.lookup f18 = some ⟨oc18, od18, .func (PySem.W.fnOf "whole_bundle" "whole_bundle" (defArgs s_whole_bundle) (defBody s_whole_bundle) (defScope s_whole_bundle) .none kV18 dc18 pm18 an18 cd18 ct18), sl18⟩)
    (c18 : PySem.W.codeIn K cd18 "whole_bundle" = true)
    (k18 : PySem.W.keepIn K (.ref f18) = true)
    (a19 : PySem.W.nsIn K mainGlobals "brought_home" = some (some (.ref f19)))
    (l19 : K.lookup f19 = some ⟨oc19, od19, .func (PySem.W.fnOf "brought_home" "brought_home" (defArgs s_brought_home) (defBody s_brought_home) (defScope s_brought_home) .none kV19 dc19 pm19 an19 cd19 ct19), sl19⟩)
    (c19 : PySem.W.codeIn K cd19 "brought_home" = true)
    (k19 : PySem.W.keepIn K (.ref f19) = true)
    (a20 : PySem.W.nsIn K mainGlobals "put_home" = some (some (.ref f20)))
    (l20 : K.lookup f20 = some ⟨oc20, od20, .func (PySem.W.fnOf "put_home" "put_home" (defArgs s_put_home) (defBody s_put_home) (defScope s_put_home) .none kV20 dc20 pm20 an20 cd20 ct20), sl20⟩)
    (c20 : PySem.W.codeIn K cd20 "put_home" = true)
    (k20 : PySem.W.keepIn K (.ref f20) = true)
    (a21 : PySem.W.nsIn K mainGlobals "recovered" = some (some (.ref f21)))
    (l21 : K.lookup f21 = some ⟨oc21, od21, .func (PySem.W.fnOf "recovered" "recovered" (defArgs s_recovered) (defBody s_recovered) (defScope s_recovered) .none kV21 dc21 pm21 an21 cd21 ct21), sl21⟩)
    (c21 : PySem.W.codeIn K cd21 "recovered" = true)
    (k21 : PySem.W.keepIn K (.ref f21) = true)
    (a22 : PySem.W.nsIn K mainGlobals "_law_urn" = some (some (.ref f22)))
    (l22 : K.lookup f22 = some ⟨oc22, od22, .func (PySem.W.fnOf "_law_urn" "_law_urn" (defArgs s__law_urn) (defBody s__law_urn) (defScope s__law_urn) .none kV22 dc22 pm22 an22 cd22 ct22), sl22⟩)
    (c22 : PySem.W.codeIn K cd22 "_law_urn" = true)
    (k22 : PySem.W.keepIn K (.ref f22) = true)
    (a23 : PySem.W.nsIn K mainGlobals "_law_of" = some (some (.ref f23)))
    (l23 : K.lookup f23 = some ⟨oc23, od23, .func (PySem.W.fnOf "_law_of" "_law_of" (defArgs s__law_of) (defBody s__law_of) (defScope s__law_of) .none kV23 dc23 pm23 an23 cd23 ct23), sl23⟩)
    (c23 : PySem.W.codeIn K cd23 "_law_of" = true)
    (k23 : PySem.W.keepIn K (.ref f23) = true)
    (a24 : PySem.W.nsIn K mainGlobals "_law_one" = some (some (.ref f24)))
    (l24 : K.lookup f24 = some ⟨oc24, od24, .func (PySem.W.fnOf "_law_one" "_law_one" (defArgs s__law_one) (defBody s__law_one) (defScope s__law_one) .none kV24 dc24 pm24 an24 cd24 ct24), sl24⟩)
    (c24 : PySem.W.codeIn K cd24 "_law_one" = true)
    (k24 : PySem.W.keepIn K (.ref f24) = true)
    (a25 : PySem.W.nsIn K mainGlobals "_law_turned" = some (some (.ref f25)))
    (l25 : K.lookup f25 = some ⟨oc25, od25, .func (PySem.W.fnOf "_law_turned" "_law_turned" (defArgs s__law_turned) (defBody s__law_turned) (defScope s__law_turned) .none kV25 dc25 pm25 an25 cd25 ct25), sl25⟩)
    (c25 : PySem.W.codeIn K cd25 "_law_turned" = true)
    (k25 : PySem.W.keepIn K (.ref f25) = true)
    (a26 : PySem.W.nsIn K mainGlobals "_law_alike" = some (some (.ref f26)))
    (l26 : K.lookup f26 = some ⟨oc26, od26, .func (PySem.W.fnOf "_law_alike" "_law_alike" (defArgs s__law_alike) (defBody s__law_alike) (defScope s__law_alike) .none kV26 dc26 pm26 an26 cd26 ct26), sl26⟩)
    (c26 : PySem.W.codeIn K cd26 "_law_alike" = true)
    (k26 : PySem.W.keepIn K (.ref f26) = true)
    (a27 : PySem.W.nsIn K mainGlobals "_law_puts_of" = some (some (.ref f27)))
    (l27 : K.lookup f27 = some ⟨oc27, od27, .func (PySem.W.fnOf "_law_puts_of" "_law_puts_of" (defArgs s__law_puts_of) (defBody s__law_puts_of) (defScope s__law_puts_of) .none kV27 dc27 pm27 an27 cd27 ct27), sl27⟩)
    (c27 : PySem.W.codeIn K cd27 "_law_puts_of" = true)
    (k27 : PySem.W.keepIn K (.ref f27) = true)
    (a28 : PySem.W.nsIn K mainGlobals "_law_recovered" = some (some (.ref f28)))
    (l28 : K.lookup f28 = some ⟨oc28, od28, .func (PySem.W.fnOf "_law_recovered" "_law_recovered" (defArgs s__law_recovered) (defBody s__law_recovered) (defScope s__law_recovered) .none kV28 dc28 pm28 an28 cd28 ct28), sl28⟩)
    (c28 : PySem.W.codeIn K cd28 "_law_recovered" = true)
    (k28 : PySem.W.keepIn K (.ref f28) = true)
    (a29 : PySem.W.nsIn K mainGlobals "_law_block" = some (some (.ref f29)))
    (l29 : K.lookup f29 = some ⟨oc29, od29, .func (PySem.W.fnOf "_law_block" "_law_block" (defArgs s__law_block) (defBody s__law_block) (defScope s__law_block) .none kV29 dc29 pm29 an29 cd29 ct29), sl29⟩)
    (c29 : PySem.W.codeIn K cd29 "_law_block" = true)
    (k29 : PySem.W.keepIn K (.ref f29) = true)
    (a30 : PySem.W.nsIn K mainGlobals "_law_figures" = some (some (.ref f30)))
    (l30 : K.lookup f30 = some ⟨oc30, od30, .func (PySem.W.fnOf "_law_figures" "_law_figures" (defArgs s__law_figures) (defBody s__law_figures) (defScope s__law_figures) .none kV30 dc30 pm30 an30 cd30 ct30), sl30⟩)
    (c30 : PySem.W.codeIn K cd30 "_law_figures" = true)
    (k30 : PySem.W.keepIn K (.ref f30) = true)
    (a31 : PySem.W.nsIn K mainGlobals "_law_items" = some (some (.ref f31)))
    (l31 : K.lookup f31 = some ⟨oc31, od31, .func (PySem.W.fnOf "_law_items" "_law_items" (defArgs s__law_items) (defBody s__law_items) (defScope s__law_items) .none kV31 dc31 pm31 an31 cd31 ct31), sl31⟩)
    (c31 : PySem.W.codeIn K cd31 "_law_items" = true)
    (k31 : PySem.W.keepIn K (.ref f31) = true)
    (a32 : PySem.W.nsIn K mainGlobals "_law_drawn_drum" = some (some (.ref f32)))
    (l32 : K.lookup f32 = some ⟨oc32, od32, .func (PySem.W.fnOf "_law_drawn_drum" "_law_drawn_drum" (defArgs s__law_drawn_drum) (defBody s__law_drawn_drum) (defScope s__law_drawn_drum) .none kV32 dc32 pm32 an32 cd32 ct32), sl32⟩)
    (c32 : PySem.W.codeIn K cd32 "_law_drawn_drum" = true)
    (k32 : PySem.W.keepIn K (.ref f32) = true)
    (a33 : PySem.W.nsIn K mainGlobals "_law_refused" = some (some (.ref f33)))
    (l33 : K.lookup f33 = some ⟨oc33, od33, .func (PySem.W.fnOf "_law_refused" "_law_refused" (defArgs s__law_refused) (defBody s__law_refused) (defScope s__law_refused) .none kV33 dc33 pm33 an33 cd33 ct33), sl33⟩)
    (c33 : PySem.W.codeIn K cd33 "_law_refused" = true)
    (k33 : PySem.W.keepIn K (.ref f33) = true)
    (a34 : PySem.W.nsIn K mainGlobals "_law_right" = some (some (.ref f34)))
    (l34 : K.lookup f34 = some ⟨oc34, od34, .func (PySem.W.fnOf "_law_right" "_law_right" (defArgs s__law_right) (defBody s__law_right) (defScope s__law_right) .none kV34 dc34 pm34 an34 cd34 ct34), sl34⟩)
    (c34 : PySem.W.codeIn K cd34 "_law_right" = true)
    (k34 : PySem.W.keepIn K (.ref f34) = true)
    (a35 : PySem.W.nsIn K mainGlobals "law" = some (some (.ref f35)))
    (l35 : K.lookup f35 = some ⟨oc35, od35, .func (PySem.W.fnOf "law" "law" (defArgs s_law) (defBody s_law) (defScope s_law) .none kV35 dc35 pm35 an35 cd35 ct35), sl35⟩)
    (c35 : PySem.W.codeIn K cd35 "law" = true)
    (k35 : PySem.W.keepIn K (.ref f35) = true)
    (z_int : PySem.W.nsIn K mainGlobals "int" = some none)
    (z_isinstance : PySem.W.nsIn K mainGlobals "isinstance" = some none)
    (z_bool : PySem.W.nsIn K mainGlobals "bool" = some none)
    (z_tuple : PySem.W.nsIn K mainGlobals "tuple" = some none)
    (z_len : PySem.W.nsIn K mainGlobals "len" = some none)
    (z_all : PySem.W.nsIn K mainGlobals "all" = some none)
    (z_range : PySem.W.nsIn K mainGlobals "range" = some none)
    (z_list : PySem.W.nsIn K mainGlobals "list" = some none)
    (z_enumerate : PySem.W.nsIn K mainGlobals "enumerate" = some none)
    (z_dict : PySem.W.nsIn K mainGlobals "dict" = some none)
    (z_abs : PySem.W.nsIn K mainGlobals "abs" = some none)
    (z_max : PySem.W.nsIn K mainGlobals "max" = some none)
    (z_min : PySem.W.nsIn K mainGlobals "min" = some none)
    (z_set : PySem.W.nsIn K mainGlobals "set" = some none)
    (z_str : PySem.W.nsIn K mainGlobals "str" = some none)
    (z_zip : PySem.W.nsIn K mainGlobals "zip" = some none)
    (g_MOST_FIGURE : PySem.W.nsIn K mainGlobals "MOST_FIGURE" = some (some (.int 65535 t_MOST_FIGURE)))
    (g_MOST_IN_BLOCK : PySem.W.nsIn K mainGlobals "MOST_IN_BLOCK" = some (some (.int 64 t_MOST_IN_BLOCK)))
    (g_LEAST_BLOCKS : PySem.W.nsIn K mainGlobals "LEAST_BLOCKS" = some (some (.int 16 t_LEAST_BLOCKS)))
    (g_MOST_BLOCKS : PySem.W.nsIn K mainGlobals "MOST_BLOCKS" = some (some (.int 96 t_MOST_BLOCKS)))
    (g_FIRST_JOURNAL : PySem.W.nsIn K mainGlobals "FIRST_JOURNAL" = some (some (.int 6 t_FIRST_JOURNAL)))
    (g_LEAST_JOURNAL : PySem.W.nsIn K mainGlobals "LEAST_JOURNAL" = some (some (.int 4 t_LEAST_JOURNAL)))
    (g_MOST_JOURNAL : PySem.W.nsIn K mainGlobals "MOST_JOURNAL" = some (some (.int 40 t_MOST_JOURNAL)))
    (g_MOST_HOME : PySem.W.nsIn K mainGlobals "MOST_HOME" = some (some (.int 60000 t_MOST_HOME)))
    (g_PUT : PySem.W.nsIn K mainGlobals "PUT" = some (some (.int 2 t_PUT)))
    (g_END : PySem.W.nsIn K mainGlobals "END" = some (some (.int 3 t_END)))
    (g_IN_HEAD : PySem.W.nsIn K mainGlobals "IN_HEAD" = some (some (.int 3 t_IN_HEAD)))
    (g_MOST_PUT : PySem.W.nsIn K mainGlobals "MOST_PUT" = some (some (.int 60 t_MOST_PUT)))
    (aC_InvalidImage : PySem.W.nsIn K mainGlobals "InvalidImage" = some (some (.ref C_InvalidImage)))
    (qC_InvalidImage : PySem.W.excIn K C_InvalidImage [.type "ValueError", .type "Exception", .type "BaseException", .type "object"] "ValueError.__new__" = true)
    (kC_InvalidImage : PySem.W.keepIn K (.ref C_InvalidImage) = true)
    (eC_InvalidImage : PySem.W.subIn K (.ref C_InvalidImage) (.type "BaseException") = some true)
    (yC_InvalidImage : PySem.W.typeIn K (.ref C_InvalidImage) = some (.type "type"))
    (ic_InvalidImage : PySem.W.isClsIn K C_InvalidImage = true)
    (sC_InvalidImage : PySem.W.subIn K (.ref C_InvalidImage) (.ref C_InvalidImage) = some true)
    : ∃ fd : FuncData, (∀ (s : Shared) (v : Value), BindsTo s fd ⟨[v], []⟩ [("script", v)]) ∧ ∀ base : Heap, K.In base → base.Ns mainGlobals mg → FnOk P w K mg base CX0 11 fa fd ["script"] (spLaw K) := by
  have e := hfa.symm.trans (PySem.W.mg_of X G a35)
  cases e
  have F0 := fun_mk (st := s_is_from) l0 c0 k0
  have F1 := fun_mk (st := s_is_tuple) l1 c1 k1
  have F2 := fun_mk (st := s_is_figure) l2 c2 k2
  have F3 := fun_mk (st := s_is_block) l3 c3 k3
  have F4 := fun_mk (st := s_are_blocks) l4 c4 k4
  have F5 := fun_mk (st := s_need_blocks) l5 c5 k5
  have F6 := fun_mk (st := s_figure_at) l6 c6 k6
  have F7 := fun_mk (st := s_with_blocks) l7 c7 k7
  have F8 := fun_mk (st := s_has_leaves) l8 c8 k8
  have F9 := fun_mk (st := s_has_head) l9 c9 k9
  have F10 := fun_mk (st := s_need_head) l10 c10 k10
  have F11 := fun_mk (st := s_journal_of) l11 c11 k11
  have F12 := fun_mk (st := s_first_leaf) l12 c12 k12
  have F13 := fun_mk (st := s_home_of) l13 c13 k13
  have F14 := fun_mk (st := s_with_home) l14 c14 k14
  have F15 := fun_mk (st := s_is_put) l15 c15 k15
  have F16 := fun_mk (st := s_is_end) l16 c16 k16
  have F17 := fun_mk (st := s_can_go_home) l17 c17 k17
  have F18 := fun_mk (st := s_whole_bundle) l18 c18 k18
  have F19 := fun_mk (st := s_brought_home) l19 c19 k19
  have F20 := fun_mk (st := s_put_home) l20 c20 k20
  have F21 := fun_mk (st := s_recovered) l21 c21 k21
  have F22 := fun_mk (st := s__law_urn) l22 c22 k22
  have F23 := fun_mk (st := s__law_of) l23 c23 k23
  have F24 := fun_mk (st := s__law_one) l24 c24 k24
  have F25 := fun_mk (st := s__law_turned) l25 c25 k25
  have F26 := fun_mk (st := s__law_alike) l26 c26 k26
  have F27 := fun_mk (st := s__law_puts_of) l27 c27 k27
  have F28 := fun_mk (st := s__law_recovered) l28 c28 k28
  have F29 := fun_mk (st := s__law_block) l29 c29 k29
  have F30 := fun_mk (st := s__law_figures) l30 c30 k30
  have F31 := fun_mk (st := s__law_items) l31 c31 k31
  have F32 := fun_mk (st := s__law_drawn_drum) l32 c32 k32
  have F33 := fun_mk (st := s__law_refused) l33 c33 k33
  have F34 := fun_mk (st := s__law_right) l34 c34 k34
  have F35 := fun_mk (st := s_law) l35 c35 k35
  have T : Txt K mg (adr [f0, f1, f2, f3, f4, f5, f6, f7, f8, f9, f10, f11, f12, f13, f14, f15, f16, f17, f18, f19, f20, f21, f22, f23, f24, f25, f26, f27, f28, f29, f30, f31, f32, f33, f34, fa]) (fun i => [PySem.W.fnOf "is_from" "is_from" (defArgs s_is_from) (defBody s_is_from) (defScope s_is_from) .none kV0 dc0 pm0 an0 cd0 ct0, PySem.W.fnOf "is_tuple" "is_tuple" (defArgs s_is_tuple) (defBody s_is_tuple) (defScope s_is_tuple) .none kV1 dc1 pm1 an1 cd1 ct1, PySem.W.fnOf "is_figure" "is_figure" (defArgs s_is_figure) (defBody s_is_figure) (defScope s_is_figure) .none kV2 dc2 pm2 an2 cd2 ct2, PySem.W.fnOf "is_block" "is_block" (defArgs s_is_block) (defBody s_is_block) (defScope s_is_block) .none kV3 dc3 pm3 an3 cd3 ct3, PySem.W.fnOf "are_blocks" "are_blocks" (defArgs s_are_blocks) (defBody s_are_blocks) (defScope s_are_blocks) .none kV4 dc4 pm4 an4 cd4 ct4, PySem.W.fnOf "need_blocks" "need_blocks" (defArgs s_need_blocks) (defBody s_need_blocks) (defScope s_need_blocks) .none kV5 dc5 pm5 an5 cd5 ct5, PySem.W.fnOf "figure_at" "figure_at" (defArgs s_figure_at) (defBody s_figure_at) (defScope s_figure_at) .none kV6 dc6 pm6 an6 cd6 ct6, PySem.W.fnOf "with_blocks" "with_blocks" (defArgs s_with_blocks) (defBody s_with_blocks) (defScope s_with_blocks) .none kV7 dc7 pm7 an7 cd7 ct7, PySem.W.fnOf "has_leaves" "has_leaves" (defArgs s_has_leaves) (defBody s_has_leaves) (defScope s_has_leaves) .none kV8 dc8 pm8 an8 cd8 ct8, PySem.W.fnOf "has_head" "has_head" (defArgs s_has_head) (defBody s_has_head) (defScope s_has_head) .none kV9 dc9 pm9 an9 cd9 ct9, PySem.W.fnOf "need_head" "need_head" (defArgs s_need_head) (defBody s_need_head) (defScope s_need_head) .none kV10 dc10 pm10 an10 cd10 ct10, PySem.W.fnOf "journal_of" "journal_of" (defArgs s_journal_of) (defBody s_journal_of) (defScope s_journal_of) .none kV11 dc11 pm11 an11 cd11 ct11, PySem.W.fnOf "first_leaf" "first_leaf" (defArgs s_first_leaf) (defBody s_first_leaf) (defScope s_first_leaf) .none kV12 dc12 pm12 an12 cd12 ct12, PySem.W.fnOf "home_of" "home_of" (defArgs s_home_of) (defBody s_home_of) (defScope s_home_of) .none kV13 dc13 pm13 an13 cd13 ct13, PySem.W.fnOf "with_home" "with_home" (defArgs s_with_home) (defBody s_with_home) (defScope s_with_home) .none kV14 dc14 pm14 an14 cd14 ct14, PySem.W.fnOf "is_put" "is_put" (defArgs s_is_put) (defBody s_is_put) (defScope s_is_put) .none kV15 dc15 pm15 an15 cd15 ct15, PySem.W.fnOf "is_end" "is_end" (defArgs s_is_end) (defBody s_is_end) (defScope s_is_end) .none kV16 dc16 pm16 an16 cd16 ct16, PySem.W.fnOf "can_go_home" "can_go_home" (defArgs s_can_go_home) (defBody s_can_go_home) (defScope s_can_go_home) .none kV17 dc17 pm17 an17 cd17 ct17, PySem.W.fnOf "whole_bundle" "whole_bundle" (defArgs s_whole_bundle) (defBody s_whole_bundle) (defScope s_whole_bundle) .none kV18 dc18 pm18 an18 cd18 ct18, PySem.W.fnOf "brought_home" "brought_home" (defArgs s_brought_home) (defBody s_brought_home) (defScope s_brought_home) .none kV19 dc19 pm19 an19 cd19 ct19, PySem.W.fnOf "put_home" "put_home" (defArgs s_put_home) (defBody s_put_home) (defScope s_put_home) .none kV20 dc20 pm20 an20 cd20 ct20, PySem.W.fnOf "recovered" "recovered" (defArgs s_recovered) (defBody s_recovered) (defScope s_recovered) .none kV21 dc21 pm21 an21 cd21 ct21, PySem.W.fnOf "_law_urn" "_law_urn" (defArgs s__law_urn) (defBody s__law_urn) (defScope s__law_urn) .none kV22 dc22 pm22 an22 cd22 ct22, PySem.W.fnOf "_law_of" "_law_of" (defArgs s__law_of) (defBody s__law_of) (defScope s__law_of) .none kV23 dc23 pm23 an23 cd23 ct23, PySem.W.fnOf "_law_one" "_law_one" (defArgs s__law_one) (defBody s__law_one) (defScope s__law_one) .none kV24 dc24 pm24 an24 cd24 ct24, PySem.W.fnOf "_law_turned" "_law_turned" (defArgs s__law_turned) (defBody s__law_turned) (defScope s__law_turned) .none kV25 dc25 pm25 an25 cd25 ct25, PySem.W.fnOf "_law_alike" "_law_alike" (defArgs s__law_alike) (defBody s__law_alike) (defScope s__law_alike) .none kV26 dc26 pm26 an26 cd26 ct26, PySem.W.fnOf "_law_puts_of" "_law_puts_of" (defArgs s__law_puts_of) (defBody s__law_puts_of) (defScope s__law_puts_of) .none kV27 dc27 pm27 an27 cd27 ct27, PySem.W.fnOf "_law_recovered" "_law_recovered" (defArgs s__law_recovered) (defBody s__law_recovered) (defScope s__law_recovered) .none kV28 dc28 pm28 an28 cd28 ct28, PySem.W.fnOf "_law_block" "_law_block" (defArgs s__law_block) (defBody s__law_block) (defScope s__law_block) .none kV29 dc29 pm29 an29 cd29 ct29, PySem.W.fnOf "_law_figures" "_law_figures" (defArgs s__law_figures) (defBody s__law_figures) (defScope s__law_figures) .none kV30 dc30 pm30 an30 cd30 ct30, PySem.W.fnOf "_law_items" "_law_items" (defArgs s__law_items) (defBody s__law_items) (defScope s__law_items) .none kV31 dc31 pm31 an31 cd31 ct31, PySem.W.fnOf "_law_drawn_drum" "_law_drawn_drum" (defArgs s__law_drawn_drum) (defBody s__law_drawn_drum) (defScope s__law_drawn_drum) .none kV32 dc32 pm32 an32 cd32 ct32, PySem.W.fnOf "_law_refused" "_law_refused" (defArgs s__law_refused) (defBody s__law_refused) (defScope s__law_refused) .none kV33 dc33 pm33 an33 cd33 ct33, PySem.W.fnOf "_law_right" "_law_right" (defArgs s__law_right) (defBody s__law_right) (defScope s__law_right) .none kV34 dc34 pm34 an34 cd34 ct34, PySem.W.fnOf "law" "law" (defArgs s_law) (defBody s_law) (defScope s_law) .none kV35 dc35 pm35 an35 cd35 ct35].getD i (PySem.W.fnOf "is_from" "is_from" (defArgs s_is_from) (defBody s_is_from) (defScope s_is_from) .none kV0 dc0 pm0 an0 cd0 ct0)) :=
    { n_int := PySem.W.mg_none_of X G z_int,
      n_isinstance := PySem.W.mg_none_of X G z_isinstance,
      n_bool := PySem.W.mg_none_of X G z_bool,
      n_tuple := PySem.W.mg_none_of X G z_tuple,
      n_len := PySem.W.mg_none_of X G z_len,
      n_all := PySem.W.mg_none_of X G z_all,
      n_range := PySem.W.mg_none_of X G z_range,
      n_list := PySem.W.mg_none_of X G z_list,
      n_enumerate := PySem.W.mg_none_of X G z_enumerate,
      n_dict := PySem.W.mg_none_of X G z_dict,
      n_abs := PySem.W.mg_none_of X G z_abs,
      n_max := PySem.W.mg_none_of X G z_max,
      n_min := PySem.W.mg_none_of X G z_min,
      n_set := PySem.W.mg_none_of X G z_set,
      n_str := PySem.W.mg_none_of X G z_str,
      n_zip := PySem.W.mg_none_of X G z_zip,
      g_MOST_FIGURE := ⟨_, PySem.W.mg_of X G g_MOST_FIGURE⟩,
      g_MOST_IN_BLOCK := ⟨_, PySem.W.mg_of X G g_MOST_IN_BLOCK⟩,
      g_LEAST_BLOCKS := ⟨_, PySem.W.mg_of X G g_LEAST_BLOCKS⟩,
      g_MOST_BLOCKS := ⟨_, PySem.W.mg_of X G g_MOST_BLOCKS⟩,
      g_FIRST_JOURNAL := ⟨_, PySem.W.mg_of X G g_FIRST_JOURNAL⟩,
      g_LEAST_JOURNAL := ⟨_, PySem.W.mg_of X G g_LEAST_JOURNAL⟩,
      g_MOST_JOURNAL := ⟨_, PySem.W.mg_of X G g_MOST_JOURNAL⟩,
      g_MOST_HOME := ⟨_, PySem.W.mg_of X G g_MOST_HOME⟩,
      g_PUT := ⟨_, PySem.W.mg_of X G g_PUT⟩,
      g_END := ⟨_, PySem.W.mg_of X G g_END⟩,
      g_IN_HEAD := ⟨_, PySem.W.mg_of X G g_IN_HEAD⟩,
      g_MOST_PUT := ⟨_, PySem.W.mg_of X G g_MOST_PUT⟩,
      m_is_from := PySem.W.mg_of X G a0,
      F_is_from := F0,
      b_is_from := F0.binds (ps := ["value", "low", "high"]) fun _ _ _ _ _ _ us hl => match us, hl with | [_, _, _], _ => rfl,
      m_is_tuple := PySem.W.mg_of X G a1,
      F_is_tuple := F1,
      b_is_tuple := F1.binds (ps := ["value", "low", "high"]) fun _ _ _ _ _ _ us hl => match us, hl with | [_, _, _], _ => rfl,
      m_is_figure := PySem.W.mg_of X G a2,
      F_is_figure := F2,
      b_is_figure := F2.binds (ps := ["value"]) fun _ _ _ _ _ _ us hl => match us, hl with | [_], _ => rfl,
      m_is_block := PySem.W.mg_of X G a3,
      F_is_block := F3,
      b_is_block := F3.binds (ps := ["value"]) fun _ _ _ _ _ _ us hl => match us, hl with | [_], _ => rfl,
      m_are_blocks := PySem.W.mg_of X G a4,
      F_are_blocks := F4,
      b_are_blocks := F4.binds (ps := ["value"]) fun _ _ _ _ _ _ us hl => match us, hl with | [_], _ => rfl,
      m_need_blocks := PySem.W.mg_of X G a5,
      F_need_blocks := F5,
      b_need_blocks := F5.binds (ps := ["image"]) fun _ _ _ _ _ _ us hl => match us, hl with | [_], _ => rfl,
      m_figure_at := PySem.W.mg_of X G a6,
      F_figure_at := F6,
      b_figure_at := F6.binds (ps := ["block", "index"]) fun _ _ _ _ _ _ us hl => match us, hl with | [_, _], _ => rfl,
      m_with_blocks := PySem.W.mg_of X G a7,
      F_with_blocks := F7,
      b_with_blocks := F7.binds (ps := ["image", "blocks"]) fun _ _ _ _ _ _ us hl => match us, hl with | [_, _], _ => rfl,
      m_has_leaves := PySem.W.mg_of X G a8,
      F_has_leaves := F8,
      b_has_leaves := F8.binds (ps := ["many", "journal"]) fun _ _ _ _ _ _ us hl => match us, hl with | [_, _], _ => rfl,
      m_has_head := PySem.W.mg_of X G a9,
      F_has_head := F9,
      b_has_head := F9.binds (ps := ["image"]) fun _ _ _ _ _ _ us hl => match us, hl with | [_], _ => rfl,
      m_need_head := PySem.W.mg_of X G a10,
      F_need_head := F10,
      b_need_head := F10.binds (ps := ["image"]) fun _ _ _ _ _ _ us hl => match us, hl with | [_], _ => rfl,
      m_journal_of := PySem.W.mg_of X G a11,
      F_journal_of := F11,
      b_journal_of := F11.binds (ps := ["image"]) fun _ _ _ _ _ _ us hl => match us, hl with | [_], _ => rfl,
      m_first_leaf := PySem.W.mg_of X G a12,
      F_first_leaf := F12,
      b_first_leaf := F12.binds (ps := ["image"]) fun _ _ _ _ _ _ us hl => match us, hl with | [_], _ => rfl,
      m_home_of := PySem.W.mg_of X G a13,
      F_home_of := F13,
      b_home_of := F13.binds (ps := ["image"]) fun _ _ _ _ _ _ us hl => match us, hl with | [_], _ => rfl,
      m_with_home := PySem.W.mg_of X G a14,
      F_with_home := F14,
      b_with_home := F14.binds (ps := ["image", "number"]) fun _ _ _ _ _ _ us hl => match us, hl with | [_, _], _ => rfl,
      m_is_put := PySem.W.mg_of X G a15,
      F_is_put := F15,
      b_is_put := F15.binds (ps := ["block"]) fun _ _ _ _ _ _ us hl => match us, hl with | [_], _ => rfl,
      m_is_end := PySem.W.mg_of X G a16,
      F_is_end := F16,
      b_is_end := F16.binds (ps := ["block"]) fun _ _ _ _ _ _ us hl => match us, hl with | [_], _ => rfl,
      m_can_go_home := PySem.W.mg_of X G a17,
      F_can_go_home := F17,
      b_can_go_home := F17.binds (ps := ["image", "at"]) fun _ _ _ _ _ _ us hl => match us, hl with | [_, _], _ => rfl,
      m_whole_bundle := PySem.W.mg_of X G a18,
      F_whole_bundle := F18,
      b_whole_bundle := F18.binds (ps := ["image", "number"]) fun _ _ _ _ _ _ us hl => match us, hl with | [_, _], _ => rfl,
      m_brought_home := PySem.W.mg_of X G a19,
      F_brought_home := F19,
      b_brought_home := F19.binds (ps := ["image"]) fun _ _ _ _ _ _ us hl => match us, hl with | [_], _ => rfl,
      m_put_home := PySem.W.mg_of X G a20,
      F_put_home := F20,
      b_put_home := F20.binds (ps := ["image"]) fun _ _ _ _ _ _ us hl => match us, hl with | [_], _ => rfl,
      m_recovered := PySem.W.mg_of X G a21,
      F_recovered := F21,
      b_recovered := F21.binds (ps := ["image"]) fun _ _ _ _ _ _ us hl => match us, hl with | [_], _ => rfl,
      m__law_urn := PySem.W.mg_of X G a22,
      F__law_urn := F22,
      b__law_urn := F22.binds (ps := ["script", "k"]) fun _ _ _ _ _ _ us hl => match us, hl with | [_, _], _ => rfl,
      m__law_of := PySem.W.mg_of X G a23,
      F__law_of := F23,
      b__law_of := F23.binds (ps := ["urn", "many"]) fun _ _ _ _ _ _ us hl => match us, hl with | [_, _], _ => rfl,
      m__law_one := PySem.W.mg_of X G a24,
      F__law_one := F24,
      b__law_one := F24.binds (ps := ["urn", "some"]) fun _ _ _ _ _ _ us hl => match us, hl with | [_, _], _ => rfl,
      m__law_turned := PySem.W.mg_of X G a25,
      F__law_turned := F25,
      b__law_turned := F25.binds (ps := ["urn", "some"]) fun _ _ _ _ _ _ us hl => match us, hl with | [_, _], _ => rfl,
      m__law_alike := PySem.W.mg_of X G a26,
      F__law_alike := F26,
      b__law_alike := F26.binds (ps := ["one", "due"]) fun _ _ _ _ _ _ us hl => match us, hl with | [_, _], _ => rfl,
      m__law_puts_of := PySem.W.mg_of X G a27,
      F__law_puts_of := F27,
      b__law_puts_of := F27.binds (ps := ["image", "bundle"]) fun _ _ _ _ _ _ us hl => match us, hl with | [_, _], _ => rfl,
      m__law_recovered := PySem.W.mg_of X G a28,
      F__law_recovered := F28,
      b__law_recovered := F28.binds (ps := ["image"]) fun _ _ _ _ _ _ us hl => match us, hl with | [_], _ => rfl,
      m__law_block := PySem.W.mg_of X G a29,
      F__law_block := F29,
      b__law_block := F29.binds (ps := ["figures"]) fun _ _ _ _ _ _ us hl => match us, hl with | [_], _ => rfl,
      m__law_figures := PySem.W.mg_of X G a30,
      F__law_figures := F30,
      b__law_figures := F30.binds (ps := ["block", "many"]) fun _ _ _ _ _ _ us hl => match us, hl with | [_, _], _ => rfl,
      m__law_items := PySem.W.mg_of X G a31,
      F__law_items := F31,
      b__law_items := F31.binds (ps := ["urn", "bundle", "many", "first"]) fun _ _ _ _ _ _ us hl => match us, hl with | [_, _, _, _], _ => rfl,
      m__law_drawn_drum := PySem.W.mg_of X G a32,
      F__law_drawn_drum := F32,
      b__law_drawn_drum := F32.binds (ps := ["urn"]) fun _ _ _ _ _ _ us hl => match us, hl with | [_], _ => rfl,
      m__law_refused := PySem.W.mg_of X G a33,
      F__law_refused := F33,
      b__law_refused := F33.binds (ps := ["image"]) fun _ _ _ _ _ _ us hl => match us, hl with | [_], _ => rfl,
      m__law_right := PySem.W.mg_of X G a34,
      F__law_right := F34,
      b__law_right := F34.binds (ps := ["urn"]) fun _ _ _ _ _ _ us hl => match us, hl with | [_], _ => rfl,
      m_law := PySem.W.mg_of X G a35,
      F_law := F35,
      b_law := F35.binds (ps := ["script"]) fun _ _ _ _ _ _ us hl => match us, hl with | [_], _ => rfl }
  have X_InvalidImage : Exc_InvalidImage K mg C_InvalidImage := { q := qC_InvalidImage, gC := PySem.W.mg_of X G aC_InvalidImage, kC := kC_InvalidImage, bC := eC_InvalidImage, tC := yC_InvalidImage, te := exm_one eC_InvalidImage ic_InvalidImage yC_InvalidImage sC_InvalidImage }
  exact ⟨PySem.W.fnOf "law" "law" (defArgs s_law) (defBody s_law) (defScope s_law) .none kV35 dc35 pm35 an35 cd35 ct35, fun s v => .of_eq rfl, fun base _ _ => ok_law T X_InvalidImage⟩
theorem walk {l : PySem.W.OpenLaw} {q : Program} {loose : List Str} {XP : (Str → Option Value) → Heap → Prop} {YP : World → Heap → Prop} {d : DefRec} {K : Params → PySem.W.Frag} (hn : l.most = some 63) (hdf : d.params.defaults = [])
    (hY : ∀ (w : World) (h : Heap), YP w h → (K w.params).In h)
    (F : ∀ (w : World) (mg : Str → Option Value) (fa : Addr) (h : Heap), (K w.params).In h → h.Ns mainGlobals mg → mg d.name = some (.ref fa) →
      ∃ fd : FuncData, (∀ (s : Shared) (u : Value), BindsTo s fd ⟨[u], []⟩ [("script", u)]) ∧ ∀ base : Heap, (K w.params).In base → base.Ns mainGlobals mg → FnOk l.prog w (K w.params) mg base CX0 11 fa fd ["script"] (spLaw (K w.params))) :
    PySem.W.WalkO q loose XP YP l.row.toRowW d [] (fun f vs => PySem.call f vs) :=
  L2.walk_of (n := 63) (k := 11) (x := "script") (CX := fun _ => CX0) (sp := fun w => spLaw (K w.params)) hn (by decide) hdf ⟨rfl, by decide, by decide⟩ hY F (fun _ _ a ns hl _ hS => ⟨a, ns, rfl, hS, hl, fun _ => rfl⟩) fun _ _ _ _ _ z => z
end B80
open PySem PySem.W PyProof.Rows in
set_option maxRecDepth 100000 in
set_option maxHeartbeats 0 in
theorem PySem.Challenge.cw_tasksapart_k80_drums_recovered_holds : PySem.Challenge.rw_tasksapart_k80_drums_recovered.Holds := by
  w_on; o_law; k_head; (case hw => w_witness2)
  k_fill
  refine B80.walk (l := PySem.Challenge.rw_tasksapart_k80_drums_recovered) rfl rfl (fun w h Y => PySem.W.kIn_of Y) ?F
  case F =>
    intro w mg fa h KX G hmg
    refine' B80.all_mk KX G hmg ?a0 ?l0 ?c0 ?k0 ?a1 ?l1 ?c1 ?k1 ?a2 ?l2 ?c2 ?k2 ?a3 ?l3 ?c3 ?k3 ?a4 ?l4 ?c4 ?k4 ?a5 ?l5 ?c5 ?k5 ?a6 ?l6 ?c6 ?k6 ?a7 ?l7 ?c7 ?k7 ?a8 ?l8 ?c8 ?k8 ?a9 ?l9 ?c9 ?k9 ?a10 ?l10 ?c10 ?k10 ?a11 ?l11 ?c11 ?k11 ?a12 ?l12 ?c12 ?k12 ?a13 ?l13 ?c13 ?k13 ?a14 ?l14 ?c14 ?k14 ?a15 ?l15 ?c15 ?k15 ?a16 ?l16 ?c16 ?k16 ?a17 ?l17 ?c17 ?k17 ?a18 ?l18 ?c18 ?k18 ?a19 ?l19 ?c19 ?k19 ?a20 ?l20 ?c20 ?k20 ?a21 ?l21 ?c21 ?k21 ?a22 ?l22 ?c22 ?k22 ?a23 ?l23 ?c23 ?k23 ?a24 ?l24 ?c24 ?k24 ?a25 ?l25 ?c25 ?k25 ?a26 ?l26 ?c26 ?k26 ?a27 ?l27 ?c27 ?k27 ?a28 ?l28 ?c28 ?k28 ?a29 ?l29 ?c29 ?k29 ?a30 ?l30 ?c30 ?k30 ?a31 ?l31 ?c31 ?k31 ?a32 ?l32 ?c32 ?k32 ?a33 ?l33 ?c33 ?k33 ?a34 ?l34 ?c34 ?k34 ?a35 ?l35 ?c35 ?k35 ?z_int ?z_isinstance ?z_bool ?z_tuple ?z_len ?z_all ?z_range ?z_list ?z_enumerate ?z_dict ?z_abs ?z_max ?z_min ?z_set ?z_str ?z_zip ?g_MOST_FIGURE ?g_MOST_IN_BLOCK ?g_LEAST_BLOCKS ?g_MOST_BLOCKS ?g_FIRST_JOURNAL ?g_LEAST_JOURNAL ?g_MOST_JOURNAL ?g_MOST_HOME ?g_PUT ?g_END ?g_IN_HEAD ?g_MOST_PUT ?aC_InvalidImage ?qC_InvalidImage ?kC_InvalidImage ?eC_InvalidImage ?yC_InvalidImage ?ic_InvalidImage ?sC_InvalidImage
    (case a0 => k_is)
    (case l0 => k_is)
    (case c0 => k_is)
    (case k0 => k_is)
    (case a1 => k_is)
    (case l1 => k_is)
    (case c1 => k_is)
    (case k1 => k_is)
    (case a2 => k_is)
    (case l2 => k_is)
    (case c2 => k_is)
    (case k2 => k_is)
    (case a3 => k_is)
    (case l3 => k_is)
    (case c3 => k_is)
    (case k3 => k_is)
    (case a4 => k_is)
    (case l4 => k_is)
    (case c4 => k_is)
    (case k4 => k_is)
    (case a5 => k_is)
    (case l5 => k_is)
    (case c5 => k_is)
    (case k5 => k_is)
    (case a6 => k_is)
    (case l6 => k_is)
    (case c6 => k_is)
    (case k6 => k_is)
    (case a7 => k_is)
    (case l7 => k_is)
    (case c7 => k_is)
    (case k7 => k_is)
    (case a8 => k_is)
    (case l8 => k_is)
    (case c8 => k_is)
    (case k8 => k_is)
    (case a9 => k_is)
    (case l9 => k_is)
    (case c9 => k_is)
    (case k9 => k_is)
    (case a10 => k_is)
    (case l10 => k_is)
    (case c10 => k_is)
    (case k10 => k_is)
    (case a11 => k_is)
    (case l11 => k_is)
    (case c11 => k_is)
    (case k11 => k_is)
    (case a12 => k_is)
    (case l12 => k_is)
    (case c12 => k_is)
    (case k12 => k_is)
    (case a13 => k_is)
    (case l13 => k_is)
    (case c13 => k_is)
    (case k13 => k_is)
    (case a14 => k_is)
    (case l14 => k_is)
    (case c14 => k_is)
    (case k14 => k_is)
    (case a15 => k_is)
    (case l15 => k_is)
    (case c15 => k_is)
    (case k15 => k_is)
    (case a16 => k_is)
    (case l16 => k_is)
    (case c16 => k_is)
    (case k16 => k_is)
    (case a17 => k_is)
    (case l17 => k_is)
    (case c17 => k_is)
    (case k17 => k_is)
    (case a18 => k_is)
    (case l18 => k_is)
    (case c18 => k_is)
    (case k18 => k_is)
    (case a19 => k_is)
    (case l19 => k_is)
    (case c19 => k_is)
    (case k19 => k_is)
    (case a20 => k_is)
    (case l20 => k_is)
    (case c20 => k_is)
    (case k20 => k_is)
    (case a21 => k_is)
    (case l21 => k_is)
    (case c21 => k_is)
    (case k21 => k_is)
    (case a22 => k_is)
    (case l22 => k_is)
    (case c22 => k_is)
    (case k22 => k_is)
    (case a23 => k_is)
    (case l23 => k_is)
    (case c23 => k_is)
    (case k23 => k_is)
    (case a24 => k_is)
    (case l24 => k_is)
    (case c24 => k_is)
    (case k24 => k_is)
    (case a25 => k_is)
    (case l25 => k_is)
    (case c25 => k_is)
    (case k25 => k_is)
    (case a26 => k_is)
    (case l26 => k_is)
    (case c26 => k_is)
    (case k26 => k_is)
    (case a27 => k_is)
    (case l27 => k_is)
    (case c27 => k_is)
    (case k27 => k_is)
    (case a28 => k_is)
    (case l28 => k_is)
    (case c28 => k_is)
    (case k28 => k_is)
    (case a29 => k_is)
    (case l29 => k_is)
    (case c29 => k_is)
    (case k29 => k_is)
    (case a30 => k_is)
    (case l30 => k_is)
    (case c30 => k_is)
    (case k30 => k_is)
    (case a31 => k_is)
    (case l31 => k_is)
    (case c31 => k_is)
    (case k31 => k_is)
    (case a32 => k_is)
    (case l32 => k_is)
    (case c32 => k_is)
    (case k32 => k_is)
    (case a33 => k_is)
    (case l33 => k_is)
    (case c33 => k_is)
    (case k33 => k_is)
    (case a34 => k_is)
    (case l34 => k_is)
    (case c34 => k_is)
    (case k34 => k_is)
    (case a35 => k_is)
    (case l35 => k_is)
    (case c35 => k_is)
    (case k35 => k_is)
    (case z_int => k_is)
    (case z_isinstance => k_is)
    (case z_bool => k_is)
    (case z_tuple => k_is)
    (case z_len => k_is)
    (case z_all => k_is)
    (case z_range => k_is)
    (case z_list => k_is)
    (case z_enumerate => k_is)
    (case z_dict => k_is)
    (case z_abs => k_is)
    (case z_max => k_is)
    (case z_min => k_is)
    (case z_set => k_is)
    (case z_str => k_is)
    (case z_zip => k_is)
    (case g_MOST_FIGURE => k_is)
    (case g_MOST_IN_BLOCK => k_is)
    (case g_LEAST_BLOCKS => k_is)
    (case g_MOST_BLOCKS => k_is)
    (case g_FIRST_JOURNAL => k_is)
    (case g_LEAST_JOURNAL => k_is)
    (case g_MOST_JOURNAL => k_is)
    (case g_MOST_HOME => k_is)
    (case g_PUT => k_is)
    (case g_END => k_is)
    (case g_IN_HEAD => k_is)
    (case g_MOST_PUT => k_is)
    (case aC_InvalidImage => k_is)
    (case qC_InvalidImage => k_exc)
    (case kC_InvalidImage => k_is)
    (case eC_InvalidImage => k_is)
    (case yC_InvalidImage => k_is)
    (case ic_InvalidImage => k_is)
    (case sC_InvalidImage => first | rfl | k_is)
