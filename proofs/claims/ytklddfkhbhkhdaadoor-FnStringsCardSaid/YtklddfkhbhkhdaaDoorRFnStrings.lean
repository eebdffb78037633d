/- The law FnStrings: for every input the call answers true and leaves its arguments as they were. -/
import Derived.Test.YtklddfkhbhkhdaaDoorC0
import Derived.Test.YtklddfkhbhkhdaaDoorCwWords
import Derived.Test.YtklddfkhbhkhdaaDoorCwLast
import Derived.Test.YtklddfkhbhkhdaaDoorCwTab
import Derived.Test.YtklddfkhbhkhdaaDoorCwApart
import Derived.Test.YtklddfkhbhkhdaaDoorCwFoot
import Derived.Test.YtklddfkhbhkhdaaDoorCwKept
import Derived.Test.YtklddfkhbhkhdaaDoorCwShare
import Derived.Test.YtklddfkhbhkhdaaDoorCwN
import Derived.Test.YtklddfkhbhkhdaaDoorCwRepsOne
import Derived.Test.YtklddfkhbhkhdaaDoorCwMore
import Derived.Test.YtklddfkhbhkhdaaDoorProg
import Derived.Below
import Derived.Deep.Draws
import Derived.Deep.AppendLies
import Derived.Maps.AppendAt
import Derived.OwnWalk
import Derived.Laws.BytesArg
import Derived.Laws.MakeOwn
import Derived.Laws.OwnMore
import Derived.Deep.OwnRows
import Derived.Tactics
import Derived.Lib.ConvBytes
import Derived.Laws.Slices
import Derived.WalkKit
import Derived.KernelRfl
import Derived.RowKit3
import Derived.Deep.LoopGhost
import Derived.Deep.QuietTactic
import Derived.BigQuiet
import Derived.WideLaws
import Derived.Deep.DeepCutAuto
import Derived.Deep.CutBlock
import Derived.Deep.RegionHeld3
import Derived.Laws.Rows
import Derived.Lib.AppendStr
import Derived.ArgAppend
import Derived.Laws.IdiomCopy
import Derived.OrdersHeld
import Derived.Laws.BitsLemmas
import Derived.RowKit
import Derived.Lib.OwnBridge
import Derived.Sort.OwnSorted
import Derived.Sort.Grow
import Derived.Lib.SlicesCompact
import Derived.Lib.AtoiTie
import Derived.Lib.ItoaLen
import Derived.Lib.ItoaMem
import Derived.Shelf.Strconv.Itoa3
import Derived.Lib.AppendIntMem
import Derived.Lib.ItoaNum
import Derived.Lib.LaidTab
import Derived.Lib.SmallJoins
import Derived.Ground.NamesProg
import Derived.Ground.SlgfProg
import Derived.Lib.Strings
import Derived.Lib.AtoiAllCases
import Derived.Lib.AtoiErrMem
import Derived.Lib.AtoiOr
import Derived.WalkSmall
import Derived.Shelf.Strconv.ErrVarAll
import Derived.Lib.IndexLaws
import Derived.Shelf.Strings.Search3
import Derived.Lib.SplitLaws
import Derived.Shelf.Strings.SplitShaped
import Derived.Shelf.Strings.Shaped
import Derived.Laws.IdiomStrings
import Derived.ChangeSlices
import Derived.ChangeSame
import Derived.ChangeArms
import Derived.WideShapes
import Derived.SizedLaws
import Derived.Shelf.Vars
import Derived.Test.YtklddfkhbhkhdaaDoorRows
import Derived.Stop.LaidErr
import Derived.Test.YtklddfkhbhkhdaaDoorTie
import Derived.Test.YtklddfkhbhkhdaaDoorCards
import Derived.ProofKit
import Derived.OpenShut
import Derived.ShutString
import Derived.ChangeOld
import Derived.Carry
import Derived.LaidMore
import Derived.Lay
import Derived.SevenTiedAt
import Derived.Stop.Joined
set_option linter.unusedVariables false
set_option linter.unusedSimpArgs false
namespace Go.Proofs.YtklddfkhbhkhdaaDoor.Q
open Go.RowKit Go.Proofs.YtklddfkhbhkhdaaDoorW.PrintWords Go.Proofs.YtklddfkhbhkhdaaDoorW.PrintLast
set_option linter.unusedVariables false
theorem drawFormat_ok {l0 : List Int} (hb : Bytes l0) : ∃ n, spec_DrawFormatInt.f l0 = some n := by
  obtain ⟨r, s1, z1, e1, r0, r1, a0, a1⟩ := pick_ok hb (s := 0) (by omega) (by omega) 0 1000 (by omega) (by omega)
  obtain ⟨q, s2, z2, e2, q0, q1, b0, b1⟩ := pick_ok hb a0 (by omega) z1 9 (by omega) (by omega)
  unfold spec_DrawFormatInt.f
  rw [e1, Option.bind_some]
  simp only
  rw [if_pos (show 0 ≤ r ∧ r ≤ 999 by omega)]
  have e3 : spec_l1Cur_among.f l0 s1 z1 (fmts (r - 500)) = some (rd (fmts (r - 500)) q, s2, z2) := by
    unfold spec_l1Cur_among.f
    have hl : ((fmts (r - 500)).length : Int) = 9 := rfl
    rw [hl, e2, Option.bind_some]
    simp only
    rw [if_pos q0, if_pos q1]
  rw [e3]
  exact ⟨_, rfl⟩
theorem drawParse_ok {l0 : List Int} (hb : Bytes l0) : ∃ t, Ev (fun k => spec_DrawParseInt.f k l0) t ∧ t.size ≤ 30 := by
  obtain ⟨b, s1, z1, e1, a0, a1⟩ := one_ok hb (s := 0) (by omega) (by omega) 0 2 (by omega) (by omega)
  unfold spec_DrawParseInt.f
  cases b with
  | true =>
    obtain ⟨r, s2, z2, e2, hm, _⟩ := of_ok hb a0 (by omega) z1 prs (by decide) (by decide)
    have hz : ∀ x ∈ prs, x.size ≤ 30 := by decide
    refine ⟨r, Ev.bindc e1 (Ev.pos rfl (Ev.bindc e2 (Ev.pure _))), hz r hm⟩
  | false =>
    obtain ⟨u, s2, z2, e2, u0, u1, _⟩ := pick_ok hb a0 (by omega) z1 2000 (by omega) (by omega)
    have hz := itoaB_size (u - 1000) (by omega) (by omega)
    refine ⟨itoaB (u - 1000), Ev.bindc e1 (Ev.neg (by simp) (Ev.bindc e2 (Ev.pos (by constructor <;> (simp only; omega)) (num_ev (u - 1000) (by omega) (by omega))))), by omega⟩
theorem drawApp_ok {l0 : List Int} (hb : Bytes l0) : ∃ x, spec_DrawAppendChecksum.f l0 = some x ∧ x.size ≤ 5000 := by
  obtain ⟨b, s1, z1, e1, a0, a1⟩ := one_ok hb (s := 0) (by omega) (by omega) 0 20 (by omega) (by omega)
  unfold spec_DrawAppendChecksum.f
  rw [e1, Option.bind_some]
  cases b with
  | true =>
    obtain ⟨u, s2, z2, e2, u0, u1, _⟩ := pick_ok hb a0 (by omega) z1 10 (by omega) (by omega)
    rw [if_pos rfl]
    simp only
    rw [e2, Option.bind_some]
    simp only
    rw [if_pos (show 0 ≤ u ∧ u ≤ 9 by omega)]
    exact ⟨_, rfl, by rw [zeros_size]; omega⟩
  | false =>
    obtain ⟨r, s2, z2, e2, h10, _⟩ := any1_ok hb a0 (by omega) z1
    rw [if_neg (by simp)]
    simp only
    rw [e2, Option.bind_some]
    exact ⟨r, rfl, by omega⟩
theorem vAt_ok {l0 : List Int} (hb : Bytes l0) (hl : l0.length ≤ 65536) (i : Int) (h0 : 0 ≤ i) (h1 : i ≤ 10) : ∃ c, laws_vAt.f l0 i = some c ∧ 0 ≤ c ∧ c ≤ 255 := by
  unfold laws_vAt.f
  by_cases h : i < (l0.length : Int)
  · obtain ⟨n, rfl⟩ : ∃ n : Nat, i = (n : Int) := ⟨i.toNat, by omega⟩
    have hn : n < l0.length := by omega
    have e : rd l0 (n : Int) = l0[n] := by simp [rd, hn]
    have hh := hb _ (List.getElem_mem hn)
    have ew : wrap64 l0[n] = l0[n] := by unfold wrap64; omega
    rw [if_pos h, if_pos h0, e, ew]
    exact ⟨_, rfl, hh.1, hh.2⟩
  · have ew : wrap64 (wrap64 (i * 7) + (l0.length : Int)) = i * 7 + (l0.length : Int) := by unfold wrap64; omega
    rw [if_neg h, ew, Int.tmod_eq_emod_of_nonneg (by omega)]
    exact ⟨_, rfl, by omega, by omega⟩
theorem xor_ok (a e : Int) (a0 : 0 ≤ a) (a1 : a ≤ 255) (e0 : 1 ≤ e) (e1 : e ≤ 255) : 0 ≤ Go.bits .xor .u8 a e ∧ Go.bits .xor .u8 a e ≤ 255 ∧ Go.bits .xor .u8 a e ≠ a := by
  have h : Go.bits .xor .u8 a e = IntKind.u8.wrap (((BitVec.ofInt IntKind.u8.bits a) ^^^ (BitVec.ofInt IntKind.u8.bits e)).toNat : Int) := rfl
  have hA : (BitVec.ofInt IntKind.u8.bits a).toNat = a.toNat := by
    rw [BitVec.toNat_ofInt]
    show (a % (2 ^ 8 : Nat)).toNat = _
    rw [Int.emod_eq_of_lt a0 (by omega)]
  have hE : (BitVec.ofInt IntKind.u8.bits e).toNat = e.toNat := by
    rw [BitVec.toNat_ofInt]
    show (e % (2 ^ 8 : Nat)).toNat = _
    rw [Int.emod_eq_of_lt (by omega) (by omega)]
  have hl : ((BitVec.ofInt IntKind.u8.bits a) ^^^ (BitVec.ofInt IntKind.u8.bits e)).toNat < 256 := BitVec.isLt _
  have hne : ((BitVec.ofInt IntKind.u8.bits a) ^^^ (BitVec.ofInt IntKind.u8.bits e)).toNat ≠ a.toNat := by
    intro hh
    rw [← hA] at hh
    have h2 := BitVec.eq_of_toNat_eq hh
    have h3 : (BitVec.ofInt IntKind.u8.bits a) ^^^ ((BitVec.ofInt IntKind.u8.bits a) ^^^ (BitVec.ofInt IntKind.u8.bits e)) = (BitVec.ofInt IntKind.u8.bits a) ^^^ (BitVec.ofInt IntKind.u8.bits a) := by rw [h2]
    rw [← BitVec.xor_assoc, BitVec.xor_self, BitVec.zero_xor] at h3
    rw [h3] at hE
    simp at hE
    omega
  rw [h]
  generalize ((BitVec.ofInt IntKind.u8.bits a) ^^^ (BitVec.ofInt IntKind.u8.bits e)).toNat = n at hl hne
  have e2 : IntKind.u8.wrap (n : Int) = (n : Int) := by
    have : IntKind.u8.wrap (n : Int) = (n : Int) % 256 := rfl
    rw [this]
    omega
  rw [e2]
  omega
theorem format_own {n : Int} {r : ByteArray × Bool} (h : impl_FormatInt.f n = some r) : r.1.size ≤ 30 ∧ (r.2 = true → Own r.1 n) := by
  unfold impl_FormatInt.f impl_in.f strconv_Itoa.f at h
  by_cases h0 : n ≥ -999999
  · by_cases h1 : n ≤ 999999
    · rw [if_pos h0, decide_eq_true h1, Option.bind_some, if_pos rfl, if_pos ⟨by omega, by omega⟩, Option.bind_some] at h
      cases h
      exact ⟨by have := itoaB_size n (by omega) (by omega); simp only; omega, fun _ => ⟨h0, h1, rfl⟩⟩
    · rw [if_pos h0, decide_eq_false h1, Option.bind_some, if_neg (by decide)] at h
      cases h
      exact ⟨by decide, fun h => by cases h⟩
  · rw [if_neg h0, Option.bind_some, if_neg (by decide)] at h
    cases h
    exact ⟨by decide, fun h => by cases h⟩
theorem seal_ok {l0 : List Int} (hb : Bytes l0) (hl : l0.length ≤ 65536) (x : ByteArray) (hx : (35 : UInt8) ∉ lw x) (hs : (sealB x (sumI 7 (lw x))).size ≤ 4000) : ∃ c9 c10 q e v y2 z K, ∀ k, K ≤ k → Seal k l0 x (sealB x (sumI 7 (lw x))) c9 c10 q e v y2 z := by
  obtain ⟨c9, a9, n0, n1⟩ := vAt_ok hb hl 9 (by omega) (by omega)
  obtain ⟨c10, a10, t0, t1⟩ := vAt_ok hb hl 10 (by omega) (by omega)
  have hlist := seal_list x
  have hlen : (sealL (lw x)).length = (sealB x (sumI 7 (lw x))).size := by rw [← hlist, lw_length]
  have hp : 0 < (sealB x (sumI 7 (lw x))).size := by
    rw [← hlen]
    unfold sealL
    simp
    omega
  obtain ⟨K1, hv1⟩ := verify_seal x hx hs
  generalize hy : sealB x (sumI 7 (lw x)) = y at hlist hlen hp hs hv1
  have hq : ∃ q : Nat, Int.tmod c9 (y.size : Int) = (q : Int) ∧ q < y.size := by
    rw [Int.tmod_eq_emod_of_nonneg n0]
    have h1 := Int.emod_nonneg c9 (show (y.size : Int) ≠ 0 by omega)
    have h2 := Int.emod_lt_of_pos c9 (show (0 : Int) < y.size by omega)
    exact ⟨(c9 % (y.size : Int)).toNat, by omega, by omega⟩
  obtain ⟨q, hq1, hq2⟩ := hq
  have hqd : q < y.data.size := hq2
  have he : IntKind.u8.wrap (wrap64 (1 + Int.tmod c10 255)) = 1 + c10 % 255 := by
    rw [Int.tmod_eq_emod_of_nonneg t0]
    have ew : wrap64 (1 + c10 % 255) = 1 + c10 % 255 := by unfold wrap64; omega
    rw [ew]
    have : IntKind.u8.wrap (1 + c10 % 255) = (1 + c10 % 255) % 256 := rfl
    rw [this]
    omega
  have hbt := y.data[q].toNat_lt
  obtain ⟨x0, x1, x2⟩ := xor_ok (y.data[q].toNat : Int) (1 + c10 % 255) (by omega) (by omega) (by omega) (by omega)
  obtain ⟨v, hv⟩ : ∃ v, Go.bits .xor .u8 (y.data[q].toNat : Int) (1 + c10 % 255) = v := ⟨_, rfl⟩
  rw [hv] at x0 x1 x2
  have hvt : (UInt8.ofNat v.toNat).toNat = v.toNat := UInt8.toNat_ofNat_of_lt' (by have : UInt8.size = 256 := rfl; omega)
  have hql : q < (sealL (lw x)).length := by rw [hlen]; exact hq2
  have hat : (sealL (lw x))[q] = y.data[q] := by
    have h1 : (sealL (lw x))[q]? = (lw y)[q]? := by rw [hlist]
    rw [List.getElem?_eq_getElem hql] at h1
    unfold lw at h1
    rw [Array.getElem?_toList, Array.getElem?_eq_getElem hqd] at h1
    exact Option.some.inj h1
  have hne : (sealL (lw x))[q] ≠ UInt8.ofNat v.toNat := by
    rw [hat]
    intro e
    have := congrArg UInt8.toNat e
    rw [hvt] at this
    omega
  rw [← hy] at hs
  obtain ⟨K2, hv2⟩ := verify_changed x hx hs hql hne
  rw [hy] at hs
  have hy2 : pw ((sealL (lw x)).set q (UInt8.ofNat v.toNat)) = ⟨(y.data.toList.set q (UInt8.ofNat v.toNat)).toArray⟩ := by rw [← hlist]; rfl
  rw [hy2] at hv2
  refine ⟨c9, c10, q, 1 + c10 % 255, v, _, _, K1 + K2, fun k hk => ⟨hv1 k (by omega), a9, a10, by omega, hq1, hq2, he, ⟨x0, x1⟩, fun _ => hv, rfl, hv2 k (by omega)⟩⟩
theorem pure_FnStrings (l0 : List Int) (hb : Bytes l0) : ∃ k, laws_FnStrings.f k l0 = some true := by
  suffices h : ∃ k, laws_FnStrings.P k l0 by
    obtain ⟨k, hk⟩ := h
    refine ⟨k, ?_⟩
    unfold laws_FnStrings.f
    rw [if_pos hk]
  by_cases hbig : (l0.length : Int) > 65536
  · exact ⟨0, .inl hbig⟩
  obtain ⟨n, dn⟩ := drawFormat_ok hb
  obtain ⟨⟨s, ok⟩, ⟨K1, s1⟩, i1⟩ := both_FormatInt n
  obtain ⟨hsz, hown⟩ := format_own i1
  obtain ⟨t, ⟨K2, dt⟩, ht⟩ := drawParse_ok hb
  obtain ⟨⟨m, fine⟩, ⟨K3, s2⟩, i2⟩ := both_ParseInt t (by omega)
  obtain ⟨x, dx, hx⟩ := drawApp_ok hb
  obtain ⟨r, r0, r1, e1, e2⟩ := sum_both x (by omega)
  have hr : r = sumI 7 (lw x) := Ev.unique e2 (sum_val x (by omega))
  subst hr
  obtain ⟨K4, s3⟩ := specAppend_ev x _ (by omega) r0 r1 e1
  obtain ⟨K5, i3⟩ := implAppend_ev x _ (by omega) r0 r1 e2
  have hb1 : impl_ParseInt.f s = some (parseV s) := by unfold impl_ParseInt.f; rw [if_pos (by simp only at hsz; omega)]
  have hb2 : ok = true → (parseV s).2 = true ∧ (parseV s).1 = n := fun h => by rw [parse_own (hown h)]; exact ⟨rfl, rfl⟩
  by_cases hap : (35 : UInt8) ∈ lw x ∨ 4000 < (sealB x (sumI 7 (lw x))).size
  · have ha : apnd x (sumI 7 (lw x)) = (⟨#[]⟩, false) := by unfold apnd; rw [if_pos hap]
    rw [ha] at s3 i3
    refine ⟨K1 + K2 + K3 + K4 + K5, .inr ⟨n, s, ok, t, m, fine, x, ⟨#[]⟩, false, (parseV s).1, (parseV s).2, 0, 0, 0, 0, 0, ⟨#[]⟩, ⟨#[]⟩, ⟨dn, i1, s1 _ (by omega), dt _ (by omega), i2, s2 _ (by omega), dx, i3 _ (by omega), s3 _ (by omega), hb1, hb2⟩, fun _ => rfl, (fun h => by cases h)⟩⟩
  · have ha : apnd x (sumI 7 (lw x)) = (sealB x (sumI 7 (lw x)), true) := by unfold apnd; rw [if_neg hap]
    rw [ha] at s3 i3
    rw [not_or] at hap
    obtain ⟨c9, c10, q, e, v, y2, z, K6, hseal⟩ := seal_ok hb (by omega) x hap.1 (by omega)
    exact ⟨K1 + K2 + K3 + K4 + K5 + K6, .inr ⟨n, s, ok, t, m, fine, x, _, true, (parseV s).1, (parseV s).2, c9, c10, q, e, v, y2, z, ⟨dn, i1, s1 _ (by omega), dt _ (by omega), i2, s2 _ (by omega), dx, i3 _ (by omega), s3 _ (by omega), hb1, hb2⟩, (fun h => by cases h), fun _ => hseal _ (by omega)⟩⟩
end Go.Proofs.YtklddfkhbhkhdaaDoor.Q
namespace Go.Proofs.YtklddfkhbhkhdaaDoor.Pure
open Go.Proofs.YtklddfkhbhkhdaaDoor.Q Go.RowKit Go.Proofs.YtklddfkhbhkhdaaDoorW.PrintWords Go.Proofs.YtklddfkhbhkhdaaDoorW.PrintLast
theorem FnStrings (l0 : List Int) (hb : Q.Bytes l0) : ∃ k, Q.laws_FnStrings.f k l0 = some true := Q.pure_FnStrings l0 hb
end Go.Proofs.YtklddfkhbhkhdaaDoor.Pure
namespace Go.Proofs.YtklddfkhbhkhdaaDoor.Q
open Go.ChangeShapes Go.WideShapes Go.RowKit Go.Proofs.YtklddfkhbhkhdaaDoorW.PrintWords Go.Proofs.YtklddfkhbhkhdaaDoorW.PrintLast Go.Proofs.YtklddfkhbhkhdaaDoorW.PrintMore
set_option maxRecDepth 100000 in
theorem open_bytes {H : Type} {enc : TypeId × Value → H} {w : World} {base b0 : Nat} {spare : Nat → Bool} {held : Bool} {r : Reach} {v : Value} {d : DataW H} {p : List MemPlace} (hv : Value.okWide Tryd.prog w r b0 25 v) (h : DataW.Trod enc Tryd.prog w base spare held 25 v d p) :
    ∃ (A : Option Addr) (c : Nat) (l : List Int), v = .slice A l.length c ∧ Kd.C (Kd.int .u8) w A l.length l ∧ l.length ≤ c ∧ l.length ≤ maxLen ∧ ∀ x ∈ l, 0 ≤ x ∧ x ≤ 255 := by
  obtain ⟨a0, len, cap, rfl⟩ := okWide_slice Tryd.underlying25 hv
  obtain ⟨fuel, hf⟩ := h
  have hwf : ∀ n : Int, (Lit.int .u8 n).wf = true → 0 ≤ n ∧ n ≤ 255 := fun n h => by
    have h1 : IntKind.u8.min = 0 := by decide
    have h2 : IntKind.u8.max = 255 := by decide
    simp [Lit.wf, h1, h2] at h
    omega
  rcases open_ints Tryd.underlying25 Tryd.underlying5 (by kernel_rfl) hf with ⟨e, _⟩ | ⟨a, len', cap', zs, e, _, hl, hm, hss, _, hc, hz⟩
  · injection e with e
    injection e with e1 e2 e3
    subst e1; subst e2; subst e3
    exact ⟨none, 0, [], rfl, ⟨rfl, by decide, fun h => absurd h (by decide)⟩, Nat.le_refl _, Nat.zero_le _, fun x hx => by cases hx⟩
  · injection e with e
    injection e with e1 e2 e3
    subst e1; subst e2; subst e3
    have hls : len ≤ zs.length := by rw [hss]; split <;> omega
    have hlt : (zs.take len).length = len := by rw [List.length_take]; omega
    refine ⟨some a, cap, zs.take len, by rw [hlt], ?_, by rw [hlt]; exact hl, by rw [hlt]; omega, fun x hx => hwf x (hz x (List.mem_of_mem_take hx))⟩
    rw [hlt]
    refine ⟨hlt, by unfold maxLen at hm; omega, fun _ => ⟨a, rfl, fun j p hj => ?_⟩⟩
    obtain ⟨hjl, rfl⟩ := List.getElem?_eq_some_iff.1 hj
    rw [hlt] at hjl
    have h1 := hc j (by omega)
    have h2 : zs.getD j 0 = (zs.take len)[j] := by
      rw [List.getElem_take, List.getD_eq_getElem?_getD, List.getElem?_eq_getElem (by omega)]
      rfl
    rw [h2] at h1
    refine ⟨[.int .u8 (zs.take len)[j]], rfl, rfl, fun i u hu => ?_⟩
    cases i with
    | zero =>
      injection hu with hu
      subst hu
      have e1 : j * (Kd.int .u8).sz + 0 = j := by show j * 1 + 0 = j; omega
      rw [e1]
      exact h1
    | succ i => cases hu
end Go.Proofs.YtklddfkhbhkhdaaDoor.Q
namespace Go.Proofs.YtklddfkhbhkhdaaDoor.Q
open Go
theorem wrap_listed {H : Type} {enc : TypeId × Value → H} {a : Assume} {C : Checked} {os : Os} {f : FuncId} {fn : Func} {s : ChangeSpec} {dom : List PathCond} {ap fr hd ag : Bool} {X : World → Prop}
    (hX : ∀ u v : World, u.heap = v.heap → X u → X v) (own : ownKnob C.prog.godebug = none) (started : os.Started) (late : C.prog.inits.idxOf? f = none) (hf : C.prog.funcs[f]? = some fn)
    (wit : ∃ (w : World) (t : Tape) (i : Input), w.os = os ∧ (w.forCall t i).Shaped C.prog ∧ i.vars = [] ∧ Input.okWide C.prog (w.forCall t i) .any w.heap.size f i ∧
      ((s.pre enc C.prog fn dom ap (w.forCall t i).memory i.args ∧ X (w.forCall t i).memory) ∧ sizedMet enc C.prog fn (OpenSpec.ofChange s) ap (w.forCall t i).memory i.args) ∧ a.holds C.prog (lone (Frame.enter C.prog f i.args .normal) [] (w.forCall t i)))
    (tells : ∀ (W : World) (base : Nat) (args : Array Value) (ds gs : List (DataW H)) (before : List MemPlace),
      (∀ (j : Nat) t v, fn.params[j]? = some t → args[j]? = some v → Value.okWide C.prog W .any base t v) → DataW.Whole enc C.prog fn.params.toList s.vars ap W args.toList ds gs before →
      dom.all (PathCond.test C.prog ⟨fn.params.toList, ds, s.plain.varTypes C.prog, gs⟩) = true →
      (DataW.weightsEach C.prog (fn.params.toList ++ s.plain.varTypes C.prog) (ds ++ gs)).all (· ≤ reachBytes) = true → X W → W.ShapedOpen C.prog →
      Calls C.prog f args W fun e W' => ∃ v, e = .returned v ∧ s.post enc C.prog fn ap fr hd ag W args v W') :
    ReturnsInHanded a C os f .any (fun w args => (s.pre enc C.prog fn dom ap w args ∧ X w) ∧ sizedMet enc C.prog fn (OpenSpec.ofChange s) ap w args) (s.post enc C.prog fn ap fr hd ag) :=
  returnsInHanded_of_calls own started late wit fun w t i _ shape _ fits met _ => by
    obtain ⟨_, _, _, g, hg, _, _, _, _, vals⟩ := fits
    cases Option.some.inj (hg.symm.trans hf)
    obtain ⟨⟨⟨ds, gs, before, whole, cond⟩, x⟩, sized⟩ := met
    have whole2 := DataW.Whole.of_heap (w' := w.forCall t i) (by rfl) whole
    have told := tells (w.forCall t i) w.heap.size i.args ds gs before vals whole2 cond (sized.weights whole) (hX _ _ (by rfl) x) shape
    refine told.mono ?_
    rintro e W' ⟨v, rfl, p⟩
    exact ChangeSpec.post_blind p
end Go.Proofs.YtklddfkhbhkhdaaDoor.Q
namespace Go.Proofs.YtklddfkhbhkhdaaDoor.Q
open Go
theorem max_of {W : World} (h : W.ShapedOpen Tryd.prog) : MaxIs W :=
  cell_of_shapedOpen_int (t := 3) (zero := #[.int .i64 0]) h (of_decide_eq_true (by kernel_rfl)) (by kernel_rfl) rfl (by kernel_rfl) (by kernel_rfl) Tryd.underlying3
end Go.Proofs.YtklddfkhbhkhdaaDoor.Q
namespace Go.Proofs.YtklddfkhbhkhdaaDoor.Q
open Go
theorem pow_laid : (Rows.laid_internal_strconv_uint64pow10 : DataW Unit) = Lib.tabData .u64 Lib.pow10Tab := by kernel_rfl
theorem tab_of {W : World} {r : List (String × DataW Unit)} (h : laidMet Tryd.prog (("internal/strconv.uint64pow10", Rows.laid_internal_strconv_uint64pow10) :: r) W) : Tab W := by
  rw [pow_laid] at h
  exact Lib.tabIs_of_head (t := 151) (e := 46) (n := 20) gPow (by kernel_rfl) Tryd.underlying151 Tryd.underlying46 (by kernel_rfl) (by kernel_rfl) h
end Go.Proofs.YtklddfkhbhkhdaaDoor.Q
namespace Go.Proofs.YtklddfkhbhkhdaaDoor.Q
open Go
theorem gSynType : (Tryd.prog.globals[1]?).map (·.type) = some 60 := by kernel_rfl
theorem gRngType : (Tryd.prog.globals[2]?).map (·.type) = some 60 := by kernel_rfl
theorem es_star : "*" ++ "errors.errorString" = "*errors.errorString" := by decide
theorem es_row (u : TypeId) (h : Tryd.prog.typeName? 3 u = some "*errors.errorString") : u = 155 :=
  typeName_ptr_named (nm := "errors.errorString") (by rw [es_star]; kernel_rfl) (by kernel_rfl) (by decide) u (by rw [es_star]; exact h)
theorem syn_of {W : World} {r : List (String × DataW Unit)} (h : laidMet Tryd.prog (("strconv.ErrSyntax", Rows.laid_strconv_ErrSyntax) :: r) W) : ∃ tp p, W.var? Tryd.prog "strconv.ErrSyntax" = some #[.iface tp p] := by
  obtain ⟨a0, s0, hv0, -, -, -⟩ := laid_sentinel h gSyn gSynType Tryd.underlying60 es_row Tryd.underlying155 Tryd.underlying157 rfl rfl Tryd.underlying9 (by kernel_rfl) (by kernel_rfl)
  exact ⟨_, _, hv0⟩
theorem rng_of {W : World} {r : List (String × DataW Unit)} (h : laidMet Tryd.prog (("strconv.ErrRange", Rows.laid_strconv_ErrRange) :: r) W) : ∃ tp p, W.var? Tryd.prog "strconv.ErrRange" = some #[.iface tp p] := by
  obtain ⟨a0, s0, hv0, -, -, -⟩ := laid_sentinel h gRng gRngType Tryd.underlying60 es_row Tryd.underlying155 Tryd.underlying157 rfl rfl Tryd.underlying9 (by kernel_rfl) (by kernel_rfl)
  exact ⟨_, _, hv0⟩
end Go.Proofs.YtklddfkhbhkhdaaDoor.Q
namespace Go.Proofs.YtklddfkhbhkhdaaDoor.fnStrings
open Go.ChangeShapes Go.WideShapes Go.ChangeAt Go.RowKit
open Go.ChangeMaps (open_string shut_string)
set_option linter.unusedVariables false
theorem own : ownKnob Tryd.prog.godebug = none := by kernel_rfl
theorem laidOut : laidOutB Tryd.prog = true := by kernel_rfl
set_option maxRecDepth 100000 in
theorem lifted (os : Os) (started : os.Started) (H : Type) (enc : TypeId × Value → H) :
    ReturnsInHanded {} Tryd.checked os 6 .any (fun w args => (Rows.fnStringsSpec.pre enc Tryd.prog Tryd.f6 Rows.fnStringsRow.domain false w args ∧ laidMetH Tryd.prog Rows.fnStringsRow.laid w) ∧ sizedMet enc Tryd.prog Tryd.f6 (OpenSpec.ofChange Rows.fnStringsSpec) false w args) (Rows.fnStringsSpec.post enc Tryd.prog Tryd.f6 false true false false) := by
  refine Q.wrap_listed (C := Tryd.checked) (X := fun w => laidMetH Tryd.prog Rows.fnStringsRow.laid w) (fun _ _ hh h => h.of_heap hh) own started (by kernel_rfl) Tryd.func6
    (ChangeSpec.witness_shaped (enc := enc) (C := Tryd.checked) (os := os) (X := fun w _ => laidMetH Tryd.prog Rows.fnStringsRow.laid w) false (World.laidAll Tryd.prog os Rows.fnStringsRow.laid) #[.slice none 0 0] 8 (World.laidAll_os _ _ _)
      (World.shaped_of_ZipB (by kernel_rfl) (by kernel_rfl)) (by kernel_rfl) (by kernel_rfl) (by kernel_rfl)
      (by rw [MakeChecks.laidMetH_plain _ _ _ (by kernel_rfl)]; exact laidMet_laidAll _ (by kernel_rfl) (by kernel_rfl))) ?_
  intro W base args ds gs before hval0 hW hcnd hsz0 hL hsh
  have hsz : (DataW.weightsEach Tryd.prog (Tryd.f6.params.toList ++ Rows.fnStringsSpec.plain.varTypes Tryd.prog) (ds ++ gs)).all (· ≤ reachBytes) = true := hsz0
  have hval : ∀ (j : Nat) t v, Tryd.f6.params[j]? = some t → args[j]? = some v → Value.okWide Tryd.prog W .any base t v := hval0
  have hW' := hW
  obtain ⟨p, q, hA0, hV, rfl, hfz, hnd⟩ := hW
  have hA : DataW.TrodAll enc Tryd.prog W 0 (fun _ => true) true Tryd.f6.params.toList args.toList ds p := hA0
  rw [Tryd.params6] at hA hval hsz
  obtain ⟨v0, vs0, d0, ds0, p0, q0, hargs, rfl, rfl, h0, r0⟩ := trodAll_cons hA
  obtain ⟨rfl, rfl, rfl⟩ := trodAll_nil r0
  obtain rfl : args = #[v0] := by cases args; simp_all
  obtain ⟨rfl, rfl⟩ := trodVars_none hV
  have k0 := h0
  have lt0 : ∀ x ∈ p0, x.block < W.heap.size := by obtain ⟨m, hm⟩ := k0; exact DataW.trod_lt m _ _ _ hm
  obtain ⟨A0, c0, l0, rfl, hC0, hc0, hl0, hI0⟩ := Q.open_bytes (hval 0 25 v0 rfl rfl) h0
  clear hA0 hval0 hsz0 hsz
  have hL2 : laidMet Tryd.prog Rows.fnStringsRow.laid W := by rw [← MakeChecks.laidMetH_plain _ _ _ (by kernel_rfl)]; exact hL
  have hG_Tab : Q.Tab W := Q.tab_of hL2.tail.tail
  have hG_MaxIs : Q.MaxIs W := Q.max_of hsh
  have hG_Errs : Q.Errs W := ⟨Q.syn_of hL2.tail.tail.tail.tail, Q.rng_of hL2.tail.tail.tail⟩
  obtain ⟨k, hk⟩ := Pure.FnStrings l0 hI0
  refine (Q.laws_FnStrings.calls k A0 c0 l0 true W hC0 hc0 hk hG_MaxIs hG_Tab hG_Errs).mono fun e W' ⟨he, bel0⟩ => ?_
  have bel : Below W.heap.size W W' := bel0
  subst he
  exact ⟨_, rfl, _, _, _, [], _, [], hW', trodAll_mk1 (shut_bool Tryd.underlying4 _), (trodAll_cons_mk (Below.trod laidOut (by kernel_rfl) (of_decide_eq_true (by kernel_rfl)) k0 bel lt0) trodAll_mk0), rfl, bel.frame _, fun h => by cases h⟩
theorem over : Rows.fnStringsRow.holds Tryd.pinned (OpenSpec.ofChange Rows.fnStringsSpec) :=
  OpenClaim.holds_of_wide 6 Tryd.f6 rfl rfl rfl rfl rfl rfl rfl ⟨rfl, rfl, rfl, rfl, rfl⟩ rfl rfl rfl rfl rfl (by kernel_rfl) Tryd.func6 (by kernel_rfl)
    (of_decide_eq_true (by kernel_rfl)) (by unfold Func.isWrapper; first | (rw [if_pos (by decide +kernel)]; kernel_rfl) | (rw [if_neg (by decide +kernel)]; exact ⟨rfl, rfl⟩))
    (fun os started H enc _ => lifted os started H enc)
set_option maxRecDepth 100000 in
theorem proved : Rows.FnStringsCardSaid :=
  Claim7.holds_tied_plain_at .later [] [.data, .data, .data, .sentinel, .sentinel] true (true, "2e950a33bd4384baa06fb028b9a6bdea735eae89257bfebfe682170664b9b05e") true over (fun _ h => by cases h) (by kernel_rfl) (fun _ h => by cases h) fnStrings_row_tie rfl ⟨rfl, rfl⟩ (by kernel_rfl) rfl
    (fun f fn hf hfn => by
      obtain rfl : f = 6 := Option.some.inj ((show Tryd.prog.funcNamed Tryd.f6.name = some 6 by kernel_rfl).symm.trans hf) |>.symm
      obtain rfl : fn = Tryd.f6 := (Option.some.inj (Tryd.func6.symm.trans hfn)).symm
      exact ⟨by kernel_rfl, fun j t ht => by
        rw [Tryd.params6] at ht
        have hm : t ∈ [25] := by simpa using Array.mem_of_getElem? ht
        have hall : ([25].all fun u => !Tryd.prog.wantsStandIn u) = true := by kernel_rfl
        exact (show Tryd.prog.wantsStandIn t = false by simpa using List.all_eq_true.1 hall t hm)⟩)
    (by kernel_rfl)
end Go.Proofs.YtklddfkhbhkhdaaDoor.fnStrings
namespace Go.Proofs.YtklddfkhbhkhdaaDoor
theorem fnStrings_holds : Rows.FnStringsCardSaid := fnStrings.proved
end Go.Proofs.YtklddfkhbhkhdaaDoor
