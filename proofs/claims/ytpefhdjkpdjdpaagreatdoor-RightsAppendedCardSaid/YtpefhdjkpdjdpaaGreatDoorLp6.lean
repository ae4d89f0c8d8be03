/- Parts of the proof, merged out of this seat's texts by a program of this claim. -/
import Derived.Test.YtpefhdjkpdjdpaaGreatDoorLp5
namespace Go.Proofs.YtpefhdjkpdjdpaaGreatDoor.R
open Go Go.ChangeShapes Go.WideShapes Go.ChangeAt Go.Deep Go.RowKit Go.Proofs.YtpefhdjkpdjdpaaGreatDoorW.PrintWords Go.Proofs.YtpefhdjkpdjdpaaGreatDoorW.PrintLast Go.Proofs.YtpefhdjkpdjdpaaGreatDoorW.PrintMore
set_option maxRecDepth 100000 in
/-- A clause that came in by value. -/
theorem S40_of_arg {H : Type} {enc : TypeId × Value → H} {W : World} {base : Nat} {v : Value} {d : DataW H} {p : List MemPlace} (hval : Value.okWide Tryz.prog W .any base 40 v) (h : DataW.Trod enc Tryz.prog W 0 (fun _ => true) true 40 v d p) :
    ∃ x : S40, v = agg40 x := by
  obtain ⟨cs, rfl, hsz⟩ := okWide_struct u40 hval
  obtain ⟨l⟩ := cs
  match l, hsz.trans cells40 with
  | [c0, c1, c2, c3, c4, c5, c6, c7], _ =>
    obtain ⟨fuel, hf⟩ := h
    obtain ⟨xs, n, _, _, _, hlen, hg⟩ := DataW.trod_struct u40 hf
    have key : ∀ (j : Nat) (f : Field) (c : Value), fs40[j]? = some f → f.type = 3 → ([c0, c1, c2, c3, c4, c5, c6, c7].drop j).take 1 = [c] → ∃ z, c = .int .i64 z := fun j f c hj ht hc => by
      have h1 := hg j f hj
      obtain ⟨o, k⟩ := hone_of one40 j f hj
      rw [o, k, ht] at h1
      have h2 : (((#[c0, c1, c2, c3, c4, c5, c6, c7] : Array Value).toList.drop j).take 1) = [c] := hc
      rw [show (Value.agg #[c0, c1, c2, c3, c4, c5, c6, c7]).cells.toList = [c0, c1, c2, c3, c4, c5, c6, c7] from rfl, hc] at h1
      have hjl : j < fs40.size := (Array.getElem?_eq_some_iff.1 hj).1
      have hys : xs[j]? = some (xs[j]'(by omega)) := List.getElem?_eq_getElem (by omega)
      obtain ⟨z, e, _, _⟩ := DataW.trod_int Tryz.underlying3 (h1.trans hys)
      exact ⟨z, by simpa using e⟩
    obtain ⟨x0, rfl⟩ := key 0 _ c0 rfl rfl rfl
    obtain ⟨x1, rfl⟩ := key 1 _ c1 rfl rfl rfl
    obtain ⟨x2, rfl⟩ := key 2 _ c2 rfl rfl rfl
    obtain ⟨x3, rfl⟩ := key 3 _ c3 rfl rfl rfl
    obtain ⟨x4, rfl⟩ := key 4 _ c4 rfl rfl rfl
    obtain ⟨x5, rfl⟩ := key 5 _ c5 rfl rfl rfl
    obtain ⟨x6, rfl⟩ := key 6 _ c6 rfl rfl rfl
    obtain ⟨x7, rfl⟩ := key 7 _ c7 rfl rfl rfl
    exact ⟨⟨x0, x1, x2, x3, x4, x5, x6, x7⟩, rfl⟩
theorem appended_true (A0 : Option Addr) (c0 : Nat) (l0 : List S40) (c : S40) (item region : Int) (w : World) (hr0 : Kd.C k40 w A0 l0.length l0) (hc0 : l0.length ≤ c0) (hT : TabW w) :
    Calls Tryz.prog 7 #[.slice A0 l0.length c0, agg40 c, .int .i64 item, .int .i64 region] w fun e w' => e = .returned (.bool true) ∧ Below w.heap.size w w' := by
  obtain ⟨x0, x1, x2, x3, x4, x5, x6, x7⟩ := c
  have hA := appended (l0.take 60) ⟨x0, x1, x2, x3, x4, x5, x6, x7⟩ item region
  rw [sel_in] at hA
  have hsh : ((x4 / 2 ^ min region.toNat 64).tmod 2 == 1) = (Int.tmod (shr .i64 x4 region) 2 == 1) := rfl
  obtain ⟨v, hv⟩ : ∃ v, vld (⟨x0, x1, x2, x3, x4, x5, x6, x7⟩ : S40) = v := ⟨_, rfl⟩
  have hin : inB ⟨x0, x1, x2, x3, x4, x5, x6, x7⟩ item region = (v && (x1 == item) && decide (0 ≤ region) && decide (region < 8) && ((x4 / 2 ^ min region.toNat 64).tmod 2 == 1)) := by
    rw [hsh, ← hv]
    rfl
  by_cases hb : inB ⟨x0, x1, x2, x3, x4, x5, x6, x7⟩ item region = true
  · by_cases h1 : x0 = 1
    · have hl : x2 < x3 := vld_lt (c := ⟨x0, x1, x2, x3, x4, x5, x6, x7⟩) (by rw [hin] at hb; simp at hb; rw [hv]; exact hb.1.1.1.1) (.inl h1)
      refine appended_grant A0 c0 l0 x0 x1 x2 x3 x4 x5 x6 x7 item region w hr0 hc0 hT v hv _ rfl _ _ rfl rfl hl ?_ ((hA.2 (by rw [hb]; simp [h1]) hl).1 h1)
      rw [hin] at hb
      simp at hb
      simp [hb, h1]
    · by_cases h2 : x0 = 2
      · have hl : x2 < x3 := vld_lt (c := ⟨x0, x1, x2, x3, x4, x5, x6, x7⟩) (by rw [hin] at hb; simp at hb; rw [hv]; exact hb.1.1.1.1) (.inr h2)
        refine appended_withdraw A0 c0 l0 x0 x1 x2 x3 x4 x5 x6 x7 item region w hr0 hc0 hT v hv _ rfl _ _ rfl rfl hl ?_ ((hA.2 (by rw [hb]; simp [h2]) hl).2 h2)
        rw [hin] at hb
        simp at hb
        simp [hb, h2]
      · refine appended_no A0 c0 l0 x0 x1 x2 x3 x4 x5 x6 x7 item region w hr0 hc0 hT v hv _ rfl _ _ rfl rfl ?_ (hA.1 (by simp [h1, h2]))
        rw [hin] at hb
        simp at hb
        simp [hb, h1, h2]
  · refine appended_no A0 c0 l0 x0 x1 x2 x3 x4 x5 x6 x7 item region w hr0 hc0 hT v hv _ rfl _ _ rfl rfl ?_ (hA.1 (by rw [Bool.not_eq_true] at hb; rw [hb, Bool.and_false]))
    rw [hin] at hb
    revert hb
    generalize ((x4 / 2 ^ min region.toNat 64).tmod 2 == 1) = q4
    generalize decide (0 ≤ region) = q2
    generalize decide (region < 8) = q3
    generalize (x1 == item) = q1
    cases v <;> cases q1 <;> cases q2 <;> cases q3 <;> cases q4 <;> simp
def args7 : Array Value := #[.slice none 0 0, .agg #[.int .i64 0, .int .i64 0, .int .i64 0, .int .i64 0, .int .i64 0, .int .i64 0, .int .i64 0, .int .i64 0], .int .i64 0, .int .i64 0]
theorem laid_met7 (os : Os) : laidMetH Tryz.prog laidL ((laidWorld os).forCall (fun _ _ => 0) ⟨#[], args7, []⟩).memory := by
  rw [MakeChecks.laidMetH_plain _ _ _ (by kernel_rfl)]
  exact laidMet_of_run' 8 (by kernel_rfl) (by kernel_rfl)
theorem reads7 (os : Os) {H : Type} (enc : TypeId × Value → H) : ∃ places, DataW.whole enc Tryz.prog ((laidWorld os).forCall (fun _ _ => 0) ⟨#[], args7, []⟩).memory Tryz.f7.params.toList Rows.rightsAppendedSpec.vars false args7.toList 8 = some ([.nil, .agg [.lit (.int .i64 0), .lit (.int .i64 0), .lit (.int .i64 0), .lit (.int .i64 0), .lit (.int .i64 0), .lit (.int .i64 0), .lit (.int .i64 0), .lit (.int .i64 0)], .lit (.int .i64 0), .lit (.int .i64 0)], [], places) :=
  ⟨[], by kernel_rfl⟩
set_option maxRecDepth 100000 in
theorem lifted7 (os : Os) (started : os.Started) (H : Type) (enc : TypeId × Value → H) (F : Stop.Interp) :
    ReturnsInHanded {} Tryz.checked os 7 .any ((OpenSpec.ofChange Rows.rightsAppendedSpec).preRow enc Tryz.prog Tryz.f7 Rows.rightsAppendedRow.domain false Rows.rightsAppendedRow.laid) (((OpenSpec.ofChange Rows.rightsAppendedSpec).at F).post enc Tryz.prog Tryz.f7 false true false false) := by
  obtain ⟨places, hx⟩ := reads7 os enc
  refine returnsInHanded_of_row (C := Tryz.checked) (s := OpenSpec.ofChange Rows.rightsAppendedSpec) own_ started (by kernel_rfl) Tryz.func7
    (witness_row_atRef (enc := enc) (C := Tryz.checked) false (laidWorld os) args7 rfl (by kernel_rfl) (by kernel_rfl) (by kernel_rfl)
      (OpenSpec.preRow_of_cond 8 hx (by kernel_rfl) (fun k hk => by cases hk) (by kernel_rfl) (laid_met7 os))) ?_
  intro W base args ds gs before hval0 hW _ _ _ hL hsh _
  have hval : ∀ (j : Nat) t v, Tryz.f7.params[j]? = some t → args[j]? = some v → Value.okWide Tryz.prog W .any base t v := hval0
  have hW' := hW
  obtain ⟨p, q, hA0, hV, rfl, _, _⟩ := hW
  have hA : DataW.TrodAll enc Tryz.prog W 0 (fun _ => true) true Tryz.f7.params.toList args.toList ds p := hA0
  rw [Tryz.params7] at hA hval
  obtain ⟨v0, vs0, d0, ds0, p0, q0, hargs, rfl, rfl, h0, r0⟩ := trodAll_cons hA
  obtain ⟨v1, vs1, d1, ds1, p1, q1, rfl, rfl, rfl, h1, r1⟩ := trodAll_cons r0
  obtain ⟨v2, vs2, d2, ds2, p2, q2, rfl, rfl, rfl, h2, r2⟩ := trodAll_cons r1
  obtain ⟨v3, vs3, d3, ds3, p3, q3, rfl, rfl, rfl, h3, r3⟩ := trodAll_cons r2
  obtain ⟨rfl, rfl, rfl⟩ := trodAll_nil r3
  obtain rfl : args = #[v0, v1, v2, v3] := by cases args; simp_all
  obtain ⟨rfl, rfl⟩ := trodVars_none hV
  obtain ⟨a2, rfl, rfl, rfl, w2⟩ := open_int Tryz.underlying3 (hval 2 3 v2 rfl rfl) h2
  obtain ⟨a3, rfl, rfl, rfl, w3⟩ := open_int Tryz.underlying3 (hval 3 3 v3 rfl rfl) h3
  obtain ⟨A0, c0, l0, rfl, hlc, hC⟩ := C40_of_arg (hval 0 22 v0 rfl rfl) h0
  obtain ⟨c, rfl⟩ := S40_of_arg (hval 1 40 v1 rfl rfl) h1
  clear hA0 hval0
  simp only [List.append_nil] at hW'
  have hlt : ∀ x ∈ p0, x.block < W.heap.size := fun x hx => hW'.lt x (by simp [hx])
  have hlt1 : ∀ x ∈ p1, x.block < W.heap.size := fun x hx => hW'.lt x (by simp [hx])
  have hT := tabW_of hL hsh
  refine (appended_true A0 c0 l0 c a2 a3 W hC hlc hT).mono ?_
  rintro e W' ⟨rfl, hb⟩
  refine ⟨_, rfl, _, _, _, [], p0 ++ p1, [], hW', trodAll_mk1 (shut_bool Tryz.underlying4 _), ?_, rfl, hb.frame _, fun h => by cases h⟩
  have ht := Below.trod laidOut_ (by kernel_rfl) (of_decide_eq_true (by kernel_rfl)) h0 hb hlt
  have ht1 := Below.trod laidOut_ (by kernel_rfl) (of_decide_eq_true (by kernel_rfl)) h1 hb hlt1
  have := trodAll_cons_mk ht (trodAll_cons_mk ht1 (trodAll_cons_mk (shut_int Tryz.underlying3 w2) (trodAll_cons_mk (shut_int Tryz.underlying3 w3) trodAll_mk0)))
  simp only [List.append_nil] at this
  exact this
end Go.Proofs.YtpefhdjkpdjdpaaGreatDoor.R
