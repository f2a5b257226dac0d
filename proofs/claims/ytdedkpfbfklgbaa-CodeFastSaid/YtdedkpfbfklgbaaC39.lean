/- Contracts: the polynomial of statements. -/
import Derived.Test.YtdedkpfbfklgbaaC38
namespace Go.Proofs.Ytdedkpfbfklgbaa
open Go.RowKit Go.SX
set_option maxRecDepth 100000
set_option maxHeartbeats 4000000
set_option linter.unusedVariables false
set_option linter.unusedSimpArgs false

mutual
def timeS : GStmt → List Int → List Int
  | ⟨k, f, g, r, n, nm, fr, lit, regs, body, els⟩, out =>
    let o := plusP out [1]
    if k = 7 then plusP o (raisedP (timeL body []) 1) else if k = 9 then plusP o (raisedP (timeL body []) n.toNat) else if k = 8 then plusP o (joinP max (timeL body []) (timeL els [])) else o
def timeL : List GStmt → List Int → List Int
  | [], out => out
  | s :: l, out => timeL l (timeS s out)
end
theorem timeS_eq (s : GStmt) (out : List Int) : timeS s out = (let o := plusP out [1]; if s.Kind = 7 then plusP o (raisedP (timeL s.Body []) 1) else if s.Kind = 9 then plusP o (raisedP (timeL s.Body []) s.N.toNat) else if s.Kind = 8 then plusP o (joinP max (timeL s.Body []) (timeL s.Else [])) else o) := by cases s; rfl
theorem plusP_ok {p q : List Int} (hp : PolyOk p) (hq : PolyOk q) : PolyOk (plusP p q) := joinP_ok hp hq fun a b h1 h2 => by omega
theorem raisedP_ok {p : List Int} {k : Nat} (hp : PolyOk p) : PolyOk (raisedP p k) := by
  unfold raisedP
  split
  · intro x h; cases h
  · intro x h
    rcases List.mem_append.1 h with h | h
    · rw [(List.mem_replicate.1 h).2]; omega
    · exact hp x h
theorem one_ok : PolyOk [1] := by intro x h; simp at h; omega
theorem nil_ok : PolyOk [] := by intro x h; cases h
theorem raisedP_len (p : List Int) (k : Nat) : (raisedP p k).length ≤ k + p.length := by
  unfold raisedP; split
  · simp
  · simp
/-- Numbers of factors that fit. -/
inductive NOk : GStmt → Prop
  | mk {s : GStmt} (h : 0 ≤ s.N ∧ s.N ≤ 12) (hb : ∀ x ∈ s.Body, NOk x) (he : ∀ x ∈ s.Else, NOk x) : NOk s
theorem NOk.n {s : GStmt} (h : NOk s) : 0 ≤ s.N ∧ s.N ≤ 12 := by cases h; assumption
theorem NOk.body {s : GStmt} (h : NOk s) : ∀ x ∈ s.Body, NOk x := by cases h; assumption
theorem NOk.els {s : GStmt} (h : NOk s) : ∀ x ∈ s.Else, NOk x := by cases h; assumption
theorem timeL_facts : ∀ (n : Nat) (l : List GStmt), cntL l ≤ n → (∀ x ∈ l, NOk x) → ∀ out, PolyOk out → PolyOk (timeL l out) ∧ (timeL l out).length ≤ max out.length (13 * cntL l) := by
  intro n
  induction n using Nat.strongRecOn with
  | _ n ih =>
    intro l hn hl
    induction l with
    | nil => intro out ho; rw [timeL]; exact ⟨ho, by omega⟩
    | cons s l ihl =>
      intro out ho
      have hs := hl s (by simp)
      have hcs := cntS_eq s
      have hcl : cntL (s :: l) = cntS s + cntL l := rfl
      have hN := hs.n
      have f1 := ih (cntL s.Body) (by omega) s.Body (Nat.le_refl _) hs.body [] nil_ok
      have f2 := ih (cntL s.Else) (by omega) s.Else (Nat.le_refl _) hs.els [] nil_ok
      have ho1 := plusP_ok ho one_ok
      have lo1 : (plusP out [1]).length = max out.length 1 := joinP_len _ _ _
      have key : PolyOk (timeS s out) ∧ (timeS s out).length ≤ max out.length (13 * cntS s) := by
        rw [timeS_eq]
        simp only
        simp only [List.length_nil] at f1 f2
        split
        · refine ⟨plusP_ok ho1 (raisedP_ok f1.1), ?_⟩
          have h1 : (plusP (plusP out [1]) (raisedP (timeL s.Body []) 1)).length = _ := joinP_len _ _ _
          have h2 := raisedP_len (timeL s.Body []) 1
          rw [h1]; omega
        · split
          · refine ⟨plusP_ok ho1 (raisedP_ok f1.1), ?_⟩
            have h1 : (plusP (plusP out [1]) (raisedP (timeL s.Body []) s.N.toNat)).length = _ := joinP_len _ _ _
            have h2 := raisedP_len (timeL s.Body []) s.N.toNat
            rw [h1]; omega
          · split
            · refine ⟨plusP_ok ho1 (joinP_ok f1.1 f2.1 fun a b h1 h2 => by omega), ?_⟩
              have h1 : (plusP (plusP out [1]) (joinP max (timeL s.Body []) (timeL s.Else []))).length = _ := joinP_len _ _ _
              rw [h1, joinP_len]; omega
            · exact ⟨ho1, by omega⟩
      rw [timeL]
      have h3 := ihl (by omega) (fun x hx => hl x (by simp [hx])) (timeS s out) key.1
      exact ⟨h3.1, by omega⟩
theorem code_time : ∀ (n : Nat) (l : List GStmt), cntL l ≤ n → cntL l ≤ 50000 → l.length ≤ 4611686018427387904 → (∀ x ∈ l, x.Ok) → (∀ x ∈ l, NOk x) → Tri Try.prog 17 [.sl (l.map GStmt.av)] [] (D (ints (timeL l [])) []) := by
  intro n
  induction n using Nat.strongRecOn with
  | _ n ih =>
    intro l hn hc hl hok hno
    refine Tri.enter 48 Try.func17 rfl rfl rfl rfl fun Fr w0 => ?_
    repeat' (first
      | refine AW.seq ?_
      | (refine AW.region_at 0 ?_ <;> refine AL.ev rfl rfl rfl rfl ?_ <;> refine AL.nil ?_)
      | (refine AW.region_at 1 ?_ <;> refine AL.ev rfl rfl rfl rfl ?_ <;> refine AL.nil ?_)
      | (refine AW.region_at 2 ?_ <;> refine AL.ev rfl rfl rfl rfl ?_ <;> refine AL.det (AOp.len rfl rfl (by kernel_rfl)) rfl rfl rfl ?_ <;> refine AL.ev rfl rfl rfl rfl ?_ <;> refine AL.nil ?_)
      | refine AW.cond_true rfl ?_
      | refine AW.cond_false rfl ?_
      | refine AW.block ?_
      | refine AW.endblk ?_
      | refine AW.skip ?_
      | refine AW.exit rfl ?_
      | refine AW.label ?_
      | refine AW.cond rfl (fun hb => ?_) (fun hb => ?_))
    refine AW.prune [3, 6, 7, 8] (AW.loop (fun m af h => ∃ (i : Nat) (out : List Int), i ≤ l.length ∧ m = l.length - i ∧ af = [(3, ints out), (6, .sl (l.map GStmt.av)), (7, .int .i64 (l.map GStmt.av).length), (8, .int .i64 i)] ∧ h = [] ∧ PolyOk out ∧ out.length ≤ 13 * 50000 ∧ timeL l [] = timeL (l.drop i) out) l.length ⟨0, [], Nat.zero_le _, rfl, rfl, rfl, nil_ok, by simp, rfl⟩ ?_)
    rintro m af h ⟨i, out, hi, rfl, rfl, rfl, ho, hol, he⟩
    refine AW.seq ?_
    by_cases hlt : i < l.length
    · obtain ⟨x, hx⟩ := get_lt hlt
      have hx' : (l.map GStmt.av)[((i : Nat) : Int).toNat]? = some x.st := GStmt.get hx
      have hxm := List.mem_of_getElem? hx
      have hxc := cnt_mem hxm
      have hcs := cntS_eq x
      have hxo := hok x hxm
      have hxn := hno x hxm
      obtain ⟨_, hb1, hb2, he1, he2⟩ := id hxo
      have hN := hxn.n
      have f1 := timeL_facts (cntL x.Body) x.Body (Nat.le_refl _) hxn.body [] nil_ok
      have f2 := timeL_facts (cntL x.Else) x.Else (Nat.le_refl _) hxn.els [] nil_ok
      simp only [List.length_nil] at f1 f2
      have t1 := ih (cntL x.Body) (by omega) x.Body (Nat.le_refl _) (by omega) (by omega) hb2 hxn.body
      have t2 := ih (cntL x.Else) (by omega) x.Else (Nat.le_refl _) (by omega) (by omega) he2 hxn.els
      have c1 := code_plus out [1] ho one_ok (by omega) (by simp)
      have ho1 := plusP_ok ho one_ok
      have lo1 : (plusP out [1]).length = max out.length 1 := joinP_len _ _ _
      have r1 := code_raised (timeL x.Body []) 1 (by omega) (by omega)
      have r2 := code_raised (timeL x.Body []) x.N.toNat (by omega) (by omega)
      rw [Int.toNat_of_nonneg hN.1] at r2
      have l1 := raisedP_len (timeL x.Body []) 1
      have l2 := raisedP_len (timeL x.Body []) x.N.toNat
      have j1 := code_joined (timeL x.Body []) (timeL x.Else []) f1.1 f2.1 (by omega) (by omega) 33 max (fun a b _ _ => time1 a b)
      have lj : (joinP max (timeL x.Body []) (timeL x.Else [])).length = _ := joinP_len _ _ _
      have p1 := code_plus (plusP out [1]) (raisedP (timeL x.Body []) 1) ho1 (raisedP_ok f1.1) (by omega) (by omega)
      have p2 := code_plus (plusP out [1]) (raisedP (timeL x.Body []) x.N.toNat) ho1 (raisedP_ok f1.1) (by omega) (by omega)
      have p3 := code_plus (plusP out [1]) (joinP max (timeL x.Body []) (timeL x.Else [])) ho1 (joinP_ok f1.1 f2.1 fun a b h1 h2 => by omega) (by omega) (by omega)
      have q1 : (plusP (plusP out [1]) (raisedP (timeL x.Body []) 1)).length = _ := joinP_len _ _ _
      have q2 : (plusP (plusP out [1]) (raisedP (timeL x.Body []) x.N.toNat)).length = _ := joinP_len _ _ _
      have q3 : (plusP (plusP out [1]) (joinP max (timeL x.Body []) (timeL x.Else []))).length = _ := joinP_len _ _ _
      rw [drop_cons hx, timeL, timeS_eq] at he
      simp only at he
      repeat' (first
        | refine AW.seq ?_
        | (refine AW.region_at 0 ?_ <;> refine AL.ev rfl rfl rfl rfl ?_ <;> refine AL.nil ?_)
        | (refine AW.region_at 1 ?_ <;> refine AL.ev rfl rfl rfl rfl ?_ <;> refine AL.nil ?_)
        | (refine AW.region_at 2 ?_ <;> refine AL.ev rfl rfl rfl rfl ?_ <;> refine AL.det (AOp.len rfl rfl (by kernel_rfl)) rfl rfl rfl ?_ <;> refine AL.ev rfl rfl rfl rfl ?_ <;> refine AL.nil ?_)
        | (refine AW.region_at 3 ?_ <;> (first | refine AL.ev rfl rfl rfl rfl ?_ | refine AL.det (AOp.add rfl rfl (by omega)) rfl rfl rfl ?_ | refine AL.det (AOp.sub rfl rfl (by omega)) rfl rfl rfl ?_ | refine AL.det (AOp.bool_eq (by kernel_rfl) rfl rfl) rfl rfl rfl ?_ | refine AL.det (AOp.bool_ne (by kernel_rfl) rfl rfl) rfl rfl rfl ?_) <;> refine AL.nil ?_)
        | (refine AW.region_at 4 ?_ <;> refine AL.det (AOp.index_sl rfl rfl (by omega) hx' (by kernel_rfl) rfl) rfl rfl rfl ?_ <;> refine AL.det (AOp.load_at rfl rfl (by kernel_rfl)) rfl rfl rfl ?_ <;> refine AL.alloc_store (by kernel_rfl) rfl rfl rfl rfl ?_ <;> refine AL.nil ?_)
        | (refine AW.region_at 5 ?_ <;> refine AL.ev rfl rfl rfl rfl ?_ <;> refine AL.det (AOp.lit (e := 3) (sz := 1) (by kernel_rfl) rfl rfl rfl (by simp [AV.size, ofConst]) (by decide)) rfl rfl rfl ?_ <;> (first | refine AL.det (AOp.call rfl rfl c1) rfl rfl rfl ?_ | refine AL.det (AOp.call rfl rfl t1) rfl rfl rfl ?_ | refine AL.det (AOp.call rfl rfl t2) rfl rfl rfl ?_ | refine AL.det (AOp.call rfl rfl r1) rfl rfl rfl ?_ | refine AL.det (AOp.call rfl rfl r2) rfl rfl rfl ?_ | refine AL.det (AOp.call rfl rfl j1) rfl rfl rfl ?_ | refine AL.det (AOp.call rfl rfl p1) rfl rfl rfl ?_ | refine AL.det (AOp.call rfl rfl p2) rfl rfl rfl ?_ | refine AL.det (AOp.call rfl rfl p3) rfl rfl rfl ?_) <;> refine AL.ev rfl rfl rfl rfl ?_ <;> refine AL.nil ?_)
        | (refine AW.region_at 6 ?_ <;> (first | refine AL.det (AOp.field_at rfl rfl (by kernel_rfl) rfl) rfl rfl rfl ?_ | refine AL.det (AOp.field_ref (off := 0) rfl (by kernel_rfl)) rfl rfl rfl ?_) <;> refine AL.det (AOp.load_at rfl rfl (by kernel_rfl)) rfl rfl rfl ?_ <;> refine AL.nil ?_)
        | (refine AW.region_at 7 ?_ <;> (first | refine AL.ev rfl rfl rfl rfl ?_ | refine AL.det (AOp.add rfl rfl (by omega)) rfl rfl rfl ?_ | refine AL.det (AOp.sub rfl rfl (by omega)) rfl rfl rfl ?_ | refine AL.det (AOp.bool_eq (by kernel_rfl) rfl rfl) rfl rfl rfl ?_ | refine AL.det (AOp.bool_ne (by kernel_rfl) rfl rfl) rfl rfl rfl ?_) <;> refine AL.ev rfl rfl rfl rfl ?_ <;> refine AL.nil ?_)
        | (refine AW.region_at 8 ?_ <;> refine AL.ev rfl rfl rfl rfl ?_ <;> (first | refine AL.det (AOp.field_at rfl rfl (by kernel_rfl) rfl) rfl rfl rfl ?_ | refine AL.det (AOp.field_ref (off := 12) rfl (by kernel_rfl)) rfl rfl rfl ?_) <;> refine AL.det (AOp.load_at rfl rfl (by kernel_rfl)) rfl rfl rfl ?_ <;> (first | refine AL.det (AOp.call rfl rfl c1) rfl rfl rfl ?_ | refine AL.det (AOp.call rfl rfl t1) rfl rfl rfl ?_ | refine AL.det (AOp.call rfl rfl t2) rfl rfl rfl ?_ | refine AL.det (AOp.call rfl rfl r1) rfl rfl rfl ?_ | refine AL.det (AOp.call rfl rfl r2) rfl rfl rfl ?_ | refine AL.det (AOp.call rfl rfl j1) rfl rfl rfl ?_ | refine AL.det (AOp.call rfl rfl p1) rfl rfl rfl ?_ | refine AL.det (AOp.call rfl rfl p2) rfl rfl rfl ?_ | refine AL.det (AOp.call rfl rfl p3) rfl rfl rfl ?_) <;> (first | refine AL.det (AOp.call rfl rfl c1) rfl rfl rfl ?_ | refine AL.det (AOp.call rfl rfl t1) rfl rfl rfl ?_ | refine AL.det (AOp.call rfl rfl t2) rfl rfl rfl ?_ | refine AL.det (AOp.call rfl rfl r1) rfl rfl rfl ?_ | refine AL.det (AOp.call rfl rfl r2) rfl rfl rfl ?_ | refine AL.det (AOp.call rfl rfl j1) rfl rfl rfl ?_ | refine AL.det (AOp.call rfl rfl p1) rfl rfl rfl ?_ | refine AL.det (AOp.call rfl rfl p2) rfl rfl rfl ?_ | refine AL.det (AOp.call rfl rfl p3) rfl rfl rfl ?_) <;> (first | refine AL.det (AOp.call rfl rfl c1) rfl rfl rfl ?_ | refine AL.det (AOp.call rfl rfl t1) rfl rfl rfl ?_ | refine AL.det (AOp.call rfl rfl t2) rfl rfl rfl ?_ | refine AL.det (AOp.call rfl rfl r1) rfl rfl rfl ?_ | refine AL.det (AOp.call rfl rfl r2) rfl rfl rfl ?_ | refine AL.det (AOp.call rfl rfl j1) rfl rfl rfl ?_ | refine AL.det (AOp.call rfl rfl p1) rfl rfl rfl ?_ | refine AL.det (AOp.call rfl rfl p2) rfl rfl rfl ?_ | refine AL.det (AOp.call rfl rfl p3) rfl rfl rfl ?_) <;> refine AL.ev rfl rfl rfl rfl ?_ <;> refine AL.nil ?_)
        | (refine AW.region_at 9 ?_ <;> (first | refine AL.ev rfl rfl rfl rfl ?_ | refine AL.det (AOp.add rfl rfl (by omega)) rfl rfl rfl ?_ | refine AL.det (AOp.sub rfl rfl (by omega)) rfl rfl rfl ?_ | refine AL.det (AOp.bool_eq (by kernel_rfl) rfl rfl) rfl rfl rfl ?_ | refine AL.det (AOp.bool_ne (by kernel_rfl) rfl rfl) rfl rfl rfl ?_) <;> refine AL.ev rfl rfl rfl rfl ?_ <;> refine AL.nil ?_)
        | (refine AW.draw_at 10 rfl (by kernel_rfl) (by kernel_rfl) ?_ <;> refine AQ.ev rfl rfl rfl rfl ?_ <;> (first | refine AQ.op rfl (AOp.field_at rfl rfl (by kernel_rfl) rfl) rfl rfl ?_ | refine AQ.op rfl (AOp.field_ref (off := 12) rfl (by kernel_rfl)) rfl rfl ?_) <;> refine AQ.op rfl (AOp.load_at rfl rfl (by kernel_rfl)) rfl rfl ?_ <;> (first | refine AQ.op rfl (AOp.call rfl rfl c1) rfl rfl ?_ | refine AQ.op rfl (AOp.call rfl rfl t1) rfl rfl ?_ | refine AQ.op rfl (AOp.call rfl rfl t2) rfl rfl ?_ | refine AQ.op rfl (AOp.call rfl rfl r1) rfl rfl ?_ | refine AQ.op rfl (AOp.call rfl rfl r2) rfl rfl ?_ | refine AQ.op rfl (AOp.call rfl rfl j1) rfl rfl ?_ | refine AQ.op rfl (AOp.call rfl rfl p1) rfl rfl ?_ | refine AQ.op rfl (AOp.call rfl rfl p2) rfl rfl ?_ | refine AQ.op rfl (AOp.call rfl rfl p3) rfl rfl ?_) <;> (first | refine AQ.op rfl (AOp.field_at rfl rfl (by kernel_rfl) rfl) rfl rfl ?_ | refine AQ.op rfl (AOp.field_ref (off := 4) rfl (by kernel_rfl)) rfl rfl ?_) <;> refine AQ.op rfl (AOp.load_at rfl rfl (by kernel_rfl)) rfl rfl ?_ <;> (first | refine AQ.op rfl (AOp.call rfl rfl c1) rfl rfl ?_ | refine AQ.op rfl (AOp.call rfl rfl t1) rfl rfl ?_ | refine AQ.op rfl (AOp.call rfl rfl t2) rfl rfl ?_ | refine AQ.op rfl (AOp.call rfl rfl r1) rfl rfl ?_ | refine AQ.op rfl (AOp.call rfl rfl r2) rfl rfl ?_ | refine AQ.op rfl (AOp.call rfl rfl j1) rfl rfl ?_ | refine AQ.op rfl (AOp.call rfl rfl p1) rfl rfl ?_ | refine AQ.op rfl (AOp.call rfl rfl p2) rfl rfl ?_ | refine AQ.op rfl (AOp.call rfl rfl p3) rfl rfl ?_) <;> (first | refine AQ.op rfl (AOp.call rfl rfl c1) rfl rfl ?_ | refine AQ.op rfl (AOp.call rfl rfl t1) rfl rfl ?_ | refine AQ.op rfl (AOp.call rfl rfl t2) rfl rfl ?_ | refine AQ.op rfl (AOp.call rfl rfl r1) rfl rfl ?_ | refine AQ.op rfl (AOp.call rfl rfl r2) rfl rfl ?_ | refine AQ.op rfl (AOp.call rfl rfl j1) rfl rfl ?_ | refine AQ.op rfl (AOp.call rfl rfl p1) rfl rfl ?_ | refine AQ.op rfl (AOp.call rfl rfl p2) rfl rfl ?_ | refine AQ.op rfl (AOp.call rfl rfl p3) rfl rfl ?_) <;> refine AQ.ev rfl rfl rfl rfl ?_ <;> refine AQ.nil ?_)
        | (refine AW.region_at 11 ?_ <;> (first | refine AL.ev rfl rfl rfl rfl ?_ | refine AL.det (AOp.add rfl rfl (by omega)) rfl rfl rfl ?_ | refine AL.det (AOp.sub rfl rfl (by omega)) rfl rfl rfl ?_ | refine AL.det (AOp.bool_eq (by kernel_rfl) rfl rfl) rfl rfl rfl ?_ | refine AL.det (AOp.bool_ne (by kernel_rfl) rfl rfl) rfl rfl rfl ?_) <;> refine AL.ev rfl rfl rfl rfl ?_ <;> refine AL.nil ?_)
        | (refine AW.draw_at 12 rfl (by kernel_rfl) (by kernel_rfl) ?_ <;> refine AQ.ev rfl rfl rfl rfl ?_ <;> (first | refine AQ.op rfl (AOp.field_at rfl rfl (by kernel_rfl) rfl) rfl rfl ?_ | refine AQ.op rfl (AOp.field_ref (off := 12) rfl (by kernel_rfl)) rfl rfl ?_) <;> refine AQ.op rfl (AOp.load_at rfl rfl (by kernel_rfl)) rfl rfl ?_ <;> (first | refine AQ.op rfl (AOp.call rfl rfl c1) rfl rfl ?_ | refine AQ.op rfl (AOp.call rfl rfl t1) rfl rfl ?_ | refine AQ.op rfl (AOp.call rfl rfl t2) rfl rfl ?_ | refine AQ.op rfl (AOp.call rfl rfl r1) rfl rfl ?_ | refine AQ.op rfl (AOp.call rfl rfl r2) rfl rfl ?_ | refine AQ.op rfl (AOp.call rfl rfl j1) rfl rfl ?_ | refine AQ.op rfl (AOp.call rfl rfl p1) rfl rfl ?_ | refine AQ.op rfl (AOp.call rfl rfl p2) rfl rfl ?_ | refine AQ.op rfl (AOp.call rfl rfl p3) rfl rfl ?_) <;> (first | refine AQ.op rfl (AOp.field_at rfl rfl (by kernel_rfl) rfl) rfl rfl ?_ | refine AQ.op rfl (AOp.field_ref (off := 13) rfl (by kernel_rfl)) rfl rfl ?_) <;> refine AQ.op rfl (AOp.load_at rfl rfl (by kernel_rfl)) rfl rfl ?_ <;> (first | refine AQ.op rfl (AOp.call rfl rfl c1) rfl rfl ?_ | refine AQ.op rfl (AOp.call rfl rfl t1) rfl rfl ?_ | refine AQ.op rfl (AOp.call rfl rfl t2) rfl rfl ?_ | refine AQ.op rfl (AOp.call rfl rfl r1) rfl rfl ?_ | refine AQ.op rfl (AOp.call rfl rfl r2) rfl rfl ?_ | refine AQ.op rfl (AOp.call rfl rfl j1) rfl rfl ?_ | refine AQ.op rfl (AOp.call rfl rfl p1) rfl rfl ?_ | refine AQ.op rfl (AOp.call rfl rfl p2) rfl rfl ?_ | refine AQ.op rfl (AOp.call rfl rfl p3) rfl rfl ?_) <;> (first | refine AQ.op rfl (AOp.call rfl rfl c1) rfl rfl ?_ | refine AQ.op rfl (AOp.call rfl rfl t1) rfl rfl ?_ | refine AQ.op rfl (AOp.call rfl rfl t2) rfl rfl ?_ | refine AQ.op rfl (AOp.call rfl rfl r1) rfl rfl ?_ | refine AQ.op rfl (AOp.call rfl rfl r2) rfl rfl ?_ | refine AQ.op rfl (AOp.call rfl rfl j1) rfl rfl ?_ | refine AQ.op rfl (AOp.call rfl rfl p1) rfl rfl ?_ | refine AQ.op rfl (AOp.call rfl rfl p2) rfl rfl ?_ | refine AQ.op rfl (AOp.call rfl rfl p3) rfl rfl ?_) <;> (first | refine AQ.op rfl (AOp.call rfl rfl c1) rfl rfl ?_ | refine AQ.op rfl (AOp.call rfl rfl t1) rfl rfl ?_ | refine AQ.op rfl (AOp.call rfl rfl t2) rfl rfl ?_ | refine AQ.op rfl (AOp.call rfl rfl r1) rfl rfl ?_ | refine AQ.op rfl (AOp.call rfl rfl r2) rfl rfl ?_ | refine AQ.op rfl (AOp.call rfl rfl j1) rfl rfl ?_ | refine AQ.op rfl (AOp.call rfl rfl p1) rfl rfl ?_ | refine AQ.op rfl (AOp.call rfl rfl p2) rfl rfl ?_ | refine AQ.op rfl (AOp.call rfl rfl p3) rfl rfl ?_) <;> refine AQ.ev rfl rfl rfl rfl ?_ <;> refine AQ.nil ?_)
        | (refine AW.region_at 13 ?_ <;> (first | refine AL.ev rfl rfl rfl rfl ?_ | refine AL.det (AOp.add rfl rfl (by omega)) rfl rfl rfl ?_ | refine AL.det (AOp.sub rfl rfl (by omega)) rfl rfl rfl ?_ | refine AL.det (AOp.bool_eq (by kernel_rfl) rfl rfl) rfl rfl rfl ?_ | refine AL.det (AOp.bool_ne (by kernel_rfl) rfl rfl) rfl rfl rfl ?_) <;> refine AL.ev rfl rfl rfl rfl ?_ <;> refine AL.nil ?_)
        | (refine AW.region_at 14 ?_ <;> refine AL.ev rfl rfl rfl rfl ?_ <;> refine AL.ev rfl rfl rfl rfl ?_ <;> refine AL.nil ?_)
        | refine AW.cond_true rfl ?_
        | refine AW.cond_false rfl ?_
        | refine AW.block ?_
        | refine AW.endblk ?_
        | refine AW.skip ?_
        | refine AW.exit rfl ?_
        | refine AW.label ?_
        | refine AW.cond rfl (fun hb => ?_) (fun hb => ?_))
      all_goals try (exfalso; simp only [decide_eq_true_eq, decide_eq_false_iff_not, List.length_map, beq_iff_eq, beq_eq_false_iff_ne, ne_eq] at *; omega)
      all_goals simp only [beq_iff_eq, beq_eq_false_iff_ne, ne_eq] at *
      all_goals first
        | exact AW.again_keep (l.length - (i + 1)) [3, 6, 7, 8] (by omega) ⟨i + 1, plusP (plusP out [1]) (raisedP (timeL x.Body []) 1), hlt, rfl, rfl, rfl, plusP_ok ho1 (raisedP_ok f1.1), by omega, by rw [he, if_pos (by assumption)]⟩
        | exact AW.again_keep (l.length - (i + 1)) [3, 6, 7, 8] (by omega) ⟨i + 1, plusP (plusP out [1]) (raisedP (timeL x.Body []) x.N.toNat), hlt, rfl, rfl, rfl, plusP_ok ho1 (raisedP_ok f1.1), by omega, by rw [he, if_neg (by assumption), if_pos (by assumption)]⟩
        | exact AW.again_keep (l.length - (i + 1)) [3, 6, 7, 8] (by omega) ⟨i + 1, plusP (plusP out [1]) (joinP max (timeL x.Body []) (timeL x.Else [])), hlt, rfl, rfl, rfl, plusP_ok ho1 (joinP_ok f1.1 f2.1 fun a b h1 h2 => by omega), by omega, by rw [he, if_neg (by assumption), if_neg (by assumption), if_pos (by assumption)]⟩
        | exact AW.again_keep (l.length - (i + 1)) [3, 6, 7, 8] (by omega) ⟨i + 1, plusP out [1], hlt, rfl, rfl, rfl, ho1, by omega, by rw [he, if_neg (by assumption), if_neg (by assumption), if_neg (by assumption)]⟩
    · rw [List.drop_eq_nil_of_le (by omega), timeL] at he
      repeat' (first
        | refine AW.seq ?_
        | (refine AW.region_at 3 ?_ <;> (first | refine AL.ev rfl rfl rfl rfl ?_ | refine AL.det (AOp.add rfl rfl (by omega)) rfl rfl rfl ?_ | refine AL.det (AOp.sub rfl rfl (by omega)) rfl rfl rfl ?_ | refine AL.det (AOp.bool_eq (by kernel_rfl) rfl rfl) rfl rfl rfl ?_ | refine AL.det (AOp.bool_ne (by kernel_rfl) rfl rfl) rfl rfl rfl ?_) <;> refine AL.nil ?_)
        | (refine AW.region_at 14 ?_ <;> refine AL.ev rfl rfl rfl rfl ?_ <;> refine AL.ev rfl rfl rfl rfl ?_ <;> refine AL.nil ?_)
        | refine AW.cond_true rfl ?_
        | refine AW.cond_false rfl ?_
        | refine AW.block ?_
        | refine AW.endblk ?_
        | refine AW.skip ?_
        | refine AW.exit rfl ?_
        | refine AW.label ?_
        | refine AW.cond rfl (fun hb => ?_) (fun hb => ?_))
      all_goals first
        | (exfalso; simp only [decide_eq_true_eq, decide_eq_false_iff_not, List.length_map] at *; omega)
        | exact AW.retv rfl ⟨by rw [he], rfl⟩
        | exact AW.donev rfl ⟨by rw [he], rfl⟩
end Go.Proofs.Ytdedkpfbfklgbaa
