/- Contracts: the end of Run: the machine runs. -/
import Derived.Test.YtdedkpfbfklgbaaC26
import Derived.Test.YtdedkpfbfklgbaaS3
namespace Go.Proofs.Ytdedkpfbfklgbaa
open Go.RowKit Go.SX
set_option maxRecDepth 100000
set_option maxHeartbeats 4000000
set_option linter.unusedVariables false
set_option linter.unusedSimpArgs false

def RunPost (c : GCode) (s : GStr) (G : List Bool) (fuel : Int) : AEnd → AH → Prop := fun x _ => ∃ b n g e, RunR c s G fuel b n g e ∧ x = .ret (.tup [.bool b, .int .i64 n, .int .i64 g, .int .i64 e])
/-- The slots that are looked at further on. -/
def runAF (c : GCode) (s : GStr) (G : List Bool) (fuel : Int) (b r1 r2 r3 r4 mb : Nat) : AF := [(2, bools G), (3, .int .i64 fuel), (4, .at c.av), (5, .at s.av), (8, .ref r1 0), (9, .ref r2 0), (10, .ref r3 0), (11, .ref r4 0), (12, .ref b 0), (15, .ref mb 0)]
def sigOf (c : GCode) (k : ByteArray) : Option Nat := match lookA (checkedP c).A k with | some a => some a.toNat | none => (lookA (checkedP c).S k).map Int.toNat
theorem perm_three (a b c : AH) : (a ++ b ++ c).Perm (c ++ (a ++ b)) := List.perm_append_comm
theorem run_t8 (c : GCode) (s : GStr) (G : List Bool) (fuel : Int) (hc : c.Ok) (hok : RunOk c s fuel) (hck : ChkOk c) (b ba bs r1 r2 r3 r4 : Nat) (gA : MG) (B : Blk)
    (hm : MFit c.Flags.toNat c.Regs.toNat (sigOf c) ⟨s.Size, G, fuel⟩ B (m0 c s)) (Fr : Rg) (w0 : World) :
    AW (CofD Try.prog Try.f10 179 Fr (reg []) w0 (RunPost c s G fuel)) [] [.c (fst1 (sndN 8 (bodyOf Try.f10))), .c (sndN 9 (bodyOf Try.f10))] (runAF c s G fuel b r1 r2 r3 r4 B.mb) ((checkedP c).ah b ba bs gA ++ resAH r1 r2 r3 r4 false 0 0 0 ++ (m0 c s).ah ⟨s.Size, G, fuel⟩ B) := by
  obtain ⟨_, _, hca, hcb1, hcb2⟩ := hc
  have hlist := mach_list (F := c.Flags.toNat) (R := c.Regs.toNat) (sig := sigOf c) (E := ⟨s.Size, G, fuel⟩) (B := B) (cntL c.Body) c.Body (Nat.le_refl _) (by omega) hcb2 hck.body
  have hall := (hlist (m0 c s) hm).behind ((checkedP c).ah b ba bs gA ++ resAH r1 r2 r3 r4 false 0 0 0)
  -- refine Tri.enterD 179 Try.func10 rfl rfl rfl rfl fun Fr w0 => ?_
  repeat' (first
    | refine AW.seq ?_
    | (refine AW.region_at 32 ?_ <;> refine AL.ev rfl rfl rfl rfl ?_ <;> refine AL.defer rfl rfl rfl ?_ <;> refine AL.nil ?_)
    | refine AW.cond_true rfl ?_
    | refine AW.cond_false rfl ?_
    | refine AW.block ?_
    | refine AW.endblk ?_
    | refine AW.skip ?_
    | refine AW.exit rfl ?_
    | refine AW.label ?_
    | refine AW.cond rfl (fun hb => ?_) (fun hb => ?_))
  refine AW.perm (perm_three _ _ _) ?_
  refine AW.region_at 33 ?_
  refine AL.ev rfl rfl rfl rfl ?_
  refine AL.det (AOp.field_at rfl rfl (by kernel_rfl) rfl) rfl rfl rfl ?_
  refine AL.det (AOp.load_at rfl rfl (by kernel_rfl)) rfl rfl rfl ?_
  refine AL.stepF rfl rfl (AOp.call rfl rfl hall) ?_ ?_
  · rintro v ah' ⟨_, ⟨o, m', hex, hfit, hle, rfl, hend⟩, rfl⟩
    cases o with
    | some e => cases hend
    | none =>
      cases hend
      refine AL.nil ?_
      refine AW.perm (perm_three _ _ _).symm ?_
      refine AW.prune [8, 9, 10, 11, 15] ?_
      refine AW.seq ?_
      have hfl := hfit.flen
      have g0 := flag_get (fl := m'.flags) (x := 0) (by have := hfit.fl; omega)
      refine AW.explore [false, false, false, true, true, true, true] [14, 15, 16, 17] rfl (by kernel_rfl) (by kernel_rfl) (by kernel_rfl) (by kernel_rfl) ?_
      repeat' (first
        | refine AQE.hole rfl rfl ?_
        | refine AQE.ev rfl rfl rfl rfl ?_
        | refine AQE.op rfl (AOp.field_ref (k := 1) (off := 1) rfl (by kernel_rfl)) rfl rfl ?_
        | refine AQE.op rfl (AOp.field_ref (k := 5) (off := 5) rfl (by kernel_rfl)) rfl rfl ?_
        | refine AQE.op rfl (AOp.field_ref (k := 6) (off := 6) rfl (by kernel_rfl)) rfl rfl ?_
        | refine AQE.op rfl (AOp.load_leaf 3 rfl rfl rfl rfl (by kernel_rfl)) rfl rfl ?_
        | refine AQE.op rfl (AOp.index_osl rfl rfl (by omega) (by have := hfit.fl; omega) (by kernel_rfl)) rfl rfl ?_
        | refine AQE.op rfl (AOp.load_cell 4 rfl rfl g0 rfl (by kernel_rfl)) rfl rfl ?_
        | refine AQE.nil ?_)
      refine AX.one (n := 3) 14 rfl ?_
      refine AXS.step (i := 14) rfl rfl rfl (AOp.store_box (i := 0) (g := false) rfl rfl rfl rfl rfl (by kernel_rfl)) ?_ (by rintro _ _ ⟨⟨_, e⟩, _⟩; cases e)
      rintro _ _ ⟨⟨_, e⟩, rfl⟩
      cases e
      dsimp only [List.set_cons_succ, List.set_cons_zero]
      refine AX.one (n := 2) 15 rfl ?_
      refine AXS.step (i := 15) rfl rfl rfl (AOp.store_box (i := 1) (g := false) rfl rfl rfl rfl rfl (by kernel_rfl)) ?_ (by rintro _ _ ⟨⟨_, e⟩, _⟩; cases e)
      rintro _ _ ⟨⟨_, e⟩, rfl⟩
      cases e
      dsimp only [List.set_cons_succ, List.set_cons_zero]
      refine AX.one (n := 1) 16 rfl ?_
      refine AXS.step (i := 16) rfl rfl rfl (AOp.store_box (i := 2) (g := false) rfl rfl rfl rfl rfl (by kernel_rfl)) ?_ (by rintro _ _ ⟨⟨_, e⟩, _⟩; cases e)
      rintro _ _ ⟨⟨_, e⟩, rfl⟩
      cases e
      dsimp only [List.set_cons_succ, List.set_cons_zero]
      refine AX.one (n := 0) 17 rfl ?_
      refine AXS.step (i := 17) rfl rfl rfl (AOp.store_box (i := 3) (g := false) rfl rfl rfl rfl rfl (by kernel_rfl)) ?_ (by rintro _ _ ⟨⟨_, e⟩, _⟩; cases e)
      rintro _ _ ⟨⟨_, e⟩, rfl⟩
      cases e
      dsimp only [List.set_cons_succ, List.set_cons_zero]
      refine AX.done [(8, .ref r1 0), (9, .ref r2 0), (10, .ref r3 0), (11, .ref r4 0)] rfl ?_
      refine AW.retD1 (cs := [.pointer (some ⟨r1, 0, none⟩), .pointer (some ⟨r2, 0, none⟩), .pointer (some ⟨r3, 0, none⟩), .pointer (some ⟨r4, 0, none⟩)]) rfl ((TriD.frame [true, true, true, true] (run_return r1 r2 r3 r4 (flagAt m'.flags 0) m'.steps m'.used 0)).mono ?_)
      rintro u' h ⟨_, ⟨rfl, rfl⟩, rfl⟩
      exact ⟨rfl, _, .cell 0 rfl rfl (by kernel_rfl) (.cell 1 rfl rfl (by kernel_rfl) (.cell 2 rfl rfl (by kernel_rfl) (.cell 3 rfl rfl (by kernel_rfl) .nil))), _, _, _, _, .ok hok hex, rfl⟩
  · rintro v ah' ⟨_, ⟨o, m', hex, hfit, hle, rfl, hend⟩, rfl⟩
    cases o with
    | none => cases hend
    | some e =>
      cases hend
      refine APanF.perm (perm_three _ _ _).symm ?_
      refine APanF.of1 (cs := [.pointer (some ⟨r1, 0, none⟩), .pointer (some ⟨r2, 0, none⟩), .pointer (some ⟨r3, 0, none⟩), .pointer (some ⟨r4, 0, none⟩)]) rfl rfl ((TriD.frame [false, false, false, true, true, true, true] (run_panic r1 r2 r3 r4 false 0 0 0 e)).mono ?_)
      rintro u' h ⟨_, ⟨rfl, rfl⟩, rfl⟩
      exact ⟨rfl, _, .cell 0 rfl rfl (by kernel_rfl) (.cell 1 rfl rfl (by kernel_rfl) (.cell 2 rfl rfl (by kernel_rfl) (.cell 3 rfl rfl (by kernel_rfl) .nil))), _, _, _, _, .stop hok hex, rfl⟩
end Go.Proofs.Ytdedkpfbfklgbaa
