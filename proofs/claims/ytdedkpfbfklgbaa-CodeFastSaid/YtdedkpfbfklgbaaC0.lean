/- What the arguments of the code laws read as. -/
import Derived.Test.YtdedkpfbfklgbaaProg
import Derived.Test.YtdedkpfbfklgbaaS2
namespace Go.Proofs.Ytdedkpfbfklgbaa
open Go.RowKit Go.SX
set_option maxRecDepth 100000
set_option linter.unusedVariables false

section
variable {H : Type} {enc : TypeId × Value → H} {w : World}
theorem rdInt (N : Nat) : Rd enc Try.prog w N 3 iav iOk := Rd.int' (by kernel_rfl)
theorem rdStr (N : Nat) : Rd enc Try.prog w N 9 AV.str strOk := Rd.str' (by kernel_rfl)
theorem rdBool (N : Nat) : Rd enc Try.prog w N 4 bav (fun _ => True) := Rd.bool' (by kernel_rfl)
theorem rdInts (N : Nat) : Rd enc Try.prog w N 33 ints (lenOk 8 iOk) := Rd.slice' (by kernel_rfl) (rdInt N)
theorem rdBools (N : Nat) : Rd enc Try.prog w N 29 bools (lenOk 1 fun _ => True) := Rd.slice' (by kernel_rfl) (rdBool N)
theorem rdIntss (N : Nat) : Rd enc Try.prog w N 46 (fun l => .sl (l.map ints)) (lenOk 24 (lenOk 8 iOk)) := Rd.slice' (by kernel_rfl) (rdInts N)
theorem rdSym : ∀ N : Nat, Rd enc Try.prog w N 79 GSym.av GSym.Ok := Rd.of_succ fun N =>
  Rd.of_q (RdQ.struct' (by kernel_rfl) (.cons (rdStr N).q (.cons (rdInt N).q (.nil)))) fun v h => by
    obtain ⟨vs, rfl, h⟩ := h
    obtain ⟨_, v1, rfl, ⟨a, rfl, ha⟩, h1⟩ := h.un
    obtain ⟨_, v2, rfl, ⟨b, rfl, hb⟩, h2⟩ := h1.un
    obtain rfl := h2.un0
    exact ⟨⟨a, b⟩, rfl, ha, hb⟩
theorem rdSyms (N : Nat) : Rd enc Try.prog w N 22 (fun l => .sl (l.map GSym.av)) (lenOk 24 GSym.Ok) := Rd.slice' (by kernel_rfl) (rdSym N)
theorem rdRel : ∀ N : Nat, Rd enc Try.prog w N 48 GRel.av GRel.Ok := Rd.of_succ fun N =>
  Rd.of_q (RdQ.struct' (by kernel_rfl) (.cons (rdStr N).q (.cons (rdInt N).q (.cons (rdIntss N).q (.nil))))) fun v h => by
    obtain ⟨vs, rfl, h⟩ := h
    obtain ⟨_, v1, rfl, ⟨a, rfl, ha⟩, h1⟩ := h.un
    obtain ⟨_, v2, rfl, ⟨b, rfl, hb⟩, h2⟩ := h1.un
    obtain ⟨_, v3, rfl, ⟨c, rfl, hc⟩, h3⟩ := h2.un
    obtain rfl := h3.un0
    exact ⟨⟨a, b, c⟩, rfl, ha, hb, hc⟩
theorem rdStr_ : ∀ N : Nat, Rd enc Try.prog w N 28 GStr.av GStr.Ok := Rd.of_succ fun N =>
  Rd.of_q (RdQ.struct' (by kernel_rfl) (.cons (rdInt N).q (.cons (Rd.slice' (T := 26) (n := 48) (by kernel_rfl) (rdRel N)).q (.nil)))) fun v h => by
    obtain ⟨vs, rfl, h⟩ := h
    obtain ⟨_, v1, rfl, ⟨a, rfl, ha⟩, h1⟩ := h.un
    obtain ⟨_, v2, rfl, ⟨b, rfl, hb⟩, h2⟩ := h1.un
    obtain rfl := h2.un0
    exact ⟨⟨a, b⟩, rfl, ha, hb⟩
theorem rdLit : ∀ N : Nat, Rd enc Try.prog w N 54 GLit.av GLit.Ok := Rd.of_succ fun N =>
  Rd.of_q (RdQ.struct' (by kernel_rfl) (.cons (rdInt N).q (.cons (rdBool N).q (.cons (rdStr N).q (.cons (rdInts N).q (.nil)))))) fun v h => by
    obtain ⟨vs, rfl, h⟩ := h
    obtain ⟨_, v1, rfl, ⟨a, rfl, ha⟩, h1⟩ := h.un
    obtain ⟨_, v2, rfl, ⟨b, rfl, hb⟩, h2⟩ := h1.un
    obtain ⟨_, v3, rfl, ⟨c, rfl, hc⟩, h3⟩ := h2.un
    obtain ⟨_, v4, rfl, ⟨d, rfl, hd⟩, h4⟩ := h3.un
    obtain rfl := h4.un0
    exact ⟨⟨a, b, c, d⟩, rfl, ha, hc, hd⟩
theorem rdStmt : ∀ N : Nat, Rd enc Try.prog w N 56 GStmt.av GStmt.Ok := Rd.all fun N ih =>
  Rd.of_q (RdQ.struct' (by kernel_rfl) (.cons (rdInt N).q (.cons (rdInt N).q (.cons (rdInt N).q (.cons (rdInt N).q (.cons (rdInt N).q (.cons (rdStr N).q (.cons (rdStr N).q (.cons (rdLit N).q (.cons (rdInts N).q (.cons (Rd.slice' (T := 23) (n := 200) (by kernel_rfl) ih).q (.cons (Rd.slice' (T := 23) (n := 200) (by kernel_rfl) ih).q (.nil))))))))))))) fun v h => by
    obtain ⟨vs, rfl, h⟩ := h
    obtain ⟨_, v1, rfl, ⟨a, rfl, ha⟩, h1⟩ := h.un
    obtain ⟨_, v2, rfl, ⟨b, rfl, hb⟩, h2⟩ := h1.un
    obtain ⟨_, v3, rfl, ⟨c, rfl, hc⟩, h3⟩ := h2.un
    obtain ⟨_, v4, rfl, ⟨d, rfl, hd⟩, h4⟩ := h3.un
    obtain ⟨_, v5, rfl, ⟨e, rfl, he⟩, h5⟩ := h4.un
    obtain ⟨_, v6, rfl, ⟨f, rfl, hf⟩, h6⟩ := h5.un
    obtain ⟨_, v7, rfl, ⟨g, rfl, hg⟩, h7⟩ := h6.un
    obtain ⟨_, v8, rfl, ⟨i, rfl, hi⟩, h8⟩ := h7.un
    obtain ⟨_, v9, rfl, ⟨j, rfl, hj⟩, h9⟩ := h8.un
    obtain ⟨_, v10, rfl, ⟨k, rfl, hk⟩, h10⟩ := h9.un
    obtain ⟨_, v11, rfl, ⟨l, rfl, hl⟩, h11⟩ := h10.un
    obtain rfl := h11.un0
    exact ⟨⟨a, b, c, d, e, f, g, i, j, k, l⟩, by rw [GStmt.av_eq]; rfl, .mk ⟨ha, hb, hc, hd, he, hf, hg, hi, hj⟩ hk.1 hk.2 hl.1 hl.2⟩
theorem rdCode : ∀ N : Nat, Rd enc Try.prog w N 25 GCode.av GCode.Ok := Rd.of_succ fun N =>
  Rd.of_q (RdQ.struct' (by kernel_rfl) (.cons (rdInt N).q (.cons (rdInt N).q (.cons (rdSyms N).q (.cons (Rd.slice' (T := 23) (n := 200) (by kernel_rfl) (rdStmt N)).q (.nil)))))) fun v h => by
    obtain ⟨vs, rfl, h⟩ := h
    obtain ⟨_, v1, rfl, ⟨a, rfl, ha⟩, h1⟩ := h.un
    obtain ⟨_, v2, rfl, ⟨b, rfl, hb⟩, h2⟩ := h1.un
    obtain ⟨_, v3, rfl, ⟨c, rfl, hc⟩, h3⟩ := h2.un
    obtain ⟨_, v4, rfl, ⟨d, rfl, hd⟩, h4⟩ := h3.un
    obtain rfl := h4.un0
    exact ⟨⟨a, b, c, d⟩, rfl, ha, hb, hc, hd⟩
theorem rdStart : ∀ N : Nat, Rd enc Try.prog w N 42 (fun x : List Bool × Int => .st [bools x.1, iav x.2]) (fun x => lenOk 1 (fun _ => True) x.1 ∧ iOk x.2) := Rd.of_succ fun N =>
  Rd.of_q (RdQ.struct' (by kernel_rfl) (.cons (rdBools N).q (.cons (rdInt N).q .nil))) fun v h => by
    obtain ⟨vs, rfl, h⟩ := h
    obtain ⟨_, v1, rfl, ⟨a, rfl, ha⟩, h1⟩ := h.un
    obtain ⟨_, v2, rfl, ⟨b, rfl, hb⟩, h2⟩ := h1.un
    obtain rfl := h2.un0
    exact ⟨⟨a, b⟩, rfl, ha, hb⟩
end
end Go.Proofs.Ytdedkpfbfklgbaa
