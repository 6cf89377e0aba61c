/- This text is this session's own, not the print's: a program (wip/shake.py) left out of the print's words what nothing here names. -/
/- This text is this session's own: written by a program of its own that goes the same way as print.sh (wip/ownprint.py says what it does otherwise). -/
-- PRINTED WORDS (module Derived/Print/More.lean): go-gate-2's additions: an AI agent of Go's test side, Tue Nov 17 2026; no person has read it. Lean checks it.
import Derived.Test.YtfakhgopbhnocaaWWords
import Derived.Test.YtfakhgopbhnocaaWLast
import Derived.Test.YtfakhgopbhnocaaWQPut
import Derived.Test.YtfakhgopbhnocaaWApart
import Derived.Test.YtfakhgopbhnocaaWZeros
import Derived.Test.YtfakhgopbhnocaaWFoot
import Derived.Test.YtfakhgopbhnocaaWKept
import Derived.Test.YtfakhgopbhnocaaWNEv
namespace Go.Proofs.YtfakhgopbhnocaaW.PrintMore
open Go.RowKit Go.Proofs.YtfakhgopbhnocaaW.PrintWords
namespace Kd
open Go.Proofs.YtfakhgopbhnocaaW.PrintWords.Kd
end Kd
namespace Kd
open Go.Proofs.YtfakhgopbhnocaaW.PrintWords.Kd
section
variable {α : Type} {d : Kd α} {e base g N : Nat} {ok : Nat → Prop} {W w1 : World} {u v : Value} {xs : List α}
theorem R_old (hu : d.R e W base ok u xs) (hb : Below W.heap.size W w1) : d.R e w1 base (fun k => ok k ∧ k < W.heap.size) u xs :=
  R_mono (R_below (R_bound hu) hb) (fun _ h => ⟨h.1, h.2.2.1⟩)
theorem R_told (h : d.R e w1 base (fun k => ok k ∧ k < N) u xs) (hbase : ∀ k, v.ownBlock = some k → N ≤ k) : d.R e w1 base (fun k => (ok k ∧ some k ≠ v.ownBlock) ∧ k < N) u xs :=
  R_mono h (fun k hk => ⟨⟨hk.1, fun e => Nat.lt_irrefl _ (Nat.lt_of_lt_of_le hk.2 (hbase k e.symm))⟩, hk.2⟩)
end
end Kd
end Go.Proofs.YtfakhgopbhnocaaW.PrintMore
namespace Go.Proofs.YtfakhgopbhnocaaW.PrintWords
open Go.RowKit
section
variable {P : Program} {ops : Array Oper} {rest : List Oper} {o : Oper} {a : Act} {Q : Exit → Act → World → Prop} {W : World}
end
def mx (a b : Int) : Int := if a < b then b else a
def mn (a b : Int) : Int := if b < a then b else a
def shl (k : IntKind) (x y : Int) : Int := k.wrap (x * 2 ^ min y.toNat k.bits)
def shr (k : IntKind) (x y : Int) : Int := x / 2 ^ min y.toNat k.bits
namespace Kd
section
variable {α : Type} {d : Kd α} {e base : Nat} {ok : Nat → Prop} {W w1 : World} {v : Value} {xs : List α}
end
section
variable {α : Type} {d : Kd α} {e base g n cap : Nat} {ok oki okp : Nat → Prop} {W : World} {xs : List α} {i : Int} {c : List Value}
end
section
variable {α : Type} {d : Kd α} {e base b b' g N : Nat} {ok ok1 : Nat → Prop} {W W2 w1 : World} {u v : Value} {xs ys : List α} {S : Nat → Prop}
end
end Kd
end Go.Proofs.YtfakhgopbhnocaaW.PrintWords
namespace Go.Proofs.YtfakhgopbhnocaaW.PrintWords
open Go.RowKit
namespace Kd
def V {α : Type} (d : Kd α) (_e : Nat) (W : World) (_base : Nat) (ok : Nat → Prop) (v : Value) (xs : List α) : Prop := ∃ A c, v = .slice A xs.length c ∧ xs.length ≤ c ∧ F d W ok A xs.length xs
section
variable {α β : Type} {d : Kd α} {e base base' n m c g N' lo hi : Nat} {ok ok' S : Nat → Prop} {w W w1 : World} {A : Option Addr} {ad : Addr} {u v v1 : Value} {xs : List α}
end
end Kd
end Go.Proofs.YtfakhgopbhnocaaW.PrintWords
