import Derived.Test.YtfannnojhkkaiaaYKingAgrees45
import Derived.Test.YtfannnojhkkaiaaYKingAgrees27
import Derived.Test.YtfannnojhkkaiaaYKingAgrees11
import Derived.Test.YtfannnojhkkaiaaYKingAgrees29
import Derived.Test.YtfannnojhkkaiaaYKingAgrees31
import Derived.Test.YtfannnojhkkaiaaYKingAgrees34
import Derived.Test.YtfannnojhkkaiaaYKingAgrees32
import Derived.Test.YtfannnojhkkaiaaYKingAgrees23
set_option linter.unusedVariables false
set_option linter.unusedSimpArgs false
set_option linter.unusedSectionVars false
namespace Go.Proofs.Ytfannnojhkkaiaa.KingLib
open Go.RowKit Go.Proofs.Ytfannnojhkkaiaa.X Go.Proofs.YtfannnojhkkaiaaW.PrintWords Go.Proofs.YtfannnojhkkaiaaW.PrintMore Go.Proofs.Ytfannnojhkkaiaa.ConfLib Go.Proofs.Ytfannnojhkkaiaa.TallyLib
abbrev Bit := S52
abbrev Cf := S24
abbrev rdB := rd_T52
section
variable (n f d p r dr o s m fr : Int) (t F L : List Int)
abbrev votes (x : Int) (B : List Bit) (i : Int) : List Int := king_play_votes.votes n F L B x i
def bitNext (x : Int) (B : List Bit) (j : Int) : Bit := ⟨(step n f d p r dr o s m fr t x (rdB B j).f0 (rdB B j).f1 (rd (votes n F L x B j) (x / 3)) (votes n F L x B j)).1, (step n f d p r dr o s m fr t x (rdB B j).f0 (rdB B j).f1 (rd (votes n F L x B j) (x / 3)) (votes n F L x B j)).2⟩
def exch (x : Int) (B : List Bit) : List Bit := (List.range n.toNat).map (fun (j : Nat) => bitNext n f d p r dr o s m fr t F L x B (j : Int))
def run : Nat → Int → List Bit → List Bit
  | 0, _, B => B
  | q + 1, x, B => run q (x + 1) (exch n f d p r dr o s m fr t F L x B)
theorem exch_len (x : Int) (B : List Bit) : (exch n f d p r dr o s m fr t F L x B).length = n.toNat := by simp [exch]
theorem exch_get (x : Int) (B : List Bit) {j : Nat} (hj : j < n.toNat) : rdB (exch n f d p r dr o s m fr t F L x B) (j : Int) = bitNext n f d p r dr o s m fr t F L x B (j : Int) := by
  simp [rd_T52, exch, List.getD_eq_getElem?_getD, hj]
theorem exchange_at (hn : n ≤ 13) (x : Int) (B : List Bit) {k : Nat} (hk : 10 < k) : ∀ js : List Nat, king_play_exchange.f k (⟨n, f, d, p, r, dr, o, s, m, fr, t⟩ : Cf) F L x B js = some (js.map (fun (j : Nat) => bitNext n f d p r dr o s m fr t F L x B (j : Int)))
  | [] => rfl
  | j :: js => by
    have hl : (votes n F L x B (j : Int)).length ≤ 1000000 := by rw [king_play_votes.votes_len]; omega
    unfold king_play_exchange.f
    rw [step_at n f d p r dr o s m fr t _ _ _ _ _ hl hk, exchange_at hn x B hk js]
    rfl
theorem run_at (hn : n ≤ 13) {k : Nat} (hk : 10 < k) : ∀ (q : Nat) (x : Int) (B : List Bit), king_Play.run k (⟨n, f, d, p, r, dr, o, s, m, fr, t⟩ : Cf) F L q x B = some (run n f d p r dr o s m fr t F L q x B)
  | 0, _, _ => rfl
  | q + 1, x, B => by
    unfold king_Play.run run
    rw [exchange_at n f d p r dr o s m fr t F L hn x B hk]
    exact run_at hn hk q (x + 1) _
def play (bits : List Int) : List Int := if plain n f d p r dr o s m fr t = 0 then king_play_ends.ends F (run n f d p r dr o s m fr t F L (3 * (f + 1)).toNat 0 (king_Play.first n bits)) else []
theorem play_at (hF : F.length ≤ 20) (bits : List Int) {k : Nat} (hk : 30 < k) : king_Play.f k n f d p r dr o s m fr t bits F L = some (play n f d p r dr o s m fr t F L bits) := by
  unfold king_Play.f play
  rw [plain_at n f d p r dr o s m fr t (by omega)]
  simp only [Option.bind_some]
  by_cases hp : plain n f d p r dr o s m fr t = 0
  · have hb := plain_facts hp
    rw [if_pos hp, if_pos hp, if_pos (by omega), rounds_at n f d p r dr o s m fr t (by omega)]
    simp only [Option.bind_some]
    rw [show ConfLib.rounds n f d p r dr o s m fr t = 3 * (f + 1) from by unfold ConfLib.rounds; rw [if_pos hp], if_pos (by omega), run_at n f d p r dr o s m fr t F L (by omega) (by omega)]
    rfl
  · rw [if_neg hp, if_neg hp]
theorem run_len : ∀ (q : Nat) (x : Int) (B : List Bit), B.length = n.toNat → (run n f d p r dr o s m fr t F L q x B).length = n.toNat
  | 0, _, _, h => h
  | q + 1, x, B, h => run_len q (x + 1) _ (exch_len n f d p r dr o s m fr t F L x B)
def at_ (bits : List Int) : Nat → List Bit
  | 0 => king_Play.first n bits
  | x + 1 => exch n f d p r dr o s m fr t F L (x : Int) (at_ bits x)
theorem run_at_ (bits : List Int) : ∀ (q x : Nat), run n f d p r dr o s m fr t F L q (x : Int) (at_ n f d p r dr o s m fr t F L bits x) = at_ n f d p r dr o s m fr t F L bits (x + q)
  | 0, _ => rfl
  | q + 1, x => by
    unfold run
    have := run_at_ bits q (x + 1)
    rw [show x + (q + 1) = x + 1 + q by omega, ← this]
    rfl
theorem at_len (bits : List Int) (x : Nat) : (at_ n f d p r dr o s m fr t F L bits x).length = n.toNat := by
  cases x with
  | zero => exact king_Play.first_len n bits
  | succ x => exact exch_len n f d p r dr o s m fr t F L _ _
end
section
variable (n f d p r dr o s m fr : Int) (t F L : List Int)
theorem succ_w {i : Nat} (h : i ≤ 1000) : wrap64 ((i : Int) + 1) = ((i + 1 : Nat) : Int) := by
  rw [ConfLib.wrap_small (by omega) (by omega)]
  rfl
theorem take_map_succ {α : Type} (g : Nat → α) {m j : Nat} (hj : j < m) : (((List.range m).map g).take j) ++ [g j] = ((List.range m).map g).take (j + 1) := by
  rw [List.take_succ_eq_append_getElem (by simpa using hj)]
  simp
end
end Go.Proofs.Ytfannnojhkkaiaa.KingLib
