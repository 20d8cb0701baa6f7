import Derived.Test.YthblnnboeikgcaaYAgreeTogether50
import Derived.Test.YthblnnboeikgcaaYAgreeTogether51
set_option linter.unusedVariables false
set_option linter.unusedSimpArgs false
set_option linter.unusedSectionVars false
namespace Go.Proofs.Ythblnnboeikgcaa.AgreeLib
open Go.RowKit Go.Proofs.Ythblnnboeikgcaa.X Go.Proofs.YthblnnboeikgcaaW.PrintWords Go.Proofs.YthblnnboeikgcaaW.PrintMore Go.Proofs.Ythblnnboeikgcaa.ConfLib Go.Proofs.Ythblnnboeikgcaa.TallyLib Go.Proofs.Ythblnnboeikgcaa.KingLib Go.Proofs.Ythblnnboeikgcaa.VecLib Go.Proofs.Ythblnnboeikgcaa.PlanLib
abbrev Now := S26
abbrev rdN := rd_T26
abbrev mt : ByteArray := (⟨#[]⟩ : ByteArray)
abbrev rdS := rdOf ByteArray.empty
def zeroP : Packet := ⟨mt, 0, mt, 0, 0, mt⟩
theorem rdN_range (g : Nat → Now) {m i : Nat} (hi : i < m) : rdN ((List.range m).map g) (i : Int) = g i := by
  simp [rd_T26, List.getD_eq_getElem?_getD, hi]
theorem rdP_range (g : Nat → Packet) {m i : Nat} (hi : i < m) : rdP ((List.range m).map g) (i : Int) = g i := by
  simp [rd_T85, List.getD_eq_getElem?_getD, hi]
theorem rdL_range (g : Nat → List Packet) {m i : Nat} (hi : i < m) : rd_L9 ((List.range m).map g) (i : Int) = g i := by
  simp [rd_L9, List.getD_eq_getElem?_getD, hi]
section
variable (n f d p r dr o s m fr : Int) (t nums : List Int) (saw : List ByteArray) (F : List Int) (L : List Packet)
def lie (u k i : Int) : Packet := if L.length = 0 then zeroP else rdP L (((u * n + k) * n + i) % (L.length : Int))
def told (q : Now) : Packet := ⟨mt, (tell n f d p r dr o s m fr t q.f0 q.f1).1, (tell n f d p r dr o s m fr t q.f0 q.f1).2, 0, 0, mt⟩
def pk (T : List (List Packet)) (u k i : Int) : Packet := if u < 0 then zeroP else if F.contains k then lie n L u k i else rdP (rd_L9 T u) k
def pks (T : List (List Packet)) (u i : Int) : List Packet := (List.range n.toNat).map (fun k : Nat => pk n F L T u (k : Int) i)
def stepN (T : List (List Packet)) (u : Int) (q : Now) (i : Int) : Now := ⟨(stepA n f d p r dr o s m fr t q.f0 q.f1 q.f2 (pks n F L T u i)).1, (stepA n f d p r dr o s m fr t q.f0 q.f1 q.f2 (pks n F L T u i)).2.1, (stepA n f d p r dr o s m fr t q.f0 q.f1 q.f2 (pks n F L T u i)).2.2⟩
def VSg (g : Nat → ByteArray) (x i : Nat) : List ByteArray := (List.range n.toNat).map (fun k : Nat => if F.contains (k : Int) then vote_ (x : Int) (lie n L ((x : Int) * d) (k : Int) (i : Int)) else txt (vec_Values.digits (g k)))
def now : Nat → Nat → ByteArray
  | 0, i => begin_ n f d p r dr o s m fr t (rd nums (i : Int)) (rdS saw (i : Int))
  | x + 1, i => txt (stepD n f d p r dr o s m fr t (x : Int) (now x i) ((VSg n d F L (now x) x i).getD (x / 3) ByteArray.empty) (VSg n d F L (now x) x i))
abbrev NW (x i : Nat) : ByteArray := now n f d p r dr o s m fr t nums saw F L x i
def st (q i : Nat) : Now := if (q : Int) < 3 * (f + 1) * d then ⟨(q : Int), NW n f d p r dr o s m fr t nums saw F L (q / d.toNat) i, mt⟩ else ⟨(q : Int), mt, txt (vec_Values.digits (NW n f d p r dr o s m fr t nums saw F L (3 * (f.toNat + 1)) i))⟩
def allA (q : Nat) : List Now := (List.range n.toNat).map (st n f d p r dr o s m fr t nums saw F L q)
def rowA (q : Nat) : List Packet := (allA n f d p r dr o s m fr t nums saw F L q).map (told n f d p r dr o s m fr t)
def TA (q : Nat) : List (List Packet) := (List.range q).map (rowA n f d p r dr o s m fr t nums saw F L)
variable {n f d p r dr o s m fr t}
theorem now_size (hp : plain n f d p r dr o s m fr t = 0) : ∀ x i : Nat, (NW n f d p r dr o s m fr t nums saw F L x i).size = 8 + n.toNat
  | 0, i => by
    show (begin_ n f d p r dr o s m fr t (rd nums (i : Int)) (rdS saw (i : Int))).size = _
    unfold begin_
    rw [if_pos hp, txt_size, of_len, txt_size, firstD_len]
  | x + 1, i => by
    show (txt (stepD n f d p r dr o s m fr t (x : Int) (now n f d p r dr o s m fr t nums saw F L x i) _ _)).size = _
    rw [txt_size, stepD_len]
    exact now_size hp x i
theorem VSg_len (g : Nat → ByteArray) (x i : Nat) : (VSg n d F L g x i).length = n.toNat := by simp [VSg]
theorem now_run (hp : plain n f d p r dr o s m fr t = 0) : VRun n f d p r dr o s m fr t F (8 + n.toNat) (NW n f d p r dr o s m fr t nums saw F L) (fun x i => VSg n d F L (NW n f d p r dr o s m fr t nums saw F L x) x i) := by
  refine ⟨fun x i _ _ _ => now_size nums saw F L hp x i, fun x i _ _ _ => VSg_len F L _ x i, fun x i k hx hi hh hk hhk => ?_, fun x i hx hi hh => rfl⟩
  show (VSg n d F L (NW n f d p r dr o s m fr t nums saw F L x) x i).getD k ByteArray.empty = _
  unfold VSg
  rw [KW.getD_range _ _ hk]
  have : F.contains (k : Int) = false := by
    unfold hon at hhk
    simpa using hhk
  rw [this]
  rfl
theorem d_cases (hp : plain n f d p r dr o s m fr t = 0) : d = 1 ∨ d = 2 ∨ d = 3 ∨ d = 4 := by
  have hb := plain_facts hp
  omega
theorem tells_tick (hp : plain n f d p r dr o s m fr t = 0) {q x : Nat} (hq : (q : Int) = x * d) (hx : (x : Int) < 3 * (f + 1)) : tells n f d p r dr o s m fr t (q : Int) = x := by
  have hb := plain_facts hp
  unfold tells
  rw [if_pos hp]
  exact ex_eq (by omega) (by omega) hx hq
theorem hears_tick (hp : plain n f d p r dr o s m fr t = 0) {q x : Nat} (hq : (q : Int) = (x + 1) * d) (hx : (x : Int) < 3 * (f + 1)) : hears n f d p r dr o s m fr t (q : Int) = x := by
  have hb := plain_facts hp
  have hd := d_cases hp
  unfold hears
  rw [if_pos hp, if_neg (by rcases hd with rfl | rfl | rfl | rfl <;> omega)]
  exact ex_eq (by omega) (by omega) hx (by rw [hq, Int.add_mul]; omega)
theorem hears_not (hp : plain n f d p r dr o s m fr t = 0) {q : Nat} (hq : (q : Int) % d ≠ 0) : hears n f d p r dr o s m fr t (q : Int) = -1 := by
  have hb := plain_facts hp
  have hd := d_cases hp
  unfold hears
  rw [if_pos hp]
  by_cases h : (q : Int) < d
  · rw [if_pos h]
  · rw [if_neg h]
    refine ex_none (by omega) (fun x h0 h1 h2 => hq ?_)
    rcases hd with rfl | rfl | rfl | rfl <;> omega
theorem len_eq (hp : plain n f d p r dr o s m fr t = 0) : ConfLib.length n f d p r dr o s m fr t = 3 * (f + 1) * d := by
  unfold ConfLib.length
  rw [if_pos hp]
theorem not_empty {z : ByteArray} (h : 0 < z.size) : ¬ z.toList = [] := by
  intro e
  rw [empty_of e] at h
  exact absurd h (by decide)
theorem told_now (hp : plain n f d p r dr o s m fr t = 0) {u x : Nat} (k : Nat) (hu : (u : Int) = x * d) (hx : (x : Int) < 3 * (f + 1)) : told n f d p r dr o s m fr t (st n f d p r dr o s m fr t nums saw F L u k) = ⟨mt, (x : Int) + 1, txt (vec_Values.digits (NW n f d p r dr o s m fr t nums saw F L x k)), 0, 0, mt⟩ := by
  have hb := plain_facts hp
  have hd := d_cases hp
  have hlt : (u : Int) < 3 * (f + 1) * d := by rcases hd with rfl | rfl | rfl | rfl <;> omega
  have hdiv : u / d.toNat = x := by rcases hd with rfl | rfl | rfl | rfl <;> (simp only [Int.toNat_one, Int.reduceToNat]; omega)
  unfold told st
  rw [if_pos hlt]
  dsimp only
  unfold tell
  rw [tells_tick hp hu hx, hdiv, if_neg (by
    rintro (h | h)
    · omega
    · exact not_empty (by rw [now_size nums saw F L hp]; omega) h)]
theorem votes_now (hp : plain n f d p r dr o s m fr t = 0) {q u x : Nat} (i : Nat) (hu : (u : Int) = x * d) (hq : u < q) (hx : (x : Int) < 3 * (f + 1)) : votes (x : Int) (pks n F L (TA n f d p r dr o s m fr t nums saw F L q) (u : Int) (i : Int)) = VSg n d F L (NW n f d p r dr o s m fr t nums saw F L x) x i := by
  unfold votes pks VSg
  rw [List.map_map]
  refine List.map_congr_left (fun k hk => ?_)
  have hk := List.mem_range.1 hk
  show vote_ (x : Int) (pk n F L _ (u : Int) (k : Int) (i : Int)) = _
  unfold pk
  rw [if_neg (by omega), hu]
  by_cases hc : F.contains (k : Int) = true
  · rw [if_pos hc, if_pos hc]
  · rw [if_neg hc, if_neg hc, ← hu]
    unfold TA
    rw [rdL_range _ hq]
    unfold rowA allA
    rw [List.map_map, rdP_range _ hk]
    show vote_ (x : Int) (told n f d p r dr o s m fr t (st n f d p r dr o s m fr t nums saw F L u k)) = _
    rw [told_now nums saw F L hp k hu hx]
    unfold vote_
    rw [if_pos rfl]
theorem boss_now (hp : plain n f d p r dr o s m fr t = 0) {x : Nat} (hx : (x : Int) < 3 * (f + 1)) (V : List ByteArray) (hV : V.length = n.toNat) : boss n f d p r dr o s m fr t (x : Int) V = V.getD (x / 3) ByteArray.empty := by
  have hb := plain_facts hp
  have hk : king n f d p r dr o s m fr t (x : Int) = ((x / 3 : Nat) : Int) := by
    unfold king ConfLib.rounds
    rw [if_pos hp, if_neg (by omega)]
    omega
  unfold boss
  rw [hk, if_pos (by omega)]
  show V.getD (((x / 3 : Nat) : Int)).toNat ByteArray.empty = _
  rw [Int.toNat_natCast]
theorem st_step (hp : plain n f d p r dr o s m fr t = 0) {q : Nat} (hq : (q : Int) < 3 * (f + 1) * d) (i : Nat) : stepN n f d p r dr o s m fr t F L (TA n f d p r dr o s m fr t nums saw F L (q + 1)) (((q + 1 : Nat) : Int) - d) (st n f d p r dr o s m fr t nums saw F L q i) (i : Int) = st n f d p r dr o s m fr t nums saw F L (q + 1) i := by
  have hb := plain_facts hp
  have hd := d_cases hp
  have hdn : ((d.toNat : Nat) : Int) = d := by omega
  have hs0 := now_size nums saw F L hp (q / d.toNat) i
  have hsat : sat (q : Int) (3 * (f + 1) * d) = ((q + 1 : Nat) : Int) := by
    unfold sat
    rw [if_neg (by omega), if_neg (by omega)]
    rfl
  have e1 : st n f d p r dr o s m fr t nums saw F L q i = ⟨(q : Int), NW n f d p r dr o s m fr t nums saw F L (q / d.toNat) i, mt⟩ := by
    unfold st
    rw [if_pos hq]
  unfold stepN
  rw [e1]
  dsimp only
  unfold stepA
  rw [if_pos hp, if_neg (not_empty (by omega)), len_eq hp, hsat]
  by_cases hm : ((q + 1 : Nat) : Int) % d = 0
  · have hx0 : ((q + 1 : Nat) : Int) = (((q / d.toNat : Nat) : Int) + 1) * d := by
      rcases hd with rfl | rfl | rfl | rfl <;> (simp only [Int.toNat_one, Int.reduceToNat] at *; omega)
    have hx1 : ((q / d.toNat : Nat) : Int) < 3 * (f + 1) := by
      rcases hd with rfl | rfl | rfl | rfl <;> (simp only [Int.toNat_one, Int.reduceToNat] at *; omega)
    have hx2 : (q + 1) / d.toNat = q / d.toNat + 1 := by
      rcases hd with rfl | rfl | rfl | rfl <;> (simp only [Int.toNat_one, Int.reduceToNat] at *; omega)
    generalize hX : q / d.toNat = x at hx0 hx1 hx2 hs0 ⊢
    have hu : ((q + 1 : Nat) : Int) - d = (((x * d.toNat : Nat)) : Int) := by
      rw [hx0, Int.natCast_mul, hdn, Int.add_mul]
      omega
    have hu2 : (((x * d.toNat : Nat)) : Int) = (x : Int) * d := by rw [Int.natCast_mul, hdn]
    have hlt : x * d.toNat < q + 1 := by
      have : (((x * d.toNat : Nat)) : Int) < ((q + 1 : Nat) : Int) := by omega
      omega
    have hc : codes2 n f d p r dr o s m fr t (hears n f d p r dr o s m fr t ((q + 1 : Nat) : Int)) (NW n f d p r dr o s m fr t nums saw F L x i) (pks n F L (TA n f d p r dr o s m fr t nums saw F L (q + 1)) (((q + 1 : Nat) : Int) - d) (i : Int)) = NW n f d p r dr o s m fr t nums saw F L (x + 1) i := by
      rw [hears_tick hp hx0 hx1]
      unfold codes2
      rw [if_pos (by omega), hu, votes_now nums saw F L hp i hu2 hlt hx1, boss_now hp hx1 _ (VSg_len F L _ x i)]
      rfl
    rw [hc]
    unfold st
    by_cases hz : ((q + 1 : Nat) : Int) < 3 * (f + 1) * d
    · rw [if_pos hz, if_pos hz, hx2]
    · have hx3 : x + 1 = 3 * (f.toNat + 1) := by
        rcases hd with rfl | rfl | rfl | rfl <;> omega
      rw [if_neg hz, if_neg hz, hx3]
  · have hx2 : (q + 1) / d.toNat = q / d.toNat := by
      rcases hd with rfl | rfl | rfl | rfl <;> (simp only [Int.toNat_one, Int.reduceToNat] at *; omega)
    have hz : ((q + 1 : Nat) : Int) < 3 * (f + 1) * d := by
      rcases hd with rfl | rfl | rfl | rfl <;> omega
    have hc : ∀ (c : ByteArray) (l : List Packet), codes2 n f d p r dr o s m fr t (-1) c l = c := fun c l => by
      unfold codes2
      rw [if_neg (by decide)]
    rw [hears_not hp hm, hc]
    unfold st
    rw [if_pos hz, if_pos hz, hx2]
end
end Go.Proofs.Ythblnnboeikgcaa.AgreeLib
