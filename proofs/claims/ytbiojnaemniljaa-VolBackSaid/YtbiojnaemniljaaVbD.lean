/- A part of the proof that the law VolBack, whatever the script, answers true and leaves its argument as it was; no condition. -/
import Derived.Test.YtbiojnaemniljaaVbC
/- Contracts: places by halving. -/
namespace Go.Proofs.Ytbiojnaemniljaa
open Go Pv
/-- where a number stands, and whether -/
def seekF (l : List File) (n : Int) : Nat := halve (fun f : File => IntKind.i64.wrap (f.ID - n)) default l 0 l.length
def seekFb (l : List File) (n : Int) : Bool := decide (seekF l n < l.length) && decide (IntKind.i64.wrap ((l.getD (seekF l n) default).ID - n) = 0)
theorem BinF_ok (a : List File) (n : Int) (hm : a.length ≤ 140737488355328) : Pure prog n_slices_BinarySearchFunc_File_int [.fl false 5 File eFile default a, .i .i64 n, .fn n_tree_at_1 []] true (.tup [.i .i64 (seekF a n), .b (seekFb a n)]) [] := by
  refine mk (l := [(3, lc2 9 10)]) (k := []) ⟨lc2_ok _ _, trivial⟩ trivial (fn := b_slices_BinarySearchFunc_File_int) (by kernel_rfl) (by kernel_rfl) (by kernel_rfl) rfl outsOK_nil ?_
  rw [← vc_slices_BinarySearchFunc_File_int]
  refine halve_rounds (default : File) (fun f : File => IntKind.i64.wrap (f.ID - n)) hm
    (R := fun x K => 0 ≤ (1 : Int) ∧ Int.toNat (1 : Int) < IntKind.u64.bits ∧ inb (IntKind.i64.wrap ((IntKind.u64.wrap (IntKind.i64.wrap (x.1 + x.2))).fdiv ((2 : Int) ^ Int.toNat (1 : Int)))) a.length ∧
      ∃ r : Int, Pure prog n_tree_at_1 [.agg (eFile (a.getD (IntKind.i64.wrap ((IntKind.u64.wrap (IntKind.i64.wrap (x.1 + x.2))).fdiv ((2 : Int) ^ Int.toNat (1 : Int)))).toNat default)), .i .i64 n] true (.i .i64 r) [] ∧
        (decide (r < (0 : Int)) = true → ∃ x' : Int × Int, ((IntKind.i64.wrap (IntKind.i64.wrap ((IntKind.u64.wrap (IntKind.i64.wrap (x.1 + x.2))).fdiv ((2 : Int) ^ Int.toNat (1 : Int))) + (1 : Int)) = x'.1 ∧ x.2 = x'.2 ∧ True) ∧ True) ∧ K x') ∧
        (decide (r < (0 : Int)) = false → ∃ x' : Int × Int, ((x.1 = x'.1 ∧ IntKind.i64.wrap ((IntKind.u64.wrap (IntKind.i64.wrap (x.1 + x.2))).fdiv ((2 : Int) ^ Int.toNat (1 : Int))) = x'.2 ∧ True) ∧ True) ∧ K x'))
    (fun x K h0 h1 h2 g1 g2 => ?_) (fun x h0 h1 h2 => ?_)
  · simp only [half_eq h0 h1 (by omega : x.2 ≤ 140737488355328)]
    refine ⟨by decide, by decide, ⟨by omega, by omega⟩, _, cmpFile_ok _ n, fun hc => ⟨((x.1 + x.2) / 2 + 1, x.2), ⟨⟨wrap64 (by omega) (by omega), rfl, trivial⟩, trivial⟩, g1 (of_decide_eq_true hc)⟩, fun hc => ⟨(x.1, (x.1 + x.2) / 2), ⟨⟨rfl, rfl, trivial⟩, trivial⟩, g2 (of_decide_eq_false hc)⟩⟩
  · have hx : x.1.toNat = seekF a n := by show _ = halve _ _ _ _ _; omega
    refine ⟨fun hd => ⟨⟨h1, of_decide_eq_true hd⟩, _, cmpFile_ok _ n, h0, ?_, trivial⟩, fun hd => ⟨h0, ?_, trivial⟩⟩
    · have hlt : seekF a n < a.length := by have := of_decide_eq_true hd; omega
      simp only [seekFb, hx, hlt, decide_true, Bool.true_and]
    · have hge := of_decide_eq_false hd
      have : ¬ seekF a n < a.length := by omega
      simp [seekFb, this]
/-- the same of volumes -/
def seekV (l : List Vol) (n : Int) : Nat := halve (fun f : Vol => IntKind.i64.wrap (f.ID - n)) default l 0 l.length
def seekVb (l : List Vol) (n : Int) : Bool := decide (seekV l n < l.length) && decide (IntKind.i64.wrap ((l.getD (seekV l n) default).ID - n) = 0)
theorem BinV_ok (a : List Vol) (n : Int) (hm : a.length ≤ 140737488355328) : Pure prog n_slices_BinarySearchFunc_Vol_int [.fl false 5 Vol eVol default a, .i .i64 n, .fn n_vol_At_1 []] true (.tup [.i .i64 (seekV a n), .b (seekVb a n)]) [] := by
  refine mk (l := [(3, lc2 9 10)]) (k := []) ⟨lc2_ok _ _, trivial⟩ trivial (fn := b_slices_BinarySearchFunc_Vol_int) (by kernel_rfl) (by kernel_rfl) (by kernel_rfl) rfl outsOK_nil ?_
  rw [← vc_slices_BinarySearchFunc_Vol_int]
  refine halve_rounds (default : Vol) (fun f : Vol => IntKind.i64.wrap (f.ID - n)) hm
    (R := fun x K => 0 ≤ (1 : Int) ∧ Int.toNat (1 : Int) < IntKind.u64.bits ∧ inb (IntKind.i64.wrap ((IntKind.u64.wrap (IntKind.i64.wrap (x.1 + x.2))).fdiv ((2 : Int) ^ Int.toNat (1 : Int)))) a.length ∧
      ∃ r : Int, Pure prog n_vol_At_1 [.agg (eVol (a.getD (IntKind.i64.wrap ((IntKind.u64.wrap (IntKind.i64.wrap (x.1 + x.2))).fdiv ((2 : Int) ^ Int.toNat (1 : Int)))).toNat default)), .i .i64 n] true (.i .i64 r) [] ∧
        (decide (r < (0 : Int)) = true → ∃ x' : Int × Int, ((IntKind.i64.wrap (IntKind.i64.wrap ((IntKind.u64.wrap (IntKind.i64.wrap (x.1 + x.2))).fdiv ((2 : Int) ^ Int.toNat (1 : Int))) + (1 : Int)) = x'.1 ∧ x.2 = x'.2 ∧ True) ∧ True) ∧ K x') ∧
        (decide (r < (0 : Int)) = false → ∃ x' : Int × Int, ((x.1 = x'.1 ∧ IntKind.i64.wrap ((IntKind.u64.wrap (IntKind.i64.wrap (x.1 + x.2))).fdiv ((2 : Int) ^ Int.toNat (1 : Int))) = x'.2 ∧ True) ∧ True) ∧ K x'))
    (fun x K h0 h1 h2 g1 g2 => ?_) (fun x h0 h1 h2 => ?_)
  · simp only [half_eq h0 h1 (by omega : x.2 ≤ 140737488355328)]
    refine ⟨by decide, by decide, ⟨by omega, by omega⟩, _, cmpVol_ok _ n, fun hc => ⟨((x.1 + x.2) / 2 + 1, x.2), ⟨⟨wrap64 (by omega) (by omega), rfl, trivial⟩, trivial⟩, g1 (of_decide_eq_true hc)⟩, fun hc => ⟨(x.1, (x.1 + x.2) / 2), ⟨⟨rfl, rfl, trivial⟩, trivial⟩, g2 (of_decide_eq_false hc)⟩⟩
  · have hx : x.1.toNat = seekV a n := by show _ = halve _ _ _ _ _; omega
    refine ⟨fun hd => ⟨⟨h1, of_decide_eq_true hd⟩, _, cmpVol_ok _ n, h0, ?_, trivial⟩, fun hd => ⟨h0, ?_, trivial⟩⟩
    · have hlt : seekV a n < a.length := by have := of_decide_eq_true hd; omega
      simp only [seekVb, hx, hlt, decide_true, Bool.true_and]
    · have hge := of_decide_eq_false hd
      have : ¬ seekV a n < a.length := by omega
      simp [seekVb, this]
theorem atF_ok (a : Vol) (n : Int) (hm : a.Files.length ≤ 140737488355328) : Pure prog n_tree_at [.agg (eVol a), .i .i64 n] true (.tup [.i .i64 (seekF a.Files n), .b (seekFb a.Files n)]) [] := by
  refine mk (l := []) (k := []) trivial trivial (fn := b_tree_at) (by kernel_rfl) (by kernel_rfl) (by kernel_rfl) rfl outsOK_nil ?_
  rw [← vc_tree_at]
  exact ⟨(_, _), BinF_ok a.Files n hm, rfl, rfl, trivial⟩
theorem atV_ok (a : List Vol) (n : Int) (hm : a.length ≤ 140737488355328) : Pure prog n_vol_At [.fl false 5 Vol eVol default a, .i .i64 n] true (.tup [.i .i64 (seekV a n), .b (seekVb a n)]) [] := by
  refine mk (l := []) (k := []) trivial trivial (fn := b_vol_At) (by kernel_rfl) (by kernel_rfl) (by kernel_rfl) rfl outsOK_nil ?_
  rw [← vc_vol_At]
  exact ⟨(_, _), BinV_ok a n hm, rfl, rfl, trivial⟩
end Go.Proofs.Ytbiojnaemniljaa

/- Contracts: names. -/
namespace Go.Proofs.Ytbiojnaemniljaa
open Go Pv
/-- a byte of a name -/
def letterB (a : Int) : Bool := decide ((97 ≤ a ∧ a ≤ 122) ∨ (48 ≤ a ∧ a ≤ 57) ∨ a = 46 ∨ a = 95 ∨ a = 45)
theorem letter_ok (a : Int) : Pure prog n_name_letter [.i .u8 a] true (.b (letterB a)) [] := by
  refine mk (l := []) (k := []) trivial trivial (fn := b_name_letter) (by kernel_rfl) (by kernel_rfl) (by kernel_rfl) rfl outsOK_nil ?_
  rw [← vc_name_letter]
  unfold letterB
  refine ⟨fun h1 => ⟨fun h2 => ?_, fun h2 => ⟨fun h3 => ⟨fun h4 => ?_, fun h4 => ⟨fun h5 => ?_, fun h5 => ⟨fun h6 => ?_, fun h6 => ?_⟩⟩⟩, fun h3 => ⟨fun h5 => ?_, fun h5 => ⟨fun h6 => ?_, fun h6 => ?_⟩⟩⟩⟩,
    fun h1 => ⟨fun h3 => ⟨fun h4 => ?_, fun h4 => ⟨fun h5 => ?_, fun h5 => ⟨fun h6 => ?_, fun h6 => ?_⟩⟩⟩, fun h3 => ⟨fun h5 => ?_, fun h5 => ⟨fun h6 => ?_, fun h6 => ?_⟩⟩⟩⟩ <;>
    first
      | (simp only [decide_eq_true_eq, decide_eq_false_iff_not] at *; omega)
      | (simp only [decide_eq_true_eq, decide_eq_false_iff_not] at *; rw [Bool.eq_iff_iff]; simp only [decide_eq_true_eq]; omega)
theorem all_rounds {α : Type} {a : List α} (d : α) (p : α → Bool) (hm : a.length ≤ 140737488355328) {R : Int → (Int → Prop) → Prop}
    (hR : ∀ (x : Int) (K : Int → Prop), 0 ≤ x → x < a.length → (p (a.getD x.toNat d) = false → a.all p = false) → (p (a.getD x.toNat d) = true → K (x + 1)) → R x K) :
    ∃ (Φ : Int → Prop) (μ : Int → Nat), (∃ x : Int, ((0 = x ∧ True) ∧ True) ∧ Φ x) ∧ ∀ x : Int, Φ x →
      (decide (x < (a.length : Int)) = true → R x fun x' => Φ x' ∧ μ x' < μ x) ∧ (decide (x < (a.length : Int)) = false → a.all p = true) := by
  refine ⟨fun x => 0 ≤ x ∧ x ≤ a.length ∧ ∀ j : Nat, (j : Int) < x → p (a.getD j d) = true, fun x => (a.length - x).toNat, ⟨0, ⟨⟨rfl, trivial⟩, trivial⟩, by omega, by omega, fun j hj => by omega⟩, ?_⟩
  rintro x ⟨h0, h1, h2⟩
  refine ⟨fun hd => ?_, fun hd => ?_⟩
  · have hlt : x < a.length := of_decide_eq_true hd
    refine hR x _ h0 hlt (fun he => ?_) (fun hn => ⟨⟨by omega, by omega, fun j hj => ?_⟩, by show (_ : Int).toNat < (_ : Int).toNat; omega⟩)
    · rw [List.all_eq_false]
      exact ⟨_, getD_mem (by omega : x.toNat < a.length), by rw [he]; simp⟩
    · rcases (by omega : (j : Int) < x ∨ j = x.toNat) with hj | rfl
      · exact h2 j hj
      · exact hn
  · have hge := of_decide_eq_false hd
    rw [List.all_eq_true]
    intro y hy
    obtain ⟨j, hj, rfl⟩ := List.getElem_of_mem hy
    have := h2 j (by omega)
    have hg : a.getD j d = a[j] := by simp [List.getD, hj]
    rwa [hg] at this
/-- is it a name? -/
def nameB (a : Str) : Bool := !decide (a = []) && (!decide ((a.length : Int) > 8) && (!decide (a = [46]) && (!decide (a = [46, 46]) && a.all fun u => letterB u.toNat)))
theorem nameIs_ok (a : Str) (hm : a.length ≤ 140737488355328) : Pure prog n_name_Is [.s a] true (.b (nameB a)) [] := by
  refine mk (l := [(4, lc 21)]) (k := []) ⟨lc_ok _, trivial⟩ trivial (fn := b_name_Is) (by kernel_rfl) (by kernel_rfl) (by kernel_rfl) rfl outsOK_nil ?_
  rw [← vc_name_Is]
  refine ⟨fun h => ?_, fun h1 => ⟨fun h => ?_, fun h2 => ⟨fun h => ?_, fun h3 => ⟨fun h => ?_, fun h4 => ?_⟩⟩⟩⟩
  · have h : a = [] := of_decide_eq_true h
    subst h; rfl
  · have h := of_decide_eq_true h
    simp only [nameB, h, decide_true, Bool.not_true, Bool.false_and, Bool.and_false]
  · have h : a = [46] := of_decide_eq_true h
    subst h; rfl
  · have h : a = [46, 46] := of_decide_eq_true h
    subst h; rfl
  have h1 : ¬ a = [] := of_decide_eq_false h1
  have h2 := of_decide_eq_false h2
  have h3 : ¬ a = [46] := of_decide_eq_false h3
  have h4 : ¬ a = [46, 46] := of_decide_eq_false h4
  simp only [nameB, h1, h2, h3, h4, decide_false, Bool.not_false, Bool.true_and]
  exact all_rounds (0 : UInt8) (fun u => letterB u.toNat) hm (R := fun x K => inb x (List.length a) ∧ ∃ r_1 : Bool, Pure prog n_name_letter [.i .u8 ((List.getD a x.toNat (0 : UInt8)).toNat : Int)] true (.b r_1) [] ∧ ((!r_1) = true → (a.all fun u => letterB u.toNat) = false) ∧
      ((!r_1) = false → ∃ x' : Int, ((IntKind.i64.wrap (x + (1 : Int)) = x' ∧ True) ∧ True) ∧ K x'))
    (fun x K h0 hlt g1 g2 => ⟨⟨h0, hlt⟩, _, letter_ok _, fun hh => g1 (by simpa using hh), fun hh => ⟨x + 1, ⟨⟨wrap64 (by omega) (by omega), trivial⟩, trivial⟩, g2 (by simpa using hh)⟩⟩)
end Go.Proofs.Ytbiojnaemniljaa

/- Conditions of functions (printed by mkgo.py out of C3.spec.py, checked by the kernel). -/
namespace Go.Proofs.Ytbiojnaemniljaa
open Go Pv
theorem vc_tree_deep (pure : PureT) (io : IoT) (v : Vol) (i n : Int) (m : List (Int × Bool)) (r : Bool × List (Int × Bool)) : (
  ∃ (z : Bool), z = true ∧ m.length ≤ (140737488355327 : Nat) ∧ ∃ (r_1 : Int × Bool), pure n_tree_at [PV.agg [PV.i IntKind.i64 v.ID, PV.i IntKind.i64 v.From, PV.b v.Snap,
  PV.fl false (5 : Nat) File eFile default v.Files, PV.i IntKind.i64 v.Next], PV.i IntKind.i64 i] true (PV.tup [PV.i IntKind.i64 r_1.fst, PV.b r_1.snd]) [] ∧
  inb r_1.fst v.Files.length ∧ ∃ (Φ : Int × List (Int × Bool) → Prop), ∃ (μ : Int × List (Int × Bool) → Nat), (∃ (x : Int × List (Int × Bool)), (((0 : Int) = x.fst ∧ True) ∧
  some (Pv.Obj.map Bool eBool (mset m i z)) = some (Pv.Obj.map Bool eBool x.snd) ∧ True) ∧ Φ x) ∧ ∀ (x : Int × List (Int × Bool)), Φ x →
  (decide (x.fst < (↑(v.Files.getD r_1.fst.toNat default).List.length : Int)) = true → inb x.fst (v.Files.getD r_1.fst.toNat default).List.length ∧ (decide (n = (0 : Int)) = true →
  r.fst = false ∧ some (Pv.Obj.map Bool eBool x.snd) = some (Pv.Obj.map Bool eBool r.snd) ∧ True) ∧ (decide (n = (0 : Int)) = false → ∃ (r_2 : Bool × List (Int × Bool)),
  io n_tree_deep [PV.agg [PV.i IntKind.i64 v.ID, PV.i IntKind.i64 v.From, PV.b v.Snap, PV.fl false (5 : Nat) File eFile default v.Files, PV.i IntKind.i64 v.Next], PV.i IntKind.i64
  ((v.Files.getD r_1.fst.toNat default).List.getD x.fst.toNat default).ID, PV.i IntKind.i64 (IntKind.i64.wrap (n - (1 : Int))), PV.mp (Id.s (100000 : Nat))]
  [((100000 : Nat), Pv.Obj.map Bool eBool x.snd)] true (PV.b r_2.fst) [((100000 : Nat), Pv.Obj.map Bool eBool r_2.snd)] ∧ ((!r_2.fst) = true → r.fst = false ∧
  some (Pv.Obj.map Bool eBool r_2.snd) = some (Pv.Obj.map Bool eBool r.snd) ∧ True) ∧ ((!r_2.fst) = false → ∃ (x' : Int × List (Int × Bool)),
  ((IntKind.i64.wrap (x.fst + (1 : Int)) = x'.fst ∧ True) ∧ some (Pv.Obj.map Bool eBool r_2.snd) = some (Pv.Obj.map Bool eBool x'.snd) ∧ True) ∧ Φ x' ∧ μ x' < μ x))) ∧
  (decide (x.fst < (↑(v.Files.getD r_1.fst.toNat default).List.length : Int)) = false → r.fst = true ∧ some (Pv.Obj.map Bool eBool x.snd) = some (Pv.Obj.map Bool eBool r.snd) ∧ True)) =
    vcIO (cx [(4, lSeen 28 100000)] [] pure io) b_tree_deep [.agg (eVol v), .i .i64 i, .i .i64 n, .mp (.s 100000)] [(100000, .map Bool eBool m)] true (.b r.1) [(100000, .map Bool eBool r.2)] := by kernel_rfl

theorem vc_tree_named (pure : PureT) (io : IoT) (v : Vol) (r : Bool) : (
  ∃ (Φ : Int → Prop), ∃ (μ : Int → Nat), (∃ (x : Int), (((0 : Int) = x ∧ True) ∧ True) ∧ Φ x) ∧ ∀ (x : Int), Φ x → (decide (x < (↑v.Files.length : Int)) = true →
  inb x v.Files.length ∧ ∃ (r_1 : Int), pure n_tree_count [PV.agg [PV.i IntKind.i64 v.ID, PV.i IntKind.i64 v.From, PV.b v.Snap,
  PV.fl false (5 : Nat) File eFile default v.Files, PV.i IntKind.i64 v.Next], PV.i IntKind.i64 (v.Files.getD x.toNat default).ID] true (PV.i IntKind.i64 r_1) [] ∧
  (decide ((v.Files.getD x.toNat default).ID = (1 : Int)) = true → (decide (r_1 > (0 : Int)) = true → r = false) ∧ (decide (r_1 > (0 : Int)) = false →
  ((!decide ((v.Files.getD x.toNat default).ID = (1 : Int))) = true → (decide (r_1 < (1 : Int)) = true → r = false) ∧ (decide (r_1 < (1 : Int)) = false →
  ((v.Files.getD x.toNat default).Dir = true → (decide (r_1 > (1 : Int)) = true → r = false) ∧ (decide (r_1 > (1 : Int)) = false → ∃ (x' : Int),
  ((IntKind.i64.wrap (x + (1 : Int)) = x' ∧ True) ∧ True) ∧ Φ x' ∧ μ x' < μ x)) ∧ ((v.Files.getD x.toNat default).Dir = false → ∃ (x' : Int),
  ((IntKind.i64.wrap (x + (1 : Int)) = x' ∧ True) ∧ True) ∧ Φ x' ∧ μ x' < μ x))) ∧ ((!decide ((v.Files.getD x.toNat default).ID = (1 : Int))) = false → ∃ (x' : Int),
  ((IntKind.i64.wrap (x + (1 : Int)) = x' ∧ True) ∧ True) ∧ Φ x' ∧ μ x' < μ x))) ∧ (decide ((v.Files.getD x.toNat default).ID = (1 : Int)) = false →
  ((!decide ((v.Files.getD x.toNat default).ID = (1 : Int))) = true → (decide (r_1 < (1 : Int)) = true → r = false) ∧ (decide (r_1 < (1 : Int)) = false →
  ((v.Files.getD x.toNat default).Dir = true → (decide (r_1 > (1 : Int)) = true → r = false) ∧ (decide (r_1 > (1 : Int)) = false → ∃ (x' : Int),
  ((IntKind.i64.wrap (x + (1 : Int)) = x' ∧ True) ∧ True) ∧ Φ x' ∧ μ x' < μ x)) ∧ ((v.Files.getD x.toNat default).Dir = false → ∃ (x' : Int),
  ((IntKind.i64.wrap (x + (1 : Int)) = x' ∧ True) ∧ True) ∧ Φ x' ∧ μ x' < μ x))) ∧ ((!decide ((v.Files.getD x.toNat default).ID = (1 : Int))) = false → ∃ (x' : Int),
  ((IntKind.i64.wrap (x + (1 : Int)) = x' ∧ True) ∧ True) ∧ Φ x' ∧ μ x' < μ x))) ∧ (decide (x < (↑v.Files.length : Int)) = false → ∃ (f : Bool → PV),
  (∀ (x : Bool), [PV.b x] = [f x]) ∧ (∀ (x : Bool), isLit (f x) = true) ∧ ∃ (r_1 : Bool × List (Int × Bool)), io n_tree_deep [PV.agg
  [PV.i IntKind.i64 v.ID, PV.i IntKind.i64 v.From, PV.b v.Snap, PV.fl false (5 : Nat) File eFile default v.Files, PV.i IntKind.i64 v.Next],
  PV.i IntKind.i64 (1 : Int), PV.i IntKind.i64 (5 : Int), PV.mp (Id.s (100000 : Nat))] [((100000 : Nat), Pv.Obj.map kdBool.α f [])] true (PV.b r_1.fst)
  [((100000 : Nat), Pv.Obj.map Bool eBool r_1.snd)] ∧ (r_1.fst = true → decide ((↑r_1.snd.length : Int) = (↑v.Files.length : Int)) = r) ∧ (r_1.fst = false → r = false))) =
    vcP (cx [(2, lc 10)] [(43, kdBool)] pure io) b_tree_named [.agg (eVol v)] true (.b r) [] := by kernel_rfl

theorem vc_tree_May (pure : PureT) (io : IoT) (v : Vol) (r : Bool) : (
  ∃ (r_1 : Bool), pure n_tree_number [PV.i IntKind.i64 v.ID] true (PV.b r_1) [] ∧ ((!r_1) = true → r = false) ∧ ((!r_1) = false → ∃ (r_2 : Bool),
  pure n_tree_number [PV.i IntKind.i64 v.From] true (PV.b r_2) [] ∧ ((!r_2) = true → r = false) ∧ ((!r_2) = false → ∃ (r_3 : Bool),
  pure n_tree_number [PV.i IntKind.i64 v.Next] true (PV.b r_3) [] ∧ ((!r_3) = true → r = false) ∧ ((!r_3) = false → ((!v.Snap) = true →
  ((!decide (v.From = (0 : Int))) = true → r = false) ∧ ((!decide (v.From = (0 : Int))) = false → (decide ((↑v.Files.length : Int) < (1 : Int)) = true → r = false) ∧
  (decide ((↑v.Files.length : Int) < (1 : Int)) = false → (decide ((↑v.Files.length : Int) > (16 : Int)) = true → r = false) ∧
  (decide ((↑v.Files.length : Int) > (16 : Int)) = false → ∃ (r_4 : Bool), pure n_tree_files [PV.agg [PV.i IntKind.i64 v.ID, PV.i IntKind.i64 v.From, PV.b v.Snap,
  PV.fl false (5 : Nat) File eFile default v.Files, PV.i IntKind.i64 v.Next]] true (PV.b r_4) [] ∧ (r_4 = true → inb (0 : Int) v.Files.length ∧ (decide
  ((v.Files.getD (Int.toNat (0 : Int)) default).ID = (1 : Int)) = true → inb (0 : Int) v.Files.length ∧ ((v.Files.getD (Int.toNat (0 : Int)) default).Dir = true → ∃ (r_5 : Bool),
  pure n_tree_named [PV.agg [PV.i IntKind.i64 v.ID, PV.i IntKind.i64 v.From, PV.b v.Snap, PV.fl false (5 : Nat) File eFile default v.Files, PV.i IntKind.i64 v.Next]]
  true (PV.b r_5) [] ∧ r_5 = r) ∧ ((v.Files.getD (Int.toNat (0 : Int)) default).Dir = false → r = false)) ∧ (decide ((v.Files.getD (Int.toNat (0 : Int)) default).ID = (1 : Int)) =
  false → r = false)) ∧ (r_4 = false → r = false))))) ∧ ((!v.Snap) = false → (decide ((↑v.Files.length : Int) < (1 : Int)) = true → r = false) ∧
  (decide ((↑v.Files.length : Int) < (1 : Int)) = false → (decide ((↑v.Files.length : Int) > (16 : Int)) = true → r = false) ∧
  (decide ((↑v.Files.length : Int) > (16 : Int)) = false → ∃ (r_4 : Bool), pure n_tree_files [PV.agg [PV.i IntKind.i64 v.ID, PV.i IntKind.i64 v.From, PV.b v.Snap,
  PV.fl false (5 : Nat) File eFile default v.Files, PV.i IntKind.i64 v.Next]] true (PV.b r_4) [] ∧ (r_4 = true → inb (0 : Int) v.Files.length ∧
  (decide ((v.Files.getD (Int.toNat (0 : Int)) default).ID = (1 : Int)) = true → inb (0 : Int) v.Files.length ∧ ((v.Files.getD (Int.toNat (0 : Int)) default).Dir = true →
  ∃ (r_5 : Bool), pure n_tree_named [PV.agg [PV.i IntKind.i64 v.ID, PV.i IntKind.i64 v.From, PV.b v.Snap, PV.fl false (5 : Nat) File eFile default v.Files, PV.i IntKind.i64 v.Next]]
  true (PV.b r_5) [] ∧ r_5 = r) ∧ ((v.Files.getD (Int.toNat (0 : Int)) default).Dir = false → r = false)) ∧ (decide ((v.Files.getD (Int.toNat (0 : Int)) default).ID = (1 : Int)) =
  false → r = false)) ∧ (r_4 = false → r = false)))))))) =
    vcP (cx [] [] pure io) b_tree_May [.agg (eVol v)] true (.b r) [] := by kernel_rfl

theorem vc_vol_May (pure : PureT) (io : IoT) (l : List Vol) (n : Int) (r : Bool) : (
  (decide ((↑l.length : Int) > (4 : Int)) = true → r = false) ∧ (decide ((↑l.length : Int) > (4 : Int)) = false → (decide (n < (1 : Int)) = true → r = false) ∧
  (decide (n < (1 : Int)) = false → (decide (n > (1073741824 : Int)) = true → r = false) ∧ (decide (n > (1073741824 : Int)) = false → ∃ (Φ : Int → Prop), ∃ (μ : Int → Nat),
  (∃ (x : Int), (((0 : Int) = x ∧ True) ∧ True) ∧ Φ x) ∧ ∀ (x : Int), Φ x → (decide (x < (↑l.length : Int)) = true → inb x l.length ∧ ∃ (r_1 : Bool), pure n_tree_May [PV.agg
  [PV.i IntKind.i64 (l.getD x.toNat default).ID, PV.i IntKind.i64 (l.getD x.toNat default).From, PV.b (l.getD x.toNat default).Snap,
  PV.fl false (5 : Nat) File eFile default (l.getD x.toNat default).Files, PV.i IntKind.i64 (l.getD x.toNat default).Next]] true (PV.b r_1) [] ∧ ((!r_1) = true → r = false) ∧
  ((!r_1) = false → (decide ((l.getD x.toNat default).ID < (1 : Int)) = true → r = false) ∧ (decide ((l.getD x.toNat default).ID < (1 : Int)) = false →
  (decide ((l.getD x.toNat default).ID ≥ n) = true → r = false) ∧ (decide ((l.getD x.toNat default).ID ≥ n) = false → (decide (x > (0 : Int)) = true →
  inb (IntKind.i64.wrap (x - (1 : Int))) l.length ∧ (decide ((l.getD x.toNat default).ID ≤ (l.getD (IntKind.i64.wrap (x - (1 : Int))).toNat default).ID) = true → r = false) ∧ (decide
  ((l.getD x.toNat default).ID ≤ (l.getD (IntKind.i64.wrap (x - (1 : Int))).toNat default).ID) = false → ∃ (x' : Int), ((IntKind.i64.wrap (x + (1 : Int)) = x' ∧ True) ∧ True) ∧
  Φ x' ∧ μ x' < μ x)) ∧ (decide (x > (0 : Int)) = false → ∃ (x' : Int), ((IntKind.i64.wrap (x + (1 : Int)) = x' ∧ True) ∧ True) ∧ Φ x' ∧ μ x' < μ x))))) ∧
  (decide (x < (↑l.length : Int)) = false → ∃ (Φ : Int → Prop), ∃ (μ : Int → Nat), (∃ (x : Int), (((0 : Int) = x ∧ True) ∧ True) ∧ Φ x) ∧ ∀ (x : Int), Φ x →
  (decide (x < (↑l.length : Int)) = true → inb x l.length ∧ ∃ (r_1 : Int × Bool), pure n_vol_At [PV.fl false (5 : Nat) Vol eVol default l,
  PV.i IntKind.i64 (l.getD x.toNat default).From] true (PV.tup [PV.i IntKind.i64 r_1.fst, PV.b r_1.snd]) [] ∧ ((l.getD x.toNat default).Snap = true →
  ((!r_1.snd) = true → r = false) ∧ ((!r_1.snd) = false → inb r_1.fst l.length ∧ ((l.getD r_1.fst.toNat default).Snap = true → r = false) ∧
  ((l.getD r_1.fst.toNat default).Snap = false → ∃ (x' : Int), ((IntKind.i64.wrap (x + (1 : Int)) = x' ∧ True) ∧ True) ∧ Φ x' ∧ μ x' < μ x))) ∧
  ((l.getD x.toNat default).Snap = false → ∃ (x' : Int), ((IntKind.i64.wrap (x + (1 : Int)) = x' ∧ True) ∧ True) ∧ Φ x' ∧ μ x' < μ x)) ∧
  (decide (x < (↑l.length : Int)) = false → r = true)))))) =
    vcP (cx [(4, lc 24), (10, lc 61)] [] pure io) b_vol_May [.fl false 5 Vol eVol default l, .i .i64 n] true (.b r) [] := by kernel_rfl

theorem vc_ref2_marks (pure : PureT) (io : IoT) (v : Vol) (i : Int) (m r : List Bool) : (
  ∃ (r_1 : Int), pure n_ref2_At [PV.agg [PV.i IntKind.i64 v.ID, PV.i IntKind.i64 v.From, PV.b v.Snap, PV.fl false (5 : Nat) File eFile default v.Files, PV.i IntKind.i64 v.Next],
  PV.i IntKind.i64 i] true (PV.i IntKind.i64 r_1) [] ∧ inb r_1 m.length ∧ r_1.toNat < m.length ∧ (m.getD r_1.toNat false = true → True ∧ ((∀ (_ : Bool), true = true) ∧
  some (Obj.row false (1 : Nat) Bool eBools false m) = some (Obj.row false (1 : Nat) Bool eBools false r)) ∧ True) ∧ (m.getD r_1.toNat false = false → inb r_1 m.length ∧
  r_1.toNat < m.length ∧ ∃ (x' : Bool), (x' = true ∧ True) ∧ ∃ (Φ : Int × List Bool → Prop), ∃ (μ : Int × List Bool → Nat), (∃ (x : Int × List Bool), (((0 : Int) = x.fst ∧ True) ∧
  some (Obj.row false (1 : Nat) Bool eBools false (m.set r_1.toNat x')) = some (Obj.row false (1 : Nat) Bool eBools false x.snd) ∧ True) ∧ Φ x) ∧ ∀ (x : Int × List Bool), Φ x →
  inb r_1 v.Files.length ∧ (decide (x.fst < (↑(v.Files.getD r_1.toNat default).List.length : Int)) = true → inb r_1 v.Files.length ∧
  inb x.fst (v.Files.getD r_1.toNat default).List.length ∧ (∃ (r : List Bool), io n_ref2_marks [PV.agg [PV.i IntKind.i64 v.ID, PV.i IntKind.i64 v.From, PV.b v.Snap,
  PV.fl false (5 : Nat) File eFile default v.Files, PV.i IntKind.i64 v.Next], PV.i IntKind.i64 ((v.Files.getD r_1.toNat default).List.getD x.fst.toNat default).ID,
  PV.sl (Id.s (100000 : Nat))] [((100000 : Nat), Obj.row false (1 : Nat) Bool eBools false x.snd)] true (PV.tup []) [((100000 : Nat), Obj.row false (1 : Nat) Bool eBools false r)] ∧
  ∃ (x' : Int × List Bool), ((IntKind.i64.wrap (x.fst + (1 : Int)) = x'.fst ∧ True) ∧ some (Obj.row false (1 : Nat) Bool eBools false r) =
  some (Obj.row false (1 : Nat) Bool eBools false x'.snd) ∧ True) ∧ Φ x' ∧ μ x' < μ x) ∧ True) ∧ (decide (x.fst < (↑(v.Files.getD r_1.toNat default).List.length : Int)) = false →
  True ∧ ((∀ (_ : Bool), true = true) ∧ some (Obj.row false (1 : Nat) Bool eBools false x.snd) = some (Obj.row false (1 : Nat) Bool eBools false r)) ∧ True))) =
    vcIO (cx [(5, lMarks 7 100000)] [] pure io) b_ref2_marks [.agg (eVol v), .i .i64 i, .sl (.s 100000)] [(100000, .row false 1 Bool eBools false m)] true (.tup []) [(100000, .row false 1 Bool eBools false r)] := by kernel_rfl

def vc_ref2_Deep_c (v : Vol) (n : Int) (r : Int) (r_1 : Int) (pure : PureT) : Prop :=
  (∃ (Φ : Int × Int → Prop), ∃ (μ : Int × Int → Nat), (∃ (x : Int × Int), (((0 : Int) = x.fst ∧ (0 : Int) = x.snd ∧ True) ∧ True) ∧ Φ x) ∧ ∀ (x : Int × Int), Φ x → (decide (x.snd <
  (↑(v.Files.getD r_1.toNat default).List.length : Int)) = true → (decide (n = (0 : Int)) = true → (6 : Int) = r) ∧ (decide (n = (0 : Int)) = false → inb x.snd (v.Files.getD
  r_1.toNat default).List.length ∧ ∃ (r : Int), pure n_ref2_Deep [PV.agg [PV.i IntKind.i64 v.ID, PV.i IntKind.i64 v.From, PV.b v.Snap, PV.fl false (5 : Nat) File eFile default
  v.Files, PV.i IntKind.i64 v.Next], PV.i IntKind.i64 ((v.Files.getD r_1.toNat default).List.getD x.snd.toNat default).ID, PV.i IntKind.i64 (IntKind.i64.wrap (n - (1 : Int)))] true
  (PV.i IntKind.i64 r) [] ∧ ∃ (x' : Int × Int), ((max x.fst (IntKind.i64.wrap ((1 : Int) + r)) = x'.fst ∧ IntKind.i64.wrap (x.snd + (1 : Int)) = x'.snd ∧ True) ∧ True) ∧ Φ x' ∧ μ x'
  < μ x)) ∧ (decide (x.snd < (↑(v.Files.getD r_1.toNat default).List.length : Int)) = false → x.fst = r))
theorem vc_ref2_Deep (pure : PureT) (io : IoT) (v : Vol) (i n r : Int) : (
  (((((∃ (r_1 : Int), pure n_ref2_At [PV.agg [PV.i IntKind.i64 v.ID, PV.i IntKind.i64 v.From, PV.b v.Snap, PV.fl false (5 : Nat) File eFile default v.Files, PV.i IntKind.i64 v.Next],
  PV.i IntKind.i64 i] true (PV.i IntKind.i64 r_1) [] ∧ (inb r_1 v.Files.length ∧ (((vc_ref2_Deep_c v n r r_1 pure) ∧ True) ∧ True) ∧ ((vc_ref2_Deep_c v n r r_1 pure) ∧ True) ∧ True)
  ∧ (inb r_1 v.Files.length ∧ (vc_ref2_Deep_c v n r r_1 pure) ∧ True) ∧ True) ∧ (∃ (r_1 : Int), pure n_ref2_At [PV.agg [PV.i IntKind.i64 v.ID, PV.i IntKind.i64 v.From, PV.b v.Snap,
  PV.fl false (5 : Nat) File eFile default v.Files, PV.i IntKind.i64 v.Next], PV.i IntKind.i64 i] true (PV.i IntKind.i64 r_1) [] ∧ inb r_1 v.Files.length ∧ (vc_ref2_Deep_c v n r r_1
  pure) ∧ True) ∧ True) ∧ (∃ (r_1 : Int), pure n_ref2_At [PV.agg [PV.i IntKind.i64 v.ID, PV.i IntKind.i64 v.From, PV.b v.Snap, PV.fl false (5 : Nat) File eFile default v.Files, PV.i
  IntKind.i64 v.Next], PV.i IntKind.i64 i] true (PV.i IntKind.i64 r_1) [] ∧ inb r_1 v.Files.length ∧ (vc_ref2_Deep_c v n r r_1 pure) ∧ True) ∧ True) ∧ (((∃ (r_1 : Int), pure
  n_ref2_At [PV.agg [PV.i IntKind.i64 v.ID, PV.i IntKind.i64 v.From, PV.b v.Snap, PV.fl false (5 : Nat) File eFile default v.Files, PV.i IntKind.i64 v.Next], PV.i IntKind.i64 i] true
  (PV.i IntKind.i64 r_1) [] ∧ (inb r_1 v.Files.length ∧ (((vc_ref2_Deep_c v n r r_1 pure) ∧ True) ∧ True) ∧ ((vc_ref2_Deep_c v n r r_1 pure) ∧ True) ∧ True) ∧ (inb r_1 v.Files.length
  ∧ (vc_ref2_Deep_c v n r r_1 pure) ∧ True) ∧ True) ∧ (∃ (r_1 : Int), pure n_ref2_At [PV.agg [PV.i IntKind.i64 v.ID, PV.i IntKind.i64 v.From, PV.b v.Snap, PV.fl false (5 : Nat) File
  eFile default v.Files, PV.i IntKind.i64 v.Next], PV.i IntKind.i64 i] true (PV.i IntKind.i64 r_1) [] ∧ inb r_1 v.Files.length ∧ (vc_ref2_Deep_c v n r r_1 pure) ∧ True) ∧ True) ∧ (∃
  (r_1 : Int), pure n_ref2_At [PV.agg [PV.i IntKind.i64 v.ID, PV.i IntKind.i64 v.From, PV.b v.Snap, PV.fl false (5 : Nat) File eFile default v.Files, PV.i IntKind.i64 v.Next], PV.i
  IntKind.i64 i] true (PV.i IntKind.i64 r_1) [] ∧ inb r_1 v.Files.length ∧ (vc_ref2_Deep_c v n r r_1 pure) ∧ True) ∧ True) ∧ (∃ (r_1 : Int), pure n_ref2_At [PV.agg [PV.i IntKind.i64
  v.ID, PV.i IntKind.i64 v.From, PV.b v.Snap, PV.fl false (5 : Nat) File eFile default v.Files, PV.i IntKind.i64 v.Next], PV.i IntKind.i64 i] true (PV.i IntKind.i64 r_1) [] ∧ inb r_1
  v.Files.length ∧ (vc_ref2_Deep_c v n r r_1 pure) ∧ True) ∧ True) ∧ ((((∃ (r_1 : Int), pure n_ref2_At [PV.agg [PV.i IntKind.i64 v.ID, PV.i IntKind.i64 v.From, PV.b v.Snap, PV.fl
  false (5 : Nat) File eFile default v.Files, PV.i IntKind.i64 v.Next], PV.i IntKind.i64 i] true (PV.i IntKind.i64 r_1) [] ∧ (inb r_1 v.Files.length ∧ (((vc_ref2_Deep_c v n r r_1
  pure) ∧ True) ∧ True) ∧ ((vc_ref2_Deep_c v n r r_1 pure) ∧ True) ∧ True) ∧ (inb r_1 v.Files.length ∧ (vc_ref2_Deep_c v n r r_1 pure) ∧ True) ∧ True) ∧ (∃ (r_1 : Int), pure
  n_ref2_At [PV.agg [PV.i IntKind.i64 v.ID, PV.i IntKind.i64 v.From, PV.b v.Snap, PV.fl false (5 : Nat) File eFile default v.Files, PV.i IntKind.i64 v.Next], PV.i IntKind.i64 i] true
  (PV.i IntKind.i64 r_1) [] ∧ inb r_1 v.Files.length ∧ (vc_ref2_Deep_c v n r r_1 pure) ∧ True) ∧ True) ∧ (∃ (r_1 : Int), pure n_ref2_At [PV.agg [PV.i IntKind.i64 v.ID, PV.i
  IntKind.i64 v.From, PV.b v.Snap, PV.fl false (5 : Nat) File eFile default v.Files, PV.i IntKind.i64 v.Next], PV.i IntKind.i64 i] true (PV.i IntKind.i64 r_1) [] ∧ inb r_1
  v.Files.length ∧ (vc_ref2_Deep_c v n r r_1 pure) ∧ True) ∧ True) ∧ (((∃ (r_1 : Int), pure n_ref2_At [PV.agg [PV.i IntKind.i64 v.ID, PV.i IntKind.i64 v.From, PV.b v.Snap, PV.fl
  false (5 : Nat) File eFile default v.Files, PV.i IntKind.i64 v.Next], PV.i IntKind.i64 i] true (PV.i IntKind.i64 r_1) [] ∧ (inb r_1 v.Files.length ∧ (((vc_ref2_Deep_c v n r r_1
  pure) ∧ True) ∧ True) ∧ ((vc_ref2_Deep_c v n r r_1 pure) ∧ True) ∧ True) ∧ (inb r_1 v.Files.length ∧ (vc_ref2_Deep_c v n r r_1 pure) ∧ True) ∧ True) ∧ (∃ (r_1 : Int), pure
  n_ref2_At [PV.agg [PV.i IntKind.i64 v.ID, PV.i IntKind.i64 v.From, PV.b v.Snap, PV.fl false (5 : Nat) File eFile default v.Files, PV.i IntKind.i64 v.Next], PV.i IntKind.i64 i] true
  (PV.i IntKind.i64 r_1) [] ∧ inb r_1 v.Files.length ∧ (vc_ref2_Deep_c v n r r_1 pure) ∧ True) ∧ True) ∧ (∃ (r_1 : Int), pure n_ref2_At [PV.agg [PV.i IntKind.i64 v.ID, PV.i
  IntKind.i64 v.From, PV.b v.Snap, PV.fl false (5 : Nat) File eFile default v.Files, PV.i IntKind.i64 v.Next], PV.i IntKind.i64 i] true (PV.i IntKind.i64 r_1) [] ∧ ((inb r_1
  v.Files.length ∧ (((vc_ref2_Deep_c v n r r_1 pure) ∧ True) ∧ True) ∧ ((vc_ref2_Deep_c v n r r_1 pure) ∧ True) ∧ True) ∧ (inb r_1 v.Files.length ∧ (vc_ref2_Deep_c v n r r_1 pure) ∧
  True) ∧ True) ∧ (inb r_1 v.Files.length ∧ (vc_ref2_Deep_c v n r r_1 pure) ∧ True) ∧ True) ∧ (∃ (r_1 : Int), pure n_ref2_At [PV.agg [PV.i IntKind.i64 v.ID, PV.i IntKind.i64 v.From,
  PV.b v.Snap, PV.fl false (5 : Nat) File eFile default v.Files, PV.i IntKind.i64 v.Next], PV.i IntKind.i64 i] true (PV.i IntKind.i64 r_1) [] ∧ inb r_1 v.Files.length ∧
  (vc_ref2_Deep_c v n r r_1 pure) ∧ True) ∧ True) ∧ (∃ (r_1 : Int), pure n_ref2_At [PV.agg [PV.i IntKind.i64 v.ID, PV.i IntKind.i64 v.From, PV.b v.Snap, PV.fl false (5 : Nat) File
  eFile default v.Files, PV.i IntKind.i64 v.Next], PV.i IntKind.i64 i] true (PV.i IntKind.i64 r_1) [] ∧ inb r_1 v.Files.length ∧ (vc_ref2_Deep_c v n r r_1 pure) ∧ True) ∧ True) ∧
  ((((∃ (r_1 : Int), pure n_ref2_At [PV.agg [PV.i IntKind.i64 v.ID, PV.i IntKind.i64 v.From, PV.b v.Snap, PV.fl false (5 : Nat) File eFile default v.Files, PV.i IntKind.i64 v.Next],
  PV.i IntKind.i64 i] true (PV.i IntKind.i64 r_1) [] ∧ (inb r_1 v.Files.length ∧ (((vc_ref2_Deep_c v n r r_1 pure) ∧ True) ∧ True) ∧ ((vc_ref2_Deep_c v n r r_1 pure) ∧ True) ∧ True)
  ∧ (inb r_1 v.Files.length ∧ (vc_ref2_Deep_c v n r r_1 pure) ∧ True) ∧ True) ∧ (∃ (r_1 : Int), pure n_ref2_At [PV.agg [PV.i IntKind.i64 v.ID, PV.i IntKind.i64 v.From, PV.b v.Snap,
  PV.fl false (5 : Nat) File eFile default v.Files, PV.i IntKind.i64 v.Next], PV.i IntKind.i64 i] true (PV.i IntKind.i64 r_1) [] ∧ inb r_1 v.Files.length ∧ (vc_ref2_Deep_c v n r r_1
  pure) ∧ True) ∧ True) ∧ (∃ (r_1 : Int), pure n_ref2_At [PV.agg [PV.i IntKind.i64 v.ID, PV.i IntKind.i64 v.From, PV.b v.Snap, PV.fl false (5 : Nat) File eFile default v.Files, PV.i
  IntKind.i64 v.Next], PV.i IntKind.i64 i] true (PV.i IntKind.i64 r_1) [] ∧ inb r_1 v.Files.length ∧ (vc_ref2_Deep_c v n r r_1 pure) ∧ True) ∧ True) ∧ (((∃ (r_1 : Int), pure
  n_ref2_At [PV.agg [PV.i IntKind.i64 v.ID, PV.i IntKind.i64 v.From, PV.b v.Snap, PV.fl false (5 : Nat) File eFile default v.Files, PV.i IntKind.i64 v.Next], PV.i IntKind.i64 i] true
  (PV.i IntKind.i64 r_1) [] ∧ (inb r_1 v.Files.length ∧ (((vc_ref2_Deep_c v n r r_1 pure) ∧ True) ∧ True) ∧ ((vc_ref2_Deep_c v n r r_1 pure) ∧ True) ∧ True) ∧ (inb r_1 v.Files.length
  ∧ (vc_ref2_Deep_c v n r r_1 pure) ∧ True) ∧ True) ∧ (∃ (r_1 : Int), pure n_ref2_At [PV.agg [PV.i IntKind.i64 v.ID, PV.i IntKind.i64 v.From, PV.b v.Snap, PV.fl false (5 : Nat) File
  eFile default v.Files, PV.i IntKind.i64 v.Next], PV.i IntKind.i64 i] true (PV.i IntKind.i64 r_1) [] ∧ inb r_1 v.Files.length ∧ (vc_ref2_Deep_c v n r r_1 pure) ∧ True) ∧ True) ∧ (∃
  (r_1 : Int), pure n_ref2_At [PV.agg [PV.i IntKind.i64 v.ID, PV.i IntKind.i64 v.From, PV.b v.Snap, PV.fl false (5 : Nat) File eFile default v.Files, PV.i IntKind.i64 v.Next], PV.i
  IntKind.i64 i] true (PV.i IntKind.i64 r_1) [] ∧ ((inb r_1 v.Files.length ∧ (((vc_ref2_Deep_c v n r r_1 pure) ∧ True) ∧ True) ∧ ((vc_ref2_Deep_c v n r r_1 pure) ∧ True) ∧ True) ∧
  (inb r_1 v.Files.length ∧ (vc_ref2_Deep_c v n r r_1 pure) ∧ True) ∧ True) ∧ (inb r_1 v.Files.length ∧ (vc_ref2_Deep_c v n r r_1 pure) ∧ True) ∧ True) ∧ (∃ (r_1 : Int), pure
  n_ref2_At [PV.agg [PV.i IntKind.i64 v.ID, PV.i IntKind.i64 v.From, PV.b v.Snap, PV.fl false (5 : Nat) File eFile default v.Files, PV.i IntKind.i64 v.Next], PV.i IntKind.i64 i] true
  (PV.i IntKind.i64 r_1) [] ∧ inb r_1 v.Files.length ∧ (vc_ref2_Deep_c v n r r_1 pure) ∧ True) ∧ True) ∧ (∃ (r_1 : Int), pure n_ref2_At [PV.agg [PV.i IntKind.i64 v.ID, PV.i
  IntKind.i64 v.From, PV.b v.Snap, PV.fl false (5 : Nat) File eFile default v.Files, PV.i IntKind.i64 v.Next], PV.i IntKind.i64 i] true (PV.i IntKind.i64 r_1) [] ∧ inb r_1
  v.Files.length ∧ (vc_ref2_Deep_c v n r r_1 pure) ∧ True) ∧ True) ∧ (∃ (r_1 : Int), pure n_ref2_At [PV.agg [PV.i IntKind.i64 v.ID, PV.i IntKind.i64 v.From, PV.b v.Snap, PV.fl false
  (5 : Nat) File eFile default v.Files, PV.i IntKind.i64 v.Next], PV.i IntKind.i64 i] true (PV.i IntKind.i64 r_1) [] ∧ inb r_1 v.Files.length ∧ (vc_ref2_Deep_c v n r r_1 pure) ∧
  True) ∧ True) ∧ (((((∃ (r_1 : Int), pure n_ref2_At [PV.agg [PV.i IntKind.i64 v.ID, PV.i IntKind.i64 v.From, PV.b v.Snap, PV.fl false (5 : Nat) File eFile default v.Files, PV.i
  IntKind.i64 v.Next], PV.i IntKind.i64 i] true (PV.i IntKind.i64 r_1) [] ∧ (inb r_1 v.Files.length ∧ (((vc_ref2_Deep_c v n r r_1 pure) ∧ True) ∧ True) ∧ ((vc_ref2_Deep_c v n r r_1
  pure) ∧ True) ∧ True) ∧ (inb r_1 v.Files.length ∧ (vc_ref2_Deep_c v n r r_1 pure) ∧ True) ∧ True) ∧ (∃ (r_1 : Int), pure n_ref2_At [PV.agg [PV.i IntKind.i64 v.ID, PV.i IntKind.i64
  v.From, PV.b v.Snap, PV.fl false (5 : Nat) File eFile default v.Files, PV.i IntKind.i64 v.Next], PV.i IntKind.i64 i] true (PV.i IntKind.i64 r_1) [] ∧ inb r_1 v.Files.length ∧
  (vc_ref2_Deep_c v n r r_1 pure) ∧ True) ∧ True) ∧ (∃ (r_1 : Int), pure n_ref2_At [PV.agg [PV.i IntKind.i64 v.ID, PV.i IntKind.i64 v.From, PV.b v.Snap, PV.fl false (5 : Nat) File
  eFile default v.Files, PV.i IntKind.i64 v.Next], PV.i IntKind.i64 i] true (PV.i IntKind.i64 r_1) [] ∧ inb r_1 v.Files.length ∧ (vc_ref2_Deep_c v n r r_1 pure) ∧ True) ∧ True) ∧
  (((∃ (r_1 : Int), pure n_ref2_At [PV.agg [PV.i IntKind.i64 v.ID, PV.i IntKind.i64 v.From, PV.b v.Snap, PV.fl false (5 : Nat) File eFile default v.Files, PV.i IntKind.i64 v.Next],
  PV.i IntKind.i64 i] true (PV.i IntKind.i64 r_1) [] ∧ (inb r_1 v.Files.length ∧ (((vc_ref2_Deep_c v n r r_1 pure) ∧ True) ∧ True) ∧ ((vc_ref2_Deep_c v n r r_1 pure) ∧ True) ∧ True)
  ∧ (inb r_1 v.Files.length ∧ (vc_ref2_Deep_c v n r r_1 pure) ∧ True) ∧ True) ∧ (∃ (r_1 : Int), pure n_ref2_At [PV.agg [PV.i IntKind.i64 v.ID, PV.i IntKind.i64 v.From, PV.b v.Snap,
  PV.fl false (5 : Nat) File eFile default v.Files, PV.i IntKind.i64 v.Next], PV.i IntKind.i64 i] true (PV.i IntKind.i64 r_1) [] ∧ inb r_1 v.Files.length ∧ (vc_ref2_Deep_c v n r r_1
  pure) ∧ True) ∧ True) ∧ (∃ (r_1 : Int), pure n_ref2_At [PV.agg [PV.i IntKind.i64 v.ID, PV.i IntKind.i64 v.From, PV.b v.Snap, PV.fl false (5 : Nat) File eFile default v.Files, PV.i
  IntKind.i64 v.Next], PV.i IntKind.i64 i] true (PV.i IntKind.i64 r_1) [] ∧ ((inb r_1 v.Files.length ∧ (((vc_ref2_Deep_c v n r r_1 pure) ∧ True) ∧ True) ∧ ((vc_ref2_Deep_c v n r r_1
  pure) ∧ True) ∧ True) ∧ (inb r_1 v.Files.length ∧ (vc_ref2_Deep_c v n r r_1 pure) ∧ True) ∧ True) ∧ (inb r_1 v.Files.length ∧ (vc_ref2_Deep_c v n r r_1 pure) ∧ True) ∧ True) ∧ (∃
  (r_1 : Int), pure n_ref2_At [PV.agg [PV.i IntKind.i64 v.ID, PV.i IntKind.i64 v.From, PV.b v.Snap, PV.fl false (5 : Nat) File eFile default v.Files, PV.i IntKind.i64 v.Next], PV.i
  IntKind.i64 i] true (PV.i IntKind.i64 r_1) [] ∧ inb r_1 v.Files.length ∧ (vc_ref2_Deep_c v n r r_1 pure) ∧ True) ∧ True) ∧ (∃ (r_1 : Int), pure n_ref2_At [PV.agg [PV.i IntKind.i64
  v.ID, PV.i IntKind.i64 v.From, PV.b v.Snap, PV.fl false (5 : Nat) File eFile default v.Files, PV.i IntKind.i64 v.Next], PV.i IntKind.i64 i] true (PV.i IntKind.i64 r_1) [] ∧ inb r_1
  v.Files.length ∧ (vc_ref2_Deep_c v n r r_1 pure) ∧ True) ∧ True) ∧ ((((∃ (r_1 : Int), pure n_ref2_At [PV.agg [PV.i IntKind.i64 v.ID, PV.i IntKind.i64 v.From, PV.b v.Snap, PV.fl
  false (5 : Nat) File eFile default v.Files, PV.i IntKind.i64 v.Next], PV.i IntKind.i64 i] true (PV.i IntKind.i64 r_1) [] ∧ (inb r_1 v.Files.length ∧ (((vc_ref2_Deep_c v n r r_1
  pure) ∧ True) ∧ True) ∧ ((vc_ref2_Deep_c v n r r_1 pure) ∧ True) ∧ True) ∧ (inb r_1 v.Files.length ∧ (vc_ref2_Deep_c v n r r_1 pure) ∧ True) ∧ True) ∧ (∃ (r_1 : Int), pure
  n_ref2_At [PV.agg [PV.i IntKind.i64 v.ID, PV.i IntKind.i64 v.From, PV.b v.Snap, PV.fl false (5 : Nat) File eFile default v.Files, PV.i IntKind.i64 v.Next], PV.i IntKind.i64 i] true
  (PV.i IntKind.i64 r_1) [] ∧ inb r_1 v.Files.length ∧ (vc_ref2_Deep_c v n r r_1 pure) ∧ True) ∧ True) ∧ (∃ (r_1 : Int), pure n_ref2_At [PV.agg [PV.i IntKind.i64 v.ID, PV.i
  IntKind.i64 v.From, PV.b v.Snap, PV.fl false (5 : Nat) File eFile default v.Files, PV.i IntKind.i64 v.Next], PV.i IntKind.i64 i] true (PV.i IntKind.i64 r_1) [] ∧ ((inb r_1
  v.Files.length ∧ (((vc_ref2_Deep_c v n r r_1 pure) ∧ True) ∧ True) ∧ ((vc_ref2_Deep_c v n r r_1 pure) ∧ True) ∧ True) ∧ (inb r_1 v.Files.length ∧ (vc_ref2_Deep_c v n r r_1 pure) ∧
  True) ∧ True) ∧ (inb r_1 v.Files.length ∧ (vc_ref2_Deep_c v n r r_1 pure) ∧ True) ∧ True) ∧ (∃ (r_1 : Int), pure n_ref2_At [PV.agg [PV.i IntKind.i64 v.ID, PV.i IntKind.i64 v.From,
  PV.b v.Snap, PV.fl false (5 : Nat) File eFile default v.Files, PV.i IntKind.i64 v.Next], PV.i IntKind.i64 i] true (PV.i IntKind.i64 r_1) [] ∧ inb r_1 v.Files.length ∧
  (vc_ref2_Deep_c v n r r_1 pure) ∧ True) ∧ True) ∧ (∃ (r_1 : Int), pure n_ref2_At [PV.agg [PV.i IntKind.i64 v.ID, PV.i IntKind.i64 v.From, PV.b v.Snap, PV.fl false (5 : Nat) File
  eFile default v.Files, PV.i IntKind.i64 v.Next], PV.i IntKind.i64 i] true (PV.i IntKind.i64 r_1) [] ∧ (((inb r_1 v.Files.length ∧ (((vc_ref2_Deep_c v n r r_1 pure) ∧ True) ∧ True)
  ∧ ((vc_ref2_Deep_c v n r r_1 pure) ∧ True) ∧ True) ∧ (inb r_1 v.Files.length ∧ (vc_ref2_Deep_c v n r r_1 pure) ∧ True) ∧ True) ∧ (inb r_1 v.Files.length ∧ (vc_ref2_Deep_c v n r r_1
  pure) ∧ True) ∧ True) ∧ (inb r_1 v.Files.length ∧ (vc_ref2_Deep_c v n r r_1 pure) ∧ True) ∧ True) ∧ (∃ (r_1 : Int), pure n_ref2_At [PV.agg [PV.i IntKind.i64 v.ID, PV.i IntKind.i64
  v.From, PV.b v.Snap, PV.fl false (5 : Nat) File eFile default v.Files, PV.i IntKind.i64 v.Next], PV.i IntKind.i64 i] true (PV.i IntKind.i64 r_1) [] ∧ inb r_1 v.Files.length ∧
  (vc_ref2_Deep_c v n r r_1 pure) ∧ True) ∧ True) ∧ (∃ (r_1 : Int), pure n_ref2_At [PV.agg [PV.i IntKind.i64 v.ID, PV.i IntKind.i64 v.From, PV.b v.Snap, PV.fl false (5 : Nat) File
  eFile default v.Files, PV.i IntKind.i64 v.Next], PV.i IntKind.i64 i] true (PV.i IntKind.i64 r_1) [] ∧ inb r_1 v.Files.length ∧ (vc_ref2_Deep_c v n r r_1 pure) ∧ True) ∧ True) ∧
  (((((∃ (r_1 : Int), pure n_ref2_At [PV.agg [PV.i IntKind.i64 v.ID, PV.i IntKind.i64 v.From, PV.b v.Snap, PV.fl false (5 : Nat) File eFile default v.Files, PV.i IntKind.i64 v.Next],
  PV.i IntKind.i64 i] true (PV.i IntKind.i64 r_1) [] ∧ (inb r_1 v.Files.length ∧ (((vc_ref2_Deep_c v n r r_1 pure) ∧ True) ∧ True) ∧ ((vc_ref2_Deep_c v n r r_1 pure) ∧ True) ∧ True)
  ∧ (inb r_1 v.Files.length ∧ (vc_ref2_Deep_c v n r r_1 pure) ∧ True) ∧ True) ∧ (∃ (r_1 : Int), pure n_ref2_At [PV.agg [PV.i IntKind.i64 v.ID, PV.i IntKind.i64 v.From, PV.b v.Snap,
  PV.fl false (5 : Nat) File eFile default v.Files, PV.i IntKind.i64 v.Next], PV.i IntKind.i64 i] true (PV.i IntKind.i64 r_1) [] ∧ inb r_1 v.Files.length ∧ (vc_ref2_Deep_c v n r r_1
  pure) ∧ True) ∧ True) ∧ (∃ (r_1 : Int), pure n_ref2_At [PV.agg [PV.i IntKind.i64 v.ID, PV.i IntKind.i64 v.From, PV.b v.Snap, PV.fl false (5 : Nat) File eFile default v.Files, PV.i
  IntKind.i64 v.Next], PV.i IntKind.i64 i] true (PV.i IntKind.i64 r_1) [] ∧ inb r_1 v.Files.length ∧ (vc_ref2_Deep_c v n r r_1 pure) ∧ True) ∧ True) ∧ (((∃ (r_1 : Int), pure
  n_ref2_At [PV.agg [PV.i IntKind.i64 v.ID, PV.i IntKind.i64 v.From, PV.b v.Snap, PV.fl false (5 : Nat) File eFile default v.Files, PV.i IntKind.i64 v.Next], PV.i IntKind.i64 i] true
  (PV.i IntKind.i64 r_1) [] ∧ (inb r_1 v.Files.length ∧ (((vc_ref2_Deep_c v n r r_1 pure) ∧ True) ∧ True) ∧ ((vc_ref2_Deep_c v n r r_1 pure) ∧ True) ∧ True) ∧ (inb r_1 v.Files.length
  ∧ (vc_ref2_Deep_c v n r r_1 pure) ∧ True) ∧ True) ∧ (∃ (r_1 : Int), pure n_ref2_At [PV.agg [PV.i IntKind.i64 v.ID, PV.i IntKind.i64 v.From, PV.b v.Snap, PV.fl false (5 : Nat) File
  eFile default v.Files, PV.i IntKind.i64 v.Next], PV.i IntKind.i64 i] true (PV.i IntKind.i64 r_1) [] ∧ inb r_1 v.Files.length ∧ (vc_ref2_Deep_c v n r r_1 pure) ∧ True) ∧ True) ∧ (∃
  (r_1 : Int), pure n_ref2_At [PV.agg [PV.i IntKind.i64 v.ID, PV.i IntKind.i64 v.From, PV.b v.Snap, PV.fl false (5 : Nat) File eFile default v.Files, PV.i IntKind.i64 v.Next], PV.i
  IntKind.i64 i] true (PV.i IntKind.i64 r_1) [] ∧ ((inb r_1 v.Files.length ∧ (((vc_ref2_Deep_c v n r r_1 pure) ∧ True) ∧ True) ∧ ((vc_ref2_Deep_c v n r r_1 pure) ∧ True) ∧ True) ∧
  (inb r_1 v.Files.length ∧ (vc_ref2_Deep_c v n r r_1 pure) ∧ True) ∧ True) ∧ (inb r_1 v.Files.length ∧ (vc_ref2_Deep_c v n r r_1 pure) ∧ True) ∧ True) ∧ (∃ (r_1 : Int), pure
  n_ref2_At [PV.agg [PV.i IntKind.i64 v.ID, PV.i IntKind.i64 v.From, PV.b v.Snap, PV.fl false (5 : Nat) File eFile default v.Files, PV.i IntKind.i64 v.Next], PV.i IntKind.i64 i] true
  (PV.i IntKind.i64 r_1) [] ∧ inb r_1 v.Files.length ∧ (vc_ref2_Deep_c v n r r_1 pure) ∧ True) ∧ True) ∧ (∃ (r_1 : Int), pure n_ref2_At [PV.agg [PV.i IntKind.i64 v.ID, PV.i
  IntKind.i64 v.From, PV.b v.Snap, PV.fl false (5 : Nat) File eFile default v.Files, PV.i IntKind.i64 v.Next], PV.i IntKind.i64 i] true (PV.i IntKind.i64 r_1) [] ∧ inb r_1
  v.Files.length ∧ (vc_ref2_Deep_c v n r r_1 pure) ∧ True) ∧ True) ∧ ((((∃ (r_1 : Int), pure n_ref2_At [PV.agg [PV.i IntKind.i64 v.ID, PV.i IntKind.i64 v.From, PV.b v.Snap, PV.fl
  false (5 : Nat) File eFile default v.Files, PV.i IntKind.i64 v.Next], PV.i IntKind.i64 i] true (PV.i IntKind.i64 r_1) [] ∧ (inb r_1 v.Files.length ∧ (((vc_ref2_Deep_c v n r r_1
  pure) ∧ True) ∧ True) ∧ ((vc_ref2_Deep_c v n r r_1 pure) ∧ True) ∧ True) ∧ (inb r_1 v.Files.length ∧ (vc_ref2_Deep_c v n r r_1 pure) ∧ True) ∧ True) ∧ (∃ (r_1 : Int), pure
  n_ref2_At [PV.agg [PV.i IntKind.i64 v.ID, PV.i IntKind.i64 v.From, PV.b v.Snap, PV.fl false (5 : Nat) File eFile default v.Files, PV.i IntKind.i64 v.Next], PV.i IntKind.i64 i] true
  (PV.i IntKind.i64 r_1) [] ∧ inb r_1 v.Files.length ∧ (vc_ref2_Deep_c v n r r_1 pure) ∧ True) ∧ True) ∧ (∃ (r_1 : Int), pure n_ref2_At [PV.agg [PV.i IntKind.i64 v.ID, PV.i
  IntKind.i64 v.From, PV.b v.Snap, PV.fl false (5 : Nat) File eFile default v.Files, PV.i IntKind.i64 v.Next], PV.i IntKind.i64 i] true (PV.i IntKind.i64 r_1) [] ∧ ((inb r_1
  v.Files.length ∧ (((vc_ref2_Deep_c v n r r_1 pure) ∧ True) ∧ True) ∧ ((vc_ref2_Deep_c v n r r_1 pure) ∧ True) ∧ True) ∧ (inb r_1 v.Files.length ∧ (vc_ref2_Deep_c v n r r_1 pure) ∧
  True) ∧ True) ∧ (inb r_1 v.Files.length ∧ (vc_ref2_Deep_c v n r r_1 pure) ∧ True) ∧ True) ∧ (∃ (r_1 : Int), pure n_ref2_At [PV.agg [PV.i IntKind.i64 v.ID, PV.i IntKind.i64 v.From,
  PV.b v.Snap, PV.fl false (5 : Nat) File eFile default v.Files, PV.i IntKind.i64 v.Next], PV.i IntKind.i64 i] true (PV.i IntKind.i64 r_1) [] ∧ inb r_1 v.Files.length ∧
  (vc_ref2_Deep_c v n r r_1 pure) ∧ True) ∧ True) ∧ (∃ (r_1 : Int), pure n_ref2_At [PV.agg [PV.i IntKind.i64 v.ID, PV.i IntKind.i64 v.From, PV.b v.Snap, PV.fl false (5 : Nat) File
  eFile default v.Files, PV.i IntKind.i64 v.Next], PV.i IntKind.i64 i] true (PV.i IntKind.i64 r_1) [] ∧ (((inb r_1 v.Files.length ∧ (((vc_ref2_Deep_c v n r r_1 pure) ∧ True) ∧ True)
  ∧ ((vc_ref2_Deep_c v n r r_1 pure) ∧ True) ∧ True) ∧ (inb r_1 v.Files.length ∧ (vc_ref2_Deep_c v n r r_1 pure) ∧ True) ∧ True) ∧ (inb r_1 v.Files.length ∧ (vc_ref2_Deep_c v n r r_1
  pure) ∧ True) ∧ True) ∧ (inb r_1 v.Files.length ∧ (vc_ref2_Deep_c v n r r_1 pure) ∧ True) ∧ True) ∧ (∃ (r_1 : Int), pure n_ref2_At [PV.agg [PV.i IntKind.i64 v.ID, PV.i IntKind.i64
  v.From, PV.b v.Snap, PV.fl false (5 : Nat) File eFile default v.Files, PV.i IntKind.i64 v.Next], PV.i IntKind.i64 i] true (PV.i IntKind.i64 r_1) [] ∧ inb r_1 v.Files.length ∧
  (vc_ref2_Deep_c v n r r_1 pure) ∧ True) ∧ True) ∧ (∃ (r_1 : Int), pure n_ref2_At [PV.agg [PV.i IntKind.i64 v.ID, PV.i IntKind.i64 v.From, PV.b v.Snap, PV.fl false (5 : Nat) File
  eFile default v.Files, PV.i IntKind.i64 v.Next], PV.i IntKind.i64 i] true (PV.i IntKind.i64 r_1) [] ∧ inb r_1 v.Files.length ∧ (vc_ref2_Deep_c v n r r_1 pure) ∧ True) ∧ True) ∧ (∃
  (r_1 : Int), pure n_ref2_At [PV.agg [PV.i IntKind.i64 v.ID, PV.i IntKind.i64 v.From, PV.b v.Snap, PV.fl false (5 : Nat) File eFile default v.Files, PV.i IntKind.i64 v.Next], PV.i
  IntKind.i64 i] true (PV.i IntKind.i64 r_1) [] ∧ inb r_1 v.Files.length ∧ (vc_ref2_Deep_c v n r r_1 pure) ∧ True) ∧ True) =
    vcP (cx [(4, lc2 7 9)] [] pure io) b_ref2_Deep [.agg (eVol v), .i .i64 i, .i .i64 n] true (.i .i64 r) [] := by kernel_rfl

def vc_ref2_Vol_c (v : Vol) (r : Bool) (r_4 : Bool) (pure : PureT) (io : IoT) : Prop :=
  ((!r_4) = false → inb (0 : Int) v.Files.length ∧ ((!decide ((v.Files.getD (Int.toNat (0 : Int)) default).ID = (1 : Int))) = true → r = false) ∧ ((!decide ((v.Files.getD (Int.toNat
  (0 : Int)) default).ID = (1 : Int))) = false → inb (0 : Int) v.Files.length ∧ ((!(v.Files.getD (Int.toNat (0 : Int)) default).Dir) = true → r = false) ∧ ((!(v.Files.getD (Int.toNat
  (0 : Int)) default).Dir) = false → ∃ (Φ : Int → Prop), ∃ (μ : Int → Nat), (∃ (x : Int), (((0 : Int) = x ∧ True) ∧ True) ∧ Φ x) ∧ ∀ (x : Int), Φ x → (decide (x < (↑v.Files.length :
  Int)) = true → inb x v.Files.length ∧ (decide ((v.Files.getD x.toNat default).ID ≥ v.Next) = true → r = false) ∧ (decide ((v.Files.getD x.toNat default).ID ≥ v.Next) = false →
  (decide (x > (0 : Int)) = true → inb (IntKind.i64.wrap (x - (1 : Int))) v.Files.length ∧ inb x v.Files.length ∧ (decide ((v.Files.getD (IntKind.i64.wrap (x - (1 : Int))).toNat
  default).ID ≥ (v.Files.getD x.toNat default).ID) = true → r = false) ∧ (decide ((v.Files.getD (IntKind.i64.wrap (x - (1 : Int))).toNat default).ID ≥ (v.Files.getD x.toNat
  default).ID) = false → inb x v.Files.length ∧ ∃ (r_5 : Bool), pure n_ref2_file [PV.agg [PV.i IntKind.i64 v.ID, PV.i IntKind.i64 v.From, PV.b v.Snap, PV.fl false (5 : Nat) File
  eFile default v.Files, PV.i IntKind.i64 v.Next], PV.agg [PV.i IntKind.i64 (v.Files.getD x.toNat default).ID, PV.b (v.Files.getD x.toNat default).Dir, PV.i IntKind.i64 (v.Files.getD
  x.toNat default).Size, PV.fl false (1 : Nat) Int eI (0 : Int) (v.Files.getD x.toNat default).Blocks, PV.fl false (2 : Nat) Link eLink default (v.Files.getD x.toNat default).List]]
  true (PV.b r_5) [] ∧ ((!r_5) = true → r = false) ∧ ((!r_5) = false → ∃ (x' : Int), ((IntKind.i64.wrap (x + (1 : Int)) = x' ∧ True) ∧ True) ∧ Φ x' ∧ μ x' < μ x))) ∧ (decide (x > (0
  : Int)) = false → inb x v.Files.length ∧ ∃ (r_5 : Bool), pure n_ref2_file [PV.agg [PV.i IntKind.i64 v.ID, PV.i IntKind.i64 v.From, PV.b v.Snap, PV.fl false (5 : Nat) File eFile
  default v.Files, PV.i IntKind.i64 v.Next], PV.agg [PV.i IntKind.i64 (v.Files.getD x.toNat default).ID, PV.b (v.Files.getD x.toNat default).Dir, PV.i IntKind.i64 (v.Files.getD
  x.toNat default).Size, PV.fl false (1 : Nat) Int eI (0 : Int) (v.Files.getD x.toNat default).Blocks, PV.fl false (2 : Nat) Link eLink default (v.Files.getD x.toNat default).List]]
  true (PV.b r_5) [] ∧ ((!r_5) = true → r = false) ∧ ((!r_5) = false → ∃ (x' : Int), ((IntKind.i64.wrap (x + (1 : Int)) = x' ∧ True) ∧ True) ∧ Φ x' ∧ μ x' < μ x)))) ∧ (decide (x <
  (↑v.Files.length : Int)) = false → ∃ (Φ : Int → Prop), ∃ (μ : Int → Nat), (∃ (x : Int), (((0 : Int) = x ∧ True) ∧ True) ∧ Φ x) ∧ ∀ (x : Int), Φ x → (decide (x < (↑v.Files.length :
  Int)) = true → inb x v.Files.length ∧ ∃ (r_5 : Int), pure n_ref2_Links [PV.agg [PV.i IntKind.i64 v.ID, PV.i IntKind.i64 v.From, PV.b v.Snap, PV.fl false (5 : Nat) File eFile
  default v.Files, PV.i IntKind.i64 v.Next], PV.i IntKind.i64 (v.Files.getD x.toNat default).ID] true (PV.i IntKind.i64 r_5) [] ∧ (decide (x = (0 : Int)) = true → ((!decide (r_5 = (0
  : Int))) = true → r = false) ∧ ((!decide (r_5 = (0 : Int))) = false → (decide (x > (0 : Int)) = true → (decide (r_5 = (0 : Int)) = true → r = false) ∧ (decide (r_5 = (0 : Int)) =
  false → inb x v.Files.length ∧ ((v.Files.getD x.toNat default).Dir = true → ((!decide (r_5 = (1 : Int))) = true → r = false) ∧ ((!decide (r_5 = (1 : Int))) = false → ∃ (x' : Int),
  ((IntKind.i64.wrap (x + (1 : Int)) = x' ∧ True) ∧ True) ∧ Φ x' ∧ μ x' < μ x)) ∧ ((v.Files.getD x.toNat default).Dir = false → ∃ (x' : Int), ((IntKind.i64.wrap (x + (1 : Int)) = x'
  ∧ True) ∧ True) ∧ Φ x' ∧ μ x' < μ x))) ∧ (decide (x > (0 : Int)) = false → ∃ (x' : Int), ((IntKind.i64.wrap (x + (1 : Int)) = x' ∧ True) ∧ True) ∧ Φ x' ∧ μ x' < μ x))) ∧ (decide (x
  = (0 : Int)) = false → (decide (x > (0 : Int)) = true → (decide (r_5 = (0 : Int)) = true → r = false) ∧ (decide (r_5 = (0 : Int)) = false → inb x v.Files.length ∧ ((v.Files.getD
  x.toNat default).Dir = true → ((!decide (r_5 = (1 : Int))) = true → r = false) ∧ ((!decide (r_5 = (1 : Int))) = false → ∃ (x' : Int), ((IntKind.i64.wrap (x + (1 : Int)) = x' ∧
  True) ∧ True) ∧ Φ x' ∧ μ x' < μ x)) ∧ ((v.Files.getD x.toNat default).Dir = false → ∃ (x' : Int), ((IntKind.i64.wrap (x + (1 : Int)) = x' ∧ True) ∧ True) ∧ Φ x' ∧ μ x' < μ x))) ∧
  (decide (x > (0 : Int)) = false → ∃ (x' : Int), ((IntKind.i64.wrap (x + (1 : Int)) = x' ∧ True) ∧ True) ∧ Φ x' ∧ μ x' < μ x))) ∧ (decide (x < (↑v.Files.length : Int)) = false →
  (↑v.Files.length : Int) = (↑v.Files.length : Int) ∧ inc (↑v.Files.length : Int) (9223372036854775807 : Nat) ∧ ((↑v.Files.length : Int).toNat * match (cx [((4 : Nat), lc (3 : Nat)),
  ((9 : Nat), lc (4 : Nat)), ((17 : Nat), lc (7 : Nat))] [((147 : Nat), kdBool)] pure io).P.info? (4 : Nat) with | some i => i.bytes | none => (0 : Nat)) ≤ (140737488355328 : Nat) ∧
  ∃ (x : Bool), (x = false ∧ True) ∧ ∃ (r_5 : List Bool), io n_ref2_marks [PV.agg [PV.i IntKind.i64 v.ID, PV.i IntKind.i64 v.From, PV.b v.Snap, PV.fl false (5 : Nat) File eFile
  default v.Files, PV.i IntKind.i64 v.Next], PV.i IntKind.i64 (1 : Int), PV.sl (Id.s (100000 : Nat))] [((100000 : Nat), Obj.row false kdBool.sz kdBool.α kdBool.e false
  (List.replicate (↑v.Files.length : Int).toNat x))] true (PV.tup []) [((100000 : Nat), Obj.row false (1 : Nat) Bool eBools false r_5)] ∧ ∃ (Φ : Int → Prop), ∃ (μ : Int → Nat), (∃ (x
  : Int), (((0 : Int) = x ∧ True) ∧ True) ∧ Φ x) ∧ ∀ (x : Int), Φ x → (decide (x < (↑r_5.length : Int)) = true → inb x r_5.length ∧ x.toNat < r_5.length ∧ ((!r_5.getD x.toNat false)
  = true → r = false) ∧ ((!r_5.getD x.toNat false) = false → ∃ (x' : Int), ((IntKind.i64.wrap (x + (1 : Int)) = x' ∧ True) ∧ True) ∧ Φ x' ∧ μ x' < μ x)) ∧ (decide (x < (↑r_5.length :
  Int)) = false → ∃ (r_6 : Int), pure n_ref2_Deep [PV.agg [PV.i IntKind.i64 v.ID, PV.i IntKind.i64 v.From, PV.b v.Snap, PV.fl false (5 : Nat) File eFile default v.Files, PV.i
  IntKind.i64 v.Next], PV.i IntKind.i64 (1 : Int), PV.i IntKind.i64 (5 : Int)] true (PV.i IntKind.i64 r_6) [] ∧ decide (r_6 ≤ (5 : Int)) = r))))))
theorem vc_ref2_Vol (pure : PureT) (io : IoT) (v : Vol) (r : Bool) : (
  ∃ (r_1 : Bool), pure n_ref0_Num [PV.i IntKind.i64 v.ID, PV.i IntKind.i64 (1073741824 : Int)] true (PV.b r_1) [] ∧ ((!r_1) = true → r = false) ∧ ((!r_1) = false → ∃ (r_2 : Bool),
  pure n_ref0_Num [PV.i IntKind.i64 v.From, PV.i IntKind.i64 (1073741824 : Int)] true (PV.b r_2) [] ∧ ((!r_2) = true → r = false) ∧ ((!r_2) = false → ∃ (r_3 : Bool), pure n_ref0_Num
  [PV.i IntKind.i64 v.Next, PV.i IntKind.i64 (1073741824 : Int)] true (PV.b r_3) [] ∧ ((!r_3) = true → r = false) ∧ ((!r_3) = false → ((!decide (v.From = (0 : Int))) = true →
  ((!v.Snap) = true → r = false) ∧ ((!v.Snap) = false → ∃ (r_4 : Bool), pure n_ref0_Between [PV.i IntKind.i64 (↑v.Files.length : Int), PV.i IntKind.i64 (1 : Int), PV.i IntKind.i64
  (16 : Int)] true (PV.b r_4) [] ∧ ((!r_4) = true → r = false) ∧ (vc_ref2_Vol_c v r r_4 pure io))) ∧ ((!decide (v.From = (0 : Int))) = false → ∃ (r_4 : Bool), pure n_ref0_Between
  [PV.i IntKind.i64 (↑v.Files.length : Int), PV.i IntKind.i64 (1 : Int), PV.i IntKind.i64 (16 : Int)] true (PV.b r_4) [] ∧ ((!r_4) = true → r = false) ∧ (vc_ref2_Vol_c v r r_4 pure
  io)))))) =
    vcP (cx [(4, lc 3), (9, lc 4), (17, lc 7)] [(147, kdBool)] pure io) b_ref2_Vol [.agg (eVol v)] true (.b r) [] := by kernel_rfl

theorem vc_ref5_Vols (pure : PureT) (io : IoT) (l : List Vol) (n : Int) (r : Bool) : (
  (decide ((↑l.length : Int) > (4 : Int)) = true → r = false) ∧ (decide ((↑l.length : Int) > (4 : Int)) = false → ∃ (r_1 : Bool),
  pure n_ref0_Between [PV.i IntKind.i64 n, PV.i IntKind.i64 (1 : Int), PV.i IntKind.i64 (1073741824 : Int)] true (PV.b r_1) [] ∧ ((!r_1) = true → r = false) ∧ ((!r_1) = false →
  ∃ (Φ : Int → Prop), ∃ (μ : Int → Nat), (∃ (x : Int), (((0 : Int) = x ∧ True) ∧ True) ∧ Φ x) ∧ ∀ (x : Int), Φ x → (decide (x < (↑l.length : Int)) = true → inb x l.length ∧
  ∃ (r_2 : Bool), pure n_ref2_Vol [PV.agg [PV.i IntKind.i64 (l.getD x.toNat default).ID, PV.i IntKind.i64 (l.getD x.toNat default).From, PV.b (l.getD x.toNat default).Snap,
  PV.fl false (5 : Nat) File eFile default (l.getD x.toNat default).Files, PV.i IntKind.i64 (l.getD x.toNat default).Next]] true (PV.b r_2) [] ∧ ((!r_2) = true → r = false) ∧
  ((!r_2) = false → inb x l.length ∧ (decide ((l.getD x.toNat default).ID < (1 : Int)) = true → r = false) ∧ (decide ((l.getD x.toNat default).ID < (1 : Int)) = false →
  inb x l.length ∧ (decide ((l.getD x.toNat default).ID ≥ n) = true → r = false) ∧ (decide ((l.getD x.toNat default).ID ≥ n) = false → (decide (x > (0 : Int)) = true →
  inb (IntKind.i64.wrap (x - (1 : Int))) l.length ∧ inb x l.length ∧ (decide ((l.getD (IntKind.i64.wrap (x - (1 : Int))).toNat default).ID ≥ (l.getD x.toNat default).ID) = true →
  r = false) ∧ (decide ((l.getD (IntKind.i64.wrap (x - (1 : Int))).toNat default).ID ≥ (l.getD x.toNat default).ID) = false → inb x l.length ∧ ((l.getD x.toNat default).Snap = true →
  inb x l.length ∧ ∃ (r_3 : Int), pure n_ref5_At [PV.fl false (5 : Nat) Vol eVol default l, PV.i IntKind.i64 (l.getD x.toNat default).From] true (PV.i IntKind.i64 r_3) [] ∧
  (decide (r_3 < (0 : Int)) = true → r = false) ∧ (decide (r_3 < (0 : Int)) = false → inb r_3 l.length ∧ ((l.getD r_3.toNat default).Snap = true → r = false) ∧
  ((l.getD r_3.toNat default).Snap = false → ∃ (x' : Int), ((IntKind.i64.wrap (x + (1 : Int)) = x' ∧ True) ∧ True) ∧ Φ x' ∧ μ x' < μ x))) ∧ ((l.getD x.toNat default).Snap = false →
  ∃ (x' : Int), ((IntKind.i64.wrap (x + (1 : Int)) = x' ∧ True) ∧ True) ∧ Φ x' ∧ μ x' < μ x))) ∧ (decide (x > (0 : Int)) = false → inb x l.length ∧
  ((l.getD x.toNat default).Snap = true → inb x l.length ∧ ∃ (r_3 : Int), pure n_ref5_At [PV.fl false (5 : Nat) Vol eVol default l, PV.i IntKind.i64 (l.getD x.toNat default).From]
  true (PV.i IntKind.i64 r_3) [] ∧ (decide (r_3 < (0 : Int)) = true → r = false) ∧ (decide (r_3 < (0 : Int)) = false → inb r_3 l.length ∧ ((l.getD r_3.toNat default).Snap = true →
  r = false) ∧ ((l.getD r_3.toNat default).Snap = false → ∃ (x' : Int), ((IntKind.i64.wrap (x + (1 : Int)) = x' ∧ True) ∧ True) ∧ Φ x' ∧ μ x' < μ x))) ∧
  ((l.getD x.toNat default).Snap = false → ∃ (x' : Int), ((IntKind.i64.wrap (x + (1 : Int)) = x' ∧ True) ∧ True) ∧ Φ x' ∧ μ x' < μ x)))))) ∧
  (decide (x < (↑l.length : Int)) = false → r = true)))) =
    vcP (cx [(4, lc 5)] [] pure io) b_ref5_Vols [.fl false 5 Vol eVol default l, .i .i64 n] true (.b r) [] := by kernel_rfl

end Go.Proofs.Ytbiojnaemniljaa

/- Contracts: the page's names, links, files; the program's. -/
namespace Go.Proofs.Ytbiojnaemniljaa
open Go Pv
/-! ### a loop that looks at each place, by its number -/
def ΦI (n : Nat) (p : Nat → Bool) (x : Int) : Prop := 0 ≤ x ∧ x ≤ n ∧ ∀ j : Nat, (j : Int) < x → p j = true
def μI (n : Nat) (x : Int) : Nat := (n - x).toNat
theorem startI {n : Nat} {p : Nat → Bool} : ∃ x : Int, (((0 : Int) = x ∧ True) ∧ True) ∧ ΦI n p x := ⟨0, ⟨⟨rfl, trivial⟩, trivial⟩, by omega, by omega, fun j hj => by omega⟩
theorem nextI {n : Nat} {p : Nat → Bool} {i : Nat} (hx : ΦI n p i) (hn : n ≤ 140737488355328) (hlt : i < n) (hp : p i = true) : ∃ x' : Int, ((IntKind.i64.wrap ((i : Int) + (1 : Int)) = x' ∧ True) ∧ True) ∧ ΦI n p x' ∧ μI n x' < μI n i := by
  refine ⟨i + 1, ⟨⟨wrap64 (by omega) (by omega), trivial⟩, trivial⟩, ⟨by omega, by omega, fun j hj => ?_⟩, by unfold μI; omega⟩
  rcases (by omega : (j : Int) < i ∨ j = i) with hj | rfl
  · exact hx.2.2 j hj
  · exact hp
theorem endI {n : Nat} {p : Nat → Bool} {x : Int} (hx : ΦI n p x) (hd : decide (x < (n : Int)) = false) : ∀ i, i < n → p i = true := fun i hi => hx.2.2 i (by have := of_decide_eq_false hd; omega)
theorem atI {n : Nat} {p : Nat → Bool} {x : Int} (hx : ΦI n p x) (hd : decide (x < (n : Int)) = true) : ∃ i : Nat, x = i ∧ i < n := ⟨x.toNat, by have := hx.1; omega, by have := hx.1; have := of_decide_eq_true hd; omega⟩
/-- all places -/
def allI (n : Nat) (p : Nat → Bool) : Bool := (List.range n).all p
theorem allI_no {n i : Nat} {p : Nat → Bool} (hi : i < n) (h : p i = false) : allI n p = false := by
  unfold allI; rw [List.all_eq_false]; exact ⟨i, List.mem_range.2 hi, by rw [h]; simp⟩
theorem allI_yes {n : Nat} {p : Nat → Bool} (h : ∀ i, i < n → p i = true) : allI n p = true := by
  unfold allI; rw [List.all_eq_true]; exact fun i hi => h i (List.mem_range.1 hi)
theorem allI_iff {n : Nat} {p : Nat → Bool} : allI n p = true ↔ ∀ i, i < n → p i = true := by
  unfold allI; rw [List.all_eq_true]; exact ⟨fun h i hi => h i (List.mem_range.2 hi), fun h i hi => h i (List.mem_range.1 hi)⟩
theorem back64 {i : Nat} (h : (i : Int) > 0) (hi : i ≤ 140737488355328) : IntKind.i64.wrap ((i : Int) - (1 : Int)) = ((i - 1 : Nat) : Int) := by
  rw [wrap64 (by omega) (by omega)]; omega
/-! ### branches -/
theorem dsplit {p A B : Prop} [Decidable p] (h1 : p → A) (h2 : ¬ p → B) : (decide p = true → A) ∧ (decide p = false → B) := ⟨fun h => h1 (of_decide_eq_true h), fun h => h2 (of_decide_eq_false h)⟩
theorem nsplit {p A B : Prop} [Decidable p] (h1 : ¬ p → A) (h2 : p → B) : ((!decide p) = true → A) ∧ ((!decide p) = false → B) := ⟨fun h => h1 (by simpa using h), fun h => h2 (by simpa using h)⟩
theorem tsplit {b : Bool} {A B : Prop} (h1 : b = false → A) (h2 : b = true → B) : ((!b) = true → A) ∧ ((!b) = false → B) := ⟨fun h => h1 (by simpa using h), fun h => h2 (by simpa using h)⟩
/-- a name of the page's -/
theorem refName_ok (a : Str) (hm : a.length ≤ 140737488355328) : Pure prog n_ref2_Name [.s a] true (.b (nameB a)) [] := by
  refine mk (l := [(4, lc 3)]) (k := []) ⟨lc_ok _, trivial⟩ trivial (fn := b_ref2_Name) (by kernel_rfl) (by kernel_rfl) (by kernel_rfl) rfl outsOK_nil ?_
  rw [← vc_ref2_Name]
  refine ⟨fun h => ?_, fun h1 => ⟨fun h => ?_, fun h2 => ⟨fun h => ?_, fun h3 => ⟨fun h => ?_, fun h4 => ?_⟩⟩⟩⟩
  · have h := of_decide_eq_true h
    have : a = [] := List.eq_nil_of_length_eq_zero (by omega)
    subst this; rfl
  · simp only [nameB, h, Bool.not_true, Bool.false_and, Bool.and_false]
  · have h : a = [46] := of_decide_eq_true h
    subst h; rfl
  · have h : a = [46, 46] := of_decide_eq_true h
    subst h; rfl
  have h1 : ¬ a = [] := by
    have := of_decide_eq_false h1
    intro e; subst e; simp at this
  have h2 := of_decide_eq_false h2
  have h3 : ¬ a = [46] := of_decide_eq_false h3
  have h4 : ¬ a = [46, 46] := of_decide_eq_false h4
  simp only [nameB, h1, h2, h3, h4, decide_false, Bool.not_false, Bool.true_and]
  refine ⟨ΦI a.length fun i => letterB (a.getD i 0).toNat, μI a.length, startI, fun x hx => ⟨fun hd => ?_, fun hd => ?_⟩⟩
  · obtain ⟨i, rfl, hlt⟩ := atI hx hd
    have nx := nextI hx hm hlt
    have no : letterB (a.getD i 0).toNat = false → (a.all fun u => letterB u.toNat) = false := fun h => by
      rw [List.all_eq_false]; exact ⟨_, getD_mem (d := 0) hlt, by rw [h]; simp⟩
    refine ⟨⟨by omega, by omega⟩, ?_⟩
    simp only [Int.toNat_natCast, letterB] at nx no ⊢
    repeat' first
      | exact nx (decide_eq_true (by omega))
      | exact no (decide_eq_false (by omega))
      | refine dsplit (fun h => ?_) (fun h => ?_)
      | refine nsplit (fun h => ?_) (fun h => ?_)
  · rw [List.all_eq_true]
    intro y hy
    obtain ⟨j, hj, rfl⟩ := List.getElem_of_mem hy
    have := endI hx hd j hj
    have hg : a.getD j 0 = a[j] := by simp [List.getD, hj]
    rwa [hg] at this
end Go.Proofs.Ytbiojnaemniljaa

/- Contracts: links counted; the page's files, the program's. -/
namespace Go.Proofs.Ytbiojnaemniljaa
open Go Pv
/-- how many of these links are to n, behind s others -/
def cntL (n : Int) : Int → List Link → Int
  | s, [] => s
  | s, l :: r => cntL n (if l.ID = n then IntKind.i64.wrap (s + 1) else s) r
def cntF (n : Int) : Int → List File → Int
  | s, [] => s
  | s, f :: r => cntF n (cntL n s f.List) r
/-! ### a loop with a number that is carried, and a place -/
def ΦS {α : Type} (l : List α) (go : Int → List α → Int) (t : Int) (x : Int × Int) : Prop := 0 ≤ x.2 ∧ x.2 ≤ l.length ∧ go x.1 (l.drop x.2.toNat) = t
def μS {α : Type} (l : List α) (x : Int × Int) : Nat := (l.length - x.2).toNat
theorem startS {α : Type} {l : List α} {go : Int → List α → Int} {t s : Int} (h : go s l = t) : ∃ x : Int × Int, ((s = x.1 ∧ (0 : Int) = x.2 ∧ True) ∧ True) ∧ ΦS l go t x :=
  ⟨(s, 0), ⟨⟨rfl, rfl, trivial⟩, trivial⟩, Int.le_refl _, by simp, by simpa using h⟩
theorem atS {α : Type} {l : List α} {go : Int → List α → Int} {t : Int} {x : Int × Int} (d : α) (hx : ΦS l go t x) (hd : decide (x.2 < (l.length : Int)) = true) : ∃ i : Nat, x.2 = i ∧ i < l.length ∧ go x.1 (l.getD i d :: l.drop (i + 1)) = t := by
  have h := of_decide_eq_true hd
  have h0 := hx.1
  refine ⟨x.2.toNat, by omega, by omega, ?_⟩
  rw [← drop_getD (by omega)]; exact hx.2.2
theorem nextS {α : Type} {l : List α} {go : Int → List α → Int} {t s : Int} {i : Nat} (hn : l.length ≤ 140737488355328) (hlt : i < l.length) (h : go s (l.drop (i + 1)) = t) : ∃ x' : Int × Int, ((s = x'.1 ∧ IntKind.i64.wrap ((i : Int) + (1 : Int)) = x'.2 ∧ True) ∧ True) ∧ ΦS l go t x' ∧ μS l x' < (l.length - (i : Int)).toNat :=
  ⟨(s, i + 1), ⟨⟨rfl, wrap64 (by omega) (by omega), trivial⟩, trivial⟩, ⟨by simp only; omega, by simp only; omega, by simp only; rw [show ((i : Int) + 1).toNat = i + 1 by omega]; exact h⟩, by unfold μS; simp only; omega⟩
theorem endS {α : Type} {l : List α} {go : Int → List α → Int} {t : Int} {x : Int × Int} (hx : ΦS l go t x) (hd : decide (x.2 < (l.length : Int)) = false) : go x.1 [] = t := by
  have h := of_decide_eq_false hd
  have h1 := hx.2.2
  rw [List.drop_eq_nil_of_le (by have := hx.2.1; omega)] at h1
  exact h1
theorem Links_ok (a : Vol) (n : Int) (hs : a.Sz) : Pure prog n_ref2_Links [.agg (eVol a), .i .i64 n] true (.i .i64 (cntF n 0 a.Files)) [] := by
  refine mk (l := [(3, lc2 5 6), (6, lc2 5 7)]) (k := []) ⟨lc2_ok _ _, lc2_ok _ _, trivial⟩ trivial (fn := b_ref2_Links) (by kernel_rfl) (by kernel_rfl) (by kernel_rfl) rfl outsOK_nil ?_
  rw [← vc_ref2_Links]
  refine ⟨ΦS a.Files (cntF n) (cntF n 0 a.Files), μS a.Files, startS rfl, fun x hx => ⟨fun hd => ?_, fun hd => endS hx hd⟩⟩
  obtain ⟨i, hi, hlt, hgo⟩ := atS default hx hd
  obtain ⟨s, k⟩ := x
  simp only at hi hgo
  subst hi
  simp only [Int.toNat_natCast]
  have hm := (hs.2 _ (getD_mem (d := default) hlt)).2
  refine ⟨ΦS (a.Files.getD i default).List (cntL n) (cntL n s (a.Files.getD i default).List), μS (a.Files.getD i default).List, startS rfl, fun y hy => ⟨⟨by omega, by omega⟩, fun hd' => ?_, fun hd' => ?_⟩⟩
  · obtain ⟨j, hj, hlt', hgo'⟩ := atS default hy hd'
    obtain ⟨s', k'⟩ := y
    simp only at hj hgo'
    subst hj
    simp only [Int.toNat_natCast]
    refine ⟨⟨by omega, by omega⟩, ⟨by omega, by omega⟩, dsplit (fun h => ?_) (fun h => ?_)⟩
    · simp only [cntL, if_pos h] at hgo'; exact nextS hm hlt' hgo'
    · simp only [cntL, if_neg h] at hgo'; exact nextS hm hlt' hgo'
  · have he : y.1 = cntL n s (a.Files.getD i default).List := endS hy hd'
    exact nextS hs.1 hlt (by rw [he]; exact hgo)
theorem count_ok (a : Vol) (n : Int) (hs : a.Sz) : Pure prog n_tree_count [.agg (eVol a), .i .i64 n] true (.i .i64 (cntF n 0 a.Files)) [] := by
  refine mk (l := [(3, lc2 5 13), (6, lc2 5 20)]) (k := []) ⟨lc2_ok _ _, lc2_ok _ _, trivial⟩ trivial (fn := b_tree_count) (by kernel_rfl) (by kernel_rfl) (by kernel_rfl) rfl outsOK_nil ?_
  rw [← vc_tree_count]
  refine ⟨ΦS a.Files (cntF n) (cntF n 0 a.Files), μS a.Files, startS rfl, fun x hx => ⟨fun hd => ?_, fun hd => endS hx hd⟩⟩
  obtain ⟨i, hi, hlt, hgo⟩ := atS default hx hd
  obtain ⟨s, k⟩ := x
  simp only at hi hgo
  subst hi
  simp only [Int.toNat_natCast]
  have hm := (hs.2 _ (getD_mem (d := default) hlt)).2
  refine ⟨⟨by omega, by omega⟩, ΦS (a.Files.getD i default).List (cntL n) (cntL n s (a.Files.getD i default).List), μS (a.Files.getD i default).List, startS rfl, fun y hy => ⟨fun hd' => ?_, fun hd' => ?_⟩⟩
  · obtain ⟨j, hj, hlt', hgo'⟩ := atS default hy hd'
    obtain ⟨s', k'⟩ := y
    simp only at hj hgo'
    subst hj
    simp only [Int.toNat_natCast]
    refine ⟨⟨by omega, by omega⟩, dsplit (fun h => ?_) (fun h => ?_)⟩
    · simp only [cntL, if_pos h] at hgo'; exact nextS hm hlt' hgo'
    · simp only [cntL, if_neg h] at hgo'; exact nextS hm hlt' hgo'
  · have he : y.1 = cntL n s (a.Files.getD i default).List := endS hy hd'
    exact nextS hs.1 hlt (by rw [he]; exact hgo)
/-- is the name behind the one before? -/
def risesB (l : List Link) (i : Nat) : Bool := decide (i = 0) || Op.bytesLess (l.getD (i - 1) default).Name (l.getD i default).Name
/-- one link of the page's: a name, behind the one before, to a file -/
def refLinkB (v : Vol) (l : List Link) (i : Nat) : Bool := nameB (l.getD i default).Name && (risesB l i && !decide (place (fun f => decide (f.ID = (l.getD i default).ID)) v.Files < 0))
/-- may a file be, by the page? -/
def refFileB (v : Vol) (f : File) : Bool :=
  if f.Dir then decide (f.Size = 0) && (decide (f.Blocks.length = 0) && (decide (f.List.length ≤ 8) && allI f.List.length (refLinkB v f.List)))
  else decide (f.List.length = 0) && (decide (0 ≤ f.Size ∧ f.Size ≤ 200) && (decide ((f.Blocks.length : Int) = many f.Size) && allI f.Blocks.length fun i => decide (0 ≤ f.Blocks.getD i 0 ∧ f.Blocks.getD i 0 ≤ 1073741823)))
theorem refFile_ok (a : Vol) (f : File) (hs : a.Sz) (hf : f.Sz) (hn : ∀ l, l ∈ f.List → l.Name.length ≤ 140737488355328) : Pure prog n_ref2_file [.agg (eVol a), .agg (eFile f)] true (.b (refFileB a f)) [] := by
  refine mk (l := [(5, lc 5), (13, lc 6)]) (k := []) ⟨lc_ok _, lc_ok _, trivial⟩ trivial (fn := b_ref2_file) (by kernel_rfl) (by kernel_rfl) (by kernel_rfl) rfl outsOK_nil ?_
  rw [← vc_ref2_file]
  refine ⟨fun hd => ?_, fun hd => ?_⟩
  · simp only [refFileB, hd, if_true]
    refine nsplit (fun h => by simp [h]) (fun h1 => ?_)
    refine dsplit (fun h => ?_) (fun h2 => ?_)
    · have : ¬ f.Blocks.length = 0 := by omega
      simp [this]
    refine dsplit (fun h => ?_) (fun h3 => ?_)
    · have : ¬ f.List.length ≤ 8 := by omega
      simp [this]
    have e1 : f.Blocks.length = 0 := by omega
    have e2 : f.List.length ≤ 8 := by omega
    simp only [h1, e1, e2, decide_true, Bool.true_and]
    refine ⟨ΦI f.List.length (refLinkB a f.List), μI f.List.length, startI, fun x hx => ⟨fun hd => ?_, fun hd => allI_yes (endI hx hd)⟩⟩
    obtain ⟨i, rfl, hlt⟩ := atI hx hd
    have nx := nextI hx hf.2 hlt
    have no : refLinkB a f.List i = false → _ := allI_no (n := f.List.length) hlt
    simp only [Int.toNat_natCast] at nx ⊢
    refine ⟨⟨by omega, by omega⟩, _, refName_ok _ (hn _ (getD_mem hlt)), tsplit (fun h => no (by simp only [refLinkB, h, Bool.false_and])) (fun hN => ?_)⟩
    have fin : risesB f.List i = true → inb (i : Int) f.List.length ∧ ∃ r_2 : Int, Pure prog n_ref2_At [PV.agg (eVol a), PV.i IntKind.i64 (f.List.getD i default).ID] true (PV.i IntKind.i64 r_2) [] ∧ (decide (r_2 < (0 : Int)) = true → allI f.List.length (refLinkB a f.List) = false) ∧
        (decide (r_2 < (0 : Int)) = false → ∃ x' : Int, ((IntKind.i64.wrap ((i : Int) + (1 : Int)) = x' ∧ True) ∧ True) ∧ ΦI f.List.length (refLinkB a f.List) x' ∧ μI f.List.length x' < μI f.List.length i) := by
      intro hr
      refine ⟨⟨by omega, by omega⟩, _, AtFile_ok a _ hs.1, dsplit (fun h => no (by simp only [refLinkB, hN, hr, h, decide_true, Bool.not_true, Bool.and_false])) (fun h => nx (by simp only [refLinkB, hN, hr, h, decide_false, Bool.not_false, Bool.and_true]))⟩
    refine dsplit (fun h => ?_) (fun h => ?_)
    · rw [back64 h (by have := hf.2; omega)]
      simp only [Int.toNat_natCast]
      have hi0 : ¬ i = 0 := by omega
      refine ⟨⟨by omega, by omega⟩, ⟨by omega, by omega⟩, tsplit (fun h => no (by simp only [refLinkB, risesB, h, hi0, decide_false, Bool.or_false, Bool.false_and, Bool.and_false])) (fun h => fin (by simp only [risesB, h, Bool.or_true]))⟩
    · exact fin (by have : i = 0 := by omega
                    simp only [risesB, this, decide_true, Bool.true_or])
  · simp only [refFileB, hd, Bool.false_eq_true, if_false]
    refine dsplit (fun h => ?_) (fun h1 => ?_)
    · have : ¬ f.List.length = 0 := by omega
      simp [this]
    have e1 : f.List.length = 0 := by omega
    refine ⟨_, Num_ok _ _, tsplit (fun h => by simp only [h, Bool.false_and, Bool.and_false]) (fun h2 => ⟨_, Many_ok _, nsplit (fun h => by simp only [h, decide_false, Bool.false_and, Bool.and_false]) (fun h3 => ?_)⟩)⟩
    have h3' := decide_eq_true h3
    simp only [e1, h2, h3', decide_true, Bool.true_and]
    refine ⟨ΦI f.Blocks.length fun i => decide (0 ≤ f.Blocks.getD i 0 ∧ f.Blocks.getD i 0 ≤ 1073741823), μI f.Blocks.length, startI, fun x hx => ⟨fun hd => ?_, fun hd => allI_yes (endI hx hd)⟩⟩
    obtain ⟨i, rfl, hlt⟩ := atI hx hd
    have nx := nextI hx hf.1 hlt
    simp only [Int.toNat_natCast] at nx ⊢
    exact ⟨⟨by omega, by omega⟩, _, Num_ok _ _, tsplit (fun h => allI_no hlt h) (fun h => nx h)⟩
end Go.Proofs.Ytbiojnaemniljaa

/- Contracts: the program's links, files; directories deep down; may a volume be? -/
namespace Go.Proofs.Ytbiojnaemniljaa
open Go Pv
/-- short enough, the names too -/
def File.Sn (f : File) : Prop := f.Sz ∧ ∀ l, l ∈ f.List → l.Name.length ≤ 140737488355328
def Vol.Sn (v : Vol) : Prop := v.Files.length ≤ 140737488355328 ∧ ∀ f, f ∈ v.Files → f.Sn
theorem Vol.Sn.sz {v : Vol} (h : v.Sn) : v.Sz := ⟨h.1, fun f hf => (h.2 f hf).1⟩
/-- one link: to a file, a name, behind the one before -/
def linkB (v : Vol) (l : List Link) (i : Nat) : Bool :=
  seekFb v.Files (l.getD i default).ID && (nameB (l.getD i default).Name && (decide (i = 0) || !(Op.bytesLess (l.getD i default).Name (l.getD (i - 1) default).Name || decide ((l.getD i default).Name = (l.getD (i - 1) default).Name))))
def linksB (v : Vol) (f : File) : Bool := decide (f.List.length ≤ 8) && allI f.List.length (linkB v f.List)
theorem links_ok (a : Vol) (f : File) (hs : a.Sn) (hf : f.Sn) : Pure prog n_tree_links [.agg (eVol a), .agg (eFile f)] true (.b (linksB a f)) [] := by
  refine mk (l := [(4, lc 16)]) (k := []) ⟨lc_ok _, trivial⟩ trivial (fn := b_tree_links) (by kernel_rfl) (by kernel_rfl) (by kernel_rfl) rfl outsOK_nil ?_
  rw [← vc_tree_links]
  refine dsplit (fun h => ?_) (fun h1 => ?_)
  · have : ¬ f.List.length ≤ 8 := by omega
    simp [linksB, this]
  have e1 : f.List.length ≤ 8 := by omega
  simp only [linksB, e1, decide_true, Bool.true_and]
  refine ⟨ΦI f.List.length (linkB a f.List), μI f.List.length, startI, fun x hx => ⟨fun hd => ?_, fun hd => allI_yes (endI hx hd)⟩⟩
  obtain ⟨i, rfl, hlt⟩ := atI hx hd
  have nx := nextI hx (by omega) hlt
  have no : linkB a f.List i = false → _ := allI_no (n := f.List.length) hlt
  simp only [Int.toNat_natCast] at nx ⊢
  refine ⟨⟨by omega, by omega⟩, ((seekF a.Files (f.List.getD i default).ID : Int), seekFb a.Files (f.List.getD i default).ID), atF_ok a _ hs.1, tsplit (fun h => no (by have h : seekFb a.Files (f.List.getD i default).ID = false := h; simp only [linkB, h, Bool.false_and])) (fun g1 => ⟨_, nameIs_ok _ (hf.2 _ (getD_mem hlt)), tsplit (fun h => no (by simp only [linkB, h, Bool.false_and, Bool.and_false])) (fun g2 => ?_)⟩)⟩
  have g1 : seekFb a.Files (f.List.getD i default).ID = true := g1
  refine dsplit (fun h => ?_) (fun h => ?_)
  · rw [back64 h (by omega)]
    simp only [Int.toNat_natCast]
    have hi0 : ¬ i = 0 := by omega
    refine ⟨⟨by omega, by omega⟩, fun h => no ?_, fun h => nx ?_⟩
    · simp only [linkB, h, hi0, decide_false, Bool.not_true, Bool.or_false, Bool.and_false]
    · simp only [linkB, g1, g2, h, Bool.not_false, Bool.or_true, Bool.and_true]
  · have hi0 : i = 0 := by omega
    exact nx (by simp only [linkB, hi0, decide_true, Bool.true_or, Bool.and_true]; simp only [hi0] at g1 g2; simp only [g1, g2, Bool.and_true])
/-- one file, by itself -/
def fileB (v : Vol) (i : Nat) : Bool :=
  decide (1 ≤ (v.Files.getD i default).ID) && (decide ((v.Files.getD i default).ID < v.Next) && ((decide (i = 0) || decide ((v.Files.getD (i - 1) default).ID < (v.Files.getD i default).ID)) &&
    (if (v.Files.getD i default).Dir then decide ((v.Files.getD i default).Size = 0) && decide ((v.Files.getD i default).Blocks.length = 0) else decide ((v.Files.getD i default).List.length = 0) && blocksMay (v.Files.getD i default))))
def dirB (v : Vol) (i : Nat) : Bool := !(v.Files.getD i default).Dir || linksB v (v.Files.getD i default)
def filesB (v : Vol) : Bool := allI v.Files.length (fileB v) && allI v.Files.length (dirB v)
theorem bsplit {b : Bool} {A B : Prop} (h1 : b = true → A) (h2 : b = false → B) : (b = true → A) ∧ (b = false → B) := ⟨h1, h2⟩
theorem files_ok (a : Vol) (hs : a.Sn) : Pure prog n_tree_files [.agg (eVol a)] true (.b (filesB a)) [] := by
  refine mk (l := [(2, lc 10), (12, lc 75)]) (k := []) ⟨lc_ok _, lc_ok _, trivial⟩ trivial (fn := b_tree_files) (by kernel_rfl) (by kernel_rfl) (by kernel_rfl) rfl outsOK_nil ?_
  rw [← vc_tree_files]
  refine ⟨ΦI a.Files.length (fileB a), μI a.Files.length, startI, fun x hx => ⟨fun hd => ?_, fun hd => ?_⟩⟩
  · obtain ⟨i, rfl, hlt⟩ := atI hx hd
    have nx := nextI hx hs.1 hlt
    have no : fileB a i = false → filesB a = false := fun h => by simp only [filesB, allI_no hlt h, Bool.false_and]
    have hb := blocks_ok (a.Files.getD i default) (hs.2 _ (getD_mem hlt)).1.1
    have hlen := hs.1
    simp only [Int.toNat_natCast] at nx ⊢
    refine ⟨⟨by omega, by omega⟩, ?_⟩
    have hback : (i : Int) > 0 → IntKind.i64.wrap ((i : Int) - (1 : Int)) = ((i - 1 : Nat) : Int) := fun h => back64 h (by omega)
    by_cases hi0 : i = 0
    · subst hi0
      simp only [fileB, decide_true, Bool.true_or, Bool.true_and] at nx no
      obtain ⟨f, hf⟩ : ∃ f, a.Files.getD 0 default = f := ⟨_, rfl⟩
      simp only [hf] at nx no hb ⊢
      refine dsplit (fun h => no (by simp [show ¬ 1 ≤ f.ID by omega])) (fun g1 => ?_)
      have g1 : 1 ≤ f.ID := by omega
      refine dsplit (fun h => no (by simp [show ¬ f.ID < a.Next by omega])) (fun g2 => ?_)
      have g2 : f.ID < a.Next := by omega
      simp only [g1, g2, decide_true, Bool.true_and] at nx no
      refine ⟨fun h => (by simp at h), fun _ => ?_⟩
      cases hD : f.Dir with
      | true =>
        simp only [hD, if_true] at nx no
        refine ⟨fun _ => nsplit (fun h => no (by simp [h])) (fun h1 => dsplit (fun h => no (by simp [show ¬ f.Blocks.length = 0 by omega])) (fun h2 => ⟨fun h => (by cases h), fun _ => nx (by simp [h1, show f.Blocks.length = 0 by omega])⟩)), fun h => (by cases h)⟩
      | false =>
        simp only [hD, Bool.false_eq_true, if_false] at nx no
        refine ⟨fun h => (by cases h), fun _ => ⟨fun _ => dsplit (fun h => no (by simp [show ¬ f.List.length = 0 by omega])) (fun h1 => ⟨_, by have := hb; simp only [eFile, hD] at this; exact this, tsplit (fun h => no (by simp [h])) (fun h => nx (by simp [h, show f.List.length = 0 by omega]))⟩), fun h => (by cases h)⟩⟩
    · have hi : (i : Int) > 0 := by omega
      rw [hback hi]
      simp only [fileB, hi0, decide_false, Bool.false_or] at nx no
      simp only [Int.toNat_natCast]
      obtain ⟨p, hp⟩ : ∃ p, (a.Files.getD (i - 1) default).ID = p := ⟨_, rfl⟩
      obtain ⟨f, hf⟩ : ∃ f, a.Files.getD i default = f := ⟨_, rfl⟩
      simp only [hf, hp] at nx no hb ⊢
      refine dsplit (fun h => no (by simp [show ¬ 1 ≤ f.ID by omega])) (fun g1 => ?_)
      have g1 : 1 ≤ f.ID := by omega
      refine dsplit (fun h => no (by simp [show ¬ f.ID < a.Next by omega])) (fun g2 => ?_)
      have g2 : f.ID < a.Next := by omega
      refine ⟨fun _ => ⟨⟨by omega, by omega⟩, dsplit (fun h => no (by simp [show ¬ p < f.ID by omega])) (fun g3 => ?_)⟩, fun h => absurd hi (of_decide_eq_false h)⟩
      have g3 : p < f.ID := by omega
      simp only [g1, g2, g3, decide_true, Bool.true_and] at nx no
      cases hD : f.Dir with
      | true =>
        simp only [hD, if_true] at nx no
        refine ⟨fun _ => nsplit (fun h => no (by simp [h])) (fun h1 => dsplit (fun h => no (by simp [show ¬ f.Blocks.length = 0 by omega])) (fun h2 => ⟨fun h => (by cases h), fun _ => nx (by simp [h1, show f.Blocks.length = 0 by omega])⟩)), fun h => (by cases h)⟩
      | false =>
        simp only [hD, Bool.false_eq_true, if_false] at nx no
        refine ⟨fun h => (by cases h), fun _ => ⟨fun _ => dsplit (fun h => no (by simp [show ¬ f.List.length = 0 by omega])) (fun h1 => ⟨_, by have := hb; simp only [eFile, hD] at this; exact this, tsplit (fun h => no (by simp [h])) (fun h => nx (by simp [h, show f.List.length = 0 by omega]))⟩), fun h => (by cases h)⟩⟩
  · have h1 : allI a.Files.length (fileB a) = true := allI_yes (endI hx hd)
    simp only [filesB, h1, Bool.true_and]
    refine ⟨ΦI a.Files.length (dirB a), μI a.Files.length, startI, fun x hx => ⟨fun hd => ?_, fun hd => allI_yes (endI hx hd)⟩⟩
    obtain ⟨i, rfl, hlt⟩ := atI hx hd
    have nx := nextI hx hs.1 hlt
    have no : dirB a i = false → _ := allI_no (n := a.Files.length) hlt
    simp only [Int.toNat_natCast] at nx ⊢
    refine ⟨⟨by omega, by omega⟩, fun h => ⟨_, links_ok a _ hs (hs.2 _ (getD_mem hlt)), tsplit (fun h' => no (by simp only [dirB, h, h', Bool.not_true, Bool.or_false])) (fun h' => nx (by simp only [dirB, h', Bool.or_true]))⟩, fun h => nx (by simp only [dirB, h, Bool.not_false, Bool.true_or])⟩
end Go.Proofs.Ytbiojnaemniljaa

/- Contracts: all that a directory leads to. -/
namespace Go.Proofs.Ytbiojnaemniljaa
open Go Pv
abbrev Seen := List (Int × Bool)
/-- the links of the file of a number -/
def kids (v : Vol) (i : Int) : List Link := (v.Files.getD (seekF v.Files i) default).List
/-- one behind the other, till one says no -/
def deepG (f : Int → Seen → Bool × Seen) : List Link → Seen → Bool × Seen
  | [], m => (true, m)
  | l :: r, m => match f l.ID m with
    | (true, m') => deepG f r m'
    | (false, m') => (false, m')
/-- all that a directory leads to, by so many names less one -/
def deepP (v : Vol) : Nat → Int → Seen → Bool × Seen
  | 0, _, m => (false, m)
  | n + 1, i, m => deepG (deepP v n) (kids v i) (mset m i true)
/-- links lead to files; no directory has many -/
def WF (v : Vol) : Prop := v.Sn ∧ ∀ f, f ∈ v.Files → f.List.length ≤ 8 ∧ ∀ l, l ∈ f.List → seekFb v.Files l.ID = true
def bnd : Nat → Nat
  | 0 => 0
  | n + 1 => 1 + 8 * bnd n
theorem mset_le {α : Type} {i : Int} {z : α} : ∀ m : List (Int × α), (mset m i z).length ≤ m.length + 1
  | [] => Nat.le_refl _
  | (k, u) :: m => by
    simp only [mset]
    split
    · simp
    · simp; exact mset_le m
theorem deepG_le {f : Int → Seen → Bool × Seen} {b : Nat} (hf : ∀ i m, (f i m).2.length ≤ m.length + b) : ∀ (l : List Link) (m : Seen), (deepG f l m).2.length ≤ m.length + l.length * b
  | [], m => by simp [deepG]
  | l :: r, m => by
    have h1 := hf l.ID m
    simp only [deepG, List.length_cons, Nat.add_mul, Nat.one_mul]
    rcases h : f l.ID m with ⟨x, m'⟩
    rw [h] at h1
    cases x with
    | true => have := deepG_le hf r m'; simp only at h1 ⊢; omega
    | false => simp only at h1 ⊢; omega
theorem WF.kids {v : Vol} (h : WF v) {i : Int} (hi : seekFb v.Files i = true) : seekF v.Files i < v.Files.length ∧ (kids v i).length ≤ 8 ∧ ∀ l, l ∈ kids v i → seekFb v.Files l.ID = true := by
  have hlt : seekF v.Files i < v.Files.length := by
    unfold seekFb at hi
    rw [Bool.and_eq_true] at hi
    exact of_decide_eq_true hi.1
  exact ⟨hlt, h.2 _ (getD_mem hlt)⟩
theorem deepP_le {v : Vol} (h : WF v) : ∀ (n : Nat) (i : Int) (m : Seen), seekFb v.Files i = true → (deepP v n i m).2.length ≤ m.length + bnd n := by
  intro n
  induction n with
  | zero => intro i m _; simp [deepP, bnd]
  | succ n ih =>
    intro i m hi
    obtain ⟨_, h2, h3⟩ := h.kids hi
    have key : ∀ (l : List Link) (m : Seen), (∀ x, x ∈ l → seekFb v.Files x.ID = true) → (deepG (deepP v n) l m).2.length ≤ m.length + l.length * bnd n := by
      intro l
      induction l with
      | nil => intro m _; simp [deepG]
      | cons l r ihl =>
        intro m hl
        have h1 := ih l.ID m (hl l (List.mem_cons_self ..))
        simp only [deepG, List.length_cons, Nat.add_mul, Nat.one_mul]
        rcases hh : deepP v n l.ID m with ⟨x, m'⟩
        rw [hh] at h1
        cases x with
        | true => have := ihl m' (fun x hx => hl x (List.mem_cons_of_mem _ hx)); simp only at h1 ⊢; omega
        | false => simp only at h1 ⊢; omega
    have h4 := key (Go.Proofs.Ytbiojnaemniljaa.kids v i) (mset m i true) h3
    have h5 := mset_le (i := i) (z := true) m
    have h6 : (Go.Proofs.Ytbiojnaemniljaa.kids v i).length * bnd n ≤ 8 * bnd n := Nat.mul_le_mul_right _ h2
    simp only [deepP, bnd]
    omega
theorem deep_step {v : Vol} (h : WF v) (n : Nat) (hn : n ≤ 1000) (ih : n ≠ 0 → ∀ (i : Int) (m : Seen), seekFb v.Files i = true → m.length + bnd n ≤ 140737488355327 →
      PureIO prog n_tree_deep [.agg (eVol v), .i .i64 i, .i .i64 ((n : Int) - 1), .mp (.s 100000)] [(100000, .map Bool eBool m)] true (.b (deepP v n i m).1) [(100000, .map Bool eBool (deepP v n i m).2)])
    (i : Int) (m : Seen) (hi : seekFb v.Files i = true) (hm : m.length + bnd (n + 1) ≤ 140737488355327) :
    PureIO prog n_tree_deep [.agg (eVol v), .i .i64 i, .i .i64 n, .mp (.s 100000)] [(100000, .map Bool eBool m)] true (.b (deepP v (n + 1) i m).1) [(100000, .map Bool eBool (deepP v (n + 1) i m).2)] := by
  obtain ⟨k1, k2, k3⟩ := h.kids hi
  refine mkIO (l := [(4, lSeen 28 100000)]) (k := []) ⟨lSeen_ok _ _, trivial⟩ trivial (fn := b_tree_deep) (by kernel_rfl) (by kernel_rfl) (by kernel_rfl) rfl outs_map insOK1 ?_
  rw [← vc_tree_deep]
  have hb : bnd (n + 1) = 1 + 8 * bnd n := rfl
  have hms := mset_le (i := i) (z := true) m
  have hk : (Go.Proofs.Ytbiojnaemniljaa.kids v i).length * bnd n ≤ 8 * bnd n := Nat.mul_le_mul_right _ k2
  refine ⟨true, rfl, by omega, ((seekF v.Files i : Int), seekFb v.Files i), atF_ok v i h.1.1, ⟨by simp only; omega, by simp only; omega⟩, ?_⟩
  obtain ⟨K, hKK⟩ : ∃ K, Go.Proofs.Ytbiojnaemniljaa.kids v i = K := ⟨_, rfl⟩
  have hK : (v.Files.getD (seekF v.Files i) default).List = K := hKK
  obtain ⟨R, hRR⟩ : ∃ R, deepP v (n + 1) i m = R := ⟨_, rfl⟩
  have hR : R = deepG (deepP v n) K (mset m i true) := by rw [← hKK, ← hRR]; rfl
  simp only [Int.toNat_natCast, hK, hRR]
  rw [hKK] at k2 k3 hk
  refine ⟨fun x => 0 ≤ x.1 ∧ x.1 ≤ K.length ∧ deepG (deepP v n) (K.drop x.1.toNat) x.2 = R ∧ x.2.length + (K.length - x.1.toNat) * bnd n ≤ 140737488355327, fun x => (K.length - x.1).toNat, ⟨(0, mset m i true), ⟨⟨rfl, trivial⟩, rfl, trivial⟩, Int.le_refl _, by simp, hR.symm, by simp only [Int.toNat_zero, Nat.sub_zero]; omega⟩, ?_⟩
  rintro ⟨x, s⟩ ⟨g1, g2, g3, g4⟩
  simp only at g1 g2 g3 g4 ⊢
  refine dsplit (fun hlt => ?_) (fun hge => ?_)
  · obtain ⟨j, rfl⟩ := Int.eq_ofNat_of_zero_le g1
    have hlt : j < K.length := by omega
    simp only [Int.toNat_natCast] at g3 g4 ⊢
    have hkid := k3 _ (getD_mem (d := default) hlt)
    rw [drop_getD (d := default) hlt] at g3
    have hmul : (K.length - j) * bnd n = bnd n + (K.length - (j + 1)) * bnd n := by
      rw [show K.length - j = (K.length - (j + 1)) + 1 by omega, Nat.add_mul, Nat.one_mul, Nat.add_comm]
    refine ⟨⟨by omega, by omega⟩, dsplit (fun h0 => ?_) (fun h0 => ?_)⟩
    · have : n = 0 := by omega
      subst this
      simp only [deepG, deepP] at g3
      rw [← g3]; exact ⟨rfl, rfl, trivial⟩
    · have hne : n ≠ 0 := by omega
      rw [wrap64 (by omega) (by omega)]
      refine ⟨deepP v n (K.getD j default).ID s, ih hne _ _ hkid (by omega), ?_⟩
      have hle := deepP_le h n (K.getD j default).ID s hkid
      simp only [deepG] at g3
      generalize deepP v n (K.getD j default).ID s = q at g3 hle ⊢
      obtain ⟨b, s'⟩ := q
      cases b with
      | false => rw [← g3]; exact ⟨fun _ => ⟨rfl, rfl, trivial⟩, fun e => (by cases e)⟩
      | true =>
        refine ⟨fun e => (by cases e), fun _ => ⟨((j : Int) + 1, s'), ⟨⟨wrap64 (by omega) (by omega), trivial⟩, rfl, trivial⟩, ⟨by simp only; omega, by simp only; omega, ?_, ?_⟩, by simp only; omega⟩⟩
        · simp only; rw [show ((j : Int) + 1).toNat = j + 1 by omega]; exact g3
        · simp only at hle ⊢; rw [show ((j : Int) + 1).toNat = j + 1 by omega]; omega
  · rw [List.drop_eq_nil_of_le (by omega)] at g3
    rw [← g3]; exact ⟨rfl, rfl, trivial⟩
theorem deep_ok {v : Vol} (h : WF v) : ∀ (n : Nat) (i : Int) (m : Seen), n ≤ 1000 → seekFb v.Files i = true → m.length + bnd (n + 1) ≤ 140737488355327 →
    PureIO prog n_tree_deep [.agg (eVol v), .i .i64 i, .i .i64 n, .mp (.s 100000)] [(100000, .map Bool eBool m)] true (.b (deepP v (n + 1) i m).1) [(100000, .map Bool eBool (deepP v (n + 1) i m).2)] := by
  intro n
  induction n with
  | zero => exact fun i m hn hi hm => deep_step h 0 hn (fun hne => absurd rfl hne) i m hi hm
  | succ n ih =>
    intro i m hn hi hm
    refine deep_step h (n + 1) hn (fun _ i m hi hm => ?_) i m hi hm
    have := ih i m (by omega) hi hm
    rw [show ((n + 1 : Nat) : Int) - 1 = (n : Int) by omega]; exact this
end Go.Proofs.Ytbiojnaemniljaa

/- Contracts: may a volume be, may volumes? -/
namespace Go.Proofs.Ytbiojnaemniljaa
open Go Pv
/-! ### halving finds -/
theorem halve_spec {α : Type} {c : α → Int} {d : α} {a : List α} (mono : ∀ p q, p ≤ q → q < a.length → c (a.getD q d) < 0 → c (a.getD p d) < 0) : ∀ (k i j : Nat), j - i ≤ k → i ≤ j → j ≤ a.length →
    i ≤ halve c d a i j ∧ halve c d a i j ≤ j ∧ (∀ p, i ≤ p → p < halve c d a i j → c (a.getD p d) < 0) ∧ ∀ p, halve c d a i j ≤ p → p < j → ¬ c (a.getD p d) < 0 := by
  intro k
  induction k with
  | zero =>
    intro i j hk hij hj
    have : ¬ i < j := by omega
    rw [halve, if_neg this]
    exact ⟨Nat.le_refl _, hij, fun p h1 h2 => by omega, fun p h1 h2 => by omega⟩
  | succ k ih =>
    intro i j hk hij hj
    by_cases hlt : i < j
    · rw [halve, if_pos hlt]
      by_cases hc : c (a.getD ((i + j) / 2) d) < 0
      · rw [if_pos hc]
        obtain ⟨h1, h2, h3, h4⟩ := ih ((i + j) / 2 + 1) j (by omega) (by omega) hj
        refine ⟨by omega, h2, fun p g1 g2 => ?_, h4⟩
        rcases Nat.lt_or_ge p ((i + j) / 2 + 1) with h | h
        · exact mono p ((i + j) / 2) (by omega) (by omega) hc
        · exact h3 p h g2
      · rw [if_neg hc]
        obtain ⟨h1, h2, h3, h4⟩ := ih i ((i + j) / 2) (by omega) (by omega) (by omega)
        refine ⟨h1, by omega, h3, fun p g1 g2 => ?_⟩
        rcases Nat.lt_or_ge p ((i + j) / 2) with h | h
        · exact h4 p g1 h
        · exact fun hp => hc (mono ((i + j) / 2) p h (by omega) hp)
    · rw [halve, if_neg hlt]
      exact ⟨Nat.le_refl _, hij, fun p h1 h2 => by omega, fun p h1 h2 => by omega⟩
/-- among rising numbers -/
theorem halve_at {α : Type} {c : α → Int} {d : α} {a : List α} {t : Nat} (ht : t < a.length) (h0 : c (a.getD t d) = 0) (hlo : ∀ p, p < t → c (a.getD p d) < 0) (hhi : ∀ p, t < p → p < a.length → 0 < c (a.getD p d)) : halve c d a 0 a.length = t := by
  obtain ⟨h1, h2, h3, h4⟩ := halve_spec (c := c) (d := d) (a := a) (fun p q hpq hq hc => by
    rcases Nat.lt_or_ge p t with h | h
    · exact hlo p h
    · rcases (by omega : q = t ∨ t < q) with rfl | hq'
      · rw [h0] at hc; omega
      · have := hhi q hq' hq; omega) a.length 0 a.length (by omega) (Nat.zero_le _) (Nat.le_refl _)
  rcases Nat.lt_trichotomy (halve c d a 0 a.length) t with h | h | h
  · exact absurd (hlo _ h) (h4 _ (Nat.le_refl _) (by omega))
  · exact h
  · have := h3 t (Nat.zero_le _) h; rw [h0] at this; omega
/-- is this file named as it must be? -/
def namedI (v : Vol) (i : Nat) : Bool :=
  if (v.Files.getD i default).ID = 1 then decide (cntF (v.Files.getD i default).ID 0 v.Files ≤ 0)
  else decide (1 ≤ cntF (v.Files.getD i default).ID 0 v.Files) && (!(v.Files.getD i default).Dir || decide (cntF (v.Files.getD i default).ID 0 v.Files ≤ 1))
def namedB (v : Vol) : Bool := allI v.Files.length (namedI v) && ((deepP v 6 1 []).1 && decide ((deepP v 6 1 []).2.length = v.Files.length))
theorem named_ok (a : Vol) (h : WF a) (h1 : seekFb a.Files 1 = true) : Pure prog n_tree_named [.agg (eVol a)] true (.b (namedB a)) [] := by
  refine mk (l := [(2, lc 10)]) (k := [(43, kdBool)]) ⟨lc_ok _, trivial⟩ ⟨kdBool_ok, trivial⟩ (fn := b_tree_named) (by kernel_rfl) (by kernel_rfl) (by kernel_rfl) rfl outsOK_nil ?_
  rw [← vc_tree_named]
  refine ⟨ΦI a.Files.length (namedI a), μI a.Files.length, startI, fun x hx => ⟨fun hd => ?_, fun hd => ?_⟩⟩
  · obtain ⟨i, rfl, hlt⟩ := atI hx hd
    have nx := nextI hx h.1.1 hlt
    have no : namedI a i = false → namedB a = false := fun h => by simp only [namedB, allI_no hlt h, Bool.false_and]
    have hc := count_ok a (a.Files.getD i default).ID h.1.sz
    unfold namedI at nx no
    obtain ⟨f, hf⟩ : ∃ f, a.Files.getD i default = f := ⟨_, rfl⟩
    obtain ⟨c, hcc⟩ : ∃ c, cntF f.ID 0 a.Files = c := ⟨_, rfl⟩
    simp only [Int.toNat_natCast, hf, hcc] at nx no hc ⊢
    refine ⟨⟨by omega, by omega⟩, c, hc, ?_⟩
    by_cases hr : f.ID = 1
    · simp only [hr, if_true, decide_true, Bool.not_true] at nx no ⊢
      refine ⟨fun _ => dsplit (fun h => no (by simp [show ¬ c ≤ 0 by omega])) (fun h => ⟨fun h => (by cases h), fun _ => nx (by simp [show c ≤ 0 by omega])⟩), fun h => (by cases h)⟩
    · simp only [hr, if_false, decide_false, Bool.not_false] at nx no ⊢
      refine ⟨fun h => (by cases h), fun _ => ⟨fun _ => dsplit (fun h => no (by simp [show ¬ 1 ≤ c by omega])) (fun h => ?_), fun h => (by cases h)⟩⟩
      have g : 1 ≤ c := by omega
      refine ⟨fun hD => dsplit (fun h => no (by simp [hD, show ¬ c ≤ 1 by omega])) (fun h => nx (by simp [g, show c ≤ 1 by omega])), fun hD => nx (by simp [g, hD])⟩
  · have e1 : allI a.Files.length (namedI a) = true := allI_yes (endI hx hd)
    have hb := deep_ok h 5 1 [] (by decide) h1 (by decide)
    refine ⟨eBool, fun x => rfl, fun x => rfl, deepP a 6 1 [], hb, fun h => ?_, fun h => ?_⟩
    · simp only [namedB, e1, h, Bool.true_and, Int.ofNat_inj]
    · simp only [namedB, h, Bool.false_and, Bool.and_false]
/-- links of files that may be lead to files -/
theorem wf_of {v : Vol} (hs : v.Sn) (h : filesB v = true) : WF v := by
  unfold filesB at h
  rw [Bool.and_eq_true, allI_iff, allI_iff] at h
  refine ⟨hs, fun f hf => ?_⟩
  obtain ⟨i, hi, rfl⟩ := List.getElem_of_mem hf
  have hg : v.Files.getD i default = v.Files[i] := by simp [List.getD, hi]
  have h1 := h.1 i hi
  have h2 := h.2 i hi
  unfold fileB at h1
  unfold dirB at h2
  rw [hg] at h1 h2
  cases hD : (v.Files[i]).Dir with
  | true =>
    simp only [hD, Bool.not_true, Bool.false_or, linksB, Bool.and_eq_true, allI_iff] at h2
    refine ⟨of_decide_eq_true h2.1, fun l hl => ?_⟩
    obtain ⟨j, hj, rfl⟩ := List.getElem_of_mem hl
    have := h2.2 j hj
    unfold linkB at this
    rw [Bool.and_eq_true] at this
    have hg2 : (v.Files[i]).List.getD j default = (v.Files[i]).List[j] := by simp [List.getD, hj]
    rw [hg2] at this
    exact this.1
  | false =>
    simp only [hD, Bool.false_eq_true, if_false, Bool.and_eq_true] at h1
    have h0 : (v.Files[i]).List.length = 0 := of_decide_eq_true h1.2.2.2.1
    refine ⟨by omega, fun l hl => ?_⟩
    have : (v.Files[i]).List = [] := List.eq_nil_of_length_eq_zero h0
    rw [this] at hl; cases hl
def numB (a : Int) : Bool := decide (0 ≤ a ∧ a ≤ 1073741824)
/-- may a volume be? -/
def mayT (v : Vol) : Bool :=
  numB v.ID && (numB v.From && (numB v.Next && ((v.Snap || decide (v.From = 0)) && (decide (1 ≤ v.Files.length) && (decide (v.Files.length ≤ 16) && (filesB v && (decide ((v.Files.getD 0 default).ID = 1) && ((v.Files.getD 0 default).Dir && namedB v))))))))
/-- numbers that rise -/
theorem files_rise {v : Vol} (h : filesB v = true) : ∀ q p, p < q → q < v.Files.length → (v.Files.getD p default).ID < (v.Files.getD q default).ID := by
  unfold filesB at h
  rw [Bool.and_eq_true, allI_iff, allI_iff] at h
  intro q
  induction q with
  | zero => intro p hp; omega
  | succ q ih =>
    intro p hp hq
    have h1 := h.1 (q + 1) hq
    unfold fileB at h1
    simp only [Nat.add_sub_cancel, Bool.and_eq_true] at h1
    have h2 : (v.Files.getD q default).ID < (v.Files.getD (q + 1) default).ID := by
      have := h1.2.2.1
      simpa using this
    rcases (by omega : p = q ∨ p < q) with rfl | hpq
    · exact h2
    · have := ih p hpq (by omega); omega
theorem files_range {v : Vol} (h : filesB v = true) (hn : v.Next ≤ 1073741824) {p : Nat} (hp : p < v.Files.length) : 1 ≤ (v.Files.getD p default).ID ∧ (v.Files.getD p default).ID < 1073741824 := by
  unfold filesB at h
  rw [Bool.and_eq_true, allI_iff, allI_iff] at h
  have h1 := h.1 p hp
  unfold fileB at h1
  simp only [Bool.and_eq_true] at h1
  have a1 := of_decide_eq_true h1.1
  have a2 := of_decide_eq_true h1.2.1
  exact ⟨a1, by omega⟩
theorem seekF_at {v : Vol} (h : filesB v = true) (hn : v.Next ≤ 1073741824) {t : Nat} (ht : t < v.Files.length) : seekF v.Files (v.Files.getD t default).ID = t ∧ seekFb v.Files (v.Files.getD t default).ID = true := by
  have hr := fun p hp => files_range h hn (p := p) hp
  have hs : seekF v.Files (v.Files.getD t default).ID = t := by
    unfold seekF
    refine halve_at ht ?_ (fun p hp => ?_) (fun p hp hp' => ?_)
    · rw [Int.sub_self]; rfl
    · have h1 := files_rise h t p hp ht
      have h2 := hr t ht; have h3 := hr p (by omega)
      rw [wrap64 (by omega) (by omega)]; omega
    · have h1 := files_rise h p t hp hp'
      have h2 := hr t ht; have h3 := hr p hp'
      rw [wrap64 (by omega) (by omega)]; omega
  refine ⟨hs, ?_⟩
  unfold seekFb
  rw [hs, Int.sub_self]
  simp [ht]; rfl
theorem mayT_ok (a : Vol) (hs : a.Sn) : Pure prog n_tree_May [.agg (eVol a)] true (.b (mayT a)) [] := by
  refine mk (l := []) (k := []) trivial trivial (fn := b_tree_May) (by kernel_rfl) (by kernel_rfl) (by kernel_rfl) rfl outsOK_nil ?_
  rw [← vc_tree_May]
  unfold mayT
  refine ⟨numB a.ID, number_ok _, tsplit (fun h => by simp only [h, Bool.false_and]) (fun g1 => ⟨numB a.From, number_ok _, tsplit (fun h => by simp only [h, Bool.false_and, Bool.and_false]) (fun g2 => ⟨numB a.Next, number_ok _, tsplit (fun h => by simp only [h, Bool.false_and, Bool.and_false]) (fun g3 => ?_)⟩)⟩)⟩
  have g1 : numB a.ID = true := g1
  have g2 : numB a.From = true := g2
  have g3 : numB a.Next = true := g3
  have hn : a.Next ≤ 1073741824 := by unfold numB at g3; have := of_decide_eq_true g3; exact this.2
  simp only [g1, g2, g3, Bool.true_and]
  have main : ∀ r : Bool, r = (decide (1 ≤ a.Files.length) && (decide (a.Files.length ≤ 16) && (filesB a && (decide ((a.Files.getD 0 default).ID = 1) && ((a.Files.getD 0 default).Dir && namedB a))))) →
      (decide ((↑a.Files.length : Int) < (1 : Int)) = true → r = false) ∧ (decide ((↑a.Files.length : Int) < (1 : Int)) = false → (decide ((↑a.Files.length : Int) > (16 : Int)) = true → r = false) ∧
      (decide ((↑a.Files.length : Int) > (16 : Int)) = false → ∃ (r_4 : Bool), Pure prog n_tree_files [PV.agg (eVol a)] true (PV.b r_4) [] ∧ (r_4 = true → inb (0 : Int) a.Files.length ∧
      (decide ((a.Files.getD (Int.toNat (0 : Int)) default).ID = (1 : Int)) = true → inb (0 : Int) a.Files.length ∧ ((a.Files.getD (Int.toNat (0 : Int)) default).Dir = true →
      ∃ (r_5 : Bool), Pure prog n_tree_named [PV.agg (eVol a)] true (PV.b r_5) [] ∧ r_5 = r) ∧ ((a.Files.getD (Int.toNat (0 : Int)) default).Dir = false → r = false)) ∧
      (decide ((a.Files.getD (Int.toNat (0 : Int)) default).ID = (1 : Int)) = false → r = false)) ∧ (r_4 = false → r = false))) := by
    intro r hr
    refine dsplit (fun h => by rw [hr]; simp [show ¬ 1 ≤ a.Files.length by omega]) (fun h1 => dsplit (fun h => by rw [hr]; simp [show ¬ a.Files.length ≤ 16 by omega]) (fun h2 => ?_))
    refine ⟨_, files_ok a hs, fun h3 => ⟨⟨by omega, by omega⟩, dsplit (fun h4 => ⟨⟨by omega, by omega⟩, fun h5 => ?_, fun h5 => ?_⟩) (fun h4 => ?_)⟩, fun h3 => by rw [hr]; simp [h3]⟩
    · have h4 : (a.Files.getD 0 default).ID = 1 := h4
      have h5 : (a.Files.getD 0 default).Dir = true := h5
      have hk := (seekF_at h3 hn (t := 0) (by omega)).2
      rw [h4] at hk
      refine ⟨_, named_ok a (wf_of hs h3) hk, ?_⟩
      rw [hr]; simp only [show 1 ≤ a.Files.length by omega, show a.Files.length ≤ 16 by omega, h3, h4, h5, decide_true, Bool.true_and]
    · have h5 : (a.Files.getD 0 default).Dir = false := h5
      rw [hr]; simp only [h5, Bool.false_and, Bool.and_false]
    · have h4 : ¬ (a.Files.getD 0 default).ID = 1 := h4
      rw [hr]; simp only [h4, decide_false, Bool.false_and, Bool.and_false]
  refine tsplit (fun hS => nsplit (fun h => by simp [hS, h]) (fun h => main _ (by simp [h]))) (fun hS => main _ (by simp [hS]))
end Go.Proofs.Ytbiojnaemniljaa

/- Contracts: may volumes be? -/
namespace Go.Proofs.Ytbiojnaemniljaa
open Go Pv
def volB (l : List Vol) (n : Int) (i : Nat) : Bool :=
  mayT (l.getD i default) && (decide (1 ≤ (l.getD i default).ID) && (decide ((l.getD i default).ID < n) && (decide (i = 0) || decide ((l.getD (i - 1) default).ID < (l.getD i default).ID))))
def fromB (l : List Vol) (i : Nat) : Bool := !(l.getD i default).Snap || (seekVb l (l.getD i default).From && !(l.getD (seekV l (l.getD i default).From) default).Snap)
/-- may volumes be? -/
def mayV (l : List Vol) (n : Int) : Bool := decide (l.length ≤ 4) && (decide (1 ≤ n) && (decide (n ≤ 1073741824) && (allI l.length (volB l n) && allI l.length (fromB l))))
theorem mayV_ok (l : List Vol) (n : Int) (hl : l.length ≤ 140737488355328) (hs : ∀ v, v ∈ l → v.Sn) : Pure prog n_vol_May [.fl false 5 Vol eVol default l, .i .i64 n] true (.b (mayV l n)) [] := by
  refine mk (l := [(4, lc 24), (10, lc 61)]) (k := []) ⟨lc_ok _, lc_ok _, trivial⟩ trivial (fn := b_vol_May) (by kernel_rfl) (by kernel_rfl) (by kernel_rfl) rfl outsOK_nil ?_
  rw [← vc_vol_May]
  unfold mayV
  refine dsplit (fun h => by simp [show ¬ l.length ≤ 4 by omega]) (fun h1 => dsplit (fun h => by simp [show ¬ 1 ≤ n by omega]) (fun h2 => dsplit (fun h => by simp [show ¬ n ≤ 1073741824 by omega]) (fun h3 => ?_)))
  simp only [show l.length ≤ 4 by omega, show 1 ≤ n by omega, show n ≤ 1073741824 by omega, decide_true, Bool.true_and]
  refine ⟨ΦI l.length (volB l n), μI l.length, startI, fun x hx => ⟨fun hd => ?_, fun hd => ?_⟩⟩
  · obtain ⟨i, rfl, hlt⟩ := atI hx hd
    have nx := nextI hx hl hlt
    have no : volB l n i = false → (allI l.length (volB l n) && allI l.length (fromB l)) = false := fun h => by simp only [allI_no hlt h, Bool.false_and]
    have hm := mayT_ok (l.getD i default) (hs _ (getD_mem hlt))
    unfold volB at nx no
    have hback : (i : Int) > 0 → IntKind.i64.wrap ((i : Int) - (1 : Int)) = ((i - 1 : Nat) : Int) := fun h => back64 h (by omega)
    simp only [Int.toNat_natCast] at nx ⊢
    refine ⟨⟨by omega, by omega⟩, _, hm, tsplit (fun h => no (by simp only [h, Bool.false_and])) (fun g1 => ?_)⟩
    obtain ⟨f, hf⟩ : ∃ f, l.getD i default = f := ⟨_, rfl⟩
    simp only [hf] at nx no g1 ⊢
    refine dsplit (fun h => no (by simp [show ¬ 1 ≤ f.ID by omega])) (fun h4 => dsplit (fun h => no (by simp [show ¬ f.ID < n by omega])) (fun h5 => dsplit (fun h => ?_) (fun h => ?_)))
    · rw [hback h]
      simp only [Int.toNat_natCast]
      have hi0 : ¬ i = 0 := by omega
      obtain ⟨p, hp⟩ : ∃ p, (l.getD (i - 1) default).ID = p := ⟨_, rfl⟩
      simp only [hp, hi0, decide_false, Bool.false_or] at nx no ⊢
      exact ⟨⟨by omega, by omega⟩, dsplit (fun h => no (by simp [show ¬ p < f.ID by omega])) (fun h => nx (by simp [g1, show 1 ≤ f.ID by omega, show f.ID < n by omega, show p < f.ID by omega]))⟩
    · exact nx (by simp [g1, show 1 ≤ f.ID by omega, show f.ID < n by omega, show i = 0 by omega])
  · have e1 : allI l.length (volB l n) = true := allI_yes (endI hx hd)
    simp only [e1, Bool.true_and]
    refine ⟨ΦI l.length (fromB l), μI l.length, startI, fun x hx => ⟨fun hd => ?_, fun hd => allI_yes (endI hx hd)⟩⟩
    obtain ⟨i, rfl, hlt⟩ := atI hx hd
    have nx := nextI hx hl hlt
    have no : fromB l i = false → _ := allI_no (n := l.length) hlt
    unfold fromB at nx no
    simp only [Int.toNat_natCast] at nx ⊢
    obtain ⟨f, hf⟩ : ∃ f, l.getD i default = f := ⟨_, rfl⟩
    simp only [hf] at nx no ⊢
    refine ⟨⟨by omega, by omega⟩, ((seekV l f.From : Int), seekVb l f.From), atV_ok l _ hl, fun hS => tsplit (fun h => no ?_) (fun h => ?_), fun hS => nx (by simp [hS])⟩
    · have h : seekVb l f.From = false := h
      simp only [hS, h, Bool.not_true, Bool.false_and, Bool.or_false]
    · have h : seekVb l f.From = true := h
      have hk : seekV l f.From < l.length := by
        unfold seekVb at h
        rw [Bool.and_eq_true] at h
        exact of_decide_eq_true h.1
      simp only [Int.toNat_natCast]
      exact ⟨⟨by omega, by omega⟩, fun h' => no (by simp only [hS, h, h', Bool.not_true, Bool.and_false, Bool.or_false]), fun h' => nx (by simp only [h, h', Bool.not_false, Bool.and_true, Bool.or_true])⟩
end Go.Proofs.Ytbiojnaemniljaa

/- Conditions of functions (printed by mkgo.py out of C4.spec.py, checked by the kernel). -/
namespace Go.Proofs.Ytbiojnaemniljaa
open Go Pv
theorem vc_slices_Clone_int (pure : PureT) (io : IoT) (a r : List Int) : (
  ∀ (c : Bool), (a ≠ [] → c = false) → (c = true → r = []) ∧ (c = false → ∃ (ys : List kdI.α), PV.fl false (1 : Nat) Int eI (0 : Int) a = PV.fl false (1 : Nat) kdI.α kdI.e kdI.d ys ∧
  ((0 : Nat) + ys.length) * (8 : Nat) ≤ (140737488355328 : Nat) ∧ PV.fl false (1 : Nat) kdI.α kdI.e kdI.d ([] ++ ys) = PV.fl false (1 : Nat) Int eI (0 : Int) r)) =
    vcP (cx [] [(5, kdI)] pure io) b_slices_Clone_int [.fl false 1 Int eI 0 a] false (.fl false 1 Int eI 0 r) [] := by kernel_rfl

theorem vc_slices_Clone_Link (pure : PureT) (io : IoT) (a r : List Link) : (
  ∀ (c : Bool), (a ≠ [] → c = false) → (c = true → r = []) ∧ (c = false → ∃ (ys : List kdLink.α),
  PV.fl false (2 : Nat) Link eLink default a = PV.fl false (2 : Nat) kdLink.α kdLink.e kdLink.d ys ∧ ((0 : Nat) + ys.length) * (24 : Nat) ≤ (140737488355328 : Nat) ∧
  PV.fl false (2 : Nat) kdLink.α kdLink.e kdLink.d ([] ++ ys) = PV.fl false (2 : Nat) Link eLink default r)) =
    vcP (cx [] [(5, kdLink)] pure io) b_slices_Clone_Link [.fl false 2 Link eLink default a] false (.fl false 2 Link eLink default r) [] := by kernel_rfl

theorem vc_slices_Clone_File (pure : PureT) (io : IoT) (a r : List File) : (
  ∀ (c : Bool), (a ≠ [] → c = false) → (c = true → True ∧ r = [] ∧ True) ∧ (c = false → ∃ (ys : List kdFile.α),
  PV.fl false (5 : Nat) File eFile default a = PV.fl false (5 : Nat) kdFile.α kdFile.e kdFile.d ys ∧ ((0 : Nat) + ys.length) * (72 : Nat) ≤ (140737488355328 : Nat) ∧ True ∧
  some (Obj.row false (5 : Nat) kdFile.α kdFile.e kdFile.d ([] ++ ys)) = some (Obj.row false (5 : Nat) File eFile default r) ∧ True)) =
    vcP (cx [] [(5, kdFile)] pure io) b_slices_Clone_File [.fl false 5 File eFile default a] false (.sl (.s 0)) [(0, .row false 5 File eFile default r)] := by kernel_rfl

theorem vc_tree_Own (pure : PureT) (io : IoT) (v r : Vol) : (
  ∃ (r_1 : List File), pure n_slices_Clone_File [PV.fl false (5 : Nat) File eFile default v.Files] false (PV.sl (Id.s (6 : Nat)))
  [((6 : Nat), Obj.row false (5 : Nat) File eFile default r_1)] ∧ ∃ (Φ : Int × List File → Prop), ∃ (μ : Int × List File → Nat), (∃ (x : Int × List File),
  (((0 : Int) = x.fst ∧ True) ∧ some (Obj.row false (5 : Nat) File eFile default r_1) = some (Obj.row false (5 : Nat) File eFile default x.snd) ∧ True) ∧ Φ x) ∧
  ∀ (x : Int × List File), Φ x → (decide (x.fst < (↑r_1.length : Int)) = true → inb x.fst x.snd.length ∧ x.fst.toNat < x.snd.length ∧ ∃ (r : List Int),
  pure n_slices_Clone_int [PV.fl false (1 : Nat) Int eI (0 : Int) (x.snd.getD x.fst.toNat default).Blocks] false (PV.fl false (1 : Nat) Int eI (0 : Int) r) [] ∧ inb x.fst x.snd.length ∧
  x.fst.toNat < x.snd.length ∧ ∃ (r_2 : List Link), pure n_slices_Clone_Link [PV.fl false (2 : Nat) Link eLink default (x.snd.getD x.fst.toNat default).List]
  false (PV.fl false (2 : Nat) Link eLink default r_2) [] ∧ inb x.fst x.snd.length ∧ ((x.fst.toNat < x.snd.length ∧ ∃ (x' : File), ((x.snd.getD x.fst.toNat default).ID = x'.ID ∧
  (x.snd.getD x.fst.toNat default).Dir = x'.Dir ∧ (x.snd.getD x.fst.toNat default).Size = x'.Size ∧ PV.fl false (1 : Nat) Int eI (0 : Int) r =
  PV.fl false (1 : Nat) Int eI (0 : Int) x'.Blocks ∧ PV.fl false (2 : Nat) Link eLink default (x.snd.getD x.fst.toNat default).List =
  PV.fl false (2 : Nat) Link eLink default x'.List ∧ True) ∧ inb x.fst (x.snd.set x.fst.toNat x').length ∧ (x.fst.toNat < (x.snd.set x.fst.toNat x').length ∧ ∃ (x'_1 : File),
  (((x.snd.set x.fst.toNat x').getD x.fst.toNat default).ID = x'_1.ID ∧ ((x.snd.set x.fst.toNat x').getD x.fst.toNat default).Dir = x'_1.Dir ∧
  ((x.snd.set x.fst.toNat x').getD x.fst.toNat default).Size = x'_1.Size ∧ PV.fl false (1 : Nat) Int eI (0 : Int) ((x.snd.set x.fst.toNat x').getD x.fst.toNat default).Blocks =
  PV.fl false (1 : Nat) Int eI (0 : Int) x'_1.Blocks ∧ PV.fl false (2 : Nat) Link eLink default r_2 = PV.fl false (2 : Nat) Link eLink default x'_1.List ∧ True) ∧
  ∃ (x'_2 : Int × List File), ((IntKind.i64.wrap (x.fst + (1 : Int)) = x'_2.fst ∧ True) ∧ some (Obj.row false (5 : Nat) File eFile default ((x.snd.set x.fst.toNat x').set x.fst.toNat
  x'_1)) = some (Obj.row false (5 : Nat) File eFile default x'_2.snd) ∧ True) ∧ Φ x'_2 ∧ μ x'_2 < μ x) ∧ True) ∧ True) ∧ (x.fst.toNat < x.snd.length ∧ ∃ (x' : File),
  ((x.snd.getD x.fst.toNat default).ID = x'.ID ∧ (x.snd.getD x.fst.toNat default).Dir = x'.Dir ∧ (x.snd.getD x.fst.toNat default).Size = x'.Size ∧
  PV.fl false (1 : Nat) Int eI (0 : Int) r = PV.fl false (1 : Nat) Int eI (0 : Int) x'.Blocks ∧ PV.fl false (2 : Nat) Link eLink default (x.snd.getD x.fst.toNat default).List =
  PV.fl false (2 : Nat) Link eLink default x'.List ∧ True) ∧ inb x.fst (x.snd.set x.fst.toNat x').length ∧ (x.fst.toNat < (x.snd.set x.fst.toNat x').length ∧ ∃ (x'_1 : File),
  (((x.snd.set x.fst.toNat x').getD x.fst.toNat default).ID = x'_1.ID ∧ ((x.snd.set x.fst.toNat x').getD x.fst.toNat default).Dir = x'_1.Dir ∧
  ((x.snd.set x.fst.toNat x').getD x.fst.toNat default).Size = x'_1.Size ∧ PV.fl false (1 : Nat) Int eI (0 : Int) ((x.snd.set x.fst.toNat x').getD x.fst.toNat default).Blocks =
  PV.fl false (1 : Nat) Int eI (0 : Int) x'_1.Blocks ∧ PV.fl false (2 : Nat) Link eLink default r_2 = PV.fl false (2 : Nat) Link eLink default x'_1.List ∧ True) ∧
  ∃ (x'_2 : Int × List File), ((IntKind.i64.wrap (x.fst + (1 : Int)) = x'_2.fst ∧ True) ∧ some (Obj.row false (5 : Nat) File eFile default ((x.snd.set x.fst.toNat x').set x.fst.toNat
  x'_1)) = some (Obj.row false (5 : Nat) File eFile default x'_2.snd) ∧ True) ∧ Φ x'_2 ∧ μ x'_2 < μ x) ∧ True) ∧ True) ∧ (decide (x.fst < (↑r_1.length : Int)) = false → v.ID = r.ID ∧
  v.From = r.From ∧ v.Snap = r.Snap ∧ PV.fl false (5 : Nat) File eFile default x.snd = PV.fl false (5 : Nat) File eFile default r.Files ∧ v.Next = r.Next ∧ True)) =
    vcP (cx [(3, lFiles 11 6)] [] pure io) b_tree_Own [.agg (eVol v)] false (.agg (eVol r)) [] := by kernel_rfl

theorem vc_vol_Own (pure : PureT) (io : IoT) (l r : List Vol) : (
  ∃ (Φ : Int × List Vol → Prop), ∃ (μ : Int × List Vol → Nat), (∃ (x : Int × List Vol), ((True ∧ (0 : Int) = x.fst ∧ True) ∧ x.snd = [] ∧ True) ∧ Φ x) ∧ ∀ (x : Int × List Vol), Φ x →
  (decide (x.fst < (↑l.length : Int)) = true → inb x.fst l.length ∧ ∃ (r : Vol), pure n_tree_Own [PV.agg [PV.i IntKind.i64 (l.getD x.fst.toNat default).ID,
  PV.i IntKind.i64 (l.getD x.fst.toNat default).From, PV.b (l.getD x.fst.toNat default).Snap, PV.fl false (5 : Nat) File eFile default (l.getD x.fst.toNat default).Files,
  PV.i IntKind.i64 (l.getD x.fst.toNat default).Next]] false (PV.agg [PV.i IntKind.i64 r.ID, PV.i IntKind.i64 r.From, PV.b r.Snap,
  PV.fl false (5 : Nat) File eFile default r.Files, PV.i IntKind.i64 r.Next]) [] ∧ ∃ (ys : List Vol), ((5 : Nat) = (5 : Nat) ∧ convE Vol eVol
  [[PV.i IntKind.i64 r.ID, PV.i IntKind.i64 r.From, PV.b r.Snap, PV.fl false (5 : Nat) File eFile default r.Files, PV.i IntKind.i64 r.Next]] ys) ∧
  (x.snd.length + ys.length) * (56 : Nat) ≤ (140737488355328 : Nat) ∧ ∃ (x' : Int × List Vol), ((True ∧ IntKind.i64.wrap (x.fst + (1 : Int)) = x'.fst ∧ True) ∧
  some (Obj.row false (5 : Nat) Vol eVol default (x.snd ++ ys)) = some (Obj.row false (5 : Nat) Vol eVol default x'.snd) ∧ True) ∧ Φ x' ∧ μ x' < μ x) ∧
  (decide (x.fst < (↑l.length : Int)) = false → True ∧ some (Obj.row false (5 : Nat) Vol eVol default x.snd) = some (Obj.row false (5 : Nat) Vol eVol default r) ∧ True)) =
    vcP (cx [(2, lVols 2 7)] [(15, kdVol)] pure io) b_vol_Own [.fl false 5 Vol eVol default l] false (.sl (.s 0)) [(0, .row false 5 Vol eVol default r)] := by kernel_rfl

theorem vc_vol_found (pure : PureT) (io : IoT) (l : List Vol) (n i : Int) (r : List Vol × Int × Int) : (
  ∃ (r_1 : Bool), pure n_vol_May [PV.fl false (5 : Nat) Vol eVol default l, PV.i IntKind.i64 n] true (PV.b r_1) [] ∧
  ((!r_1) = true → (True ∧ (0 : Int) = r.snd.fst ∧ (1 : Int) = r.snd.snd ∧ True) ∧ r.fst = [] ∧ True) ∧ ((!r_1) = false → ∃ (r_2 : Int × Bool),
  pure n_vol_At [PV.fl false (5 : Nat) Vol eVol default l, PV.i IntKind.i64 i] true (PV.tup [PV.i IntKind.i64 r_2.fst, PV.b r_2.snd]) [] ∧
  ((!r_2.snd) = true → (True ∧ (0 : Int) = r.snd.fst ∧ (3 : Int) = r.snd.snd ∧ True) ∧ r.fst = [] ∧ True) ∧ ((!r_2.snd) = false → ∃ (r_3 : List Vol),
  pure n_vol_Own [PV.fl false (5 : Nat) Vol eVol default l] false (PV.sl (Id.s (24 : Nat))) [((24 : Nat), Obj.row false (5 : Nat) Vol eVol default r_3)] ∧
  (True ∧ r_2.fst = r.snd.fst ∧ (0 : Int) = r.snd.snd ∧ True) ∧ some (Obj.row false (5 : Nat) Vol eVol default r_3) = some (Obj.row false (5 : Nat) Vol eVol default r.fst) ∧ True))) =
    vcP (cx [] [] pure io) b_vol_found [.fl false 5 Vol eVol default l, .i .i64 n, .i .i64 i] false (.tup [.sl (.s 0), .i .i64 r.2.1, .i .i64 r.2.2]) [(0, .row false 5 Vol eVol default r.1)] := by kernel_rfl

theorem vc_vol_Get (pure : PureT) (io : IoT) (l : List Vol) (n i : Int) (r : Vol × Int) : (
  ∃ (r_1 : List Vol × Int × Int), pure n_vol_found [PV.fl false (5 : Nat) Vol eVol default l, PV.i IntKind.i64 n, PV.i IntKind.i64 i] false
  (PV.tup [PV.sl (Id.s (15 : Nat)), PV.i IntKind.i64 r_1.snd.fst, PV.i IntKind.i64 r_1.snd.snd]) [((15 : Nat), Obj.row false (5 : Nat) Vol eVol default r_1.fst)] ∧
  ((!decide (r_1.snd.snd = (0 : Int))) = true → ((0 : Int) = r.fst.ID ∧ (0 : Int) = r.fst.From ∧ r.fst.Snap = false ∧ r.fst.Files = [] ∧ (0 : Int) = r.fst.Next ∧ True) ∧
  r_1.snd.snd = r.snd ∧ True) ∧ ((!decide (r_1.snd.snd = (0 : Int))) = false → inb r_1.snd.fst r_1.fst.length ∧ r_1.snd.fst.toNat < r_1.fst.length ∧
  ((r_1.fst.getD r_1.snd.fst.toNat default).ID = r.fst.ID ∧ (r_1.fst.getD r_1.snd.fst.toNat default).From = r.fst.From ∧ (r_1.fst.getD r_1.snd.fst.toNat default).Snap = r.fst.Snap ∧
  PV.fl false (5 : Nat) File eFile default (r_1.fst.getD r_1.snd.fst.toNat default).Files = PV.fl false (5 : Nat) File eFile default r.fst.Files ∧
  (r_1.fst.getD r_1.snd.fst.toNat default).Next = r.fst.Next ∧ True) ∧ (0 : Int) = r.snd ∧ True)) =
    vcP (cx [] [] pure io) b_vol_Get [.fl false 5 Vol eVol default l, .i .i64 n, .i .i64 i] false (.tup [.agg (eVol r.1), .i .i64 r.2]) [] := by kernel_rfl

theorem vc_vol_copied (pure : PureT) (io : IoT) (l : List Vol) (n i : Int) (s : Bool) (r : List Vol × Int × Int) : (
  ∃ (r_1 : List Vol × Int × Int), pure n_vol_found [PV.fl false (5 : Nat) Vol eVol default l, PV.i IntKind.i64 n, PV.i IntKind.i64 i] false
  (PV.tup [PV.sl (Id.s (17 : Nat)), PV.i IntKind.i64 r_1.snd.fst, PV.i IntKind.i64 r_1.snd.snd]) [((17 : Nat), Obj.row false (5 : Nat) Vol eVol default r_1.fst)] ∧
  ((!decide (r_1.snd.snd = (0 : Int))) = true → r.fst = [] ∧ (0 : Int) = r.snd.fst ∧ r_1.snd.snd = r.snd.snd ∧ True) ∧ ((!decide (r_1.snd.snd = (0 : Int))) = false →
  inb r_1.snd.fst r_1.fst.length ∧ r_1.snd.fst.toNat < r_1.fst.length ∧ (decide ((r_1.fst.getD r_1.snd.fst.toNat default).Snap = s) = true →
  r.fst = [] ∧ (0 : Int) = r.snd.fst ∧ (9 : Int) = r.snd.snd ∧ True) ∧ (decide ((r_1.fst.getD r_1.snd.fst.toNat default).Snap = s) = false →
  (decide ((↑r_1.fst.length : Int) ≥ (4 : Int)) = true → r.fst = [] ∧ (0 : Int) = r.snd.fst ∧ (2 : Int) = r.snd.snd ∧ True) ∧ (decide ((↑r_1.fst.length : Int) ≥ (4 : Int)) = false →
  (decide (n ≥ (1073741824 : Int)) = true → r.fst = [] ∧ (0 : Int) = r.snd.fst ∧ (2 : Int) = r.snd.snd ∧ True) ∧ (decide (n ≥ (1073741824 : Int)) = false →
  inb r_1.snd.fst r_1.fst.length ∧ r_1.snd.fst.toNat < r_1.fst.length ∧ ∃ (r_2 : Vol), pure n_tree_Own [PV.agg [PV.i IntKind.i64 (r_1.fst.getD r_1.snd.fst.toNat default).ID,
  PV.i IntKind.i64 (r_1.fst.getD r_1.snd.fst.toNat default).From, PV.b (r_1.fst.getD r_1.snd.fst.toNat default).Snap, PV.fl false (5 : Nat) File eFile default
  (r_1.fst.getD r_1.snd.fst.toNat default).Files, PV.i IntKind.i64 (r_1.fst.getD r_1.snd.fst.toNat default).Next]] false (PV.agg
  [PV.i IntKind.i64 r_2.ID, PV.i IntKind.i64 r_2.From, PV.b r_2.Snap, PV.fl false (5 : Nat) File eFile default r_2.Files, PV.i IntKind.i64 r_2.Next]) [] ∧ (s = true →
  ∃ (ys : List Vol), ((5 : Nat) = (5 : Nat) ∧ convE Vol eVol [[PV.i IntKind.i64 n, PV.i IntKind.i64 i, PV.b s, PV.fl false (5 : Nat) File eFile default r_2.Files,
  PV.i IntKind.i64 r_2.Next]] ys) ∧ (r_1.fst.length + ys.length) * (56 : Nat) ≤ (140737488355328 : Nat) ∧ PV.fl false (5 : Nat) Vol eVol default (r_1.fst ++ ys) =
  PV.fl false (5 : Nat) Vol eVol default r.fst ∧ IntKind.i64.wrap (n + (1 : Int)) = r.snd.fst ∧ (0 : Int) = r.snd.snd ∧ True) ∧ (s = false → ∃ (ys : List Vol),
  ((5 : Nat) = (5 : Nat) ∧ convE Vol eVol [[PV.i IntKind.i64 n, PV.i IntKind.i64 (0 : Int), PV.b s, PV.fl false (5 : Nat) File eFile default r_2.Files, PV.i IntKind.i64 r_2.Next]]
  ys) ∧ (r_1.fst.length + ys.length) * (56 : Nat) ≤ (140737488355328 : Nat) ∧ PV.fl false (5 : Nat) Vol eVol default (r_1.fst ++ ys) = PV.fl false (5 : Nat) Vol eVol default r.fst ∧
  IntKind.i64.wrap (n + (1 : Int)) = r.snd.fst ∧ (0 : Int) = r.snd.snd ∧ True)))))) =
    vcP (cx [] [] pure io) b_vol_copied [.fl false 5 Vol eVol default l, .i .i64 n, .i .i64 i, .b s] false (.tup [.fl false 5 Vol eVol default r.1, .i .i64 r.2.1, .i .i64 r.2.2]) [] := by kernel_rfl

theorem vc_vol_Snap (pure : PureT) (io : IoT) (l : List Vol) (n i : Int) (r : List Vol × Int × Int) : (
  ∃ (r_1 : List Vol × Int × Int), pure n_vol_copied [PV.fl false (5 : Nat) Vol eVol default l, PV.i IntKind.i64 n, PV.i IntKind.i64 i, PV.tt] false (PV.tup
  [PV.fl false (5 : Nat) Vol eVol default r_1.fst, PV.i IntKind.i64 r_1.snd.fst, PV.i IntKind.i64 r_1.snd.snd]) [] ∧
  PV.fl false (5 : Nat) Vol eVol default r_1.fst = PV.fl false (5 : Nat) Vol eVol default r.fst ∧ r_1.snd.fst = r.snd.fst ∧ r_1.snd.snd = r.snd.snd ∧ True) =
    vcP (cx [] [] pure io) b_vol_Snap [.fl false 5 Vol eVol default l, .i .i64 n, .i .i64 i] false (.tup [.fl false 5 Vol eVol default r.1, .i .i64 r.2.1, .i .i64 r.2.2]) [] := by kernel_rfl

theorem vc_vol_Clone (pure : PureT) (io : IoT) (l : List Vol) (n i : Int) (r : List Vol × Int × Int) : (
  ∃ (r_1 : List Vol × Int × Int), pure n_vol_copied [PV.fl false (5 : Nat) Vol eVol default l, PV.i IntKind.i64 n, PV.i IntKind.i64 i, PV.ff] false (PV.tup
  [PV.fl false (5 : Nat) Vol eVol default r_1.fst, PV.i IntKind.i64 r_1.snd.fst, PV.i IntKind.i64 r_1.snd.snd]) [] ∧
  PV.fl false (5 : Nat) Vol eVol default r_1.fst = PV.fl false (5 : Nat) Vol eVol default r.fst ∧ r_1.snd.fst = r.snd.fst ∧ r_1.snd.snd = r.snd.snd ∧ True) =
    vcP (cx [] [] pure io) b_vol_Clone [.fl false 5 Vol eVol default l, .i .i64 n, .i .i64 i] false (.tup [.fl false 5 Vol eVol default r.1, .i .i64 r.2.1, .i .i64 r.2.2]) [] := by kernel_rfl

theorem vc_vol_Drop_1 (pure : PureT) (io : IoT) (v : Vol) (i : Int) (r : Bool) : (
  (v.Snap = true → decide (v.From = i) = r) ∧ (v.Snap = false → r = false)) =
    vcP (cx [] [] pure io) b_vol_Drop_1 [.agg (eVol v), .fp false [.i .i64 i]] true (.b r) [] := by kernel_rfl

theorem vc_vol_Back_1 (pure : PureT) (io : IoT) (v : Vol) (f i : Int) (r : Bool) : (
  (v.Snap = true → (decide (v.From = f) = true → decide (v.ID > i) = r) ∧ (decide (v.From = f) = false → r = false)) ∧ (v.Snap = false → r = false)) =
    vcP (cx [] [] pure io) b_vol_Back_1 [.agg (eVol v), .fp false [.i .i64 f], .fp false [.i .i64 i]] true (.b r) [] := by kernel_rfl

theorem vc_slices_IndexFunc_Vol_Drop (pure : PureT) (io : IoT) (l : List Vol) (i r : Int) : (
  ∃ (Φ : Int → Prop), ∃ (μ : Int → Nat), (∃ (x : Int), (((0 : Int) = x ∧ True) ∧ True) ∧ Φ x) ∧ ∀ (x : Int), Φ x → (decide (x < (↑l.length : Int)) = true → inb x l.length ∧
  ∃ (r_1 : Bool), pure n_vol_Drop_1 [PV.agg [PV.i IntKind.i64 (l.getD x.toNat default).ID, PV.i IntKind.i64 (l.getD x.toNat default).From, PV.b (l.getD x.toNat default).Snap,
  PV.fl false (5 : Nat) File eFile default (l.getD x.toNat default).Files, PV.i IntKind.i64 (l.getD x.toNat default).Next], PV.fp false [PV.i IntKind.i64 i]] true (PV.b r_1) [] ∧
  (r_1 = true → x = r) ∧ (r_1 = false → ∃ (x' : Int), ((IntKind.i64.wrap (x + (1 : Int)) = x' ∧ True) ∧ True) ∧ Φ x' ∧ μ x' < μ x)) ∧
  (decide (x < (↑l.length : Int)) = false → (-1 : Int) = r)) =
    vcP (cx [(2, lc 8)] [] pure io) b_slices_IndexFunc_Vol [.fl false 5 Vol eVol default l, .fn n_vol_Drop_1 [.fp false [.i .i64 i]]] true (.i .i64 r) [] := by kernel_rfl

theorem vc_slices_IndexFunc_Vol_Back (pure : PureT) (io : IoT) (l : List Vol) (f i r : Int) : (
  ∃ (Φ : Int → Prop), ∃ (μ : Int → Nat), (∃ (x : Int), (((0 : Int) = x ∧ True) ∧ True) ∧ Φ x) ∧ ∀ (x : Int), Φ x → (decide (x < (↑l.length : Int)) = true → inb x l.length ∧
  ∃ (r_1 : Bool), pure n_vol_Back_1 [PV.agg [PV.i IntKind.i64 (l.getD x.toNat default).ID, PV.i IntKind.i64 (l.getD x.toNat default).From, PV.b (l.getD x.toNat default).Snap,
  PV.fl false (5 : Nat) File eFile default (l.getD x.toNat default).Files, PV.i IntKind.i64 (l.getD x.toNat default).Next],
  PV.fp false [PV.i IntKind.i64 f], PV.fp false [PV.i IntKind.i64 i]] true (PV.b r_1) [] ∧ (r_1 = true → x = r) ∧ (r_1 = false →
  ∃ (x' : Int), ((IntKind.i64.wrap (x + (1 : Int)) = x' ∧ True) ∧ True) ∧ Φ x' ∧ μ x' < μ x)) ∧ (decide (x < (↑l.length : Int)) = false → (-1 : Int) = r)) =
    vcP (cx [(2, lc 8)] [] pure io) b_slices_IndexFunc_Vol [.fl false 5 Vol eVol default l, .fn n_vol_Back_1 [.fp false [.i .i64 f], .fp false [.i .i64 i]]] true (.i .i64 r) [] := by kernel_rfl

theorem vc_slices_ContainsFunc_Vol (pure : PureT) (io : IoT) (l : List Vol) (i : Int) (r : Bool) : (
  ∃ (r_1 : Int), pure n_slices_IndexFunc_Vol [PV.fl false (5 : Nat) Vol eVol default l, PV.fn n_vol_Drop_1 [PV.fp false [PV.i IntKind.i64 i]]] true (PV.i IntKind.i64 r_1) [] ∧
  decide (r_1 ≥ (0 : Int)) = r) =
    vcP (cx [] [] pure io) b_slices_ContainsFunc_Vol [.fl false 5 Vol eVol default l, .fn n_vol_Drop_1 [.fp false [.i .i64 i]]] true (.b r) [] := by kernel_rfl

theorem vc_slices_Delete_Vol (pure : PureT) (io : IoT) (l r : List Vol) (i j : Int) : (
  inc (↑l.length : Int) l.length ∧ inc j (↑l.length : Int).toNat ∧ inc i j.toNat ∧ (decide (i = j) = true → True ∧
  some (Obj.row false (5 : Nat) Vol eVol default l) = some (Obj.row false (5 : Nat) Vol eVol default r) ∧ True) ∧ (decide (i = j) = false → inc i l.length ∧ inc j l.length ∧
  (i.toNat - (0 : Nat) + (l.length - j.toNat) ≤ l.length ∧ (0 : Nat) < l.length ∧ inc (↑l.length : Int)
  ((List.take (i.toNat - (0 : Nat)) l ++ List.take (l.length - j.toNat) (List.drop j.toNat l) ++ List.drop (i.toNat - (0 : Nat) + (l.length - j.toNat)) l).length - (0 : Nat)) ∧
  inc (↑(i.toNat - (0 : Nat) + (l.length - j.toNat)) : Int) (↑l.length : Int).toNat ∧ (↑(i.toNat - (0 : Nat) + (l.length - j.toNat)) : Int).toNat < (↑l.length : Int).toNat ∧
  ∃ (y : Vol), ((0 : Int) = y.ID ∧ (0 : Int) = y.From ∧ y.Snap = false ∧ y.Files = [] ∧ (0 : Int) = y.Next ∧ True) ∧
  (0 : Nat) + (↑(i.toNat - (0 : Nat) + (l.length - j.toNat)) : Int).toNat + ((↑l.length : Int).toNat - (↑(i.toNat - (0 : Nat) + (l.length - j.toNat)) : Int).toNat) ≤
  (List.take (i.toNat - (0 : Nat)) l ++ List.take (l.length - j.toNat) (List.drop j.toNat l) ++ List.drop (i.toNat - (0 : Nat) + (l.length - j.toNat)) l).length ∧ (0 : Nat) <
  (↑l.length : Int).toNat - (↑(i.toNat - (0 : Nat) + (l.length - j.toNat)) : Int).toNat ∧ True ∧ ((0 : Nat) + (i.toNat - (0 : Nat) + (l.length - j.toNat)) ≤ (List.take ((0 : Nat) +
  (↑(i.toNat - (0 : Nat) + (l.length - j.toNat)) : Int).toNat) (List.take (i.toNat - (0 : Nat)) l ++ List.take (l.length - j.toNat) (List.drop j.toNat l) ++
  List.drop (i.toNat - (0 : Nat) + (l.length - j.toNat)) l) ++ List.replicate ((↑l.length : Int).toNat - (↑(i.toNat - (0 : Nat) + (l.length - j.toNat)) : Int).toNat) y ++ List.drop
  ((0 : Nat) + (↑(i.toNat - (0 : Nat) + (l.length - j.toNat)) : Int).toNat + ((↑l.length : Int).toNat - (↑(i.toNat - (0 : Nat) + (l.length - j.toNat)) : Int).toNat))
  (List.take (i.toNat - (0 : Nat)) l ++ List.take (l.length - j.toNat) (List.drop j.toNat l) ++ List.drop (i.toNat - (0 : Nat) + (l.length - j.toNat)) l)).length ∧ false = false ∧
  PV.fl false (5 : Nat) Vol eVol default r = PV.fl false (5 : Nat) Vol eVol default (List.take (i.toNat - (0 : Nat) + (l.length - j.toNat)) (List.drop (0 : Nat) (List.take
  ((0 : Nat) + (↑(i.toNat - (0 : Nat) + (l.length - j.toNat)) : Int).toNat) (List.take (i.toNat - (0 : Nat)) l ++ List.take (l.length - j.toNat) (List.drop j.toNat l) ++
  List.drop (i.toNat - (0 : Nat) + (l.length - j.toNat)) l) ++ List.replicate ((↑l.length : Int).toNat - (↑(i.toNat - (0 : Nat) + (l.length - j.toNat)) : Int).toNat) y ++ List.drop
  ((0 : Nat) + (↑(i.toNat - (0 : Nat) + (l.length - j.toNat)) : Int).toNat + ((↑l.length : Int).toNat - (↑(i.toNat - (0 : Nat) + (l.length - j.toNat)) : Int).toNat))
  (List.take (i.toNat - (0 : Nat)) l ++ List.take (l.length - j.toNat) (List.drop j.toNat l) ++ List.drop (i.toNat - (0 : Nat) + (l.length - j.toNat)) l))))) ∧ True) ∧ True)) =
    vcIO (cx [] [] pure io) b_slices_Delete_Vol [.sl (.s 100000), .i .i64 i, .i .i64 j] [(100000, .row false 5 Vol eVol default l)] false (.sl (.s 200000)) [(200000, .row false 5 Vol eVol default r)] := by kernel_rfl

theorem vc_slices_DeleteFunc_Vol (pure : PureT) (io : IoT) (l r : List Vol) (f i : Int) : (
  ∃ (r_1 : Int), pure n_slices_IndexFunc_Vol [PV.fl false (5 : Nat) Vol eVol default l, PV.fn n_vol_Back_1 [PV.fp false [PV.i IntKind.i64 f], PV.fp false [PV.i IntKind.i64 i]]]
  true (PV.i IntKind.i64 r_1) [] ∧ (decide (r_1 = (-1 : Int)) = true → True ∧ some (Obj.row false (5 : Nat) Vol eVol default l) = some (Obj.row false (5 : Nat) Vol eVol default r) ∧
  True) ∧ (decide (r_1 = (-1 : Int)) = false → ∃ (Φ : Int × Int × List Vol → Prop), ∃ (μ : Int × Int × List Vol → Nat), (∃ (x : Int × Int × List Vol),
  ((r_1 = x.fst ∧ IntKind.i64.wrap (r_1 + (1 : Int)) = x.snd.fst ∧ True) ∧ some (Obj.row false (5 : Nat) Vol eVol default l) =
  some (Obj.row false (5 : Nat) Vol eVol default x.snd.snd) ∧ True) ∧ Φ x) ∧ ∀ (x : Int × Int × List Vol), Φ x → (decide (x.snd.fst < (↑x.snd.snd.length : Int)) = true →
  inb x.snd.fst x.snd.snd.length ∧ x.snd.fst.toNat < x.snd.snd.length ∧ ∃ (r : Bool), pure n_vol_Back_1 [PV.agg [PV.i IntKind.i64 (x.snd.snd.getD x.snd.fst.toNat default).ID,
  PV.i IntKind.i64 (x.snd.snd.getD x.snd.fst.toNat default).From, PV.b (x.snd.snd.getD x.snd.fst.toNat default).Snap, PV.fl false (5 : Nat) File eFile default
  (x.snd.snd.getD x.snd.fst.toNat default).Files, PV.i IntKind.i64 (x.snd.snd.getD x.snd.fst.toNat default).Next], PV.fp false [PV.i IntKind.i64 f], PV.fp false [PV.i IntKind.i64 i]]
  true (PV.b r) [] ∧ ((!r) = true → inb x.fst x.snd.snd.length ∧ x.fst.toNat < x.snd.snd.length ∧ ∃ (x' : Vol), ((x.snd.snd.getD x.snd.fst.toNat default).ID = x'.ID ∧
  (x.snd.snd.getD x.snd.fst.toNat default).From = x'.From ∧ (x.snd.snd.getD x.snd.fst.toNat default).Snap = x'.Snap ∧ PV.fl false (5 : Nat) File eFile default
  (x.snd.snd.getD x.snd.fst.toNat default).Files = PV.fl false (5 : Nat) File eFile default x'.Files ∧ (x.snd.snd.getD x.snd.fst.toNat default).Next = x'.Next ∧ True) ∧
  ∃ (x'_1 : Int × Int × List Vol), ((IntKind.i64.wrap (x.fst + (1 : Int)) = x'_1.fst ∧ IntKind.i64.wrap (x.snd.fst + (1 : Int)) = x'_1.snd.fst ∧ True) ∧ some
  (Obj.row false (5 : Nat) Vol eVol default (x.snd.snd.set x.fst.toNat x')) = some (Obj.row false (5 : Nat) Vol eVol default x'_1.snd.snd) ∧ True) ∧ Φ x'_1 ∧ μ x'_1 < μ x) ∧
  ((!r) = false → ∃ (x' : Int × Int × List Vol), ((x.fst = x'.fst ∧ IntKind.i64.wrap (x.snd.fst + (1 : Int)) = x'.snd.fst ∧ True) ∧
  some (Obj.row false (5 : Nat) Vol eVol default x.snd.snd) = some (Obj.row false (5 : Nat) Vol eVol default x'.snd.snd) ∧ True) ∧ Φ x' ∧ μ x' < μ x)) ∧
  (decide (x.snd.fst < (↑x.snd.snd.length : Int)) = false → inc x.fst x.snd.snd.length ∧ ∃ (y : Vol), ((0 : Int) = y.ID ∧
  (0 : Int) = y.From ∧ y.Snap = false ∧ y.Files = [] ∧ (0 : Int) = y.Next ∧ True) ∧ x.fst.toNat + (x.snd.snd.length - x.fst.toNat) ≤ x.snd.snd.length ∧
  (0 : Nat) < x.snd.snd.length - x.fst.toNat ∧ inc x.fst (List.take x.fst.toNat x.snd.snd ++ List.replicate (x.snd.snd.length - x.fst.toNat) y ++
  List.drop (x.fst.toNat + (x.snd.snd.length - x.fst.toNat)) x.snd.snd).length ∧ True ∧ ((0 : Nat) + (x.fst.toNat - (0 : Nat)) ≤ (List.take x.fst.toNat x.snd.snd ++
  List.replicate (x.snd.snd.length - x.fst.toNat) y ++ List.drop (x.fst.toNat + (x.snd.snd.length - x.fst.toNat)) x.snd.snd).length ∧ false = false ∧
  PV.fl false (5 : Nat) Vol eVol default r = PV.fl false (5 : Nat) Vol eVol default (List.take (x.fst.toNat - (0 : Nat)) (List.drop (0 : Nat) (List.take x.fst.toNat x.snd.snd ++
  List.replicate (x.snd.snd.length - x.fst.toNat) y ++ List.drop (x.fst.toNat + (x.snd.snd.length - x.fst.toNat)) x.snd.snd)))) ∧ True))) =
    vcIO (cx [(5, lVols2 5 6 100000)] [] pure io) b_slices_DeleteFunc_Vol [.sl (.s 100000), .fn n_vol_Back_1 [.lp (.s 100001) 0, .lp (.s 100002) 0]] [(100000, .row false 5 Vol eVol default l), (100001, .str [.i .i64 f]), (100002, .str [.i .i64 i])] false (.sl (.s 200000)) [(200000, .row false 5 Vol eVol default r)] := by kernel_rfl

theorem vc_vol_Drop (pure : PureT) (io : IoT) (l : List Vol) (n i : Int) (r : List Vol × Int) : (
  ∃ (r_1 : List Vol × Int × Int), pure n_vol_found [PV.fl false (5 : Nat) Vol eVol default l, PV.i IntKind.i64 n, PV.i IntKind.i64 i] false
  (PV.tup [PV.sl (Id.s (15 : Nat)), PV.i IntKind.i64 r_1.snd.fst, PV.i IntKind.i64 r_1.snd.snd]) [((15 : Nat), Obj.row false (5 : Nat) Vol eVol default r_1.fst)] ∧
  ((!decide (r_1.snd.snd = (0 : Int))) = true → r.fst = [] ∧ r_1.snd.snd = r.snd ∧ True) ∧ ((!decide (r_1.snd.snd = (0 : Int))) = false → ∃ (r_2 : Bool), pure n_slices_ContainsFunc_Vol
  [PV.fl false (5 : Nat) Vol eVol default r_1.fst, PV.fn n_vol_Drop_1 [PV.fp false [PV.i IntKind.i64 i]]] true (PV.b r_2) [] ∧ (r_2 = true → r.fst = [] ∧ (8 : Int) = r.snd ∧ True) ∧
  (r_2 = false → ∃ (r_3 : List Vol), io n_slices_Delete_Vol [PV.sl (Id.s (100000 : Nat)), PV.i IntKind.i64 r_1.snd.fst, PV.i IntKind.i64 (IntKind.i64.wrap (r_1.snd.fst + (1 : Int)))]
  [((100000 : Nat), Obj.row false (5 : Nat) Vol eVol default r_1.fst)] false (PV.sl (Id.s (200000 : Nat))) [((200000 : Nat), Obj.row false (5 : Nat) Vol eVol default r_3)] ∧
  PV.fl false (5 : Nat) Vol eVol default r_3 = PV.fl false (5 : Nat) Vol eVol default r.fst ∧ (0 : Int) = r.snd ∧ True))) =
    vcP (cx [] [] pure io) b_vol_Drop [.fl false 5 Vol eVol default l, .i .i64 n, .i .i64 i] false (.tup [.fl false 5 Vol eVol default r.1, .i .i64 r.2]) [] := by kernel_rfl

theorem vc_vol_Back (pure : PureT) (io : IoT) (l : List Vol) (n i : Int) (r : List Vol × Int) : (
  ∃ (r_1 : List Vol × Int × Int), pure n_vol_found [PV.fl false (5 : Nat) Vol eVol default l, PV.i IntKind.i64 n, PV.i IntKind.i64 i] false
  (PV.tup [PV.sl (Id.s (18 : Nat)), PV.i IntKind.i64 r_1.snd.fst, PV.i IntKind.i64 r_1.snd.snd]) [((18 : Nat), Obj.row false (5 : Nat) Vol eVol default r_1.fst)] ∧
  ((!decide (r_1.snd.snd = (0 : Int))) = true → r.fst = [] ∧ r_1.snd.snd = r.snd ∧ True) ∧ ((!decide (r_1.snd.snd = (0 : Int))) = false → inb r_1.snd.fst r_1.fst.length ∧
  r_1.snd.fst.toNat < r_1.fst.length ∧ ((!(r_1.fst.getD r_1.snd.fst.toNat default).Snap) = true → r.fst = [] ∧ (9 : Int) = r.snd ∧ True) ∧
  ((!(r_1.fst.getD r_1.snd.fst.toNat default).Snap) = false → inb r_1.snd.fst r_1.fst.length ∧ r_1.snd.fst.toNat < r_1.fst.length ∧ ∃ (r_2 : Int × Bool), pure n_vol_At
  [PV.fl false (5 : Nat) Vol eVol default r_1.fst, PV.i IntKind.i64 (r_1.fst.getD r_1.snd.fst.toNat default).From] true (PV.tup [PV.i IntKind.i64 r_2.fst, PV.b r_2.snd]) [] ∧
  inb r_1.snd.fst r_1.fst.length ∧ r_1.snd.fst.toNat < r_1.fst.length ∧ ∃ (r_3 : Vol), pure n_tree_Own [PV.agg [PV.i IntKind.i64 (r_1.fst.getD r_1.snd.fst.toNat default).ID,
  PV.i IntKind.i64 (r_1.fst.getD r_1.snd.fst.toNat default).From, PV.b (r_1.fst.getD r_1.snd.fst.toNat default).Snap, PV.fl false (5 : Nat) File eFile default
  (r_1.fst.getD r_1.snd.fst.toNat default).Files, PV.i IntKind.i64 (r_1.fst.getD r_1.snd.fst.toNat default).Next]] false (PV.agg
  [PV.i IntKind.i64 r_3.ID, PV.i IntKind.i64 r_3.From, PV.b r_3.Snap, PV.fl false (5 : Nat) File eFile default r_3.Files, PV.i IntKind.i64 r_3.Next]) [] ∧
  inb r_2.fst r_1.fst.length ∧ r_2.fst.toNat < r_1.fst.length ∧ inb r_1.snd.fst r_1.fst.length ∧ r_1.snd.fst.toNat < r_1.fst.length ∧ inb r_2.fst r_1.fst.length ∧
  (r_2.fst.toNat < r_1.fst.length ∧ ∃ (x' : Vol), ((r_1.fst.getD r_2.fst.toNat default).ID = x'.ID ∧ (r_1.fst.getD r_2.fst.toNat default).From = x'.From ∧
  (r_1.fst.getD r_2.fst.toNat default).Snap = x'.Snap ∧ PV.fl false (5 : Nat) File eFile default r_3.Files = PV.fl false (5 : Nat) File eFile default x'.Files ∧
  (r_1.fst.getD r_2.fst.toNat default).Next = x'.Next ∧ True) ∧ inb r_2.fst (r_1.fst.set r_2.fst.toNat x').length ∧ (r_2.fst.toNat < (r_1.fst.set r_2.fst.toNat x').length ∧
  ∃ (x'_1 : Vol), (((r_1.fst.set r_2.fst.toNat x').getD r_2.fst.toNat default).ID = x'_1.ID ∧ ((r_1.fst.set r_2.fst.toNat x').getD r_2.fst.toNat default).From = x'_1.From ∧
  ((r_1.fst.set r_2.fst.toNat x').getD r_2.fst.toNat default).Snap = x'_1.Snap ∧ PV.fl false (5 : Nat) File eFile default ((r_1.fst.set r_2.fst.toNat x').getD
  r_2.fst.toNat default).Files = PV.fl false (5 : Nat) File eFile default x'_1.Files ∧ max (r_1.fst.getD r_2.fst.toNat default).Next (r_1.fst.getD r_1.snd.fst.toNat default).Next =
  x'_1.Next ∧ True) ∧ ∃ (r_4 : List Vol), io n_slices_DeleteFunc_Vol [PV.sl (Id.s (100000 : Nat)), PV.fn n_vol_Back_1 [PV.lp (Id.s (100001 : Nat)) (0 : Nat), PV.lp (Id.s (100002 : Nat)) (0 : Nat)]]
  [((100000 : Nat), Obj.row false (5 : Nat) Vol eVol default ((r_1.fst.set r_2.fst.toNat x').set r_2.fst.toNat x'_1)), ((100001 : Nat), Obj.str [PV.i IntKind.i64
  (r_1.fst.getD r_1.snd.fst.toNat default).From]), ((100002 : Nat), Obj.str [PV.i IntKind.i64 i])] false (PV.sl (Id.s (200000 : Nat))) [((200000 : Nat),
  Obj.row false (5 : Nat) Vol eVol default r_4)] ∧ PV.fl false (5 : Nat) Vol eVol default r_4 = PV.fl false (5 : Nat) Vol eVol default r.fst ∧ (0 : Int) = r.snd ∧ True) ∧ True) ∧
  True))) =
    vcP (cx [] [] pure io) b_vol_Back [.fl false 5 Vol eVol default l, .i .i64 n, .i .i64 i] false (.tup [.fl false 5 Vol eVol default r.1, .i .i64 r.2]) [] := by kernel_rfl

end Go.Proofs.Ytbiojnaemniljaa

/- Contracts: copies of volumes; a volume found. -/
namespace Go.Proofs.Ytbiojnaemniljaa
open Go Pv
theorem Clone_int_ok (a : List Int) (h : a.length * 8 ≤ 140737488355328) : Pure prog n_slices_Clone_int [.fl false 1 Int eI 0 a] false (.fl false 1 Int eI 0 a) [] := by
  refine mk (l := []) (k := [(5, kdI)]) trivial ⟨kdI_ok, trivial⟩ (fn := b_slices_Clone_int) (by kernel_rfl) (by kernel_rfl) (by kernel_rfl) rfl outsOK_nil ?_
  rw [← vc_slices_Clone_int]
  refine fun c hc => ⟨fun h1 => ?_, fun _ => ⟨a, rfl, (by rw [Nat.zero_add]; exact h), rfl⟩⟩
  subst h1
  cases a with
  | nil => rfl
  | cons x l => cases hc (by simp)
theorem Clone_Link_ok (a : List Link) (h : a.length * 24 ≤ 140737488355328) : Pure prog n_slices_Clone_Link [.fl false 2 Link eLink default a] false (.fl false 2 Link eLink default a) [] := by
  refine mk (l := []) (k := [(5, kdLink)]) trivial ⟨kdLink_ok, trivial⟩ (fn := b_slices_Clone_Link) (by kernel_rfl) (by kernel_rfl) (by kernel_rfl) rfl outsOK_nil ?_
  rw [← vc_slices_Clone_Link]
  refine fun c hc => ⟨fun h1 => ?_, fun _ => ⟨a, rfl, (by rw [Nat.zero_add]; exact h), rfl⟩⟩
  subst h1
  cases a with
  | nil => rfl
  | cons x l => cases hc (by simp)
theorem Clone_File_ok (a : List File) (h : a.length * 72 ≤ 140737488355328) : Pure prog n_slices_Clone_File [.fl false 5 File eFile default a] false (.sl (.s 0)) [(0, .row false 5 File eFile default a)] := by
  refine mk (l := []) (k := [(5, kdFile)]) trivial ⟨kdFile_ok, trivial⟩ (fn := b_slices_Clone_File) (by kernel_rfl) (by kernel_rfl) (by kernel_rfl) rfl (outs_row (k := kdFile) kdFile_ok) ?_
  rw [← vc_slices_Clone_File]
  refine fun c hc => ⟨fun h1 => ?_, fun _ => ⟨a, rfl, (by rw [Nat.zero_add]; exact h), trivial, rfl, trivial⟩⟩
  subst h1
  cases a with
  | nil => exact ⟨trivial, rfl, trivial⟩
  | cons x l => cases hc (by simp)
theorem set_self {α : Type} {l : List α} {d : α} {j : Nat} (h : j < l.length) : l.set j (l.getD j d) = l := by
  have : l.getD j d = l[j] := by simp [List.getD, h]
  rw [this]; exact List.set_getElem_self h
/-- sizes, in bytes -/
def File.Sb (f : File) : Prop := f.Blocks.length * 8 ≤ 140737488355328 ∧ f.List.length * 24 ≤ 140737488355328
def Vol.Sb (v : Vol) : Prop := v.Sn ∧ v.Files.length * 72 ≤ 140737488355328 ∧ ∀ f, f ∈ v.Files → f.Sb
theorem treeOwn_ok (v : Vol) (h : v.Sb) : Pure prog n_tree_Own [.agg (eVol v)] false (.agg (eVol v)) [] := by
  refine mk (l := [(3, lFiles 11 6)]) (k := []) ⟨lFiles_ok _ _, trivial⟩ trivial (fn := b_tree_Own) (by kernel_rfl) (by kernel_rfl) (by kernel_rfl) rfl outsOK_nil ?_
  rw [← vc_tree_Own]
  have hc := Pure.at1 (o := .row false 5 File eFile default v.Files) 6 rfl trivial (by decide) (Clone_File_ok v.Files h.2.1)
  refine ⟨v.Files, hc, fun x => 0 ≤ x.1 ∧ x.1 ≤ v.Files.length ∧ x.2 = v.Files, fun x => (v.Files.length - x.1).toNat, ⟨(0, v.Files), ⟨⟨rfl, trivial⟩, rfl, trivial⟩, ⟨Int.le_refl _, Int.natCast_nonneg _, rfl⟩⟩, fun x hx => ?_⟩
  obtain ⟨i, m⟩ := x
  obtain ⟨h0, h1, h2⟩ := hx
  have h2 : m = v.Files := h2
  subst h2
  refine ⟨fun hd => ?_, fun hd => ⟨rfl, rfl, rfl, rfl, rfl, trivial⟩⟩
  have hd : i < v.Files.length := of_decide_eq_true hd
  have h0 : 0 ≤ i := h0
  have hlt : i.toNat < v.Files.length := by omega
  have hb : inb i v.Files.length := ⟨h0, hd⟩
  have hf := h.2.2 _ (getD_mem (d := default) hlt)
  have hs := set_self (d := (default : File)) hlt
  obtain ⟨f, hff⟩ : ∃ f, v.Files.getD i.toNat default = f := ⟨_, rfl⟩
  have hn := h.1.1
  have hw : IntKind.i64.wrap (i + 1) = i + 1 := wrap64 (by omega) (by omega)
  simp only [hff] at hs hf ⊢
  refine ⟨hb, hlt, f.Blocks, Clone_int_ok _ hf.1, hb, hlt, f.List, Clone_Link_ok _ hf.2, hb, ⟨⟨hlt, f, ⟨rfl, rfl, rfl, rfl, rfl, trivial⟩, ?_⟩, trivial⟩, ⟨hlt, f, ⟨rfl, rfl, rfl, rfl, rfl, trivial⟩, ?_⟩, trivial⟩ <;>
  · simp only [hs, hff]
    exact ⟨hb, ⟨hlt, f, ⟨rfl, rfl, rfl, rfl, rfl, trivial⟩, (i + 1, v.Files), ⟨⟨hw, trivial⟩, by rw [hs], trivial⟩, ⟨by omega, by omega, rfl⟩, by omega⟩, trivial⟩
theorem take_next {α : Type} {l : List α} {d : α} {j : Nat} (h : j < l.length) : l.take j ++ [l.getD j d] = l.take (j + 1) := by
  have : l.getD j d = l[j] := by simp [List.getD, h]
  rw [this]; exact (List.take_succ_eq_append_getElem h).symm
theorem volOwn_ok (l : List Vol) (hl : l.length ≤ 1000) (h : ∀ v, v ∈ l → v.Sb) : Pure prog n_vol_Own [.fl false 5 Vol eVol default l] false (.sl (.s 0)) [(0, .row false 5 Vol eVol default l)] := by
  refine mk (l := [(2, lVols 2 7)]) (k := [(15, kdVol)]) ⟨lVols_ok _ _, trivial⟩ ⟨kdVol_ok, trivial⟩ (fn := b_vol_Own) (by kernel_rfl) (by kernel_rfl) (by kernel_rfl) rfl (outs_row (k := kdVol) kdVol_ok) ?_
  rw [← vc_vol_Own]
  refine ⟨fun x => 0 ≤ x.1 ∧ x.1 ≤ l.length ∧ x.2 = l.take x.1.toNat, fun x => (l.length - x.1).toNat, ⟨(0, []), ⟨⟨trivial, rfl, trivial⟩, rfl, trivial⟩, ⟨Int.le_refl _, Int.natCast_nonneg _, rfl⟩⟩, fun x hx => ?_⟩
  obtain ⟨i, m⟩ := x
  obtain ⟨h0, h1, h2⟩ := hx
  have h2 : m = l.take i.toNat := h2
  have h0 : 0 ≤ i := h0
  have h1 : i ≤ l.length := h1
  refine ⟨fun hd => ?_, fun hd => ?_⟩
  · have hd : i < l.length := of_decide_eq_true hd
    have hlt : i.toNat < l.length := by omega
    have hf := h _ (getD_mem (d := default) hlt)
    have hm : m.length ≤ l.length := by rw [h2, List.length_take]; omega
    have hnx := take_next (d := (default : Vol)) hlt
    have hw : IntKind.i64.wrap (i + 1) = i + 1 := wrap64 (by omega) (by omega)
    refine ⟨⟨h0, hd⟩, l.getD i.toNat default, treeOwn_ok _ hf, [l.getD i.toNat default], ⟨rfl, ?_, trivial⟩, ?_, (i + 1, l.take (i + 1).toNat), ⟨⟨trivial, hw, trivial⟩, ?_, trivial⟩, ⟨by omega, by omega, rfl⟩, (by show (l.length - (i + 1) : Int).toNat < (l.length - i : Int).toNat; omega)⟩
    · exact ⟨rfl, rfl, rfl, rfl, rfl, trivial⟩
    · simp only [List.length_singleton]; omega
    · simp only [h2, hnx, show (i + 1).toNat = i.toNat + 1 by omega]
  · have hd : ¬ i < l.length := of_decide_eq_false hd
    have : m = l := by rw [h2]; exact List.take_of_length_le (by omega)
    rw [this]
    exact ⟨trivial, rfl, trivial⟩
end Go.Proofs.Ytbiojnaemniljaa

/- Contracts: volumes taken out of a list. -/
namespace Go.Proofs.Ytbiojnaemniljaa
open Go Pv
/-- a snapshot of this volume; a snapshot of this volume, behind this one -/
def dropB (i : Int) (v : Vol) : Bool := v.Snap && decide (v.From = i)
def backB (f i : Int) (v : Vol) : Bool := v.Snap && (decide (v.From = f) && decide (v.ID > i))
theorem dropB_ok (v : Vol) (i : Int) : Pure prog n_vol_Drop_1 [.agg (eVol v), .fp false [.i .i64 i]] true (.b (dropB i v)) [] := by
  refine mk (l := []) (k := []) trivial trivial (fn := b_vol_Drop_1) (by kernel_rfl) (by kernel_rfl) (by kernel_rfl) rfl outsOK_nil ?_
  rw [← vc_vol_Drop_1]
  exact ⟨fun h => by simp only [dropB, h, Bool.true_and], fun h => by simp only [dropB, h, Bool.false_and]⟩
theorem backB_ok (v : Vol) (f i : Int) : Pure prog n_vol_Back_1 [.agg (eVol v), .fp false [.i .i64 f], .fp false [.i .i64 i]] true (.b (backB f i v)) [] := by
  refine mk (l := []) (k := []) trivial trivial (fn := b_vol_Back_1) (by kernel_rfl) (by kernel_rfl) (by kernel_rfl) rfl outsOK_nil ?_
  rw [← vc_vol_Back_1]
  exact ⟨fun h => ⟨fun h2 => by simp only [backB, h, h2, Bool.true_and], fun h2 => by simp only [backB, h, h2, Bool.false_and, Bool.and_false]⟩, fun h => by simp only [backB, h, Bool.false_and]⟩
theorem IndexDrop_ok (a : List Vol) (i : Int) (ha : a.length ≤ 140737488355328) : Pure prog n_slices_IndexFunc_Vol [.fl false 5 Vol eVol default a, .fn n_vol_Drop_1 [.fp false [.i .i64 i]]] true (.i .i64 (place (dropB i) a)) [] := by
  refine mk (l := [(2, lc 8)]) (k := []) ⟨lc_ok _, trivial⟩ trivial (fn := b_slices_IndexFunc_Vol) (by kernel_rfl) (by kernel_rfl) (by kernel_rfl) rfl outsOK_nil ?_
  rw [← vc_slices_IndexFunc_Vol_Drop]
  exact place_rounds (default : Vol) (dropB i) ha (R := fun x K => inb x a.length ∧ ∃ r_1 : Bool, Pure prog n_vol_Drop_1 [.agg (eVol (a.getD x.toNat default)), .fp false [.i .i64 i]] true (.b r_1) [] ∧ (r_1 = true → x = place (dropB i) a) ∧
      (r_1 = false → ∃ x' : Int, ((IntKind.i64.wrap (x + 1) = x' ∧ True) ∧ True) ∧ K x'))
    (fun x K h0 hlt g1 g2 => ⟨⟨h0, hlt⟩, _, dropB_ok _ _, g1, fun hh => ⟨x + 1, ⟨⟨wrap64 (by omega) (by omega), trivial⟩, trivial⟩, g2 hh⟩⟩)
theorem IndexBack_ok (a : List Vol) (f i : Int) (ha : a.length ≤ 140737488355328) : Pure prog n_slices_IndexFunc_Vol [.fl false 5 Vol eVol default a, .fn n_vol_Back_1 [.fp false [.i .i64 f], .fp false [.i .i64 i]]] true (.i .i64 (place (backB f i) a)) [] := by
  refine mk (l := [(2, lc 8)]) (k := []) ⟨lc_ok _, trivial⟩ trivial (fn := b_slices_IndexFunc_Vol) (by kernel_rfl) (by kernel_rfl) (by kernel_rfl) rfl outsOK_nil ?_
  rw [← vc_slices_IndexFunc_Vol_Back]
  exact place_rounds (default : Vol) (backB f i) ha (R := fun x K => inb x a.length ∧ ∃ r_1 : Bool, Pure prog n_vol_Back_1 [.agg (eVol (a.getD x.toNat default)), .fp false [.i .i64 f], .fp false [.i .i64 i]] true (.b r_1) [] ∧ (r_1 = true → x = place (backB f i) a) ∧
      (r_1 = false → ∃ x' : Int, ((IntKind.i64.wrap (x + 1) = x' ∧ True) ∧ True) ∧ K x'))
    (fun x K h0 hlt g1 g2 => ⟨⟨h0, hlt⟩, _, backB_ok _ _ _, g1, fun hh => ⟨x + 1, ⟨⟨wrap64 (by omega) (by omega), trivial⟩, trivial⟩, g2 hh⟩⟩)
theorem place_any {α : Type} {p : α → Bool} : ∀ l : List α, decide (place p l ≥ 0) = l.any p
  | [] => rfl
  | a :: l => by
    have h := place_any (p := p) l
    have g := place_ge p l
    cases hp : p a with
    | true => simp [place, hp]
    | false =>
      simp only [place, hp, Bool.false_eq_true, if_false, List.any_cons, Bool.false_or]
      rw [← h, Bool.eq_iff_iff, decide_eq_true_iff, decide_eq_true_iff]
      by_cases hn : place p l < 0
      · rw [if_pos hn]; omega
      · rw [if_neg hn]; omega
theorem place_all {α : Type} {p : α → Bool} {l : List α} (h : place p l = -1) : ∀ x, x ∈ l → p x = false := by
  intro x hx
  have h1 := place_any (p := p) l
  rw [h] at h1
  have h1 : l.any p = false := h1.symm
  rw [List.any_eq_false] at h1
  simpa using h1 x hx
theorem place_is {α : Type} {p : α → Bool} {d : α} : ∀ {l : List α} {x : Nat}, place p l = (x : Int) → x < l.length ∧ p (l.getD x d) = true ∧ ∀ y, y ∈ l.take x → p y = false
  | [], x, h => by simp only [place] at h; omega
  | a :: l, x, h => by
    have g := place_ge p l
    simp only [place] at h
    split at h
    · rename_i hp
      have : x = 0 := by omega
      subst this
      exact ⟨by simp, by simpa using hp, fun y hy => by simp at hy⟩
    · rename_i hp
      split at h
      · omega
      · cases x with
        | zero => omega
        | succ x =>
          have ih := place_is (l := l) (x := x) (p := p) (d := d) (by omega)
          refine ⟨by simpa using ih.1, by simpa using ih.2.1, fun y hy => ?_⟩
          rw [List.take_succ_cons] at hy
          rcases List.mem_cons.1 hy with rfl | hy
          · simpa using hp
          · exact ih.2.2 y hy
theorem HasDrop_ok (a : List Vol) (i : Int) (ha : a.length ≤ 140737488355328) : Pure prog n_slices_ContainsFunc_Vol [.fl false 5 Vol eVol default a, .fn n_vol_Drop_1 [.fp false [.i .i64 i]]] true (.b (a.any (dropB i))) [] := by
  refine mk (l := []) (k := []) trivial trivial (fn := b_slices_ContainsFunc_Vol) (by kernel_rfl) (by kernel_rfl) (by kernel_rfl) rfl outsOK_nil ?_
  rw [← vc_slices_ContainsFunc_Vol]
  exact ⟨_, IndexDrop_ok a i ha, place_any a⟩
theorem Delete_ok (l : List Vol) (k : Nat) (hl : l.length ≤ 140737488355328) (hk : k < l.length) : PureIO prog n_slices_Delete_Vol [.sl (.s 100000), .i .i64 k, .i .i64 ((k : Int) + 1)] [(100000, .row false 5 Vol eVol default l)] false (.sl (.s 200000)) [(200000, .row false 5 Vol eVol default (l.eraseIdx k))] := by
  refine mkIO (l := []) (k := []) trivial trivial (fn := b_slices_Delete_Vol) (by kernel_rfl) (by kernel_rfl) (by kernel_rfl) rfl (outs_row (k := kdVol) kdVol_ok) insOK1 ?_
  rw [← vc_slices_Delete_Vol]
  have e1 : ((k : Int) + 1).toNat = k + 1 := by omega
  have e2 : ∀ n : Nat, ((n : Int)).toNat = n := fun n => Int.toNat_natCast n
  simp only [e1, e2, Nat.sub_zero]
  refine ⟨⟨by omega, by omega⟩, ⟨by omega, by omega⟩, ⟨by omega, by omega⟩, dsplit (fun h => by omega) (fun _ => ?_)⟩
  have hT : List.take (l.length - (k + 1)) (List.drop (k + 1) l) = List.drop (k + 1) l := List.take_of_length_le (by rw [List.length_drop]; omega)
  rw [hT]
  obtain ⟨X, hX⟩ : ∃ X, List.take k l ++ List.drop (k + 1) l ++ List.drop (k + (l.length - (k + 1))) l = X := ⟨_, rfl⟩
  have hXl : X.length = l.length := by rw [← hX]; simp only [List.length_append, List.length_take, List.length_drop]; omega
  have hXt : X.take (k + (l.length - (k + 1))) = l.eraseIdx k := by
    rw [← hX, List.eraseIdx_eq_take_drop_succ, List.take_append_of_le_length (by simp only [List.length_append, List.length_take, List.length_drop]; omega), List.take_of_length_le (by simp only [List.length_append, List.length_take, List.length_drop]; omega)]
  simp only [hX, hXl, Nat.zero_add]
  refine ⟨⟨by omega, by omega⟩, ⟨by omega, by omega⟩, ⟨by omega, by omega, ⟨by omega, by omega⟩, ⟨by omega, by omega⟩, by omega, default, ⟨rfl, rfl, rfl, rfl, rfl, trivial⟩, by omega, by omega, trivial, ⟨?_, trivial, ?_⟩, trivial⟩, trivial⟩
  · simp only [List.length_append, List.length_take, List.length_drop, List.length_replicate]; omega
  · rw [List.drop_zero, List.append_assoc, List.take_append_of_le_length (by rw [List.length_take]; omega), List.take_take, Nat.min_self, hXt]
/-- all but those -/
def keepB (f i : Int) (v : Vol) : Bool := !backB f i v
theorem take_set_next {α : Type} {x : α} : ∀ {m : List α} {a : Nat}, a < m.length → (m.set a x).take (a + 1) = m.take a ++ [x]
  | [], a, h => by simp at h
  | b :: m, 0, _ => by simp
  | b :: m, a + 1, h => by
    have := take_set_next (x := x) (m := m) (a := a) (by simpa using h)
    simp [this]
theorem getD_of_drop {α : Type} {d : α} {m l : List α} {b : Nat} (h : m.drop b = l.drop b) (hm : b < m.length) (hl : b < l.length) : m.getD b d = l.getD b d ∧ m.drop (b + 1) = l.drop (b + 1) := by
  rw [drop_getD (d := d) hm, drop_getD (d := d) hl] at h
  injection h with h1 h2
  exact ⟨h1, h2⟩
theorem filter_next {α : Type} {l : List α} {d : α} {p : α → Bool} {j : Nat} (h : j < l.length) : (l.take (j + 1)).filter p = (l.take j).filter p ++ (if p (l.getD j d) then [l.getD j d] else []) := by
  rw [← take_next (d := d) h, List.filter_append]
  congr 1
  simp only [List.filter_cons, List.filter_nil]
theorem DeleteFunc_ok (l : List Vol) (f i : Int) (hl : l.length ≤ 140737488355328) : PureIO prog n_slices_DeleteFunc_Vol [.sl (.s 100000), .fn n_vol_Back_1 [.lp (.s 100001) 0, .lp (.s 100002) 0]] [(100000, .row false 5 Vol eVol default l), (100001, .str [.i .i64 f]), (100002, .str [.i .i64 i])] false (.sl (.s 200000)) [(200000, .row false 5 Vol eVol default (l.filter (keepB f i)))] := by
  refine mkIO (l := [(5, lVols2 5 6 100000)]) (k := []) ⟨lVols2_ok _ _ _, trivial⟩ trivial (fn := b_slices_DeleteFunc_Vol) (by kernel_rfl) (by kernel_rfl) (by kernel_rfl) rfl (outs_row (k := kdVol) kdVol_ok) insOK3 ?_
  rw [← vc_slices_DeleteFunc_Vol]
  refine ⟨place (backB f i) l, IndexBack_ok l f i hl, dsplit (fun h => ?_) (fun h => ?_)⟩
  · have : l.filter (keepB f i) = l := by
      rw [List.filter_eq_self]
      intro x hx
      simp only [keepB, place_all h x hx, Bool.not_false]
    rw [this]
    exact ⟨trivial, rfl, trivial⟩
  have hge := place_ge (backB f i) l
  obtain ⟨a0, ha0⟩ : ∃ a0 : Nat, place (backB f i) l = a0 := ⟨(place (backB f i) l).toNat, by omega⟩
  obtain ⟨hlt0, hat0, hbef⟩ := place_is (d := default) ha0
  rw [ha0]
  refine ⟨fun x => ∃ a b : Nat, x.1 = a ∧ x.2.1 = b ∧ a < b ∧ b ≤ l.length ∧ x.2.2.length = l.length ∧ x.2.2.take a = (l.take b).filter (keepB f i) ∧ x.2.2.drop b = l.drop b, fun x => (l.length - x.2.1).toNat,
    ⟨(a0, (a0 : Int) + 1, l), ⟨⟨rfl, wrap64 (by omega) (by omega), trivial⟩, rfl, trivial⟩, a0, a0 + 1, rfl, by simp, by omega, by omega, rfl, ?_, rfl⟩, fun x hx => ?_⟩
  · rw [filter_next (d := default) hlt0]
    have : keepB f i (l.getD a0 default) = false := by simp only [keepB, hat0, Bool.not_true]
    rw [this]
    have : (l.take a0).filter (keepB f i) = l.take a0 := by
      rw [List.filter_eq_self]
      intro y hy
      simp only [keepB, hbef y hy, Bool.not_false]
    rw [this]; simp
  obtain ⟨p, q, m⟩ := x
  obtain ⟨a, b, hp, hq, hab, hb, hm, ht, hdr⟩ := hx
  have hp : p = a := hp
  have hq : q = b := hq
  have hm : m.length = l.length := hm
  have ht : m.take a = (l.take b).filter (keepB f i) := ht
  have hdr : m.drop b = l.drop b := hdr
  subst hp hq
  simp only [Int.toNat_natCast]
  refine dsplit (fun hd => ?_) (fun hd => ?_)
  · have hd : b < m.length := by omega
    obtain ⟨hg, hdr'⟩ := getD_of_drop (d := (default : Vol)) hdr hd (by omega)
    have hfn := filter_next (d := (default : Vol)) (p := keepB f i) (l := l) (j := b) (by omega)
    have hwa : IntKind.i64.wrap ((a : Int) + 1) = ((a + 1 : Nat) : Int) := by rw [wrap64 (by omega) (by omega)]; omega
    have hwb : IntKind.i64.wrap ((b : Int) + 1) = ((b + 1 : Nat) : Int) := by rw [wrap64 (by omega) (by omega)]; omega
    obtain ⟨v, hv⟩ : ∃ v, l.getD b default = v := ⟨_, rfl⟩
    have hg : m.getD b default = v := by rw [hg, hv]
    simp only [hg]
    rw [hv] at hfn
    refine ⟨⟨by omega, by omega⟩, hd, backB f i v, backB_ok v f i, tsplit (fun h => ?_) (fun h => ?_)⟩
    · have hk : keepB f i v = true := by simp only [keepB, h, Bool.not_false]
      rw [hk] at hfn
      refine ⟨⟨by omega, by omega⟩, by omega, v, ⟨rfl, rfl, rfl, rfl, rfl, trivial⟩, (((a + 1 : Nat) : Int), ((b + 1 : Nat) : Int), m.set a v), ⟨⟨hwa, hwb, trivial⟩, rfl, trivial⟩, ⟨a + 1, b + 1, rfl, rfl, by omega, by omega, ?_, ?_, ?_⟩, (by show ((l.length : Int) - ((b + 1 : Nat) : Int)).toNat < ((l.length : Int) - (b : Int)).toNat; omega)⟩
      · show (m.set a v).length = _
        rw [List.length_set]; exact hm
      · show (m.set a v).take (a + 1) = _
        rw [take_set_next (by omega), ht, hfn]; rfl
      · show (m.set a v).drop (b + 1) = _
        rw [List.drop_set_of_lt (by omega)]; exact hdr'
    · have hk : keepB f i v = false := by simp only [keepB, h, Bool.not_true]
      rw [hk] at hfn
      refine ⟨((a : Int), ((b + 1 : Nat) : Int), m), ⟨⟨rfl, hwb, trivial⟩, rfl, trivial⟩, ⟨a, b + 1, rfl, rfl, by omega, by omega, hm, ?_, hdr'⟩, (by show ((l.length : Int) - ((b + 1 : Nat) : Int)).toNat < ((l.length : Int) - (b : Int)).toNat; omega)⟩
      show m.take a = _
      rw [ht, hfn]; simp
  · have hbl : b = l.length := by omega
    have ht' : m.take a = l.filter (keepB f i) := by rw [ht, hbl, List.take_length]
    refine ⟨⟨by omega, by omega⟩, default, ⟨rfl, rfl, rfl, rfl, rfl, trivial⟩, by omega, by omega, ⟨by omega, ?_⟩, trivial, ⟨?_, trivial, ?_⟩, trivial⟩
    · simp only [List.length_append, List.length_take, List.length_drop, List.length_replicate]; omega
    · simp only [List.length_append, List.length_take, List.length_drop, List.length_replicate]; omega
    · rw [Nat.sub_zero, List.drop_zero, List.append_assoc, List.take_append_of_le_length (by rw [List.length_take]; omega), List.take_take, Nat.min_self, ht']
end Go.Proofs.Ytbiojnaemniljaa

/- Contracts: the volumes' ways. -/
namespace Go.Proofs.Ytbiojnaemniljaa
open Go Pv
/-- lists of volumes that are not too large to be copied -/
def VS (l : List Vol) : Prop := l.length ≤ 140737488355328 ∧ ∀ v, v ∈ l → v.Sb
theorem may_len {l : List Vol} {n : Int} (h : mayV l n = true) : l.length ≤ 4 := by
  unfold mayV at h
  simp only [Bool.and_eq_true] at h
  exact of_decide_eq_true h.1
theorem VS.may {l : List Vol} (h : VS l) (n : Int) : Pure prog n_vol_May [.fl false 5 Vol eVol default l, .i .i64 n] true (.b (mayV l n)) [] :=
  mayV_ok l n (by have := h.1; omega) (fun v hv => (h.2 v hv).1)
theorem VS.at {l : List Vol} (h : VS l) (n : Int) : Pure prog n_vol_At [.fl false 5 Vol eVol default l, .i .i64 n] true (.tup [.i .i64 (seekV l n), .b (seekVb l n)]) [] :=
  atV_ok l n (by have := h.1; omega)
/-- if volumes may be, and one is there: f of its place; if not: an error -/
def ifFound {α : Type} (l : List Vol) (n i : Int) (bad : Int → α) (f : Nat → α) : α :=
  match mayV l n, seekVb l i with
  | false, _ => bad 1
  | true, false => bad 3
  | true, true => f (seekV l i)
def foundP (l : List Vol) (n i : Int) : List Vol × Int × Int := ifFound l n i (fun e => ([], 0, e)) (fun k => (l, (k : Int), 0))
theorem found_ok (l : List Vol) (n i : Int) (h : VS l) : Pure prog n_vol_found [.fl false 5 Vol eVol default l, .i .i64 n, .i .i64 i] false (.tup [.sl (.s 0), .i .i64 (foundP l n i).2.1, .i .i64 (foundP l n i).2.2]) [(0, .row false 5 Vol eVol default (foundP l n i).1)] := by
  refine mk (l := []) (k := []) trivial trivial (fn := b_vol_found) (by kernel_rfl) (by kernel_rfl) (by kernel_rfl) rfl (outs_row (k := kdVol) kdVol_ok) ?_
  rw [← vc_vol_found]
  refine ⟨mayV l n, h.may n, tsplit (fun h1 => ?_) (fun h1 => ⟨((seekV l i : Int), seekVb l i), h.at i, tsplit (fun h2 => ?_) (fun h2 => ⟨l, ?_, ?_⟩)⟩)⟩
  · simp only [foundP, ifFound, h1]; exact ⟨⟨trivial, trivial, trivial, trivial⟩, trivial, trivial⟩
  · have h2 : seekVb l i = false := h2
    simp only [foundP, ifFound, h1, h2]; exact ⟨⟨trivial, trivial, trivial, trivial⟩, trivial, trivial⟩
  · exact Pure.at1 (o := .row false 5 Vol eVol default l) 24 rfl trivial (by decide) (volOwn_ok l (by have := may_len h1; omega) h.2)
  · have h2 : seekVb l i = true := h2
    simp only [foundP, ifFound, h1, h2]; exact ⟨⟨trivial, trivial, trivial, trivial⟩, trivial, trivial⟩
theorem found_at (d : Nat) (hd : d < 100000) (l : List Vol) (n i : Int) (h : VS l) : Pure prog n_vol_found [.fl false 5 Vol eVol default l, .i .i64 n, .i .i64 i] false (.tup [.sl (.s d), .i .i64 (foundP l n i).2.1, .i .i64 (foundP l n i).2.2]) [(d, .row false 5 Vol eVol default (foundP l n i).1)] := by
  have := Pure.at1 (o := .row false 5 Vol eVol default (foundP l n i).1) d rfl trivial hd (found_ok l n i h)
  have e : shift d 0 = d := by unfold shift; rfl
  simp only [bk2, bk1, bk0, lmap, e, bkO] at this
  exact this
theorem seek_lt {l : List Vol} {i : Int} (h : seekVb l i = true) : seekV l i < l.length := by
  unfold seekVb at h
  rw [Bool.and_eq_true] at h
  exact of_decide_eq_true h.1
/-- three ways of a volume that is sought -/
theorem found_split {l : List Vol} {n i : Int} {P : List Vol × Int × Int → Prop} (h1 : ∀ e, e ≠ 0 → P ([], 0, e)) (h2 : mayV l n = true → seekVb l i = true → P (l, (seekV l i : Int), 0)) : P (foundP l n i) := by
  unfold foundP ifFound
  cases hm : mayV l n with
  | false => exact h1 1 (by decide)
  | true => cases hs : seekVb l i with
    | false => exact h1 3 (by decide)
    | true => exact h2 hm hs
def getP (l : List Vol) (n i : Int) : Vol × Int := ifFound l n i (fun e => (default, e)) (fun k => (l.getD k default, 0))
theorem Get_ok (l : List Vol) (n i : Int) (h : VS l) : Pure prog n_vol_Get [.fl false 5 Vol eVol default l, .i .i64 n, .i .i64 i] false (.tup [.agg (eVol (getP l n i).1), .i .i64 (getP l n i).2]) [] := by
  refine mk (l := []) (k := []) trivial trivial (fn := b_vol_Get) (by kernel_rfl) (by kernel_rfl) (by kernel_rfl) rfl outsOK_nil ?_
  rw [← vc_vol_Get]
  refine ⟨foundP l n i, found_at 15 (by decide) l n i h, ?_⟩
  unfold foundP getP ifFound
  cases hm : mayV l n with
  | false => exact nsplit (fun _ => ⟨⟨rfl, rfl, rfl, rfl, rfl, trivial⟩, rfl, trivial⟩) (fun h => by cases h)
  | true => cases hs : seekVb l i with
    | false => exact nsplit (fun _ => ⟨⟨rfl, rfl, rfl, rfl, rfl, trivial⟩, rfl, trivial⟩) (fun h => by cases h)
    | true =>
      have hlt := seek_lt hs
      refine nsplit (fun h => absurd rfl h) (fun _ => ⟨⟨by simp only []; omega, by simp only []; omega⟩, by simp only [Int.toNat_natCast]; exact hlt, ?_, rfl, trivial⟩)
      simp only [Int.toNat_natCast]
      exact ⟨trivial, trivial, trivial, trivial, trivial, trivial⟩
/-- a copy of a volume: a snapshot, or a clone -/
def copyOf (v : Vol) (n i : Int) (s : Bool) : Vol := ⟨n, if s then i else 0, s, v.Files, v.Next⟩
def copP (l : List Vol) (n i : Int) (s : Bool) : List Vol × Int × Int := ifFound l n i (fun e => ([], 0, e)) fun k =>
  if (l.getD k default).Snap = s then ([], 0, 9) else if 4 ≤ l.length then ([], 0, 2) else if 1073741824 ≤ n then ([], 0, 2) else (l ++ [copyOf (l.getD k default) n i s], n + 1, 0)
theorem copied_ok (l : List Vol) (n i : Int) (s : Bool) (h : VS l) (hn : I64 n) : Pure prog n_vol_copied [.fl false 5 Vol eVol default l, .i .i64 n, .i .i64 i, .b s] false (.tup [.fl false 5 Vol eVol default (copP l n i s).1, .i .i64 (copP l n i s).2.1, .i .i64 (copP l n i s).2.2]) [] := by
  refine mk (l := []) (k := []) trivial trivial (fn := b_vol_copied) (by kernel_rfl) (by kernel_rfl) (by kernel_rfl) rfl outsOK_nil ?_
  rw [← vc_vol_copied]
  refine ⟨foundP l n i, found_at 17 (by decide) l n i h, ?_⟩
  unfold foundP copP ifFound
  cases hm : mayV l n with
  | false => exact nsplit (fun _ => ⟨rfl, rfl, rfl, trivial⟩) (fun h => by cases h)
  | true => cases hs : seekVb l i with
    | false => exact nsplit (fun _ => ⟨rfl, rfl, rfl, trivial⟩) (fun h => by cases h)
    | true =>
      have hlt := seek_lt hs
      have e0 : ∀ k : Nat, Int.toNat (k : Int) = k := fun k => Int.toNat_natCast k
      simp only [e0]
      have hv := h.2 _ (getD_mem (d := default) hlt)
      have hb : inb (seekV l i : Int) l.length := ⟨by omega, by omega⟩
      obtain ⟨v, hvv⟩ : ∃ v, l.getD (seekV l i) default = v := ⟨_, rfl⟩
      simp only [hvv] at hv ⊢
      refine nsplit (fun h => (h trivial).elim) (fun _ => ⟨hb, hlt, dsplit (fun h1 => ?_) (fun h1 => dsplit (fun h2 => ?_) (fun h2 => dsplit (fun h3 => ?_) (fun h3 => ⟨hb, hlt, v, treeOwn_ok v hv, fun h4 => ?_, fun h4 => ?_⟩)))⟩)
      · rw [if_pos h1]; exact ⟨rfl, rfl, rfl, trivial⟩
      · rw [if_neg h1, if_pos (by omega)]; exact ⟨rfl, rfl, rfl, trivial⟩
      · rw [if_neg h1, if_neg (by omega), if_pos (by omega)]; exact ⟨rfl, rfl, rfl, trivial⟩
      · rw [if_neg h1, if_neg (by omega), if_neg (by omega)]
        subst h4
        refine ⟨[copyOf v n i true], ⟨trivial, ⟨rfl, rfl, rfl, rfl, rfl, trivial⟩, trivial⟩, ?_, rfl, wrap64 (by have := hn.1; omega) (by omega), rfl, trivial⟩
        simp only [List.length_singleton]; omega
      · rw [if_neg h1, if_neg (by omega), if_neg (by omega)]
        subst h4
        refine ⟨[copyOf v n i false], ⟨trivial, ⟨rfl, rfl, rfl, rfl, rfl, trivial⟩, trivial⟩, ?_, rfl, wrap64 (by have := hn.1; omega) (by omega), rfl, trivial⟩
        simp only [List.length_singleton]; omega
theorem Pure.tt4 {P : Program} {f : FuncId} {a b c r : PV} {fr : Bool} {o : List (Nat × Pv.Obj)} (h : Pure P f [a, b, c, .b true] fr r o) : Pure P f [a, b, c, .tt] fr r o := fun w E vs hF hsz hv hIn =>
  h w E vs hF hsz (fun k hk => match k, hk, hv k hk with
    | 0, _, h => h | 1, _, h => h | 2, _, h => h | 3, _, h => by
      simp only [nth, R1, R0] at h ⊢
      revert h
      generalize vs.getD 3 undef = v
      intro h
      cases h
      exact Fz.b _)  hIn
theorem Pure.ff4 {P : Program} {f : FuncId} {a b c r : PV} {fr : Bool} {o : List (Nat × Pv.Obj)} (h : Pure P f [a, b, c, .b false] fr r o) : Pure P f [a, b, c, .ff] fr r o := fun w E vs hF hsz hv hIn =>
  h w E vs hF hsz (fun k hk => match k, hk, hv k hk with
    | 0, _, h => h | 1, _, h => h | 2, _, h => h | 3, _, h => by
      simp only [nth, R1, R0] at h ⊢
      revert h
      generalize vs.getD 3 undef = v
      intro h
      cases h
      exact Fz.b _)  hIn
theorem Snap_ok (l : List Vol) (n i : Int) (h : VS l) (hn : I64 n) : Pure prog n_vol_Snap [.fl false 5 Vol eVol default l, .i .i64 n, .i .i64 i] false (.tup [.fl false 5 Vol eVol default (copP l n i true).1, .i .i64 (copP l n i true).2.1, .i .i64 (copP l n i true).2.2]) [] := by
  refine mk (l := []) (k := []) trivial trivial (fn := b_vol_Snap) (by kernel_rfl) (by kernel_rfl) (by kernel_rfl) rfl outsOK_nil ?_
  rw [← vc_vol_Snap]
  exact ⟨_, Pure.tt4 (copied_ok l n i true h hn), rfl, rfl, rfl, trivial⟩
theorem Clone_ok (l : List Vol) (n i : Int) (h : VS l) (hn : I64 n) : Pure prog n_vol_Clone [.fl false 5 Vol eVol default l, .i .i64 n, .i .i64 i] false (.tup [.fl false 5 Vol eVol default (copP l n i false).1, .i .i64 (copP l n i false).2.1, .i .i64 (copP l n i false).2.2]) [] := by
  refine mk (l := []) (k := []) trivial trivial (fn := b_vol_Clone) (by kernel_rfl) (by kernel_rfl) (by kernel_rfl) rfl outsOK_nil ?_
  rw [← vc_vol_Clone]
  exact ⟨_, Pure.ff4 (copied_ok l n i false h hn), rfl, rfl, rfl, trivial⟩
def dropP (l : List Vol) (n i : Int) : List Vol × Int := ifFound l n i (fun e => ([], e)) fun k => if l.any (dropB i) = true then ([], 8) else (l.eraseIdx k, 0)
theorem Drop_ok (l : List Vol) (n i : Int) (h : VS l) : Pure prog n_vol_Drop [.fl false 5 Vol eVol default l, .i .i64 n, .i .i64 i] false (.tup [.fl false 5 Vol eVol default (dropP l n i).1, .i .i64 (dropP l n i).2]) [] := by
  refine mk (l := []) (k := []) trivial trivial (fn := b_vol_Drop) (by kernel_rfl) (by kernel_rfl) (by kernel_rfl) rfl outsOK_nil ?_
  rw [← vc_vol_Drop]
  refine ⟨foundP l n i, found_at 15 (by decide) l n i h, ?_⟩
  unfold foundP dropP ifFound
  cases hm : mayV l n with
  | false => exact nsplit (fun _ => ⟨rfl, rfl, trivial⟩) (fun h => by cases h)
  | true => cases hs : seekVb l i with
    | false => exact nsplit (fun _ => ⟨rfl, rfl, trivial⟩) (fun h => by cases h)
    | true =>
      have hlt := seek_lt hs
      have hl := h.1
      refine nsplit (fun h => absurd rfl h) (fun _ => ⟨_, HasDrop_ok l i (by omega), fun h1 => ?_, fun h1 => ⟨l.eraseIdx (seekV l i), ?_, ?_⟩⟩)
      · simp only [h1, if_true]; exact ⟨trivial, trivial, trivial⟩
      · have := Delete_ok l (seekV l i) (by omega) hlt
        have hw : IntKind.i64.wrap ((seekV l i : Int) + 1) = (seekV l i : Int) + 1 := wrap64 (by omega) (by omega)
        rw [← hw] at this
        exact this
      · simp only [h1]; exact ⟨rfl, rfl, trivial⟩
/-- a volume's files again; its later snapshots go -/
def backP (l : List Vol) (n i : Int) : List Vol × Int := ifFound l n i (fun e => ([], e)) fun k =>
  if (l.getD k default).Snap = false then ([], 9) else
    ((l.set (seekV l (l.getD k default).From) { l.getD (seekV l (l.getD k default).From) default with Files := (l.getD k default).Files, Next := max (l.getD (seekV l (l.getD k default).From) default).Next (l.getD k default).Next }).filter (keepB (l.getD k default).From i), 0)
theorem may_from {l : List Vol} {n : Int} (h : mayV l n = true) {k : Nat} (hk : k < l.length) (hs : (l.getD k default).Snap = true) : seekVb l (l.getD k default).From = true ∧ (l.getD (seekV l (l.getD k default).From) default).Snap = false := by
  unfold mayV at h
  simp only [Bool.and_eq_true] at h
  have h2 := allI_iff.1 h.2.2.2.2 k hk
  unfold fromB at h2
  rw [hs] at h2
  simp only [Bool.not_true, Bool.false_or, Bool.and_eq_true] at h2
  exact ⟨h2.1, by have := h2.2; simpa using this⟩
theorem Back_ok (l : List Vol) (n i : Int) (h : VS l) : Pure prog n_vol_Back [.fl false 5 Vol eVol default l, .i .i64 n, .i .i64 i] false (.tup [.fl false 5 Vol eVol default (backP l n i).1, .i .i64 (backP l n i).2]) [] := by
  refine mk (l := []) (k := []) trivial trivial (fn := b_vol_Back) (by kernel_rfl) (by kernel_rfl) (by kernel_rfl) rfl outsOK_nil ?_
  rw [← vc_vol_Back]
  refine ⟨foundP l n i, found_at 18 (by decide) l n i h, ?_⟩
  unfold foundP backP ifFound
  cases hm : mayV l n with
  | false => exact nsplit (fun _ => ⟨rfl, rfl, trivial⟩) (fun h => by cases h)
  | true => cases hs : seekVb l i with
    | false => exact nsplit (fun _ => ⟨rfl, rfl, trivial⟩) (fun h => by cases h)
    | true =>
      have hlt := seek_lt hs
      have hl := h.1
      have hb : inb (seekV l i : Int) l.length := ⟨by omega, by omega⟩
      have hfr := may_from hm hlt
      have hv := h.2 _ (getD_mem (d := default) hlt)
      have e0 : ∀ k : Nat, Int.toNat (k : Int) = k := fun k => Int.toNat_natCast k
      simp only [e0]
      obtain ⟨v, hvv⟩ : ∃ v, l.getD (seekV l i) default = v := ⟨_, rfl⟩
      simp only [hvv] at hfr hv ⊢
      refine nsplit (fun h => (h trivial).elim) (fun _ => ⟨hb, hlt, tsplit (fun h1 => ?_) (fun h1 => ?_)⟩)
      · rw [if_pos h1]; exact ⟨rfl, rfl, trivial⟩
      have hlt2 := seek_lt (hfr h1).1
      have hb2 : inb (seekV l v.From : Int) l.length := ⟨by omega, by omega⟩
      rw [if_neg (by rw [h1]; decide)]
      obtain ⟨k, hk⟩ : ∃ k, seekV l v.From = k := ⟨_, rfl⟩
      simp only [hk] at hlt2 hb2 ⊢
      obtain ⟨u, hu⟩ : ∃ u, l.getD k default = u := ⟨_, rfl⟩
      have hg : ∀ x, (l.set k x).getD k default = x := fun x => by simp [List.getD, hlt2]
      refine ⟨hb, hlt, ((k : Int), seekVb l v.From), by rw [← hk]; exact h.at v.From, hb, hlt, v, treeOwn_ok v hv, hb2, by simp only [Int.toNat_natCast]; exact hlt2, hb, hlt, hb2, ⟨by simp only [Int.toNat_natCast]; exact hlt2, { u with Files := v.Files }, ?_, ?_⟩, trivial⟩
      · simp only [Int.toNat_natCast, hu]; exact ⟨trivial, trivial, trivial, trivial, trivial, trivial⟩
      · simp only [Int.toNat_natCast, hu, hg, List.length_set, List.set_set]
        refine ⟨hb2, ⟨hlt2, { u with Files := v.Files, Next := max u.Next v.Next }, ⟨rfl, rfl, rfl, rfl, rfl, trivial⟩, _, DeleteFunc_ok _ _ _ (by rw [List.length_set]; omega), rfl, trivial, trivial⟩, trivial⟩
end Go.Proofs.Ytbiojnaemniljaa

/- Conditions of functions (printed by mkgo.py out of C5.spec.py, checked by the kernel). -/
namespace Go.Proofs.Ytbiojnaemniljaa
open Go Pv
theorem vc_law0_VolWeight (pure : PureT) (io : IoT) (a : Vol) (r : Int) : (
  ∃ (Φ : Int × Int → Prop), ∃ (μ : Int × Int → Nat), (∃ (x : Int × Int), (((↑a.Files.length : Int) = x.fst ∧ (0 : Int) = x.snd ∧ True) ∧ True) ∧ Φ x) ∧ ∀ (x : Int × Int), Φ x →
  (decide (x.snd < (↑a.Files.length : Int)) = true → (decide (x.fst < (1048576 : Int)) = true → inb x.snd a.Files.length ∧ inb x.snd a.Files.length ∧ ∃ (Φ_1 : Int × Int → Prop), ∃
  (μ_1 : Int × Int → Nat), (∃ (x_1 : Int × Int), ((IntKind.i64.wrap (IntKind.i64.wrap (x.fst + (↑(a.Files.getD x.snd.toNat default).Blocks.length : Int)) + (↑(a.Files.getD
  x.snd.toNat default).List.length : Int)) = x_1.fst ∧ (0 : Int) = x_1.snd ∧ True) ∧ True) ∧ Φ_1 x_1) ∧ ∀ (x_1 : Int × Int), Φ_1 x_1 → inb x.snd a.Files.length ∧ (decide (x_1.snd <
  (↑(a.Files.getD x.snd.toNat default).List.length : Int)) = true → (decide (x_1.fst < (1048576 : Int)) = true → inb x.snd a.Files.length ∧ inb x_1.snd (a.Files.getD x.snd.toNat
  default).List.length ∧ (4 : Int) ≠ (0 : Int) ∧ ∃ (x' : Int × Int), ((IntKind.i64.wrap (x_1.fst + IntKind.i64.wrap ((↑(List.length ((a.Files.getD x.snd.toNat default).List.getD
  x_1.snd.toNat default).Name) : Int).tdiv (4 : Int))) = x'.fst ∧ IntKind.i64.wrap (x_1.snd + (1 : Int)) = x'.snd ∧ True) ∧ True) ∧ Φ_1 x' ∧ μ_1 x' < μ_1 x_1) ∧ (decide (x_1.fst <
  (1048576 : Int)) = false → ∃ (x' : Int × Int), ((x_1.fst = x'.fst ∧ IntKind.i64.wrap (x.snd + (1 : Int)) = x'.snd ∧ True) ∧ True) ∧ Φ x' ∧ μ x' < μ x)) ∧ (decide (x_1.snd <
  (↑(a.Files.getD x.snd.toNat default).List.length : Int)) = false → ∃ (x' : Int × Int), ((x_1.fst = x'.fst ∧ IntKind.i64.wrap (x.snd + (1 : Int)) = x'.snd ∧ True) ∧ True) ∧ Φ x' ∧ μ
  x' < μ x)) ∧ (decide (x.fst < (1048576 : Int)) = false → x.fst = r)) ∧ (decide (x.snd < (↑a.Files.length : Int)) = false → x.fst = r)) =
    vcP (cx [(3, lc2 3 4), (7, lc2 3 5)] [] pure io) b_law0_VolWeight [.agg (eVol a)] true (.i .i64 r) [] := by kernel_rfl

theorem vc_law0_VolsWeight (pure : PureT) (io : IoT) (a : List Vol) (r : Int) : (
  ∃ (Φ : Int × Int → Prop), ∃ (μ : Int × Int → Nat), (∃ (x : Int × Int), (((↑a.length : Int) = x.fst ∧ (0 : Int) = x.snd ∧ True) ∧ True) ∧ Φ x) ∧ ∀ (x : Int × Int), Φ x → (decide
  (x.snd < (↑a.length : Int)) = true → (decide (x.fst < (1048576 : Int)) = true → inb x.snd a.length ∧ ∃ (r : Int), pure n_law0_VolWeight [PV.agg [PV.i IntKind.i64 (a.getD
  x.snd.toNat default).ID, PV.i IntKind.i64 (a.getD x.snd.toNat default).From, PV.b (a.getD x.snd.toNat default).Snap, PV.fl false (5 : Nat) File eFile default (a.getD x.snd.toNat
  default).Files, PV.i IntKind.i64 (a.getD x.snd.toNat default).Next]] true (PV.i IntKind.i64 r) [] ∧ ∃ (x' : Int × Int), ((IntKind.i64.wrap (x.fst + r) = x'.fst ∧ IntKind.i64.wrap
  (x.snd + (1 : Int)) = x'.snd ∧ True) ∧ True) ∧ Φ x' ∧ μ x' < μ x) ∧ (decide (x.fst < (1048576 : Int)) = false → x.fst = r)) ∧ (decide (x.snd < (↑a.length : Int)) = false → x.fst =
  r)) =
    vcP (cx [(3, lc2 3 4)] [] pure io) b_law0_VolsWeight [.fl false 5 Vol eVol default a] true (.i .i64 r) [] := by kernel_rfl

theorem vc_law5_Heavy (pure : PureT) (io : IoT) (a : Script) (r : Bool) : (
  ∃ (r_1 : Int), pure n_law0_VolsWeight [PV.fl false (5 : Nat) Vol eVol default a.L] true (PV.i IntKind.i64 r_1) [] ∧ ∃ (Φ : Int × Int → Prop), ∃ (μ : Int × Int → Nat), (∃ (x : Int ×
  Int), ((IntKind.i64.wrap (r_1 + (↑a.A.length : Int)) = x.fst ∧ (0 : Int) = x.snd ∧ True) ∧ True) ∧ Φ x) ∧ ∀ (x : Int × Int), Φ x → (decide (x.snd < (↑a.A.length : Int)) = true →
  (decide (x.fst < (1048576 : Int)) = true → inb x.snd a.A.length ∧ ∃ (r : Int), pure n_law0_VolWeight [PV.agg [PV.i IntKind.i64 (a.A.getD x.snd.toNat default).V.ID, PV.i IntKind.i64
  (a.A.getD x.snd.toNat default).V.From, PV.b (a.A.getD x.snd.toNat default).V.Snap, PV.fl false (5 : Nat) File eFile default (a.A.getD x.snd.toNat default).V.Files, PV.i IntKind.i64
  (a.A.getD x.snd.toNat default).V.Next]] true (PV.i IntKind.i64 r) [] ∧ ∃ (x' : Int × Int), ((IntKind.i64.wrap (x.fst + r) = x'.fst ∧ IntKind.i64.wrap (x.snd + (1 : Int)) = x'.snd ∧
  True) ∧ True) ∧ Φ x' ∧ μ x' < μ x) ∧ (decide (x.fst < (1048576 : Int)) = false → decide (x.fst > (1500 : Int)) = r)) ∧ (decide (x.snd < (↑a.A.length : Int)) = false → decide (x.fst
  > (1500 : Int)) = r)) =
    vcP (cx [(3, lc2 3 4)] [] pure io) b_law5_Heavy [.agg (eScript a)] true (.b r) [] := by kernel_rfl

theorem vc_law5_num (pure : PureT) (io : IoT) (a r : Int) : (
  a = r) =
    vcP (cx [] [] pure io) b_law5_num [.i .i64 a] true (.i .i64 r) [] := by kernel_rfl

theorem vc_ref2_New (pure : PureT) (io : IoT) (i r : Int) : (
  i = r ∧ (0 : Int) = (0 : Int) ∧ PV.ff = PV.ff ∧ PV.fll false (5 : Nat) [[PV.i IntKind.i64 (1 : Int), PV.tt, PV.i IntKind.i64 (0 : Int), PV.nil, PV.nil]] = PV.fll false (5 : Nat)
  [[PV.i IntKind.i64 (1 : Int), PV.tt, PV.i IntKind.i64 (0 : Int), PV.nil, PV.nil]] ∧ (2 : Int) = (2 : Int) ∧ True) =
    vcP (cx [] [] pure io) b_ref2_New [.i .i64 i] false (pNew r) [] := by kernel_rfl

theorem vc_law5_wakes (pure : PureT) (io : IoT) (r : Bool) : (
  ∃ (r_1 : Int), pure n_ref2_New [PV.i IntKind.i64 (1 : Int)] false (PV.agg [PV.i IntKind.i64 r_1, PV.i IntKind.i64 (0 : Int), PV.ff, PV.fll false (5 : Nat) [[PV.i IntKind.i64 (1 :
  Int), PV.tt, PV.i IntKind.i64 (0 : Int), PV.nil, PV.nil]], PV.i IntKind.i64 (2 : Int)]) [] ∧ ∃ (r_2 : List Vol × Int × Int), pure n_vol_Snap [PV.fll false (5 : Nat) [[PV.i
  IntKind.i64 r_1, PV.i IntKind.i64 (0 : Int), PV.ff, PV.fll false (5 : Nat) [[PV.i IntKind.i64 (1 : Int), PV.tt, PV.i IntKind.i64 (0 : Int), PV.nil, PV.nil]], PV.i IntKind.i64 (2 :
  Int)]], PV.i IntKind.i64 (2 : Int), PV.i IntKind.i64 (1 : Int)] false (PV.tup [PV.fl false (5 : Nat) Vol eVol default r_2.fst, PV.i IntKind.i64 r_2.snd.fst, PV.i IntKind.i64
  r_2.snd.snd]) [] ∧ ∃ (r_3 : Int), pure n_law5_num [PV.i IntKind.i64 r_2.snd.snd] true (PV.i IntKind.i64 r_3) [] ∧ (decide (r_3 = (0 : Int)) = true → (decide ((↑r_2.fst.length :
  Int) = (2 : Int)) = true → (decide (r_2.snd.fst = (3 : Int)) = true → inb (1 : Int) r_2.fst.length ∧ ((r_2.fst.getD (Int.toNat (1 : Int)) default).Snap = true → inb (1 : Int)
  r_2.fst.length ∧ decide ((r_2.fst.getD (Int.toNat (1 : Int)) default).From = (1 : Int)) = r) ∧ ((r_2.fst.getD (Int.toNat (1 : Int)) default).Snap = false → r = false)) ∧ (decide
  (r_2.snd.fst = (3 : Int)) = false → r = false)) ∧ (decide ((↑r_2.fst.length : Int) = (2 : Int)) = false → r = false)) ∧ (decide (r_3 = (0 : Int)) = false → r = false)) =
    vcP (cx [] [] pure io) b_law5_wakes [] true (.b r) [] := by kernel_rfl

theorem vc_law5_VolBack (pure : PureT) (io : IoT) (s : Script) : (
  ∃ (r : Bool), pure n_law5_Heavy [PV.agg [PV.fl false (5 : Nat) Vol eVol default s.L, PV.i IntKind.i64 s.Next, PV.fl false (7 : Nat) VAct eAct default s.A]] true (PV.b r) [] ∧ (r =
  true → true = true) ∧ (r = false → ∃ (r : Bool), pure n_ref5_Vols [PV.fl false (5 : Nat) Vol eVol default s.L, PV.i IntKind.i64 s.Next] true (PV.b r) [] ∧ ((!r) = true → true =
  true) ∧ ((!r) = false → ∃ (Φ : Int → Prop), ∃ (μ : Int → Nat), (∃ (x : Int), (((0 : Int) = x ∧ True) ∧ True) ∧ Φ x) ∧ ∀ (x : Int), Φ x → (decide (x < (↑s.L.length : Int)) = true →
  inb x s.L.length ∧ ∃ (r : List Vol × Int × Int), pure n_vol_Snap [PV.fl false (5 : Nat) Vol eVol default s.L, PV.i IntKind.i64 s.Next, PV.i IntKind.i64 (s.L.getD x.toNat
  default).ID] false (PV.tup [PV.fl false (5 : Nat) Vol eVol default r.fst, PV.i IntKind.i64 r.snd.fst, PV.i IntKind.i64 r.snd.snd]) [] ∧ ∃ (r_1 : Int), pure n_law5_num [PV.i
  IntKind.i64 r.snd.snd] true (PV.i IntKind.i64 r_1) [] ∧ ((!decide (r_1 = (0 : Int))) = true → ∃ (x' : Int), ((IntKind.i64.wrap (x + (1 : Int)) = x' ∧ True) ∧ True) ∧ Φ x' ∧ μ x' <
  μ x) ∧ ((!decide (r_1 = (0 : Int))) = false → ∃ (r_2 : Vol × Int), pure n_vol_Get [PV.fl false (5 : Nat) Vol eVol default r.fst, PV.i IntKind.i64 r.snd.fst, PV.i IntKind.i64
  s.Next] false (PV.tup [PV.agg [PV.i IntKind.i64 r_2.fst.ID, PV.i IntKind.i64 r_2.fst.From, PV.b r_2.fst.Snap, PV.fl false (5 : Nat) File eFile default r_2.fst.Files, PV.i
  IntKind.i64 r_2.fst.Next], PV.i IntKind.i64 r_2.snd]) [] ∧ ∃ (r_3 : List Vol × Int), pure n_vol_Back [PV.fl false (5 : Nat) Vol eVol default r.fst, PV.i IntKind.i64 r.snd.fst, PV.i
  IntKind.i64 s.Next] false (PV.tup [PV.fl false (5 : Nat) Vol eVol default r_3.fst, PV.i IntKind.i64 r_3.snd]) [] ∧ inb x s.L.length ∧ ∃ (r_4 : Vol × Int), pure n_vol_Get [PV.fl
  false (5 : Nat) Vol eVol default r_3.fst, PV.i IntKind.i64 r.snd.fst, PV.i IntKind.i64 (s.L.getD x.toNat default).ID] false (PV.tup [PV.agg [PV.i IntKind.i64 r_4.fst.ID, PV.i
  IntKind.i64 r_4.fst.From, PV.b r_4.fst.Snap, PV.fl false (5 : Nat) File eFile default r_4.fst.Files, PV.i IntKind.i64 r_4.fst.Next], PV.i IntKind.i64 r_4.snd]) [] ∧ ∃ (r_5 : Int),
  pure n_law5_num [PV.i IntKind.i64 r_2.snd] true (PV.i IntKind.i64 r_5) [] ∧ ∃ (r_6 : Int), pure n_law5_num [PV.i IntKind.i64 r_3.snd] true (PV.i IntKind.i64 r_6) [] ∧ ∃ (r_7 :
  Int), pure n_law5_num [PV.i IntKind.i64 r_4.snd] true (PV.i IntKind.i64 r_7) [] ∧ ((!decide (IntKind.i64.wrap (IntKind.i64.wrap (r_5 + r_6) + r_7) = (0 : Int))) = true → true =
  false) ∧ ((!decide (IntKind.i64.wrap (IntKind.i64.wrap (r_5 + r_6) + r_7) = (0 : Int))) = false → ((!r_2.fst.Snap) = true → true = false) ∧ ((!r_2.fst.Snap) = false → inb x
  s.L.length ∧ ((!decide (r_2.fst.From = (s.L.getD x.toNat default).ID)) = true → true = false) ∧ ((!decide (r_2.fst.From = (s.L.getD x.toNat default).ID)) = false → inb x s.L.length
  ∧ ∃ (r_8 : Bool), pure n_ref0_EqFiles [PV.fl false (5 : Nat) File eFile default r_2.fst.Files, PV.fl false (5 : Nat) File eFile default (s.L.getD x.toNat default).Files] true (PV.b
  r_8) [] ∧ ((!r_8) = true → true = false) ∧ ((!r_8) = false → inb x s.L.length ∧ ∃ (r_9 : Bool), pure n_ref0_EqVol [PV.agg [PV.i IntKind.i64 r_4.fst.ID, PV.i IntKind.i64
  r_4.fst.From, PV.b r_4.fst.Snap, PV.fl false (5 : Nat) File eFile default r_4.fst.Files, PV.i IntKind.i64 r_4.fst.Next], PV.agg [PV.i IntKind.i64 (s.L.getD x.toNat default).ID,
  PV.i IntKind.i64 (s.L.getD x.toNat default).From, PV.b (s.L.getD x.toNat default).Snap, PV.fl false (5 : Nat) File eFile default (s.L.getD x.toNat default).Files, PV.i IntKind.i64
  (s.L.getD x.toNat default).Next]] true (PV.b r_9) [] ∧ ((!r_9) = true → true = false) ∧ ((!r_9) = false → ∃ (r_10 : Bool), pure n_ref0_EqVols [PV.fl false (5 : Nat) Vol eVol
  default r_3.fst, PV.fl false (5 : Nat) Vol eVol default r.fst] true (PV.b r_10) [] ∧ ((!r_10) = true → true = false) ∧ ((!r_10) = false → ∃ (r_11 : List Vol × Int × Int), pure
  n_vol_Clone [PV.fl false (5 : Nat) Vol eVol default r.fst, PV.i IntKind.i64 r.snd.fst, PV.i IntKind.i64 s.Next] false (PV.tup [PV.fl false (5 : Nat) Vol eVol default r_11.fst, PV.i
  IntKind.i64 r_11.snd.fst, PV.i IntKind.i64 r_11.snd.snd]) [] ∧ ∃ (r_12 : Int), pure n_law5_num [PV.i IntKind.i64 r_11.snd.snd] true (PV.i IntKind.i64 r_12) [] ∧ (decide (r_12 = (0
  : Int)) = true → ∃ (r_13 : Vol × Int), pure n_vol_Get [PV.fl false (5 : Nat) Vol eVol default r_11.fst, PV.i IntKind.i64 r_11.snd.fst, PV.i IntKind.i64 r.snd.fst] false (PV.tup
  [PV.agg [PV.i IntKind.i64 r_13.fst.ID, PV.i IntKind.i64 r_13.fst.From, PV.b r_13.fst.Snap, PV.fl false (5 : Nat) File eFile default r_13.fst.Files, PV.i IntKind.i64 r_13.fst.Next],
  PV.i IntKind.i64 r_13.snd]) [] ∧ ∃ (r_14 : List Vol × Int), pure n_vol_Drop [PV.fl false (5 : Nat) Vol eVol default r_11.fst, PV.i IntKind.i64 r_11.snd.fst, PV.i IntKind.i64
  r.snd.fst] false (PV.tup [PV.fl false (5 : Nat) Vol eVol default r_14.fst, PV.i IntKind.i64 r_14.snd]) [] ∧ ∃ (r_15 : Int), pure n_law5_num [PV.i IntKind.i64 r_13.snd] true (PV.i
  IntKind.i64 r_15) [] ∧ ((!decide (r_15 = (0 : Int))) = true → true = false) ∧ ((!decide (r_15 = (0 : Int))) = false → ∃ (r_16 : Int), pure n_law5_num [PV.i IntKind.i64 r_14.snd]
  true (PV.i IntKind.i64 r_16) [] ∧ ((!decide (r_16 = (0 : Int))) = true → true = false) ∧ ((!decide (r_16 = (0 : Int))) = false → (r_13.fst.Snap = true → true = false) ∧
  (r_13.fst.Snap = false → ((!decide (r_13.fst.From = (0 : Int))) = true → true = false) ∧ ((!decide (r_13.fst.From = (0 : Int))) = false → ∃ (r_17 : Bool), pure n_ref0_EqFiles
  [PV.fl false (5 : Nat) File eFile default r_13.fst.Files, PV.fl false (5 : Nat) File eFile default r_2.fst.Files] true (PV.b r_17) [] ∧ ((!r_17) = true → true = false) ∧ ((!r_17) =
  false → ∃ (r_18 : Bool), pure n_ref0_EqVols [PV.fl false (5 : Nat) Vol eVol default r_14.fst, PV.fl false (5 : Nat) Vol eVol default r.fst] true (PV.b r_18) [] ∧ ((!r_18) = true →
  true = false) ∧ ((!r_18) = false → inb x s.L.length ∧ ∃ (r_19 : List Vol × Int), pure n_vol_Drop [PV.fl false (5 : Nat) Vol eVol default r.fst, PV.i IntKind.i64 r.snd.fst, PV.i
  IntKind.i64 (s.L.getD x.toNat default).ID] false (PV.tup [PV.fl false (5 : Nat) Vol eVol default r_19.fst, PV.i IntKind.i64 r_19.snd]) [] ∧ ∃ (r_20 : List Vol × Int), pure
  n_vol_Drop [PV.fl false (5 : Nat) Vol eVol default r.fst, PV.i IntKind.i64 r.snd.fst, PV.i IntKind.i64 s.Next] false (PV.tup [PV.fl false (5 : Nat) Vol eVol default r_20.fst, PV.i
  IntKind.i64 r_20.snd]) [] ∧ ∃ (r : Int), pure n_law5_num [PV.i IntKind.i64 r_19.snd] true (PV.i IntKind.i64 r) [] ∧ ((!decide (r = (8 : Int))) = true → true = false) ∧ ((!decide (r
  = (8 : Int))) = false → ∃ (r : Int), pure n_law5_num [PV.i IntKind.i64 r_20.snd] true (PV.i IntKind.i64 r) [] ∧ ((!decide (r = (0 : Int))) = true → true = false) ∧ ((!decide (r =
  (0 : Int))) = false → ∃ (r : Bool), pure n_ref0_EqVols [PV.fl false (5 : Nat) Vol eVol default r_20.fst, PV.fl false (5 : Nat) Vol eVol default s.L] true (PV.b r) [] ∧ ((!r) = true
  → true = false) ∧ ((!r) = false → ∃ (x' : Int), ((IntKind.i64.wrap (x + (1 : Int)) = x' ∧ True) ∧ True) ∧ Φ x' ∧ μ x' < μ x)))))))))) ∧ (decide (r_12 = (0 : Int)) = false → inb x
  s.L.length ∧ ∃ (r_13 : List Vol × Int), pure n_vol_Drop [PV.fl false (5 : Nat) Vol eVol default r.fst, PV.i IntKind.i64 r.snd.fst, PV.i IntKind.i64 (s.L.getD x.toNat default).ID]
  false (PV.tup [PV.fl false (5 : Nat) Vol eVol default r_13.fst, PV.i IntKind.i64 r_13.snd]) [] ∧ ∃ (r_14 : List Vol × Int), pure n_vol_Drop [PV.fl false (5 : Nat) Vol eVol default
  r.fst, PV.i IntKind.i64 r.snd.fst, PV.i IntKind.i64 s.Next] false (PV.tup [PV.fl false (5 : Nat) Vol eVol default r_14.fst, PV.i IntKind.i64 r_14.snd]) [] ∧ ∃ (r : Int), pure
  n_law5_num [PV.i IntKind.i64 r_13.snd] true (PV.i IntKind.i64 r) [] ∧ ((!decide (r = (8 : Int))) = true → true = false) ∧ ((!decide (r = (8 : Int))) = false → ∃ (r : Int), pure
  n_law5_num [PV.i IntKind.i64 r_14.snd] true (PV.i IntKind.i64 r) [] ∧ ((!decide (r = (0 : Int))) = true → true = false) ∧ ((!decide (r = (0 : Int))) = false → ∃ (r : Bool), pure
  n_ref0_EqVols [PV.fl false (5 : Nat) Vol eVol default r_14.fst, PV.fl false (5 : Nat) Vol eVol default s.L] true (PV.b r) [] ∧ ((!r) = true → true = false) ∧ ((!r) = false → ∃ (x'
  : Int), ((IntKind.i64.wrap (x + (1 : Int)) = x' ∧ True) ∧ True) ∧ Φ x' ∧ μ x' < μ x)))))))))))) ∧ (decide (x < (↑s.L.length : Int)) = false → ∃ (r : Bool), pure n_law5_wakes []
  true (PV.b r) [] ∧ r = true)))) =
    vcP (cx [(4, lc 3)] [] pure io) b_law5_VolBack [.agg (eScript s)] true (.b true) [] := by kernel_rfl

end Go.Proofs.Ytbiojnaemniljaa

/- Contracts: what a script weighs; the page's new volume; the law's own small example. -/
namespace Go.Proofs.Ytbiojnaemniljaa
open Go Pv
def wL : Int → List Link → Int
  | s, [] => s
  | s, l :: r => if s < 1048576 then wL (IntKind.i64.wrap (s + IntKind.i64.wrap ((l.Name.length : Int).tdiv 4))) r else s
def wF : Int → List File → Int
  | s, [] => s
  | s, f :: r => if s < 1048576 then wF (wL (IntKind.i64.wrap (IntKind.i64.wrap (s + (f.Blocks.length : Int)) + (f.List.length : Int))) f.List) r else s
def wV (v : Vol) : Int := wF v.Files.length v.Files
def wVs : Int → List Vol → Int
  | s, [] => s
  | s, v :: r => if s < 1048576 then wVs (IntKind.i64.wrap (s + wV v)) r else s
def wA : Int → List VAct → Int
  | s, [] => s
  | s, a :: r => if s < 1048576 then wA (IntKind.i64.wrap (s + wV a.V)) r else s
theorem VolWeight_ok (a : Vol) (hs : a.Sz) : Pure prog n_law0_VolWeight [.agg (eVol a)] true (.i .i64 (wV a)) [] := by
  refine mk (l := [(3, lc2 3 4), (7, lc2 3 5)]) (k := []) ⟨lc2_ok _ _, lc2_ok _ _, trivial⟩ trivial (fn := b_law0_VolWeight) (by kernel_rfl) (by kernel_rfl) (by kernel_rfl) rfl outsOK_nil ?_
  rw [← vc_law0_VolWeight]
  refine ⟨ΦS a.Files wF (wV a), μS a.Files, startS rfl, fun x hx => ⟨fun hd => dsplit (fun h1 => ?_) (fun h1 => ?_), fun hd => endS hx hd⟩⟩
  · obtain ⟨i, hi, hlt, hgo⟩ := atS default hx hd
    obtain ⟨s, k⟩ := x
    simp only at hi hgo h1
    subst hi
    simp only [Int.toNat_natCast, wF, if_pos h1] at hgo ⊢
    have hm := (hs.2 _ (getD_mem (d := default) hlt)).2
    obtain ⟨f, hf⟩ : ∃ f, a.Files.getD i default = f := ⟨_, rfl⟩
    simp only [hf] at hgo hm ⊢
    refine ⟨⟨by omega, by omega⟩, ⟨by omega, by omega⟩, ΦS f.List wL (wL (IntKind.i64.wrap (IntKind.i64.wrap (s + (f.Blocks.length : Int)) + (f.List.length : Int))) f.List), μS f.List, startS rfl, fun y hy => ⟨⟨by omega, by omega⟩, fun hd' => dsplit (fun h2 => ?_) (fun h2 => ?_), fun hd' => ?_⟩⟩
    · obtain ⟨j, hj, hlt', hgo'⟩ := atS default hy hd'
      obtain ⟨s', k'⟩ := y
      simp only at hj hgo' h2
      subst hj
      simp only [Int.toNat_natCast, wL, if_pos h2] at hgo' ⊢
      exact ⟨⟨by omega, by omega⟩, ⟨by omega, by omega⟩, by decide, nextS hm hlt' hgo'⟩
    · obtain ⟨j, hj, hlt', hgo'⟩ := atS default hy hd'
      simp only [wL, if_neg h2] at hgo'
      exact nextS hs.1 hlt (by rw [hgo']; exact hgo)
    · have he : y.1 = wL _ f.List := endS hy hd'
      exact nextS hs.1 hlt (by rw [he]; exact hgo)
  · obtain ⟨i, hi, hlt, hgo⟩ := atS default hx hd
    simp only [wF, if_neg h1] at hgo
    exact hgo
theorem VolsWeight_ok (a : List Vol) (hl : a.length ≤ 140737488355328) (hs : ∀ v, v ∈ a → v.Sz) : Pure prog n_law0_VolsWeight [.fl false 5 Vol eVol default a] true (.i .i64 (wVs a.length a)) [] := by
  refine mk (l := [(3, lc2 3 4)]) (k := []) ⟨lc2_ok _ _, trivial⟩ trivial (fn := b_law0_VolsWeight) (by kernel_rfl) (by kernel_rfl) (by kernel_rfl) rfl outsOK_nil ?_
  rw [← vc_law0_VolsWeight]
  refine ⟨ΦS a wVs (wVs a.length a), μS a, startS rfl, fun x hx => ⟨fun hd => dsplit (fun h1 => ?_) (fun h1 => ?_), fun hd => endS hx hd⟩⟩
  · obtain ⟨i, hi, hlt, hgo⟩ := atS default hx hd
    obtain ⟨s, k⟩ := x
    simp only at hi hgo h1
    subst hi
    simp only [Int.toNat_natCast, wVs, if_pos h1] at hgo ⊢
    exact ⟨⟨by omega, by omega⟩, _, VolWeight_ok _ (hs _ (getD_mem hlt)), nextS hl hlt hgo⟩
  · obtain ⟨i, hi, hlt, hgo⟩ := atS default hx hd
    simp only [wVs, if_neg h1] at hgo
    exact hgo
def heavyB (a : Script) : Bool := decide (wA (IntKind.i64.wrap (wVs a.L.length a.L + (a.A.length : Int))) a.A > 1500)
theorem Heavy_ok (a : Script) (hl : a.L.length ≤ 140737488355328) (hs : ∀ v, v ∈ a.L → v.Sz) (hA : a.A.length ≤ 140737488355328) (hsA : ∀ v, v ∈ a.A → v.V.Sz) : Pure prog n_law5_Heavy [.agg (eScript a)] true (.b (heavyB a)) [] := by
  refine mk (l := [(3, lc2 3 4)]) (k := []) ⟨lc2_ok _ _, trivial⟩ trivial (fn := b_law5_Heavy) (by kernel_rfl) (by kernel_rfl) (by kernel_rfl) rfl outsOK_nil ?_
  rw [← vc_law5_Heavy]
  unfold heavyB
  obtain ⟨t, ht⟩ : ∃ t, wA (IntKind.i64.wrap (wVs a.L.length a.L + (a.A.length : Int))) a.A = t := ⟨_, rfl⟩
  rw [ht]
  refine ⟨_, VolsWeight_ok a.L hl hs, ΦS a.A wA t, μS a.A, startS ht, fun x hx => ⟨fun hd => dsplit (fun h1 => ?_) (fun h1 => ?_), fun hd => ?_⟩⟩
  · obtain ⟨i, hi, hlt, hgo⟩ := atS default hx hd
    obtain ⟨s, k⟩ := x
    simp only at hi hgo h1
    subst hi
    simp only [Int.toNat_natCast, wA, if_pos h1] at hgo ⊢
    exact ⟨⟨by omega, by omega⟩, _, VolWeight_ok _ (hsA _ (getD_mem hlt)), nextS hA hlt hgo⟩
  · obtain ⟨i, hi, hlt, hgo⟩ := atS default hx hd
    simp only [wA, if_neg h1] at hgo
    rw [hgo]
  · have he : x.1 = t := endS hx hd
    rw [he]
theorem num_ok (a : Int) : Pure prog n_law5_num [.i .i64 a] true (.i .i64 a) [] := by
  refine mk (l := []) (k := []) trivial trivial (fn := b_law5_num) (by kernel_rfl) (by kernel_rfl) (by kernel_rfl) rfl outsOK_nil ?_
  rw [← vc_law5_num]
theorem New_ok (i : Int) : Pure prog n_ref2_New [.i .i64 i] false (pNew i) [] := by
  refine mk (l := []) (k := []) trivial trivial (fn := b_ref2_New) (by kernel_rfl) (by kernel_rfl) (by kernel_rfl) rfl outsOK_nil ?_
  rw [← vc_ref2_New]
  exact ⟨rfl, rfl, rfl, rfl, rfl, trivial⟩
/-- one argument stands for another one -/
theorem Pure.arg {P : Program} {f : FuncId} {p q : PV} {l : List PV} {r : PV} {fr : Bool} {o : List (Nat × Pv.Obj)} (hpq : ∀ w E n v, R1 w E n false p v → R1 w E n false q v) (h : Pure P f (q :: l) fr r o) : Pure P f (p :: l) fr r o := fun w E vs hF hsz hv hIn =>
  h w E vs hF hsz (fun k hk => match k, hk, hv k hk with
    | 0, _, h => hpq _ _ _ _ h
    | _ + 1, _, h => h) hIn
/-- a literal row is a row -/
theorem fll_fl {w : World} {G : Nat → Prop} {z : Nat} {els : List (List PV)} {α : Type} {e : α → List PV} {d : α} {xs : List α} {v : Value} (hl : els.length = xs.length) (he : ∀ x, llen (e x) = z)
    (hc : ∀ j k, j < xs.length → k < z → ∀ u, Fz w G (nth .bad (els.getD j []) k) u → Fz w G (nth .bad (e (xs.getD j d)) k) u) (h : Fz w G (.fll false z els) v) : Fz w G (.fl false z α e d xs) v := by
  cases h with
  | fll _ _ _ A cc b off val hc' he' hm hA hv hr =>
    rw [hl] at *
    exact .fl false z α e d xs A cc b off val hc' (fun _ => he) hm hA hv (fun j k hj hk => hc j k hj hk _ (hr j k (by omega) hk))
def file1 : File := ⟨1, true, 0, [], []⟩
def new1 : Vol := ⟨1, 0, false, [file1], 2⟩
theorem file1_fl {w : World} {G : Nat → Prop} {v : Value} (h : Fz w G (.fll false 5 [[.i .i64 1, .tt, .i .i64 0, .nil, .nil]]) v) : Fz w G (.fl false 5 File eFile default [file1]) v := by
  refine fll_fl rfl (fun _ => rfl) (fun j k hj hk u hu => ?_) h
  have hj : j = 0 := by simp at hj; exact hj
  subst hj
  rcases (by omega : k = 0 ∨ k = 1 ∨ k = 2 ∨ k = 3 ∨ k = 4) with rfl | rfl | rfl | rfl | rfl
  · exact hu
  · exact hu.conv1 (q := .b true) rfl
  · exact hu
  · exact hu.conv1 (q := .fl false 1 Int eI 0 []) rfl
  · exact hu.conv1 (q := .fl false 2 Link eLink default []) rfl
theorem new1_fl {w : World} {G : Nat → Prop} {v : Value} (h : Fz w G (.fll false 5 [[.i .i64 1, .i .i64 0, .ff, .fll false 5 [[.i .i64 1, .tt, .i .i64 0, .nil, .nil]], .i .i64 2]]) v) : Fz w G (.fl false 5 Vol eVol default [new1]) v := by
  refine fll_fl rfl (fun _ => rfl) (fun j k hj hk u hu => ?_) h
  have hj : j = 0 := by simp at hj; exact hj
  subst hj
  rcases (by omega : k = 0 ∨ k = 1 ∨ k = 2 ∨ k = 3 ∨ k = 4) with rfl | rfl | rfl | rfl | rfl
  · exact hu
  · exact hu
  · exact hu.conv1 (q := .b false) rfl
  · exact file1_fl hu
  · exact hu
theorem vs_new1 : VS [new1] := by
  refine ⟨by decide, fun v hv => ?_⟩
  rcases List.mem_singleton.1 hv with rfl
  refine ⟨⟨by decide, fun f hf => ?_⟩, by decide, fun f hf => ?_⟩ <;> rcases List.mem_singleton.1 hf with rfl
  · exact ⟨⟨by decide, by decide⟩, fun l hl => by cases hl⟩
  · exact ⟨by decide, by decide⟩
theorem wakes_ok : Pure prog n_law5_wakes [] true (.b true) [] := by
  refine mk (l := []) (k := []) trivial trivial (fn := b_law5_wakes) (by kernel_rfl) (by kernel_rfl) (by kernel_rfl) rfl outsOK_nil ?_
  rw [← vc_law5_wakes]
  have h1 := Snap_ok [new1] 2 1 vs_new1 ⟨by decide, by decide⟩
  have e : copP [new1] 2 1 true = ([new1, ⟨2, 1, true, [file1], 2⟩], 3, 0) := by kernel_rfl
  rw [e] at h1
  refine ⟨1, New_ok 1, ([new1, ⟨2, 1, true, [file1], 2⟩], 3, 0), Pure.arg (fun w E n v h => ?_) h1, 0, num_ok 0, ?_⟩
  · simp only [R1, R0] at h ⊢
    exact new1_fl h
  · refine ⟨fun _ => ⟨fun _ => ⟨fun _ => ⟨⟨by decide, by decide⟩, fun _ => ⟨⟨by decide, by decide⟩, rfl⟩, fun h => by cases h⟩, fun h => by cases h⟩, fun h => by cases h⟩, fun h => by cases h⟩
end Go.Proofs.Ytbiojnaemniljaa

/- The plain law of volumes: what may be, may be behind each way. No program. -/
namespace Go.Proofs.Ytbiojnaemniljaa
open Go Pv
/-! ### a volume's number, where it came from: all else is the same -/
theorem deepP_congr {v u : Vol} (h : u.Files = v.Files) : ∀ (n : Nat) (i : Int) (m : Seen), deepP u n i m = deepP v n i m := by
  intro n
  induction n with
  | zero => intro i m; rfl
  | succ n ih =>
    intro i m
    have hk : kids u i = kids v i := by unfold kids; rw [h]
    have hf : deepP u n = deepP v n := by funext i m; exact ih i m
    simp only [deepP, hk, hf]
theorem namedB_congr {v u : Vol} (h : u.Files = v.Files) : namedB u = namedB v := by
  have hi : namedI u = namedI v := by funext i; unfold namedI; rw [h]
  unfold namedB
  rw [hi, deepP_congr h, h]
theorem filesB_congr {v u : Vol} (h : u.Files = v.Files) (hn : u.Next = v.Next) : filesB u = filesB v := by
  have h1 : fileB u = fileB v := by funext i; unfold fileB; rw [h, hn]
  have h2 : linkB u = linkB v := by funext l i; unfold linkB; rw [h]
  have h3 : dirB u = dirB v := by funext i; unfold dirB linksB; rw [h, h2]
  unfold filesB
  rw [h1, h3, h]
theorem mayT_copy {v u : Vol} (hv : mayT v = true) (h : u.Files = v.Files) (hn : u.Next = v.Next) (h1 : numB u.ID = true) (h2 : numB u.From = true) (h3 : u.Snap = true ∨ u.From = 0) : mayT u = true := by
  unfold mayT at hv ⊢
  rw [filesB_congr h hn, namedB_congr h, h, hn, h1, h2]
  simp only [Bool.and_eq_true] at hv
  have h3' : (u.Snap || decide (u.From = 0)) = true := by
    rcases h3 with h | h
    · rw [h]; rfl
    · rw [decide_eq_true h, Bool.or_true]
  rw [h3']
  simp only [Bool.true_and, Bool.and_eq_true]
  exact ⟨hv.2.2.1, hv.2.2.2.2⟩
theorem mayT_nums {v : Vol} (hv : mayT v = true) : numB v.ID = true ∧ numB v.From = true := by
  unfold mayT at hv
  simp only [Bool.and_eq_true] at hv
  exact ⟨hv.1, hv.2.1⟩
theorem numB_iff {a : Int} : numB a = true ↔ 0 ≤ a ∧ a ≤ 1073741824 := by unfold numB; rw [decide_eq_true_iff]
/-! ### volumes that may be -/
structure MayV (l : List Vol) (n : Int) : Prop where
  len : l.length ≤ 4
  n1 : 1 ≤ n
  n2 : n ≤ 1073741824
  vol : ∀ j, j < l.length → mayT (l.getD j default) = true ∧ 1 ≤ (l.getD j default).ID ∧ (l.getD j default).ID < n
  rise : ∀ p q, p < q → q < l.length → (l.getD p default).ID < (l.getD q default).ID
  fr : ∀ j, j < l.length → (l.getD j default).Snap = true → ∃ t, t < l.length ∧ (l.getD t default).ID = (l.getD j default).From ∧ (l.getD t default).Snap = false
theorem seekV_at {l : List Vol} {n : Int} (hn : n ≤ 1073741824) (hv : ∀ j, j < l.length → 1 ≤ (l.getD j default).ID ∧ (l.getD j default).ID < n) (hr : ∀ p q, p < q → q < l.length → (l.getD p default).ID < (l.getD q default).ID) {t : Nat} (ht : t < l.length) :
    seekV l (l.getD t default).ID = t ∧ seekVb l (l.getD t default).ID = true := by
  have hs : seekV l (l.getD t default).ID = t := by
    unfold seekV
    refine halve_at ht ?_ (fun p hp => ?_) (fun p hp hp' => ?_)
    · rw [Int.sub_self]; rfl
    · have h1 := hr p t hp ht
      have h2 := hv t ht; have h3 := hv p (by omega)
      rw [wrap64 (by omega) (by omega)]; omega
    · have h1 := hr t p hp hp'
      have h2 := hv t ht; have h3 := hv p hp'
      rw [wrap64 (by omega) (by omega)]; omega
  refine ⟨hs, ?_⟩
  unfold seekVb
  rw [hs, Int.sub_self]
  simp [ht]; rfl
theorem MayV.at {l : List Vol} {n : Int} (h : MayV l n) {t : Nat} (ht : t < l.length) : seekV l (l.getD t default).ID = t ∧ seekVb l (l.getD t default).ID = true :=
  seekV_at h.n2 (fun j hj => (h.vol j hj).2) h.rise ht
theorem mayV_iff {l : List Vol} {n : Int} : mayV l n = true ↔ MayV l n := by
  constructor
  · intro h
    unfold mayV at h
    simp only [Bool.and_eq_true, allI_iff] at h
    obtain ⟨h1, h2, h3, h4, h5⟩ := h
    have h1 := of_decide_eq_true h1
    have h2 := of_decide_eq_true h2
    have h3 := of_decide_eq_true h3
    have hv : ∀ j, j < l.length → mayT (l.getD j default) = true ∧ 1 ≤ (l.getD j default).ID ∧ (l.getD j default).ID < n := by
      intro j hj
      have := h4 j hj
      unfold volB at this
      simp only [Bool.and_eq_true] at this
      exact ⟨this.1, of_decide_eq_true this.2.1, of_decide_eq_true this.2.2.1⟩
    have hr : ∀ q p, p < q → q < l.length → (l.getD p default).ID < (l.getD q default).ID := by
      intro q
      induction q with
      | zero => intro p hp; omega
      | succ q ih =>
        intro p hp hq
        have := h4 (q + 1) hq
        unfold volB at this
        simp only [Bool.and_eq_true, Nat.add_sub_cancel] at this
        have h6 : (l.getD q default).ID < (l.getD (q + 1) default).ID := by
          have := this.2.2.2
          simpa using this
        rcases (by omega : p = q ∨ p < q) with rfl | hpq
        · exact h6
        · have := ih p hpq (by omega); omega
    refine ⟨h1, h2, h3, hv, fun p q => hr q p, fun j hj hS => ?_⟩
    have := h5 j hj
    unfold fromB at this
    rw [hS] at this
    simp only [Bool.not_true, Bool.false_or, Bool.and_eq_true] at this
    obtain ⟨g1, g2⟩ := this
    have hlt := seek_lt g1
    refine ⟨seekV l (l.getD j default).From, hlt, ?_, by simpa using g2⟩
    unfold seekVb at g1
    rw [Bool.and_eq_true] at g1
    have g3 := of_decide_eq_true g1.2
    have a1 := (hv _ hlt).2
    have a2 := numB_iff.1 (mayT_nums (hv j hj).1).2
    rw [wrap64 (by omega) (by omega)] at g3
    omega
  · intro h
    unfold mayV
    simp only [Bool.and_eq_true, allI_iff]
    refine ⟨decide_eq_true h.len, decide_eq_true h.n1, decide_eq_true h.n2, fun j hj => ?_, fun j hj => ?_⟩
    · have := h.vol j hj
      unfold volB
      simp only [Bool.and_eq_true]
      refine ⟨this.1, decide_eq_true this.2.1, decide_eq_true this.2.2, ?_⟩
      rcases Nat.eq_zero_or_pos j with rfl | hp
      · rfl
      · rw [Bool.or_eq_true]
        exact .inr (decide_eq_true (h.rise (j - 1) j (by omega) hj))
    · unfold fromB
      cases hS : (l.getD j default).Snap with
      | false => rfl
      | true =>
        obtain ⟨t, ht, h1, h2⟩ := h.fr j hj hS
        obtain ⟨a1, a2⟩ := h.at ht
        rw [← h1, a1, a2, h2]; rfl
theorem getD_left {l : List Vol} {x : Vol} {j : Nat} (h : j < l.length) : (l ++ [x]).getD j default = l.getD j default := by
  simp [List.getD, List.getElem?_append_left h]
theorem getD_last {l : List Vol} {x : Vol} : (l ++ [x]).getD l.length default = x := by
  simp [List.getD]
/-- one behind all others -/
theorem MayV.snoc {l : List Vol} {n : Int} (h : MayV l n) {x : Vol} (hl : l.length < 4) (hn : n < 1073741824) (hx : mayT x = true) (hi : x.ID = n) (hf : x.Snap = true → ∃ t, t < l.length ∧ (l.getD t default).ID = x.From ∧ (l.getD t default).Snap = false) : MayV (l ++ [x]) (n + 1) := by
  have hlen : (l ++ [x]).length = l.length + 1 := by simp
  have n1 := h.n1
  refine ⟨by omega, by omega, by omega, fun j hj => ?_, fun p q hp hq => ?_, fun j hj hS => ?_⟩
  · rcases (by omega : j < l.length ∨ j = l.length) with hj | rfl
    · rw [getD_left hj]
      have := h.vol j hj
      exact ⟨this.1, this.2.1, by omega⟩
    · rw [getD_last]; exact ⟨hx, by omega, by omega⟩
  · rcases (by omega : q < l.length ∨ q = l.length) with hq | rfl
    · rw [getD_left hq, getD_left (by omega)]; exact h.rise p q hp hq
    · rw [getD_last, getD_left hp, hi]; exact (h.vol p hp).2.2
  · rcases (by omega : j < l.length ∨ j = l.length) with hj | rfl
    · rw [getD_left hj] at hS ⊢
      obtain ⟨t, ht, g1, g2⟩ := h.fr j hj hS
      exact ⟨t, by omega, by rw [getD_left ht]; exact g1, by rw [getD_left ht]; exact g2⟩
    · rw [getD_last] at hS ⊢
      obtain ⟨t, ht, g1, g2⟩ := hf hS
      exact ⟨t, by omega, by rw [getD_left ht]; exact g1, by rw [getD_left ht]; exact g2⟩
theorem ifFound_at {α : Type} {l : List Vol} {n : Int} {bad : Int → α} {f : Nat → α} (h : MayV l n) {t : Nat} (ht : t < l.length) {i : Int} (hi : (l.getD t default).ID = i) : ifFound l n i bad f = f t := by
  obtain ⟨a1, a2⟩ := h.at ht
  rw [hi] at a1 a2
  unfold ifFound
  rw [mayV_iff.2 h, a1, a2]
/-- no snapshot is of a volume behind all others -/
theorem no_drop {l : List Vol} {n i : Int} (h : MayV l n) (hi : ∀ j, j < l.length → (l.getD j default).Snap = false → (l.getD j default).ID ≠ i) : l.any (dropB i) = false := by
  rw [List.any_eq_false]
  intro x hx
  obtain ⟨j, hj, rfl⟩ := List.getElem_of_mem hx
  have hg : l.getD j default = l[j] := by simp [List.getD, hj]
  unfold dropB
  cases hS : (l[j]).Snap with
  | false => simp
  | true =>
    obtain ⟨t, ht, g1, g2⟩ := h.fr j hj (by rw [hg]; exact hS)
    have := hi t ht g2
    rw [g1, hg] at this
    simp [this]
theorem keep_all {l : List Vol} {n f i : Int} (h : MayV l n) (hi : n ≤ i + 1) : l.filter (keepB f i) = l := by
  rw [List.filter_eq_self]
  intro x hx
  obtain ⟨j, hj, rfl⟩ := List.getElem_of_mem hx
  have hg : l.getD j default = l[j] := by simp [List.getD, hj]
  have := (h.vol j hj).2.2
  rw [hg] at this
  unfold keepB backB
  simp [show ¬ (l[j]).ID > i by omega]
theorem erase_last {l : List Vol} {x : Vol} : (l ++ [x]).eraseIdx l.length = l := by simp [List.eraseIdx_append_of_length_le]
end Go.Proofs.Ytbiojnaemniljaa

/- Contracts: the page's marks. -/
namespace Go.Proofs.Ytbiojnaemniljaa
open Go Pv
/-- the place of a file's number, by the page; its links -/
def atR (v : Vol) (i : Int) : Int := place (fun f : File => decide (f.ID = i)) v.Files
def kidsR (v : Vol) (i : Int) : List Link := (v.Files.getD (atR v i).toNat default).List
def foldM (f : Int → List Bool → List Bool) : List Link → List Bool → List Bool
  | [], m => m
  | l :: r, m => foldM f r (f l.ID m)
def marksP (v : Vol) : Nat → Int → List Bool → List Bool
  | 0, _, m => m
  | n + 1, i, m => if m.getD (atR v i).toNat false then m else foldM (marksP v n) (kidsR v i) (m.set (atR v i).toNat true)
/-- links lead to files, by the page -/
def WR (v : Vol) : Prop := v.Sz ∧ ∀ f, f ∈ v.Files → ∀ l, l ∈ f.List → 0 ≤ atR v l.ID
/-- how many are not marked yet -/
def open_ (m : List Bool) : Nat := (m.filter fun b => !b).length
theorem foldM_inv {P : List Bool → Prop} {f : Int → List Bool → List Bool} : ∀ (l : List Link) (m : List Bool), (∀ x, x ∈ l → ∀ m, P m → P (f x.ID m)) → P m → P (foldM f l m)
  | [], _, _, h => h
  | x :: l, m, hf, h => foldM_inv l _ (fun y hy => hf y (List.mem_cons_of_mem _ hy)) (hf x (List.mem_cons_self ..) m h)
theorem open_set {m : List Bool} : ∀ {k : Nat}, m.getD k false = false → k < m.length → open_ (m.set k true) + 1 = open_ m := by
  induction m with
  | nil => intro k _ h; simp at h
  | cons b m ih =>
    intro k h hk
    cases k with
    | zero => simp at h; subst h; simp [open_]
    | succ k =>
      have := ih (k := k) (by simpa using h) (by simpa using hk)
      cases b <;> simp [open_] at this ⊢ <;> omega
theorem WR.kids {v : Vol} (h : WR v) {i : Int} (hi : 0 ≤ atR v i) : (atR v i).toNat < v.Files.length ∧ atR v i < v.Files.length ∧ ∀ l, l ∈ kidsR v i → 0 ≤ atR v l.ID := by
  have := (place_ge (fun f : File => decide (f.ID = i)) v.Files).2
  have hlt : (atR v i).toNat < v.Files.length := by unfold atR at hi ⊢; omega
  exact ⟨hlt, this, h.2 _ (getD_mem hlt)⟩
theorem marks_inv {v : Vol} (h : WR v) : ∀ (n : Nat) (i : Int) (m : List Bool), 0 ≤ atR v i → m.length = v.Files.length → (marksP v n i m).length = m.length ∧ open_ (marksP v n i m) ≤ open_ m := by
  intro n
  induction n with
  | zero => intro i m _ _; exact ⟨rfl, Nat.le_refl _⟩
  | succ n ih =>
    intro i m hi hm
    obtain ⟨h1, h2, h3⟩ := h.kids hi
    simp only [marksP]
    by_cases hb : m.getD (atR v i).toNat false = true
    · rw [if_pos hb]; exact ⟨rfl, Nat.le_refl _⟩
    · rw [if_neg hb]
      have hs := open_set (m := m) (k := (atR v i).toNat) (by cases h : m.getD (atR v i).toNat false with
        | true => exact absurd h hb
        | false => rfl) (by omega)
      have := foldM_inv (P := fun m' => m'.length = m.length ∧ open_ m' ≤ open_ m) (f := marksP v n) (kidsR v i) (m.set (atR v i).toNat true) (fun x hx m' ⟨g1, g2⟩ => by
        obtain ⟨k1, k2⟩ := ih x.ID m' (h3 x hx) (by omega)
        exact ⟨by omega, by omega⟩) ⟨by simp, by omega⟩
      exact this
theorem marks_step {v : Vol} (h : WR v) (n : Nat) (ih : n ≠ 0 → ∀ (i : Int) (m : List Bool), 0 ≤ atR v i → m.length = v.Files.length → open_ m + 1 ≤ n →
      PureIO prog n_ref2_marks [.agg (eVol v), .i .i64 i, .sl (.s 100000)] [(100000, .row false 1 Bool eBools false m)] true (.tup []) [(100000, .row false 1 Bool eBools false (marksP v n i m))])
    (i : Int) (m : List Bool) (hi : 0 ≤ atR v i) (hm : m.length = v.Files.length) (ho : open_ m ≤ n) :
    PureIO prog n_ref2_marks [.agg (eVol v), .i .i64 i, .sl (.s 100000)] [(100000, .row false 1 Bool eBools false m)] true (.tup []) [(100000, .row false 1 Bool eBools false (marksP v (n + 1) i m))] := by
  obtain ⟨k1, k2, k3⟩ := h.kids hi
  refine mkIO (l := [(5, lMarks 7 100000)]) (k := []) ⟨lMarks_ok _ _, trivial⟩ trivial (fn := b_ref2_marks) (by kernel_rfl) (by kernel_rfl) (by kernel_rfl) rfl (outs_row (k := kdBool) kdBool_ok) insOK1 ?_
  rw [← vc_ref2_marks]
  refine ⟨atR v i, AtFile_ok v i h.1.1, ⟨hi, by omega⟩, by omega, fun hb => ⟨trivial, ⟨fun _ => rfl, ?_⟩, trivial⟩, fun hb => ⟨⟨hi, by omega⟩, by omega, true, ⟨rfl, trivial⟩, ?_⟩⟩
  · simp only [marksP, hb, if_true]
  have hs := open_set (m := m) (k := (atR v i).toNat) hb (by omega)
  obtain ⟨K, hKK⟩ : ∃ K, kidsR v i = K := ⟨_, rfl⟩
  have hK : (v.Files.getD (atR v i).toNat default).List = K := hKK
  obtain ⟨R, hRR⟩ : ∃ R, marksP v (n + 1) i m = R := ⟨_, rfl⟩
  have hR : R = foldM (marksP v n) K (m.set (atR v i).toNat true) := by rw [← hKK, ← hRR]; simp only [marksP, hb, Bool.false_eq_true, if_false]
  simp only [hK, hRR]
  rw [hKK] at k3
  have hKl : K.length ≤ 140737488355328 := by rw [← hK]; exact (h.1.2 _ (getD_mem k1)).2
  refine ⟨fun x => 0 ≤ x.1 ∧ x.1 ≤ K.length ∧ foldM (marksP v n) (K.drop x.1.toNat) x.2 = R ∧ x.2.length = v.Files.length ∧ open_ x.2 + 1 ≤ n, fun x => (K.length - x.1).toNat, ⟨(0, m.set (atR v i).toNat true), ⟨⟨rfl, trivial⟩, rfl, trivial⟩, Int.le_refl _, by simp, hR.symm, by simpa using hm, by simp only; omega⟩, ?_⟩
  rintro ⟨x, s⟩ ⟨g1, g2, g3, g4, g5⟩
  simp only at g1 g2 g3 g4 g5 ⊢
  refine ⟨⟨hi, k2⟩, dsplit (fun hlt => ?_) (fun hge => ?_)⟩
  · obtain ⟨j, rfl⟩ := Int.eq_ofNat_of_zero_le g1
    have hlt : j < K.length := by omega
    simp only [Int.toNat_natCast] at g3 ⊢
    have hkid := k3 _ (getD_mem (d := default) hlt)
    rw [drop_getD (d := default) hlt] at g3
    have hin := marks_inv h n (K.getD j default).ID s hkid g4
    refine ⟨⟨hi, k2⟩, ⟨by omega, by omega⟩, ⟨marksP v n (K.getD j default).ID s, ih (by omega) _ _ hkid g4 g5, ((j : Int) + 1, marksP v n (K.getD j default).ID s), ⟨⟨wrap64 (by omega) (by omega), trivial⟩, rfl, trivial⟩, ⟨by simp only; omega, by simp only; omega, ?_, by simp only; omega, by simp only; omega⟩, by simp only; omega⟩, trivial⟩
    simp only; rw [show ((j : Int) + 1).toNat = j + 1 by omega]; exact g3
  · rw [List.drop_eq_nil_of_le (by omega)] at g3
    simp only [foldM] at g3
    rw [← g3]; exact ⟨trivial, ⟨fun _ => trivial, rfl⟩, trivial⟩
theorem marks_ok {v : Vol} (h : WR v) : ∀ (n : Nat) (i : Int) (m : List Bool), 0 ≤ atR v i → m.length = v.Files.length → open_ m ≤ n →
    PureIO prog n_ref2_marks [.agg (eVol v), .i .i64 i, .sl (.s 100000)] [(100000, .row false 1 Bool eBools false m)] true (.tup []) [(100000, .row false 1 Bool eBools false (marksP v (n + 1) i m))] := by
  intro n
  induction n with
  | zero => exact marks_step h 0 (fun hne => absurd rfl hne)
  | succ n ih => exact marks_step h (n + 1) (fun _ i m hi hm ho => ih i m hi hm (by omega))
/-! ### how deep -/
def foldD (f : Int → Int) : List Link → Int → Int
  | [], s => s
  | l :: r, s => foldD f r (max s (IntKind.i64.wrap (1 + f l.ID)))
def depthP (v : Vol) : Nat → Int → Int
  | 0, _ => 0
  | n + 1, i => match n with
    | 0 => if (kidsR v i).length = 0 then 0 else 6
    | k + 1 => foldD (depthP v (k + 1)) (kidsR v i) 0
theorem Deep_step {v : Vol} (h : WR v) (n : Nat) (hn : n ≤ 1000) (ih : n ≠ 0 → ∀ i : Int, 0 ≤ atR v i → Pure prog n_ref2_Deep [.agg (eVol v), .i .i64 i, .i .i64 ((n : Int) - 1)] true (.i .i64 (depthP v n i)) [])
    (i : Int) (hi : 0 ≤ atR v i) : Pure prog n_ref2_Deep [.agg (eVol v), .i .i64 i, .i .i64 n] true (.i .i64 (depthP v (n + 1) i)) [] := by
  obtain ⟨k1, k2, k3⟩ := h.kids hi
  refine mk (l := [(4, lc2 7 9)]) (k := []) ⟨lc2_ok _ _, trivial⟩ trivial (fn := b_ref2_Deep) (by kernel_rfl) (by kernel_rfl) (by kernel_rfl) rfl outsOK_nil ?_
  rw [← vc_ref2_Deep]
  have hat := AtFile_ok v i h.1.1
  have hin : inb (atR v i) v.Files.length := ⟨hi, k2⟩
  have key : vc_ref2_Deep_c v n (depthP v (n + 1) i) (atR v i) (Pv.Pure prog) := by
    unfold vc_ref2_Deep_c
    obtain ⟨K, hKK⟩ : ∃ K, kidsR v i = K := ⟨_, rfl⟩
    have hK : (v.Files.getD (atR v i).toNat default).List = K := hKK
    obtain ⟨R, hRR⟩ : ∃ R, depthP v (n + 1) i = R := ⟨_, rfl⟩
    simp only [hK, hRR]
    rw [hKK] at k3
    have hKl : K.length ≤ 140737488355328 := by rw [← hK]; exact (h.1.2 _ (getD_mem k1)).2
    have hR0 : n = 0 → R = if K.length = 0 then 0 else 6 := by intro e; subst e; rw [← hRR, ← hKK]; rfl
    have hR1 : n ≠ 0 → R = foldD (depthP v n) K 0 := by
      intro e
      obtain ⟨k, rfl⟩ : ∃ k, n = k + 1 := ⟨n - 1, by omega⟩
      rw [← hRR, ← hKK]; rfl
    refine ⟨fun x => 0 ≤ x.2 ∧ x.2 ≤ K.length ∧ (n = 0 → x.1 = 0 ∧ x.2 = 0) ∧ (n ≠ 0 → foldD (depthP v n) (K.drop x.2.toNat) x.1 = R), fun x => (K.length - x.2).toNat, ⟨(0, 0), ⟨⟨rfl, rfl, trivial⟩, trivial⟩, Int.le_refl _, by simp, fun _ => ⟨rfl, rfl⟩, fun e => (hR1 e).symm⟩, ?_⟩
    rintro ⟨s, x⟩ ⟨g1, g2, g3, g4⟩
    simp only at g1 g2 g3 g4 ⊢
    refine dsplit (fun hlt => dsplit (fun h0 => ?_) (fun h0 => ?_)) (fun hge => ?_)
    · rw [hR0 (by omega), if_neg (by omega)]
    · have hne : n ≠ 0 := by omega
      obtain ⟨j, rfl⟩ := Int.eq_ofNat_of_zero_le g1
      have hlt : j < K.length := by omega
      have g4 := g4 hne
      simp only [Int.toNat_natCast] at g4 ⊢
      have hkid := k3 _ (getD_mem (d := default) hlt)
      rw [drop_getD (d := default) hlt] at g4
      rw [wrap64 (x := (n : Int) - 1) (by omega) (by omega)]
      refine ⟨⟨by omega, by omega⟩, _, ih hne _ hkid, (max s (IntKind.i64.wrap (1 + depthP v n (K.getD j default).ID)), (j : Int) + 1), ⟨⟨rfl, wrap64 (by omega) (by omega), trivial⟩, trivial⟩, ⟨by simp only; omega, by simp only; omega, fun e => absurd e hne, fun _ => ?_⟩, by simp only; omega⟩
      simp only; rw [show ((j : Int) + 1).toNat = j + 1 by omega]; exact g4
    · by_cases hne : n = 0
      · obtain ⟨e1, e2⟩ := g3 hne
        rw [hR0 hne, if_pos (by omega), e1]
      · have g4 := g4 hne
        rw [List.drop_eq_nil_of_le (by omega)] at g4
        exact g4
  repeat' first
    | exact trivial
    | exact hin
    | exact key
    | exact ⟨_, hat, ?_⟩
    | refine ⟨atR v i, hat, ?_⟩
    | constructor
theorem Deep_ok {v : Vol} (h : WR v) : ∀ (n : Nat) (i : Int), n ≤ 1000 → 0 ≤ atR v i → Pure prog n_ref2_Deep [.agg (eVol v), .i .i64 i, .i .i64 n] true (.i .i64 (depthP v (n + 1) i)) [] := by
  intro n
  induction n with
  | zero => exact fun i hn hi => Deep_step h 0 hn (fun hne => absurd rfl hne) i hi
  | succ n ih =>
    intro i hn hi
    refine Deep_step h (n + 1) hn (fun _ i hi => ?_) i hi
    have := ih i (by omega) hi
    rw [show ((n + 1 : Nat) : Int) - 1 = (n : Int) by omega]; exact this
end Go.Proofs.Ytbiojnaemniljaa

/- Contracts: may a volume be, by the page; may volumes? -/
namespace Go.Proofs.Ytbiojnaemniljaa
open Go Pv
def refRiseB (v : Vol) (i : Nat) : Bool :=
  decide ((v.Files.getD i default).ID < v.Next) && ((decide (i = 0) || decide ((v.Files.getD (i - 1) default).ID < (v.Files.getD i default).ID)) && refFileB v (v.Files.getD i default))
def refLinkedB (v : Vol) (i : Nat) : Bool :=
  if i = 0 then decide (cntF (v.Files.getD i default).ID 0 v.Files = 0)
  else !decide (cntF (v.Files.getD i default).ID 0 v.Files = 0) && (!(v.Files.getD i default).Dir || decide (cntF (v.Files.getD i default).ID 0 v.Files = 1))
def marked (v : Vol) : List Bool := marksP v (v.Files.length + 1) 1 (List.replicate v.Files.length false)
def refVolB (v : Vol) : Bool :=
  numB v.ID && (numB v.From && (numB v.Next && ((decide (v.From = 0) || v.Snap) && (decide ((1 : Int) ≤ v.Files.length ∧ (v.Files.length : Int) ≤ 16) && (decide ((v.Files.getD 0 default).ID = 1) && ((v.Files.getD 0 default).Dir &&
    (allI v.Files.length (refRiseB v) && (allI v.Files.length (refLinkedB v) && (allI v.Files.length (fun i => (marked v).getD i false) && decide (depthP v 6 1 ≤ 5))))))))))
theorem WR_of {v : Vol} (hs : v.Sz) (h : allI v.Files.length (refRiseB v) = true) : WR v := by
  rw [allI_iff] at h
  refine ⟨hs, fun f hf l hl => ?_⟩
  obtain ⟨i, hi, rfl⟩ := List.getElem_of_mem hf
  have hg : v.Files.getD i default = v.Files[i] := by simp [List.getD, hi]
  have h1 := h i hi
  unfold refRiseB at h1
  rw [hg] at h1
  simp only [Bool.and_eq_true] at h1
  have h2 := h1.2.2
  unfold refFileB at h2
  cases hD : (v.Files[i]).Dir with
  | true =>
    simp only [hD, if_true, Bool.and_eq_true, allI_iff] at h2
    obtain ⟨j, hj, rfl⟩ := List.getElem_of_mem hl
    have := h2.2.2.2 j hj
    unfold refLinkB at this
    have hg2 : (v.Files[i]).List.getD j default = (v.Files[i]).List[j] := by simp [List.getD, hj]
    rw [hg2] at this
    simp only [Bool.and_eq_true, Bool.not_eq_true', decide_eq_false_iff_not] at this
    unfold atR
    omega
  | false =>
    simp only [hD, Bool.false_eq_true, if_false, Bool.and_eq_true] at h2
    have h0 : (v.Files[i]).List.length = 0 := of_decide_eq_true h2.1
    rw [List.eq_nil_of_length_eq_zero h0] at hl; cases hl
theorem place_zero {α : Type} {p : α → Bool} {d : α} {l : List α} (h : 0 < l.length) (hp : p (l.getD 0 d) = true) : place p l = 0 := by
  cases l with
  | nil => simp at h
  | cons a l => simp at hp; simp [place, hp]
theorem open_replicate (n : Nat) : open_ (List.replicate n false) = n := by
  induction n with
  | zero => rfl
  | succ n ih => simp [open_, List.replicate_succ] at ih ⊢
theorem refVol_ok (v : Vol) (hs : v.Sn) : Pure prog n_ref2_Vol [.agg (eVol v)] true (.b (refVolB v)) [] := by
  refine mk (l := [(4, lc 3), (9, lc 4), (17, lc 7)]) (k := [(147, kdBool)]) ⟨lc_ok _, lc_ok _, lc_ok _, trivial⟩ ⟨kdBool_ok, trivial⟩ (fn := b_ref2_Vol) (by kernel_rfl) (by kernel_rfl) (by kernel_rfl) rfl outsOK_nil ?_
  rw [← vc_ref2_Vol]
  unfold refVolB
  refine ⟨numB v.ID, Num_ok _ _, tsplit (fun h => by simp only [h, Bool.false_and]) (fun g1 => ⟨numB v.From, Num_ok _ _, tsplit (fun h => by simp only [h, Bool.false_and, Bool.and_false]) (fun g2 => ⟨numB v.Next, Num_ok _ _, tsplit (fun h => by simp only [h, Bool.false_and, Bool.and_false]) (fun g3 => ?_)⟩)⟩)⟩
  simp only [g1, g2, g3, Bool.true_and]
  have hlen := hs.1
  obtain ⟨T, hT⟩ : ∃ T, T = (decide ((1 : Int) ≤ v.Files.length ∧ (v.Files.length : Int) ≤ 16) && (decide ((v.Files.getD 0 default).ID = 1) && ((v.Files.getD 0 default).Dir &&
    (allI v.Files.length (refRiseB v) && (allI v.Files.length (refLinkedB v) && (allI v.Files.length (fun i => (marked v).getD i false) && decide (depthP v 6 1 ≤ 5))))))) := ⟨_, rfl⟩
  rw [← hT]
  have hn3 : v.Next ≤ 1073741824 := (of_decide_eq_true g3).2
  have main : ∀ r4 : Bool, r4 = decide ((1 : Int) ≤ v.Files.length ∧ (v.Files.length : Int) ≤ 16) → vc_ref2_Vol_c v T r4 (Pv.Pure prog) (PureIO prog) := by
    intro r4 h4
    unfold vc_ref2_Vol_c
    intro h
    have h4 : decide ((1 : Int) ≤ v.Files.length ∧ (v.Files.length : Int) ≤ 16) = true := by rw [← h4]; simpa using h
    have hb := of_decide_eq_true h4
    rw [h4, Bool.true_and] at hT
    refine ⟨⟨by omega, by omega⟩, nsplit (fun h => ?_) (fun h5 => ⟨⟨by omega, by omega⟩, tsplit (fun h => ?_) (fun h6 => ?_)⟩)⟩
    · have h : ¬ (v.Files.getD 0 default).ID = 1 := h
      rw [hT]; simp only [h, decide_false, Bool.false_and]
    · have h : (v.Files.getD 0 default).Dir = false := h
      rw [hT]; simp only [h, Bool.false_and, Bool.and_false]
    have h5 : (v.Files.getD 0 default).ID = 1 := h5
    have h6 : (v.Files.getD 0 default).Dir = true := h6
    simp only [h5, h6, decide_true, Bool.true_and] at hT
    refine ⟨ΦI v.Files.length (refRiseB v), μI v.Files.length, startI, fun x hx => ⟨fun hd => ?_, fun hd => ?_⟩⟩
    · obtain ⟨i, rfl, hlt⟩ := atI hx hd
      have nx := nextI hx hlen hlt
      have no : refRiseB v i = false → T = false := fun h => by rw [hT, allI_no hlt h, Bool.false_and]
      have hf := refFile_ok v (v.Files.getD i default) hs.sz (hs.2 _ (getD_mem hlt)).1 (hs.2 _ (getD_mem hlt)).2
      have hback : (i : Int) > 0 → IntKind.i64.wrap ((i : Int) - (1 : Int)) = ((i - 1 : Nat) : Int) := fun h => back64 h (by omega)
      unfold refRiseB at nx no
      simp only [Int.toNat_natCast] at nx ⊢
      obtain ⟨f, hff⟩ : ∃ f, v.Files.getD i default = f := ⟨_, rfl⟩
      simp only [hff] at nx no hf ⊢
      have hin : inb (i : Int) v.Files.length := ⟨by omega, by omega⟩
      refine ⟨hin, dsplit (fun h => no (by simp [show ¬ f.ID < v.Next by omega])) (fun h7 => dsplit (fun h => ?_) (fun h => ?_))⟩
      · rw [hback h]
        simp only [Int.toNat_natCast]
        have hi0 : ¬ i = 0 := by omega
        obtain ⟨p, hp⟩ : ∃ p, (v.Files.getD (i - 1) default).ID = p := ⟨_, rfl⟩
        simp only [hp, hi0, decide_false, Bool.false_or] at nx no ⊢
        refine ⟨⟨by omega, by omega⟩, hin, dsplit (fun h => no (by simp [show ¬ p < f.ID by omega])) (fun h8 => ⟨hin, refFileB v f, hf, tsplit (fun h => no (by simp only [h, Bool.and_false])) (fun h9 => nx ?_)⟩)⟩
        simp only [show f.ID < v.Next by omega, show p < f.ID by omega, h9, decide_true, Bool.and_true]
      · refine ⟨hin, refFileB v f, hf, tsplit (fun h => no (by simp only [h, Bool.and_false])) (fun h9 => nx ?_)⟩
        simp only [show f.ID < v.Next by omega, show i = 0 by omega, h9, decide_true, Bool.true_or, Bool.and_true]
    have e1 : allI v.Files.length (refRiseB v) = true := allI_yes (endI hx hd)
    have hw := WR_of hs.sz e1
    rw [e1, Bool.true_and] at hT
    refine ⟨ΦI v.Files.length (refLinkedB v), μI v.Files.length, startI, fun x hx => ⟨fun hd => ?_, fun hd => ?_⟩⟩
    · obtain ⟨i, rfl, hlt⟩ := atI hx hd
      have nx := nextI hx hlen hlt
      have no : refLinkedB v i = false → T = false := fun h => by rw [hT, allI_no hlt h, Bool.false_and]
      have hc := Links_ok v (v.Files.getD i default).ID hs.sz
      unfold refLinkedB at nx no
      simp only [Int.toNat_natCast] at nx ⊢
      obtain ⟨f, hff⟩ : ∃ f, v.Files.getD i default = f := ⟨_, rfl⟩
      obtain ⟨c, hcc⟩ : ∃ c, cntF f.ID 0 v.Files = c := ⟨_, rfl⟩
      simp only [hff, hcc] at nx no hc ⊢
      have hin : inb (i : Int) v.Files.length := ⟨by omega, by omega⟩
      refine ⟨hin, c, hc, ?_⟩
      by_cases hi0 : i = 0
      · subst hi0
        simp only [if_true] at nx no
        exact ⟨fun _ => nsplit (fun h => no (by simp [h])) (fun h => ⟨fun h' => absurd (of_decide_eq_true h') (by omega), fun _ => nx (by simp [h])⟩), fun h => absurd rfl (of_decide_eq_false h)⟩
      · simp only [hi0, if_false] at nx no
        refine ⟨fun h => absurd (of_decide_eq_true h) (by omega), fun _ => ⟨fun _ => dsplit (fun h => no (by simp [h])) (fun h7 => ⟨hin, fun hD => nsplit (fun h => no (by simp [hD, h])) (fun h => nx (by simp [h])), fun hD => nx (by simp [hD, h7])⟩), fun h => absurd (of_decide_eq_false h) (by omega)⟩⟩
    have e2 : allI v.Files.length (refLinkedB v) = true := allI_yes (endI hx hd)
    rw [e2, Bool.true_and] at hT
    have hat : atR v 1 = 0 := place_zero (d := default) (by omega) (by simp only [h5, decide_true])
    have hmk := marks_ok hw v.Files.length 1 (List.replicate v.Files.length false) (by omega) (by simp) (by rw [open_replicate]; exact Nat.le_refl _)
    have hmi := marks_inv hw (v.Files.length + 1) 1 (List.replicate v.Files.length false) (by omega) (by simp)
    have hml : (marked v).length = v.Files.length := by have := hmi.1; simpa [marked] using this
    simp only [Int.toNat_natCast]
    refine ⟨trivial, ⟨by omega, by omega⟩, Nat.le_trans (Nat.mul_le_mul_left _ (Nat.le_of_eq (by kernel_rfl : _ = 1))) (by omega), false, ⟨rfl, trivial⟩, marked v, hmk, ΦI (marked v).length (fun i => (marked v).getD i false), μI (marked v).length, startI, fun x hx => ⟨fun hd => ?_, fun hd => ?_⟩⟩
    · obtain ⟨i, rfl, hlt⟩ := atI hx hd
      have nx := nextI hx (by omega) hlt
      simp only [Int.toNat_natCast] at nx ⊢
      exact ⟨⟨by omega, by omega⟩, hlt, tsplit (fun h => by rw [hT, allI_no (i := i) (by omega) h, Bool.false_and]) (fun h => nx h)⟩
    · have e3 : allI v.Files.length (fun i => (marked v).getD i false) = true := by rw [← hml]; exact allI_yes (endI hx hd)
      rw [e3, Bool.true_and] at hT
      exact ⟨depthP v 6 1, Deep_ok hw 5 1 (by decide) (by omega), hT.symm⟩
  have rest : ∃ (r_4 : Bool), Pv.Pure prog n_ref0_Between [PV.i IntKind.i64 (↑v.Files.length : Int), PV.i IntKind.i64 (1 : Int), PV.i IntKind.i64 (16 : Int)] true (PV.b r_4) [] ∧ ((!r_4) = true → T = false) ∧ vc_ref2_Vol_c v T r_4 (Pv.Pure prog) (PureIO prog) :=
    ⟨_, Between_ok _ _ _, fun h => by
      have h : decide ((1 : Int) ≤ v.Files.length ∧ (v.Files.length : Int) ≤ 16) = false := by
        revert h; generalize decide ((1 : Int) ≤ v.Files.length ∧ (v.Files.length : Int) ≤ 16) = b; intro h; simpa using h
      rw [hT, h, Bool.false_and], main _ rfl⟩
  refine nsplit (fun h => tsplit (fun hS => by simp [h, hS]) (fun hS => ?_)) (fun h => ?_)
  · simp only [hS, Bool.or_true, Bool.true_and]; exact rest
  · simp only [h, decide_true, Bool.true_or, Bool.true_and]; exact rest
end Go.Proofs.Ytbiojnaemniljaa

/- Contracts: may volumes be, by the page? -/
namespace Go.Proofs.Ytbiojnaemniljaa
open Go Pv
def atRV (l : List Vol) (i : Int) : Int := place (fun v : Vol => decide (v.ID = i)) l
def refOneB (l : List Vol) (n : Int) (i : Nat) : Bool :=
  refVolB (l.getD i default) && (decide (1 ≤ (l.getD i default).ID) && (decide ((l.getD i default).ID < n) && ((decide (i = 0) || decide ((l.getD (i - 1) default).ID < (l.getD i default).ID)) &&
    (!(l.getD i default).Snap || (decide (0 ≤ atRV l (l.getD i default).From) && !(l.getD (atRV l (l.getD i default).From).toNat default).Snap)))))
def refVolsB (l : List Vol) (n : Int) : Bool := decide (l.length ≤ 4) && (decide (1 ≤ n ∧ n ≤ 1073741824) && allI l.length (refOneB l n))
theorem refVols_ok (l : List Vol) (n : Int) (hl : l.length ≤ 140737488355328) (hs : ∀ v, v ∈ l → v.Sn) : Pure prog n_ref5_Vols [.fl false 5 Vol eVol default l, .i .i64 n] true (.b (refVolsB l n)) [] := by
  refine mk (l := [(4, lc 5)]) (k := []) ⟨lc_ok _, trivial⟩ trivial (fn := b_ref5_Vols) (by kernel_rfl) (by kernel_rfl) (by kernel_rfl) rfl outsOK_nil ?_
  rw [← vc_ref5_Vols]
  unfold refVolsB
  refine dsplit (fun h => by simp [show ¬ l.length ≤ 4 by omega]) (fun h1 => ⟨_, Between_ok _ _ _, tsplit (fun h => by simp only [h, Bool.false_and, Bool.and_false]) (fun h2 => ?_)⟩)
  simp only [show l.length ≤ 4 by omega, h2, decide_true, Bool.true_and]
  refine ⟨ΦI l.length (refOneB l n), μI l.length, startI, fun x hx => ⟨fun hd => ?_, fun hd => allI_yes (endI hx hd)⟩⟩
  obtain ⟨i, rfl, hlt⟩ := atI hx hd
  have nx := nextI hx hl hlt
  have no : refOneB l n i = false → _ := allI_no (n := l.length) hlt
  have hv := refVol_ok (l.getD i default) (hs _ (getD_mem hlt))
  have hback : (i : Int) > 0 → IntKind.i64.wrap ((i : Int) - (1 : Int)) = ((i - 1 : Nat) : Int) := fun h => back64 h (by omega)
  unfold refOneB at nx no
  simp only [Int.toNat_natCast] at nx ⊢
  obtain ⟨f, hff⟩ : ∃ f, l.getD i default = f := ⟨_, rfl⟩
  simp only [hff] at nx no hv ⊢
  have hin : inb (i : Int) l.length := ⟨by omega, by omega⟩
  have hat := AtVol_ok l f.From hl
  have hge := place_ge (fun v : Vol => decide (v.ID = f.From)) l
  obtain ⟨k, hk⟩ : ∃ k, atRV l f.From = k := ⟨_, rfl⟩
  have hk' : place (fun v : Vol => decide (v.ID = f.From)) l = k := hk
  rw [hk'] at hat hge
  simp only [hk] at nx no
  refine ⟨hin, refVolB f, hv, tsplit (fun h => no (by simp only [h, Bool.false_and])) (fun h3 => ⟨hin, dsplit (fun h => no (by simp [show ¬ 1 ≤ f.ID by omega])) (fun h4 => ⟨hin, dsplit (fun h => no (by simp [show ¬ f.ID < n by omega])) (fun h5 => ?_)⟩)⟩)⟩
  simp only [h3, show 1 ≤ f.ID by omega, show f.ID < n by omega, decide_true, Bool.true_and] at nx no
  have rest : (∀ q : Bool, q = true → ((q && (!f.Snap || (decide (0 ≤ k) && !(l.getD k.toNat default).Snap))) = true → _) → ((q && (!f.Snap || (decide (0 ≤ k) && !(l.getD k.toNat default).Snap))) = false → _) → _) := fun q hq (nx : _ → ∃ x' : Int, ((IntKind.i64.wrap ((i : Int) + (1 : Int)) = x' ∧ True) ∧ True) ∧ ΦI l.length (refOneB l n) x' ∧ μI l.length x' < μI l.length i) (no : _ → allI l.length (refOneB l n) = false) =>
    (⟨hin, fun hS => ⟨hin, k, hat, dsplit (fun h => no (by simp [hS, show ¬ 0 ≤ k by omega])) (fun h => ⟨⟨by omega, by omega⟩, fun hS2 => no (by simp only [hS, hS2, Bool.not_true, Bool.and_false, Bool.or_false]), fun hS2 => nx (by simp only [hq, hS2, show 0 ≤ k by omega, decide_true, Bool.not_false, Bool.and_true, Bool.or_true])⟩)⟩, fun hS => nx (by simp only [hq, hS, Bool.not_false, Bool.true_or, Bool.and_true])⟩ :
      inb (i : Int) l.length ∧ (f.Snap = true → inb (i : Int) l.length ∧ ∃ (r_3 : Int), Pv.Pure prog n_ref5_At [PV.fl false (5 : Nat) Vol eVol default l, PV.i IntKind.i64 f.From] true (PV.i IntKind.i64 r_3) [] ∧
        (decide (r_3 < (0 : Int)) = true → allI l.length (refOneB l n) = false) ∧ (decide (r_3 < (0 : Int)) = false → inb r_3 l.length ∧ ((l.getD r_3.toNat default).Snap = true → allI l.length (refOneB l n) = false) ∧
        ((l.getD r_3.toNat default).Snap = false → ∃ (x' : Int), ((IntKind.i64.wrap ((i : Int) + (1 : Int)) = x' ∧ True) ∧ True) ∧ ΦI l.length (refOneB l n) x' ∧ μI l.length x' < μI l.length i))) ∧
        (f.Snap = false → ∃ (x' : Int), ((IntKind.i64.wrap ((i : Int) + (1 : Int)) = x' ∧ True) ∧ True) ∧ ΦI l.length (refOneB l n) x' ∧ μI l.length x' < μI l.length i))
  refine dsplit (fun h => ?_) (fun h => ?_)
  · rw [hback h]
    simp only [Int.toNat_natCast]
    have hi0 : ¬ i = 0 := by omega
    obtain ⟨p, hp⟩ : ∃ p, (l.getD (i - 1) default).ID = p := ⟨_, rfl⟩
    simp only [hp, hi0, decide_false, Bool.false_or] at nx no ⊢
    exact ⟨⟨by omega, by omega⟩, hin, dsplit (fun h => no (by simp [show ¬ p < f.ID by omega])) (fun h => rest (decide (p < f.ID)) (decide_eq_true (by omega)) nx no)⟩
  · exact rest _ (by simp [show i = 0 by omega]) nx no
end Go.Proofs.Ytbiojnaemniljaa

/- The law of snapshots that are gone back to. -/
namespace Go.Proofs.Ytbiojnaemniljaa
open Go Pv
section
variable {l : List Vol} {n : Int} {i : Nat} (h : MayV l n) (hi : i < l.length) {v : Vol} (hv : l.getD i default = v) (hS : v.Snap = false) (hl : l.length < 4) (hn : n < 1073741824)
theorem lt_snoc {l : List Vol} {x : Vol} : l.length < (l ++ [x]).length := by simp
def snapOf (v : Vol) (n : Int) : Vol := copyOf v n v.ID true
include h hi hv in
theorem snap_id : 1 ≤ v.ID ∧ v.ID < n ∧ mayT v = true := by
  have := h.vol i hi
  rw [hv] at this
  exact ⟨this.2.1, this.2.2, this.1⟩
include h hi hv hS hl hn in
theorem snap_may : MayV (l ++ [snapOf v n]) (n + 1) := by
  obtain ⟨h1, h2, h3⟩ := snap_id h hi hv
  have n1 := h.n1
  refine h.snoc hl hn (mayT_copy h3 rfl rfl (numB_iff.2 ?_) (numB_iff.2 ?_) (.inl rfl)) rfl (fun _ => ⟨i, hi, by rw [hv]; rfl, by rw [hv]; exact hS⟩)
  · show 0 ≤ n ∧ n ≤ 1073741824; omega
  · show 0 ≤ v.ID ∧ v.ID ≤ 1073741824; omega
include h hi hv hS hl hn in
theorem snap_get : getP (l ++ [snapOf v n]) (n + 1) n = (snapOf v n, 0) := by
  have M := snap_may h hi hv hS hl hn
  unfold getP
  rw [ifFound_at M (t := l.length) (by simp) (by rw [getD_last]; rfl), getD_last]
include h hi hv hS hl hn in
theorem snap_old : getP (l ++ [snapOf v n]) (n + 1) v.ID = (v, 0) := by
  have M := snap_may h hi hv hS hl hn
  unfold getP
  rw [ifFound_at M (t := i) (by simp; omega) (by rw [getD_left hi, hv]), getD_left hi, hv]
include h hi hv hS hl hn in
theorem snap_back : backP (l ++ [snapOf v n]) (n + 1) n = (l ++ [snapOf v n], 0) := by
  have M := snap_may h hi hv hS hl hn
  unfold backP
  rw [ifFound_at M (t := l.length) (by simp) (by rw [getD_last]; rfl), getD_last]
  have hs : seekV (l ++ [snapOf v n]) (snapOf v n).From = i := by
    have := (M.at (t := i) (by simp; omega)).1
    rw [getD_left hi, hv] at this
    exact this
  rw [if_neg (by show ¬ (true = false); decide), hs, getD_left hi, hv]
  have e : ({ v with Files := (snapOf v n).Files, Next := max v.Next (snapOf v n).Next } : Vol) = v := by
    show (⟨v.ID, v.From, v.Snap, v.Files, max v.Next v.Next⟩ : Vol) = v
    rw [Int.max_self]
  rw [e]
  have e2 : (l ++ [snapOf v n]).set i v = l ++ [snapOf v n] := by
    have := set_self (l := l ++ [snapOf v n]) (d := default) (j := i) (by simp; omega)
    rwa [getD_left hi, hv] at this
  rw [e2, keep_all M (by omega)]
include h hi hv hS hl hn in
theorem snap_used : dropP (l ++ [snapOf v n]) (n + 1) v.ID = ([], 8) := by
  have M := snap_may h hi hv hS hl hn
  unfold dropP
  rw [ifFound_at M (t := i) (by simp; omega) (by rw [getD_left hi, hv])]
  have : (l ++ [snapOf v n]).any (dropB v.ID) = true := by
    rw [List.any_eq_true]
    refine ⟨snapOf v n, by simp, ?_⟩
    show (true && decide (v.ID = v.ID)) = true
    simp
  rw [if_pos this]
include h hi hv hS hl hn in
theorem snap_drop : dropP (l ++ [snapOf v n]) (n + 1) n = (l, 0) := by
  have M := snap_may h hi hv hS hl hn
  unfold dropP
  rw [ifFound_at M (t := l.length) (by simp) (by rw [getD_last]; rfl)]
  have : (l ++ [snapOf v n]).any (dropB n) = false := no_drop M (fun j hj hSj => by
    rcases (by simp at hj; omega : j < l.length ∨ j = l.length) with hj | rfl
    · rw [getD_left hj]; have := (h.vol j hj).2.2; omega
    · rw [getD_last] at hSj; cases hSj)
  rw [this, if_neg (by decide), erase_last]
end
section
variable {l : List Vol} {n : Int} {x : Vol} (M : MayV (l ++ [x]) (n + 1)) (hx : x.ID = n) (hs : x.Snap = true)
include M hx hs in
theorem clone_is : copP (l ++ [x]) (n + 1) n false = if 4 ≤ (l ++ [x]).length then ([], 0, 2) else if 1073741824 ≤ n + 1 then ([], 0, 2) else (l ++ [x] ++ [copyOf x (n + 1) n false], n + 1 + 1, 0) := by
  unfold copP
  rw [ifFound_at M (t := l.length) (by simp) (by rw [getD_last]; exact hx), getD_last, if_neg (by rw [hs]; decide)]
variable (h4 : (l ++ [x]).length < 4) (hn : n + 1 < 1073741824)
include M hx h4 hn in
theorem clone_may : MayV (l ++ [x] ++ [copyOf x (n + 1) n false]) (n + 1 + 1) := by
  have hm := M.vol l.length (by simp)
  rw [getD_last] at hm
  have n1 := M.n1
  refine M.snoc h4 hn (mayT_copy hm.1 rfl rfl (numB_iff.2 ?_) (numB_iff.2 ?_) (.inr rfl)) rfl (fun h => by cases h)
  · show 0 ≤ n + 1 ∧ n + 1 ≤ 1073741824; omega
  · show (0 : Int) ≤ 0 ∧ (0 : Int) ≤ 1073741824; decide
include M hx h4 hn in
theorem clone_get : getP (l ++ [x] ++ [copyOf x (n + 1) n false]) (n + 1 + 1) (n + 1) = (copyOf x (n + 1) n false, 0) := by
  have M2 := clone_may M hx h4 hn
  unfold getP
  rw [ifFound_at M2 (t := (l ++ [x]).length) lt_snoc (by rw [getD_last]; rfl), getD_last]
include M hx h4 hn in
theorem clone_drop : dropP (l ++ [x] ++ [copyOf x (n + 1) n false]) (n + 1 + 1) (n + 1) = (l ++ [x], 0) := by
  have M2 := clone_may M hx h4 hn
  unfold dropP
  rw [ifFound_at M2 (t := (l ++ [x]).length) lt_snoc (by rw [getD_last]; rfl)]
  have : (l ++ [x] ++ [copyOf x (n + 1) n false]).any (dropB (n + 1)) = false := by
    rw [List.any_append, no_drop M (fun j hj _ => by have := (M.vol j hj).2.2; omega)]
    rfl
  rw [this, if_neg (by decide), erase_last]
end
theorem VS.snoc {l : List Vol} (h : VS l) {x : Vol} (hl : l.length < 4) (hx : x.Sb) : VS (l ++ [x]) := by
  refine ⟨by simp; omega, fun v hv => ?_⟩
  rcases List.mem_append.1 hv with hv | hv
  · exact h.2 v hv
  · rcases List.mem_singleton.1 hv with rfl; exact hx
theorem VS.sz {l : List Vol} (h : VS l) : ∀ v, v ∈ l → v.Sz := fun v hv => (h.2 v hv).1.sz
theorem file_sb {f : File} (h : f.Ok) : f.Sn ∧ f.Sb := by
  obtain ⟨_, _, _, h1, h2, h3⟩ := h
  refine ⟨⟨⟨by omega, by omega⟩, fun l hl => ?_⟩, by omega, by omega⟩
  have := (h2 l hl).1; omega
theorem vol_sb {v : Vol} (h : v.Ok) : v.Sb := by
  obtain ⟨_, _, _, h1, h2⟩ := h
  exact ⟨⟨by omega, fun f hf => (file_sb (h1 f hf)).1⟩, by omega, fun f hf => (file_sb (h1 f hf)).2⟩
/-- behind a snap that is well -/
theorem snap_case {l : List Vol} {n : Int} {i : Nat} (hi : i < l.length) {v : Vol} (hv : l.getD i default = v) : (copP l n v.ID true).2.2 ≠ 0 ∨ (MayV l n ∧ v.Snap = false ∧ l.length < 4 ∧ n < 1073741824 ∧ copP l n v.ID true = (l ++ [snapOf v n], n + 1, 0)) := by
  cases hm : mayV l n with
  | false => left; unfold copP ifFound; rw [hm]; show (1 : Int) ≠ 0; decide
  | true =>
    have M := mayV_iff.1 hm
    have e : copP l n v.ID true = if v.Snap = true then ([], 0, 9) else if 4 ≤ l.length then ([], 0, 2) else if 1073741824 ≤ n then ([], 0, 2) else (l ++ [snapOf v n], n + 1, 0) := by
      unfold copP
      rw [ifFound_at M hi (by rw [hv]), hv]; rfl
    rw [e]
    by_cases h1 : v.Snap = true
    · left; rw [if_pos h1]; decide
    by_cases h2 : 4 ≤ l.length
    · left; rw [if_neg h1, if_pos h2]; decide
    by_cases h3 : 1073741824 ≤ n
    · left; rw [if_neg h1, if_neg h2, if_pos h3]; decide
    right
    rw [if_neg h1, if_neg h2, if_neg h3]
    exact ⟨M, by simpa using h1, by omega, by omega, rfl⟩
theorem nno {b : Prop} {A : Prop} [Decidable b] (hb : b) (h : A) : ((!decide b) = true → true = false) ∧ ((!decide b) = false → A) := nsplit (fun h' => absurd hb h') (fun _ => h)
theorem bno {b : Bool} {A : Prop} (hb : b = true) (h : A) : ((!b) = true → true = false) ∧ ((!b) = false → A) := tsplit (fun h' => by rw [hb] at h'; cases h') (fun _ => h)
theorem VolBack_ok (s : Script) (hs : s.Ok) : Pure prog n_law5_VolBack [.agg (eScript s)] true (.b true) [] := by
  obtain ⟨k1, k2, k3, k4, k5⟩ := hs
  have hVS : VS s.L := ⟨by omega, fun v hv => vol_sb (k1 v hv)⟩
  have hL : s.L.length ≤ 140737488355328 := by omega
  refine mk (l := [(4, lc 3)]) (k := []) ⟨lc_ok _, trivial⟩ trivial (fn := b_law5_VolBack) (by kernel_rfl) (by kernel_rfl) (by kernel_rfl) rfl outsOK_nil ?_
  rw [← vc_law5_VolBack]
  refine ⟨heavyB s, Heavy_ok s hL hVS.sz (by omega) (fun a ha => (vol_sb (k4 a ha).2.2).1.sz), fun _ => rfl, fun _ => ⟨refVolsB s.L s.Next, refVols_ok s.L s.Next hL (fun v hv => (hVS.2 v hv).1), tsplit (fun _ => rfl) (fun _ => ?_)⟩⟩
  refine ⟨ΦI s.L.length (fun _ => true), μI s.L.length, startI, fun x hx => ⟨fun hd => ?_, fun _ => ⟨true, wakes_ok, rfl⟩⟩⟩
  obtain ⟨i, rfl, hlt⟩ := atI hx hd
  have nx := nextI hx hL hlt rfl
  obtain ⟨l, hll⟩ : ∃ l, s.L = l := ⟨_, rfl⟩
  obtain ⟨n, hnn⟩ : ∃ n, s.Next = n := ⟨_, rfl⟩
  obtain ⟨v, hv⟩ : ∃ v, l.getD i default = v := ⟨_, rfl⟩
  simp only [hll, hnn, Int.toNat_natCast, hv] at hVS hL k3 hlt nx ⊢
  have hb : inb (i : Int) l.length := ⟨by omega, by omega⟩
  have hvm : v ∈ l := by rw [← hv]; exact getD_mem hlt
  have hvb := hVS.2 v hvm
  refine ⟨hb, copP l n v.ID true, Snap_ok l n v.ID hVS k3, (copP l n v.ID true).2.2, num_ok _, nsplit (fun _ => nx) (fun h0 => ?_)⟩
  rcases snap_case (n := n) hlt hv with hne | ⟨M, hS, h4, hn, hc⟩
  · exact absurd h0 hne
  rw [hc]
  have M1 := snap_may M hlt hv hS h4 hn
  have hV1 : VS (l ++ [snapOf v n]) := hVS.snoc h4 ⟨hvb.1, hvb.2⟩
  have n1 := M.n1
  have hI1 : I64 (n + 1) := ⟨by omega, by omega⟩
  have g1 := Get_ok (l ++ [snapOf v n]) (n + 1) n hV1
  rw [snap_get M hlt hv hS h4 hn] at g1
  have g2 := Back_ok (l ++ [snapOf v n]) (n + 1) n hV1
  rw [snap_back M hlt hv hS h4 hn] at g2
  have g3 := Get_ok (l ++ [snapOf v n]) (n + 1) v.ID hV1
  rw [snap_old M hlt hv hS h4 hn] at g3
  have g4 := Drop_ok (l ++ [snapOf v n]) (n + 1) v.ID hV1
  rw [snap_used M hlt hv hS h4 hn] at g4
  have g5 := Drop_ok (l ++ [snapOf v n]) (n + 1) n hV1
  rw [snap_drop M hlt hv hS h4 hn] at g5
  have rest : inb (i : Int) l.length ∧ ∃ (r_19 : List Vol × Int), Pure prog n_vol_Drop [PV.fl false (5 : Nat) Vol eVol default (l ++ [snapOf v n]), PV.i IntKind.i64 (n + 1), PV.i IntKind.i64 v.ID] false (PV.tup [PV.fl false (5 : Nat) Vol eVol default r_19.fst, PV.i IntKind.i64 r_19.snd]) [] ∧
      ∃ (r_20 : List Vol × Int), Pure prog n_vol_Drop [PV.fl false (5 : Nat) Vol eVol default (l ++ [snapOf v n]), PV.i IntKind.i64 (n + 1), PV.i IntKind.i64 n] false (PV.tup [PV.fl false (5 : Nat) Vol eVol default r_20.fst, PV.i IntKind.i64 r_20.snd]) [] ∧
      ∃ (r : Int), Pure prog n_law5_num [PV.i IntKind.i64 r_19.snd] true (PV.i IntKind.i64 r) [] ∧ ((!decide (r = (8 : Int))) = true → true = false) ∧ ((!decide (r = (8 : Int))) = false → ∃ (r : Int), Pure prog n_law5_num [PV.i IntKind.i64 r_20.snd] true (PV.i IntKind.i64 r) [] ∧ ((!decide (r = (0 : Int))) = true → true = false) ∧
      ((!decide (r = (0 : Int))) = false → ∃ (r : Bool), Pure prog n_ref0_EqVols [PV.fl false (5 : Nat) Vol eVol default r_20.fst, PV.fl false (5 : Nat) Vol eVol default l] true (PV.b r) [] ∧ ((!r) = true → true = false) ∧ ((!r) = false → ∃ (x' : Int), ((IntKind.i64.wrap ((i : Int) + (1 : Int)) = x' ∧ True) ∧ True) ∧ ΦI l.length (fun _ => true) x' ∧ μI l.length x' < μI l.length i))) :=
    ⟨hb, ([], 8), g4, (l, 0), g5, 8, num_ok 8, nno rfl ⟨0, num_ok 0, nno rfl ⟨true, EqVols_ok l l hL hVS.sz true (by simp), bno rfl nx⟩⟩⟩
  refine ⟨(snapOf v n, 0), g1, (l ++ [snapOf v n], 0), g2, hb, (v, 0), g3, 0, num_ok 0, 0, num_ok 0, 0, num_ok 0, nno rfl (bno rfl ⟨hb, nno rfl ⟨hb, true, EqFiles_ok v.Files v.Files hvb.1.sz.1 hvb.1.sz.2 true (by simp), bno rfl ⟨hb, true, EqVol_ok v v hvb.1.sz true (by simp), bno rfl
    ⟨true, EqVols_ok _ _ hV1.1 hV1.sz true (by simp), bno rfl ?_⟩⟩⟩⟩)⟩
  have g6 := Clone_ok (l ++ [snapOf v n]) (n + 1) n hV1 hI1
  refine ⟨copP (l ++ [snapOf v n]) (n + 1) n false, g6, (copP (l ++ [snapOf v n]) (n + 1) n false).2.2, num_ok _, fun h0 => ?_, fun _ => rest⟩
  have h0 := of_decide_eq_true h0
  have e := clone_is M1 rfl rfl
  rw [e] at h0
  by_cases c1 : 4 ≤ (l ++ [snapOf v n]).length
  · rw [if_pos c1] at h0; cases h0
  by_cases c2 : 1073741824 ≤ n + 1
  · rw [if_neg c1, if_pos c2] at h0; cases h0
  rw [if_neg c1, if_neg c2] at e
  rw [e]
  have c1 : (l ++ [snapOf v n]).length < 4 := by omega
  have c2 : n + 1 < 1073741824 := by omega
  have hV2 : VS (l ++ [snapOf v n] ++ [copyOf (snapOf v n) (n + 1) n false]) := hV1.snoc c1 ⟨hvb.1, hvb.2⟩
  have q1 := Get_ok _ (n + 1 + 1) (n + 1) hV2
  rw [clone_get M1 rfl c1 c2] at q1
  have q2 := Drop_ok _ (n + 1 + 1) (n + 1) hV2
  rw [clone_drop M1 rfl c1 c2] at q2
  exact ⟨(copyOf (snapOf v n) (n + 1) n false, 0), q1, (l ++ [snapOf v n], 0), q2, 0, num_ok 0, nno rfl ⟨0, num_ok 0, nno rfl ⟨fun h => (by cases h), fun _ => nno rfl ⟨true, EqFiles_ok v.Files v.Files hvb.1.sz.1 hvb.1.sz.2 true (by simp), bno rfl ⟨true, EqVols_ok _ _ hV1.1 hV1.sz true (by simp), bno rfl rest⟩⟩⟩⟩⟩
end Go.Proofs.Ytbiojnaemniljaa
