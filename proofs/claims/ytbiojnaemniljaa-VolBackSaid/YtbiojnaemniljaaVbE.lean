/- A part of the proof that the law VolBack, whatever the script, answers true and leaves its argument as it was; no condition. -/
import Derived.Test.YtbiojnaemniljaaVbD
import Derived.Test.YtbiojnaemniljaaRows
import Derived.Test.YtbiojnaemniljaaChecked
import Derived.JoinedOf
/- A script of volumes, read; the rows, of the laws' contracts. -/
namespace Go.Proofs.Ytbiojnaemniljaa
open Go Pv
theorem reads_i : Reads prog t_int eI I64 := reads_map (reads_int (by kernel_rfl)) id eI I64 (fun _ => rfl) (fun _ h => I64_of h)
theorem reads_b : Reads prog t_bool (fun x : Bool => [.b x]) (fun _ => True) := reads_bool (by kernel_rfl)
theorem reads_s : Reads prog t_string (fun x : Str => [.s x]) (fun x => x.length ≤ 140737488351232) := reads_string (by kernel_rfl)
theorem link_ok {i : Int} {x : Str} (h1 : x.length ≤ 140737488351232) (h2 : I64 i) : Link.Ok ⟨x, i⟩ := And.intro h1 h2
theorem reads_link : Reads prog t_api_Link eLink Link.Ok := by
  have h := readsF_nil (P := prog) (off := 2)
  replace h := readsF_cons (f := ⟨ "ID", t_int, 1, false, "", "", 16⟩) (off := 1) (n := 1) reads_i rfl (by kernel_rfl) (fun _ => rfl) h
  replace h := readsF_cons (f := ⟨ "Name", t_string, 0, false, "", "", 0⟩) (off := 0) (n := 1) reads_s rfl (by kernel_rfl) (fun _ => rfl) h
  exact reads_map (reads_struct (by kernel_rfl) h (fun _ => by kernel_rfl)) (fun p => ⟨p.1, p.2.1⟩) eLink Link.Ok (fun _ => rfl) (fun ⟨_, _, _⟩ h => link_ok h.1 h.2.1)
theorem reads_ints : Reads prog t_s_int (fun xs : List Int => [.fl false 1 Int eI 0 xs]) (fun xs => (∀ x, x ∈ xs → I64 x) ∧ xs.length * 8 ≤ 140737488351232) :=
  reads_slice (by kernel_rfl) reads_i (by kernel_rfl) (by decide) (bs := 8) (by kernel_rfl) (by decide) (fun _ => rfl)
theorem reads_links : Reads prog t_s_api_Link (fun xs : List Link => [.fl false 2 Link eLink default xs]) (fun xs => (∀ x, x ∈ xs → x.Ok) ∧ xs.length * 24 ≤ 140737488351232) :=
  reads_slice (by kernel_rfl) reads_link (by kernel_rfl) (by decide) (bs := 24) (by kernel_rfl) (by decide) (fun _ => rfl)
theorem file_ok {i s : Int} {d : Bool} {b : List Int} {l : List Link} (h1 : I64 i) (h2 : I64 s) (h3 : (∀ x, x ∈ b → I64 x) ∧ b.length * 8 ≤ 140737488351232) (h4 : (∀ x, x ∈ l → x.Ok) ∧ l.length * 24 ≤ 140737488351232) : File.Ok ⟨i, d, s, b, l⟩ :=
  And.intro h1 (And.intro h2 (And.intro h3.1 (And.intro h3.2 (And.intro h4.1 h4.2))))
theorem reads_file : Reads prog t_api_File eFile File.Ok := by
  have h := readsF_nil (P := prog) (off := 5)
  replace h := readsF_cons (f := ⟨ "List", t_s_api_Link, 4, false, "", "", 48⟩) (off := 4) (n := 1) reads_links rfl (by kernel_rfl) (fun _ => rfl) h
  replace h := readsF_cons (f := ⟨ "Blocks", t_s_int, 3, false, "", "", 24⟩) (off := 3) (n := 1) reads_ints rfl (by kernel_rfl) (fun _ => rfl) h
  replace h := readsF_cons (f := ⟨ "Size", t_int, 2, false, "", "", 16⟩) (off := 2) (n := 1) reads_i rfl (by kernel_rfl) (fun _ => rfl) h
  replace h := readsF_cons (f := ⟨ "Dir", t_bool, 1, false, "", "", 8⟩) (off := 1) (n := 1) reads_b rfl (by kernel_rfl) (fun _ => rfl) h
  replace h := readsF_cons (f := ⟨ "ID", t_int, 0, false, "", "", 0⟩) (off := 0) (n := 1) reads_i rfl (by kernel_rfl) (fun _ => rfl) h
  exact reads_map (reads_struct (by kernel_rfl) h (fun _ => by kernel_rfl)) (fun p => ⟨p.1, p.2.1, p.2.2.1, p.2.2.2.1, p.2.2.2.2.1⟩) eFile File.Ok (fun _ => rfl) (fun ⟨_, d, _, _, _, _⟩ h => file_ok (d := d) h.1 h.2.2.1 h.2.2.2.1 h.2.2.2.2.1)
theorem reads_files : Reads prog t_s_api_File (fun xs : List File => [.fl false 5 File eFile default xs]) (fun xs => (∀ x, x ∈ xs → x.Ok) ∧ xs.length * 72 ≤ 140737488351232) :=
  reads_slice (by kernel_rfl) reads_file (by kernel_rfl) (by decide) (bs := 72) (by kernel_rfl) (by decide) (fun _ => rfl)
theorem vol_ok {i f n : Int} {d : Bool} {l : List File} (h1 : I64 i) (h2 : I64 f) (h3 : I64 n) (h4 : (∀ x, x ∈ l → x.Ok) ∧ l.length * 72 ≤ 140737488351232) : Vol.Ok ⟨i, f, d, l, n⟩ :=
  And.intro h1 (And.intro h2 (And.intro h3 (And.intro h4.1 h4.2)))
theorem reads_vol : Reads prog t_api_Vol eVol Vol.Ok := by
  have h := readsF_nil (P := prog) (off := 5)
  replace h := readsF_cons (f := ⟨ "Next", t_int, 4, false, "", "", 48⟩) (off := 4) (n := 1) reads_i rfl (by kernel_rfl) (fun _ => rfl) h
  replace h := readsF_cons (f := ⟨ "Files", t_s_api_File, 3, false, "", "", 24⟩) (off := 3) (n := 1) reads_files rfl (by kernel_rfl) (fun _ => rfl) h
  replace h := readsF_cons (f := ⟨ "Snap", t_bool, 2, false, "", "", 16⟩) (off := 2) (n := 1) reads_b rfl (by kernel_rfl) (fun _ => rfl) h
  replace h := readsF_cons (f := ⟨ "From", t_int, 1, false, "", "", 8⟩) (off := 1) (n := 1) reads_i rfl (by kernel_rfl) (fun _ => rfl) h
  replace h := readsF_cons (f := ⟨ "ID", t_int, 0, false, "", "", 0⟩) (off := 0) (n := 1) reads_i rfl (by kernel_rfl) (fun _ => rfl) h
  exact reads_map (reads_struct (by kernel_rfl) h (fun _ => by kernel_rfl)) (fun p => ⟨p.1, p.2.1, p.2.2.1, p.2.2.2.1, p.2.2.2.2.1⟩) eVol Vol.Ok (fun _ => rfl) (fun ⟨_, _, d, _, _, _⟩ h => vol_ok (d := d) h.1 h.2.1 h.2.2.2.2.1 h.2.2.2.1)
theorem reads_vols : Reads prog t_s_api_Vol (fun xs : List Vol => [.fl false 5 Vol eVol default xs]) (fun xs => (∀ x, x ∈ xs → x.Ok) ∧ xs.length * 56 ≤ 140737488351232) :=
  reads_slice (by kernel_rfl) reads_vol (by kernel_rfl) (by decide) (bs := 56) (by kernel_rfl) (by decide) (fun _ => rfl)
theorem act_ok {a b : Int} {v : Vol} (h1 : I64 a) (h2 : I64 b) (h3 : v.Ok) : VAct.Ok ⟨a, b, v⟩ := And.intro h1 (And.intro h2 h3)
theorem reads_act : Reads prog t_hermitagelaw5_Act eAct VAct.Ok := by
  have h := readsF_nil (P := prog) (off := 7)
  replace h := readsF_cons (f := ⟨ "V", t_api_Vol, 2, false, "", "", 16⟩) (off := 2) (n := 5) reads_vol rfl (by kernel_rfl) (fun _ => rfl) h
  replace h := readsF_cons (f := ⟨ "ID", t_int, 1, false, "", "", 8⟩) (off := 1) (n := 1) reads_i rfl (by kernel_rfl) (fun _ => rfl) h
  replace h := readsF_cons (f := ⟨ "Do", t_int, 0, false, "", "", 0⟩) (off := 0) (n := 1) reads_i rfl (by kernel_rfl) (fun _ => rfl) h
  exact reads_map (reads_struct (by kernel_rfl) h (fun _ => by kernel_rfl)) (fun p => ⟨p.1, p.2.1, p.2.2.1⟩) eAct VAct.Ok (fun _ => rfl) (fun ⟨_, _, v, _⟩ h => act_ok (v := v) h.1 h.2.1 h.2.2.1)
theorem reads_acts : Reads prog t_s_hermitagelaw5_Act (fun xs : List VAct => [.fl false 7 VAct eAct default xs]) (fun xs => (∀ x, x ∈ xs → x.Ok) ∧ xs.length * 72 ≤ 140737488351232) :=
  reads_slice (by kernel_rfl) reads_act (by kernel_rfl) (by decide) (bs := 72) (by kernel_rfl) (by decide) (fun _ => rfl)
theorem script_ok {l : List Vol} {n : Int} {a : List VAct} (h1 : (∀ x, x ∈ l → x.Ok) ∧ l.length * 56 ≤ 140737488351232) (h2 : I64 n) (h3 : (∀ x, x ∈ a → x.Ok) ∧ a.length * 72 ≤ 140737488351232) : Script.Ok ⟨l, n, a⟩ := And.intro h1.1 (And.intro h1.2 (And.intro h2 (And.intro h3.1 h3.2)))
theorem reads_script : Reads prog t_hermitagelaw5_Script eScript Script.Ok := by
  have h := readsF_nil (P := prog) (off := 3)
  replace h := readsF_cons (f := ⟨ "A", t_s_hermitagelaw5_Act, 2, false, "", "", 32⟩) (off := 2) (n := 1) reads_acts rfl (by kernel_rfl) (fun _ => rfl) h
  replace h := readsF_cons (f := ⟨ "Next", t_int, 1, false, "", "", 24⟩) (off := 1) (n := 1) reads_i rfl (by kernel_rfl) (fun _ => rfl) h
  replace h := readsF_cons (f := ⟨ "L", t_s_api_Vol, 0, false, "", "", 0⟩) (off := 0) (n := 1) reads_vols rfl (by kernel_rfl) (fun _ => rfl) h
  exact reads_map (reads_struct (by kernel_rfl) h (fun _ => by kernel_rfl)) (fun p => ⟨p.1, p.2.1, p.2.2.1⟩) eScript Script.Ok (fun _ => rfl) (fun ⟨l, n, a, _⟩ h => script_ok (l := l) (n := n) (a := a) h.1 h.2.1 h.2.2.1)

/-! ### the row, of the law's contract -/
theorem own : ownKnob prog.godebug = none := by kernel_rfl
theorem laidOut : laidOutB prog = true := by kernel_rfl
theorem flag_script (x : Script) (k : Nat) : pfl (nth .bad (eScript x) k) = false := by
  rcases k with _ | _ | _ | k <;> rfl
theorem volBack_func : prog.funcs[n_law5_VolBack]? = some b_law5_VolBack := by kernel_rfl
theorem volBack_params : b_law5_VolBack.params = #[t_hermitagelaw5_Script] := by kernel_rfl
set_option maxRecDepth 100000 in
theorem volBack_lifted (hp : ∀ x : Script, x.Ok → ∃ fr, Pure prog n_law5_VolBack [.agg (eScript x)] fr (.b true) []) (os : Os) (started : os.Started) (H : Type) (enc : TypeId × Value → H) :
    ReturnsInHanded {} Try.checked os n_law5_VolBack .any (Rows.volBackSpec.pre6 enc prog b_law5_VolBack Rows.volBackRow.domain false) (Rows.volBackSpec.post enc prog b_law5_VolBack false true false false) := by
  refine returnsInHanded_of_change_sized (C := Try.checked) own started (by kernel_rfl) volBack_func
    (ChangeSpec.witness6 (enc := enc) (C := Try.checked) false ⟨#[], #[.agg #[.slice none 0 0, .int .i64 0, .slice none 0 0]], []⟩ 8 (by kernel_rfl) (by kernel_rfl) (by kernel_rfl) (by kernel_rfl)) ?_
  intro W base args ds gs before hval hW _ hsz _
  exact law1 (fs := #[⟨ "L", t_s_api_Vol, 0, false, "", "", 0⟩, ⟨ "Next", t_int, 1, false, "", "", 24⟩, ⟨ "A", t_s_hermitagelaw5_Act, 2, false, "", "", 32⟩]) laidOut (by kernel_rfl) (of_decide_eq_true (by kernel_rfl)) volBack_params (tb := t_bool) (by kernel_rfl) (by kernel_rfl) (by kernel_rfl) rfl (fun _ _ => rfl) reads_script flag_script (fun vs w => run_enter volBack_func (by kernel_rfl) (c := b_law5_VolBack.body.getD .skip) (by kernel_rfl) vs w) hp H enc W base args ds gs before hval hW hsz
theorem volBack_over (hp : ∀ x : Script, x.Ok → ∃ fr, Pure prog n_law5_VolBack [.agg (eScript x)] fr (.b true) []) : Rows.volBackRow.holds Try.pinned (OpenSpec.ofChange Rows.volBackSpec) :=
  OpenClaim.holds_of_wide n_law5_VolBack b_law5_VolBack rfl rfl rfl rfl rfl rfl rfl ⟨rfl, rfl, rfl, rfl, rfl⟩ rfl rfl rfl rfl rfl (by kernel_rfl) volBack_func (by kernel_rfl)
    (of_decide_eq_true (by kernel_rfl)) (by unfold Func.isWrapper; first | (rw [if_pos (by decide +kernel)]; kernel_rfl) | (rw [if_neg (by decide +kernel)]; exact ⟨rfl, rfl⟩))
    (fun os started H enc _ => volBack_lifted hp os started H enc)
theorem volBack : Rows.VolBackSaid := volBack_over fun x hx => ⟨true, VolBack_ok x hx⟩
end Go.Proofs.Ytbiojnaemniljaa
