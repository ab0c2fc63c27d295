/- A part of the proof that the law VolBack, whatever the script, answers true and leaves its argument as it was; no condition. -/
import Derived.Test.YtbiojnaemniljaaVbB
import Derived.Orders
import Derived.OwnWalk
import Derived.ChangeShapes
import GoSem.ClaimJoined
import Derived.Carry
import Derived.OpenShut
import Derived.SizedLaws
import Derived.WideShapes
import Derived.Test.YtbiojnaemniljaaProg
/- A row of the call's own comes to be one that stays. -/
namespace Pv
open Go
section
variable {w0 : World} {W0 : Nat → Prop} {st : St} {a : Act} {w : World} {E : Env}
theorem frz1_ok {E' : Env} {B n : Nat} {nw : Bool} {q : PV} (hF : ∀ b, E.F b → E'.F b) (hh : ∀ d, E'.hd d = E.hd d) (hq : ∀ v, R0 w E B nw (.sl (.s n)) v → R0 w E' B nw q v) {p : PV} {v : Value} (h : R0 w E B nw p v) : R0 w E' B nw (frz1 n q p) v := by
  have kl : R0 w E' B nw (kill1 n p) v := h.kill hF (fun d _ => hh d)
  cases p with
  | sl d =>
    cases d with
    | x m => exact kl
    | s m =>
      simp only [frz1]
      cases hb : Nat.beq m n with
      | true => rw [Nat.eq_of_beq_eq_true hb] at h; exact hq v h
      | false => simp only [R0, hh] at h ⊢; exact h
  | _ => exact kl
theorem frz2_ok {E' : Env} {B n : Nat} {nw : Bool} {q : PV} (hF : ∀ b, E.F b → E'.F b) (hh : ∀ d, E'.hd d = E.hd d) (hq : ∀ v, R0 w E B nw (.sl (.s n)) v → R0 w E' B nw q v) {p : PV} {v : Value} (h : R1 w E B nw p v) : R1 w E' B nw (frz2 n q p) v := by
  cases p with
  | agg cs => obtain ⟨vs, h1, h2, h3⟩ := h; exact ⟨vs, h1, by rw [llen_lmap]; exact h2, fun k hk => by rw [llen_lmap] at hk; rw [nth_lmap _ _ _ _ hk]; exact frz1_ok hF hh hq (h3 k hk)⟩
  | fn f cs => obtain ⟨vs, h1, h2, h3⟩ := h; exact ⟨vs, h1, by rw [llen_lmap]; exact h2, fun k hk => by rw [llen_lmap] at hk; rw [nth_lmap _ _ _ _ hk]; exact frz1_ok hF hh hq (h3 k hk)⟩
  | _ => simp only [R1] at h; exact (frz1_ok hF hh hq h).r1
theorem frz_ok {E' : Env} {B n : Nat} {nw : Bool} {q : PV} (hF : ∀ b, E.F b → E'.F b) (hh : ∀ d, E'.hd d = E.hd d) (hq : ∀ v, R0 w E B nw (.sl (.s n)) v → R0 w E' B nw q v) {p : PV} {v : Value} (h : R2 w E B nw p v) : R2 w E' B nw (Pv.frz n q p) v := by
  cases p with
  | tup cs => obtain ⟨vs, h1, h2, h3⟩ := h; exact ⟨vs, h1, by rw [llen_lmap]; exact h2, fun k hk => by rw [llen_lmap] at hk; rw [nth_lmap _ _ _ _ hk]; exact frz2_ok hF hh hq (h3 k hk)⟩
  | _ => simp only [R2] at h; exact (frz2_ok hF hh hq h).r2
theorem look_frzH (n m : Nat) (q : PV) : ∀ h : List (Nat × Obj), look (frzH n q h) m = if m = n then none else (look h m).map (frzO n q)
  | [] => by simp [frzH, look]
  | (k, o) :: l => by
    have ih := look_frzH n m q l
    by_cases hkn : k = n
    · subst hkn
      simp only [frzH, Nat.beq_refl]
      rw [ih]
      by_cases hm : m = k
      · simp [hm]
      · have : Nat.beq k m = false := by
          cases h : Nat.beq k m with
          | false => rfl
          | true => exact absurd (Nat.eq_of_beq_eq_true h).symm hm
        simp [hm, look, this]
    · have hb : Nat.beq k n = false := by
        cases h : Nat.beq k n with
        | false => rfl
        | true => exact absurd (Nat.eq_of_beq_eq_true h) hkn
      simp only [frzH, hb, look]
      by_cases hkm : k = m
      · subst hkm
        simp [Nat.beq_refl, hkn]
      · have hb2 : Nat.beq k m = false := by
          cases h : Nat.beq k m with
          | false => rfl
          | true => exact absurd (Nat.eq_of_beq_eq_true h) hkm
        simp only [hb2]; exact ih
theorem frzO_live (n : Nat) (q : PV) (o : Obj) : (frzO n q o).live ↔ o.live := by cases o <;> simp [frzO, Obj.live]
theorem ObjOK.frz {E' : Env} {B n : Nat} {q : PV} (hF : ∀ b, E.F b → E'.F b) (hh : ∀ d, E'.hd d = E.hd d) (hq : ∀ v, R0 w E B false (.sl (.s n)) v → R0 w E' B false q v) {d : Id} {o : Obj} (h : ObjOK w E B d o) : ObjOK w E' B d (frzO n q o) := by
  cases o with
  | str cs =>
    obtain ⟨b, vs, ty, fz, h1, hf, h2, hu, h3, h4⟩ := h
    exact ⟨b, vs, ty, fz, by rw [hh d]; exact h1, by rw [hh d]; exact hf, h2, hu, by rw [llen_lmap]; exact h3, fun k hk => by rw [llen_lmap] at hk; rw [nth_lmap _ _ _ _ hk]; exact frz1_ok hF hh hq (h4 k hk)⟩
  | rowl sz els =>
    obtain ⟨b', vs, ty, fz, c, h1, h2, h3, h4, hf, hB, h5, hu, h6, h7⟩ := h
    have hl : (lmap (lmap (frz1 n q)) els).length = els.length := by rw [lmap_eq]; simp
    refine ⟨b', vs, ty, fz, c, by rw [hh d, hl]; exact h1, by rw [hl]; exact h2, fun x hx => ?_, by rw [hl]; exact h4, by rw [hh d]; exact hf, hB, h5, hu, h6, fun j k hj hk => ?_⟩
    · rw [lmap_eq] at hx
      obtain ⟨y, hy, rfl⟩ := List.mem_map.1 hx
      rw [llen_lmap]; exact h3 y hy
    · rw [hl] at hj
      have hg : (lmap (lmap (frz1 n q)) els).getD j [] = lmap (frz1 n q) (els.getD j []) := by rw [lmap_eq]; simp [List.getD, hj]
      have hk' : k < llen (els.getD j []) := by rw [h3 _ (by simp [List.getD, hj])]; exact hk
      rw [hg, nth_lmap _ _ _ _ hk']
      exact frz1_ok hF hh hq (h7 j k hj hk)
  | dead => trivial
  | _ => exact h.mono (fun _ _ => rfl) hF hh (fun _ _ => rfl)
/-- THE ROW STAYS AS IT IS -/
theorem Sim.frz0 (S : Sim w0 W0 st a w E) {n : Nat} {ob : Obj} {q : PV} (ho : look st.h n = some ob) (hl : ob.live)
    (hq : ∀ v, R0 w E w0.heap.size false (.sl (.s n)) v → R0 w ⟨fun b => E.F b ∨ (E.hd (.s n)).ft b, E.hd⟩ w0.heap.size false q v) :
    ∃ E', Sim w0 W0 (st.frz n q) a w E' ∧ Fr (New w0 W0) [] st a w E (st.frz n q) a w E' := by
  let E' : Env := ⟨fun b => E.F b ∨ (E.hd (.s n)).ft b, E.hd⟩
  have hF : ∀ b, E.F b → E'.F b := fun b hb => .inl hb
  have hbn : ∀ b, (E.hd (.s n)).ft b → New w0 W0 b ∧ b < w.heap.size := fun b hb => ⟨(S.out (.s n) _ b ho hl hb).2, S.blt (d := .s n) ho hl hb⟩
  have hobj : ∀ i o, (st.frz n q).obj i = some o → i ≠ .s n ∧ ∃ o', st.obj i = some o' ∧ ((∃ m, i = .s m) ∧ o = frzO n q o' ∨ (∃ m, i = .x m) ∧ o = o') := by
    intro i o h
    cases i with
    | x m => exact ⟨(fun e => by cases e), o, h, .inr ⟨⟨m, rfl⟩, rfl⟩⟩
    | s m =>
      have h' : look (frzH n q st.h) m = some o := h
      rw [look_frzH] at h'
      by_cases hm : m = n
      · rw [if_pos hm] at h'; cases h'
      · rw [if_neg hm] at h'
        cases hl : look st.h m with
        | none => rw [hl] at h'; cases h'
        | some o' => rw [hl] at h'; cases h'; exact ⟨(fun e => by cases e; exact hm rfl), o', hl, .inl ⟨⟨m, rfl⟩, rfl⟩⟩
  have hlive : ∀ i o, (st.frz n q).obj i = some o → o.live → i ≠ .s n ∧ ∃ o', st.obj i = some o' ∧ o'.live := by
    intro i o h hl
    obtain ⟨h1, o', h2, h3⟩ := hobj i o h
    rcases h3 with ⟨_, rfl⟩ | ⟨_, rfl⟩
    · exact ⟨h1, o', h2, (frzO_live _ _ _).1 hl⟩
    · exact ⟨h1, _, h2, hl⟩
  refine ⟨E', ⟨?_, fun k => ?_, S.defers, fun i o h => ?_, fun i i' o o' b h h' hl hl' hb hb' => ?_, fun i o b h hl' hb => ?_, fun b hb => ?_, fun i o h => ?_, S.keep, fun i o b h hl' hb => ?_⟩, ?_⟩
  · show llen (lmap _ st.r) ≤ _
    rw [llen_lmap]; exact S.len
  · show R2 w E' _ false (nth .bad (lmap (Pv.frz n q) st.r) k) _
    rw [nth_lmap' _ _ rfl]; exact frz_ok hF (fun _ => rfl) hq (S.slot k)
  · obtain ⟨_, o', h2, h3⟩ := hobj i o h
    rcases h3 with ⟨_, rfl⟩ | ⟨_, rfl⟩
    · exact (S.ok i o' h2).frz hF (fun _ => rfl) hq
    · exact (S.ok i _ h2).mono (fun _ _ => rfl) hF (fun _ => rfl) (fun _ _ => rfl)
  · obtain ⟨_, o1, h1, l1⟩ := hlive i o h hl
    obtain ⟨_, o2, h2, l2⟩ := hlive i' o' h' hl'
    exact S.apart i i' o1 o2 b h1 h2 l1 l2 hb hb'
  · obtain ⟨hne, o1, h1, l1⟩ := hlive i o h hl'
    obtain ⟨g1, g2⟩ := S.out i o1 b h1 l1 hb
    refine ⟨fun hf => ?_, g2⟩
    rcases hf with hf | hf
    · exact g1 hf
    · exact hne (S.apart i (.s n) o1 _ b h1 ho l1 hl hb hf)
  · rcases hb with hb | hb
    · exact S.F b hb
    · exact (hbn b hb).2
  · obtain ⟨_, o', h2, h3⟩ := hobj i o h
    have := S.tidy i o' h2
    rcases h3 with ⟨⟨m, rfl⟩, rfl⟩ | ⟨_, rfl⟩
    · cases o' <;> first | exact this | trivial
    · exact this
  · obtain ⟨hne, o1, h1, l1⟩ := hlive i o h hl'
    exact S.lt i o1 b h1 l1 hb
  · refine ⟨fun _ _ => rfl, rfl, llen_lmap _ _, fun _ _ => rfl, hF, fun b hb => ?_, fun _ _ => rfl, Nat.le_refl _, fun _ h => h, fun _ h => List.mem_cons_of_mem _ h, fun m o hm hu => ?_, fun _ _ _ _ _ _ _ _ => rfl⟩
    · rcases hb with hb | hb
      · exact .inl hb
      · exact .inr (hbn b hb).1
    · refine ⟨frzO n q o, ?_, frzO_live _ _ _⟩
      show look (frzH n _ st.h) m = _
      have : m ≠ n := fun e => hu (by rw [e]; exact List.mem_cons_self ..)
      rw [look_frzH, if_neg this, hm]; rfl
/-- a row's value, as one that stays -/
theorem row_stays {E1 : Env} {B n z : Nat} {f : Bool} {α : Type} {e : α → List PV} {d : α} {xs : List α} (hok : ObjOK w E B (.s n) (.row f z α e d xs)) (ht : ∀ x k, k < z → CellOK (nth .bad (e x) k)) {G : Nat → Prop} (hF : ∀ b, E.F b → (f = true → B ≤ b) → G b) (hft : ∀ b, (E.hd (.s n)).ft b → (f = true → B ≤ b) → G b)
    {v : Value} (hv : R0 w E1 B false (.sl (.s n)) v) (hh : E1.hd (.s n) = E.hd (.s n)) : Fz w G (.fl f z α e d xs) v := by
  obtain ⟨A, c, g1, g2, g4, g5, g6⟩ := hok
  obtain ⟨A', n', c', h1, rfl⟩ := hv
  rw [hh, g1] at h1; cases h1
  rcases Nat.eq_zero_or_pos c with hc | hc
  · exact .fl f z α e d xs A c 0 0 (fun _ _ => .nilIface) g2 (fun _ => g4) g5 (fun h => by omega) (fun j k h => by omega) (fun j k h => by omega)
  · obtain ⟨b, off, vs, ty, fz, rfl, hf, hB, h7, h8, h9, h10⟩ := g6 hc
    refine .fl f z α e d xs _ c b off (fun j k => vs.getD (off + (j * z + k)) undef) g2 (fun _ => g4) g5 (fun _ => ⟨rfl, hft b hf hB⟩) (fun j k hj hk => ?_) (fun j k hj hk => ?_)
    · have : (j + 1) * z ≤ xs.length * z := Nat.mul_le_mul_right _ hj
      have h2 : xs.length * z ≤ c * z := Nat.mul_le_mul_right _ g2
      rw [Nat.add_mul, Nat.one_mul] at this
      exact cell_at h7 (by omega)
    · have hc := h10 j k hj hk
      have hz := (ht (xs.getD j d) k hk).2.2.2
      have hpf := (ht (xs.getD j d) k hk).2.1
      generalize nth PV.bad (e (xs.getD j d)) k = q at hc hz hpf
      have fz : ∀ {q : PV} {u : Value}, pfl q = false → Fz w (E.G B (f || pfl q)) q u → Fz w G q u := by
        intro q u hq hh
        rw [hq, Bool.or_false] at hh
        exact hh.mono (fun _ _ => rfl) (fun b hb => hF b hb.1 hb.2)
      cases q with
      | i k n => exact fz (q := .i k n) hpf hc
      | b x => exact fz (q := .b x) hpf hc
      | tt => exact fz (q := .tt) hpf hc
      | ff => exact fz (q := .ff) hpf hc
      | s x => exact fz (q := .s x) hpf hc
      | nil => exact fz (q := .nil) hpf hc
      | np => exact fz (q := .np) hpf hc
      | fl f z α e d xs => exact fz (q := .fl f z α e d xs) hpf hc
      | fll f z els => exact fz (q := .fll f z els) hpf hc
      | fp f cs => exact fz (q := .fp f cs) hpf hc
      | _ => cases hz
theorem deep_stays {E1 : Env} {B n z : Nat} {α : Type} {e : α → List PV} {d : α} {xs : List α} (hok : ObjOK w E B (.s n) (.deep z α e d xs)) {G : Nat → Prop} (hft : ∀ b, (E.hd (.s n)).ft b → G b)
    {v : Value} (hv : R0 w E1 B false (.sl (.s n)) v) (hh : E1.hd (.s n) = E.hd (.s n)) : Fz w G (.fl false z α e d xs) v := by
  obtain ⟨ow, h1⟩ := hok
  obtain ⟨A, k, c, g1, rfl⟩ := hv
  rw [hh] at g1
  rw [g1] at h1
  exact h1.fz.mono (fun _ _ => rfl) hft
theorem Sim.frz (S : Sim w0 W0 st a w E) {n z : Nat} {f : Bool} {α : Type} {e : α → List PV} {d : α} {xs : List α} (ho : look st.h n = some (.row f z α e d xs)) :
    ∃ E', Sim w0 W0 (st.frz n (.fl f z α e d xs)) a w E' ∧ Fr (New w0 W0) [] st a w E (st.frz n (.fl f z α e d xs)) a w E' :=
  S.frz0 ho trivial fun v hv => row_stays (S.ok (.s n) _ ho) (S.tidy (.s n) _ ho) (fun b hb hf => ⟨.inl hb, fun h => hf (by simpa [pfl] using h)⟩) (fun b hb hf => ⟨.inr hb, fun h => hf (by simpa [pfl] using h)⟩) hv rfl
theorem Sim.frzD (S : Sim w0 W0 st a w E) {n z : Nat} {α : Type} {e : α → List PV} {d : α} {xs : List α} (ho : look st.h n = some (.deep z α e d xs)) :
    ∃ E', Sim w0 W0 (st.frz n (.fl false z α e d xs)) a w E' ∧ Fr (New w0 W0) [] st a w E (st.frz n (.fl false z α e d xs)) a w E' :=
  S.frz0 ho trivial fun v hv => deep_stays (S.ok (.s n) _ ho) (fun b hb => ⟨.inr hb, fun h => by cases h⟩) hv rfl
/-- a literal row's value, as one that stays -/
theorem rowl_stays {E1 : Env} {B n z : Nat} {els : List (List PV)} (hok : ObjOK w E B (.s n) (.rowl z els)) (hz : ∀ x, x ∈ els → allB isFz x = true) {G : Nat → Prop} (hF : ∀ b, E.F b → G b) (hft : ∀ b, (E.hd (.s n)).ft b → G b)
    {v : Value} (hv : R0 w E1 B false (.sl (.s n)) v) (hh : E1.hd (.s n) = E.hd (.s n)) : Fz w G (.fll false z els) v := by
  obtain ⟨b, vs, ty, fz, c, g1, g2, g3, g4, gf, _, g5, g6, g7, g8⟩ := hok
  obtain ⟨A', n', c', h1, rfl⟩ := hv
  rw [hh, g1] at h1; cases h1
  refine .fll false z els _ c b 0 (fun j k => vs.getD (j * z + k) undef) g2 g3 g4 (fun _ => ⟨rfl, hft b gf⟩) (fun j k hj hk => ?_) (fun j k hj hk => ?_)
  · have : (j + 1) * z ≤ els.length * z := Nat.mul_le_mul_right _ hj
    have h2 : els.length * z ≤ c * z := Nat.mul_le_mul_right _ g2
    rw [Nat.add_mul, Nat.one_mul] at this
    rw [Nat.zero_add]
    exact cell_at g5 (by omega)
  · have hm : els.getD j [] ∈ els := by
      have : els.getD j [] = els[j] := by simp [List.getD, hj]
      rw [this]; exact List.getElem_mem _
    exact Fz.of_R0 hF (g8 j k hj hk) (allB_iff (hz _ hm) k (by rw [g3 _ hm]; exact hk))
theorem Sim.frzR (S : Sim w0 W0 st a w E) {n z : Nat} {els : List (List PV)} (ho : look st.h n = some (.rowl z els)) (hz : allFz els = true) :
    ∃ E', Sim w0 W0 (st.frz n (.fll false z els)) a w E' ∧ Fr (New w0 W0) [] st a w E (st.frz n (.fll false z els)) a w E' :=
  S.frz0 ho trivial fun v hv => rowl_stays (S.ok (.s n) _ ho) (allFz_iff hz) (fun b hb => ⟨.inl hb, fun h => by cases h⟩) (fun b hb => ⟨.inr hb, fun h => by cases h⟩) hv rfl
theorem frzS_sound : ∀ (l : List Nat) {st : St} {E : Env}, Sim w0 W0 st a w E → ∃ E', Sim w0 W0 (frzS l st) a w E' ∧ Fr (New w0 W0) [] st a w E (frzS l st) a w E'
  | [], st, E, S => ⟨E, S, Fr.refl ..⟩
  | n :: l, st, E, S => by
    simp only [frzS]
    split
    · rename_i f z α e d xs ho
      obtain ⟨E1, S1, F1⟩ := S.frz ho
      obtain ⟨E2, S2, F2⟩ := frzS_sound l S1
      exact ⟨E2, S2, F1.trans F2⟩
    · rename_i z α e d xs ho
      obtain ⟨E1, S1, F1⟩ := S.frzD ho
      obtain ⟨E2, S2, F2⟩ := frzS_sound l S1
      exact ⟨E2, S2, F1.trans F2⟩
    · rename_i z els ho
      split
      · rename_i hz
        obtain ⟨E1, S1, F1⟩ := S.frzR ho hz
        obtain ⟨E2, S2, F2⟩ := frzS_sound l S1
        exact ⟨E2, S2, F1.trans F2⟩
      · exact frzS_sound l S
    · exact frzS_sound l S
theorem frzL_sound : ∀ (l : List Nat) {st : St} {E : Env}, Sim w0 W0 st a w E → ∃ E', Sim w0 W0 (frzL l st) a w E' ∧ Fr (New w0 W0) [] st a w E (frzL l st) a w E'
  | [], st, E, S => ⟨E, S, Fr.refl ..⟩
  | n :: l, st, E, S => by
    simp only [frzL]
    split
    · rename_i z els ho
      split
      · rename_i hz
        obtain ⟨E1, S1, F1⟩ := S.frzR ho hz
        obtain ⟨E2, S2, F2⟩ := frzL_sound l S1
        exact ⟨E2, S2, F1.trans F2⟩
      · exact frzL_sound l S
    · exact frzL_sound l S
theorem frzCall_sound (C : Cx) (f : FuncId) (args : List PV) (S : Sim w0 W0 st a w E) : ∃ E', Sim w0 W0 (frzCall C f args st) a w E' ∧ Fr (New w0 W0) [] st a w E (frzCall C f args st) a w E' := by
  unfold frzCall
  split
  · exact ⟨E, S, Fr.refl ..⟩
  · split
    · exact frzS_sound _ S
    · exact ⟨E, S, Fr.refl ..⟩
theorem frzPre_sound (C : Cx) (S : Sim w0 W0 st a w E) (o : Oper) : ∃ E', Sim w0 W0 (frzPre C o st) a w E' ∧ Fr (New w0 W0) [] st a w E (frzPre C o st) a w E' := by
  unfold frzPre
  split
  · exact frzL_sound _ S
  · split
    · exact frzCall_sound C _ _ S
    · exact ⟨E, S, Fr.refl ..⟩
  · exact frzS_sound _ S
  · split
    · exact frzS_sound _ S
    · exact ⟨E, S, Fr.refl ..⟩
  · exact ⟨E, S, Fr.refl ..⟩
end
end Pv

/- Regions: their condition is sound. -/
namespace Pv
open Go
section
variable {C : Cx} {w0 : World} {W0 : Nat → Prop} {st : St} {a : Act} {w : World} {E : Env} {K : St → Prop} {Q : Exit → Act → World → Prop} {o : Oper}
theorem Done.mono {W : List Nat} {K' : St → Prop} (h : ∀ st, K st → K' st) {a' : Act} {w' : World} : Done w0 W0 W st a w E K a' w' → Done w0 W0 W st a w E K' a' w'
  | ⟨st', E', h1, h2, h3⟩ => ⟨st', E', h st' h1, h2, h3⟩
/-- a slot's value in other words -/
theorem Sim.reslot (S : Sim w0 W0 st a w E) {d : Nat} {p : PV} (h : R2 w E w0.heap.size false p (a.tmps.getD d undef)) : Sim w0 W0 (st.put (some d) p) a w E := by
  refine ⟨by show llen (upd st.r d p) ≤ _; rw [llen_upd]; exact S.len, fun k => ?_, S.defers, S.ok, S.apart, S.out, S.F, S.tidy, S.keep, S.lt⟩
  show R2 w E _ false (nth .bad (upd st.r d p) k) _
  by_cases hk : k = d
  · subst hk
    by_cases hl : k < llen st.r
    · rw [nth_upd_same _ _ _ _ hl]; exact h
    · rw [nth_out _ _ _ (by rw [llen_upd]; omega)]; trivial
  · rw [nth_upd _ _ _ _ _ hk]; exact S.slot k
theorem Fr.reslot {W : List Nat} {st1 : St} {a1 : Act} {w1 : World} {E1 : Env} (F : Fr (New w0 W0) W st a w E st1 a1 w1 E1) (d : Nat) (p : PV) : Fr (New w0 W0) W st a w E (st1.put (some d) p) a1 w1 E1 :=
  ⟨F.tmp, F.size, (llen_upd _ _ _).trans F.len, F.hd, F.F1, F.F2, F.Fb, F.hs, F.t, F.u, F.dom, F.blk⟩
theorem upd_upd (d : Nat) (p q : PV) : ∀ r : List PV, upd (upd r d p) d q = upd r d q := by
  induction d with
  | zero => intro r; cases r <;> rfl
  | succ d ih => intro r; cases r with
    | nil => rfl
    | cons x r => simp [upd, ih r]
theorem put_put (st : St) (d : Nat) (p q : PV) : (st.put (some d) p).put (some d) q = st.put (some d) q := by
  show { st with r := upd (upd st.r d p) d q } = { st with r := upd st.r d q }
  rw [upd_upd]
theorem run_sound (hC : CxOK C) {all : List Oper} {i : Nat} (S : Sim w0 W0 st a w E) (h : vcG.run C all i o st K) : o.wp C.P a w (Done w0 W0 o.dst.toList st a w E K) Q := by
  unfold vcG.run at h
  split at h
  · split at h
    · have h' : vcV C o.op (evl st.r) st.h fun v => (fun st' => ∃ v, st' = st.put o.dst v ∧ splitV v (fun v => K (st.put o.dst v))) (st.put o.dst v) := V_mono (fun v hv => ⟨v, rfl, hv⟩) h
      refine Oper.wp_mono (fun a1 w1 hd => ?_) (v_sound (K := fun st' => ∃ v, st' = st.put o.dst v ∧ splitV v (fun v => K (st.put o.dst v))) hC S h')
      obtain ⟨st1, E1, ⟨v, rfl, hv⟩, S1, F1⟩ := hd
      unfold splitV at hv
      split at hv
      · rename_i x
        cases hds : o.dst with
        | none =>
          rw [hds] at hv S1 F1
          cases x with
          | true => exact ⟨_, E1, hv.1 rfl, S1, F1⟩
          | false => exact ⟨_, E1, hv.2 rfl, S1, F1⟩
        | some d =>
          rw [hds] at hv S1 F1
          have hs := S1.slot d
          by_cases hl : d < llen st.r
          · have hn : nth .bad (st.put (some d) (.b x)).r d = .b x := nth_upd_same _ _ _ _ hl
            rw [hn] at hs
            have hvv := hs.b
            cases x with
            | true =>
              refine ⟨_, E1, hv.1 rfl, ?_, ?_⟩
              · have := S1.reslot (d := d) (p := .tt) (by rw [hvv]; exact R2tt)
                rwa [put_put] at this
              · have := F1.reslot d .tt
                rwa [put_put] at this
            | false =>
              refine ⟨_, E1, hv.2 rfl, ?_, ?_⟩
              · have := S1.reslot (d := d) (p := .ff) (by rw [hvv]; exact R2ff)
                rwa [put_put] at this
              · have := F1.reslot d .ff
                rwa [put_put] at this
          · have hout : ∀ p, st.put (some d) p = st := fun p => by
              show { st with r := upd st.r d p } = st
              rw [upd_eq, List.set_eq_of_length_le (by have := Nat.le_of_not_lt hl; rw [llen_eq] at this; exact this)]
            rw [hout] at S1 F1
            simp only [hout] at hv
            cases x with
            | true => exact ⟨_, E1, hv.1 rfl, S1, F1⟩
            | false => exact ⟨_, E1, hv.2 rfl, S1, F1⟩
      · exact ⟨_, E1, hv, S1, F1⟩
    · exact h.elim
  · exact op_sound hC S h
def bof : Value → Option Bool
  | .bool b => some b
  | _ => none
theorem yielded_eq {ops : Array Oper} {j d : Nat} (hd : dstOf ops.toList j = some d) {v : Value} (hv : a.tmps.getD d undef = v) : yielded ops a.tmps j = bof v := by
  have hd' : (ops[j]?).bind (·.dst) = some d := by
    unfold dstOf at hd
    cases hj : ops[j]? with
    | none => simp [hj] at hd
    | some o => simp [hj] at hd; simp [hd]
  unfold yielded
  rw [hd']
  simp only [Option.bind_some]
  subst hv
  cases ht : a.tmps[d]? with
  | none =>
    have : a.tmps.getD d undef = undef := by simp [ht]
    rw [this]; rfl
  | some v => 
    have : a.tmps.getD d undef = v := by simp [ht]
    rw [this]; cases v <;> rfl
/-- an operation of a region, with its guard -/
theorem guard_sound (hC : CxOK C) {ops : Array Oper} {i : Nat} (S : Sim w0 W0 st a w E) (h : vcG C ops.toList i o st K) {next : Act → World → Prop} (hn : ∀ a' w', Done w0 W0 o.dst.toList st a w E K a' w' → next a' w') :
    if Region.wanted o (yielded ops a.tmps) then o.wp C.P a w next Q ∨ (o.asks C.P a w ∧ LetsOut Q) else next (a.put o.dst undef) w := by
  have hrun : vcG.run C ops.toList i o st K → o.wp C.P a w next Q ∨ (o.asks C.P a w ∧ LetsOut Q) := fun h => .inl (Oper.wp_mono hn (run_sound hC S h))
  have hskip : K (st.put o.dst (.tup [])) → next (a.put o.dst undef) w := fun h => hn _ _ ⟨_, E, h, S.put o.dst ⟨#[], rfl, rfl, fun k hk => by simp [llen] at hk⟩, Fr.put o.dst _ _⟩
  unfold vcG at h
  unfold Region.wanted
  split at h
  · rename_i hg; rw [hg]; simp only [if_true]; exact hrun h
  · rename_i j want hg
    rw [hg]
    split at h
    · exact h.elim
    · rename_i d hd
      have hs := S.slot d
      split at h
      · rename_i hp
        rw [hp] at hs
        simp only [yielded_eq hd hs.tt]
        cases want with
        | true => exact hrun h
        | false => exact hskip h
      · rename_i hp
        rw [hp] at hs
        simp only [yielded_eq hd hs.ff]
        cases want with
        | true => exact hskip h
        | false => exact hrun h
      · rename_i hp
        rw [hp] at hs
        obtain ⟨vs, hv, _⟩ := hs
        simp only [yielded_eq hd hv]
        exact hskip h
      · exact h.elim
theorem ops_sound (hC : CxOK C) {ops : Array Oper} : ∀ (os : List Oper) (i : Nat) {st : St} {a : Act} {w : World} {E : Env}, ops.toList.drop i = os → Sim w0 W0 st a w E → vcOps C ops.toList os i st K →
    (∀ a' w', Done w0 W0 (asgOps os) st a w E K a' w' → Q .normal a' w') → wpOps C.P ops Q (List.range' i os.length) a w
  | [], i, st, a, w, E, _, S, h, hQ => hQ a w ⟨st, E, h, S, Fr.refl ..⟩
  | o :: os, i, st, a, w, E, hd, S, h, hQ => by
    have hi : ops[i]? = some o := by
      have : (ops.toList.drop i)[0]? = some o := by rw [hd]; rfl
      simpa using this
    have hd' : ops.toList.drop (i + 1) = os := by rw [← List.drop_drop, hd]; rfl
    show wpOps C.P ops Q (i :: List.range' (i + 1) os.length) a w
    rw [wpOps_cons]
    unfold wpOp
    simp only [hi]
    obtain ⟨E0, S0, F0⟩ := frzPre_sound C S o
    refine guard_sound hC S0 h (fun a1 w1 ⟨st1, E1, h1, S1, F1⟩ => ?_)
    refine ops_sound hC os (i + 1) hd' S1 h1 (fun a' w' ⟨st', E', h2, S2, F2⟩ => hQ a' w' ⟨st', E', h2, S2, ?_⟩)
    refine ((F0.trans F1).trans F2).weak (fun n hn => ?_)
    rw [List.nil_append] at hn
    simp only [asgOps]
    cases hds : o.dst with
    | none => rw [hds] at hn; simpa using hn
    | some d => rw [hds] at hn; simpa using hn
theorem region_sound (hC : CxOK C) {id : Nat} {ops : Array Oper} (S : Sim w0 W0 st a w E) (h : vcOps C ops.toList ops.toList 0 st K)
    (hQ : ∀ a' w', Done w0 W0 (asgOps ops.toList) st a w E K a' w' → Q .normal a' w') : (Code.region id ops false).wp C.P Q a w := by
  refine wp_region ?_
  have := ops_sound hC (ops := ops) ops.toList 0 rfl S h hQ
  rwa [Array.length_toList, ← List.range_eq_range'] at this
end
end Pv

/- Regions that draw their order. -/
namespace Pv
open Go
section
variable {C : Cx} {all : List Oper} {st : St} {K : St → Prop} {o p : Oper} {i j : Nat}

/-! ### conditions are monotone -/
theorem mono_CallV {h : List (Nat × Obj)} {f : FuncId} {args : List PV} : Mono (vcCallV C h f args) := (good_CallV C h f args).1
theorem mono_Hand {dst : Option Nat} {f : FuncId} {args : List PV} {c : CallK} {outs : Nat → c.ρ → List (Nat × Obj)} {l : List Nat} : Mono (vcHand C dst st f args c outs l) := by
  intro K K' hk
  unfold vcHand
  split
  · rintro ⟨r, h1, h2⟩
    refine ⟨r, h1, ?_⟩
    split at h2
    · exact hk _ h2
    · exact h2
  · exact id
theorem mono_Call {dst : Option Nat} {f : FuncId} {args : List PV} : Mono (vcCall C dst st f args) := by
  intro K K' hk
  unfold vcCall
  split
  · exact id
  · split
    · exact mono_CallV _ _ (fun v => hk _)
    · split
      · exact mono_Hand _ _ hk
      · split
        · rintro ⟨r, h1, h2⟩
          refine ⟨r, h1, ?_⟩
          split at h2
          · exact hk _ h2
          · exact h2
        · exact id
theorem mono_Append {dst : Nat} {t tx : TypeId} {s x : PV} : Mono (vcAppend C dst st t tx s x) := by
  intro K K' hk
  unfold vcAppend
  split
  · exact id
  · split
    · split
      · exact id
      · split
        · split
          · split
            · rintro ⟨ys, h1, h2, h3⟩; exact ⟨ys, h1, h2, hk _ h3⟩
            · exact id
          · exact id
        · split
          · split
            · rintro ⟨ys, h1, h2, h3⟩; exact ⟨ys, h1, h2, hk _ h3⟩
            · exact id
          · exact id
        · exact id
    · exact id
theorem mono_Shift {dst : Nat} {t tx : TypeId} {n z i : Nat} {x : PV} : Mono (vcShift C dst st t tx n z i x) := by
  intro K K' hk
  unfold vcShift
  split
  · split
    · split
      · split
        · rintro ⟨h1, h2, h3⟩; exact ⟨h1, h2, hk _ h3⟩
        · exact id
      · exact id
    · exact id
  · exact id
theorem mono_App {dst : Nat} {t tx : TypeId} {s x : PV} : Mono (vcApp C dst st t tx s x) := by
  intro K K' hk
  unfold vcApp
  split
  · exact mono_Shift _ _ hk
  · exact mono_Append _ _ hk
theorem mono_Clear {t : TypeId} {x : PV} : Mono (vcClear C st t x) := by
  intro K K' hk
  unfold vcClear
  split
  · split
    · split
      · split
        · rintro ⟨y, h1, h2, h3, h4⟩; exact ⟨y, h1, h2, h3, hk _ h4⟩
        · exact id
      · exact id
    · exact id
  · exact id
theorem mono_Build0 {dst : Option Nat} {t : TypeId} : Mono (vcBuild0 C dst st t) := by
  intro K K' hk
  unfold vcBuild0
  split
  · exact id
  · split
    · split
      · split
        · exact hk _
        · exact id
      · exact id
    · exact id
theorem mono_M : Mono (vcM C o st) := by
  intro K K' hk
  unfold vcM
  split
  · split
    · split
      · exact hk _
      · exact id
    · exact id
  · split
    · split
      · exact id
      · exact id
      · exact id
      · exact hk _
    · exact id
  · split
    · split
      · rintro ⟨f, h1, h2, h3⟩; exact ⟨f, h1, h2, hk _ h3⟩
      · exact id
    · exact id
  · split
    · split
      · rintro ⟨z, h1, h2, h3⟩; exact ⟨z, h1, h2, hk _ h3⟩
      · exact id
    · exact id
  · split
    · exact mono_Build0 _ _ hk
    · exact id
    split
    · split
      · split
        · split
          · split
            · exact hk _
            · exact id
          · exact id
        · exact id
      · exact id
    · exact id
  · exact (good_Store C _ st.h _ _).1 (fun q => K ((st.setH q.1 q.2).put o.dst (.tup []))) (fun q => K' ((st.setH q.1 q.2).put o.dst (.tup []))) (fun q => hk _)
  · split
    · split
      · split
        · exact fun ⟨h1, h2⟩ => ⟨h1, hk _ h2⟩
        · exact id
      · exact id
    · exact id
  · split
    · split
      · rintro ⟨h1, h2, h3, h4⟩
        refine ⟨h1, h2, h3, ?_⟩
        split at h4
        · split at h4
          · obtain ⟨x, h5, h6⟩ := h4; exact ⟨x, h5, hk _ h6⟩
          · exact h4
        · exact h4
      · exact id
    · exact id
  · split
    · exact mono_Call _ _ hk
    · split
      · exact mono_Call _ _ hk
      · exact id
    · split
      · exact mono_App _ _ hk
      · exact id
    · split
      · exact mono_Clear _ _ (fun st => hk _)
      · exact id
    · exact id
  · exact id
theorem mono_Op : Mono (vcOp C o st) := by
  intro K K' hk
  unfold vcOp
  split
  · exact V_mono (fun v => hk _)
  · exact mono_M _ _ hk
theorem split_mono {v : PV} {T T' : PV → Prop} (hk : ∀ v, T v → T' v) : splitV v T → splitV v T' := by
  unfold splitV
  split
  · exact fun ⟨h1, h2⟩ => ⟨fun e => hk _ (h1 e), fun e => hk _ (h2 e)⟩
  · exact hk _
theorem mono_G : Mono (vcG C all i o st) := by
  intro K K' hk
  have run : vcG.run C all i o st K → vcG.run C all i o st K' := by
    unfold vcG.run
    split
    · split
      · exact V_mono (fun v => split_mono fun v => hk _)
      · exact id
    · exact mono_Op _ _ hk
  unfold vcG
  split
  · exact run
  · split
    · exact id
    · split
      · split
        · exact run
        · exact hk _
      · split
        · exact hk _
        · exact run
      · exact hk _
      · exact id
theorem mono_I : Mono (vcI C all i st) := by
  intro K K' hk
  unfold vcI
  split
  · exact id
  · exact mono_G _ _ hk

/-! ### an operation that gives a value, or stores: what it does -/
abbrev Eff : Type 1 := Option (Nat × Obj) × PV
def ap (dst : Option Nat) (q : Eff) (st : St) : St := (match q.1 with | some (n, ob) => st.setH n ob | none => st).put dst q.2
def gX (C : Cx) (all : List Oper) (i : Nat) (o : Oper) (r : List PV) (h : List (Nat × Obj)) (K : Eff → Prop) : Prop :=
  match o.guard with
  | none => run
  | some (j, want) => match dstOf all j with
    | none => False
    | some d => match nth .bad r d with
      | .tt => match want with | true => run | false => K (none, .tup [])
      | .ff => match want with | true => K (none, .tup []) | false => run
      | .tup [] => K (none, .tup [])
      | _ => False
where run : Prop := match isG i all with
  | true => match isV C o.op with
    | true => vcV C o.op (evl r) h fun v => splitV v fun v => K (none, v)
    | false => False
  | false => match isV C o.op with
    | true => vcV C o.op (evl r) h fun v => K (none, v)
    | false => match o.op with
      | .store t x y => vcStore C t h (evl r x) (evl r y) fun n ob => K (some (n, ob), .tup [])
      | _ => False
def fine (C : Cx) (op : Op) : Bool := match isP C op with | true => true | false => isStore op
theorem isP_V {op : Op} (h : isP C op = true) : isV C op = true := by
  unfold isP at h
  split at h
  · cases h
  · assumption
theorem gX_iff (hf : fine C o.op = true) : vcG C all i o st K ↔ gX C all i o st.r st.h fun q => K (ap o.dst q st) := by
  have run : vcG.run C all i o st K ↔ gX.run C all i o st.r st.h fun q => K (ap o.dst q st) := by
    unfold vcG.run gX.run vcOp
    cases hg : isG i all with
    | true => exact Iff.rfl
    | false =>
      simp only
      cases hv : isV C o.op with
      | true => exact Iff.rfl
      | false =>
        simp only
        have hs : isStore o.op = true := by
          unfold fine at hf
          split at hf
          · rename_i hp; rw [isP_V hp] at hv; cases hv
          · exact hf
        unfold vcM
        cases ho : o.op <;> rw [ho] at hs <;> first | (cases hs; done) | exact Iff.rfl
  unfold vcG gX
  cases o.guard with
  | none => exact run
  | some q =>
    obtain ⟨j, want⟩ := q
    simp only
    cases dstOf all j with
    | none => exact Iff.rfl
    | some d =>
      simp only
      generalize nth .bad st.r d = g
      cases g with
      | tt => cases want with
        | true => exact run
        | false => exact Iff.rfl
      | ff => cases want with
        | true => exact Iff.rfl
        | false => exact run
      | tup l => cases l <;> exact Iff.rfl
      | _ => exact Iff.rfl
theorem good_split {T : (PV → Prop) → Prop} (h : Good T) : Good fun K => T fun v => splitV v K := by
  refine ⟨fun K K' hk hT => h.1 _ _ (fun v => split_mono hk) hT, fun K hT => ?_⟩
  obtain ⟨v, h1, h2⟩ := h.2 _ hT
  unfold splitV at h2
  split at h2
  · rename_i x
    cases x with
    | true => exact ⟨.tt, h.1 _ _ (fun u hu => by subst hu; exact ⟨fun _ => rfl, fun e => (by cases e)⟩) h1, h2.1 rfl⟩
    | false => exact ⟨.ff, h.1 _ _ (fun u hu => by subst hu; exact ⟨fun e => (by cases e), fun _ => rfl⟩) h1, h2.2 rfl⟩
  · rename_i hn
    refine ⟨v, h.1 _ _ (fun u hu => ?_) h1, h2⟩
    subst hu
    unfold splitV
    split
    · exact absurd rfl (hn _)
    · rfl
theorem good_X (hf : fine C o.op = true) (r : List PV) (h : List (Nat × Obj)) : Good (gX C all i o r h) := by
  have hP : isV C o.op = true → isP C o.op = true := by
    intro hv
    unfold fine at hf
    split at hf
    · assumption
    · unfold isStore at hf
      split at hf
      · rename_i heq; rw [heq] at hv; cases hv
      · cases hf
  have run : Good fun K => gX.run C all i o r h K := by
    unfold gX.run
    cases isG i all with
    | true =>
      simp only
      cases hv : isV C o.op with
      | true => exact good_comp (good_split ((good_V C o.op (evl r) h).2 (hP hv))) (fun v => ((none, v) : Eff))
      | false => exact good_no
    | false =>
      simp only
      cases hv : isV C o.op with
      | true => exact good_comp ((good_V C o.op (evl r) h).2 (hP hv)) (fun v => ((none, v) : Eff))
      | false =>
        simp only
        cases o.op <;> first | exact good_no | exact good_comp (good_Store ..) (fun q => ((some q, .tup []) : Eff))
  unfold gX
  cases o.guard with
  | none => exact run
  | some q =>
    obtain ⟨j, want⟩ := q
    simp only
    cases dstOf all j with
    | none => exact good_no
    | some d =>
      simp only
      split
      · cases want with
        | true => exact run
        | false => exact good_ret _
      · cases want with
        | true => exact good_ret _
        | false => exact run
      · exact good_ret _
      · exact good_no

/-! ### what an operation looks at -/
theorem evls_congr {ρ ρ' : Operand → PV} : ∀ {l : List Operand}, (∀ x, x ∈ l → ρ x = ρ' x) → evls ρ l = evls ρ' l
  | [], _ => rfl
  | x :: l, h => by simp only [evls]; rw [h x (List.mem_cons_self ..), evls_congr (l := l) fun y hy => h y (List.mem_cons_of_mem _ hy)]
theorem evlp_congr {ρ ρ' : Operand → PV} : ∀ {l : List (Nat × Operand)}, (∀ x, x ∈ l.map (·.2) → ρ x = ρ' x) → evlp ρ l = evlp ρ' l
  | [], _ => rfl
  | (i, x) :: l, h => by simp only [evlp]; rw [h x (List.mem_cons_self ..), evlp_congr (l := l) fun y hy => h y (List.mem_cons_of_mem _ hy)]
theorem V_congr {op : Op} {ρ ρ' : Operand → PV} {h : List (Nat × Obj)} (hx : ∀ x, x ∈ op.operands.toList → ρ x = ρ' x) : vcV C op ρ h = vcV C op ρ' h := by
  funext K
  cases op <;> simp only [Op.operands] at hx
  case move x => simp only [vcV, hx x (by simp)]
  case assign x => simp only [vcV, hx x (by simp)]
  case pick c a b => simp only [vcV, hx c (by simp), hx a (by simp), hx b (by simp)]
  case build t ps => simp only [vcV]; rw [evlp_congr (ρ' := ρ') (fun x hm => hx x (by simpa using hm))]
  case load t x => simp only [vcV, hx x (by simp)]
  case nilCheck x => simp only [vcV, hx x (by simp)]
  case binOp op t x y ty => simp only [vcV, hx x (by simp), hx y (by simp)]
  case unOp op t x => simp only [vcV, hx x (by simp)]
  case convert s d x => simp only [vcV, hx x (by simp)]
  case makeFunc fn first cap => simp only [vcV]; rw [evls_congr (ρ' := ρ') (fun x hm => hx x (by simp at hm ⊢; exact .inr hm))]
  case slice t x lo hi mx =>
    have h1 : omap ρ lo = omap ρ' lo := by cases lo with
      | none => rfl
      | some y => simp only [omap, hx y (by simp)]
    have h2 : omap ρ hi = omap ρ' hi := by cases hi with
      | none => rfl
      | some y => simp only [omap, hx y (by simp)]
    cases mx with
    | none => simp only [vcV, hx x (by simp), h1, h2]
    | some m => simp only [vcV, hx x (by simp), hx m (by simp), h1, h2]
  case fieldAddr s x f => simp only [vcV, hx x (by simp)]
  case field s x f => simp only [vcV, hx x (by simp)]
  case indexAddr t x y => simp only [vcV, hx x (by simp), hx y (by simp)]
  case index t x y => simp only [vcV, hx x (by simp), hx y (by simp)]
  case lookup t x y ok => simp only [vcV, hx x (by simp), hx y (by simp)]
  case extract x n => simp only [vcV, hx x (by simp)]
  case call c => simp only [vcV]; rw [evls_congr (ρ' := ρ') (fun x hm => hx x (by simp [Call.operands] at hm ⊢; exact .inr hm))]
  all_goals rfl
theorem V_isS {op : Op} {ρ : Operand → PV} {h h' : List (Nat × Obj)} (hs : isS op = true) : vcV C op ρ h = vcV C op ρ h' := by
  cases op <;> first | rfl | (cases hs; done) | skip
  rename_i c
  funext K
  simp only [isS] at hs
  cases hc : c.callee <;> rw [hc] at hs <;> simp only [vcV, hc] <;> first | (cases hs; done) | skip
  rename_i b
  cases b <;> first | rfl | (cases hs; done)
theorem tmpsOf_mem {t : Nat} : ∀ {l : List Operand}, Operand.tmp t ∈ l → t ∈ tmpsOf l
  | x :: l, h => by
    rcases List.mem_cons.1 h with rfl | h
    · exact List.mem_cons_self ..
    · have := tmpsOf_mem h
      cases x <;> first | exact List.mem_cons_of_mem _ this | exact this
theorem X_congr {r r' : List PV} {h h' : List (Nat × Obj)} (hr : ∀ d, d ∈ looks all o → nth .bad r d = nth .bad r' d) (hh : h = h' ∨ (isV C o.op = true ∧ isS o.op = true)) : gX C all i o r h = gX C all i o r' h' := by
  funext K
  have hops : ∀ x, x ∈ o.op.operands.toList → evl r x = evl r' x := by
    intro x hx
    cases x with
    | tmp t =>
      refine hr t ?_
      have := tmpsOf_mem hx
      unfold looks
      split
      · exact this
      · split
        · exact List.mem_cons_of_mem _ this
        · exact this
    | _ => rfl
  have hV : vcV C o.op (evl r) h = vcV C o.op (evl r') h' := by
    rw [V_congr hops]
    rcases hh with rfl | ⟨_, hs⟩
    · rfl
    · exact V_isS hs
  have run : gX.run C all i o r h K = gX.run C all i o r' h' K := by
    unfold gX.run
    rw [hV]
    split
    · rfl
    · split
      · rfl
      · rename_i hv
        rcases hh with rfl | ⟨hv', _⟩
        · split
          · rename_i t x y ho
            rw [ho] at hops
            rw [hops x (by simp [Op.operands]), hops y (by simp [Op.operands])]
          · rfl
        · rw [hv'] at hv; cases hv
  unfold gX
  split
  · exact run
  · rename_i j want hg
    split
    · rfl
    · rename_i d hd
      have : nth .bad r d = nth .bad r' d := hr d (by unfold looks; rw [hg]; simp only [hd]; exact List.mem_cons_self ..)
      rw [this, run]

/-! ### two operations that do not mind each other -/
theorem put_comm (st : St) {x y : Option Nat} (v u : PV) (h : ∀ d e, x = some d → y = some e → d ≠ e) : (st.put x v).put y u = (st.put y u).put x v := by
  cases x with
  | none => rfl
  | some d =>
    cases y with
    | none => rfl
    | some e =>
      have hne := h d e rfl rfl
      show { st with r := upd (upd st.r d v) e u } = { st with r := upd (upd st.r e u) d v }
      rw [upd_eq, upd_eq, upd_eq, upd_eq, List.set_comm _ _ hne]
theorem ap_r {dst : Option Nat} {q : Eff} : (ap dst q st).r = (st.put dst q.2).r := by
  obtain ⟨q1, v⟩ := q
  cases q1 with
  | none => rfl
  | some q1 => cases dst <;> rfl
theorem ap_h {dst : Option Nat} {v : PV} : (ap dst (none, v) st).h = st.h := by cases dst <;> rfl
theorem ap_comm {x y : Option Nat} {v : PV} {q : Eff} (h : ∀ d e, x = some d → y = some e → d ≠ e) : ap y q (ap x (none, v) st) = ap x (none, v) (ap y q st) := by
  obtain ⟨q1, u⟩ := q
  cases q1 with
  | none => exact put_comm st v u h
  | some q1 =>
    obtain ⟨n, ob⟩ := q1
    show ((st.put x v).setH n ob).put y u = ((st.setH n ob).put y u).put x v
    rw [← put_comm (st.setH n ob) v u h]
    cases x <;> rfl
theorem X_none (hp : isP C o.op = true) {r : List PV} {h : List (Nat × Obj)} {q : Eff} (hq : gX C all i o r h fun u => u = q) : q.1 = none := by
  have hv := isP_V hp
  have vv : ∀ {T : PV → Prop}, vcV C o.op (evl r) h T → ∃ v, T v := fun h => let ⟨v, _, hv⟩ := ((good_V C o.op _ _).2 hp).2 _ h; ⟨v, hv⟩
  have run : gX.run C all i o r h (fun u => u = q) → q.1 = none := by
    unfold gX.run
    rw [hv]
    split
    · intro h
      obtain ⟨v, h⟩ := vv h
      unfold splitV at h
      split at h
      · rename_i x
        cases x with
        | true => rw [← h.1 rfl]
        | false => rw [← h.2 rfl]
      · rw [← h]
    · intro h
      obtain ⟨v, h⟩ := vv h
      rw [← h]
  unfold gX at hq
  split at hq
  · exact run hq
  · split at hq
    · exact hq.elim
    · split at hq
      · split at hq
        · exact run hq
        · rw [← hq]
      · split at hq
        · rw [← hq]
        · exact run hq
      · rw [← hq]
      · exact hq.elim
theorem commute_spec (h : commute C all o p = true) : (∀ d, o.dst = some d → d ∉ looks all p) ∧ (∀ d, p.dst = some d → d ∉ looks all o) ∧ (∀ d e, o.dst = some d → p.dst = some e → d ≠ e) ∧ isP C o.op = true ∧ (isP C p.op = true ∨ (isS o.op = true ∧ isStore p.op = true)) := by
  unfold commute at h
  split at h
  · cases h
  · rename_i ha
    unfold apartB at ha
    have hn : ∀ {d : Option Nat} {l : List Nat}, notIn d l = true → ∀ e, d = some e → e ∉ l := by
      intro d l hh e he
      subst he
      unfold notIn at hh
      simp only at hh
      split at hh
      · cases hh
      · rename_i hm; exact memN_false hm
    split at ha
    · rename_i h1 h2
      refine ⟨hn h1, hn h2, fun d e hd he heq => ?_, ?_⟩
      · rw [hd, he] at ha
        simp only [heq, Nat.beq_refl] at ha
        cases ha
      · split at h
        · cases h
        · rename_i hp
          refine ⟨hp, ?_⟩
          split at h
          · rename_i hq; exact .inl hq
          · split at h
            · rename_i hs; exact .inr ⟨hs, h⟩
            · cases h
    · cases ha
theorem fine_of (h : isP C o.op = true ∨ (isS p.op = true ∧ isStore o.op = true)) : fine C o.op = true := by
  unfold fine
  rcases h with h | ⟨_, h⟩
  · rw [h]
  · split
    · rfl
    · exact h
/-- THE SWAP -/
theorem swap {oi oj : Oper} (h : commute C all oi oj = true) (hh : vcG C all i oi st fun st' => vcG C all j oj st' K) : vcG C all j oj st fun st' => vcG C all i oi st' K := by
  obtain ⟨c1, c2, c3, c4, c5⟩ := commute_spec h
  have fi : fine C oi.op = true := fine_of (p := oi) (.inl c4)
  have fj : fine C oj.op = true := fine_of c5
  rw [gX_iff fi] at hh
  obtain ⟨q, h1, h2⟩ := (good_X fi st.r st.h).2 _ hh
  obtain ⟨q1, v⟩ := q
  have hq1 : q1 = none := X_none c4 h1
  subst hq1
  rw [gX_iff fj] at h2
  obtain ⟨u, h3, h4⟩ := (good_X fj _ _).2 _ h2
  have nput : ∀ {d : Option Nat} {p : PV} {l : List Nat} (s : St), (∀ e, d = some e → e ∉ l) → ∀ k, k ∈ l → nth .bad (s.put d p).r k = nth .bad s.r k := by
    intro d p l s hd k hk
    cases d with
    | none => rfl
    | some e => exact nth_upd _ _ _ _ _ (fun he => hd e rfl (he ▸ hk))
  have e1 : gX C all j oj (ap oi.dst (none, v) st).r (ap oi.dst (none, v) st).h = gX C all j oj st.r st.h :=
    X_congr (fun d hd => by rw [ap_r]; exact nput st c1 d hd) (.inl ap_h)
  rw [e1] at h3
  rw [gX_iff fj]
  refine (good_X fj st.r st.h).1 _ _ (fun u' hu => ?_) h3
  subst hu
  have e2 : gX C all i oi (ap oj.dst u' st).r (ap oj.dst u' st).h = gX C all i oi st.r st.h := by
    refine X_congr (fun d hd => by rw [ap_r]; exact nput st c2 d hd) ?_
    rcases c5 with c5 | ⟨c5, _⟩
    · obtain ⟨u1, u2⟩ := u'
      have : u1 = none := X_none c5 h3
      subst this
      exact .inl ap_h
    · exact .inr ⟨isP_V c4, c5⟩
  rw [gX_iff fi, e2]
  refine (good_X fi st.r st.h).1 _ _ (fun v' hv => ?_) h1
  subst hv
  rw [← ap_comm c3]; exact h4

/-! ### all orders -/
theorem bindsE_iff (e : Edge) : bindsE e = Region.binds .any e := by
  unfold bindsE Region.binds
  cases e.ground <;> rfl
theorem readyE_iff {listed : List Nat} : ∀ {l : List Edge}, readyE listed l = true ↔ ∀ e, e ∈ l → bindsE e = true → e.on ∈ listed
  | [] => by simp [readyE]
  | e :: l => by
    have ih := readyE_iff (listed := listed) (l := l)
    simp only [readyE]
    cases hb : bindsE e with
    | false =>
      simp only [ih, List.mem_cons]
      exact ⟨fun h e' he hb' => by rcases he with rfl | he; · rw [hb] at hb'; cases hb'
                                   · exact h e' he hb', fun h e' he => h e' (.inr he)⟩
    | true =>
      cases hm : memN e.on listed with
      | false =>
        simp only [Bool.false_eq_true, List.mem_cons, false_iff]
        exact fun h => memN_false hm (h e (.inl rfl) hb)
      | true =>
        simp only [ih, List.mem_cons]
        exact ⟨fun h e' he hb' => by rcases he with rfl | he; · exact (memN_iff _ _).1 hm
                                     · exact h e' he hb', fun h e' he => h e' (.inr he)⟩
theorem readyL_iff {listed : List Nat} {j : Nat} : ∀ {os : List Oper} {k : Nat}, j ∈ readyL listed os k ↔ ∃ o, k ≤ j ∧ os[j - k]? = some o ∧ j ∉ listed ∧ ∀ e, e ∈ o.after.toList → bindsE e = true → e.on ∈ listed
  | [], k => by simp [readyL]
  | o :: os, k => by
    have ih := readyL_iff (listed := listed) (j := j) (os := os) (k := k + 1)
    have step : (∃ o', k + 1 ≤ j ∧ os[j - (k + 1)]? = some o' ∧ j ∉ listed ∧ ∀ e, e ∈ o'.after.toList → bindsE e = true → e.on ∈ listed) ↔ (j ≠ k ∧ ∃ o', k ≤ j ∧ (o :: os)[j - k]? = some o' ∧ j ∉ listed ∧ ∀ e, e ∈ o'.after.toList → bindsE e = true → e.on ∈ listed) := by
      constructor
      · rintro ⟨o', h1, h2, h3, h4⟩
        refine ⟨by omega, o', by omega, ?_, h3, h4⟩
        rw [show j - k = (j - (k + 1)) + 1 by omega]; exact h2
      · rintro ⟨h0, o', h1, h2, h3, h4⟩
        refine ⟨o', by omega, ?_, h3, h4⟩
        rw [show j - k = (j - (k + 1)) + 1 by omega] at h2; exact h2
    simp only [readyL]
    cases hm : memN k listed with
    | true =>
      simp only [ih, step]
      refine ⟨fun h => h.2, fun h => ⟨fun e => ?_, h⟩⟩
      obtain ⟨_, _, _, h3, _⟩ := h
      exact h3 (e ▸ (memN_iff _ _).1 hm)
    | false =>
      cases hr : readyE listed o.after.toList with
      | true =>
        simp only [List.mem_cons, ih, step]
        constructor
        · rintro (rfl | h)
          · exact ⟨o, Nat.le_refl _, by simp, memN_false hm, readyE_iff.1 hr⟩
          · exact h.2
        · intro h
          by_cases e : j = k
          · exact .inl e
          · exact .inr ⟨e, h⟩
      | false =>
        simp only [ih, step]
        refine ⟨fun h => h.2, fun h => ⟨fun e => ?_, h⟩⟩
        obtain ⟨o', h1, h2, h3, h4⟩ := h
        subst e
        simp at h2
        subst h2
        have := readyE_iff.2 h4
        rw [hr] at this; cases this
theorem ready_all {listed : List Nat} : j ∈ readyL listed all 0 ↔ ∃ o, all[j]? = some o ∧ j ∉ listed ∧ ∀ e, e ∈ o.after.toList → bindsE e = true → e.on ∈ listed := by
  rw [readyL_iff]; simp
def vcAll (C : Cx) (all : List Oper) : Nat → List Nat → St → (St → Prop) → Prop
  | 0, listed, st, K => readyL listed all 0 = [] ∧ K st
  | n + 1, listed, st, K => (readyL listed all 0 = [] → K st) ∧ ∀ i, i ∈ readyL listed all 0 → vcI C all i st fun st' => vcAll C all n (i :: listed) st' K
theorem ready_nil {l l' : List Nat} (h : ∀ k, k ∈ l ↔ k ∈ l') : readyL l all 0 = [] ↔ readyL l' all 0 = [] := by
  have : ∀ j, j ∈ readyL l all 0 ↔ j ∈ readyL l' all 0 := fun j => by simp only [ready_all, h]
  rw [List.eq_nil_iff_forall_not_mem, List.eq_nil_iff_forall_not_mem]
  exact ⟨fun hh j hj => hh j ((this j).2 hj), fun hh j hj => hh j ((this j).1 hj)⟩
theorem all_congr : ∀ (n : Nat) {l l' : List Nat} {st : St}, (∀ k, k ∈ l ↔ k ∈ l') → vcAll C all n l st K → vcAll C all n l' st K
  | 0, l, l', st, h, hh => ⟨(ready_nil h).1 hh.1, hh.2⟩
  | n + 1, l, l', st, h, hh => by
    refine ⟨fun hn => hh.1 ((ready_nil h).2 hn), fun i hi => ?_⟩
    have hi' : i ∈ readyL l all 0 := by rw [ready_all] at hi ⊢; simpa only [h] using hi
    exact mono_I _ _ (fun st' hs => all_congr n (fun k => by simp [h]) hs) (hh.2 i hi')
theorem ready_more {listed : List Nat} (hj : j ∈ readyL listed all 0) (hne : j ≠ i) : j ∈ readyL (i :: listed) all 0 := by
  rw [ready_all] at hj ⊢
  obtain ⟨o, h1, h2, h3⟩ := hj
  exact ⟨o, h1, by simp [hne, h2], fun e he hb => List.mem_cons_of_mem _ (h3 e he hb)⟩
theorem waitsAny_iff {dep : List Nat} : ∀ {l : List Edge}, waitsAny dep l = true → ∃ e, e ∈ l ∧ bindsE e = true ∧ e.on ∈ dep
  | [], h => by cases h
  | e :: l, h => by
    have rest : waitsAny dep l = true → ∃ e', e' ∈ e :: l ∧ bindsE e' = true ∧ e'.on ∈ dep := fun h => let ⟨e', g1, g2, g3⟩ := waitsAny_iff h; ⟨e', List.mem_cons_of_mem _ g1, g2, g3⟩
    simp only [waitsAny] at h
    split at h
    · rename_i hb
      split at h
      · rename_i hm; exact ⟨e, List.mem_cons_self .., hb, (memN_iff _ _).1 hm⟩
      · exact rest h
    · exact rest h
/-- all of them wait, by way of others, for i -/
def DepOK (all : List Oper) (i : Nat) (dep : List Nat) : Prop := ∀ j, j ∈ dep → j = i ∨ ∃ o, all[j]? = some o ∧ ∃ e, e ∈ o.after.toList ∧ bindsE e = true ∧ e.on ∈ dep
theorem depStep_ok {i : Nat} : ∀ {os : List Oper} {k : Nat} {dep : List Nat}, (∀ j o, os[j]? = some o → all[k + j]? = some o) → DepOK all i dep → DepOK all i (depStep os k dep) ∧ ∀ j, j ∈ dep → j ∈ depStep os k dep
  | [], k, dep, _, h => ⟨h, fun _ h => h⟩
  | o :: os, k, dep, hos, h => by
    have hos' : ∀ j p, os[j]? = some p → all[k + 1 + j]? = some p := fun j p hp => by
      have := hos (j + 1) p (by simpa using hp)
      rw [show k + 1 + j = k + (j + 1) by omega]; exact this
    simp only [depStep]
    split
    · exact depStep_ok hos' h
    · split
      · rename_i hw
        obtain ⟨e, g1, g2, g3⟩ := waitsAny_iff hw
        have h' : DepOK all i (k :: dep) := by
          intro j hj
          rcases List.mem_cons.1 hj with rfl | hj
          · exact .inr ⟨o, by have := hos 0 o (by simp); simpa using this, e, g1, g2, List.mem_cons_of_mem _ g3⟩
          · rcases h j hj with h | ⟨o', q1, e', q2, q3, q4⟩
            · exact .inl h
            · exact .inr ⟨o', q1, e', q2, q3, List.mem_cons_of_mem _ q4⟩
        obtain ⟨r1, r2⟩ := depStep_ok hos' h'
        exact ⟨r1, fun j hj => r2 j (List.mem_cons_of_mem _ hj)⟩
      · exact depStep_ok hos' h
theorem depOf_ok (i : Nat) : DepOK all i (depOf all i) ∧ i ∈ depOf all i := by
  have h0 : DepOK all i [i] := fun j hj => by simp at hj; exact .inl hj
  have ha : ∀ j o, all[j]? = some o → all[0 + j]? = some o := fun j o h => by rw [Nat.zero_add]; exact h
  obtain ⟨h1, h2⟩ := depStep_ok (k := 0) ha h0
  obtain ⟨h3, h4⟩ := depStep_ok (k := 0) ha h1
  exact ⟨h3, h4 i (h2 i (by simp))⟩
theorem apartN_iff : ∀ {l m : List Nat}, apartN l m = true → ∀ a, a ∈ l → a ∉ m
  | b :: l, m, h, a, ha => by
    simp only [apartN] at h
    split at h
    · cases h
    · rename_i hm
      rcases List.mem_cons.1 ha with rfl | ha
      · exact memN_false hm
      · exact apartN_iff h a ha
/-- what waits for it cannot come before it -/
theorem dep_not {listed dep : List Nat} (hd : DepOK all i dep) (hl : ∀ k, k ∈ dep → k ∉ listed) (hj : j ∈ readyL listed all 0) (hji : j ≠ i) : j ∉ dep := by
  intro hm
  obtain ⟨o, ho, _, hall⟩ := ready_all.1 hj
  rcases hd j hm with h | ⟨o', q1, e, q2, q3, q4⟩
  · exact hji h
  · rw [ho] at q1; cases q1
    exact hl _ q4 (hall e q2 q3)
theorem all_take {oi : Oper} (hi : all[i]? = some oi) {dep : List Nat} (hdep : DepOK all i dep) (hin : i ∈ dep) : ∀ (n : Nat) {listed : List Nat} {st : St}, (∀ k, k ∈ dep → k ∉ listed) → (∀ j oj, all[j]? = some oj → j ∉ listed → j ∉ dep → commute C all oi oj = true) → i ∈ readyL listed all 0 →
    vcI C all i st (fun st' => vcAll C all n (i :: listed) st' K) → vcAll C all (n + 1) listed st K
  | n, listed, st, hdl, hfree, hr, h => by
    refine ⟨fun hn => (by rw [hn] at hr; cases hr), fun j hj => ?_⟩
    by_cases hji : j = i
    · subst hji; exact h
    · obtain ⟨oj, hoj, hnl, hall⟩ := ready_all.1 hj
      have hc := hfree j oj hoj hnl (dep_not hdep hdl hj hji)
      have toG : ∀ {k : Nat} {ok : Oper} {s : St} {T : St → Prop}, all[k]? = some ok → (vcI C all k s T ↔ vcG C all k ok s T) := by
        intro k ok s T hk; unfold vcI; rw [hk]
      cases n with
      | zero =>
        rw [toG hoj]
        -- what follows cannot be
        refine mono_G _ _ (fun st' hs => ?_) (swap hc (mono_G _ _ (fun st' (hs : vcAll C all 0 (i :: listed) st' K) => ?_) ((toG hi).1 h)) : vcG C all j oj st fun st' => vcG C all i oi st' fun _ => False)
        · obtain ⟨v, h1, h2⟩ := (good_X (fine_of (p := oi) (.inl (commute_spec hc).2.2.2.1)) st'.r st'.h).2 _ ((gX_iff (fine_of (p := oi) (.inl (commute_spec hc).2.2.2.1))).1 hs)
          exact h2.elim
        · have := ready_more (i := i) hj hji
          rw [hs.1] at this; cases this
      | succ n =>
        rw [toG hoj]
        have h1 : vcG C all i oi st (fun st' => vcG C all j oj st' fun st'' => vcAll C all n (j :: i :: listed) st'' K) :=
          mono_G _ _ (fun st' hs => (toG hoj).1 (hs.2 j (ready_more hj hji))) ((toG hi).1 h)
        refine mono_G _ _ (fun st' hs => ?_) (swap hc h1)
        refine all_take hi hdep hin n (fun k hk hm => ?_) (fun k ok hk hnk hkd => hfree k ok hk (fun hh => hnk (List.mem_cons_of_mem _ hh)) hkd) (ready_more hr (Ne.symm hji)) ?_
        · rcases List.mem_cons.1 hm with rfl | hm
          · exact dep_not hdep hdl hj hji hk
          · exact hdl k hk hm
        · exact (toG hi).2 (mono_G _ _ (fun st'' hs => all_congr n (fun k => by simp; constructor <;> (rintro (h | h | h) <;> simp [h])) hs) hs)
theorem freeB_spec {listed dep : List Nat} : ∀ {os : List Oper} {k : Nat}, freeB C all listed dep o os k = true → ∀ j oj, k ≤ j → os[j - k]? = some oj → j ∉ listed → j ∉ dep → commute C all o oj = true
  | [], k, _, j, oj, _, h, _, _ => by simp at h
  | p :: os, k, hf, j, oj, hk, h, hl, hd => by
    have rest : freeB C all listed dep o os (k + 1) = true → j ≠ k → commute C all o oj = true := fun hf hjk =>
      freeB_spec hf j oj (by omega) (by rw [show j - k = (j - (k + 1)) + 1 by omega] at h; exact h) hl hd
    simp only [freeB] at hf
    by_cases hjk : j = k
    · subst hjk
      simp at h
      subst h
      split at hf
      · rename_i hm; exact absurd ((memN_iff _ _).1 hm) hl
      · split at hf
        · rename_i hm; exact absurd ((memN_iff _ _).1 hm) hd
        · split at hf
          · assumption
          · cases hf
    · split at hf
      · exact rest hf hjk
      · split at hf
        · exact rest hf hjk
        · split at hf
          · exact rest hf hjk
          · cases hf
theorem pick_spec {listed : List Nat} : ∀ {rs : List Nat}, pickFree C all listed rs = some i → i ∈ rs ∧ ∃ o, all[i]? = some o ∧ (∀ k, k ∈ depOf all i → k ∉ listed) ∧ ∀ j oj, all[j]? = some oj → j ∉ listed → j ∉ depOf all i → commute C all o oj = true
  | [], h => by cases h
  | k :: l, h => by
    simp only [pickFree] at h
    split at h
    · cases h
    · rename_i o ho
      have rest : pickFree C all listed l = some i → i ∈ k :: l ∧ ∃ o, all[i]? = some o ∧ (∀ k, k ∈ depOf all i → k ∉ listed) ∧ ∀ j oj, all[j]? = some oj → j ∉ listed → j ∉ depOf all i → commute C all o oj = true := fun h => let ⟨h1, h2⟩ := pick_spec h; ⟨List.mem_cons_of_mem _ h1, h2⟩
      split at h
      · exact rest h
      · split at h
        · rename_i ha hf
          cases h
          exact ⟨List.mem_cons_self .., o, ho, apartN_iff ha, fun j oj hj => freeB_spec hf j oj (Nat.zero_le _) (by simpa using hj)⟩
        · exact rest h
theorem allR_iff {f : Nat → Prop} : ∀ {l : List Nat}, allR l f → ∀ i, i ∈ l → f i
  | k :: l, h, i, hi => by
    rcases List.mem_cons.1 hi with rfl | hi
    · exact h.1
    · exact allR_iff h.2 i hi
theorem dfs_all : ∀ (n : Nat) {listed : List Nat} {st : St}, vcDfs C all n listed st K → vcAll C all n listed st K
  | 0, listed, st, h => by
    simp only [vcDfs] at h
    split at h
    · rename_i hr; exact ⟨hr, h⟩
    · exact h.elim
  | n + 1, listed, st, h => by
    simp only [vcDfs] at h
    split at h
    · rename_i hr; exact ⟨fun _ => h, fun i hi => by rw [hr] at hi; cases hi⟩
    · rename_i rs hrs
      split at h
      · rename_i i hp
        obtain ⟨h1, o, h2, h4, h3⟩ := pick_spec hp
        exact all_take h2 (depOf_ok i).1 (depOf_ok i).2 n h4 h3 h1 (mono_I _ _ (fun st' hs => dfs_all n hs) h)
      · exact ⟨fun hr => absurd hr hrs, fun i hi => mono_I _ _ (fun st' hs => dfs_all n hs) (allR_iff h i hi)⟩
theorem plan_all : ∀ (n : Nat) {listed l : List Nat} {st : St}, planL C all n listed = some l → runPlan C all l st K → vcAll C all n listed st K
  | 0, listed, l, st, hp, h => by
    simp only [planL] at hp
    split at hp
    · rename_i hr; cases hp; exact ⟨hr, h⟩
    · cases hp
  | n + 1, listed, l, st, hp, h => by
    simp only [planL] at hp
    split at hp
    · rename_i hr; cases hp; exact ⟨fun _ => h, fun i hi => by rw [hr] at hi; cases hi⟩
    · rename_i rs hrs
      split at hp
      · rename_i i hi
        split at hp
        · rename_i l' hl
          cases hp
          obtain ⟨h1, o, h2, h4, h3⟩ := pick_spec hi
          exact all_take h2 (depOf_ok i).1 (depOf_ok i).2 n h4 h3 h1 (mono_I _ _ (fun st' hs => plan_all n hl hs) h)
        · cases hp
      · cases hp
theorem draw_all (n : Nat) {st : St} (h : vcDraw C all n st K) : vcAll C all n [] st K := by
  unfold vcDraw at h
  split at h
  · rename_i l hl; exact plan_all n hl h
  · exact dfs_all n h
end
section
variable {C : Cx} {w0 : World} {W0 : Nat → Prop} {st : St} {a : Act} {w : World} {E : Env} {K : St → Prop} {Q : Exit → Act → World → Prop}
theorem asg_mem {d : Nat} {o : Oper} (hd : o.dst = some d) : ∀ {l : List Oper} {i : Nat}, l[i]? = some o → d ∈ asgOps l
  | [], i, h => by simp at h
  | p :: l, 0, h => by simp at h; subst h; simp [asgOps, hd]
  | p :: l, i + 1, h => by
    have := asg_mem hd (l := l) (i := i) (by simpa using h)
    simp only [asgOps]
    split
    · exact List.mem_cons_of_mem _ this
    · exact this
theorem any_sound (hC : CxOK C) {ops : Array Oper} : ∀ (n : Nat) {l : List Nat} {listed : Array Bool} {st : St} {a : Act} {w : World} {E : Env}, (∀ j, j < ops.size → (j ∈ l ↔ listed.getD j true = true)) → listed.size = ops.size → (∀ j, j ∈ l → j < ops.size) → Sim w0 W0 st a w E → vcAll C ops.toList n l st K →
    (∀ a' w', Done w0 W0 (asgOps ops.toList) st a w E K a' w' → Q .normal a' w') → wpAny C.P .any ops Q n listed a w := by
  have hready : ∀ {l : List Nat} {listed : Array Bool}, (∀ j, j < ops.size → (j ∈ l ↔ listed.getD j true = true)) → listed.size = ops.size → (∀ j, j ∈ l → j < ops.size) → ∀ j, j ∈ Region.ready .any ops listed ↔ j ∈ readyL l ops.toList 0 := by
    intro l listed h hs hl j
    rw [mem_ready, ready_all]
    have hfd : ∀ k, listed.getD k false = true ↔ k ∈ l := by
      intro k
      by_cases hk : k < ops.size
      · rw [h k hk]; simp [hs, hk]
      · constructor
        · intro hh; simp [Array.getD, hs, hk] at hh
        · intro hh; exact absurd (hl k hh) hk
    constructor
    · rintro ⟨h1, o, h2, h3⟩
      have hj : j < ops.size := (Array.getElem?_eq_some_iff.1 h2).1
      refine ⟨o, by simpa using h2, fun hm => ?_, fun e he hb => (hfd _).1 (h3 e (by simpa using he) (by rw [← bindsE_iff]; exact hb))⟩
      rw [(h j hj).1 hm] at h1; cases h1
    · rintro ⟨o, h2, h1, h3⟩
      have h2' : ops[j]? = some o := by simpa using h2
      have hj : j < ops.size := (Array.getElem?_eq_some_iff.1 h2').1
      refine ⟨?_, o, h2', fun e he hb => (hfd _).2 (h3 e (by simpa using he) (by rw [bindsE_iff]; exact hb))⟩
      cases hb : listed.getD j true with
      | false => rfl
      | true => exact absurd ((h j hj).2 hb) h1
  intro n
  induction n with
  | zero =>
    intro l listed st a w E h hs hl S hh hQ
    refine ⟨?_, hQ a w ⟨st, E, hh.2, S, Fr.refl ..⟩⟩
    rw [List.eq_nil_iff_forall_not_mem]
    intro j hj
    rw [hready h hs hl, hh.1] at hj
    cases hj
  | succ n ih =>
    intro l listed st a w E h hs hl S hh hQ
    refine ⟨fun hr => hQ a w ⟨st, E, hh.1 ?_, S, Fr.refl ..⟩, fun i hi => ?_⟩
    · rw [List.eq_nil_iff_forall_not_mem]
      intro j hj
      rw [← hready h hs hl, hr] at hj
      cases hj
    · rw [hready h hs hl] at hi
      have hv := hh.2 i hi
      obtain ⟨o, ho, _, _⟩ := ready_all.1 hi
      have hoi : ops[i]? = some o := by simpa using ho
      have hisz : i < ops.size := (Array.getElem?_eq_some_iff.1 hoi).1
      unfold vcI at hv
      rw [ho] at hv
      unfold wpOp
      simp only [hoi]
      refine guard_sound hC S hv (fun a1 w1 ⟨st1, E1, h1, S1, F1⟩ => ?_)
      refine ih (l := i :: l) (fun j hj => ?_) (by simpa using hs) (fun j hj => ?_) S1 h1 (fun a' w' ⟨st', E', h2, S2, F2⟩ => hQ a' w' ⟨st', E', h2, S2, (F1.trans F2).weak (fun n hn => ?_)⟩)
      · by_cases hji : j = i
        · subst hji; simp [hs, hj]
        · rw [getD_set_ne true (Ne.symm hji)]; simp [hji, h j hj]
      · rcases List.mem_cons.1 hj with rfl | hj
        · exact hisz
        · exact hl j hj
      · rcases List.mem_append.1 hn with hn | hn
        · cases hd : o.dst with
          | none => rw [hd] at hn; cases hn
          | some d => rw [hd] at hn; simp at hn; subst hn; exact asg_mem (i := i) hd ho
        · exact hn
theorem draw_sound (hC : CxOK C) (hm : C.P.follows .mixedOrders = true) {id : Nat} {ops : Array Oper} (S : Sim w0 W0 st a w E) (h : vcDraw C ops.toList ops.size st K)
    (hQ : ∀ a' w', Done w0 W0 (asgOps ops.toList) st a w E K a' w' → Q .normal a' w') : (Code.region id ops true).wp C.P Q a w := by
  have g : Grown w { w with drawn := w.drawn + 1 } := ⟨rfl, rfl, rfl, Nat.le_refl _, fun _ _ => rfl⟩
  refine wp_region_any hm (any_sound hC ops.size (l := []) (fun j hj => by simp [hj]) (by simp) (fun j hj => by cases hj) (S.grow g) (draw_all _ h) (fun a' w' ⟨st', E', h1, S1, F1⟩ => hQ a' w' ⟨st', E', h1, S1, ?_⟩))
  simpa using (S.fr_world [] g.size g.blk).trans F1
end
end Pv

/- A code's condition is sound. -/
namespace Pv
open Go
/-- the context, its loops, and the program's way with orders -/
structure CxOK' (C : Cx) : Prop extends CxOK C where
  loop : ∀ r L, C.A.loop r = some L → LoopOK L
  mixed : C.P.follows .mixedOrders = true
section
variable {C : Cx} {w0 : World} {W0 : Nat → Prop}
/-- what stands behind a code -/
def After (w0 : World) (W0 : Nat → Prop) (W : List Nat) (st : St) (a : Act) (w : World) (E : Env) (Q : Exit → St → Prop) : Exit → Act → World → Prop
  | e, a', w' => ∃ st' E', Q e st' ∧ Sim w0 W0 st' a' w' E' ∧ Fr (New w0 W0) W st a w E st' a' w' E'
theorem least {p : Nat → Prop} (h : ∃ n, p n) : ∃ n, p n ∧ ∀ m, p m → n ≤ m := by
  classical
  have key : ∀ k n, n ≤ k → p n → ∃ n, p n ∧ ∀ m, p m → n ≤ m := by
    intro k
    induction k with
    | zero => exact fun n hn hp => ⟨n, hp, fun m _ => by omega⟩
    | succ k ih =>
      intro n hn hp
      by_cases hs : ∃ m, p m ∧ m < n
      · obtain ⟨m, h1, h2⟩ := hs
        exact ih m (by omega) h1
      · exact ⟨n, hp, fun m hm => Nat.le_of_not_lt fun hlt => hs ⟨m, hm, hlt⟩⟩
  obtain ⟨n, hn⟩ := h
  exact key n n (Nat.le_refl n) hn
theorem within_ok {ok l : List Nat} (h : within ok l = true) : ∀ n, n ∈ l → n ∈ ok := within_iff h
theorem code_sound (hC : CxOK' C) : ∀ (c : Code) {Q : Exit → St → Prop} {st : St} {a : Act} {w : World} {E : Env}, Sim w0 W0 st a w E → vc C c st Q → c.wp C.P (After w0 W0 (asg c) st a w E Q) a w
  | .skip, Q, st, a, w, E, S, h => wp_skip ⟨st, E, h, S, Fr.refl ..⟩
  | .exit id, Q, st, a, w, E, S, h => wp_exit ⟨st, E, h, S, Fr.refl ..⟩
  | .ret, Q, st, a, w, E, S, h => wp_ret ⟨st, E, h, S, Fr.refl ..⟩
  | .region id ops draw, Q, st, a, w, E, S, h => by
    cases draw with
    | false => exact region_sound hC.toCxOK S h (fun a' w' hd => hd)
    | true => exact draw_sound hC.toCxOK hC.mixed S h (fun a' w' hd => hd)
  | .seq x y, Q, st, a, w, E, S, h => by
    refine wp_seq (wp_mono (code_sound hC x S h) (fun e a1 w1 hd => ?_))
    obtain ⟨st1, E1, h1, S1, F1⟩ := hd
    have fw : ∀ n, n ∈ asg x → n ∈ asg (.seq x y) := fun n hn => by simp only [asg, appN_eq]; exact List.mem_append_left _ hn
    cases e with
    | normal =>
      refine wp_mono (code_sound hC y S1 h1) (fun e a2 w2 ⟨st2, E2, h2, S2, F2⟩ => ⟨st2, E2, h2, S2, (F1.trans F2).weak (fun n hn => ?_)⟩)
      simp only [asg, appN_eq]; exact hn
    | exit id => exact ⟨st1, E1, h1, S1, F1.weak fw⟩
    | goto l => exact ⟨st1, E1, h1, S1, F1.weak fw⟩
    | ret => exact ⟨st1, E1, h1, S1, F1.weak fw⟩
    | panic ch => exact ⟨st1, E1, h1, S1, F1.weak fw⟩
    | outgrown => exact ⟨st1, E1, h1, S1, F1.weak fw⟩
  | .cond c x y, Q, st, a, w, E, S, h => by
    have hc := S.evl c
    have fx : ∀ e a1 w1, After w0 W0 (asg x) st a w E Q e a1 w1 → After w0 W0 (asg (.cond c x y)) st a w E Q e a1 w1 := fun e a1 w1 ⟨st1, E1, h1, S1, F1⟩ => ⟨st1, E1, h1, S1, F1.weak fun n hn => by simp only [asg, appN_eq]; exact List.mem_append_left _ hn⟩
    have fy : ∀ e a1 w1, After w0 W0 (asg y) st a w E Q e a1 w1 → After w0 W0 (asg (.cond c x y)) st a w E Q e a1 w1 := fun e a1 w1 ⟨st1, E1, h1, S1, F1⟩ => ⟨st1, E1, h1, S1, F1.weak fun n hn => by simp only [asg, appN_eq]; exact List.mem_append_right _ hn⟩
    simp only [vc] at h
    split at h
    · rename_i he; rw [he] at hc
      exact wp_cond_true hc.tt (wp_mono (code_sound hC x S h) fx)
    · rename_i he; rw [he] at hc
      exact wp_cond_false hc.ff (wp_mono (code_sound hC y S h) fy)
    · rename_i b he; rw [he] at hc
      exact wp_cond_split hc.b (fun hb => wp_mono (code_sound hC x S (h.1 hb)) fx) (fun hb => wp_mono (code_sound hC y S (h.2 hb)) fy)
    · exact h.elim
  | .block id c, Q, st, a, w, E, S, h => by
    refine wp_block (wp_mono (code_sound hC c S h) (fun e a1 w1 hd => ?_))
    obtain ⟨st1, E1, h1, S1, F1⟩ := hd
    cases e with
    | exit j =>
      simp only at h1
      simp only [Exit.inBlock]
      cases hb : Nat.beq j id with
      | true =>
        rw [hb] at h1
        rw [if_pos (Nat.eq_of_beq_eq_true hb)]
        exact ⟨st1, E1, h1, S1, F1⟩
      | false =>
        rw [hb] at h1
        rw [if_neg (Nat.ne_of_beq_eq_false hb)]
        exact ⟨st1, E1, h1, S1, F1⟩
    | normal => exact ⟨st1, E1, h1, S1, F1⟩
    | goto l => exact ⟨st1, E1, h1, S1, F1⟩
    | ret => exact ⟨st1, E1, h1, S1, F1⟩
    | panic ch => exact ⟨st1, E1, h1, S1, F1⟩
    | outgrown => exact ⟨st1, E1, h1, S1, F1⟩
  | .loop c, Q, st, a, w, E, S, h => by
    classical
    simp only [vc] at h
    split at h
    · exact h.elim
    · rename_i L hL
      obtain ⟨Φ, μ, ⟨x0, hx0, hΦ0⟩, hround⟩ := h
      have hLK := hC.loop _ L hL
      -- the state with which the loop is entered, its lists empty
      let st0 : St := { st with t := [], u := [] }
      have S0 : Sim w0 W0 st0 a w E := { S with len := S.len, slot := S.slot, ok := S.ok, apart := S.apart, out := S.out, tidy := S.tidy, lt := S.lt }
      have hrows : ∀ l, rowsAt L.at_ st0 l = rowsAt L.at_ st l := by
        intro l
        induction l with
        | nil => rfl
        | cons k l ih => simp only [rowsAt, ih]; rfl
      have hhead : ∀ x, head st0 (asg c) L x (rowsAt L.at_ st L.rid) = head st (asg c) L x (rowsAt L.at_ st L.rid) := by
        intro x
        have hk : ∀ (l : List Nat) (s s' : St), s.r = s'.r → s.h = s'.h → (killL l s).r = (killL l s').r ∧ (killL l s).h = (killL l s').h := by
          intro l
          induction l with
          | nil => exact fun s s' h1 h2 => ⟨h1, h2⟩
          | cons n l ih => exact fun s s' h1 h2 => ih (s.kill n) (s'.kill n) (by simp only [St.kill, h1]) (by simp only [St.kill, h2])
        obtain ⟨h1, h2⟩ := hk (rowsAt L.at_ st L.rid) { st0 with r := clear (asg c) st0.r } { st with r := clear (asg c) st.r } rfl rfl
        obtain ⟨h1, h2⟩ := hk (asg c) _ _ h1 h2
        obtain ⟨h1, h2⟩ := hk L.rid _ _ h1 h2
        simp only [head, headG, h1, h2]
      have hholds : holds L st0 x0 := by
        have hf : ∀ rs, fits st L rs → fits st0 L rs := by
          intro rs
          induction rs with
          | nil => exact fun h => h
          | cons p l ih => exact fun h => ⟨h.1, ih h.2⟩
        have hfh : ∀ hs, fitsH st L hs → fitsH st0 L hs := by
          intro hs
          induction hs with
          | nil => exact fun h => h
          | cons p l ih => exact fun h => ⟨h.1, ih h.2⟩
        unfold holds at hx0 ⊢
        rw [hrows]
        split at hx0
        · rename_i q1 q2 q3 q4
          exact ⟨hf _ hx0.1, hfh _ hx0.2⟩
        · exact hx0.elim
      -- the invariant
      let I : Act → World → (x : L.ι) → Prop := fun a1 w1 x => Φ x ∧ ∃ E1, Sim w0 W0 (head st (asg c) L x (rowsAt L.at_ st L.rid)) a1 w1 E1 ∧
        FrX (New w0 W0) (asg c) (L.hid ++ asg c) (asg c ++ (L.rid ++ rowsAt L.at_ st L.rid)) st0 a w E (head st (asg c) L x (rowsAt L.at_ st L.rid)) a1 w1 E1
      have hI0 : ∃ x, I a w x := by
        obtain ⟨E3, S3, F3⟩ := rehead' (rows := rowsAt L.at_ st L.rid) (W := asg c) hLK S0 S0 (Fr.refl (asg c) st0 a w E).x (T := []) (U := []) (fun n hn => by cases hn) (fun n hn => by cases hn) hholds (fun n hn => .inr (.inr (by rw [hrows] at hn; exact hn)))
        rw [hhead] at S3 F3
        exact ⟨x0, hΦ0, E3, S3, F3⟩
      let m : Act → World → Nat := fun a1 w1 => if h : ∃ n, ∃ x, I a1 w1 x ∧ μ x = n then Classical.choose (least h) else 0
      refine wp_loop (fun a1 w1 => ∃ x, I a1 w1 x) m hI0 (fun a1 w1 hI => ?_)
      have hex : ∃ n, ∃ x, I a1 w1 x ∧ μ x = n := by obtain ⟨x, h⟩ := hI; exact ⟨_, x, h, rfl⟩
      obtain ⟨x, ⟨hΦ, E1, S1, F1⟩, hμ⟩ := (Classical.choose_spec (least hex)).1
      have hm : m a1 w1 = μ x := by show (if h : _ then _ else _) = _; rw [dif_pos hex, hμ]
      refine wp_mono (code_sound hC c S1 (hround x hΦ)) (fun e a2 w2 hd => ?_)
      obtain ⟨st2, E2, h2, S2, F2⟩ := hd
      have fin : ∀ (Qe : St → Prop), Qe { st2 with t := appN st2.t (appN L.hid (appN (asg c) st.t)), u := appN st2.u (appN (asg c) (appN L.rid (appN (rowsAt L.at_ st L.rid) st.u))) } → ∃ st' E', Qe st' ∧ Sim w0 W0 st' a2 w2 E' ∧ Fr (New w0 W0) (asg c) st a w E st' a2 w2 E' := by
        intro Qe hq
        refine ⟨_, E2, hq, { S2 with len := S2.len, slot := S2.slot, ok := S2.ok, apart := S2.apart, out := S2.out, tidy := S2.tidy, lt := S2.lt }, ?_⟩
        have F12 := (F1.mono (fun _ h => h) (T' := st2.t ++ (L.hid ++ asg c)) (U' := st2.u ++ (asg c ++ (L.rid ++ rowsAt L.at_ st L.rid))) (fun n hn => List.mem_append_right _ hn) (fun n hn => List.mem_append_right _ hn)).trans (F2.x.mono (fun _ h => h) (fun n hn => List.mem_append_left _ hn) (fun n hn => List.mem_append_left _ hn))
        have := F12.fr (st := st0) (t := appN st2.t (appN L.hid (appN (asg c) st.t))) (u := appN st2.u (appN (asg c) (appN L.rid (appN (rowsAt L.at_ st L.rid) st.u)))) (fun n hn => by simp only [appN_eq]; simp only [List.mem_append] at hn ⊢; rcases hn with h | h | h <;> simp [h]) (fun n hn => by simp only [appN_eq]; simp only [List.mem_append] at hn ⊢; rcases hn with h | h | h | h <;> simp [h]) (fun n hn => by cases hn) (fun n hn => by cases hn)
        exact ⟨this.tmp, this.size, this.len, this.hd, this.F1, this.F2, this.Fb, this.hs, fun n hn => by simp only [appN_eq, List.mem_append]; simp [hn], fun n hn => by simp only [appN_eq, List.mem_append]; simp [hn], this.dom, this.blk⟩
      cases e with
      | normal =>
        simp only at h2
        split at h2
        · rename_i q1 q2 q3
          obtain ⟨x', hx', hΦ', hlt⟩ := h2
          have q1 := within_iff q1
          have q2 := within_iff q2
          have q3 := within_iff q3
          have F12 := F1.trans (F2.x.mono (fun _ h => h) (T' := L.hid ++ asg c) (U' := asg c ++ (L.rid ++ rowsAt L.at_ st L.rid)) (fun n hn => by have := q1 n hn; rwa [appN_eq] at this) (fun n hn => by
            have := q2 n hn
            rw [appN_eq] at this
            rcases List.mem_append.1 this with h | h
            · exact List.mem_append_right _ (List.mem_append_left _ h)
            · exact List.mem_append_left _ h))
          obtain ⟨E3, S3, F3⟩ := rehead' (rows := rowsAt L.at_ st L.rid) (W := asg c) hLK S0 S2 F12 (fun n hn => by simpa using hn) (fun n hn => by simpa using hn) hx' (fun n hn => by
            have := q3 n hn
            rw [appN_eq] at this
            rcases List.mem_append.1 this with h | h
            · exact .inr (.inl h)
            · exact .inl h)
          rw [hhead] at S3 F3
          have hI' : I a2 w2 x' := ⟨hΦ', E3, S3, F3⟩
          refine ⟨⟨x', hI'⟩, ?_⟩
          have hex' : ∃ n, ∃ x, I a2 w2 x ∧ μ x = n := ⟨_, x', hI', rfl⟩
          have : m a2 w2 ≤ μ x' := by
            show (if h : _ then _ else _) ≤ _
            rw [dif_pos hex']
            exact (Classical.choose_spec (least hex')).2 _ ⟨x', hI', rfl⟩
          omega
        · exact h2.elim
      | exit id => exact fin _ h2
      | goto l => exact fin _ h2
      | ret => exact fin _ h2
      | panic ch => exact fin _ h2
      | outgrown => exact fin _ h2
  | .label l, Q, st, a, w, E, S, h => h.elim
  | .goto l, Q, st, a, w, E, S, h => h.elim
  | .scope c, Q, st, a, w, E, S, h => h.elim
  | .rangeFunc f ps x y, Q, st, a, w, E, S, h => h.elim
  | .refuse y, Q, st, a, w, E, S, h => h.elim
end
end Pv

/- A function's condition, and its contract. -/
namespace Pv
open Go
section
variable {C : Cx} {w0 : World} {W0 : Nat → Prop} {st : St} {a : Act} {w : World} {E : Env}
def isFrz : Obj → Bool
  | .row _ _ _ _ _ _ => true
  | .deep _ _ _ _ _ => true
  | _ => false
def hdOf (E : Env) : PV → Hd
  | .sl (.s n) => E.hd (.s n)
  | .lp (.s n) _ => E.hd (.s n)
  | .mp (.s n) => E.hd (.s n)
  | .sw n z lo k => ⟨fun _ => winV z lo k (E.hd (.s n)).v, (E.hd (.s n)).ft⟩
  | _ => Hd.of (.slice none 0 0)
/-- the environment behind the call's end: rows that are nobody's are frozen; what is handed back has its name -/
def Env.ret (E : Env) (st : St) (B : Nat) (fresh : Bool) (m : List (Nat × PV)) (used : List Nat) : Env :=
  ⟨fun b => (E.F b ∨ ∃ n o, look st.h n = some o ∧ isFrz o = true ∧ n ∉ used ∧ (E.hd (.s n)).ft b) ∧ (fresh = true → B ≤ b), fun i => match i with | .s d => (match isSame d with | true => E.hd (.s d) | false => hdOf E (lookP m d)) | .x d => E.hd (.x d)⟩
theorem live_frz {o : Obj} (h : isFrz o = true) : o.live := by cases o <;> first | trivial | cases h
theorem retU_ok (S : Sim w0 W0 st a w E) {nw fresh : Bool} (hnw : nw = true → ∀ b, ¬ W0 b) {m : List (Nat × PV)} {used : List Nat} {p : PV} {v : Value} (hn : fresh = true → isNew1 (retU nw used st.h p) = true) (h : R0 w E w0.heap.size false p v) :
    R0 w (E.ret st w0.heap.size fresh m used) w0.heap.size fresh (retU nw used st.h p) v := by
  have gg : ∀ q : Bool, (fresh = true → q = true) → ∀ b, E.G w0.heap.size (false || q) b → (E.ret st w0.heap.size fresh m used).G w0.heap.size (fresh || q) b := by
    intro q hq b hb
    refine ⟨⟨.inl hb.1, fun hf => hb.2 (by rw [hq hf]; rfl)⟩, fun h => ?_⟩
    cases hf : fresh with
    | true => exact hb.2 (by rw [hq hf]; rfl)
    | false => rw [hf] at h; exact hb.2 h
  have plain : ∀ {q : PV}, (∀ {G G' : Nat → Prop}, Fz w G q v → Fz w G' q v) → Fz w (E.G w0.heap.size (false || pfl q)) q v → Fz w ((E.ret st w0.heap.size fresh m used).G w0.heap.size (fresh || pfl q)) q v := fun h1 h2 => h1 h2
  cases p with
  | i k n => exact plain (q := .i k n) (fun h => by cases h; exact .i k n) h
  | b x => exact plain (q := .b x) (fun h => by cases h; exact .b x) h
  | tt => exact plain (q := .tt) (fun h => by cases h; exact .tt) h
  | ff => exact plain (q := .ff) (fun h => by cases h; exact .ff) h
  | s x => exact plain (q := .s x) (fun h => by cases h with | s v hv => exact .s v hv) h
  | nil => exact plain (q := .nil) (fun h => by cases h; exact .nil) h
  | np => exact plain (q := .np) (fun h => by cases h; exact .np) h
  | fl f z α e d xs =>
    have h' : Fz w (E.G w0.heap.size (false || f)) (.fl f z α e d xs) v := h
    exact h'.mono (fun _ _ => rfl) (gg f hn)
  | fll f z els =>
    have h' : Fz w (E.G w0.heap.size (false || f)) (.fll f z els) v := h
    exact h'.mono (fun _ _ => rfl) (gg f (fun hf => by have := hn hf; cases this))
  | fp f cs =>
    have h' : Fz w (E.G w0.heap.size (false || f)) (.fp f cs) v := h
    exact h'.mono (fun _ _ => rfl) (gg f hn)
  | sl i =>
    cases i with
    | x m => trivial
    | s n =>
      simp only [retU] at hn ⊢
      cases hu : memN n used with
      | true => trivial
      | false =>
        have hnu : n ∉ used := memN_false hu
        simp only [hu] at hn
        simp only
        cases ho : look st.h n with
        | none => trivial
        | some ob =>
          cases ob with
          | row f z α e d xs =>
            simp only [ho, isNew1] at hn
            have := row_stays (G := (E.ret st w0.heap.size fresh m used).G w0.heap.size (fresh || f)) (S.ok (.s n) _ ho) (S.tidy (.s n) _ ho)
              (fun b hb hf => gg f hn b ⟨hb, fun h => hf (by simpa using h)⟩) (fun b hb hf => ⟨⟨.inr ⟨n, _, ho, rfl, hnu, hb⟩, fun h => hf (hn h)⟩, fun h => hf (by cases hff : fresh with | true => exact hn hff | false => rw [hff] at h; exact h)⟩) h rfl
            exact this
          | deep z α e d xs =>
            simp only [ho, isNew1] at hn
            have hB : ∀ b, (E.hd (.s n)).ft b → nw = true → w0.heap.size ≤ b := fun b hb h => ((S.out (.s n) _ b ho trivial hb).2).resolve_right (hnw h b)
            have := deep_stays (G := (E.ret st w0.heap.size fresh m used).G w0.heap.size (fresh || nw)) (S.ok (.s n) _ ho) (fun b hb => ⟨⟨.inr ⟨n, _, ho, rfl, hnu, hb⟩, fun h => hB b hb (hn h)⟩, fun h => hB b hb (by cases hff : fresh with | true => exact hn hff | false => rw [hff] at h; exact h)⟩) h rfl
            cases this with
            | fl _ _ _ _ _ _ A c b off val hc he hm hA hv hr => exact Fz.fl nw z α e d xs A c b off val hc he hm hA hv hr
          | _ => trivial
  | _ => trivial
theorem appP_eq : ∀ l m : List (Nat × PV), appP l m = l ++ m
  | [], _ => rfl
  | _ :: l, m => by simp [appP, appP_eq l m]
theorem keysP_eq : ∀ l : List (Nat × PV), keysP l = l.map (·.1)
  | [] => rfl
  | _ :: l => by simp [keysP, keysP_eq l]
theorem lookP_mem {d : Nat} {p : PV} : ∀ {l : List (Nat × PV)}, (keysP l).Nodup → (d, p) ∈ l → lookP l d = p
  | (k, q) :: l, hn, h => by
    have hn := List.nodup_cons.1 hn
    simp only [lookP]
    rcases List.mem_cons.1 h with h | h
    · cases h; rw [Nat.beq_refl]
    · have : Nat.beq k d = false := by
        cases hb : Nat.beq k d with
        | false => rfl
        | true => rw [Nat.eq_of_beq_eq_true hb] at hn; exact absurd (by rw [keysP_eq]; exact List.mem_map.2 ⟨_, h, rfl⟩) hn.1
      rw [this]; exact lookP_mem hn.2 h
section
variable {nw fresh : Bool} {m : List (Nat × PV)} {used : List Nat}
theorem hd_same {B : Nat} {d : Nat} (h : isSame d = true) : (E.ret st B fresh m used).hd (.s d) = E.hd (.s d) := by
  show (match isSame d with | true => E.hd (.s d) | false => hdOf E (lookP m d)) = _
  rw [h]
theorem hd_new {B : Nat} {d : Nat} (h : isSame d = false) : (E.ret st B fresh m used).hd (.s d) = hdOf E (lookP m d) := by
  show (match isSame d with | true => E.hd (.s d) | false => hdOf E (lookP m d)) = _
  rw [h]
theorem fitV0_ok (S : Sim w0 W0 st a w E) (hnw : nw = true → ∀ b, ¬ W0 b) {p r : PV} {v : Value} (hm : ∀ d q, (d, q) ∈ mt0 p r → lookP m d = q) (h : fitV0 nw fresh used st.h p r) (hp : R0 w E w0.heap.size false p v) : R0 w (E.ret st w0.heap.size fresh m used) w0.heap.size fresh r v := by
  have dflt : (match (match fresh with | true => isNew1 (retU nw used st.h p) | false => true) with | true => conv1 (retU nw used st.h p) r | false => False) → R0 w (E.ret st w0.heap.size fresh m used) w0.heap.size fresh r v := by
    intro h
    split at h
    · rename_i hn
      exact (retU_ok S hnw (fun hf => by rw [hf] at hn; exact hn) hp).conv1 h
    · exact h.elim
  cases r with
  | sl i =>
    cases i with
    | x d => exact dflt h
    | s d =>
      cases hs : isSame d with
      | true =>
        simp only [fitV0, hs] at h
        split at h
        · rename_i n
          split at h
          · rename_i hb
            have := Nat.eq_of_beq_eq_true hb; subst this
            simp only [R0] at hp ⊢; rw [hd_same hs]; exact hp
          · exact h.elim
        · exact h.elim
      | false =>
        simp only [fitV0, hs] at h
        have hl := hm d p (by simp only [mt0, hs]; exact List.mem_cons_self ..)
        split at h
        · simp only [R0] at hp ⊢; rw [hd_new hs, hl]; exact hp
        · obtain ⟨⟨A, n, c, h1, h2⟩, hv⟩ := hp
          simp only [R0]; rw [hd_new hs, hl]
          rw [h1] at hv
          exact ⟨_, _, _, (by show winV _ _ _ (E.hd (.s _)).v = _; rw [h1]; rfl), hv⟩
        · have hv : v = .slice none 0 0 := by cases hp; rfl
          simp only [R0]; rw [hd_new hs, hl]
          exact ⟨none, 0, 0, rfl, hv⟩
        · exact h.elim
  | lp i k =>
    cases i with
    | x d => exact dflt h
    | s d =>
      cases hs : isSame d with
      | true =>
        simp only [fitV0, hs] at h
        split at h
        · rename_i n i
          split at h
          · rename_i hb hb2
            have := Nat.eq_of_beq_eq_true hb; subst this
            have := Nat.eq_of_beq_eq_true hb2; subst this
            simp only [R0] at hp ⊢; rw [hd_same hs]; exact hp
          · exact h.elim
        · exact h.elim
      | false =>
        simp only [fitV0, hs] at h
        have hl := hm d p (by simp only [mt0, hs]; exact List.mem_cons_self ..)
        split at h
        · split at h
          · rename_i hb hb2
            have := Nat.eq_of_beq_eq_true hb; subst this
            have := Nat.eq_of_beq_eq_true hb2; subst this
            simp only [R0] at hp ⊢; rw [hd_new hs, hl]; exact hp
          · exact h.elim
        · exact h.elim
  | mp i =>
    cases i with
    | x d => exact dflt h
    | s d =>
      cases hs : isSame d with
      | true =>
        simp only [fitV0, hs] at h
        split at h
        · rename_i n
          split at h
          · rename_i hb
            have := Nat.eq_of_beq_eq_true hb; subst this
            simp only [R0] at hp ⊢; rw [hd_same hs]; exact hp
          · exact h.elim
        · exact h.elim
      | false =>
        simp only [fitV0, hs] at h
        have hl := hm d p (by simp only [mt0, hs]; exact List.mem_cons_self ..)
        split at h
        · simp only [R0] at hp ⊢; rw [hd_new hs, hl]; exact hp
        · exact h.elim
  | sp i z j k =>
    cases i with
    | x d => exact dflt h
    | s d =>
      cases hs : isSame d with
      | true => simp only [fitV0, hs] at h; subst h; simp only [R0] at hp ⊢; rw [hd_same hs]; exact hp
      | false => simp only [fitV0, hs] at h
  | ol d π =>
    cases hs : isSame d with
    | true => simp only [fitV0, hs] at h; subst h; simp only [R0] at hp ⊢; rw [hd_same hs]; exact hp
    | false => simp only [fitV0, hs] at h
  | op d π z j k =>
    cases hs : isSame d with
    | true => simp only [fitV0, hs] at h; subst h; simp only [R0] at hp ⊢; rw [hd_same hs]; exact hp
    | false => simp only [fitV0, hs] at h
  | sw d z lo k =>
    cases hs : isSame d with
    | true => simp only [fitV0, hs] at h; subst h; simp only [R0] at hp ⊢; rw [hd_same hs]; exact hp
    | false => simp only [fitV0, hs] at h
  | _ => exact dflt h
theorem conv1_bad {r : PV} (h : conv1 .bad r) : r = .bad := conv1_bad' h
/-- a value of one cell -/
def okP : PV → Prop
  | .bad => False
  | .agg _ => False
  | .tup _ => False
  | .fn _ _ => False
  | _ => True
theorem fitV0_def {h : List (Nat × Obj)} {p r : PV} (hr : r ≠ .bad) (hh : match (match fresh with | true => isNew1 (retU nw used h p) | false => true) with | true => conv1 (retU nw used h p) r | false => False) : okP p := by
  split at hh
  · cases p with
    | bad => exact hr (conv1_bad hh)
    | agg l => exact hr (conv1_bad hh)
    | tup l => exact hr (conv1_bad hh)
    | fn f l => exact hr (conv1_bad hh)
    | _ => trivial
  · exact hh.elim
theorem fitV0_ne {h : List (Nat × Obj)} {p r : PV} (hr : r ≠ .bad) (hh : fitV0 nw fresh used h p r) : okP p := by
  cases r with
  | sl i =>
    cases i with
    | x d => exact fitV0_def hr hh
    | s d =>
      simp only [fitV0] at hh
      split at hh <;> split at hh <;> first | trivial | exact hh.elim
  | lp i k =>
    cases i with
    | x d => exact fitV0_def hr hh
    | s d =>
      simp only [fitV0] at hh
      split at hh <;> split at hh <;> first | trivial | exact hh.elim
  | mp i =>
    cases i with
    | x d => exact fitV0_def hr hh
    | s d =>
      simp only [fitV0] at hh
      split at hh <;> split at hh <;> first | trivial | exact hh.elim
  | sp i z j k =>
    cases i with
    | x d => exact fitV0_def hr hh
    | s d => simp only [fitV0] at hh; split at hh <;> first | (subst hh; trivial) | exact hh.elim
  | ol d π => simp only [fitV0] at hh; split at hh <;> first | (subst hh; trivial) | exact hh.elim
  | op d π z j k => simp only [fitV0] at hh; split at hh <;> first | (subst hh; trivial) | exact hh.elim
  | sw d z lo k => simp only [fitV0] at hh; split at hh <;> first | (subst hh; trivial) | exact hh.elim
  | bad => exact absurd rfl hr
  | _ => exact fitV0_def hr hh
theorem fitVL_nth {h : List (Nat × Obj)} : ∀ {ps rs : List PV}, fitVL nw fresh used h ps rs → llen ps = llen rs ∧ ∀ k, k < llen ps → fitV0 nw fresh used h (nth .bad ps k) (nth .bad rs k) ∧ ∀ q, q ∈ mt0 (nth .bad ps k) (nth .bad rs k) → q ∈ mtL ps rs
  | [], [], _ => ⟨rfl, fun k hk => absurd hk (Nat.not_lt_zero k)⟩
  | [], _ :: _, h => h.elim
  | _ :: _, [], h => h.elim
  | p :: ps, r :: rs, h => by
    obtain ⟨h1, h2⟩ := fitVL_nth h.2
    refine ⟨by simp [llen, h1], fun k hk => ?_⟩
    cases k with
    | zero => exact ⟨h.1, fun q hq => by simp only [mtL, appP_eq]; exact List.mem_append_left _ hq⟩
    | succ k =>
      obtain ⟨g1, g2⟩ := h2 k (by simpa [llen] using hk)
      exact ⟨g1, fun q hq => by simp only [mtL, appP_eq]; exact List.mem_append_right _ (g2 q hq)⟩
theorem fitV1_ok (S : Sim w0 W0 st a w E) (hnw : nw = true → ∀ b, ¬ W0 b) {p r : PV} {v : Value} (hm : ∀ d q, (d, q) ∈ mt1 p r → lookP m d = q) (h : fitV1 nw fresh used st.h p r) (hp : R1 w E w0.heap.size false p v) : R1 w (E.ret st w0.heap.size fresh m used) w0.heap.size fresh r v := by
  have dflt : r ≠ .bad → fitV0 nw fresh used st.h p r → (∀ d q, (d, q) ∈ mt0 p r → lookP m d = q) → R1 w (E.ret st w0.heap.size fresh m used) w0.heap.size fresh r v := by
    intro hr h hm
    have hne := fitV0_ne hr h
    have hp0 : R0 w E w0.heap.size false p v := by
      cases p with
      | agg l => exact hne.elim
      | fn f l => exact hne.elim
      | _ => exact hp
    exact (fitV0_ok S hnw hm h hp0).r1
  cases r with
  | agg rs =>
    simp only [fitV1] at h
    split at h
    · rename_i ps
      obtain ⟨vs, rfl, h2, h3⟩ := hp
      obtain ⟨g1, g2⟩ := fitVL_nth h
      exact ⟨vs, rfl, h2.trans g1, fun k hk => fitV0_ok S hnw (fun d q hq => hm d q ((g2 k (by omega)).2 _ hq)) (g2 k (by omega)).1 (h3 k (by omega))⟩
    · exact h.elim
  | tup l => exact h.elim
  | bad => exact h.elim
  | _ => exact dflt (fun e => by cases e) h hm
theorem fitVT_nth {h : List (Nat × Obj)} : ∀ {ps rs : List PV}, fitVT nw fresh used h ps rs → llen ps = llen rs ∧ ∀ k, k < llen ps → fitV1 nw fresh used h (nth .bad ps k) (nth .bad rs k) ∧ ∀ q, q ∈ mt1 (nth .bad ps k) (nth .bad rs k) → q ∈ mtT ps rs
  | [], [], _ => ⟨rfl, fun k hk => absurd hk (Nat.not_lt_zero k)⟩
  | [], _ :: _, h => h.elim
  | _ :: _, [], h => h.elim
  | p :: ps, r :: rs, h => by
    obtain ⟨h1, h2⟩ := fitVT_nth h.2
    refine ⟨by simp [llen, h1], fun k hk => ?_⟩
    cases k with
    | zero => exact ⟨h.1, fun q hq => by simp only [mtT, appP_eq]; exact List.mem_append_left _ hq⟩
    | succ k =>
      obtain ⟨g1, g2⟩ := h2 k (by simpa [llen] using hk)
      exact ⟨g1, fun q hq => by simp only [mtT, appP_eq]; exact List.mem_append_right _ (g2 q hq)⟩
theorem fitV2_ok (S : Sim w0 W0 st a w E) (hnw : nw = true → ∀ b, ¬ W0 b) {p r : PV} {v : Value} (hm : ∀ d q, (d, q) ∈ mt2 p r → lookP m d = q) (h : fitV2 nw fresh used st.h p r) (hp : R2 w E w0.heap.size false p v) (hpt : ∀ l, p = .tup l → ∃ rs, r = .tup rs) : R2 w (E.ret st w0.heap.size fresh m used) w0.heap.size fresh r v := by
  cases r with
  | tup rs =>
    simp only [fitV2] at h
    split at h
    · rename_i ps
      obtain ⟨vs, rfl, h2, h3⟩ := hp
      obtain ⟨g1, g2⟩ := fitVT_nth h
      exact ⟨vs, rfl, h2.trans g1, fun k hk => fitV1_ok S hnw (fun d q hq => hm d q ((g2 k (by omega)).2 _ hq)) (g2 k (by omega)).1 (h3 k (by omega))⟩
    · exact h.elim
  | _ =>
    have hp1 : R1 w E w0.heap.size false p v := by
      cases p with
      | tup l => obtain ⟨rs, e⟩ := hpt l rfl; cases e
      | _ => exact hp
    have hm' := hm
    simp only [mt2] at hm'
    simp only [fitV2] at h
    exact (fitV1_ok S hnw hm' h hp1).r2
end
theorem llen_rep : ∀ n, llen (init.rep n) = n
  | 0 => rfl
  | n + 1 => by simp [init.rep, llen, llen_rep n]
theorem nth_rep : ∀ n k, nth .bad (init.rep n) k = .bad
  | 0, _ => rfl
  | _ + 1, 0 => rfl
  | n + 1, k + 1 => nth_rep n k
theorem llen_init : ∀ (l : List PV) (n : Nat), llen (init n l) = llen l + (n - llen l)
  | [], n => by simp [init, llen, llen_rep]
  | a :: l, n => by simp only [init, llen, llen_init l]; omega
theorem nth_init : ∀ (l : List PV) (n k : Nat), nth .bad (init n l) k = nth .bad l k
  | [], n, k => by simp only [init]; rw [nth_rep]; rfl
  | a :: l, n, 0 => rfl
  | a :: l, n, k + 1 => nth_init l (n - 1) k
theorem R2.r1 {B : Nat} {nw : Bool} {p : PV} {v : Value} (hp : ∀ l, p ≠ .tup l) (h : R2 w E B nw p v) : R1 w E B nw p v := by
  cases p <;> first | exact h | exact absurd rfl (hp _)
theorem ldF_ldv {P : Program} {t : TypeId} {cs : List PV} (h : ldF P t cs ≠ .bad) : ldv P t cs fun p => p = ldF P t cs := by
  unfold ldF at h ⊢
  unfold ldv
  cases hn : tsize P t with
  | zero => rw [hn] at h; exact absurd rfl h
  | succ n =>
    rw [hn] at h
    simp only at h ⊢
    cases hb : Nat.ble (n + 1) (llen cs) with
    | false => rw [hb] at h; exact absurd rfl h
    | true =>
      rw [hb] at h
      simp only at h ⊢
      cases ha : tagg P t with
      | none => rw [ha] at h; exact absurd rfl h
      | some x =>
        rw [ha] at h
        cases x with
        | true => rfl
        | false =>
          cases n with
          | zero => rfl
          | succ n => exact absurd rfl h
/-- one result -/
def resRun (tmps : Array Value) : ResultVar → Sem Value
  | .tmp t => pure (tmps.getD t undef)
  | .cell a t => do loadVar t (← asAddr (tmps.getD a undef))
theorem resOne_ok {P : Program} (S : Sim w0 W0 st a w E) (r : ResultVar) (hb : (∃ t, r = .tmp t) ∨ resOne P st r ≠ .bad) : ∃ v, (resRun a.tmps r).run P w = .ok v w ∧ R2 w E w0.heap.size false (resOne P st r) v := by
  cases r with
  | tmp t => exact ⟨_, rfl, S.slot t⟩
  | cell t ty =>
    have hb := hb.resolve_left (by rintro ⟨t, e⟩; cases e)
    unfold resOne at hb ⊢
    simp only at hb ⊢
    have hs := S.slot t
    split at hb
    · rename_i n k hn
      rw [hn] at hs
      obtain ⟨b, off, h1, h2⟩ := hs
      split at hb
      · rename_i cs ho
        obtain ⟨b', vs, ty', fz, g1, _, g2, _, g3, g4⟩ := S.ok (.s n) _ ho
        rw [h1] at g1; cases g1
        rw [Nat.zero_add] at h2
        obtain ⟨p, v, e1, e2, e3⟩ := ldv_ok (P := P) (val := fun i => vs.getD (k + i) undef) (ldF_ldv hb) (fun i hi => by
            rw [llen_drop] at hi; exact cell_at g2 (by omega))
        refine ⟨v, ?_, ?_⟩
        · have : (resRun a.tmps (.cell t ty)).run P w = (Instr.loadAt ty (.pointer (some ⟨b, k, none⟩))).run P w := by
            simp only [resRun, Instr.loadAt, h2, asAddr, Instr.sureAddr]
          rw [this]; exact e1
        · rw [← e2]
          have := read_ok (w := w) (E := E) (B := w0.heap.size) (g := id) (g2 := id) (fun l => by rw [lmap_eq]; simp) (fun p _ => rfl) (cs := Pv.drop k cs) (val := fun i => vs.getD (k + i) undef) (fun i hi => by
            rw [llen_drop] at hi
            rw [nth_drop]
            exact ⟨(g4 (k + i) (by omega)).notagg, g4 (k + i) (by omega)⟩) e3
          exact this
      · exact absurd rfl hb
    · exact absurd rfl hb
theorem resAll_ok {P : Program} (S : Sim w0 W0 st a w E) : ∀ l : List ResultVar, (∀ k, k < llen (resAll P st l) → nth .bad (resAll P st l) k ≠ .bad) → ∃ vs : List Value, (l.mapM (resRun a.tmps)).run P w = .ok vs w ∧ vs.length = llen (resAll P st l) ∧ ∀ k, k < llen (resAll P st l) → R2 w E w0.heap.size false (nth .bad (resAll P st l) k) (vs.getD k undef)
  | [], _ => ⟨[], rfl, rfl, fun k hk => absurd hk (Nat.not_lt_zero k)⟩
  | r :: l, h => by
    obtain ⟨v, h1, h2⟩ := resOne_ok (P := P) S r (.inr (h 0 (Nat.succ_pos _)))
    obtain ⟨vs, h3, h4, h5⟩ := resAll_ok S l (fun k hk => h (k + 1) (by simpa [resAll, llen] using hk))
    refine ⟨v :: vs, ?_, by simp [resAll, llen, h4], fun k hk => ?_⟩
    · rw [List.mapM_cons]; simp [h1, h3, Result.andThen]
    · cases k with
      | zero => exact h2
      | succ k => exact h5 k (by simpa [resAll, llen] using hk)
theorem llen_resAll {P : Program} : ∀ l : List ResultVar, llen (resAll P st l) = l.length
  | [] => rfl
  | _ :: l => by simp [resAll, llen, llen_resAll l]
/-- the results, run -/
theorem results_ok (S : Sim w0 W0 st a w E) (fn : Func) (hb : resOf C.P fn st ≠ .bad) (ht : ∀ l, resOf C.P fn st = .tup l → ∀ k, (k < llen l → nth .bad l k ≠ .bad) ∧ ∀ l', nth .bad l k ≠ .tup l') : ∃ v, (results fn a.tmps).run C.P w = .ok v w ∧ R2 w E w0.heap.size false (resOf C.P fn st) v := by
  have hrun : ∀ {vs : List Value}, (fn.results.toList.mapM (resRun a.tmps)).run C.P w = .ok vs w → (results fn a.tmps).run C.P w = .ok (if h : vs.toArray.size = 1 then vs.toArray[0] else .tuple vs.toArray) w := by
    intro vs hvs
    have h2 : (fn.results.mapM (resRun a.tmps)).run C.P w = .ok vs.toArray w := by
      rw [Array.mapM_eq_mapM_toList]
      show (fn.results.toList.mapM (resRun a.tmps) >>= fun vs => pure vs.toArray).run C.P w = _
      rw [Sem.run_bind, hvs]; rfl
    have h3 : results fn a.tmps = (fn.results.mapM (resRun a.tmps) >>= fun vs => pure (if h : vs.size = 1 then vs[0] else .tuple vs)) := rfl
    rw [h3, Sem.run_bind, h2]; rfl
  unfold resOf at hb ht ⊢
  split
  · rename_i r h
    rw [h] at hb hrun
    obtain ⟨v, h1, h2⟩ := resOne_ok (P := C.P) S r (.inr hb)
    exact ⟨v, hrun (vs := [v]) (by rw [List.mapM_cons]; simp [h1, Result.andThen]), h2⟩
  · rename_i l hl
    have ht : ∀ k, (k < llen (resAll C.P st fn.results.toList) → nth .bad (resAll C.P st fn.results.toList) k ≠ .bad) ∧ ∀ l', nth .bad (resAll C.P st fn.results.toList) k ≠ .tup l' := by
      refine ht (resAll C.P st fn.results.toList) ?_
      split
      · rename_i r h; exact absurd h (hl r)
      · rfl
    obtain ⟨vs, h1, h2, h3⟩ := resAll_ok (P := C.P) S fn.results.toList (fun k hk => (ht k).1 hk)
    have hne : ¬ vs.toArray.size = 1 := by
      intro h
      rw [List.size_toArray, h2, llen_resAll] at h
      obtain ⟨r, hr⟩ := List.length_eq_one_iff.1 h
      exact hl r hr
    refine ⟨.tuple vs.toArray, by rw [hrun h1, dif_neg hne], vs.toArray, rfl, by simpa using h2, fun k hk => ?_⟩
    have := (h3 k hk).r1 (fun l' e => (ht k).2 l' e)
    simpa [List.getD] using this
end
end Pv

/- A function's contract, of its condition. -/
namespace Pv
open Go
def ok1 : PV → Bool
  | .bad => false
  | .tup _ => false
  | _ => true
def okR : PV → Bool
  | .bad => false
  | .tup l => allB ok1 l
  | _ => true
section
variable {C : Cx} {w0 : World} {W0 : Nat → Prop} {st : St} {a : Act} {w : World} {E : Env}
/-- kinds of rows that may be handed back -/
def OutsOK (outs : List (Nat × Obj)) : Prop := ∀ d, (∀ f z α e δ xs, (d, Obj.row f z α e δ xs) ∈ outs → KdOK ⟨z, α, e, δ⟩) ∧ ∀ z α e δ xs, (d, Obj.deep z α e δ xs) ∈ outs → ∀ y, llen (e y) = z
section
variable {nw fresh : Bool} {used : List Nat} {m : List (Nat × PV)}
theorem fitOs_mem {h : List (Nat × Obj)} {d : Nat} {o : Obj} : ∀ {l : List (Nat × Obj)}, fitOs nw fresh used h m l → (d, o) ∈ l → fitO nw fresh used h (locOf m d o) o
  | (k, o') :: l, hf, hm => by
    rcases List.mem_cons.1 hm with e | hm
    · cases e; exact hf.1
    · exact fitOs_mem hf.2 hm
theorem usedIds_mem {d n : Nat} {o : Obj} : ∀ {l : List (Nat × Obj)}, (d, o) ∈ l → n ∈ idP (locOf m d o) → n ∈ usedIds m l
  | (k, o') :: l, h, hn => by
    simp only [usedIds, appN_eq]
    rcases List.mem_cons.1 h with e | h
    · cases e; exact List.mem_append_left _ hn
    · exact List.mem_append_right _ (usedIds_mem h hn)
theorem usedIds_inj {d d' n : Nat} {o o' : Obj} : ∀ {l : List (Nat × Obj)}, (usedIds m l).Nodup → (d, o) ∈ l → (d', o') ∈ l → n ∈ idP (locOf m d o) → n ∈ idP (locOf m d' o') → d = d'
  | (k, q) :: l, hn, h, h', g, g' => by
    simp only [usedIds, appN_eq] at hn
    obtain ⟨hn1, hn2, hn3⟩ := List.nodup_append.1 hn
    rcases List.mem_cons.1 h with e | h <;> rcases List.mem_cons.1 h' with e' | h'
    · cases e; cases e'; rfl
    · cases e; exact absurd rfl (hn3 n g n (usedIds_mem ‹(d', o') ∈ l› g'))
    · cases e'; exact absurd rfl (hn3 n g' n (usedIds_mem ‹(d, o) ∈ l› g))
    · exact usedIds_inj hn2 ‹(d, o) ∈ l› ‹(d', o') ∈ l› g g'
theorem strPairs_mem {h : List (Nat × Obj)} {m1 : List (Nat × PV)} {d n k : Nat} {cs cs' : List PV} (hl : locOf m1 d (.str cs') = .lp (.s n) k) (hn : look h n = some (.str cs)) : ∀ {l : List (Nat × Obj)}, (d, .str cs') ∈ l → ∀ q, q ∈ mtL cs cs' → q ∈ strPairs h m1 l
  | (k', o') :: l, hm, q, hq => by
    rcases List.mem_cons.1 hm with e | hm
    · cases e
      simp only [strPairs, hl, hn, appP_eq]
      exact List.mem_append_left _ hq
    · have ih := strPairs_mem hl hn hm q hq
      simp only [strPairs]
      split
      · split
        · split
          · simp only [appP_eq]; exact List.mem_append_right _ ih
          · exact ih
        · exact ih
      · exact ih
/-- the head of an object that is handed back -/
theorem hd_loc {B : Nat} {d : Nat} {o : Obj} : (E.ret st B fresh m used).hd (.s d) = hdOf E (locOf m d o) := by
  unfold locOf
  cases hs : isSame d with
  | true => rw [hd_same hs]; cases o <;> rfl
  | false => rw [hd_new hs]
theorem R0.ret_cell (f : Bool) {p : PV} {v : Value} (hz : isFz p = true) (hpf : pfl p = false) (hf : fresh = true → f = true ∨ isLit p = true) (h : R0 w E w0.heap.size f p v) : R0 w (E.ret st w0.heap.size fresh m used) w0.heap.size f p v := by
  have key : isLit p = true → R0 w (E.ret st w0.heap.size fresh m used) w0.heap.size f p v := by
    intro hl
    cases p with
    | i k n => cases h; exact Fz.i _ _
    | b x => cases h; exact Fz.b _
    | tt => cases h; exact Fz.tt
    | ff => cases h; exact Fz.ff
    | s x => cases h with | s v hv => exact Fz.s v hv
    | nil => cases h; exact Fz.nil
    | np => cases h; exact Fz.np
    | _ => cases hl
  by_cases hl : isLit p = true
  · exact key hl
  · have hff : fresh = true → f = true := fun h => (hf h).resolve_right hl
    have base : ∀ {q : PV} {v : Value}, pfl q = false → Fz w (E.G w0.heap.size (f || pfl q)) q v → Fz w ((E.ret st w0.heap.size fresh m used).G w0.heap.size (f || pfl q)) q v := by
      intro q v hq hh
      rw [hq, Bool.or_false] at hh ⊢
      exact hh.mono (fun _ _ => rfl) (fun b hb => ⟨⟨.inl hb.1, fun h => hb.2 (hff h)⟩, hb.2⟩)
    cases p with
    | fl f z α e d xs => exact base (q := .fl f z α e d xs) hpf h
    | fll f z els => exact base (q := .fll f z els) hpf h
    | fp f cs => exact base (q := .fp f cs) hpf h
    | i k n => exact absurd rfl hl
    | b x => exact absurd rfl hl
    | tt => exact absurd rfl hl
    | ff => exact absurd rfl hl
    | s x => exact absurd rfl hl
    | nil => exact absurd rfl hl
    | np => exact absurd rfl hl
    | _ => cases hz
theorem fitO_ok (S : Sim w0 W0 st a w E) (hnw : nw = true → ∀ b, ¬ W0 b) {d : Nat} {o : Obj} {outs : List (Nat × Obj)} (ho : (d, o) ∈ outs) (hk : OutsOK outs) (hmk : (keysP m).Nodup) (hsp : ∀ cs cs' n k, o = .str cs' → locOf m d o = .lp (.s n) k → look st.h n = some (.str cs) → ∀ q, q ∈ mtL cs cs' → q ∈ m)
    (h : fitO nw fresh used st.h (locOf m d o) o) : ObjOK w (E.ret st w0.heap.size fresh m used) w0.heap.size (.s d) o ∧ tidyO (.s d) o ∧ o.live ∧
      ((∀ b, ¬ ((E.ret st w0.heap.size fresh m used).hd (.s d)).ft b) ∨ ∃ n o2, n ∈ idP (locOf m d o) ∧ look st.h n = some o2 ∧ o2.live ∧ ((E.ret st w0.heap.size fresh m used).hd (.s d)).ft = (E.hd (.s n)).ft) := by
  have hhd := hd_loc (E := E) (st := st) (B := w0.heap.size) (fresh := fresh) (m := m) (used := used) (d := d) (o := o)
  unfold fitO at h
  split at h
  · rename_i n hl
    rw [hl] at hhd
    have hhd : (E.ret st w0.heap.size fresh m used).hd (.s d) = E.hd (.s n) := hhd
    split at h
    · rename_i f z α e δ xs
      have hrow : look st.h n = some (.row f z α e δ xs) ∧ (fresh = true → f = true ∨ ∀ x, allB isLit (e x) = true) := by
        split at h
        · exact ⟨h.2, fun _ => .inr h.1⟩
        · rename_i hh
          refine ⟨h, fun hf => .inl ?_⟩
          cases f with
          | true => rfl
          | false => exact absurd rfl (hh hf)
      obtain ⟨h, hfr⟩ := hrow
      have ht : ∀ x k, k < z → CellOK (nth .bad (e x) k) := S.tidy (.s n) _ h
      obtain ⟨A, c, h1, h2, h4, h5, h6⟩ := S.ok (.s n) _ h
      refine ⟨⟨A, c, by rw [hhd]; exact h1, h2, h4, h5, fun h0 => ?_⟩, ht, trivial, .inr ⟨n, _, by rw [hl]; exact List.mem_cons_self .., h, trivial, by rw [hhd]⟩⟩
      obtain ⟨b', off, vs, ty, fz, rfl, hf, hb, h7, hu, h8, h9⟩ := h6 h0
      refine ⟨b', off, vs, ty, fz, rfl, by rw [hhd]; exact hf, hb, h7, hu, h8, fun j k hj hk => ?_⟩
      have hc := ht (xs.getD j δ) k hk
      exact (h9 j k hj hk).ret_cell f hc.2.2.2 hc.2.1 (fun hf => (hfr hf).imp id (fun hl => allB_iff (hl _) k (by rw [h4]; exact hk)))
    · rename_i z α e δ xs
      obtain ⟨ow, h1⟩ := S.ok (.s n) _ h
      exact ⟨⟨ow, by rw [hhd]; exact h1⟩, trivial, trivial, .inr ⟨n, _, by rw [hl]; exact List.mem_cons_self .., h, trivial, by rw [hhd]⟩⟩
    · exact h.elim
  · rename_i n z lo k hl
    rw [hl] at hhd
    have hhd : (E.ret st w0.heap.size fresh m used).hd (.s d) = ⟨fun _ => winV z lo k (E.hd (.s n)).v, (E.hd (.s n)).ft⟩ := hhd
    split at h
    · rename_i f z' α e δ ys
      split at h
      · rename_i f' z2 α' e' d' xs hn
        have key : z = z2 ∧ (fresh = true → f = true ∨ ∀ x, allB isLit (e x) = true) ∧ lo + k ≤ xs.length ∧ f = f' ∧ PV.fl false z' α e δ ys = PV.fl false z2 α' e' d' ((xs.drop lo).take k) := by
          split at h
          · rename_i h1 h2
            exact ⟨Nat.eq_of_beq_eq_true ‹z.beq z2 = true›, (fun e => by cases e), h⟩
          · rename_i h1 h2
            exact ⟨Nat.eq_of_beq_eq_true ‹z.beq z2 = true›, fun _ => h.1, h.2⟩
          · exact h.elim
        obtain ⟨rfl, hfr, hlo, rfl, he⟩ := key
        cases he
        have ht : ∀ x k, k < z → CellOK (nth .bad (e x) k) := S.tidy (.s n) _ hn
        obtain ⟨A, c, h1, h2, h4, h5, h6⟩ := S.ok (.s n) _ hn
        have hlen : ((xs.drop lo).take k).length = k := by simp; omega
        have hcz : lo ≤ c → lo * z + (c - lo) * z = c * z := fun hle => by rw [← Nat.add_mul, show lo + (c - lo) = c by omega]
        refine ⟨⟨if c = lo then A else A.map (·.add (lo * z)), c - lo, by rw [hhd]; show winV _ _ _ (E.hd (.s n)).v = _; rw [h1, hlen]; rfl, by rw [hlen]; omega, h4, by rw [hlen]; omega, fun h0 => ?_⟩, ht, trivial, .inr ⟨n, _, by rw [hl]; exact List.mem_cons_self .., hn, trivial, by rw [hhd]⟩⟩
        have hc0 : 0 < c := by omega
        have hcz := hcz (by omega)
        obtain ⟨b', off, vs, ty, fz, rfl, hf, hb, h7, hu, h8, h9⟩ := h6 hc0
        refine ⟨b', off + lo * z, vs, ty, fz, by rw [if_neg (by omega)]; simp [Addr.add_mid], by rw [hhd]; exact hf, hb, h7, hu, ?_, fun j k' hj hk => ?_⟩
        · rw [Nat.add_assoc, hcz]; exact h8
        · rw [hlen] at hj
          have hg : ((xs.drop lo).take k).getD j δ = xs.getD (lo + j) δ := by simp [List.getD, hj, List.getElem?_drop]
          have hc := ht (xs.getD (lo + j) δ) k' hk
          rw [hg, show off + lo * z + (j * z + k') = off + ((lo + j) * z + k') by rw [Nat.add_mul]; omega]
          exact (h9 (lo + j) k' (by omega) hk).ret_cell f hc.2.2.2 hc.2.1 (fun hf => (hfr hf).imp id (fun hl => allB_iff (hl _) k' (by rw [h4]; exact hk)))
      · exact h.elim
    · exact h.elim
  · rename_i hl
    rw [hl] at hhd
    have hft : ∀ b, ¬ ((E.ret st w0.heap.size fresh m used).hd (.s d)).ft b := fun b hb => by rw [hhd] at hb; cases hb
    have hv : ((E.ret st w0.heap.size fresh m used).hd (.s d)).v = .slice none 0 0 := by rw [hhd]; rfl
    split at h
    · rename_i f z α e δ xs
      subst h
      have hkd := (hk d).1 f z α e δ [] ho
      exact ⟨⟨none, 0, hv, Nat.le_refl _, fun y => (hkd y).1, by simp, fun h => absurd h (Nat.lt_irrefl 0)⟩, fun y k hk => (hkd y).2 k hk, trivial, .inl hft⟩
    · rename_i z α e δ xs
      subst h
      refine ⟨⟨fun _ => [], ?_⟩, trivial, trivial, .inl hft⟩
      rw [hhd]
      exact Dp.fl [] false z α e δ [] none 0 0 0 #[] 0 (0, 0) rfl (Nat.le_refl _) ((hk d).2 z α e δ [] ho) (by simp) (fun h => absurd h (Nat.lt_irrefl 0)) (fun j k h => absurd h (Nat.not_lt_zero j))
    · exact h.elim
  · rename_i n k hl
    rw [hl] at hhd
    have hhd : (E.ret st w0.heap.size fresh m used).hd (.s d) = E.hd (.s n) := hhd
    split at h
    · rename_i cs' cs hn hk0
      obtain ⟨b, vs, ty, fz, h1, hf, h2, hu, h3, h4⟩ := S.ok (.s n) _ hn
      obtain ⟨g1, g2⟩ := fitVL_nth h
      refine ⟨⟨b, vs, ty, fz, by rw [hhd]; exact h1, by rw [hhd]; exact hf, h2, hu, h3.trans g1, fun k' hk' => ?_⟩, trivial, trivial, .inr ⟨n, _, by rw [hl]; exact List.mem_cons_self .., hn, trivial, by rw [hhd]⟩⟩
      have := fitV0_ok S hnw (m := m) (fun d' q hq => lookP_mem hmk (hsp cs cs' n k rfl hl hn _ ((g2 k' (by omega)).2 _ hq))) (g2 k' (by omega)).1 (h4 k' (by omega))
      exact this.mono (fun _ _ => rfl) (fun _ h => h) (fun _ => rfl) (fun h => by cases h)
    · exact h.elim
  · rename_i n hl
    rw [hl] at hhd
    have hhd : (E.ret st w0.heap.size fresh m used).hd (.s d) = E.hd (.s n) := hhd
    split at h
    · rename_i α e k
      obtain ⟨b, es, clk, h1, hf, h2⟩ := S.ok (.s n) _ h
      exact ⟨⟨b, es, clk, by rw [hhd]; exact h1, by rw [hhd]; exact hf, h2⟩, trivial, trivial, .inr ⟨n, _, by rw [hl]; exact List.mem_cons_self .., h, trivial, by rw [hhd]⟩⟩
    · exact h.elim
  · exact h.elim
end
theorem okR_tup {nw fresh : Bool} {used : List Nat} {h : List (Nat × Obj)} {p r : PV} (hr : okR r = true) (hf : fitV2 nw fresh used h p r) : p ≠ .bad ∧ (∀ l, p = .tup l → ∃ rs, r = .tup rs) ∧ ∀ l, p = .tup l → ∀ k, (k < llen l → nth .bad l k ≠ .bad) ∧ ∀ l', nth .bad l k ≠ .tup l' := by
  have one : ∀ {p r : PV}, ok1 r = true → fitV1 nw fresh used h p r → p ≠ .bad ∧ ∀ l, p ≠ .tup l := by
    intro p r hr hf
    cases r with
    | agg m =>
      simp only [fitV1] at hf
      split at hf
      · exact ⟨(fun e => by cases e), (fun l e => by cases e)⟩
      · exact hf.elim
    | tup l => exact hf.elim
    | bad => exact hf.elim
    | _ =>
      simp only [fitV1] at hf
      have := fitV0_ne (fun e => by cases e) hf
      exact ⟨fun e => by subst e; exact this, fun l e => by subst e; exact this⟩
  cases r with
  | tup rs =>
    simp only [fitV2] at hf
    split at hf
    · rename_i ps
      obtain ⟨g1, g2⟩ := fitVT_nth hf
      refine ⟨(fun e => by cases e), fun l e => ⟨rs, rfl⟩, fun l e k => ⟨fun hk => by cases e; exact (one (allB_iff hr k (by omega)) (g2 k hk).1).1, fun l' e' => ?_⟩⟩
      cases e
      rcases Nat.lt_or_ge k (llen ps) with hk | hk
      · exact (one (allB_iff hr k (by omega)) (g2 k hk).1).2 l' e'
      · rw [nth_out _ _ _ hk] at e'; cases e'
    · exact hf.elim
  | _ =>
    simp only [fitV2] at hf
    have := one (r := _) (by first | exact hr | rfl) hf
    exact ⟨this.1, fun l e => absurd e (this.2 l), fun l e => absurd e (this.2 l)⟩
theorem isSame_hd {u : List Nat} {d : Nat} : ∀ {l : List Nat}, keptN u l = true → d ∈ l → isSame d = true → d ∉ u
  | a :: l, h, hd, hs => by
    simp only [keptN] at h
    rcases List.mem_cons.1 hd with rfl | hd
    · rw [hs] at h
      cases hm : memN d u with
      | true => rw [hm] at h; cases h
      | false => exact memN_false hm
    · split at h
      · split at h
        · cases h
        · exact isSame_hd h hd hs
      · exact isSame_hd h hd hs
theorem lookP_app {d : Nat} {l2 : List (Nat × PV)} : ∀ {l1 : List (Nat × PV)}, lookP l1 d ≠ .bad → lookP (l1 ++ l2) d = lookP l1 d
  | [], h => absurd rfl h
  | (k, p) :: l, h => by
    simp only [List.cons_append, lookP] at h ⊢
    cases hb : Nat.beq k d with
    | true => rfl
    | false => rw [hb] at h; exact lookP_app h
theorem strOK_mem {m1 : List (Nat × PV)} {d : Nat} {cs : List PV} : ∀ {l : List (Nat × Obj)}, strOK m1 l = true → (d, .str cs) ∈ l → ∃ i k, locOf m1 d (.str cs) = .lp i k
  | (k, o) :: l, h, hm => by
    rcases List.mem_cons.1 hm with e | hm
    · cases e
      simp only [strOK] at h
      split at h
      · rename_i i k hl; exact ⟨i, k, hl⟩
      · cases h
    · refine strOK_mem (l := l) ?_ hm
      cases o with
      | str cs' =>
        simp only [strOK] at h
        split at h
        · exact h
        · cases h
      | _ => exact h
theorem mem_of_look {n : Nat} {o : Obj} {l : List (Nat × Obj)} (h : look l n = some o) : (n, o) ∈ l := look_mem h
/-- the results of a call -/
theorem ret_sound (S : Sim w0 W0 st a w E) {nw : Bool} (hnw : nw = true → ∀ b, ¬ W0 b) {fn : Func} {fresh : Bool} {r : PV} {outs : List (Nat × Obj)} (hr : okR r = true) (hO : OutsOK outs) (h : retIO nw fresh st (resOf C.P fn st) r outs) :
    ∃ v E', (results fn a.tmps).run C.P w = .ok v w ∧ (∀ b, E'.F b → (E.F b ∨ New w0 W0 b) ∧ (fresh = true → w0.heap.size ≤ b) ∧ b < w.heap.size) ∧ R2 w E' w0.heap.size fresh r v ∧ Objs w E' w0.heap.size (New w0 W0) outs ∧ ∀ d, isSame d = true → d ∈ ids outs → d ∉ st.u ∧ E'.hd (.s d) = E.hd (.s d) := by
  have hF : ∀ m used b, (E.ret st w0.heap.size fresh m used).F b → (E.F b ∨ New w0 W0 b) ∧ (fresh = true → w0.heap.size ≤ b) ∧ b < w.heap.size := by
    rintro m used b ⟨hb, hf⟩
    refine ⟨?_, hf, ?_⟩
    · rcases hb with hb | ⟨n, o, h1, h2, _, h3⟩
      · exact .inl hb
      · exact .inr (S.out (.s n) o b h1 (live_frz h2) h3).2
    · rcases hb with hb | ⟨n, o, h1, h2, _, h3⟩
      · exact S.F b hb
      · exact S.lt (.s n) o b h1 (live_frz h2) h3
  unfold retIO at h
  split at h
  · split at h
    case h_2 => exact h.elim
    rename_i hno
    have hno : mt2 (resOf C.P fn st) r = [] := by
      cases hmt : mt2 (resOf C.P fn st) r with
      | nil => rfl
      | cons _ _ => rw [hmt] at hno; cases hno
    have hk := okR_tup hr h
    obtain ⟨v, h1, h2⟩ := results_ok (C := C) S fn hk.1 hk.2.2
    exact ⟨v, E.ret st w0.heap.size fresh [] [], h1, hF _ _, fitV2_ok S hnw (fun d q hq => by rw [hno] at hq; cases hq) h h2 hk.2.1, ⟨fun n o ho => (by cases ho), fun n n' o o' b ho => (by cases ho), fun n o b ho => (by cases ho)⟩, fun d _ hd => (by cases hd)⟩
  · rename_i o os
    split at h
    case h_2 => exact h.elim
    rename_i q1 q2 q3 q4 q5
    obtain ⟨hv, ho⟩ := h
    have hk := okR_tup hr hv
    obtain ⟨v, h1, h2⟩ := results_ok (C := C) S fn hk.1 hk.2.2
    have hmk := nodup_iff q1
    have hus := nodup_iff q2
    have hids := nodup_iff q4
    have hMeq : pairs st.h (resOf C.P fn st) r (o :: os) = mt2 (resOf C.P fn st) r ++ strPairs st.h (mt2 (resOf C.P fn st) r) (o :: os) := by simp only [pairs, appP_eq]
    generalize hM : pairs st.h (resOf C.P fn st) r (o :: os) = M at *
    have hsp : ∀ d ob, (d, ob) ∈ o :: os → ∀ cs cs' n k, ob = .str cs' → locOf M d ob = .lp (.s n) k → look st.h n = some (.str cs) → ∀ q, q ∈ mtL cs cs' → q ∈ M := by
      intro d ob hd cs cs' n k e hl hn q hq
      subst e
      obtain ⟨i, k', hl1⟩ := strOK_mem q5 hd
      have hl2 : locOf (mt2 (resOf C.P fn st) r) d (.str cs') = .lp (.s n) k := by
        rw [← hl]
        unfold locOf at hl1 ⊢
        cases hs : isSame d with
        | true => rfl
        | false =>
          rw [hs] at hl1
          simp only at hl1 ⊢
          rw [hMeq, lookP_app (by rw [hl1]; exact fun e => by cases e)]
      rw [hMeq]
      exact List.mem_append_right _ (strPairs_mem hl2 hn hd q hq)
    generalize hU : usedIds M (o :: os) = U at *
    have obj : ∀ d ob, (d, ob) ∈ o :: os → _ := fun d ob hd => fitO_ok (used := U) S hnw (m := M) hd hO hmk (hsp d ob hd) (fitOs_mem ho hd)
    refine ⟨v, E.ret st w0.heap.size fresh M U, h1, hF _ _, fitV2_ok S hnw (fun d q hq => lookP_mem hmk (by rw [hMeq]; exact List.mem_append_left _ hq)) hv h2 hk.2.1, ⟨fun d ob hd => ?_, fun d d' o1 o2 b hd hd' l1 l2 b1 b2 => ?_, fun d ob b hd hl hb => ?_⟩, fun d hs hd => ⟨isSame_hd q3 hd hs, hd_same hs⟩⟩
    · obtain ⟨g1, g2, _⟩ := obj d ob (look_mem hd)
      exact ⟨g1, g2⟩
    · obtain ⟨_, _, _, g1⟩ := obj d o1 (look_mem hd)
      obtain ⟨_, _, _, g2⟩ := obj d' o2 (look_mem hd')
      obtain ⟨n, p1, k1, k2, k3, k4⟩ := g1.resolve_left (fun h => h b b1)
      obtain ⟨n', p2, k1', k2', k3', k4'⟩ := g2.resolve_left (fun h => h b b2)
      rw [k4] at b1; rw [k4'] at b2
      have := S.apart (.s n) (.s n') p1 p2 b k2 k2' k3 k3' b1 b2
      cases this
      exact usedIds_inj (by rw [hU]; exact hus) (look_mem hd) (look_mem hd') k1 k1'
    · obtain ⟨_, _, _, g1⟩ := obj d ob (look_mem hd)
      obtain ⟨n, p1, k1, k2, k3, k4⟩ := g1.resolve_left (fun h => h b hb)
      rw [k4] at hb
      obtain ⟨r1, r2⟩ := S.out (.s n) p1 b k2 k3 hb
      refine ⟨fun hf => ?_, r2, S.lt (.s n) p1 b k2 k3 hb⟩
      rcases hf.1 with hf | ⟨n2, o2, s1, s2, s3, s4⟩
      · exact r1 hf
      · have := S.apart (.s n) (.s n2) p1 o2 b k2 s1 k3 (live_frz s2) hb s4
        cases this
        exact s3 (by rw [← hU]; exact usedIds_mem (look_mem hd) k1)
/-- the state as a call begins -/
theorem sim_start {ps : List PV} {vs : Array Value} {n : Nat} {ins : List (Nat × Obj)} (hF : ∀ b, E.F b → b < w.heap.size) (hs : vs.size = llen ps) (hv : ∀ k, k < llen ps → R1 w E w.heap.size false (nth .bad ps k) (vs.getD k undef)) (hI : Objs w E w.heap.size (fun _ => True) ins) :
    Sim w (Foot E ins) { r := init n ps, h := ins, t := [], u := [], g := fun _ => none } { tmps := vs ++ Array.replicate (n - vs.size) undef, defers := [] } w E := by
  have obj : ∀ d o, St.obj { r := init n ps, h := ins, t := [], u := [], g := fun _ => none } d = some o → ∃ m, d = .s m ∧ look ins m = some o := by
    intro d o h
    cases d with
    | s m => exact ⟨m, rfl, h⟩
    | x m => cases h
  refine ⟨?_, fun k => ?_, rfl, fun d o h => ?_, fun d d' o o' b h h' hl hl' hb hb' => ?_, fun d o b h hl hb => ?_, hF, fun d o h => ?_, ⟨rfl, rfl, rfl, Nat.le_refl _, fun _ _ _ => rfl⟩, fun d o b h hl hb => ?_⟩
  · show llen (init n ps) ≤ (vs ++ Array.replicate (n - vs.size) undef).size
    rw [llen_init]; simp [hs]
  · show R2 w E _ false (nth .bad (init n ps) k) ((vs ++ Array.replicate (n - vs.size) undef).getD k undef)
    rw [nth_init]
    by_cases hk : k < llen ps
    · have : (vs ++ Array.replicate (n - vs.size) undef).getD k undef = vs.getD k undef := by
        have hk' : k < vs.size := by omega
        simp only [Array.getD_eq_getD_getElem?, Array.getElem?_append_left hk']
      rw [this]; exact (hv k hk).r2
    · rw [nth_out _ _ _ (by omega)]; trivial
  · obtain ⟨m, rfl, hm⟩ := obj d o h; exact (hI.ok m o hm).1
  · obtain ⟨m, rfl, hm⟩ := obj d o h
    obtain ⟨m', rfl, hm'⟩ := obj d' o' h'
    rw [hI.apart m m' o o' b hm hm' hl hl' hb hb']
  · obtain ⟨m, rfl, hm⟩ := obj d o h
    exact ⟨(hI.out m o b hm hl hb).1, .inr ⟨m, o, hm, hl, hb⟩⟩
  · obtain ⟨m, rfl, hm⟩ := obj d o h; exact (hI.ok m o hm).2
  · obtain ⟨m, rfl, hm⟩ := obj d o h; exact (hI.out m o b hm hl hb).2.2
theorem isSame_of {n : Nat} (h : 100000 ≤ n) (h' : n < 200000) : isSame n = true := by
  simp only [isSame, isChg_not.2 h', isOld_iff.2 h]
/-- names of what is handed over -/
def InsOK (ins : List (Nat × Obj)) : Prop := ∀ n, n ∈ ids ins → isSame n = true
theorem sound0 (hC : CxOK' C) {f : FuncId} {fn : Func} (hf : C.P.funcs[f]? = some fn) (hname : (fn.name == "runtime.NumGoroutine") = false) (hb' : fn.body.isSome = true) {args : List PV} {ins : List (Nat × Obj)} {fresh nw : Bool} {r : PV} {outs : List (Nat × Obj)}
    (hnw : nw = true → ins = []) (hr : okR r = true) (hO : OutsOK outs) (hI : InsOK ins) (h : vcF C fn args ins fun st p => retIO nw fresh st p r outs) : PureIO C.P f args ins fresh r outs := by
  intro w E vs hF hs hv hIn
  obtain ⟨c, hb⟩ := Option.isSome_iff_exists.1 hb'
  refine .inl ⟨run_enter hf hname hb vs w, calls_of_wp hf hb ?_⟩
  unfold vcF at h
  rw [hb] at h
  have S := sim_start (n := fn.ntmps) hF hs hv hIn
  have hnw' : nw = true → ∀ b, ¬ Foot E ins b := fun hn b => by rw [hnw hn]; exact Foot.nil
  refine wp_mono (code_sound hC c S h) (fun e a' w' hd => ?_)
  obtain ⟨st', E', hq, S', F'⟩ := hd
  have fin : retIO nw fresh st' (resOf C.P fn st') r outs → a'.defers = [] ∧ ∃ v, (results fn a'.tmps).run C.P w' = .ok v w' ∧ ∃ v', Ending.returned v = .returned v' ∧ ∃ E', Keeps w (Foot E ins) w' ∧ (∀ b, E'.F b → (fresh = false ∧ (E.F b ∨ Foot E ins b)) ∨ w.heap.size ≤ b) ∧ (∀ b, E'.F b → b < w'.heap.size) ∧
      R2 w' E' w.heap.size fresh r v' ∧ Objs w' E' w.heap.size (New w (Foot E ins)) outs ∧ ∀ n, n ∈ ids ins → n ∈ ids outs → E'.hd (.s n) = E.hd (.s n) := by
    intro hq
    obtain ⟨v, E2, g1, g2, g3, g4, g5⟩ := ret_sound (C := C) S' hnw' hr hO hq
    refine ⟨S'.defers, v, g1, v, rfl, E2, S'.keep, fun b hb => ?_, fun b hb => (g2 b hb).2.2, g3, g4, fun n hn hn' => ?_⟩
    · obtain ⟨k1, k2, k3⟩ := g2 b hb
      cases hfr : fresh with
      | true => exact .inr (k2 hfr)
      | false =>
        have key : E.F b ∨ New w (Foot E ins) b → (false = false ∧ (E.F b ∨ Foot E ins b)) ∨ w.heap.size ≤ b := by
          rintro (h | h | h)
          · exact .inl ⟨rfl, .inl h⟩
          · exact .inr h
          · exact .inl ⟨rfl, .inr h⟩
        rcases k1 with k1 | k1
        · exact key (F'.F2 b k1)
        · exact key (.inr k1)
    · obtain ⟨h1, h2⟩ := g5 n (hI n hn) hn'
      rw [h2]
      exact F'.hd _ (fun m e => by cases e; exact h1)
  cases e with
  | normal => exact fin hq
  | ret => exact fin hq
  | exit id => exact hq.elim
  | goto l => exact hq.elim
  | panic ch => exact hq.elim
  | outgrown => exact hq.elim
/-- THE CONTRACT OF A FUNCTION, of its condition -/
theorem pure_sound (hC : CxOK' C) {f : FuncId} {fn : Func} (hf : C.P.funcs[f]? = some fn) (hname : (fn.name == "runtime.NumGoroutine") = false) (hb' : fn.body.isSome = true) {args : List PV} {fresh : Bool} {r : PV} {objs : List (Nat × Obj)}
    (hr : okR r = true) (hO : OutsOK objs) (h : vcP C fn args fresh r objs) : Pure C.P f args fresh r objs :=
  sound0 hC hf hname hb' (fun _ => rfl) hr hO (fun n hn => by cases hn) h
/-- THE CONTRACT OF A FUNCTION TO WHICH OBJECTS ARE HANDED OVER, of its condition -/
theorem io_sound (hC : CxOK' C) {f : FuncId} {fn : Func} (hf : C.P.funcs[f]? = some fn) (hname : (fn.name == "runtime.NumGoroutine") = false) (hb' : fn.body.isSome = true) {args : List PV} {ins : List (Nat × Obj)} {fresh : Bool} {r : PV} {outs : List (Nat × Obj)}
    (hr : okR r = true) (hO : OutsOK outs) (hI : InsOK ins) (h : vcIO C fn args ins fresh r outs) : PureIO C.P f args ins fresh r outs :=
  sound0 hC hf hname hb' (fun h => by cases h) hr hO hI h
theorem outsOK_nil : OutsOK [] := fun d => ⟨fun f z α e δ xs h => (by cases h), fun z α e δ xs h => (by cases h)⟩
end
end Pv

/- What an argument reads as, as an abstract value. -/
namespace Pv
open Go
/-- a variable of type t that reads as data holds what stands for some x : α -/
def Reads (P : Program) (t : TypeId) {α : Type} (e : α → List PV) (Ok : α → Prop) : Prop :=
  ∀ (H : Type) (enc : TypeId × Value → H) (w : World) (spare : Nat → Bool) (held : Bool) (fuel : Nat) (cs : List Value) (x : DataW H × List MemPlace),
    DataW.trod enc P w 0 spare held fuel t cs = some x → (∀ n, n ∈ DataW.weights P t x.1 → n ≤ reachBytes) →
    ∃ y : α, Ok y ∧ cs.length = llen (e y) ∧ ∀ k, k < llen (e y) → Fz w (fun b => b < w.heap.size) (nth .bad (e y) k) (cs.getD k undef)
section
variable {P : Program}
theorem reads_int {t : TypeId} {k : IntKind} (ht : P.underlying t = some (.int k)) : Reads P t (fun x : Int => [.i k x]) (fun x => (Lit.int k x).wf = true) := by
  intro H enc w spare held fuel cs x h _
  cases fuel with
  | zero => simp [DataW.trod] at h
  | succ fuel =>
    unfold DataW.trod at h
    rw [ht] at h
    split at h <;> rename_i heq <;> first | (cases heq; done) | skip
    · rename_i k' k'' n
      cases heq
      split at h
      · rename_i hk
        obtain ⟨rfl, hw⟩ := hk
        exact ⟨n, hw, rfl, fun j hj => by
          have : j = 0 := by simp [llen] at hj; omega
          subst this; exact .i _ n⟩
      · cases h
    all_goals cases h
theorem reads_bool {t : TypeId} (ht : P.underlying t = some .bool) : Reads P t (fun x : Bool => [.b x]) (fun _ => True) := by
  intro H enc w spare held fuel cs x h _
  cases fuel with
  | zero => simp [DataW.trod] at h
  | succ fuel =>
    unfold DataW.trod at h
    rw [ht] at h
    split at h <;> rename_i heq <;> first | (cases heq; done) | skip
    · rename_i b
      exact ⟨b, trivial, rfl, fun j hj => by
          have : j = 0 := by simp [llen] at hj; omega
          subst this; exact .b b⟩
    all_goals cases h
theorem reads_string {t : TypeId} (ht : P.underlying t = some .string) : Reads P t (fun x : Str => [.s x]) (fun x => x.length ≤ 140737488351232) := by
  intro H enc w spare held fuel cs x h hw
  cases fuel with
  | zero => simp [DataW.trod] at h
  | succ fuel =>
    unfold DataW.trod at h
    rw [ht] at h
    split at h <;> rename_i heq <;> first | (cases heq; done) | skip
    · rename_i s
      split at h
      · rename_i hm
        cases h
        have hs : s.data.toList.length ≤ 140737488351232 := hw _ (by simp [DataW.weights])
        refine ⟨s.data.toList, hs, rfl, fun j hj => ?_⟩
        have : j = 0 := by simp [llen] at hj; omega
        subst this
        exact .s s (by rw [Array.length_toList] at hs; show s.data.size ≤ _; omega)
      · cases h
    all_goals cases h
theorem reads_map {t : TypeId} {α β : Type} {e : α → List PV} {Ok : α → Prop} (h : Reads P t e Ok) (f : α → β) (e' : β → List PV) (Ok' : β → Prop) (he : ∀ x, e' (f x) = e x) (ho : ∀ x, Ok x → Ok' (f x)) : Reads P t e' Ok' := by
  intro H enc w spare held fuel cs x hx hw
  obtain ⟨y, h1, h2, h3⟩ := h H enc w spare held fuel cs x hx hw
  exact ⟨f y, ho y h1, by rw [he]; exact h2, by rw [he]; exact h3⟩
theorem mapM_some {α β : Type} {f : α → Option β} : ∀ {l : List α} {r : List β}, l.mapM f = some r → r.length = l.length ∧ ∀ i (h : i < l.length) (h' : i < r.length), f l[i] = some r[i]
  | [], r, h => by simp at h; subst h; exact ⟨rfl, fun i h => absurd h (Nat.not_lt_zero i)⟩
  | a :: l, r, h => by
    rw [List.mapM_cons] at h
    cases ha : f a with
    | none => simp [ha] at h
    | some b =>
      cases hl : l.mapM f with
      | none => simp [ha, hl] at h
      | some r' =>
        simp [ha, hl] at h
        subst h
        obtain ⟨h1, h2⟩ := mapM_some hl
        refine ⟨by simp [h1], fun i hi hi' => ?_⟩
        cases i with
        | zero => exact ha
        | succ i => exact h2 i (by simpa using hi) (by simpa using hi')
theorem mem_weightsAll {H : Type} {t : TypeId} {d : DataW H} {n : Nat} : ∀ {l : List (DataW H)}, d ∈ l → n ∈ DataW.weights P t d → n ∈ DataW.weightsAll P t l
  | [], h, _ => by cases h
  | a :: l, h, hn => by
    rw [DataW.weightsAll, List.mem_append]
    rcases List.mem_cons.1 h with rfl | h
    · exact .inl hn
    · exact .inr (mem_weightsAll h hn)
theorem reads_slice {t et : TypeId} {n : Nat} {α : Type} {e : α → List PV} {d : α} {Ok : α → Prop} (ht : P.underlying t = some (.slice et)) (hr : Reads P et e Ok) (hn : P.cellsOf et = n) (h0 : 0 < n) {bs : Nat} (hbs : P.bytesOf et = bs) (hb : 1 ≤ bs) (hl : ∀ x, llen (e x) = n) :
    Reads P t (fun xs : List α => [.fl false n α e d xs]) (fun xs => (∀ x, x ∈ xs → Ok x) ∧ xs.length * bs ≤ 140737488351232) := by
  subst hbs
  intro H enc w spare held fuel cs x h hw
  cases fuel with
  | zero => simp [DataW.trod] at h
  | succ fuel =>
    unfold DataW.trod at h
    rw [ht] at h
    split at h <;> rename_i heq <;> first | (cases heq; done) | skip
    · -- nil
      refine ⟨[], ⟨fun x hx => (by cases hx), by simp⟩, rfl, fun j hj => ?_⟩
      have : j = 0 := by simp [llen] at hj; omega
      subst this
      exact .fl false n α e d [] none 0 0 0 (fun _ _ => .nilIface) (Nat.le_refl _) (fun h => absurd h (Nat.lt_irrefl 0)) (by simp) (fun h => absurd h (Nat.lt_irrefl 0)) (fun j k h => absurd h (Nat.not_lt_zero j)) (fun j k h => absurd h (Nat.not_lt_zero j))
    · rename_i e' a len cap
      cases heq
      simp only at h
      split at h
      case isFalse => cases h
      rename_i hlc
      cases hel : (List.range len).mapM (fun i => (w.cells? 0 (a.add (i * P.cellsOf et)) (P.cellsOf et)).bind (DataW.trod enc P w 0 spare held fuel et)) with
      | none => rw [hel] at h; cases h
      | some elems =>
        rw [hel] at h
        simp only [Option.bind_some] at h
        obtain ⟨hlen, hat⟩ := mapM_some hel
        rw [List.length_range] at hlen
        cases hrest : (if spare a.block then (List.range (cap - len)).mapM (fun j => (w.cells? 0 (a.add ((len + j) * P.cellsOf et)) (P.cellsOf et)).bind (DataW.trod enc P w 0 spare held fuel et)) else some []) with
        | none => rw [hrest] at h; cases h
        | some rest =>
          rw [hrest] at h
          cases h
          -- each element
          have each : ∀ i, i < len → ∃ (cs' : List Value) (y : α), w.cells? 0 (a.add (i * n)) n = some cs' ∧ Ok y ∧ cs'.length = llen (e y) ∧ ∀ k, k < llen (e y) → Fz w (fun b => b < w.heap.size) (nth .bad (e y) k) (cs'.getD k undef) := by
            intro i hi
            have h1 := hat i (by rw [List.length_range]; exact hi) (by omega)
            rw [List.getElem_range, hn] at h1
            cases hc : w.cells? 0 (a.add (i * n)) n with
            | none => rw [hc] at h1; cases h1
            | some cs' =>
              rw [hc] at h1
              simp only [Option.bind_some] at h1
              obtain ⟨y, g1, g2, g3⟩ := hr H enc w spare held fuel cs' _ h1 (fun m hm => hw m (by
                simp only [DataW.weights, ht]
                rw [List.mem_cons, List.mem_append]
                exact .inr (.inl (mem_weightsAll (List.mem_map.2 ⟨_, List.getElem_mem (by omega), rfl⟩) hm))))
              exact ⟨cs', y, rfl, g1, g2, g3⟩
          classical
          let ys : Nat → α := fun i => if h : i < len then Classical.choose (Classical.choose_spec (each i h)) else d
          have hys : ∀ i (h : i < len), ∃ cs' : List Value, w.cells? 0 (a.add (i * n)) n = some cs' ∧ Ok (ys i) ∧ cs'.length = llen (e (ys i)) ∧ ∀ k, k < llen (e (ys i)) → Fz w (fun b => b < w.heap.size) (nth .bad (e (ys i)) k) (cs'.getD k undef) := by
            intro i h
            have e1 : ys i = Classical.choose (Classical.choose_spec (each i h)) := dif_pos h
            rw [e1]
            exact ⟨_, Classical.choose_spec (Classical.choose_spec (each i h))⟩
          have hxl : ((List.range len).map ys).length = len := by simp
          have hget : ∀ j, j < len → ((List.range len).map ys).getD j d = ys j := by
            intro j hj; simp [List.getD, hj]
          have hsz : len * P.bytesOf et ≤ 140737488351232 := by
            have := hw ((elems.map (·.1)).length * P.bytesOf et + (rest.map (·.1)).length * P.bytesOf et) (by
              simp only [DataW.weights, ht]
              rw [← Nat.add_mul]; exact List.mem_cons_self ..)
            rw [List.length_map, hlen] at this
            have hr : reachBytes = 140737488351232 := rfl
            omega
          have hlen2 : len ≤ 140737488351232 := by
            have : len * 1 ≤ len * P.bytesOf et := Nat.mul_le_mul_left _ hb
            omega
          have hspot : 0 < len → a.spot = none := by
            intro hp
            obtain ⟨cs', g1, g2, g3, g4⟩ := hys 0 hp
            rw [hl] at g3
            obtain ⟨_, hcl, hcc⟩ := World.cells?_some g1
            have hc := hcc 0 h0
            have hkc : 0 < cs'.length := by omega
            rw [List.getElem?_eq_getElem hkc] at hc
            have e1 : (a.add (0 * n)).add 0 = a := by simp [Addr.add]
            rw [e1] at hc
            cases hsp : a.spot with
            | none => rfl
            | some q =>
              exfalso
              simp only [World.cell?, hsp] at hc
              revert hc
              cases w.heap[a.block]? with
              | none => simp
              | some ob => cases ob <;> simp
          have hcell : ∀ j k, j < len → k < n → ∃ v, w.cell? ⟨a.block, a.off + (j * n + k), none⟩ = some v ∧ a.spot = none ∧ a.block < w.heap.size ∧ Fz w (fun b => b < w.heap.size) (nth .bad (e (ys j)) k) v := by
            intro j k hj hk
            obtain ⟨cs', g1, g2, g3, g4⟩ := hys j hj
            rw [hl] at g3 g4
            obtain ⟨_, hcl, hcc⟩ := World.cells?_some g1
            have hc := hcc k hk
            have hkc : k < cs'.length := by omega
            rw [List.getElem?_eq_getElem hkc] at hc
            have hv := g4 k hk
            have e1 : cs'.getD k undef = cs'[k] := by simp [hkc]
            rw [e1] at hv
            have hsp := hspot (by omega)
            cases a with
            | mk b o sp =>
              simp only at hsp
              subst hsp
              rw [Addr.add_mid, Addr.add_mid] at hc
              refine ⟨cs'[k], by rw [← hc]; congr 2; simp only; omega, rfl, ?_, hv⟩
              rcases Nat.lt_or_ge b w.heap.size with h | h
              · exact h
              · simp [World.cell?, Array.getElem?_eq_none h] at hc
          refine ⟨(List.range len).map ys, ⟨fun x hx => ?_, by rw [hxl]; exact hsz⟩, rfl, fun j hj => ?_⟩
          · obtain ⟨i, hi, rfl⟩ := List.mem_map.1 hx
            obtain ⟨_, _, g, _⟩ := hys i (List.mem_range.1 hi)
            exact g
          · have : j = 0 := by simp [llen] at hj; omega
            subst this
            have key := Fz.fl (w := w) (G := fun b => b < w.heap.size) false n α e d ((List.range len).map ys) (some a) cap a.block a.off (fun j k => (w.cell? ⟨a.block, a.off + (j * n + k), none⟩).getD undef) (by rw [hxl]; exact hlc.2.1) (fun _ => hl) (by rw [hxl]; omega) (fun hp => by
                rw [hxl] at hp
                obtain ⟨v, _, g1, g2, _⟩ := hcell 0 0 hp h0
                refine ⟨?_, g2⟩
                cases a; simp at g1; rw [g1]) (fun j k hj hk => by
                rw [hxl] at hj
                obtain ⟨v, g1, _⟩ := hcell j k hj hk
                rw [g1]; rfl) (fun j k hj hk => by
                rw [hxl] at hj
                obtain ⟨v, g1, _, _, g2⟩ := hcell j k hj hk
                rw [hget j hj, g1]; exact g2)
            rw [hxl] at key
            exact key
    all_goals cases h
/-! ### structs -/
/-- the fields from a place on read as something -/
def ReadsF (P : Program) (fs : List Field) (off : Nat) {α : Type} (e : α → List PV) (Ok : α → Prop) : Prop :=
  ∀ (H : Type) (enc : TypeId × Value → H) (w : World) (spare : Nat → Bool) (held : Bool) (fuel : Nat) (cs : List Value) (xs : List (DataW H × List MemPlace)),
    (fs.mapM fun f => DataW.trod enc P w 0 spare held fuel f.type ((cs.drop f.offset).take (P.cellsOf f.type))) = some xs → (∀ n, n ∈ DataW.weightsEach P (fs.map (·.type)) (xs.map (·.1)) → n ≤ reachBytes) →
    ∃ y : α, Ok y ∧ ∀ k, k < llen (e y) → Fz w (fun b => b < w.heap.size) (nth .bad (e y) k) (cs.getD (off + k) undef)
theorem readsF_nil {off : Nat} : ReadsF P [] off (fun _ : Unit => []) (fun _ => True) := fun _ _ _ _ _ _ _ _ _ _ => ⟨(), trivial, fun k hk => absurd hk (Nat.not_lt_zero k)⟩
theorem readsF_cons {f : Field} {fs : List Field} {off n : Nat} {α β : Type} {e : α → List PV} {e' : β → List PV} {Ok : α → Prop} {Ok' : β → Prop} (hr : Reads P f.type e Ok) (ho : f.offset = off) (hn : P.cellsOf f.type = n) (hl : ∀ x, llen (e x) = n)
    (h : ReadsF P fs (off + n) e' Ok') : ReadsF P (f :: fs) off (fun p : α × β => app (e p.1) (e' p.2)) (fun p => Ok p.1 ∧ Ok' p.2) := by
  intro H enc w spare held fuel cs xs hx hw
  rw [List.mapM_cons] at hx
  cases h1 : DataW.trod enc P w 0 spare held fuel f.type ((cs.drop f.offset).take (P.cellsOf f.type)) with
  | none => simp [h1] at hx
  | some x =>
    cases h2 : fs.mapM (fun f => DataW.trod enc P w 0 spare held fuel f.type ((cs.drop f.offset).take (P.cellsOf f.type))) with
    | none => simp [h1, h2] at hx
    | some xs' =>
      simp [h1, h2] at hx
      subst hx
      simp only [List.map_cons, DataW.weightsEach, List.mem_append] at hw
      obtain ⟨y, g1, g2, g3⟩ := hr H enc w spare held fuel _ _ h1 (fun m hm => hw m (.inl hm))
      obtain ⟨z, g4, g5⟩ := h H enc w spare held fuel cs xs' h2 (fun m hm => hw m (.inr hm))
      refine ⟨(y, z), ⟨g1, g4⟩, fun k hk => ?_⟩
      simp only at hk ⊢
      have hle : llen (e y) = n := hl y
      rw [app_eq, llen_eq, List.length_append, ← llen_eq, ← llen_eq, hle] at hk
      rw [nth_app, hle]
      by_cases hlt : k < n
      · rw [if_pos hlt]
        have := g3 k (by omega)
        have e1 : ((cs.drop f.offset).take (P.cellsOf f.type)).getD k undef = cs.getD (off + k) undef := by
          rw [hn, ho]; simp [List.getD, hlt]
        rw [e1] at this; exact this
      · rw [if_neg hlt]
        have := g5 (k - n) (by omega)
        rwa [show off + n + (k - n) = off + k by omega] at this
theorem reads_struct {t : TypeId} {fs : Array Field} {α : Type} {e : α → List PV} {Ok : α → Prop} (ht : P.underlying t = some (.struct fs)) (hr : ReadsF P fs.toList 0 e Ok) (hl : ∀ x, llen (e x) = P.cellsOf t) : Reads P t e Ok := by
  intro H enc w spare held fuel cs x h hw
  cases fuel with
  | zero => simp [DataW.trod] at h
  | succ fuel =>
    unfold DataW.trod at h
    rw [ht] at h
    have hst : ∀ (cs : List Value), (match some (TypeDesc.struct fs), cs with
        | some (.struct fs), cs => if cs.length = P.cellsOf t then (fs.toList.mapM fun f => DataW.trod enc P w 0 spare held fuel f.type ((cs.drop f.offset).take (P.cellsOf f.type))).map fun xs => (DataW.agg (xs.map (·.1)), xs.flatMap (·.2)) else none
        | _, _ => none) = if cs.length = P.cellsOf t then (fs.toList.mapM fun f => DataW.trod enc P w 0 spare held fuel f.type ((cs.drop f.offset).take (P.cellsOf f.type))).map fun xs => (DataW.agg (xs.map (·.1)), xs.flatMap (·.2)) else none := fun cs => rfl
    have h' : (if cs.length = P.cellsOf t then (fs.toList.mapM fun f => DataW.trod enc P w 0 spare held fuel f.type ((cs.drop f.offset).take (P.cellsOf f.type))).map fun xs => (DataW.agg (xs.map (·.1)), xs.flatMap (·.2)) else none) = some x := h
    split at h'
    case isFalse => cases h'
    rename_i hcs
    cases hx : (fs.toList.mapM fun f => DataW.trod enc P w 0 spare held fuel f.type ((cs.drop f.offset).take (P.cellsOf f.type))) with
    | none => rw [hx] at h'; cases h'
    | some xs =>
      rw [hx] at h'
      cases h'
      obtain ⟨y, g1, g2⟩ := hr H enc w spare held fuel cs xs hx (fun m hm => hw m (by simp only [DataW.weights, ht]; exact hm))
      exact ⟨y, g1, by rw [hl, hcs], fun k hk => by have := g2 k hk; rwa [Nat.zero_add] at this⟩
end
end Pv

/- A law of one argument, closed: from its contract to what its row asks. -/
namespace Pv
open Go Go.RowKit Go.ChangeShapes
theorem Upon.calls {P : Program} {f : FuncId} {vs : Array Value} {w : World} {R : Value → World → Prop} (hrun : (callFunc f vs).run P w = .ok (.enter f vs) w) (h : Upon P f vs w R) : Calls P f vs w fun e w' => ∃ v, e = .returned v ∧ R v w' := by
  rcases h with ⟨_, h⟩ | ⟨v, w', h, _⟩
  · exact h
  · rw [hrun] at h; cases h
theorem R0_of_reads {w : World} {hd : Id → Hd} {B : Nat} {p : PV} {v : Value} (h : Fz w (fun b => b < w.heap.size) p v) (hp : pfl p = false) : R0 w ⟨fun b => b < w.heap.size, hd⟩ B false p v := R0.of_Fz (hd := hd) h hp
theorem law1 {P : Program} {f : FuncId} {fn : Func} {s : ChangeSpec} {t tb : TypeId} {α : Type} {e : α → List PV} {Ok : α → Prop} {fs : Array Field} {fresh handsOn : Bool}
    (hl : laidOutB P = true) (hrd : P.readableRec t = true) (hrow : t < P.types.size) (hpar : fn.params = #[t]) (hres : fn.resultTypes = #[tb]) (htb : P.underlying tb = some .bool) (hst : P.underlying t = some (.struct fs)) (hs : s.vars = [])
    (hfn : ∀ (H : Type) (d : DataW H), s.fn H [d] = { results := [.lit (.bool true)], args := [d] }) (hread : Reads P t e Ok) (hflag : ∀ x k, pfl (nth .bad (e x) k) = false) (hrun : ∀ vs w, (callFunc f vs).run P w = .ok (.enter f vs) w)
    (hpure : ∀ x, Ok x → ∃ fr, Pure P f [.agg (e x)] fr (.b true) []) (H : Type) (enc : TypeId × Value → H) (W : World) (base : Nat) (args : Array Value) (ds gs : List (DataW H)) (before : List MemPlace)
    (hok : ∀ (j : Nat) t v, fn.params[j]? = some t → args[j]? = some v → Value.okWide P W .any base t v) (hW : DataW.Whole enc P fn.params.toList s.vars false W args.toList ds gs before)
    (hsz : (DataW.weightsEach P (fn.params.toList ++ s.plain.varTypes P) (ds ++ gs)).all (· ≤ reachBytes) = true) :
    Calls P f args W fun e W' => ∃ v, e = .returned v ∧ s.post enc P fn false fresh handsOn false W args v W' := by
  have hW' := hW
  obtain ⟨p, q, hA, hV, rfl, _, _⟩ := hW
  rw [hpar] at hA hok hsz
  obtain ⟨v, vs, d, ds', p', q', hargs, rfl, rfl, h1, hrest⟩ := trodAll_cons (t := t) (ts := []) hA
  obtain ⟨rfl, rfl, rfl⟩ := trodAll_nil hrest
  obtain rfl : args = #[v] := by cases args; simp_all
  rw [hs] at hV
  obtain ⟨rfl, rfl⟩ := trodVars_none hV
  obtain ⟨cs, rfl, hcs⟩ := WideShapes.okWide_struct hst (hok 0 t v rfl rfl)
  have hk := h1
  obtain ⟨fuel, hf⟩ := h1
  have hwt : ∀ n, n ∈ DataW.weights P t d → n ≤ reachBytes := by
    intro n hn
    have := List.all_eq_true.1 hsz n (by
      show n ∈ DataW.weightsEach P ([t] ++ s.plain.varTypes P) ([d] ++ [] ++ [])
      simp only [List.append_nil, List.cons_append, List.nil_append, DataW.weightsEach]
      exact List.mem_append_left _ hn)
    simpa using this
  obtain ⟨x, hx, hlen, hcell⟩ := hread H enc W _ _ fuel _ (d, p') hf hwt
  obtain ⟨fr, hp⟩ := hpure x hx
  have hlt : ∀ y ∈ p', y.block < W.heap.size := by obtain ⟨m, hm⟩ := hk; exact DataW.trod_lt m _ _ _ hm
  have hup := hp W ⟨fun b => b < W.heap.size, fun _ => Hd.of undef⟩ #[.agg cs] (fun b hb => hb) rfl (fun k hk => by
    have : k = 0 := by simp [llen] at hk; omega
    subst this
    refine ⟨cs, rfl, by rw [← hlen]; simp [Value.cells], fun j hj => ?_⟩
    have hc := hcell j hj
    have e1 : (Value.agg cs).cells.toList.getD j undef = cs.getD j undef := by simp [Value.cells]
    rw [e1] at hc
    -- a cell that reads holds no flag
    exact R0_of_reads hc (hflag x j))
  refine (Upon.calls (hrun _ _) (hup Objs.nil)).mono fun e W' ⟨v, he, E', hg, _, _, hr, _⟩ => ?_
  have hv : v = .bool true := by
    cases fr with
    | true => exact R2.b hr
    | false => exact R2.b hr
  subst hv
  have bel : Below W.heap.size W W' := ⟨hg.os, hg.tape, hg.output, hg.size, fun b hb => hg.blk b hb Foot.nil⟩
  refine ⟨_, he, _, _, _, [], p', [], hW', ?_, ?_, ?_, bel.frame _, fun h => (by cases h)⟩
  · rw [hres, List.append_nil, hfn]; exact trodAll_mk1 (shut_bool htb _)
  · rw [hpar, List.append_nil, hfn]; exact trodAll_mk1 (Below.trod hl hrd hrow hk bel hlt)
  · rw [hs, List.append_nil, hfn]; rfl
end Pv

/- A contract's new objects, by other names. -/
namespace Pv
open Go
/-- names of new objects, moved -/
def shift (d n : Nat) : Nat := match isOld n with | true => n | false => d + 1000 * n
/-- no new name becomes an old one -/
def smallB (g : Nat → Nat) : List Nat → Bool
  | [] => true
  | n :: l => match isOld n, isOld (g n) with
    | false, true => false
    | _, _ => smallB g l
section
variable {w : World} {E E1 : Env} {B : Nat} {nw : Bool} {l : List Nat} {g : Nat → Nat}
theorem R0.ren {p : PV} {v : Value} (hF : E1.F = E.F) (hd : ∀ n, n ∈ l → E1.hd (.s (g n)) = E.hd (.s n)) (hin : in0 l p = true) (h : R0 w E B nw p v) : R0 w E1 B nw (bk0 g p) v := by
  have hG : ∀ q, E1.G B q = E.G B q := fun q => by funext b; simp only [Env.G, hF]
  cases p with
  | sl d =>
    cases d with
    | x m => cases hin
    | s m => have hm := (memN_iff m l).1 hin; simp only [bk0, R0] at h ⊢; rw [hd m hm]; exact h
  | sp d z j k =>
    cases d with
    | x m => cases hin
    | s m => have hm := (memN_iff m l).1 hin; simp only [bk0, R0] at h ⊢; rw [hd m hm]; exact h
  | lp d k =>
    cases d with
    | x m => cases hin
    | s m => have hm := (memN_iff m l).1 hin; simp only [bk0, R0] at h ⊢; rw [hd m hm]; exact h
  | mp d =>
    cases d with
    | x m => cases hin
    | s m => have hm := (memN_iff m l).1 hin; simp only [bk0, R0] at h ⊢; rw [hd m hm]; exact h
  | ol m π => have hm := (memN_iff m l).1 hin; simp only [bk0, R0] at h ⊢; rw [hd m hm]; exact h
  | op m π z j k => have hm := (memN_iff m l).1 hin; simp only [bk0, R0] at h ⊢; rw [hd m hm]; exact h
  | sw m z lo k => have hm := (memN_iff m l).1 hin; simp only [bk0, R0] at h ⊢; rw [hd m hm]; exact h
  | _ => simp only [bk0, R0, hG] at h ⊢ <;> first | exact h | skip
theorem R1.ren {p : PV} {v : Value} (hF : E1.F = E.F) (hd : ∀ n, n ∈ l → E1.hd (.s (g n)) = E.hd (.s n)) (hin : in1 l p = true) (h : R1 w E B nw p v) : R1 w E1 B nw (bk1 g p) v := by
  cases p with
  | agg cs =>
    obtain ⟨vs, rfl, h2, h3⟩ := h
    refine ⟨vs, rfl, by rw [llen_lmap]; exact h2, fun k hk => ?_⟩
    rw [llen_lmap] at hk
    rw [nth_lmap _ _ _ _ hk]
    exact (h3 k hk).ren hF hd (allB_iff hin k hk)
  | fn f cs =>
    cases cs with
    | nil => obtain ⟨vs, rfl, h2, h3⟩ := h; exact ⟨vs, rfl, h2, fun k hk => by simp [llen] at hk⟩
    | cons _ _ => cases hin
  | _ =>
    simp only [R1] at h; simp only [in1] at hin
    have := R0.ren hF hd hin h
    revert this; simp only [bk1]
    generalize bk0 g _ = q
    intro this
    cases q <;> first | exact this.r1 | exact this.elim
theorem R2.ren {p : PV} {v : Value} (hF : E1.F = E.F) (hd : ∀ n, n ∈ l → E1.hd (.s (g n)) = E.hd (.s n)) (hin : in2 l p = true) (h : R2 w E B nw p v) : R2 w E1 B nw (bk2 g p) v := by
  cases p with
  | tup cs =>
    obtain ⟨vs, rfl, h2, h3⟩ := h
    refine ⟨vs, rfl, by rw [llen_lmap]; exact h2, fun k hk => ?_⟩
    rw [llen_lmap] at hk
    rw [nth_lmap _ _ _ _ hk]
    exact (h3 k hk).ren hF hd (allB_iff hin k hk)
  | _ =>
    simp only [R2] at h; simp only [in2] at hin
    have := R1.ren hF hd hin h
    revert this; simp only [bk2]
    generalize bk1 g _ = q
    intro this
    cases q <;> first | exact this.r2 | exact this.elim
end
theorem smallB_iff {g : Nat → Nat} {n : Nat} : ∀ {l : List Nat}, smallB g l = true → n ∈ l → isOld n = false → isOld (g n) = false
  | a :: l, h, hn, ho => by
    simp only [smallB] at h
    rcases List.mem_cons.1 hn with rfl | hn
    · rw [ho] at h
      cases hg : isOld (g n) with
      | false => rfl
      | true => rw [hg] at h; cases h
    · refine smallB_iff (l := l) ?_ hn ho
      split at h
      · cases h
      · exact h
theorem PureIO.ren {P : Program} {f : FuncId} {args : List PV} {ins : List (Nat × Obj)} {fresh : Bool} {r : PV} {outs : List (Nat × Obj)} (g : Nat → Nat) (hg : ∀ n, isOld n = true → g n = n) (hI : InsOK ins)
    (hin : in2 (ids outs) r = true) (ho : outsOK (ids outs) false outs = true) (hn : nodup (ids outs) = true) (hn' : nodup (ids (bkH g outs)) = true) (hs : smallB g (ids outs) = true) (h : PureIO P f args ins fresh r outs) :
    PureIO P f args ins fresh (bk2 g r) (bkH g outs) := by
  intro w E vs hF hsz hv hIn
  have hinj := inj_of_nodup (g := g) (l := ids outs) (by rw [← ids_bkH]; exact nodup_iff hn')
  have key : ∀ {v : Value} {w' : World}, (∃ E', Keeps w (Foot E ins) w' ∧ (∀ b, E'.F b → (fresh = false ∧ (E.F b ∨ Foot E ins b)) ∨ w.heap.size ≤ b) ∧ (∀ b, E'.F b → b < w'.heap.size) ∧
      R2 w' E' w.heap.size fresh r v ∧ Objs w' E' w.heap.size (New w (Foot E ins)) outs ∧ ∀ n, n ∈ ids ins → n ∈ ids outs → E'.hd (.s n) = E.hd (.s n)) →
      ∃ E', Keeps w (Foot E ins) w' ∧ (∀ b, E'.F b → (fresh = false ∧ (E.F b ∨ Foot E ins b)) ∨ w.heap.size ≤ b) ∧ (∀ b, E'.F b → b < w'.heap.size) ∧
      R2 w' E' w.heap.size fresh (bk2 g r) v ∧ Objs w' E' w.heap.size (New w (Foot E ins)) (bkH g outs) ∧ ∀ n, n ∈ ids ins → n ∈ ids (bkH g outs) → E'.hd (.s n) = E.hd (.s n) := by
    classical
    rintro v w' ⟨E', k1, k2, k3, k4, k5, k6⟩
    let E1 : Env := ⟨E'.F, fun i => match i with | .s m => (if h : ∃ m', m' ∈ ids outs ∧ g m' = m then E'.hd (.s (Classical.choose h)) else E'.hd (.s m)) | .x m => E'.hd (.x m)⟩
    have hd : ∀ n, n ∈ ids outs → E1.hd (.s (g n)) = E'.hd (.s n) := by
      intro n hn
      have hex : ∃ m', m' ∈ ids outs ∧ g m' = g n := ⟨n, hn, rfl⟩
      show (if h : ∃ m', m' ∈ ids outs ∧ g m' = g n then E'.hd (.s (Classical.choose h)) else E'.hd (.s (g n))) = _
      rw [dif_pos hex]
      have := Classical.choose_spec hex
      rw [hinj _ _ this.1 hn this.2]
    have hat : ∀ n o, look (bkH g outs) n = some o → ∃ m o', look outs m = some o' ∧ g m = n ∧ o = bkO g o' ∧ m ∈ ids outs := by
      intro n o h
      obtain ⟨m, o', q1, q2, q3, q4⟩ := look_bkH h
      exact ⟨m, o', q4 (nodup_iff hn), q2, q3, q1⟩
    refine ⟨E1, k1, k2, k3, R2.ren (E := E') (E1 := E1) rfl hd hin k4, ⟨fun n o h => ?_, fun n n' o o' b h h' hl hl' hb hb' => ?_, fun n o b h hl hb => ?_⟩, fun n hni hno => ?_⟩
    · obtain ⟨m, o', q1, rfl, rfl, q4⟩ := hat n o h
      obtain ⟨r1, r2⟩ := k5.ok m o' q1
      exact ObjOK.back (E' := E') (E1 := E1) (fun b hb => hb) (Nat.le_refl _) hd q4 r2 (outsOK_iff ho q1) r1
    · obtain ⟨m, p, q1, rfl, rfl, q4⟩ := hat n o h
      obtain ⟨m', p', s1, rfl, rfl, s4⟩ := hat n' o' h'
      rw [hd m q4] at hb
      rw [hd m' s4] at hb'
      rw [k5.apart m m' p p' b q1 s1 ((bkO_live g p).1 hl) ((bkO_live g p').1 hl') hb hb']
    · obtain ⟨m, p, q1, rfl, rfl, q4⟩ := hat n o h
      rw [hd m q4] at hb
      exact k5.out m p b q1 ((bkO_live g p).1 hl) hb
    · rw [ids_bkH] at hno
      obtain ⟨m, hm, rfl⟩ := List.mem_map.1 hno
      rw [hd m hm]
      have hsame := hI _ hni
      have hgo : isOld (g m) = true := by
        unfold isSame at hsame
        split at hsame
        · cases hsame
        · exact hsame
      have hmo : isOld m = true := by
        cases hmo : isOld m with
        | true => rfl
        | false => rw [smallB_iff hs hm hmo] at hgo; cases hgo
      have hgm := hg m hmo
      rw [hgm] at hni ⊢
      exact k6 m hni hm
  rcases h w E vs hF hsz hv hIn with ⟨h1, h2⟩ | ⟨v, w', h1, h2⟩
  · exact .inl ⟨h1, h2.mono fun e w' ⟨v, he, hh⟩ => ⟨v, he, key hh⟩⟩
  · exact .inr ⟨v, w', h1, key h2⟩
theorem insOK_nil : InsOK [] := fun n h => by cases h
theorem shift_old (d : Nat) : ∀ n, isOld n = true → shift d n = n := fun n h => by unfold shift; rw [h]
theorem Pure.at {P : Program} {f : FuncId} {args : List PV} {fresh : Bool} {r : PV} {outs : List (Nat × Obj)} (d : Nat)
    (hin : in2 (ids outs) r = true) (ho : outsOK (ids outs) false outs = true) (hn : nodup (ids outs) = true) (hn' : nodup (ids (bkH (shift d) outs)) = true) (hs : smallB (shift d) (ids outs) = true) (h : Pure P f args fresh r outs) :
    Pure P f args fresh (bk2 (shift d) r) (bkH (shift d) outs) := PureIO.ren (shift d) (shift_old d) insOK_nil hin ho hn hn' hs h
/-- one new row -/
theorem Pure.at1 {P : Program} {f : FuncId} {args : List PV} {fresh : Bool} {r : PV} {o : Obj} (d : Nat) (hin : in2 [0] r = true) (ho : comes [0] o) (hd : d < 100000) (h : Pure P f args fresh r [(0, o)]) :
    Pure P f args fresh (bk2 (shift d) r) [(d, bkO (shift d) o)] := by
  have h0 : shift d 0 = d := by unfold shift; rfl
  have := PureIO.ren (outs := [(0, o)]) (g := shift d) (shift_old d) insOK_nil hin (by
    show (match (match o with
      | .str cs => match allB (in0 [0]) cs with | true => true | false => false
      | .row _ _ _ _ _ _ => true
      | .deep _ _ _ _ _ => true
      | .map _ _ _ => true
      | _ => false) with | true => true | false => false) = true
    cases o <;> first | rfl | (exact ho.elim) | skip
    rename_i cs
    have ho : allB (in0 [0]) cs = true := ho
    simp only [ho]) rfl rfl (by
    show (match isOld 0, isOld (shift d 0) with | false, true => false | _, _ => true) = true
    rw [h0]
    have : isOld d = false := isOld_not.2 hd
    rw [this]; rfl) h
  have e : bkH (shift d) [(0, o)] = [(d, bkO (shift d) o)] := by simp only [bkH, h0]
  rw [e] at this
  exact this
end Pv

/- The functions of this seat by name: numbers, bodies, types (printed by hdr.py). -/
namespace Go.Proofs.Ytbiojnaemniljaa
open Go
noncomputable abbrev prog : Program := Try.prog
abbrev n_body_Many : Nat := 80
noncomputable abbrev b_body_Many : Func := Try.f80
abbrev n_law0_Numbers : Nat := 78
noncomputable abbrev b_law0_Numbers : Func := Try.f78
abbrev n_law0_Vol : Nat := 72
noncomputable abbrev b_law0_Vol : Func := Try.f72
abbrev n_law0_VolWeight : Nat := 22
noncomputable abbrev b_law0_VolWeight : Func := Try.f22
abbrev n_law0_Vols : Nat := 67
noncomputable abbrev b_law0_Vols : Func := Try.f67
abbrev n_law0_VolsWeight : Nat := 21
noncomputable abbrev b_law0_VolsWeight : Func := Try.f21
abbrev n_law0_Within : Nat := 60
noncomputable abbrev b_law0_Within : Func := Try.f60
abbrev n_law5_Heavy : Nat := 8
noncomputable abbrev b_law5_Heavy : Func := Try.f8
abbrev n_law5_VolBack : Nat := 3
noncomputable abbrev b_law5_VolBack : Func := Try.f3
abbrev n_law5_VolBacks : Nat := 7
noncomputable abbrev b_law5_VolBacks : Func := Try.f7
abbrev n_law5_VolClones : Nat := 5
noncomputable abbrev b_law5_VolClones : Func := Try.f5
abbrev n_law5_VolDrops : Nat := 6
noncomputable abbrev b_law5_VolDrops : Func := Try.f6
abbrev n_law5_VolExact : Nat := 37
noncomputable abbrev b_law5_VolExact : Func := Try.f37
abbrev n_law5_VolSnaps : Nat := 4
noncomputable abbrev b_law5_VolSnaps : Func := Try.f4
abbrev n_law5_num : Nat := 11
noncomputable abbrev b_law5_num : Func := Try.f11
abbrev n_law5_only : Nat := 20
noncomputable abbrev b_law5_only : Func := Try.f20
abbrev n_law5_step : Nat := 54
noncomputable abbrev b_law5_step : Func := Try.f54
abbrev n_law5_wakes : Nat := 19
noncomputable abbrev b_law5_wakes : Func := Try.f19
abbrev n_name_Is : Nat := 83
noncomputable abbrev b_name_Is : Func := Try.f83
abbrev n_name_letter : Nat := 89
noncomputable abbrev b_name_letter : Func := Try.f89
abbrev n_ref0_Between : Nat := 23
noncomputable abbrev b_ref0_Between : Func := Try.f23
abbrev n_ref0_CopyFile : Nat := 77
noncomputable abbrev b_ref0_CopyFile : Func := Try.f77
abbrev n_ref0_CopyFiles : Nat := 71
noncomputable abbrev b_ref0_CopyFiles : Func := Try.f71
abbrev n_ref0_CopyLinks : Nat := 85
noncomputable abbrev b_ref0_CopyLinks : Func := Try.f85
abbrev n_ref0_CopyNumbers : Nat := 84
noncomputable abbrev b_ref0_CopyNumbers : Func := Try.f84
abbrev n_ref0_CopyVol : Nat := 59
noncomputable abbrev b_ref0_CopyVol : Func := Try.f59
abbrev n_ref0_CopyVols : Nat := 53
noncomputable abbrev b_ref0_CopyVols : Func := Try.f53
abbrev n_ref0_EqFile : Nat := 32
noncomputable abbrev b_ref0_EqFile : Func := Try.f32
abbrev n_ref0_EqFiles : Nat := 14
noncomputable abbrev b_ref0_EqFiles : Func := Try.f14
abbrev n_ref0_EqLinks : Nat := 52
noncomputable abbrev b_ref0_EqLinks : Func := Try.f52
abbrev n_ref0_EqNumbers : Nat := 51
noncomputable abbrev b_ref0_EqNumbers : Func := Try.f51
abbrev n_ref0_EqVol : Nat := 15
noncomputable abbrev b_ref0_EqVol : Func := Try.f15
abbrev n_ref0_EqVols : Nat := 16
noncomputable abbrev b_ref0_EqVols : Func := Try.f16
abbrev n_ref0_Num : Nat := 38
noncomputable abbrev b_ref0_Num : Func := Try.f38
abbrev n_ref2_At : Nat := 56
noncomputable abbrev b_ref2_At : Func := Try.f56
abbrev n_ref2_Deep : Nat := 42
noncomputable abbrev b_ref2_Deep : Func := Try.f42
abbrev n_ref2_Links : Nat := 40
noncomputable abbrev b_ref2_Links : Func := Try.f40
abbrev n_ref2_Name : Nat := 55
noncomputable abbrev b_ref2_Name : Func := Try.f55
abbrev n_ref2_New : Nat := 36
noncomputable abbrev b_ref2_New : Func := Try.f36
abbrev n_ref2_Vol : Nat := 24
noncomputable abbrev b_ref2_Vol : Func := Try.f24
abbrev n_ref2_file : Nat := 39
noncomputable abbrev b_ref2_file : Func := Try.f39
abbrev n_ref2_marks : Nat := 41
noncomputable abbrev b_ref2_marks : Func := Try.f41
abbrev n_ref4_Many : Nat := 57
noncomputable abbrev b_ref4_Many : Func := Try.f57
abbrev n_ref5_At : Nat := 25
noncomputable abbrev b_ref5_At : Func := Try.f25
abbrev n_ref5_Back : Nat := 63
noncomputable abbrev b_ref5_Back : Func := Try.f63
abbrev n_ref5_Drop : Nat := 62
noncomputable abbrev b_ref5_Drop : Func := Try.f62
abbrev n_ref5_Put : Nat := 65
noncomputable abbrev b_ref5_Put : Func := Try.f65
abbrev n_ref5_Snap : Nat := 61
noncomputable abbrev b_ref5_Snap : Func := Try.f61
abbrev n_ref5_Vols : Nat := 9
noncomputable abbrev b_ref5_Vols : Func := Try.f9
abbrev n_slices_BinarySearchFunc_File_int : Nat := 87
noncomputable abbrev b_slices_BinarySearchFunc_File_int : Func := Try.f87
abbrev n_slices_BinarySearchFunc_Vol_int : Nat := 45
noncomputable abbrev b_slices_BinarySearchFunc_Vol_int : Func := Try.f45
abbrev n_slices_Clone_File : Nat := 47
noncomputable abbrev b_slices_Clone_File : Func := Try.f47
abbrev n_slices_Clone_Link : Nat := 49
noncomputable abbrev b_slices_Clone_Link : Func := Try.f49
abbrev n_slices_Clone_int : Nat := 48
noncomputable abbrev b_slices_Clone_int : Func := Try.f48
abbrev n_slices_ContainsFunc_Vol : Nat := 33
noncomputable abbrev b_slices_ContainsFunc_Vol : Func := Try.f33
abbrev n_slices_ContainsFunc_int : Nat := 81
noncomputable abbrev b_slices_ContainsFunc_int : Func := Try.f81
abbrev n_slices_DeleteFunc_Vol : Nat := 30
noncomputable abbrev b_slices_DeleteFunc_Vol : Func := Try.f30
abbrev n_slices_Delete_Vol : Nat := 35
noncomputable abbrev b_slices_Delete_Vol : Func := Try.f35
abbrev n_slices_IndexFunc_Vol : Nat := 50
noncomputable abbrev b_slices_IndexFunc_Vol : Func := Try.f50
abbrev n_slices_IndexFunc_int : Nat := 86
noncomputable abbrev b_slices_IndexFunc_int : Func := Try.f86
abbrev n_tree_May : Nat := 58
noncomputable abbrev b_tree_May : Func := Try.f58
abbrev n_tree_Own : Nat := 29
noncomputable abbrev b_tree_Own : Func := Try.f29
abbrev n_tree_at : Nat := 82
noncomputable abbrev b_tree_at : Func := Try.f82
abbrev n_tree_at_1 : Nat := 88
noncomputable abbrev b_tree_at_1 : Func := Try.f88
abbrev n_tree_blocks : Nat := 73
noncomputable abbrev b_tree_blocks : Func := Try.f73
abbrev n_tree_blocks_1 : Nat := 79
noncomputable abbrev b_tree_blocks_1 : Func := Try.f79
abbrev n_tree_count : Nat := 75
noncomputable abbrev b_tree_count : Func := Try.f75
abbrev n_tree_deep : Nat := 76
noncomputable abbrev b_tree_deep : Func := Try.f76
abbrev n_tree_files : Nat := 69
noncomputable abbrev b_tree_files : Func := Try.f69
abbrev n_tree_links : Nat := 74
noncomputable abbrev b_tree_links : Func := Try.f74
abbrev n_tree_named : Nat := 70
noncomputable abbrev b_tree_named : Func := Try.f70
abbrev n_tree_number : Nat := 68
noncomputable abbrev b_tree_number : Func := Try.f68
abbrev n_vol_At : Nat := 28
noncomputable abbrev b_vol_At : Func := Try.f28
abbrev n_vol_At_1 : Nat := 46
noncomputable abbrev b_vol_At_1 : Func := Try.f46
abbrev n_vol_Back : Nat := 13
noncomputable abbrev b_vol_Back : Func := Try.f13
abbrev n_vol_Back_1 : Nat := 31
noncomputable abbrev b_vol_Back_1 : Func := Try.f31
abbrev n_vol_Check : Nat := 66
noncomputable abbrev b_vol_Check : Func := Try.f66
abbrev n_vol_Clone : Nat := 17
noncomputable abbrev b_vol_Clone : Func := Try.f17
abbrev n_vol_Drop : Nat := 18
noncomputable abbrev b_vol_Drop : Func := Try.f18
abbrev n_vol_Drop_1 : Nat := 34
noncomputable abbrev b_vol_Drop_1 : Func := Try.f34
abbrev n_vol_Get : Nat := 12
noncomputable abbrev b_vol_Get : Func := Try.f12
abbrev n_vol_May : Nat := 43
noncomputable abbrev b_vol_May : Func := Try.f43
abbrev n_vol_Own : Nat := 44
noncomputable abbrev b_vol_Own : Func := Try.f44
abbrev n_vol_Put : Nat := 64
noncomputable abbrev b_vol_Put : Func := Try.f64
abbrev n_vol_Snap : Nat := 10
noncomputable abbrev b_vol_Snap : Func := Try.f10
abbrev n_vol_copied : Nat := 26
noncomputable abbrev b_vol_copied : Func := Try.f26
abbrev n_vol_found : Nat := 27
noncomputable abbrev b_vol_found : Func := Try.f27
abbrev t_0_p_runtime_PanicNilError : Nat := 109
abbrev t_abi_BoundsErrorCode : Nat := 6
abbrev t_abi_Kind : Nat := 115
abbrev t_abi_NameOff : Nat := 118
abbrev t_abi_TFlag : Nat := 114
abbrev t_abi_Type : Nat := 121
abbrev t_abi_TypeOff : Nat := 119
abbrev t_api_Errno : Nat := 28
abbrev t_api_File : Nat := 60
abbrev t_api_Link : Nat := 65
abbrev t_api_Vol : Nat := 33
abbrev t_bool : Nat := 4
abbrev t_hermitagelaw5_Act : Nat := 47
abbrev t_hermitagelaw5_Script : Nat := 25
abbrev t_int : Nat := 3
abbrev t_int32 : Nat := 21
abbrev t_int64 : Nat := 2
abbrev t_map_int_bool : Nat := 96
abbrev t_maps_unhashableTypeError : Nat := 19
abbrev t_p_abi_Type : Nat := 17
abbrev t_p_runtime_PanicNilError : Nat := 16
abbrev t_p_runtime_TypeAssertionError : Nat := 15
abbrev t_p_uint8 : Nat := 117
abbrev t_runtime_PanicNilError : Nat := 111
abbrev t_runtime_TypeAssertionError : Nat := 108
abbrev t_runtime_boundsError : Nat := 8
abbrev t_runtime_errorAddressString : Nat := 14
abbrev t_runtime_errorString : Nat := 10
abbrev t_runtime_plainError : Nat := 11
abbrev t_s_api_File : Nat := 31
abbrev t_s_api_Link : Nat := 58
abbrev t_s_api_Vol : Nat := 22
abbrev t_s_bool : Nat := 69
abbrev t_s_hermitagelaw5_Act : Nat := 23
abbrev t_s_int : Nat := 57
abbrev t_string : Nat := 9
abbrev t_uint : Nat := 84
abbrev t_uint32 : Nat := 113
abbrev t_uint8 : Nat := 5
abbrev t_uintptr : Nat := 12
abbrev t_unsafe_Pointer : Nat := 122
end Go.Proofs.Ytbiojnaemniljaa

/- The volumes' types, and how they lie in memory. -/
namespace Go.Proofs.Ytbiojnaemniljaa
open Go Pv
structure Link where
  Name : Str
  ID : Int
structure File where
  ID : Int
  Dir : Bool
  Size : Int
  Blocks : List Int
  List : List Link
instance : Inhabited Link := ⟨⟨[], 0⟩⟩
instance : Inhabited File := ⟨⟨0, false, 0, [], []⟩⟩
structure Vol where
  ID : Int
  From : Int
  Snap : Bool
  Files : List File
  Next : Int
instance : Inhabited Vol := ⟨⟨0, 0, false, [], 0⟩⟩
structure VAct where
  Do : Int
  ID : Int
  V : Vol
instance : Inhabited VAct := ⟨⟨0, 0, default⟩⟩
structure Script where
  L : List Vol
  Next : Int
  A : List VAct
def eI (x : Int) : List PV := [.i .i64 x]
def eLink (l : Link) : List PV := [.s l.Name, .i .i64 l.ID]
def eFile (f : File) : List PV := [.i .i64 f.ID, .b f.Dir, .i .i64 f.Size, .fl false 1 Int eI 0 f.Blocks, .fl false 2 Link eLink default f.List]
def eVol (v : Vol) : List PV := [.i .i64 v.ID, .i .i64 v.From, .b v.Snap, .fl false 5 File eFile default v.Files, .i .i64 v.Next]
def eAct (a : VAct) : List PV := [.i .i64 a.Do, .i .i64 a.ID, .i .i64 a.V.ID, .i .i64 a.V.From, .b a.V.Snap, .fl false 5 File eFile default a.V.Files, .i .i64 a.V.Next]
def eScript (s : Script) : List PV := [.fl false 5 Vol eVol default s.L, .i .i64 s.Next, .fl false 7 VAct eAct default s.A]
/-- a number that an int holds -/
def I64 (n : Int) : Prop := -9223372036854775808 ≤ n ∧ n ≤ 9223372036854775807
def Link.Ok (l : Link) : Prop := l.Name.length ≤ 140737488351232 ∧ I64 l.ID
def File.Ok (f : File) : Prop := I64 f.ID ∧ I64 f.Size ∧ (∀ n, n ∈ f.Blocks → I64 n) ∧ f.Blocks.length * 8 ≤ 140737488351232 ∧ (∀ l, l ∈ f.List → l.Ok) ∧ f.List.length * 24 ≤ 140737488351232
def Vol.Ok (v : Vol) : Prop := I64 v.ID ∧ I64 v.From ∧ I64 v.Next ∧ (∀ f, f ∈ v.Files → f.Ok) ∧ v.Files.length * 72 ≤ 140737488351232
def VAct.Ok (a : VAct) : Prop := I64 a.Do ∧ I64 a.ID ∧ a.V.Ok
def Script.Ok (s : Script) : Prop := (∀ v, v ∈ s.L → v.Ok) ∧ s.L.length * 56 ≤ 140737488351232 ∧ I64 s.Next ∧ (∀ a, a ∈ s.A → a.Ok) ∧ s.A.length * 72 ≤ 140737488351232
theorem I64_of {n : Int} (h : (Lit.int .i64 n).wf = true) : I64 n := by
  simp [Lit.wf, IntKind.min, IntKind.max, IntKind.signed, IntKind.bits] at h
  unfold I64; omega
end Go.Proofs.Ytbiojnaemniljaa

/- What the functions' conditions name: callees, loops, kinds of rows. -/
namespace Go.Proofs.Ytbiojnaemniljaa
open Go Pv
/-! ### kinds of contracts -/
noncomputable def kB : CallK := { ρ := Bool, emb := fun _ b => .b b, objs := none, fresh := true }
noncomputable def kI : CallK := { ρ := Int, emb := fun _ b => .i .i64 b, objs := none, fresh := true }
noncomputable def kIB : CallK := { ρ := Int × Bool, emb := fun _ b => .tup [.i .i64 b.1, .b b.2], objs := none, fresh := true }
noncomputable def kInts : CallK := { ρ := List Int, emb := fun _ b => .fl false 1 Int eI 0 b, objs := none, fresh := false }
noncomputable def kLinks : CallK := { ρ := List Link, emb := fun _ b => .fl false 2 Link eLink default b, objs := none, fresh := false }
/-- a volume, of memory that may be old -/
noncomputable def kVol : CallK := { ρ := Vol, emb := fun _ b => .agg (eVol b), objs := none, fresh := false }
/-- a new volume, as the page makes it: a literal row of one literal file -/
def pNew (i : Int) : PV := .agg [.i .i64 i, .i .i64 0, .ff, .fll false 5 [[.i .i64 1, .tt, .i .i64 0, .nil, .nil]], .i .i64 2]
noncomputable def kNew : CallK := { ρ := Int, emb := fun _ i => pNew i, objs := none, fresh := false }
noncomputable def kVolI : CallK := { ρ := Vol × Int, emb := fun _ b => .tup [.agg (eVol b.1), .i .i64 b.2], objs := none, fresh := false }
noncomputable def kVolsI : CallK := { ρ := List Vol × Int, emb := fun _ b => .tup [.fl false 5 Vol eVol default b.1, .i .i64 b.2], objs := none, fresh := false }
noncomputable def kVolsII : CallK := { ρ := List Vol × Int × Int, emb := fun _ b => .tup [.fl false 5 Vol eVol default b.1, .i .i64 b.2.1, .i .i64 b.2.2], objs := none, fresh := false }
/-- rows that are the caller's -/
noncomputable def kFilesO : CallK := { ρ := List File, emb := fun d _ => .sl (.s d), objs := some fun d b => [(d, .row false 5 File eFile default b)], fresh := false }
noncomputable def kVolsO : CallK := { ρ := List Vol, emb := fun d _ => .sl (.s d), objs := some fun d b => [(d, .row false 5 Vol eVol default b)], fresh := false }
noncomputable def kFound : CallK := { ρ := List Vol × Int × Int, emb := fun d b => .tup [.sl (.s d), .i .i64 b.2.1, .i .i64 b.2.2], objs := some fun d b => [(d, .row false 5 Vol eVol default b.1)], fresh := false }
/-- rows that are handed over, and come back with another head -/
noncomputable def kVolsH (m : List Bool) : CallK := { ρ := List Vol, emb := fun _ _ => .sl (.s 200000), objs := some fun _ b => [(200000, .row false 5 Vol eVol default b)], fresh := false, hand := m }
def eBool (x : Bool) : PV := .b x
def eBools (x : Bool) : List PV := [.b x]
noncomputable def kSeen : CallK := { ρ := Bool × List (Int × Bool), emb := fun _ b => .b b.1, objs := some fun _ b => [(100000, .map Bool eBool b.2)], fresh := true, hand := [false, false, false, true] }
noncomputable def kMarks : CallK := { ρ := List Bool, emb := fun _ _ => .tup [], objs := some fun _ b => [(100000, .row false 1 Bool eBools false b)], fresh := true, hand := [false, false, true] }
noncomputable def callL : List (Nat × CallK) := [
  (n_ref0_EqNumbers, kB), (n_ref0_EqLinks, kB), (n_ref0_EqFile, kB), (n_ref0_EqFiles, kB), (n_ref0_EqVol, kB), (n_ref0_EqVols, kB), (n_ref0_Between, kB), (n_ref0_Num, kB),
  (n_ref5_At, kI), (n_ref2_At, kI), (n_ref4_Many, kI), (n_law5_num, kI), (n_ref2_Name, kB), (n_law0_VolWeight, kI), (n_law0_VolsWeight, kI), (n_law5_Heavy, kB), (n_law5_wakes, kB),
  (n_ref2_Links, kI), (n_ref2_file, kB), (n_ref2_Deep, kI), (n_ref2_marks, kMarks), (n_ref2_Vol, kB), (n_ref5_Vols, kB), (n_ref2_New, kNew),
  (n_tree_number, kB), (n_tree_blocks, kB), (n_tree_blocks_1, kB), (n_body_Many, kI), (n_slices_ContainsFunc_int, kB), (n_slices_IndexFunc_int, kI), (n_tree_at, kIB), (n_tree_at_1, kI), (n_slices_BinarySearchFunc_File_int, kIB),
  (n_name_Is, kB), (n_name_letter, kB), (n_tree_links, kB), (n_tree_files, kB), (n_tree_count, kI), (n_tree_deep, kSeen), (n_tree_named, kB), (n_tree_May, kB),
  (n_slices_Clone_int, kInts), (n_slices_Clone_Link, kLinks), (n_slices_Clone_File, kFilesO), (n_tree_Own, kVol),
  (n_vol_At, kIB), (n_vol_At_1, kI), (n_slices_BinarySearchFunc_Vol_int, kIB), (n_vol_May, kB), (n_vol_Own, kVolsO), (n_vol_found, kFound), (n_vol_Get, kVolI), (n_vol_copied, kVolsII), (n_vol_Snap, kVolsII), (n_vol_Clone, kVolsII), (n_vol_Drop, kVolsI), (n_vol_Back, kVolsI),
  (n_slices_IndexFunc_Vol, kI), (n_slices_ContainsFunc_Vol, kB), (n_vol_Drop_1, kB), (n_vol_Back_1, kB), (n_slices_Delete_Vol, kVolsH [true, false, false]), (n_slices_DeleteFunc_Vol, kVolsH [true, true])]
def lookK : List (Nat × CallK) → Nat → Option CallK
  | [], _ => none
  | (k, c) :: l, n => match Nat.beq k n with | true => some c | false => lookK l n
/-! ### loops -/
/-- a loop that carries one number; two -/
noncomputable def lc (s : Nat) : LoopK := { ι := Int, rs := fun i => [(s, .i .i64 i)], hs := fun _ => [], hid := [], rid := [] }
noncomputable def lc2 (s t : Nat) : LoopK := { ι := Int × Int, rs := fun i => [(s, .i .i64 i.1), (t, .i .i64 i.2)], hs := fun _ => [], hid := [], rid := [] }
/-- a loop that carries a number, and a row that is written in place; a row that grows -/
noncomputable def lFiles (s n : Nat) : LoopK := { ι := Int × List File, rs := fun i => [(s, .i .i64 i.1)], hs := fun i => [(n, .row false 5 File eFile default i.2)], hid := [n], rid := [] }
noncomputable def lVols (t s : Nat) : LoopK := { ι := Int × List Vol, rs := fun i => [(t, .sl (.s t)), (s, .i .i64 i.1)], hs := fun i => [(t, .row false 5 Vol eVol default i.2)], hid := [t], rid := [t] }
/-- two numbers, and a row that is written in place -/
noncomputable def lVols2 (s t n : Nat) : LoopK := { ι := Int × Int × List Vol, rs := fun i => [(s, .i .i64 i.1), (t, .i .i64 i.2.1)], hs := fun i => [(n, .row false 5 Vol eVol default i.2.2)], hid := [n], rid := [] }
noncomputable def lSeen (s n : Nat) : LoopK := { ι := Int × List (Int × Bool), rs := fun i => [(s, .i .i64 i.1)], hs := fun i => [(n, .map Bool eBool i.2)], hid := [n], rid := [] }
noncomputable def lMarks (s n : Nat) : LoopK := { ι := Int × List Bool, rs := fun i => [(s, .i .i64 i.1)], hs := fun i => [(n, .row false 1 Bool eBools false i.2)], hid := [n], rid := [] }
abbrev Loops := List (Nat × LoopK)
def lookL : Loops → Nat → Option LoopK
  | [], _ => none
  | (k, c) :: l, n => match Nat.beq k n with | true => some c | false => lookL l n
abbrev Kinds := List (Nat × Kd)
def lookR : Kinds → Nat → Option Kd
  | [], _ => none
  | (k, c) :: l, n => match Nat.beq k n with | true => some c | false => lookR l n
def kdI : Kd := ⟨1, Int, eI, 0⟩
def kdBool : Kd := ⟨1, Bool, eBools, false⟩
def kdLink : Kd := ⟨2, Link, eLink, default⟩
def kdFile : Kd := ⟨5, File, eFile, default⟩
def kdVol : Kd := ⟨5, Vol, eVol, default⟩
abbrev PureT := FuncId → List PV → Bool → PV → List (Nat × Pv.Obj) → Prop
abbrev IoT := FuncId → List PV → List (Nat × Pv.Obj) → Bool → PV → List (Nat × Pv.Obj) → Prop
noncomputable def cx (l : Loops) (k : Kinds) (pure : PureT) (io : IoT) : Cx :=
  { P := prog, A := { call := lookK callL, row := lookR k, ext := fun _ => false, loop := lookL l }, pure := pure, io := io }
theorem lc_ok (s : Nat) : LoopOK (lc s) := fun _ _ => ⟨fun _ _ _ _ _ _ h => (by cases h), fun _ _ _ _ _ h => (by cases h)⟩
theorem lc2_ok (s t : Nat) : LoopOK (lc2 s t) := fun _ _ => ⟨fun _ _ _ _ _ _ h => (by cases h), fun _ _ _ _ _ h => (by cases h)⟩
end Go.Proofs.Ytbiojnaemniljaa

/- Contracts of conditions; arithmetic; loops over lists. -/
namespace Go.Proofs.Ytbiojnaemniljaa
open Go Pv
theorem lookL_ok {l : Loops} (h : ∀ p, p ∈ l → LoopOK p.2) : ∀ r L, lookL l r = some L → LoopOK L := by
  induction l with
  | nil => intro r L hh; cases hh
  | cons a l ih =>
    intro r L hh
    obtain ⟨k, c⟩ := a
    simp only [lookL] at hh
    split at hh
    · cases hh; exact h _ (List.mem_cons_self ..)
    · exact ih (fun p hp => h p (List.mem_cons_of_mem _ hp)) r L hh
theorem lookR_ok {l : Kinds} (h : ∀ p, p ∈ l → KdOK p.2) : ∀ r L, lookR l r = some L → KdOK L := by
  induction l with
  | nil => intro r L hh; cases hh
  | cons a l ih =>
    intro r L hh
    obtain ⟨k, c⟩ := a
    simp only [lookR] at hh
    split at hh
    · cases hh; exact h _ (List.mem_cons_self ..)
    · exact ih (fun p hp => h p (List.mem_cons_of_mem _ hp)) r L hh
def LoopsOK : Loops → Prop
  | [] => True
  | p :: l => LoopOK p.2 ∧ LoopsOK l
theorem LoopsOK.mem : ∀ {l : Loops}, LoopsOK l → ∀ p, p ∈ l → LoopOK p.2
  | _ :: _, h, p, hp => by
    rcases List.mem_cons.1 hp with rfl | hp
    · exact h.1
    · exact LoopsOK.mem h.2 p hp
def KindsOK : Kinds → Prop
  | [] => True
  | p :: l => KdOK p.2 ∧ KindsOK l
theorem KindsOK.mem : ∀ {l : Kinds}, KindsOK l → ∀ p, p ∈ l → KdOK p.2
  | _ :: _, h, p, hp => by
    rcases List.mem_cons.1 hp with rfl | hp
    · exact h.1
    · exact KindsOK.mem h.2 p hp
theorem hC {l : Loops} {k : Kinds} (hl : LoopsOK l) (hk : KindsOK k) : CxOK' (cx l k (Pure prog) (PureIO prog)) where
  pure := fun _ _ _ _ _ h => h
  io := fun _ _ _ _ _ _ h => h
  row := lookR_ok hk.mem
  loop := lookL_ok hl.mem
  mixed := by kernel_rfl
/-- kinds of rows that may be -/
def cellB (p : PV) : Bool := match isFz p, pfl p with | true, false => true | _, _ => false
theorem cellB_ok {p : PV} (h : cellB p = true) : CellOK p := by
  unfold cellB at h
  split at h
  · rename_i h1 h2
    refine ⟨fun n => ?_, h2, ?_, h1⟩
    · cases p <;> first | rfl | (cases h1; done)
    · intro e; subst e; cases h1
  · cases h
theorem kdOK_of {k : Kd} (h : ∀ x, llen (k.e x) = k.sz ∧ allB cellB (k.e x) = true) : KdOK k := fun x => ⟨(h x).1, fun i hi => cellB_ok (allB_iff (h x).2 i (by rw [(h x).1]; exact hi))⟩
theorem kdI_ok : KdOK kdI := kdOK_of fun _ => ⟨rfl, rfl⟩
theorem kdBool_ok : KdOK kdBool := kdOK_of fun _ => ⟨rfl, rfl⟩
theorem kdLink_ok : KdOK kdLink := kdOK_of fun _ => ⟨rfl, rfl⟩
theorem kdFile_ok : KdOK kdFile := kdOK_of fun _ => ⟨rfl, rfl⟩
theorem kdVol_ok : KdOK kdVol := kdOK_of fun _ => ⟨rfl, rfl⟩
/-- objects of one kind of rows -/
theorem outs_row {f : Bool} {n : Nat} {k : Kd} {xs : List k.α} (hk : KdOK k) : OutsOK [(n, .row f k.sz k.α k.e k.d xs)] := by
  refine fun d => ⟨fun f' z α e δ ys h => ?_, fun z α e δ ys h => ?_⟩
  · rcases List.mem_cons.1 h with h | h
    · cases h; exact hk
    · cases h
  · rcases List.mem_cons.1 h with h | h <;> cases h
theorem outs_map {n : Nat} {α : Type} {e : α → PV} {m : List (Int × α)} : OutsOK [(n, .map α e m)] := by
  refine fun d => ⟨fun f' z α e δ ys h => ?_, fun z α e δ ys h => ?_⟩ <;> rcases List.mem_cons.1 h with h | h <;> cases h
theorem mk {l : Loops} {k : Kinds} (hl : LoopsOK l) (hk : KindsOK k) {f : FuncId} {fn : Func} (hf : prog.funcs[f]? = some fn) (hname : (fn.name == "runtime.NumGoroutine") = false) (hb : fn.body.isSome = true) {args : List PV} {fresh : Bool} {r : PV} {objs : List (Nat × Pv.Obj)}
    (hr : okR r = true) (hO : OutsOK objs) (h : vcP (cx l k (Pure prog) (PureIO prog)) fn args fresh r objs) : Pure prog f args fresh r objs :=
  pure_sound (hC hl hk) hf hname hb hr hO h
theorem mkIO {l : Loops} {k : Kinds} (hl : LoopsOK l) (hk : KindsOK k) {f : FuncId} {fn : Func} (hf : prog.funcs[f]? = some fn) (hname : (fn.name == "runtime.NumGoroutine") = false) (hb : fn.body.isSome = true) {args : List PV} {ins : List (Nat × Pv.Obj)} {fresh : Bool} {r : PV} {outs : List (Nat × Pv.Obj)}
    (hr : okR r = true) (hO : OutsOK outs) (hI : InsOK ins) (h : vcIO (cx l k (Pure prog) (PureIO prog)) fn args ins fresh r outs) : PureIO prog f args ins fresh r outs :=
  io_sound (hC hl hk) hf hname hb hr hO hI h
theorem lSeen_ok (s n : Nat) : LoopOK (lSeen s n) := fun x d => ⟨fun f z α e δ xs h => (by rcases List.mem_cons.1 h with h | h <;> cases h), fun z α e δ xs h => (by rcases List.mem_cons.1 h with h | h <;> cases h)⟩
theorem row_loop {L : LoopK} {f : Bool} {n : Nat} {k : Kd} {g : L.ι → List k.α} (hk : KdOK k) (h : L.hs = fun x => [(n, .row f k.sz k.α k.e k.d (g x))]) : LoopOK L := by
  refine fun x d => ⟨fun f z α e δ xs hm => ?_, fun z α e δ xs hm => ?_⟩
  · rw [h] at hm
    rcases List.mem_cons.1 hm with hm | hm
    · cases hm; exact hk
    · cases hm
  · rw [h] at hm
    rcases List.mem_cons.1 hm with hm | hm <;> cases hm
theorem lMarks_ok (s n : Nat) : LoopOK (lMarks s n) := row_loop (k := kdBool) (g := fun x : Int × List Bool => x.2) kdBool_ok rfl
theorem lFiles_ok (s n : Nat) : LoopOK (lFiles s n) := row_loop (k := kdFile) (g := fun x : Int × List File => x.2) kdFile_ok rfl
theorem lVols_ok (s n : Nat) : LoopOK (lVols s n) := row_loop (k := kdVol) (g := fun x : Int × List Vol => x.2) kdVol_ok rfl
theorem lVols2_ok (s t n : Nat) : LoopOK (lVols2 s t n) := row_loop (k := kdVol) (g := fun x : Int × Int × List Vol => x.2.2) kdVol_ok rfl
theorem insOK1 {o : Pv.Obj} : InsOK [(100000, o)] := fun n hn => by
  rcases List.mem_cons.1 hn with rfl | hn
  · rfl
  · cases hn
theorem insOK3 {o p q : Pv.Obj} : InsOK [(100000, o), (100001, p), (100002, q)] := fun n hn => by
  rcases List.mem_cons.1 hn with rfl | hn
  · rfl
  rcases List.mem_cons.1 hn with rfl | hn
  · rfl
  rcases List.mem_cons.1 hn with rfl | hn
  · rfl
  · cases hn
theorem wrap64 {x : Int} (h1 : -9223372036854775808 ≤ x) (h2 : x ≤ 9223372036854775807) : IntKind.i64.wrap x = x := by
  simp [IntKind.wrap, IntKind.signed, IntKind.bits]
  omega
theorem getD_mem {α : Type} {l : List α} {d : α} {j : Nat} (h : j < l.length) : l.getD j d ∈ l := by
  have : l.getD j d = l[j] := by simp [List.getD, h]
  rw [this]; exact List.getElem_mem h
theorem drop_getD {α : Type} {l : List α} {d : α} {j : Nat} (h : j < l.length) : l.drop j = l.getD j d :: l.drop (j + 1) := by
  have : l.getD j d = l[j] := by simp [List.getD, h]
  rw [this]; exact List.drop_eq_getElem_cons h
end Go.Proofs.Ytbiojnaemniljaa

/- Conditions of functions (printed by mkgo.py out of C1.spec.py, checked by the kernel). -/
namespace Go.Proofs.Ytbiojnaemniljaa
open Go Pv
theorem vc_ref0_EqNumbers (pure : PureT) (io : IoT) (a b : List Int) (r : Bool) : (
  ((!decide ((↑a.length : Int) = (↑b.length : Int))) = true → r = false) ∧ ((!decide ((↑a.length : Int) = (↑b.length : Int))) = false → ∃ (Φ : Int → Prop), ∃ (μ : Int → Nat),
  (∃ (x : Int), (((0 : Int) = x ∧ True) ∧ True) ∧ Φ x) ∧ ∀ (x : Int), Φ x → (decide (x < (↑a.length : Int)) = true → inb x a.length ∧ inb x b.length ∧
  ((!decide (a.getD x.toNat (0 : Int) = b.getD x.toNat (0 : Int))) = true → r = false) ∧ ((!decide (a.getD x.toNat (0 : Int) = b.getD x.toNat (0 : Int))) = false →
  ∃ (x' : Int), ((IntKind.i64.wrap (x + (1 : Int)) = x' ∧ True) ∧ True) ∧ Φ x' ∧ μ x' < μ x)) ∧ (decide (x < (↑a.length : Int)) = false → r = true))) =
    vcP (cx [(4, lc 5)] [] pure io) b_ref0_EqNumbers [.fl false 1 Int eI 0 a, .fl false 1 Int eI 0 b] true (.b r) [] := by kernel_rfl

theorem vc_ref0_EqLinks (pure : PureT) (io : IoT) (a b : List Link) (r : Bool) : (
  ((!decide ((↑a.length : Int) = (↑b.length : Int))) = true → r = false) ∧ ((!decide ((↑a.length : Int) = (↑b.length : Int))) = false → ∃ (Φ : Int → Prop), ∃ (μ : Int → Nat),
  (∃ (x : Int), (((0 : Int) = x ∧ True) ∧ True) ∧ Φ x) ∧ ∀ (x : Int), Φ x → (decide (x < (↑a.length : Int)) = true → inb x a.length ∧ inb x b.length ∧
  ((!(decide ((a.getD x.toNat default).Name = (b.getD x.toNat default).Name) && (decide ((a.getD x.toNat default).ID = (b.getD x.toNat default).ID) && true))) = true → r = false) ∧
  ((!(decide ((a.getD x.toNat default).Name = (b.getD x.toNat default).Name) && (decide ((a.getD x.toNat default).ID = (b.getD x.toNat default).ID) && true))) = false →
  ∃ (x' : Int), ((IntKind.i64.wrap (x + (1 : Int)) = x' ∧ True) ∧ True) ∧ Φ x' ∧ μ x' < μ x)) ∧ (decide (x < (↑a.length : Int)) = false → r = true))) =
    vcP (cx [(4, lc 5)] [] pure io) b_ref0_EqLinks [.fl false 2 Link eLink default a, .fl false 2 Link eLink default b] true (.b r) [] := by kernel_rfl

theorem vc_ref0_EqFile (pure : PureT) (io : IoT) (a b : File) (r : Bool) : (
  (decide (a.ID = b.ID) = true → (decide (a.Dir = b.Dir) = true → (decide (a.Size = b.Size) = true → ∃ (r_1 : Bool), pure n_ref0_EqNumbers
  [PV.fl false (1 : Nat) Int eI (0 : Int) a.Blocks, PV.fl false (1 : Nat) Int eI (0 : Int) b.Blocks] true (PV.b r_1) [] ∧ (r_1 = true → ∃ (r_2 : Bool), pure n_ref0_EqLinks
  [PV.fl false (2 : Nat) Link eLink default a.List, PV.fl false (2 : Nat) Link eLink default b.List] true (PV.b r_2) [] ∧ r_2 = r) ∧ (r_1 = false → r = false)) ∧
  (decide (a.Size = b.Size) = false → r = false)) ∧ (decide (a.Dir = b.Dir) = false → r = false)) ∧ (decide (a.ID = b.ID) = false → r = false)) =
    vcP (cx [] [] pure io) b_ref0_EqFile [.agg (eFile a), .agg (eFile b)] true (.b r) [] := by kernel_rfl

theorem vc_ref0_EqFiles (pure : PureT) (io : IoT) (a b : List File) (r : Bool) : (
  ((!decide ((↑a.length : Int) = (↑b.length : Int))) = true → r = false) ∧ ((!decide ((↑a.length : Int) = (↑b.length : Int))) = false → ∃ (Φ : Int → Prop), ∃ (μ : Int → Nat),
  (∃ (x : Int), (((0 : Int) = x ∧ True) ∧ True) ∧ Φ x) ∧ ∀ (x : Int), Φ x → (decide (x < (↑a.length : Int)) = true → inb x a.length ∧ inb x b.length ∧ ∃ (r_1 : Bool), pure n_ref0_EqFile
  [PV.agg [PV.i IntKind.i64 (a.getD x.toNat default).ID, PV.b (a.getD x.toNat default).Dir, PV.i IntKind.i64 (a.getD x.toNat default).Size,
  PV.fl false (1 : Nat) Int eI (0 : Int) (a.getD x.toNat default).Blocks, PV.fl false (2 : Nat) Link eLink default (a.getD x.toNat default).List], PV.agg
  [PV.i IntKind.i64 (b.getD x.toNat default).ID, PV.b (b.getD x.toNat default).Dir, PV.i IntKind.i64 (b.getD x.toNat default).Size,
  PV.fl false (1 : Nat) Int eI (0 : Int) (b.getD x.toNat default).Blocks, PV.fl false (2 : Nat) Link eLink default (b.getD x.toNat default).List]] true (PV.b r_1) [] ∧
  ((!r_1) = true → r = false) ∧ ((!r_1) = false → ∃ (x' : Int), ((IntKind.i64.wrap (x + (1 : Int)) = x' ∧ True) ∧ True) ∧ Φ x' ∧ μ x' < μ x)) ∧
  (decide (x < (↑a.length : Int)) = false → r = true))) =
    vcP (cx [(4, lc 5)] [] pure io) b_ref0_EqFiles [.fl false 5 File eFile default a, .fl false 5 File eFile default b] true (.b r) [] := by kernel_rfl

theorem vc_ref0_EqVol (pure : PureT) (io : IoT) (a b : Vol) (r : Bool) : (
  (decide (a.ID = b.ID) = true → (decide (a.From = b.From) = true → (decide (a.Snap = b.Snap) = true → ∃ (r_1 : Bool), pure n_ref0_EqFiles
  [PV.fl false (5 : Nat) File eFile default a.Files, PV.fl false (5 : Nat) File eFile default b.Files] true (PV.b r_1) [] ∧
  (r_1 = true → decide (a.Next = b.Next) = r) ∧ (r_1 = false → r = false)) ∧ (decide (a.Snap = b.Snap) = false → r = false)) ∧ (decide (a.From = b.From) = false → r = false)) ∧
  (decide (a.ID = b.ID) = false → r = false)) =
    vcP (cx [] [] pure io) b_ref0_EqVol [.agg (eVol a), .agg (eVol b)] true (.b r) [] := by kernel_rfl

theorem vc_ref0_EqVols (pure : PureT) (io : IoT) (a b : List Vol) (r : Bool) : (
  ((!decide ((↑a.length : Int) = (↑b.length : Int))) = true → r = false) ∧ ((!decide ((↑a.length : Int) = (↑b.length : Int))) = false → ∃ (Φ : Int → Prop), ∃ (μ : Int → Nat),
  (∃ (x : Int), (((0 : Int) = x ∧ True) ∧ True) ∧ Φ x) ∧ ∀ (x : Int), Φ x → (decide (x < (↑a.length : Int)) = true → inb x a.length ∧ inb x b.length ∧ ∃ (r_1 : Bool), pure n_ref0_EqVol
  [PV.agg [PV.i IntKind.i64 (a.getD x.toNat default).ID, PV.i IntKind.i64 (a.getD x.toNat default).From, PV.b (a.getD x.toNat default).Snap,
  PV.fl false (5 : Nat) File eFile default (a.getD x.toNat default).Files, PV.i IntKind.i64 (a.getD x.toNat default).Next], PV.agg [PV.i IntKind.i64 (b.getD x.toNat default).ID,
  PV.i IntKind.i64 (b.getD x.toNat default).From, PV.b (b.getD x.toNat default).Snap, PV.fl false (5 : Nat) File eFile default (b.getD x.toNat default).Files,
  PV.i IntKind.i64 (b.getD x.toNat default).Next]] true (PV.b r_1) [] ∧ ((!r_1) = true → r = false) ∧ ((!r_1) = false → ∃ (x' : Int),
  ((IntKind.i64.wrap (x + (1 : Int)) = x' ∧ True) ∧ True) ∧ Φ x' ∧ μ x' < μ x)) ∧ (decide (x < (↑a.length : Int)) = false → r = true))) =
    vcP (cx [(4, lc 5)] [] pure io) b_ref0_EqVols [.fl false 5 Vol eVol default a, .fl false 5 Vol eVol default b] true (.b r) [] := by kernel_rfl

theorem vc_ref5_At (pure : PureT) (io : IoT) (a : List Vol) (n r : Int) : (
  ∃ (Φ : Int → Prop), ∃ (μ : Int → Nat), (∃ (x : Int), (((0 : Int) = x ∧ True) ∧ True) ∧ Φ x) ∧ ∀ (x : Int), Φ x → (decide (x < (↑a.length : Int)) = true → inb x a.length ∧
  (decide ((a.getD x.toNat default).ID = n) = true → x = r) ∧ (decide ((a.getD x.toNat default).ID = n) = false →
  ∃ (x' : Int), ((IntKind.i64.wrap (x + (1 : Int)) = x' ∧ True) ∧ True) ∧ Φ x' ∧ μ x' < μ x)) ∧ (decide (x < (↑a.length : Int)) = false → (-1 : Int) = r)) =
    vcP (cx [(2, lc 5)] [] pure io) b_ref5_At [.fl false 5 Vol eVol default a, .i .i64 n] true (.i .i64 r) [] := by kernel_rfl

theorem vc_ref2_At (pure : PureT) (io : IoT) (a : Vol) (n r : Int) : (
  ∃ (Φ : Int → Prop), ∃ (μ : Int → Nat), (∃ (x : Int), (((0 : Int) = x ∧ True) ∧ True) ∧ Φ x) ∧ ∀ (x : Int), Φ x → (decide (x < (↑a.Files.length : Int)) = true →
  inb x a.Files.length ∧ (decide ((a.Files.getD x.toNat default).ID = n) = true → x = r) ∧ (decide ((a.Files.getD x.toNat default).ID = n) = false →
  ∃ (x' : Int), ((IntKind.i64.wrap (x + (1 : Int)) = x' ∧ True) ∧ True) ∧ Φ x' ∧ μ x' < μ x)) ∧ (decide (x < (↑a.Files.length : Int)) = false → (-1 : Int) = r)) =
    vcP (cx [(2, lc 5)] [] pure io) b_ref2_At [.agg (eVol a), .i .i64 n] true (.i .i64 r) [] := by kernel_rfl

theorem vc_ref0_Between (pure : PureT) (io : IoT) (a b c : Int) (r : Bool) : (
  (decide (a ≥ b) = true → decide (a ≤ c) = r) ∧ (decide (a ≥ b) = false → r = false)) =
    vcP (cx [] [] pure io) b_ref0_Between [.i .i64 a, .i .i64 b, .i .i64 c] true (.b r) [] := by kernel_rfl

theorem vc_ref0_Num (pure : PureT) (io : IoT) (a b : Int) (r : Bool) : (
  (decide (a ≥ (0 : Int)) = true → decide (a ≤ b) = r) ∧ (decide (a ≥ (0 : Int)) = false → r = false)) =
    vcP (cx [] [] pure io) b_ref0_Num [.i .i64 a, .i .i64 b] true (.b r) [] := by kernel_rfl

theorem vc_ref4_Many (pure : PureT) (io : IoT) (a r : Int) : (
  (32 : Int) ≠ (0 : Int) ∧ IntKind.i64.wrap ((IntKind.i64.wrap (IntKind.i64.wrap (a + (32 : Int)) - (1 : Int))).tdiv (32 : Int)) = r) =
    vcP (cx [] [] pure io) b_ref4_Many [.i .i64 a] true (.i .i64 r) [] := by kernel_rfl

theorem vc_ref2_Name (pure : PureT) (io : IoT) (a : Str) (r : Bool) : (
  (decide ((↑(List.length a) : Int) = (0 : Int)) = true → r = false) ∧ (decide ((↑(List.length a) : Int) = (0 : Int)) = false →
  (decide ((↑(List.length a) : Int) > (8 : Int)) = true → r = false) ∧ (decide ((↑(List.length a) : Int) > (8 : Int)) = false →
  (decide (a = (ByteArray.mk #[(46 : UInt8)]).data.toList) = true → r = false) ∧ (decide (a = (ByteArray.mk #[(46 : UInt8)]).data.toList) = false →
  (decide (a = (ByteArray.mk #[(46 : UInt8), (46 : UInt8)]).data.toList) = true → r = false) ∧ (decide (a = (ByteArray.mk #[(46 : UInt8), (46 : UInt8)]).data.toList) = false →
  ∃ (Φ : Int → Prop), ∃ (μ : Int → Nat), (∃ (x : Int), (((0 : Int) = x ∧ True) ∧ True) ∧ Φ x) ∧ ∀ (x : Int), Φ x → (decide (x < (↑(List.length a) : Int)) = true →
  inb x (List.length a) ∧ (decide ((↑(List.getD a x.toNat (0 : UInt8)).toNat : Int) ≥ (97 : Int)) = true →
  (decide ((↑(List.getD a x.toNat (0 : UInt8)).toNat : Int) ≤ (122 : Int)) = true → ∃ (x' : Int), ((IntKind.i64.wrap (x + (1 : Int)) = x' ∧ True) ∧ True) ∧ Φ x' ∧ μ x' < μ x) ∧
  (decide ((↑(List.getD a x.toNat (0 : UInt8)).toNat : Int) ≤ (122 : Int)) = false → (decide ((↑(List.getD a x.toNat (0 : UInt8)).toNat : Int) ≥ (48 : Int)) = true →
  (decide ((↑(List.getD a x.toNat (0 : UInt8)).toNat : Int) ≤ (57 : Int)) = true → ∃ (x' : Int), ((IntKind.i64.wrap (x + (1 : Int)) = x' ∧ True) ∧ True) ∧ Φ x' ∧ μ x' < μ x) ∧
  (decide ((↑(List.getD a x.toNat (0 : UInt8)).toNat : Int) ≤ (57 : Int)) = false → (decide ((↑(List.getD a x.toNat (0 : UInt8)).toNat : Int) = (46 : Int)) = true → ∃ (x' : Int),
  ((IntKind.i64.wrap (x + (1 : Int)) = x' ∧ True) ∧ True) ∧ Φ x' ∧ μ x' < μ x) ∧ (decide ((↑(List.getD a x.toNat (0 : UInt8)).toNat : Int) = (46 : Int)) = false → (decide
  ((↑(List.getD a x.toNat (0 : UInt8)).toNat : Int) = (95 : Int)) = true → ∃ (x' : Int), ((IntKind.i64.wrap (x + (1 : Int)) = x' ∧ True) ∧ True) ∧ Φ x' ∧ μ x' < μ x) ∧ (decide
  ((↑(List.getD a x.toNat (0 : UInt8)).toNat : Int) = (95 : Int)) = false → ((!decide ((↑(List.getD a x.toNat (0 : UInt8)).toNat : Int) = (45 : Int))) = true → r = false) ∧ ((!decide
  ((↑(List.getD a x.toNat (0 : UInt8)).toNat : Int) = (45 : Int))) = false → ∃ (x' : Int), ((IntKind.i64.wrap (x + (1 : Int)) = x' ∧ True) ∧ True) ∧ Φ x' ∧ μ x' < μ x))))) ∧
  (decide ((↑(List.getD a x.toNat (0 : UInt8)).toNat : Int) ≥ (48 : Int)) = false → (decide ((↑(List.getD a x.toNat (0 : UInt8)).toNat : Int) = (46 : Int)) = true → ∃ (x' : Int),
  ((IntKind.i64.wrap (x + (1 : Int)) = x' ∧ True) ∧ True) ∧ Φ x' ∧ μ x' < μ x) ∧ (decide ((↑(List.getD a x.toNat (0 : UInt8)).toNat : Int) = (46 : Int)) = false → (decide
  ((↑(List.getD a x.toNat (0 : UInt8)).toNat : Int) = (95 : Int)) = true → ∃ (x' : Int), ((IntKind.i64.wrap (x + (1 : Int)) = x' ∧ True) ∧ True) ∧ Φ x' ∧ μ x' < μ x) ∧ (decide
  ((↑(List.getD a x.toNat (0 : UInt8)).toNat : Int) = (95 : Int)) = false → ((!decide ((↑(List.getD a x.toNat (0 : UInt8)).toNat : Int) = (45 : Int))) = true → r = false) ∧ ((!decide
  ((↑(List.getD a x.toNat (0 : UInt8)).toNat : Int) = (45 : Int))) = false → ∃ (x' : Int), ((IntKind.i64.wrap (x + (1 : Int)) = x' ∧ True) ∧ True) ∧ Φ x' ∧ μ x' < μ x)))))) ∧
  (decide ((↑(List.getD a x.toNat (0 : UInt8)).toNat : Int) ≥ (97 : Int)) = false → (decide ((↑(List.getD a x.toNat (0 : UInt8)).toNat : Int) ≥ (48 : Int)) = true →
  (decide ((↑(List.getD a x.toNat (0 : UInt8)).toNat : Int) ≤ (57 : Int)) = true → ∃ (x' : Int), ((IntKind.i64.wrap (x + (1 : Int)) = x' ∧ True) ∧ True) ∧ Φ x' ∧ μ x' < μ x) ∧
  (decide ((↑(List.getD a x.toNat (0 : UInt8)).toNat : Int) ≤ (57 : Int)) = false → (decide ((↑(List.getD a x.toNat (0 : UInt8)).toNat : Int) = (46 : Int)) = true → ∃ (x' : Int),
  ((IntKind.i64.wrap (x + (1 : Int)) = x' ∧ True) ∧ True) ∧ Φ x' ∧ μ x' < μ x) ∧ (decide ((↑(List.getD a x.toNat (0 : UInt8)).toNat : Int) = (46 : Int)) = false → (decide
  ((↑(List.getD a x.toNat (0 : UInt8)).toNat : Int) = (95 : Int)) = true → ∃ (x' : Int), ((IntKind.i64.wrap (x + (1 : Int)) = x' ∧ True) ∧ True) ∧ Φ x' ∧ μ x' < μ x) ∧ (decide
  ((↑(List.getD a x.toNat (0 : UInt8)).toNat : Int) = (95 : Int)) = false → ((!decide ((↑(List.getD a x.toNat (0 : UInt8)).toNat : Int) = (45 : Int))) = true → r = false) ∧ ((!decide
  ((↑(List.getD a x.toNat (0 : UInt8)).toNat : Int) = (45 : Int))) = false → ∃ (x' : Int), ((IntKind.i64.wrap (x + (1 : Int)) = x' ∧ True) ∧ True) ∧ Φ x' ∧ μ x' < μ x))))) ∧
  (decide ((↑(List.getD a x.toNat (0 : UInt8)).toNat : Int) ≥ (48 : Int)) = false → (decide ((↑(List.getD a x.toNat (0 : UInt8)).toNat : Int) = (46 : Int)) = true → ∃ (x' : Int),
  ((IntKind.i64.wrap (x + (1 : Int)) = x' ∧ True) ∧ True) ∧ Φ x' ∧ μ x' < μ x) ∧ (decide ((↑(List.getD a x.toNat (0 : UInt8)).toNat : Int) = (46 : Int)) = false →
  (decide ((↑(List.getD a x.toNat (0 : UInt8)).toNat : Int) = (95 : Int)) = true → ∃ (x' : Int), ((IntKind.i64.wrap (x + (1 : Int)) = x' ∧ True) ∧ True) ∧ Φ x' ∧ μ x' < μ x) ∧
  (decide ((↑(List.getD a x.toNat (0 : UInt8)).toNat : Int) = (95 : Int)) = false → ((!decide ((↑(List.getD a x.toNat (0 : UInt8)).toNat : Int) = (45 : Int))) = true → r = false) ∧
  ((!decide ((↑(List.getD a x.toNat (0 : UInt8)).toNat : Int) = (45 : Int))) = false → ∃ (x' : Int), ((IntKind.i64.wrap (x + (1 : Int)) = x' ∧ True) ∧ True) ∧
  Φ x' ∧ μ x' < μ x)))))) ∧ (decide (x < (↑(List.length a) : Int)) = false → r = true)))))) =
    vcP (cx [(4, lc 3)] [] pure io) b_ref2_Name [.s a] true (.b r) [] := by kernel_rfl

theorem vc_ref2_Links (pure : PureT) (io : IoT) (a : Vol) (n r : Int) : (
  ∃ (Φ : Int × Int → Prop), ∃ (μ : Int × Int → Nat), (∃ (x : Int × Int), (((0 : Int) = x.fst ∧ (0 : Int) = x.snd ∧ True) ∧ True) ∧ Φ x) ∧ ∀ (x : Int × Int), Φ x →
  (decide (x.snd < (↑a.Files.length : Int)) = true → ∃ (Φ_1 : Int × Int → Prop), ∃ (μ_1 : Int × Int → Nat),
  (∃ (x_1 : Int × Int), ((x.fst = x_1.fst ∧ (0 : Int) = x_1.snd ∧ True) ∧ True) ∧ Φ_1 x_1) ∧ ∀ (x_1 : Int × Int), Φ_1 x_1 → inb x.snd a.Files.length ∧
  (decide (x_1.snd < (↑(a.Files.getD x.snd.toNat default).List.length : Int)) = true → inb x.snd a.Files.length ∧ inb x_1.snd (a.Files.getD x.snd.toNat default).List.length ∧ (decide
  (((a.Files.getD x.snd.toNat default).List.getD x_1.snd.toNat default).ID = n) = true → ∃ (x' : Int × Int), ((IntKind.i64.wrap (x_1.fst + (1 : Int)) = x'.fst ∧
  IntKind.i64.wrap (x_1.snd + (1 : Int)) = x'.snd ∧ True) ∧ True) ∧ Φ_1 x' ∧ μ_1 x' < μ_1 x_1) ∧ (decide (((a.Files.getD x.snd.toNat default).List.getD x_1.snd.toNat default).ID =
  n) = false → ∃ (x' : Int × Int), ((x_1.fst = x'.fst ∧ IntKind.i64.wrap (x_1.snd + (1 : Int)) = x'.snd ∧ True) ∧ True) ∧ Φ_1 x' ∧ μ_1 x' < μ_1 x_1)) ∧
  (decide (x_1.snd < (↑(a.Files.getD x.snd.toNat default).List.length : Int)) = false → ∃ (x' : Int × Int),
  ((x_1.fst = x'.fst ∧ IntKind.i64.wrap (x.snd + (1 : Int)) = x'.snd ∧ True) ∧ True) ∧ Φ x' ∧ μ x' < μ x)) ∧ (decide (x.snd < (↑a.Files.length : Int)) = false → x.fst = r)) =
    vcP (cx [(3, lc2 5 6), (6, lc2 5 7)] [] pure io) b_ref2_Links [.agg (eVol a), .i .i64 n] true (.i .i64 r) [] := by kernel_rfl

theorem vc_ref2_file (pure : PureT) (io : IoT) (a : Vol) (f : File) (r : Bool) : (
  (f.Dir = true → ((!decide (f.Size = (0 : Int))) = true → r = false) ∧ ((!decide (f.Size = (0 : Int))) = false → (decide ((↑f.Blocks.length : Int) > (0 : Int)) = true → r = false) ∧
  (decide ((↑f.Blocks.length : Int) > (0 : Int)) = false → (decide ((↑f.List.length : Int) > (8 : Int)) = true → r = false) ∧ (decide ((↑f.List.length : Int) > (8 : Int)) = false →
  ∃ (Φ : Int → Prop), ∃ (μ : Int → Nat), (∃ (x : Int), (((0 : Int) = x ∧ True) ∧ True) ∧ Φ x) ∧ ∀ (x : Int), Φ x → (decide (x < (↑f.List.length : Int)) = true → inb x f.List.length ∧
  ∃ (r_1 : Bool), pure n_ref2_Name [PV.s (f.List.getD x.toNat default).Name] true (PV.b r_1) [] ∧ ((!r_1) = true → r = false) ∧ ((!r_1) = false → (decide (x > (0 : Int)) = true →
  inb (IntKind.i64.wrap (x - (1 : Int))) f.List.length ∧ inb x f.List.length ∧ ((!Op.bytesLess (f.List.getD (IntKind.i64.wrap (x - (1 : Int))).toNat default).Name
  (f.List.getD x.toNat default).Name) = true → r = false) ∧ ((!Op.bytesLess (f.List.getD (IntKind.i64.wrap (x - (1 : Int))).toNat default).Name (f.List.getD x.toNat default).Name) =
  false → inb x f.List.length ∧ ∃ (r_2 : Int), pure n_ref2_At [PV.agg [PV.i IntKind.i64 a.ID, PV.i IntKind.i64 a.From, PV.b a.Snap, PV.fl false (5 : Nat) File eFile default a.Files,
  PV.i IntKind.i64 a.Next], PV.i IntKind.i64 (f.List.getD x.toNat default).ID] true (PV.i IntKind.i64 r_2) [] ∧ (decide (r_2 < (0 : Int)) = true → r = false) ∧
  (decide (r_2 < (0 : Int)) = false → ∃ (x' : Int), ((IntKind.i64.wrap (x + (1 : Int)) = x' ∧ True) ∧ True) ∧ Φ x' ∧ μ x' < μ x))) ∧ (decide (x > (0 : Int)) = false →
  inb x f.List.length ∧ ∃ (r_2 : Int), pure n_ref2_At [PV.agg [PV.i IntKind.i64 a.ID, PV.i IntKind.i64 a.From, PV.b a.Snap, PV.fl false (5 : Nat) File eFile default a.Files,
  PV.i IntKind.i64 a.Next], PV.i IntKind.i64 (f.List.getD x.toNat default).ID] true (PV.i IntKind.i64 r_2) [] ∧ (decide (r_2 < (0 : Int)) = true → r = false) ∧
  (decide (r_2 < (0 : Int)) = false → ∃ (x' : Int), ((IntKind.i64.wrap (x + (1 : Int)) = x' ∧ True) ∧ True) ∧ Φ x' ∧ μ x' < μ x)))) ∧
  (decide (x < (↑f.List.length : Int)) = false → r = true))))) ∧ (f.Dir = false → (decide ((↑f.List.length : Int) > (0 : Int)) = true → r = false) ∧
  (decide ((↑f.List.length : Int) > (0 : Int)) = false → ∃ (r_1 : Bool), pure n_ref0_Num [PV.i IntKind.i64 f.Size, PV.i IntKind.i64 (200 : Int)] true (PV.b r_1) [] ∧
  ((!r_1) = true → r = false) ∧ ((!r_1) = false → ∃ (r_2 : Int), pure n_ref4_Many [PV.i IntKind.i64 f.Size] true (PV.i IntKind.i64 r_2) [] ∧
  ((!decide ((↑f.Blocks.length : Int) = r_2)) = true → r = false) ∧ ((!decide ((↑f.Blocks.length : Int) = r_2)) = false → ∃ (Φ : Int → Prop), ∃ (μ : Int → Nat),
  (∃ (x : Int), (((0 : Int) = x ∧ True) ∧ True) ∧ Φ x) ∧ ∀ (x : Int), Φ x → (decide (x < (↑f.Blocks.length : Int)) = true → inb x f.Blocks.length ∧ ∃ (r_3 : Bool), pure n_ref0_Num
  [PV.i IntKind.i64 (f.Blocks.getD x.toNat (0 : Int)), PV.i IntKind.i64 (1073741823 : Int)] true (PV.b r_3) [] ∧ ((!r_3) = true → r = false) ∧ ((!r_3) = false → ∃ (x' : Int),
  ((IntKind.i64.wrap (x + (1 : Int)) = x' ∧ True) ∧ True) ∧ Φ x' ∧ μ x' < μ x)) ∧ (decide (x < (↑f.Blocks.length : Int)) = false → r = true)))))) =
    vcP (cx [(5, lc 5), (13, lc 6)] [] pure io) b_ref2_file [.agg (eVol a), .agg (eFile f)] true (.b r) [] := by kernel_rfl

end Go.Proofs.Ytbiojnaemniljaa

/- Contracts: comparisons. -/
namespace Go.Proofs.Ytbiojnaemniljaa
open Go Pv
theorem list_eq {α : Type} {a b : List α} (d : α) (hl : a.length = b.length) (h : ∀ j : Nat, j < a.length → a.getD j d = b.getD j d) : a = b := by
  apply List.ext_getElem hl
  intro j h1 h2
  have := h j h1
  simpa [List.getD, h1, h2] using this
/-- rounds of a comparison -/
theorem eq_rounds {α : Type} {a b : List α} (d : α) {r : Bool} (hr : r = true ↔ a = b) (hl : a.length = b.length) (hm : a.length ≤ 140737488355328) {R : Int → (Int → Prop) → Prop}
    (hR : ∀ (x : Int) (K : Int → Prop), 0 ≤ x → x < a.length → (a.getD x.toNat d ≠ b.getD x.toNat d → r = false) → (a.getD x.toNat d = b.getD x.toNat d → K (x + 1)) → R x K) :
    ∃ (Φ : Int → Prop) (μ : Int → Nat), (∃ x : Int, ((0 = x ∧ True) ∧ True) ∧ Φ x) ∧ ∀ x : Int, Φ x →
      (decide (x < (a.length : Int)) = true → R x fun x' => Φ x' ∧ μ x' < μ x) ∧ (decide (x < (a.length : Int)) = false → r = true) := by
  refine ⟨fun x => 0 ≤ x ∧ x ≤ a.length ∧ ∀ j : Nat, (j : Int) < x → a.getD j d = b.getD j d, fun x => (a.length - x).toNat, ⟨0, ⟨⟨rfl, trivial⟩, trivial⟩, by omega, by omega, fun j hj => by omega⟩, ?_⟩
  rintro x ⟨h0, h1, h2⟩
  refine ⟨fun hd => ?_, fun hd => ?_⟩
  · have hlt : x < a.length := of_decide_eq_true hd
    refine hR x _ h0 hlt (fun hne => ?_) (fun he => ⟨⟨by omega, by omega, fun j hj => ?_⟩, by show (_ : Int).toNat < (_ : Int).toNat; omega⟩)
    · cases hrr : r with
      | false => rfl
      | true => exact absurd (by rw [hr.1 hrr]) hne
    · rcases (by omega : (j : Int) < x ∨ j = x.toNat) with hj | rfl
      · exact h2 j hj
      · exact he
  · have hge := of_decide_eq_false hd
    exact hr.2 (list_eq d hl fun j hj => h2 j (by omega))
theorem EqNumbers_ok (a b : List Int) (ha : a.length ≤ 140737488355328) (r : Bool) (hr : r = true ↔ a = b) : Pure prog n_ref0_EqNumbers [.fl false 1 Int eI 0 a, .fl false 1 Int eI 0 b] true (.b r) [] := by
  refine mk (l := [(4, lc 5)]) (k := []) ⟨lc_ok _, trivial⟩ trivial (fn := b_ref0_EqNumbers) (by kernel_rfl) (by kernel_rfl) (by kernel_rfl) rfl outsOK_nil ?_
  rw [← vc_ref0_EqNumbers]
  refine ⟨fun h => ?_, fun h => ?_⟩
  · cases hrr : r with
    | false => rfl
    | true => rw [hr.1 hrr] at h; simp at h
  · have hl : a.length = b.length := by have : (a.length : Int) = b.length := by simpa using h
                                        omega
    obtain ⟨Φ, μ, h1, h2⟩ := eq_rounds (0 : Int) hr hl ha (R := fun x K => inb x a.length ∧ inb x b.length ∧ ((!decide (a.getD x.toNat 0 = b.getD x.toNat 0)) = true → r = false) ∧
        ((!decide (a.getD x.toNat 0 = b.getD x.toNat 0)) = false → ∃ x' : Int, ((IntKind.i64.wrap (x + 1) = x' ∧ True) ∧ True) ∧ K x'))
      (fun x K h0 hlt g1 g2 => ⟨⟨h0, hlt⟩, ⟨h0, by omega⟩, fun hh => g1 (by simpa using hh), fun hh => ⟨x + 1, ⟨⟨wrap64 (by omega) (by omega), trivial⟩, trivial⟩, g2 (by simpa using hh)⟩⟩)
    exact ⟨Φ, μ, h1, h2⟩
theorem link_eq {a b : Link} (h1 : a.Name = b.Name) (h2 : a.ID = b.ID) : a = b := by cases a; cases b; simp only at h1 h2; rw [h1, h2]
theorem len_no {α : Type} {a b : List α} {r : Bool} (hr : r = true ↔ a = b) (h : (!decide ((a.length : Int) = (b.length : Int))) = true) : r = false := by
  cases hrr : r with
  | false => rfl
  | true => rw [hr.1 hrr] at h; simp at h
theorem len_yes {α : Type} {a b : List α} (h : (!decide ((a.length : Int) = (b.length : Int))) = false) : a.length = b.length := by
  have : (a.length : Int) = b.length := by simpa using h
  omega
theorem EqLinks_ok (a b : List Link) (ha : a.length ≤ 140737488355328) (r : Bool) (hr : r = true ↔ a = b) : Pure prog n_ref0_EqLinks [.fl false 2 Link eLink default a, .fl false 2 Link eLink default b] true (.b r) [] := by
  refine mk (l := [(4, lc 5)]) (k := []) ⟨lc_ok _, trivial⟩ trivial (fn := b_ref0_EqLinks) (by kernel_rfl) (by kernel_rfl) (by kernel_rfl) rfl outsOK_nil ?_
  rw [← vc_ref0_EqLinks]
  refine ⟨len_no hr, fun h => ?_⟩
  have hl := len_yes h
  obtain ⟨Φ, μ, h1, h2⟩ := eq_rounds (default : Link) hr hl ha (R := fun x K => inb x a.length ∧ inb x b.length ∧ ((!(decide ((a.getD x.toNat default).Name = (b.getD x.toNat default).Name) && (decide ((a.getD x.toNat default).ID = (b.getD x.toNat default).ID) && true))) = true → r = false) ∧
      ((!(decide ((a.getD x.toNat default).Name = (b.getD x.toNat default).Name) && (decide ((a.getD x.toNat default).ID = (b.getD x.toNat default).ID) && true))) = false → ∃ x' : Int, ((IntKind.i64.wrap (x + 1) = x' ∧ True) ∧ True) ∧ K x'))
    (fun x K h0 hlt g1 g2 => ⟨⟨h0, hlt⟩, ⟨h0, by omega⟩, fun hh => g1 (fun e => by rw [e] at hh; simp at hh), fun hh => ⟨x + 1, ⟨⟨wrap64 (by omega) (by omega), trivial⟩, trivial⟩, g2 (by simp at hh; exact link_eq hh.1 hh.2)⟩⟩)
  exact ⟨Φ, μ, h1, h2⟩
theorem file_eq {a b : File} (h1 : a.ID = b.ID) (h2 : a.Dir = b.Dir) (h3 : a.Size = b.Size) (h4 : a.Blocks = b.Blocks) (h5 : a.List = b.List) : a = b := by
  cases a; cases b; simp only at h1 h2 h3 h4 h5; rw [h1, h2, h3, h4, h5]
theorem no_of {α : Type} {a b : α} {r : Bool} (hr : r = true ↔ a = b) (h : a ≠ b) : r = false := by
  cases hrr : r with
  | false => rfl
  | true => exact absurd (hr.1 hrr) h
open Classical in
theorem EqFile_ok (a b : File) (ha : a.Blocks.length ≤ 140737488355328) (hb : a.List.length ≤ 140737488355328) (r : Bool) (hr : r = true ↔ a = b) : Pure prog n_ref0_EqFile [.agg (eFile a), .agg (eFile b)] true (.b r) [] := by
  refine mk (l := []) (k := []) trivial trivial (fn := b_ref0_EqFile) (by kernel_rfl) (by kernel_rfl) (by kernel_rfl) rfl outsOK_nil ?_
  rw [← vc_ref0_EqFile]
  refine ⟨fun h1 => ⟨fun h2 => ⟨fun h3 => ?_, fun h => no_of hr fun e => by rw [e] at h; simp at h⟩, fun h => no_of hr fun e => by rw [e] at h; simp at h⟩, fun h => no_of hr fun e => by rw [e] at h; simp at h⟩
  have h1 := of_decide_eq_true h1
  have h2 := of_decide_eq_true h2
  have h3 := of_decide_eq_true h3
  refine ⟨decide (a.Blocks = b.Blocks), EqNumbers_ok _ _ ha _ (by simp), fun h4 => ?_, fun h => no_of hr fun e => by rw [e] at h; simp at h⟩
  have h4 := of_decide_eq_true h4
  refine ⟨decide (a.List = b.List), EqLinks_ok _ _ hb _ (by simp), ?_⟩
  rw [Bool.eq_iff_iff, hr, decide_eq_true_iff]
  exact ⟨fun h5 => file_eq h1 h2 h3 h4 h5, fun e => by rw [e]⟩
/-- short enough to be counted -/
def File.Sz (f : File) : Prop := f.Blocks.length ≤ 140737488355328 ∧ f.List.length ≤ 140737488355328
def Vol.Sz (v : Vol) : Prop := v.Files.length ≤ 140737488355328 ∧ ∀ f, f ∈ v.Files → f.Sz
open Classical in
theorem EqFiles_ok (a b : List File) (ha : a.length ≤ 140737488355328) (hs : ∀ f, f ∈ a → f.Sz) (r : Bool) (hr : r = true ↔ a = b) : Pure prog n_ref0_EqFiles [.fl false 5 File eFile default a, .fl false 5 File eFile default b] true (.b r) [] := by
  refine mk (l := [(4, lc 5)]) (k := []) ⟨lc_ok _, trivial⟩ trivial (fn := b_ref0_EqFiles) (by kernel_rfl) (by kernel_rfl) (by kernel_rfl) rfl outsOK_nil ?_
  rw [← vc_ref0_EqFiles]
  refine ⟨len_no hr, fun h => ?_⟩
  have hl := len_yes h
  obtain ⟨Φ, μ, h1, h2⟩ := eq_rounds (default : File) hr hl ha (R := fun x K => inb x a.length ∧ inb x b.length ∧ ∃ r_1 : Bool, Pure prog n_ref0_EqFile [.agg (eFile (a.getD x.toNat default)), .agg (eFile (b.getD x.toNat default))] true (PV.b r_1) [] ∧
      ((!r_1) = true → r = false) ∧ ((!r_1) = false → ∃ x' : Int, ((IntKind.i64.wrap (x + 1) = x' ∧ True) ∧ True) ∧ K x'))
    (fun x K h0 hlt g1 g2 => ⟨⟨h0, hlt⟩, ⟨h0, by omega⟩, decide (a.getD x.toNat default = b.getD x.toNat default),
      EqFile_ok _ _ (hs _ (getD_mem (by omega))).1 (hs _ (getD_mem (by omega))).2 _ (by simp),
      fun hh => g1 (fun e => by rw [e] at hh; simp at hh), fun hh => ⟨x + 1, ⟨⟨wrap64 (by omega) (by omega), trivial⟩, trivial⟩, g2 (by simpa using hh)⟩⟩)
  exact ⟨Φ, μ, h1, h2⟩
theorem vol_eq {a b : Vol} (h1 : a.ID = b.ID) (h2 : a.From = b.From) (h3 : a.Snap = b.Snap) (h4 : a.Files = b.Files) (h5 : a.Next = b.Next) : a = b := by
  cases a; cases b; simp only at h1 h2 h3 h4 h5; rw [h1, h2, h3, h4, h5]
open Classical in
theorem EqVol_ok (a b : Vol) (hs : a.Sz) (r : Bool) (hr : r = true ↔ a = b) : Pure prog n_ref0_EqVol [.agg (eVol a), .agg (eVol b)] true (.b r) [] := by
  refine mk (l := []) (k := []) trivial trivial (fn := b_ref0_EqVol) (by kernel_rfl) (by kernel_rfl) (by kernel_rfl) rfl outsOK_nil ?_
  rw [← vc_ref0_EqVol]
  refine ⟨fun h1 => ⟨fun h2 => ⟨fun h3 => ?_, fun h => no_of hr fun e => by rw [e] at h; simp at h⟩, fun h => no_of hr fun e => by rw [e] at h; simp at h⟩, fun h => no_of hr fun e => by rw [e] at h; simp at h⟩
  have h1 := of_decide_eq_true h1
  have h2 := of_decide_eq_true h2
  have h3 := of_decide_eq_true h3
  refine ⟨decide (a.Files = b.Files), EqFiles_ok _ _ hs.1 hs.2 _ (by simp), fun h4 => ?_, fun h => no_of hr fun e => by rw [e] at h; simp at h⟩
  have h4 := of_decide_eq_true h4
  rw [Bool.eq_iff_iff, hr, decide_eq_true_iff]
  exact ⟨fun h5 => vol_eq h1 h2 h3 h4 h5, fun e => by rw [e]⟩
open Classical in
theorem EqVols_ok (a b : List Vol) (ha : a.length ≤ 140737488355328) (hs : ∀ v, v ∈ a → v.Sz) (r : Bool) (hr : r = true ↔ a = b) : Pure prog n_ref0_EqVols [.fl false 5 Vol eVol default a, .fl false 5 Vol eVol default b] true (.b r) [] := by
  refine mk (l := [(4, lc 5)]) (k := []) ⟨lc_ok _, trivial⟩ trivial (fn := b_ref0_EqVols) (by kernel_rfl) (by kernel_rfl) (by kernel_rfl) rfl outsOK_nil ?_
  rw [← vc_ref0_EqVols]
  refine ⟨len_no hr, fun h => ?_⟩
  have hl := len_yes h
  obtain ⟨Φ, μ, h1, h2⟩ := eq_rounds (default : Vol) hr hl ha (R := fun x K => inb x a.length ∧ inb x b.length ∧ ∃ r_1 : Bool, Pure prog n_ref0_EqVol [.agg (eVol (a.getD x.toNat default)), .agg (eVol (b.getD x.toNat default))] true (PV.b r_1) [] ∧
      ((!r_1) = true → r = false) ∧ ((!r_1) = false → ∃ x' : Int, ((IntKind.i64.wrap (x + 1) = x' ∧ True) ∧ True) ∧ K x'))
    (fun x K h0 hlt g1 g2 => ⟨⟨h0, hlt⟩, ⟨h0, by omega⟩, decide (a.getD x.toNat default = b.getD x.toNat default),
      EqVol_ok _ _ (hs _ (getD_mem (by omega))) _ (by simp),
      fun hh => g1 (fun e => by rw [e] at hh; simp at hh), fun hh => ⟨x + 1, ⟨⟨wrap64 (by omega) (by omega), trivial⟩, trivial⟩, g2 (by simpa using hh)⟩⟩)
  exact ⟨Φ, μ, h1, h2⟩
end Go.Proofs.Ytbiojnaemniljaa

/- Contracts: finding by number; small tests. -/
namespace Go.Proofs.Ytbiojnaemniljaa
open Go Pv
/-- the first place at which p holds; -1: nowhere -/
def place {α : Type} (p : α → Bool) : List α → Int
  | [] => -1
  | a :: l => if p a then 0 else if place p l < 0 then -1 else place p l + 1
theorem place_ge {α : Type} (p : α → Bool) : ∀ l : List α, -1 ≤ place p l ∧ place p l < l.length
  | [] => by simp [place]
  | a :: l => by
    have := place_ge p l
    simp only [place, List.length_cons]
    split
    · omega
    · split <;> omega
theorem place_at {α : Type} {p : α → Bool} {d : α} : ∀ {l : List α} {x : Nat}, x < l.length → p (l.getD x d) = true → (∀ j, j < x → p (l.getD j d) = false) → place p l = x
  | [], x, h, _, _ => by simp at h
  | a :: l, 0, _, h, _ => by simp [place] at h ⊢; simp [h]
  | a :: l, x + 1, hx, h, hn => by
    have h0 : p a = false := by have := hn 0 (Nat.succ_pos x); simpa using this
    have := place_at (l := l) (x := x) (p := p) (d := d) (by simpa using hx) (by simpa using h) (fun j hj => by have := hn (j + 1) (by omega); simpa using this)
    simp only [place, h0, this, Bool.false_eq_true, if_false]
    split
    · omega
    · simp
theorem place_no {α : Type} {p : α → Bool} {d : α} : ∀ {l : List α}, (∀ j, j < l.length → p (l.getD j d) = false) → place p l = -1
  | [], _ => rfl
  | a :: l, hn => by
    have h0 : p a = false := by have := hn 0 (by simp); simpa using this
    have := place_no (l := l) (p := p) (d := d) (fun j hj => by have := hn (j + 1) (by simpa using hj); simpa using this)
    simp [place, h0, this]
theorem place_rounds {α : Type} {a : List α} (d : α) (p : α → Bool) (hm : a.length ≤ 140737488355328) {R : Int → (Int → Prop) → Prop}
    (hR : ∀ (x : Int) (K : Int → Prop), 0 ≤ x → x < a.length → (p (a.getD x.toNat d) = true → x = place p a) → (p (a.getD x.toNat d) = false → K (x + 1)) → R x K) :
    ∃ (Φ : Int → Prop) (μ : Int → Nat), (∃ x : Int, ((0 = x ∧ True) ∧ True) ∧ Φ x) ∧ ∀ x : Int, Φ x →
      (decide (x < (a.length : Int)) = true → R x fun x' => Φ x' ∧ μ x' < μ x) ∧ (decide (x < (a.length : Int)) = false → -1 = place p a) := by
  refine ⟨fun x => 0 ≤ x ∧ x ≤ a.length ∧ ∀ j : Nat, (j : Int) < x → p (a.getD j d) = false, fun x => (a.length - x).toNat, ⟨0, ⟨⟨rfl, trivial⟩, trivial⟩, by omega, by omega, fun j hj => by omega⟩, ?_⟩
  rintro x ⟨h0, h1, h2⟩
  refine ⟨fun hd => ?_, fun hd => ?_⟩
  · have hlt : x < a.length := of_decide_eq_true hd
    refine hR x _ h0 hlt (fun he => ?_) (fun hn => ⟨⟨by omega, by omega, fun j hj => ?_⟩, by show (_ : Int).toNat < (_ : Int).toNat; omega⟩)
    · rw [place_at (by omega) he (fun j hj => h2 j (by omega))]; omega
    · rcases (by omega : (j : Int) < x ∨ j = x.toNat) with hj | rfl
      · exact h2 j hj
      · exact hn
  · have hge := of_decide_eq_false hd
    exact (place_no (d := d) fun j hj => h2 j (by omega)).symm
theorem AtVol_ok (a : List Vol) (n : Int) (ha : a.length ≤ 140737488355328) : Pure prog n_ref5_At [.fl false 5 Vol eVol default a, .i .i64 n] true (.i .i64 (place (fun v => decide (v.ID = n)) a)) [] := by
  refine mk (l := [(2, lc 5)]) (k := []) ⟨lc_ok _, trivial⟩ trivial (fn := b_ref5_At) (by kernel_rfl) (by kernel_rfl) (by kernel_rfl) rfl outsOK_nil ?_
  rw [← vc_ref5_At]
  exact place_rounds (default : Vol) (fun v => decide (v.ID = n)) ha (R := fun x K => inb x a.length ∧ (decide ((a.getD x.toNat default).ID = n) = true → x = place (fun v => decide (v.ID = n)) a) ∧
      (decide ((a.getD x.toNat default).ID = n) = false → ∃ x' : Int, ((IntKind.i64.wrap (x + 1) = x' ∧ True) ∧ True) ∧ K x'))
    (fun x K h0 hlt g1 g2 => ⟨⟨h0, hlt⟩, g1, fun hh => ⟨x + 1, ⟨⟨wrap64 (by omega) (by omega), trivial⟩, trivial⟩, g2 hh⟩⟩)
theorem AtFile_ok (a : Vol) (n : Int) (ha : a.Files.length ≤ 140737488355328) : Pure prog n_ref2_At [.agg (eVol a), .i .i64 n] true (.i .i64 (place (fun v => decide (v.ID = n)) a.Files)) [] := by
  refine mk (l := [(2, lc 5)]) (k := []) ⟨lc_ok _, trivial⟩ trivial (fn := b_ref2_At) (by kernel_rfl) (by kernel_rfl) (by kernel_rfl) rfl outsOK_nil ?_
  rw [← vc_ref2_At]
  exact place_rounds (default : File) (fun v => decide (v.ID = n)) ha (R := fun x K => inb x a.Files.length ∧ (decide ((a.Files.getD x.toNat default).ID = n) = true → x = place (fun v => decide (v.ID = n)) a.Files) ∧
      (decide ((a.Files.getD x.toNat default).ID = n) = false → ∃ x' : Int, ((IntKind.i64.wrap (x + 1) = x' ∧ True) ∧ True) ∧ K x'))
    (fun x K h0 hlt g1 g2 => ⟨⟨h0, hlt⟩, g1, fun hh => ⟨x + 1, ⟨⟨wrap64 (by omega) (by omega), trivial⟩, trivial⟩, g2 hh⟩⟩)
theorem Between_ok (a b c : Int) : Pure prog n_ref0_Between [.i .i64 a, .i .i64 b, .i .i64 c] true (.b (decide (b ≤ a ∧ a ≤ c))) [] := by
  refine mk (l := []) (k := []) trivial trivial (fn := b_ref0_Between) (by kernel_rfl) (by kernel_rfl) (by kernel_rfl) rfl outsOK_nil ?_
  rw [← vc_ref0_Between]
  refine ⟨fun h => ?_, fun h => ?_⟩
  · have h := of_decide_eq_true h
    rw [Bool.eq_iff_iff]; simp; omega
  · have h := of_decide_eq_false h
    simp; omega
theorem Num_ok (a b : Int) : Pure prog n_ref0_Num [.i .i64 a, .i .i64 b] true (.b (decide (0 ≤ a ∧ a ≤ b))) [] := by
  refine mk (l := []) (k := []) trivial trivial (fn := b_ref0_Num) (by kernel_rfl) (by kernel_rfl) (by kernel_rfl) rfl outsOK_nil ?_
  rw [← vc_ref0_Num]
  refine ⟨fun h => ?_, fun h => ?_⟩
  · have h := of_decide_eq_true h
    rw [Bool.eq_iff_iff]; simp; omega
  · have h := of_decide_eq_false h
    simp; omega
/-- how many pieces: the number's own arithmetic -/
def many (a : Int) : Int := IntKind.i64.wrap ((IntKind.i64.wrap (IntKind.i64.wrap (a + 32) - 1)).tdiv 32)
theorem Many_ok (a : Int) : Pure prog n_ref4_Many [.i .i64 a] true (.i .i64 (many a)) [] := by
  refine mk (l := []) (k := []) trivial trivial (fn := b_ref4_Many) (by kernel_rfl) (by kernel_rfl) (by kernel_rfl) rfl outsOK_nil ?_
  rw [← vc_ref4_Many]
  exact ⟨by decide, rfl⟩
end Go.Proofs.Ytbiojnaemniljaa

/- Conditions of functions (printed by mkgo.py out of C2.spec.py, checked by the kernel). -/
namespace Go.Proofs.Ytbiojnaemniljaa
open Go Pv
theorem vc_tree_number (pure : PureT) (io : IoT) (a : Int) (r : Bool) : (
  (decide (a ≥ (0 : Int)) = true → decide (a ≤ (1073741824 : Int)) = r) ∧ (decide (a ≥ (0 : Int)) = false → r = false)) =
    vcP (cx [] [] pure io) b_tree_number [.i .i64 a] true (.b r) [] := by kernel_rfl

theorem vc_tree_blocks_1 (pure : PureT) (io : IoT) (a : Int) (r : Bool) : (
  (decide (a < (0 : Int)) = true → r = true) ∧ (decide (a < (0 : Int)) = false → decide (a ≥ (1073741824 : Int)) = r)) =
    vcP (cx [] [] pure io) b_tree_blocks_1 [.i .i64 a] true (.b r) [] := by kernel_rfl

theorem vc_body_Many (pure : PureT) (io : IoT) (a r : Int) : (
  (32 : Int) ≠ (0 : Int) ∧ IntKind.i64.wrap ((IntKind.i64.wrap (IntKind.i64.wrap (a + (32 : Int)) - (1 : Int))).tdiv (32 : Int)) = r) =
    vcP (cx [] [] pure io) b_body_Many [.i .i64 a] true (.i .i64 r) [] := by kernel_rfl

theorem vc_slices_IndexFunc_int (pure : PureT) (io : IoT) (a : List Int) (r : Int) : (
  ∃ (Φ : Int → Prop), ∃ (μ : Int → Nat), (∃ (x : Int), (((0 : Int) = x ∧ True) ∧ True) ∧ Φ x) ∧ ∀ (x : Int), Φ x → (decide (x < (↑a.length : Int)) = true → inb x a.length ∧
  ∃ (r_1 : Bool), pure n_tree_blocks_1 [PV.i IntKind.i64 (a.getD x.toNat (0 : Int))] true (PV.b r_1) [] ∧ (r_1 = true → x = r) ∧ (r_1 = false →
  ∃ (x' : Int), ((IntKind.i64.wrap (x + (1 : Int)) = x' ∧ True) ∧ True) ∧ Φ x' ∧ μ x' < μ x)) ∧ (decide (x < (↑a.length : Int)) = false → (-1 : Int) = r)) =
    vcP (cx [(2, lc 8)] [] pure io) b_slices_IndexFunc_int [.fl false 1 Int eI 0 a, .fn n_tree_blocks_1 []] true (.i .i64 r) [] := by kernel_rfl

theorem vc_slices_ContainsFunc_int (pure : PureT) (io : IoT) (a : List Int) (r : Bool) : (
  ∃ (r_1 : Int), pure n_slices_IndexFunc_int [PV.fl false (1 : Nat) Int eI (0 : Int) a, PV.fn n_tree_blocks_1 []] true (PV.i IntKind.i64 r_1) [] ∧ decide (r_1 ≥ (0 : Int)) = r) =
    vcP (cx [] [] pure io) b_slices_ContainsFunc_int [.fl false 1 Int eI 0 a, .fn n_tree_blocks_1 []] true (.b r) [] := by kernel_rfl

theorem vc_tree_blocks (pure : PureT) (io : IoT) (a : File) (r : Bool) : (
  (decide (a.Size ≥ (0 : Int)) = true → (decide (a.Size ≤ (200 : Int)) = true → ∃ (r_1 : Int), pure n_body_Many [PV.i IntKind.i64 a.Size] true (PV.i IntKind.i64 r_1) [] ∧
  (decide ((↑a.Blocks.length : Int) = r_1) = true → ∃ (r_2 : Bool), pure n_slices_ContainsFunc_int [PV.fl false (1 : Nat) Int eI (0 : Int) a.Blocks, PV.fn n_tree_blocks_1 []] true (PV.b r_2) [] ∧
  (!r_2) = r) ∧ (decide ((↑a.Blocks.length : Int) = r_1) = false → r = false)) ∧ (decide (a.Size ≤ (200 : Int)) = false → r = false)) ∧
  (decide (a.Size ≥ (0 : Int)) = false → r = false)) =
    vcP (cx [] [] pure io) b_tree_blocks [.agg (eFile a)] true (.b r) [] := by kernel_rfl

theorem vc_tree_at_1 (pure : PureT) (io : IoT) (a : File) (n r : Int) : (
  IntKind.i64.wrap (a.ID - n) = r) =
    vcP (cx [] [] pure io) b_tree_at_1 [.agg (eFile a), .i .i64 n] true (.i .i64 r) [] := by kernel_rfl

theorem vc_vol_At_1 (pure : PureT) (io : IoT) (a : Vol) (n r : Int) : (
  IntKind.i64.wrap (a.ID - n) = r) =
    vcP (cx [] [] pure io) b_vol_At_1 [.agg (eVol a), .i .i64 n] true (.i .i64 r) [] := by kernel_rfl

theorem vc_slices_BinarySearchFunc_File_int (pure : PureT) (io : IoT) (a : List File) (n i : Int) (r : Bool) : (
  ∃ (Φ : Int × Int → Prop), ∃ (μ : Int × Int → Nat), (∃ (x : Int × Int), (((0 : Int) = x.fst ∧ (↑a.length : Int) = x.snd ∧ True) ∧ True) ∧ Φ x) ∧ ∀ (x : Int × Int), Φ x →
  (decide (x.fst < x.snd) = true → (0 : Int) ≤ (1 : Int) ∧ Int.toNat (1 : Int) < IntKind.u64.bits ∧ inb (IntKind.i64.wrap
  ((IntKind.u64.wrap (IntKind.i64.wrap (x.fst + x.snd))).fdiv ((2 : Int) ^ Int.toNat (1 : Int)))) a.length ∧ ∃ (r : Int), pure n_tree_at_1 [PV.agg [PV.i IntKind.i64 (a.getD
  (IntKind.i64.wrap ((IntKind.u64.wrap (IntKind.i64.wrap (x.fst + x.snd))).fdiv ((2 : Int) ^ Int.toNat (1 : Int)))).toNat default).ID, PV.b (a.getD (IntKind.i64.wrap
  ((IntKind.u64.wrap (IntKind.i64.wrap (x.fst + x.snd))).fdiv ((2 : Int) ^ Int.toNat (1 : Int)))).toNat default).Dir, PV.i IntKind.i64 (a.getD (IntKind.i64.wrap
  ((IntKind.u64.wrap (IntKind.i64.wrap (x.fst + x.snd))).fdiv ((2 : Int) ^ Int.toNat (1 : Int)))).toNat default).Size, PV.fl false (1 : Nat) Int eI (0 : Int) (a.getD
  (IntKind.i64.wrap ((IntKind.u64.wrap (IntKind.i64.wrap (x.fst + x.snd))).fdiv ((2 : Int) ^ Int.toNat (1 : Int)))).toNat default).Blocks, PV.fl false (2 : Nat) Link eLink default
  (a.getD (IntKind.i64.wrap ((IntKind.u64.wrap (IntKind.i64.wrap (x.fst + x.snd))).fdiv ((2 : Int) ^ Int.toNat (1 : Int)))).toNat default).List], PV.i IntKind.i64 n]
  true (PV.i IntKind.i64 r) [] ∧ (decide (r < (0 : Int)) = true → ∃ (x' : Int × Int), ((IntKind.i64.wrap (IntKind.i64.wrap ((IntKind.u64.wrap (IntKind.i64.wrap (x.fst + x.snd))).fdiv
  ((2 : Int) ^ Int.toNat (1 : Int))) + (1 : Int)) = x'.fst ∧ x.snd = x'.snd ∧ True) ∧ True) ∧ Φ x' ∧ μ x' < μ x) ∧ (decide (r < (0 : Int)) = false → ∃ (x' : Int × Int),
  ((x.fst = x'.fst ∧ IntKind.i64.wrap ((IntKind.u64.wrap (IntKind.i64.wrap (x.fst + x.snd))).fdiv ((2 : Int) ^ Int.toNat (1 : Int))) = x'.snd ∧ True) ∧ True) ∧ Φ x' ∧ μ x' < μ x)) ∧
  (decide (x.fst < x.snd) = false → (decide (x.fst < (↑a.length : Int)) = true → inb x.fst a.length ∧ ∃ (r_1 : Int), pure n_tree_at_1 [PV.agg
  [PV.i IntKind.i64 (a.getD x.fst.toNat default).ID, PV.b (a.getD x.fst.toNat default).Dir, PV.i IntKind.i64 (a.getD x.fst.toNat default).Size,
  PV.fl false (1 : Nat) Int eI (0 : Int) (a.getD x.fst.toNat default).Blocks, PV.fl false (2 : Nat) Link eLink default (a.getD x.fst.toNat default).List], PV.i IntKind.i64 n]
  true (PV.i IntKind.i64 r_1) [] ∧ x.fst = i ∧ decide (r_1 = (0 : Int)) = r ∧ True) ∧ (decide (x.fst < (↑a.length : Int)) = false → x.fst = i ∧ r = false ∧ True))) =
    vcP (cx [(3, lc2 9 10)] [] pure io) b_slices_BinarySearchFunc_File_int [.fl false 5 File eFile default a, .i .i64 n, .fn n_tree_at_1 []] true (.tup [.i .i64 i, .b r]) [] := by kernel_rfl

theorem vc_slices_BinarySearchFunc_Vol_int (pure : PureT) (io : IoT) (a : List Vol) (n i : Int) (r : Bool) : (
  ∃ (Φ : Int × Int → Prop), ∃ (μ : Int × Int → Nat), (∃ (x : Int × Int), (((0 : Int) = x.fst ∧ (↑a.length : Int) = x.snd ∧ True) ∧ True) ∧ Φ x) ∧ ∀ (x : Int × Int), Φ x →
  (decide (x.fst < x.snd) = true → (0 : Int) ≤ (1 : Int) ∧ Int.toNat (1 : Int) < IntKind.u64.bits ∧ inb (IntKind.i64.wrap
  ((IntKind.u64.wrap (IntKind.i64.wrap (x.fst + x.snd))).fdiv ((2 : Int) ^ Int.toNat (1 : Int)))) a.length ∧ ∃ (r : Int), pure n_vol_At_1 [PV.agg [PV.i IntKind.i64 (a.getD
  (IntKind.i64.wrap ((IntKind.u64.wrap (IntKind.i64.wrap (x.fst + x.snd))).fdiv ((2 : Int) ^ Int.toNat (1 : Int)))).toNat default).ID, PV.i IntKind.i64 (a.getD (IntKind.i64.wrap
  ((IntKind.u64.wrap (IntKind.i64.wrap (x.fst + x.snd))).fdiv ((2 : Int) ^ Int.toNat (1 : Int)))).toNat default).From, PV.b (a.getD (IntKind.i64.wrap
  ((IntKind.u64.wrap (IntKind.i64.wrap (x.fst + x.snd))).fdiv ((2 : Int) ^ Int.toNat (1 : Int)))).toNat default).Snap, PV.fl false (5 : Nat) File eFile default (a.getD
  (IntKind.i64.wrap ((IntKind.u64.wrap (IntKind.i64.wrap (x.fst + x.snd))).fdiv ((2 : Int) ^ Int.toNat (1 : Int)))).toNat default).Files, PV.i IntKind.i64 (a.getD (IntKind.i64.wrap
  ((IntKind.u64.wrap (IntKind.i64.wrap (x.fst + x.snd))).fdiv ((2 : Int) ^ Int.toNat (1 : Int)))).toNat default).Next], PV.i IntKind.i64 n] true (PV.i IntKind.i64 r) [] ∧
  (decide (r < (0 : Int)) = true → ∃ (x' : Int × Int), ((IntKind.i64.wrap (IntKind.i64.wrap ((IntKind.u64.wrap (IntKind.i64.wrap (x.fst + x.snd))).fdiv
  ((2 : Int) ^ Int.toNat (1 : Int))) + (1 : Int)) = x'.fst ∧ x.snd = x'.snd ∧ True) ∧ True) ∧ Φ x' ∧ μ x' < μ x) ∧ (decide (r < (0 : Int)) = false → ∃ (x' : Int × Int),
  ((x.fst = x'.fst ∧ IntKind.i64.wrap ((IntKind.u64.wrap (IntKind.i64.wrap (x.fst + x.snd))).fdiv ((2 : Int) ^ Int.toNat (1 : Int))) = x'.snd ∧ True) ∧ True) ∧ Φ x' ∧ μ x' < μ x)) ∧
  (decide (x.fst < x.snd) = false → (decide (x.fst < (↑a.length : Int)) = true → inb x.fst a.length ∧ ∃ (r_1 : Int), pure n_vol_At_1 [PV.agg
  [PV.i IntKind.i64 (a.getD x.fst.toNat default).ID, PV.i IntKind.i64 (a.getD x.fst.toNat default).From, PV.b (a.getD x.fst.toNat default).Snap,
  PV.fl false (5 : Nat) File eFile default (a.getD x.fst.toNat default).Files, PV.i IntKind.i64 (a.getD x.fst.toNat default).Next], PV.i IntKind.i64 n]
  true (PV.i IntKind.i64 r_1) [] ∧ x.fst = i ∧ decide (r_1 = (0 : Int)) = r ∧ True) ∧ (decide (x.fst < (↑a.length : Int)) = false → x.fst = i ∧ r = false ∧ True))) =
    vcP (cx [(3, lc2 9 10)] [] pure io) b_slices_BinarySearchFunc_Vol_int [.fl false 5 Vol eVol default a, .i .i64 n, .fn n_vol_At_1 []] true (.tup [.i .i64 i, .b r]) [] := by kernel_rfl

theorem vc_tree_at (pure : PureT) (io : IoT) (a : Vol) (n i : Int) (r : Bool) : (
  ∃ (r_1 : Int × Bool), pure n_slices_BinarySearchFunc_File_int [PV.fl false (5 : Nat) File eFile default a.Files, PV.i IntKind.i64 n, PV.fn n_tree_at_1 []] true
  (PV.tup [PV.i IntKind.i64 r_1.fst, PV.b r_1.snd]) [] ∧ r_1.fst = i ∧ r_1.snd = r ∧ True) =
    vcP (cx [] [] pure io) b_tree_at [.agg (eVol a), .i .i64 n] true (.tup [.i .i64 i, .b r]) [] := by kernel_rfl

theorem vc_vol_At (pure : PureT) (io : IoT) (a : List Vol) (n i : Int) (r : Bool) : (
  ∃ (r_1 : Int × Bool), pure n_slices_BinarySearchFunc_Vol_int [PV.fl false (5 : Nat) Vol eVol default a, PV.i IntKind.i64 n, PV.fn n_vol_At_1 []] true
  (PV.tup [PV.i IntKind.i64 r_1.fst, PV.b r_1.snd]) [] ∧ r_1.fst = i ∧ r_1.snd = r ∧ True) =
    vcP (cx [] [] pure io) b_vol_At [.fl false 5 Vol eVol default a, .i .i64 n] true (.tup [.i .i64 i, .b r]) [] := by kernel_rfl

theorem vc_name_letter (pure : PureT) (io : IoT) (a : Int) (r : Bool) : (
  (decide (a ≥ (97 : Int)) = true → (decide (a ≤ (122 : Int)) = true → r = true) ∧ (decide (a ≤ (122 : Int)) = false → (decide (a ≥ (48 : Int)) = true →
  (decide (a ≤ (57 : Int)) = true → r = true) ∧ (decide (a ≤ (57 : Int)) = false → (decide (a = (46 : Int)) = true → r = true) ∧ (decide (a = (46 : Int)) = false →
  (decide (a = (95 : Int)) = true → r = true) ∧ (decide (a = (95 : Int)) = false → decide (a = (45 : Int)) = r)))) ∧ (decide (a ≥ (48 : Int)) = false →
  (decide (a = (46 : Int)) = true → r = true) ∧ (decide (a = (46 : Int)) = false → (decide (a = (95 : Int)) = true → r = true) ∧
  (decide (a = (95 : Int)) = false → decide (a = (45 : Int)) = r))))) ∧ (decide (a ≥ (97 : Int)) = false → (decide (a ≥ (48 : Int)) = true →
  (decide (a ≤ (57 : Int)) = true → r = true) ∧ (decide (a ≤ (57 : Int)) = false → (decide (a = (46 : Int)) = true → r = true) ∧ (decide (a = (46 : Int)) = false →
  (decide (a = (95 : Int)) = true → r = true) ∧ (decide (a = (95 : Int)) = false → decide (a = (45 : Int)) = r)))) ∧ (decide (a ≥ (48 : Int)) = false →
  (decide (a = (46 : Int)) = true → r = true) ∧ (decide (a = (46 : Int)) = false → (decide (a = (95 : Int)) = true → r = true) ∧
  (decide (a = (95 : Int)) = false → decide (a = (45 : Int)) = r))))) =
    vcP (cx [] [] pure io) b_name_letter [.i .u8 a] true (.b r) [] := by kernel_rfl

theorem vc_name_Is (pure : PureT) (io : IoT) (a : Str) (r : Bool) : (
  (decide (a = (ByteArray.mk #[]).data.toList) = true → r = false) ∧ (decide (a = (ByteArray.mk #[]).data.toList) = false →
  (decide ((↑(List.length a) : Int) > (8 : Int)) = true → r = false) ∧ (decide ((↑(List.length a) : Int) > (8 : Int)) = false →
  (decide (a = (ByteArray.mk #[(46 : UInt8)]).data.toList) = true → r = false) ∧ (decide (a = (ByteArray.mk #[(46 : UInt8)]).data.toList) = false →
  (decide (a = (ByteArray.mk #[(46 : UInt8), (46 : UInt8)]).data.toList) = true → r = false) ∧ (decide (a = (ByteArray.mk #[(46 : UInt8), (46 : UInt8)]).data.toList) = false →
  ∃ (Φ : Int → Prop), ∃ (μ : Int → Nat), (∃ (x : Int), (((0 : Int) = x ∧ True) ∧ True) ∧ Φ x) ∧ ∀ (x : Int), Φ x → (decide (x < (↑(List.length a) : Int)) = true →
  inb x (List.length a) ∧ ∃ (r_1 : Bool), pure n_name_letter [PV.i IntKind.u8 (↑(List.getD a x.toNat (0 : UInt8)).toNat : Int)] true (PV.b r_1) [] ∧ ((!r_1) = true → r = false) ∧
  ((!r_1) = false → ∃ (x' : Int), ((IntKind.i64.wrap (x + (1 : Int)) = x' ∧ True) ∧ True) ∧ Φ x' ∧ μ x' < μ x)) ∧ (decide (x < (↑(List.length a) : Int)) = false → r = true)))))) =
    vcP (cx [(4, lc 21)] [] pure io) b_name_Is [.s a] true (.b r) [] := by kernel_rfl

theorem vc_tree_count (pure : PureT) (io : IoT) (a : Vol) (n r : Int) : (
  ∃ (Φ : Int × Int → Prop), ∃ (μ : Int × Int → Nat), (∃ (x : Int × Int), (((0 : Int) = x.fst ∧ (0 : Int) = x.snd ∧ True) ∧ True) ∧ Φ x) ∧ ∀ (x : Int × Int), Φ x →
  (decide (x.snd < (↑a.Files.length : Int)) = true → inb x.snd a.Files.length ∧ ∃ (Φ_1 : Int × Int → Prop), ∃ (μ_1 : Int × Int → Nat),
  (∃ (x_1 : Int × Int), ((x.fst = x_1.fst ∧ (0 : Int) = x_1.snd ∧ True) ∧ True) ∧ Φ_1 x_1) ∧ ∀ (x_1 : Int × Int), Φ_1 x_1 →
  (decide (x_1.snd < (↑(a.Files.getD x.snd.toNat default).List.length : Int)) = true → inb x_1.snd (a.Files.getD x.snd.toNat default).List.length ∧
  (decide (((a.Files.getD x.snd.toNat default).List.getD x_1.snd.toNat default).ID = n) = true → ∃ (x' : Int × Int), ((IntKind.i64.wrap (x_1.fst + (1 : Int)) = x'.fst ∧
  IntKind.i64.wrap (x_1.snd + (1 : Int)) = x'.snd ∧ True) ∧ True) ∧ Φ_1 x' ∧ μ_1 x' < μ_1 x_1) ∧ (decide
  (((a.Files.getD x.snd.toNat default).List.getD x_1.snd.toNat default).ID = n) = false → ∃ (x' : Int × Int),
  ((x_1.fst = x'.fst ∧ IntKind.i64.wrap (x_1.snd + (1 : Int)) = x'.snd ∧ True) ∧ True) ∧ Φ_1 x' ∧ μ_1 x' < μ_1 x_1)) ∧
  (decide (x_1.snd < (↑(a.Files.getD x.snd.toNat default).List.length : Int)) = false → ∃ (x' : Int × Int),
  ((x_1.fst = x'.fst ∧ IntKind.i64.wrap (x.snd + (1 : Int)) = x'.snd ∧ True) ∧ True) ∧ Φ x' ∧ μ x' < μ x)) ∧ (decide (x.snd < (↑a.Files.length : Int)) = false → x.fst = r)) =
    vcP (cx [(3, lc2 5 13), (6, lc2 5 20)] [] pure io) b_tree_count [.agg (eVol a), .i .i64 n] true (.i .i64 r) [] := by kernel_rfl

theorem vc_tree_links (pure : PureT) (io : IoT) (a : Vol) (f : File) (r : Bool) : (
  (decide ((↑f.List.length : Int) > (8 : Int)) = true → r = false) ∧ (decide ((↑f.List.length : Int) > (8 : Int)) = false → ∃ (Φ : Int → Prop), ∃ (μ : Int → Nat),
  (∃ (x : Int), (((0 : Int) = x ∧ True) ∧ True) ∧ Φ x) ∧ ∀ (x : Int), Φ x → (decide (x < (↑f.List.length : Int)) = true → inb x f.List.length ∧ ∃ (r_1 : Int × Bool), pure n_tree_at
  [PV.agg [PV.i IntKind.i64 a.ID, PV.i IntKind.i64 a.From, PV.b a.Snap, PV.fl false (5 : Nat) File eFile default a.Files, PV.i IntKind.i64 a.Next],
  PV.i IntKind.i64 (f.List.getD x.toNat default).ID] true (PV.tup [PV.i IntKind.i64 r_1.fst, PV.b r_1.snd]) [] ∧ ((!r_1.snd) = true → r = false) ∧ ((!r_1.snd) = false →
  ∃ (r_2 : Bool), pure n_name_Is [PV.s (f.List.getD x.toNat default).Name] true (PV.b r_2) [] ∧ ((!r_2) = true → r = false) ∧ ((!r_2) = false → (decide (x > (0 : Int)) = true →
  inb (IntKind.i64.wrap (x - (1 : Int))) f.List.length ∧ ((Op.bytesLess (f.List.getD x.toNat default).Name (f.List.getD (IntKind.i64.wrap (x - (1 : Int))).toNat default).Name ||
  decide ((f.List.getD x.toNat default).Name = (f.List.getD (IntKind.i64.wrap (x - (1 : Int))).toNat default).Name)) = true → r = false) ∧
  ((Op.bytesLess (f.List.getD x.toNat default).Name (f.List.getD (IntKind.i64.wrap (x - (1 : Int))).toNat default).Name || decide ((f.List.getD x.toNat default).Name =
  (f.List.getD (IntKind.i64.wrap (x - (1 : Int))).toNat default).Name)) = false → ∃ (x' : Int), ((IntKind.i64.wrap (x + (1 : Int)) = x' ∧ True) ∧ True) ∧ Φ x' ∧ μ x' < μ x)) ∧
  (decide (x > (0 : Int)) = false → ∃ (x' : Int), ((IntKind.i64.wrap (x + (1 : Int)) = x' ∧ True) ∧ True) ∧ Φ x' ∧ μ x' < μ x)))) ∧
  (decide (x < (↑f.List.length : Int)) = false → r = true))) =
    vcP (cx [(4, lc 16)] [] pure io) b_tree_links [.agg (eVol a), .agg (eFile f)] true (.b r) [] := by kernel_rfl

theorem vc_tree_files (pure : PureT) (io : IoT) (a : Vol) (r : Bool) : (
  ∃ (Φ : Int → Prop), ∃ (μ : Int → Nat), (∃ (x : Int), (((0 : Int) = x ∧ True) ∧ True) ∧ Φ x) ∧ ∀ (x : Int), Φ x → (decide (x < (↑a.Files.length : Int)) = true →
  inb x a.Files.length ∧ (decide ((a.Files.getD x.toNat default).ID < (1 : Int)) = true → r = false) ∧ (decide ((a.Files.getD x.toNat default).ID < (1 : Int)) = false →
  (decide ((a.Files.getD x.toNat default).ID ≥ a.Next) = true → r = false) ∧ (decide ((a.Files.getD x.toNat default).ID ≥ a.Next) = false → (decide (x > (0 : Int)) = true →
  inb (IntKind.i64.wrap (x - (1 : Int))) a.Files.length ∧ (decide ((a.Files.getD x.toNat default).ID ≤ (a.Files.getD (IntKind.i64.wrap (x - (1 : Int))).toNat default).ID) = true →
  r = false) ∧ (decide ((a.Files.getD x.toNat default).ID ≤ (a.Files.getD (IntKind.i64.wrap (x - (1 : Int))).toNat default).ID) = false → ((a.Files.getD x.toNat default).Dir = true →
  ((!decide ((a.Files.getD x.toNat default).Size = (0 : Int))) = true → r = false) ∧ ((!decide ((a.Files.getD x.toNat default).Size = (0 : Int))) = false →
  (decide ((↑(a.Files.getD x.toNat default).Blocks.length : Int) > (0 : Int)) = true → r = false) ∧ (decide ((↑(a.Files.getD x.toNat default).Blocks.length : Int) > (0 : Int)) =
  false → ((!(a.Files.getD x.toNat default).Dir) = true → (decide ((↑(a.Files.getD x.toNat default).List.length : Int) > (0 : Int)) = true → r = false) ∧ (decide
  ((↑(a.Files.getD x.toNat default).List.length : Int) > (0 : Int)) = false → ∃ (r_1 : Bool), pure n_tree_blocks [PV.agg [PV.i IntKind.i64 (a.Files.getD x.toNat default).ID,
  PV.b (a.Files.getD x.toNat default).Dir, PV.i IntKind.i64 (a.Files.getD x.toNat default).Size, PV.fl false (1 : Nat) Int eI (0 : Int) (a.Files.getD x.toNat default).Blocks,
  PV.fl false (2 : Nat) Link eLink default (a.Files.getD x.toNat default).List]] true (PV.b r_1) [] ∧ ((!r_1) = true → r = false) ∧ ((!r_1) = false → ∃ (x' : Int),
  ((IntKind.i64.wrap (x + (1 : Int)) = x' ∧ True) ∧ True) ∧ Φ x' ∧ μ x' < μ x))) ∧ ((!(a.Files.getD x.toNat default).Dir) = false → ∃ (x' : Int),
  ((IntKind.i64.wrap (x + (1 : Int)) = x' ∧ True) ∧ True) ∧ Φ x' ∧ μ x' < μ x)))) ∧ ((a.Files.getD x.toNat default).Dir = false → ((!(a.Files.getD x.toNat default).Dir) = true →
  (decide ((↑(a.Files.getD x.toNat default).List.length : Int) > (0 : Int)) = true → r = false) ∧ (decide ((↑(a.Files.getD x.toNat default).List.length : Int) > (0 : Int)) = false →
  ∃ (r_1 : Bool), pure n_tree_blocks [PV.agg [PV.i IntKind.i64 (a.Files.getD x.toNat default).ID, PV.b (a.Files.getD x.toNat default).Dir,
  PV.i IntKind.i64 (a.Files.getD x.toNat default).Size, PV.fl false (1 : Nat) Int eI (0 : Int) (a.Files.getD x.toNat default).Blocks, PV.fl false (2 : Nat) Link eLink default
  (a.Files.getD x.toNat default).List]] true (PV.b r_1) [] ∧ ((!r_1) = true → r = false) ∧ ((!r_1) = false → ∃ (x' : Int), ((IntKind.i64.wrap (x + (1 : Int)) = x' ∧ True) ∧ True) ∧
  Φ x' ∧ μ x' < μ x))) ∧ ((!(a.Files.getD x.toNat default).Dir) = false → ∃ (x' : Int), ((IntKind.i64.wrap (x + (1 : Int)) = x' ∧ True) ∧ True) ∧ Φ x' ∧ μ x' < μ x)))) ∧
  (decide (x > (0 : Int)) = false → ((a.Files.getD x.toNat default).Dir = true → ((!decide ((a.Files.getD x.toNat default).Size = (0 : Int))) = true → r = false) ∧
  ((!decide ((a.Files.getD x.toNat default).Size = (0 : Int))) = false → (decide ((↑(a.Files.getD x.toNat default).Blocks.length : Int) > (0 : Int)) = true → r = false) ∧
  (decide ((↑(a.Files.getD x.toNat default).Blocks.length : Int) > (0 : Int)) = false → ((!(a.Files.getD x.toNat default).Dir) = true →
  (decide ((↑(a.Files.getD x.toNat default).List.length : Int) > (0 : Int)) = true → r = false) ∧ (decide ((↑(a.Files.getD x.toNat default).List.length : Int) > (0 : Int)) = false →
  ∃ (r_1 : Bool), pure n_tree_blocks [PV.agg [PV.i IntKind.i64 (a.Files.getD x.toNat default).ID, PV.b (a.Files.getD x.toNat default).Dir,
  PV.i IntKind.i64 (a.Files.getD x.toNat default).Size, PV.fl false (1 : Nat) Int eI (0 : Int) (a.Files.getD x.toNat default).Blocks, PV.fl false (2 : Nat) Link eLink default
  (a.Files.getD x.toNat default).List]] true (PV.b r_1) [] ∧ ((!r_1) = true → r = false) ∧ ((!r_1) = false → ∃ (x' : Int), ((IntKind.i64.wrap (x + (1 : Int)) = x' ∧ True) ∧ True) ∧
  Φ x' ∧ μ x' < μ x))) ∧ ((!(a.Files.getD x.toNat default).Dir) = false → ∃ (x' : Int), ((IntKind.i64.wrap (x + (1 : Int)) = x' ∧ True) ∧ True) ∧ Φ x' ∧ μ x' < μ x)))) ∧
  ((a.Files.getD x.toNat default).Dir = false → ((!(a.Files.getD x.toNat default).Dir) = true → (decide ((↑(a.Files.getD x.toNat default).List.length : Int) > (0 : Int)) = true →
  r = false) ∧ (decide ((↑(a.Files.getD x.toNat default).List.length : Int) > (0 : Int)) = false → ∃ (r_1 : Bool), pure n_tree_blocks [PV.agg
  [PV.i IntKind.i64 (a.Files.getD x.toNat default).ID, PV.b (a.Files.getD x.toNat default).Dir, PV.i IntKind.i64 (a.Files.getD x.toNat default).Size,
  PV.fl false (1 : Nat) Int eI (0 : Int) (a.Files.getD x.toNat default).Blocks, PV.fl false (2 : Nat) Link eLink default (a.Files.getD x.toNat default).List]] true (PV.b r_1) [] ∧
  ((!r_1) = true → r = false) ∧ ((!r_1) = false → ∃ (x' : Int), ((IntKind.i64.wrap (x + (1 : Int)) = x' ∧ True) ∧ True) ∧ Φ x' ∧ μ x' < μ x))) ∧
  ((!(a.Files.getD x.toNat default).Dir) = false → ∃ (x' : Int), ((IntKind.i64.wrap (x + (1 : Int)) = x' ∧ True) ∧ True) ∧ Φ x' ∧ μ x' < μ x)))))) ∧
  (decide (x < (↑a.Files.length : Int)) = false → ∃ (Φ : Int → Prop), ∃ (μ : Int → Nat), (∃ (x : Int), (((0 : Int) = x ∧ True) ∧ True) ∧ Φ x) ∧ ∀ (x : Int), Φ x →
  (decide (x < (↑a.Files.length : Int)) = true → inb x a.Files.length ∧ ((a.Files.getD x.toNat default).Dir = true → ∃ (r_1 : Bool), pure n_tree_links [PV.agg
  [PV.i IntKind.i64 a.ID, PV.i IntKind.i64 a.From, PV.b a.Snap, PV.fl false (5 : Nat) File eFile default a.Files, PV.i IntKind.i64 a.Next], PV.agg
  [PV.i IntKind.i64 (a.Files.getD x.toNat default).ID, PV.b (a.Files.getD x.toNat default).Dir, PV.i IntKind.i64 (a.Files.getD x.toNat default).Size,
  PV.fl false (1 : Nat) Int eI (0 : Int) (a.Files.getD x.toNat default).Blocks, PV.fl false (2 : Nat) Link eLink default (a.Files.getD x.toNat default).List]] true (PV.b r_1) [] ∧
  ((!r_1) = true → r = false) ∧ ((!r_1) = false → ∃ (x' : Int), ((IntKind.i64.wrap (x + (1 : Int)) = x' ∧ True) ∧ True) ∧ Φ x' ∧ μ x' < μ x)) ∧
  ((a.Files.getD x.toNat default).Dir = false → ∃ (x' : Int), ((IntKind.i64.wrap (x + (1 : Int)) = x' ∧ True) ∧ True) ∧ Φ x' ∧ μ x' < μ x)) ∧
  (decide (x < (↑a.Files.length : Int)) = false → r = true))) =
    vcP (cx [(2, lc 10), (12, lc 75)] [] pure io) b_tree_files [.agg (eVol a)] true (.b r) [] := by kernel_rfl

end Go.Proofs.Ytbiojnaemniljaa

/- Contracts: the program's small tests. -/
namespace Go.Proofs.Ytbiojnaemniljaa
open Go Pv
theorem number_ok (a : Int) : Pure prog n_tree_number [.i .i64 a] true (.b (decide (0 ≤ a ∧ a ≤ 1073741824))) [] := by
  refine mk (l := []) (k := []) trivial trivial (fn := b_tree_number) (by kernel_rfl) (by kernel_rfl) (by kernel_rfl) rfl outsOK_nil ?_
  rw [← vc_tree_number]
  refine ⟨fun h => ?_, fun h => ?_⟩
  · have h := of_decide_eq_true h
    rw [Bool.eq_iff_iff]; simp; omega
  · have h := of_decide_eq_false h
    simp; omega
/-- no number of a block -/
def badNum (a : Int) : Bool := decide (a < 0 ∨ a ≥ 1073741824)
theorem bad_ok (a : Int) : Pure prog n_tree_blocks_1 [.i .i64 a] true (.b (badNum a)) [] := by
  refine mk (l := []) (k := []) trivial trivial (fn := b_tree_blocks_1) (by kernel_rfl) (by kernel_rfl) (by kernel_rfl) rfl outsOK_nil ?_
  rw [← vc_tree_blocks_1]
  unfold badNum
  refine ⟨fun h => ?_, fun h => ?_⟩
  · have h := of_decide_eq_true h
    simp; omega
  · have h := of_decide_eq_false h
    rw [Bool.eq_iff_iff]; simp; omega
theorem Many80_ok (a : Int) : Pure prog n_body_Many [.i .i64 a] true (.i .i64 (many a)) [] := by
  refine mk (l := []) (k := []) trivial trivial (fn := b_body_Many) (by kernel_rfl) (by kernel_rfl) (by kernel_rfl) rfl outsOK_nil ?_
  rw [← vc_body_Many]
  exact ⟨by decide, rfl⟩
theorem cmpFile_ok (a : File) (n : Int) : Pure prog n_tree_at_1 [.agg (eFile a), .i .i64 n] true (.i .i64 (IntKind.i64.wrap (a.ID - n))) [] := by
  refine mk (l := []) (k := []) trivial trivial (fn := b_tree_at_1) (by kernel_rfl) (by kernel_rfl) (by kernel_rfl) rfl outsOK_nil ?_
  rw [← vc_tree_at_1]
theorem cmpVol_ok (a : Vol) (n : Int) : Pure prog n_vol_At_1 [.agg (eVol a), .i .i64 n] true (.i .i64 (IntKind.i64.wrap (a.ID - n))) [] := by
  refine mk (l := []) (k := []) trivial trivial (fn := b_vol_At_1) (by kernel_rfl) (by kernel_rfl) (by kernel_rfl) rfl outsOK_nil ?_
  rw [← vc_vol_At_1]
theorem IndexBad_ok (a : List Int) (ha : a.length ≤ 140737488355328) : Pure prog n_slices_IndexFunc_int [.fl false 1 Int eI 0 a, .fn n_tree_blocks_1 []] true (.i .i64 (place badNum a)) [] := by
  refine mk (l := [(2, lc 8)]) (k := []) ⟨lc_ok _, trivial⟩ trivial (fn := b_slices_IndexFunc_int) (by kernel_rfl) (by kernel_rfl) (by kernel_rfl) rfl outsOK_nil ?_
  rw [← vc_slices_IndexFunc_int]
  exact place_rounds (0 : Int) badNum ha (R := fun x K => inb x a.length ∧ ∃ r_1 : Bool, Pure prog n_tree_blocks_1 [.i .i64 (a.getD x.toNat 0)] true (.b r_1) [] ∧ (r_1 = true → x = place badNum a) ∧
      (r_1 = false → ∃ x' : Int, ((IntKind.i64.wrap (x + 1) = x' ∧ True) ∧ True) ∧ K x'))
    (fun x K h0 hlt g1 g2 => ⟨⟨h0, hlt⟩, _, bad_ok _, g1, fun hh => ⟨x + 1, ⟨⟨wrap64 (by omega) (by omega), trivial⟩, trivial⟩, g2 hh⟩⟩)
theorem HasBad_ok (a : List Int) (ha : a.length ≤ 140737488355328) : Pure prog n_slices_ContainsFunc_int [.fl false 1 Int eI 0 a, .fn n_tree_blocks_1 []] true (.b (decide (place badNum a ≥ 0))) [] := by
  refine mk (l := []) (k := []) trivial trivial (fn := b_slices_ContainsFunc_int) (by kernel_rfl) (by kernel_rfl) (by kernel_rfl) rfl outsOK_nil ?_
  rw [← vc_slices_ContainsFunc_int]
  exact ⟨_, IndexBad_ok a ha, rfl⟩
/-- may a file's size and blocks be? -/
def blocksMay (f : File) : Bool := decide (f.Size ≥ 0) && (decide (f.Size ≤ 200) && (decide ((f.Blocks.length : Int) = many f.Size) && !decide (place badNum f.Blocks ≥ 0)))
theorem blocks_ok (a : File) (ha : a.Blocks.length ≤ 140737488355328) : Pure prog n_tree_blocks [.agg (eFile a)] true (.b (blocksMay a)) [] := by
  refine mk (l := []) (k := []) trivial trivial (fn := b_tree_blocks) (by kernel_rfl) (by kernel_rfl) (by kernel_rfl) rfl outsOK_nil ?_
  rw [← vc_tree_blocks]
  unfold blocksMay
  refine ⟨fun h1 => ⟨fun h2 => ⟨_, Many80_ok _, fun h3 => ⟨_, HasBad_ok _ ha, ?_⟩, fun h3 => ?_⟩, fun h2 => ?_⟩, fun h1 => ?_⟩
  · rw [h1, h2, h3]; simp
  · rw [h3]; simp
  · rw [h2]; simp
  · rw [h1]; simp
end Go.Proofs.Ytbiojnaemniljaa

/- Halving: where a number stands, or would stand. -/
namespace Go.Proofs.Ytbiojnaemniljaa
open Go Pv
/-- the place that halving comes to -/
def halve {α : Type} (c : α → Int) (d : α) (a : List α) (i j : Nat) : Nat :=
  if i < j then if c (a.getD ((i + j) / 2) d) < 0 then halve c d a ((i + j) / 2 + 1) j else halve c d a i ((i + j) / 2) else i
termination_by j - i
theorem half_eq {i j : Int} (h0 : 0 ≤ i) (h1 : i < j) (h2 : j ≤ 140737488355328) : IntKind.i64.wrap ((IntKind.u64.wrap (IntKind.i64.wrap (i + j))).fdiv ((2 : Int) ^ Int.toNat (1 : Int))) = (i + j) / 2 := by
  have e1 : IntKind.i64.wrap (i + j) = i + j := wrap64 (by omega) (by omega)
  have e2 : IntKind.u64.wrap (i + j) = i + j := by
    simp [IntKind.wrap, IntKind.signed, IntKind.bits]; omega
  have e3 : (2 : Int) ^ Int.toNat (1 : Int) = 2 := by decide
  rw [e1, e2, e3, Int.fdiv_eq_ediv_of_nonneg _ (by decide)]
  exact wrap64 (by omega) (by omega)
theorem halve_rounds {α : Type} {a : List α} (d : α) (c : α → Int) (hm : a.length ≤ 140737488355328) {R : Int × Int → (Int × Int → Prop) → Prop} {F : Int × Int → Prop}
    (hR : ∀ (x : Int × Int) (K : Int × Int → Prop), 0 ≤ x.1 → x.1 < x.2 → x.2 ≤ a.length → (c (a.getD ((x.1 + x.2) / 2).toNat d) < 0 → K ((x.1 + x.2) / 2 + 1, x.2)) → (¬ c (a.getD ((x.1 + x.2) / 2).toNat d) < 0 → K (x.1, (x.1 + x.2) / 2)) → R x K)
    (hF : ∀ x : Int × Int, x.1 = halve c d a 0 a.length → 0 ≤ x.1 → x.1 ≤ a.length → F x) :
    ∃ (Φ : Int × Int → Prop) (μ : Int × Int → Nat), (∃ x : Int × Int, ((0 = x.1 ∧ (a.length : Int) = x.2 ∧ True) ∧ True) ∧ Φ x) ∧ ∀ x : Int × Int, Φ x →
      (decide (x.1 < x.2) = true → R x fun x' => Φ x' ∧ μ x' < μ x) ∧ (decide (x.1 < x.2) = false → F x) := by
  refine ⟨fun x => 0 ≤ x.1 ∧ x.1 ≤ x.2 ∧ x.2 ≤ a.length ∧ halve c d a x.1.toNat x.2.toNat = halve c d a 0 a.length, fun x => (x.2 - x.1).toNat, ⟨(0, a.length), ⟨⟨rfl, rfl, trivial⟩, trivial⟩, by simp, by simp, by simp, by simp⟩, ?_⟩
  rintro ⟨i, j⟩ ⟨h0, h1, h2, h3⟩
  simp only at h0 h1 h2 h3
  refine ⟨fun hd => ?_, fun hd => ?_⟩
  · have hlt : i < j := of_decide_eq_true hd
    have hh : ((i + j) / 2).toNat = (i.toNat + j.toNat) / 2 := by omega
    rw [halve, if_pos (by omega)] at h3
    refine hR (i, j) _ h0 hlt h2 (fun hc => ?_) (fun hc => ?_)
    · simp only at hc ⊢
      rw [hh] at hc
      rw [if_pos hc] at h3
      refine ⟨⟨by omega, by omega, h2, ?_⟩, by omega⟩
      rw [← h3]; congr 1; omega
    · simp only at hc ⊢
      rw [hh] at hc
      rw [if_neg hc] at h3
      refine ⟨⟨h0, by omega, by omega, ?_⟩, by omega⟩
      rw [← h3]; congr 1
  · have hge := of_decide_eq_false hd
    simp only at hge
    rw [halve, if_neg (by omega)] at h3
    exact hF (i, j) (by simp only; omega) h0 (by simp only; omega)
end Go.Proofs.Ytbiojnaemniljaa
