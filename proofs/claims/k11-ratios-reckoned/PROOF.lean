import PyProof.Rows.All
import Wide.All
import OpenK.AllK
import Wide.FinOn
import HandS.Base
import HandS.Call
import HandS.List
import HandS.Comp
import HandS.Ends
import HandS.Words
import HandS.Wide
import HandS.IsInst
import HandS.Style
import HandS.FStr
import HandS.RaiseMore
import HandS.TupAny
import HandS.Iter
import HandS.Codes
import KE.KOpsOwn
import KE.KCallOwn
import PyProof.InstNe
import PyProof.TwoTypes
import HandS.Property
import HandS.ClsMeth
import HandS.MakeKwOnly
import HandS.Defaults
import HandS.MakeKw
import KE.KStateDown
import HandS.Head2
import HandS.HeadHook2
import PySem.Challenge.RW_onecrest_k11_ratios_reckoned
set_option Elab.async false
set_option maxRecDepth 100000
set_option maxHeartbeats 4000000
/-! DV1: deep values D, how they stand in a heap (Rep), states (St1), freezing. -/
namespace DV
open PySem L2

inductive D where
  | und | non | bl (b : Bool) | int (i : Int) | str (x : Str) | ty (n : String) | cls (c : Nat)
  | tup (xs : List D) | lst (xs : List D) | con (xs : List D) | own (xs : List D)
  | ins (c : Nat) (ds : List D)
  | obj (c : Nat) (ds : List D)

mutual
/-- own lists become plain ones -/
def fz : D → D
  | .own xs => .lst (fzs xs)
  | .obj c xs => .ins c (fzs xs)
  | .und => .und
  | .non => .non
  | .bl b => .bl b
  | .int i => .int i
  | .str x => .str x
  | .ty n => .ty n
  | .cls c => .cls c
  | .tup xs => .tup xs
  | .lst xs => .lst xs
  | .con xs => .con xs
  | .ins c xs => .ins c xs
def fzs : List D → List D
  | [] => []
  | d :: r => fz d :: fzs r
end
theorem fzs_map : ∀ xs : List D, fzs xs = xs.map fz
  | [] => rfl
  | d :: r => by rw [fzs, fzs_map r, List.map_cons]

/-- what the representation leans on: the written part, the classes of the text by name -/
structure G where
  K : PySem.W.Frag
  cls : Nat → Option Addr
  flds : Nat → List Str

/-- a tuple: tracked, or of the written part -/
def TpAt (K : PySem.W.Frag) (H : Hp) (a : Addr) (xs : List V) : Prop :=
  H a = some (.tup xs) ∨ ∃ (o : Obj) (its : Array Value) (n : Nat), K.lookup a = some o ∧ o.cls = .type "tuple" ∧ o.data = .seq its n ∧ its.size ≤ sizeLine ∧ Vals xs its.toList
theorem TpAt.sq {K : PySem.W.Frag} {H : Hp} {a : Addr} {xs : List V} (h : TpAt K H a xs) : SqT K H a xs := h.elim (fun h => SqT.of h) .inr
theorem TpAt.same {K : PySem.W.Frag} {H H' : Hp} {a : Addr} {xs : List V} (e : Same H H') (h : TpAt K H a xs) : TpAt K H' a xs := h.elim (fun h => .inl (e _ _ h)) .inr

mutual
inductive Rep (g : G) (I H : Hp) : D → V → List Addr → Prop
  | non : Rep g I H .non .non []
  | bl {b} : Rep g I H (.bl b) (.bl b) []
  | int {i} : Rep g I H (.int i) (.int i) []
  | str {x} : Rep g I H (.str x) (.str x) []
  | ty {n} : Rep g I H (.ty n) (.ty n) []
  | cls {c C} : g.cls c = some C → Rep g I H (.cls c) (.ref C) []
  | tup {a ds vs} : TpAt g.K I a vs → Reps g I H ds vs [] → Rep g I H (.tup ds) (.ref a) []
  | lst {a ds vs} : I a = some (.lst vs) → Reps g I H ds vs [] → Rep g I H (.lst ds) (.ref a) []
  | con {a ds vs} : SqL g.K I a vs → Reps g I H ds vs [] → Rep g I H (.con ds) (.ref a) []
  | own {a ds vs f} : H a = some (.lst vs) → Reps g I H ds vs f → Rep g I H (.own ds) (.ref a) (a :: f)
  | ins {c C a dx ds vs} : g.cls c = some C → I a = some (.ins C dx ((g.flds c).zip vs)) → Reps g I H ds vs [] → Rep g I H (.ins c ds) (.ref a) []
  | obj {c C a dx ds vs f} : g.cls c = some C → H a = some (.ins C dx ((g.flds c).zip vs)) → H dx = some (.own a) → ds.length ≤ (g.flds c).length → Reps g I H ds vs f → Rep g I H (.obj c ds) (.ref a) (a :: dx :: f)
inductive Reps (g : G) (I H : Hp) : List D → List V → List Addr → Prop
  | nil : Reps g I H [] [] []
  | cons {d v ds vs f1 f2} : Rep g I H d v f1 → Reps g I H ds vs f2 → Reps g I H (d :: ds) (v :: vs) (f1 ++ f2)
end

inductive Slots (g : G) (I H : Hp) : List D → St → List Addr → Prop
  | nil : Slots g I H [] [] []
  | und {ov ρ σ F} : Slots g I H ρ σ F → Slots g I H (.und :: ρ) (ov :: σ) F
  | cons {d v ρ σ f F} : Rep g I H d v f → Slots g I H ρ σ F → Slots g I H (d :: ρ) (some v :: σ) (f ++ F)

theorem same_seqT {K : PySem.W.Frag} {H H' : Hp} {a : Addr} {xs : List V} (e : Same H H') (h : SqT K H a xs) : SqT K H' a xs := by
  rcases h with (h | ⟨o, h⟩) | h
  · exact .inl (.inl (e _ _ h))
  · exact .inl (.inr ⟨o, e _ _ h⟩)
  · exact .inr h

section
variable {g : G} {I I' H H' : Hp}

mutual
theorem Rep.mono (si : Same I I') : ∀ {d : D} {v : V} {f : List Addr}, Rep g I H d v f → (∀ b ∈ f, H' b = H b) → Rep g I' H' d v f
  | _, _, _, .non, _ => .non
  | _, _, _, .bl, _ => .bl
  | _, _, _, .int, _ => .int
  | _, _, _, .str, _ => .str
  | _, _, _, .ty, _ => .ty
  | _, _, _, .cls c, _ => .cls c
  | _, _, _, .tup h r, k => .tup (TpAt.same si h) (Reps.mono si r (fun b hb => by cases hb))
  | _, _, _, .lst h r, k => .lst (si _ _ h) (Reps.mono si r (fun b hb => by cases hb))
  | _, _, _, .con h r, k => .con (Same.seq si h) (Reps.mono si r (fun b hb => by cases hb))
  | _, _, _, .own h r, k => .own ((k _ (List.mem_cons_self ..)).trans h) (Reps.mono si r fun b hb => k b (List.mem_cons_of_mem _ hb))
  | _, _, _, .ins c h r, k => .ins c (si _ _ h) (Reps.mono si r (fun b hb => by cases hb))
  | _, _, _, .obj c h h2 l r, k => .obj c ((k _ (by simp)).trans h) ((k _ (by simp)).trans h2) l (Reps.mono si r fun b hb => k b (by simp [hb]))
theorem Reps.mono (si : Same I I') : ∀ {ds : List D} {vs : List V} {f : List Addr}, Reps g I H ds vs f → (∀ b ∈ f, H' b = H b) → Reps g I' H' ds vs f
  | _, _, _, .nil, _ => .nil
  | _, _, _, .cons h r, k => .cons (Rep.mono si h fun b hb => k b (List.mem_append_left _ hb)) (Reps.mono si r fun b hb => k b (List.mem_append_right _ hb))
end

theorem Slots.mono (si : Same I I') : ∀ {ρ : List D} {σ : St} {f : List Addr}, Slots g I H ρ σ f → (∀ b ∈ f, H' b = H b) → Slots g I' H' ρ σ f
  | _, _, _, .nil, _ => .nil
  | _, _, _, .und r, k => .und (Slots.mono si r k)
  | _, _, _, .cons h r, k => .cons (h.mono si fun b hb => k b (List.mem_append_left _ hb)) (Slots.mono si r fun b hb => k b (List.mem_append_right _ hb))

mutual
/-- the addresses of own parts stand in the heap -/
theorem Rep.there : ∀ {d : D} {v : V} {f : List Addr}, Rep g I H d v f → ∀ b ∈ f, ∃ o, H b = some o
  | _, _, _, .own h r, b, hb => by
    rcases List.mem_cons.mp hb with rfl | hb
    · exact ⟨_, h⟩
    · exact Reps.there r b hb
  | _, _, _, .non, b, hb => by cases hb
  | _, _, _, .bl, b, hb => by cases hb
  | _, _, _, .int, b, hb => by cases hb
  | _, _, _, .str, b, hb => by cases hb
  | _, _, _, .ty, b, hb => by cases hb
  | _, _, _, .cls _, b, hb => by cases hb
  | _, _, _, .tup _ _, b, hb => by cases hb
  | _, _, _, .lst _ _, b, hb => by cases hb
  | _, _, _, .con _ _, b, hb => by cases hb
  | _, _, _, .ins _ _ _, b, hb => by cases hb
  | _, _, _, .obj _ h h2 _ r, b, hb => by
    rcases List.mem_cons.mp hb with rfl | hb
    · exact ⟨_, h⟩
    · rcases List.mem_cons.mp hb with rfl | hb
      · exact ⟨_, h2⟩
      · exact Reps.there r b hb
theorem Reps.there : ∀ {ds : List D} {vs : List V} {f : List Addr}, Reps g I H ds vs f → ∀ b ∈ f, ∃ o, H b = some o
  | _, _, _, .nil, b, hb => by cases hb
  | _, _, _, .cons h r, b, hb => (List.mem_append.mp hb).elim (Rep.there h b) (Reps.there r b)
end
theorem Slots.there : ∀ {ρ : List D} {σ : St} {f : List Addr}, Slots g I H ρ σ f → ∀ b ∈ f, ∃ o, H b = some o
  | _, _, _, .nil, b, hb => by cases hb
  | _, _, _, .und r, b, hb => Slots.there r b hb
  | _, _, _, .cons h r, b, hb => (List.mem_append.mp hb).elim (h.there b) (Slots.there r b)

mutual
/-- freezing: the own parts are taken into the fixed part -/
theorem Rep.fz (si : Same I I') : ∀ {d : D} {v : V} {f : List Addr}, Rep g I H d v f → (∀ b ∈ f, I' b = H b) → Rep g I' H' (fz d) v []
  | _, _, _, .non, _ => by unfold DV.fz; exact .non
  | _, _, _, .bl, _ => by unfold DV.fz; exact .bl
  | _, _, _, .int, _ => by unfold DV.fz; exact .int
  | _, _, _, .str, _ => by unfold DV.fz; exact .str
  | _, _, _, .ty, _ => by unfold DV.fz; exact .ty
  | _, _, _, .cls c, _ => by unfold DV.fz; exact .cls c
  | _, _, _, .tup h r, k => by unfold DV.fz; exact .tup (TpAt.same si h) (Reps.mono si r (fun b hb => by cases hb))
  | _, _, _, .lst h r, k => by unfold DV.fz; exact .lst (si _ _ h) (Reps.mono si r (fun b hb => by cases hb))
  | _, _, _, .con h r, k => by unfold DV.fz; exact .con (Same.seq si h) (Reps.mono si r (fun b hb => by cases hb))
  | _, _, _, .own h r, k => by
    unfold DV.fz
    rw [fzs_map]
    exact .lst ((k _ (List.mem_cons_self ..)).trans h) (Reps.fz si r fun b hb => k b (List.mem_cons_of_mem _ hb))
  | _, _, _, .ins c h r, k => by unfold DV.fz; exact .ins c (si _ _ h) (Reps.mono si r (fun b hb => by cases hb))
  | _, _, _, .obj c h h2 l r, k => by
    unfold DV.fz
    rw [fzs_map]
    exact .ins c ((k _ (by simp)).trans h) (Reps.fz si r fun b hb => k b (by simp [hb]))
theorem Reps.fz (si : Same I I') : ∀ {ds : List D} {vs : List V} {f : List Addr}, Reps g I H ds vs f → (∀ b ∈ f, I' b = H b) → Reps g I' H' (ds.map DV.fz) vs []
  | _, _, _, .nil, _ => .nil
  | _, _, _, .cons h r, k => .cons (f1 := []) (f2 := []) (Rep.fz si h fun b hb => k b (List.mem_append_left _ hb)) (Reps.fz si r fun b hb => k b (List.mem_append_right _ hb))
end

theorem Reps.length : ∀ {ds : List D} {vs : List V} {f : List Addr}, Reps g I H ds vs f → ds.length = vs.length
  | _, _, _, .nil => rfl
  | _, _, _, .cons _ r => by simp [Reps.length r]
theorem Slots.length : ∀ {ρ : List D} {σ : St} {f : List Addr}, Slots g I H ρ σ f → ρ.length = σ.length
  | _, _, _, .nil => rfl
  | _, _, _, .und r => by simp [Slots.length r]
  | _, _, _, .cons _ r => by simp [Slots.length r]

theorem Reps.append : ∀ {ds : List D} {vs : List V} {f : List Addr} {ds' : List D} {vs' : List V} {f' : List Addr}, Reps g I H ds vs f → Reps g I H ds' vs' f' → Reps g I H (ds ++ ds') (vs ++ vs') (f ++ f')
  | _, _, _, _, _, _, .nil, h => h
  | _, _, _, _, _, _, .cons h r, h' => by rw [List.append_assoc]; exact .cons h (Reps.append r h')
theorem Reps.split : ∀ {ds : List D} {ds' : List D} {ws : List V} {F : List Addr}, Reps g I H (ds ++ ds') ws F →
    ∃ vs vs' f f', ws = vs ++ vs' ∧ F = f ++ f' ∧ Reps g I H ds vs f ∧ Reps g I H ds' vs' f'
  | [], ds', ws, F, h => ⟨[], ws, [], F, rfl, rfl, .nil, h⟩
  | d :: ds, ds', _, _, .cons h r => by
    obtain ⟨vs, vs', f, f', rfl, rfl, h1, h2⟩ := Reps.split r
    exact ⟨_ :: vs, vs', _ ++ f, f', rfl, (List.append_assoc ..).symm, .cons h h1, h2⟩
theorem Reps.one {d : D} {v : V} {f : List Addr} (h : Rep g I H d v f) : Reps g I H [d] [v] f := by
  have := Reps.cons h (Reps.nil (g := g) (I := I) (H := H))
  rwa [List.append_nil] at this
theorem Reps.one_inv {d : D} {vs : List V} {f : List Addr} (h : Reps g I H [d] vs f) : ∃ v, vs = [v] ∧ Rep g I H d v f := by
  cases h with
  | cons h r => cases r; exact ⟨_, rfl, by rw [List.append_nil]; exact h⟩
/-- the parts of two lists whose values' ends are told -/
theorem Reps.split' {ds ds' : List D} {vs vs' : List V} {F : List Addr} (h : Reps g I H (ds ++ ds') (vs ++ vs') F) (hl : ds'.length = vs'.length) :
    ∃ f f', F = f ++ f' ∧ Reps g I H ds vs f ∧ Reps g I H ds' vs' f' := by
  obtain ⟨ws, ws', f, f', e, rfl, h1, h2⟩ := Reps.split h
  have e2 : vs'.length = ws'.length := by rw [← hl]; exact h2.length
  obtain ⟨rfl, rfl⟩ := List.append_inj' e e2
  exact ⟨f, f', rfl, h1, h2⟩

theorem Slots.at : ∀ {ρ : List D} {σ : St} {F : List Addr} {i : Nat} {d : D}, Slots g I H ρ σ F → ρ[i]? = some d → d ≠ .und →
    ∃ v A f B, σ[i]? = some (some v) ∧ F = A ++ (f ++ B) ∧ Rep g I H d v f ∧ ∀ {I' H' : Hp} {d' : D} {v' : V} {f' : List Addr}, Same I I' → (∀ b ∈ A ++ B, H' b = H b) → Rep g I' H' d' v' f' → Slots g I' H' (ρ.set i d') (σ.set i (some v')) (A ++ (f' ++ B))
  | _, _, _, 0, d, .und r, e, n => by
    have e1 : D.und = d := by simpa using e
    exact absurd e1.symm n
  | _, _, _, 0, d, .cons (v := v) (f := f) (F := F) h r, e, n => by
    have e1 := Option.some.inj (show some _ = some d from e)
    subst e1
    exact ⟨v, [], f, F, rfl, rfl, h, fun si k h' => by rw [List.nil_append]; exact .cons h' (r.mono si k)⟩
  | _, _, _, i + 1, d, .und r, e, n => by
    obtain ⟨v, A, f, B, e1, rfl, h, k⟩ := Slots.at (i := i) (d := d) r (by simpa using e) n
    exact ⟨v, A, f, B, by simpa using e1, rfl, h, fun si q h' => .und (k si q h')⟩
  | _, _, _, i + 1, d, .cons (v := w) (f := fa) h0 r, e, n => by
    obtain ⟨v, A, f, B, e1, rfl, h, k⟩ := Slots.at (i := i) (d := d) r (by simpa using e) n
    refine ⟨v, fa ++ A, f, B, by simpa using e1, (List.append_assoc ..).symm, h, fun si q h' => ?_⟩
    have := Slots.cons (h0.mono si fun b hb => q b (by simp [hb])) (k si (fun b hb => q b (by simp only [List.append_assoc, List.mem_append] at hb ⊢; exact .inr hb)) h')
    rw [List.append_assoc]
    exact this
/-- a slot given a new value; what it held is let go -/
theorem Slots.put : ∀ {ρ : List D} {σ : St} {F : List Addr} (i : Nat), i < ρ.length → Slots g I H ρ σ F →
    ∃ A f B, F = A ++ (f ++ B) ∧ ∀ {I' H' : Hp} {d' : D} {v' : V} {f' : List Addr}, Same I I' → (∀ b ∈ A ++ B, H' b = H b) → Rep g I' H' d' v' f' → Slots g I' H' (ρ.set i d') (σ.set i (some v')) (A ++ (f' ++ B))
  | _, _, F, 0, _, .und r => ⟨[], [], F, rfl, fun si k h => by rw [List.nil_append]; exact Slots.cons h (r.mono si k)⟩
  | _, _, _, 0, _, .cons (f := f) (F := F) h r => ⟨[], f, F, rfl, fun si k h => by rw [List.nil_append]; exact Slots.cons h (r.mono si k)⟩
  | _, _, _, i + 1, l, .und r => by
    obtain ⟨A, f, B, rfl, k⟩ := Slots.put i (by simpa using l) r
    exact ⟨A, f, B, rfl, fun si q h => .und (k si q h)⟩
  | _, _, _, i + 1, l, .cons (f := fa) h0 r => by
    obtain ⟨A, f, B, rfl, k⟩ := Slots.put i (by simpa using l) r
    refine ⟨fa ++ A, f, B, (List.append_assoc ..).symm, fun si q h => ?_⟩
    rw [List.append_assoc]
    exact .cons (h0.mono si fun b hb => q b (by simp [hb])) (k si (fun b hb => q b (by simp only [List.append_assoc, List.mem_append] at hb ⊢; exact .inr hb)) h)
  | _, _, _, 0, l, .nil => absurd l (by simp)
  | _, _, _, i + 1, l, .nil => absurd l (by simp)
end
end DV

set_option Elab.async false
set_option maxRecDepth 100000
set_option maxHeartbeats 4000000
/-! DV2: states, what an expression is worth on deep values (SndE), names, constants, displays. -/
namespace DV
open PySem L2

/-- the entry of a def: what stood, what is handed in to be changed -/
structure Bs where
  I0 : Hp
  H0 : Hp
  F0 : List Addr

/-- I: what is fixed (a part of H); ρ over the slots σ; ts over the values vs that are in work -/
structure StP (g : G) (B : Bs) (I H : Hp) (ρ : List D) (σ : St) (ts : List D) (vs : List V) : Prop where
  reps : ∃ F1 F2, Slots g I H ρ σ F1 ∧ Reps g I H ts vs F2 ∧ (F1 ++ F2).Nodup ∧ (∀ b ∈ F1 ++ F2, I b = none) ∧ ∀ b ∈ F1 ++ F2, B.H0 b ≠ none → b ∈ B.F0
  same : Same I H
  keep : Same B.I0 I
  frH : ∀ b o, B.H0 b = some o → b ∉ B.F0 → H b = some o
  frI : ∀ b, B.H0 b ≠ none → b ∉ B.F0 → B.I0 b = none → I b = none
  dom : ∀ b, B.H0 b ≠ none → H b ≠ none

section
variable {g : G} {B : Bs} {I I' H H' : Hp} {ρ ρ' : List D} {σ σ' : St} {ts ts' ds : List D} {vs vs' ws : List V}

theorem StP.step (h : StP g B I H ρ σ ts vs) {F : List Addr} (hF : ∀ b ∈ F, B.H0 b ≠ none → b ∈ B.F0) (si : Same I I') (sh : Same I' H')
    (kh : ∀ b o, H b = some o → b ∉ F → H' b = some o) (kd : ∀ b, b ∈ F → H b ≠ none → H' b ≠ none) (ki : ∀ b, I b = none → H b ≠ none → b ∉ F → I' b = none)
    (new : ∃ F1 F2, Slots g I' H' ρ' σ' F1 ∧ Reps g I' H' ts' vs' F2 ∧ (F1 ++ F2).Nodup ∧ ∀ b ∈ F1 ++ F2, I' b = none ∧ (b ∈ F ∨ H b = none)) : StP g B I' H' ρ' σ' ts' vs' := by
  obtain ⟨F1, F2, h1, h2, nd, of⟩ := new
  refine ⟨⟨F1, F2, h1, h2, nd, fun b hb => (of b hb).1, fun b hb z => ?_⟩, sh, fun b o e => si b o (h.keep b o e), fun b o e n => ?_, fun b z n e => ?_, fun b z => ?_⟩
  · rcases (of b hb).2 with q | q
    · exact hF b q z
    · exact absurd q (h.dom b z)
  · exact kh b o (h.frH b o e n) fun q => n (hF b q (by rw [e]; simp))
  · exact ki b (h.frI b z n e) (h.dom b z) fun q => n (hF b q z)
  · by_cases q : b ∈ F
    · exact kd b q (h.dom b z)
    · have := h.dom b z
      cases e : H b with
      | none => exact absurd e this
      | some o => rw [kh b o e q]; simp

theorem Same.updN {H : Hp} {p : Addr} {o : HO} (n : H p = none) : Same H (upd H p o) := fun b u e => by rw [upd_ne (ne_of_none e n)]; exact e
/-- what is fixed, with the parts at f taken in -/
def tk (I H : Hp) (f : List Addr) : Hp := fun b => if b ∈ f then H b else I b
theorem tk_in {f : List Addr} {b : Addr} (h : b ∈ f) : tk I H f b = H b := if_pos h
theorem tk_out {f : List Addr} {b : Addr} (h : b ∉ f) : tk I H f b = I b := if_neg h
theorem tk_same {f : List Addr} (n : ∀ b ∈ f, I b = none) : Same I (tk I H f) := fun b o e => by
  by_cases q : b ∈ f
  · rw [n b q] at e; cases e
  · rw [tk_out q]; exact e
theorem tk_sub {f : List Addr} (s : Same I H) : Same (tk I H f) H := fun b o e => by
  by_cases q : b ∈ f
  · rw [tk_in q] at e; exact e
  · rw [tk_out q] at e; exact s b o e

/-- a fixed value more -/
theorem StP.push {d : D} {v : V} (h : StP g B I H ρ σ ts vs) (r : Rep g I H d v []) : StP g B I H ρ σ (ts ++ [d]) (vs ++ [v]) := by
  obtain ⟨F1, F2, h1, h2, nd, of, hF⟩ := h.reps
  exact h.step hF (Same.refl _) h.same (fun _ _ e _ => e) (fun _ _ z => z) (fun _ z _ _ => z) ⟨F1, F2, h1, by simpa using h2.append (Reps.one r), nd, fun b hb => ⟨of b hb, .inl hb⟩⟩
/-- the last values are let go -/
theorem StP.pop (h : StP g B I H ρ σ (ts ++ ds) (vs ++ ws)) (hl : ds.length = ws.length) : StP g B I H ρ σ ts vs := by
  obtain ⟨F1, F2, h1, h2, nd, of, hF⟩ := h.reps
  obtain ⟨f, f', rfl, r1, r2⟩ := h2.split' hl
  refine h.step hF (Same.refl _) h.same (fun _ _ e _ => e) (fun _ _ z => z) (fun _ z _ _ => z) ⟨F1, f, h1, r1, ?_, fun b hb => ⟨of b ?_, .inl ?_⟩⟩
  · grind
  · grind
  · grind
/-- the last values are frozen -/
theorem StP.fzTop (h : StP g B I H ρ σ (ts ++ ds) (vs ++ ws)) (hl : ds.length = ws.length) : ∃ I', Same I I' ∧ StP g B I' H ρ σ (ts ++ ds.map fz) (vs ++ ws) ∧ Reps g I' H (ds.map fz) ws [] := by
  obtain ⟨F1, F2, h1, h2, nd, of, hF⟩ := h.reps
  obtain ⟨f, f', rfl, r1, r2⟩ := h2.split' hl
  have n' : ∀ b ∈ f', I b = none := fun b hb => of b (by grind)
  have si := tk_same (H := H) n'
  have rr : Reps g (tk I H f') H (ds.map fz) ws [] := r2.fz si fun b hb => tk_in hb
  refine ⟨tk I H f', si, h.step hF si (tk_sub h.same) (fun _ _ e _ => e) (fun _ _ z => z) (fun b z _ n => ?_) ⟨F1, f, h1.mono si fun _ _ => rfl, ?_, ?_, fun b hb => ?_⟩, rr⟩
  · rw [tk_out (by grind)]; exact z
  · simpa using (r1.mono si fun _ _ => rfl).append rr
  · grind
  · have : b ∉ f' := by grind
    rw [tk_out this]
    exact ⟨of b (by grind), .inl (by grind)⟩
/-- a new fixed object -/
theorem StP.laidI {p : Addr} {o : HO} (h : StP g B I H ρ σ ts vs) (n : H p = none) : StP g B (upd I p o) (upd H p o) ρ σ ts vs := by
  obtain ⟨F1, F2, h1, h2, nd, of, hF⟩ := h.reps
  have nI : I p = none := h.same.free n
  have np : ∀ b ∈ F1 ++ F2, b ≠ p := fun b hb z => by
    subst z
    rcases List.mem_append.mp hb with q | q
    · obtain ⟨o, e⟩ := h1.there b q; rw [n] at e; cases e
    · obtain ⟨o, e⟩ := h2.there b q; rw [n] at e; cases e
  refine h.step hF (Same.updN nI) ?_ (fun b u e _ => Same.updN n b u e) (fun b q z => by rw [upd_ne (np b q)]; exact z) (fun b z w _ => ?_) ⟨F1, F2, h1.mono (Same.updN nI) fun b hb => upd_ne (np b (by grind)), h2.mono (Same.updN nI) fun b hb => upd_ne (np b (by grind)), nd, fun b hb => ⟨by rw [upd_ne (np b hb)]; exact of b hb, .inl hb⟩⟩
  · intro b u e
    by_cases q : b = p
    · subst q; rw [upd_same] at e ⊢; exact e
    · rw [upd_ne q] at e ⊢; exact h.same b u e
  · rw [upd_ne (fun z => by subst z; exact w n)]; exact z
/-- a new list, made of the last values -/
theorem StP.laidL {p : Addr} (h : StP g B I H ρ σ (ts ++ ds) (vs ++ ws)) (hl : ds.length = ws.length) (n : H p = none) : StP g B I (upd H p (.lst ws)) ρ σ (ts ++ [.own ds]) (vs ++ [.ref p]) := by
  obtain ⟨F1, F2, h1, h2, nd, of, hF⟩ := h.reps
  obtain ⟨f, f', rfl, r1, r2⟩ := h2.split' hl
  have nI : I p = none := h.same.free n
  have np : ∀ b ∈ F1 ++ (f ++ f'), b ≠ p := fun b hb z => by
    subst z
    rcases List.mem_append.mp hb with q | q
    · obtain ⟨o, e⟩ := h1.there b q; rw [n] at e; cases e
    · obtain ⟨o, e⟩ := h2.there b q; rw [n] at e; cases e
  have kk : ∀ b ∈ F1 ++ (f ++ f'), upd H p (.lst ws) b = H b := fun b hb => upd_ne (np b hb)
  refine h.step hF (Same.refl _) (fun b u e => Same.updN n b u (h.same b u e)) (fun b u e _ => Same.updN n b u e) (fun b q z => by rw [kk b q]; exact z) (fun _ z _ _ => z) ⟨F1, f ++ (p :: f'), h1.mono (Same.refl _) fun b hb => kk b (by grind), ?_, ?_, fun b hb => ?_⟩
  · exact (r1.mono (Same.refl _) fun b hb => kk b (by grind)).append (Reps.one (.own upd_same (r2.mono (Same.refl _) fun b hb => kk b (by grind))))
  · have : p ∉ F1 ++ (f ++ f') := fun z => np p z rfl
    grind
  · by_cases q : b = p
    · subst q; exact ⟨nI, .inr n⟩
    · have : b ∈ F1 ++ (f ++ f') := by grind
      exact ⟨of b this, .inl this⟩
end

/-! ### expressions -/
/-- the weakest reading of an expression, of arguments -/
structure mx (X : Cx) (e : Expr) (σ : L2.St) (H : Hp) (Q : VK) : Prop where
  run : ∀ (pins : List (Addr × Obj)) (s : Shared), Inv X pins σ H s → wpAny (model X.prog X.w) X.A (eval e X.env) (EP X pins σ Q) X.xe s
theorem pe_mx {X : Cx} {e : Expr} : PE X e (mx X e) := ⟨fun pins s _ _ _ I h => h.run pins s I⟩
theorem mx_of {X : Cx} {e : Expr} {t : TE} (h : PE X e t) {σ : St} {H : Hp} {Q : VK} (k : t σ H Q) : mx X e σ H Q := ⟨fun pins s I => h.run pins s σ H Q I k⟩
structure mxA (X : Cx) (es : List Expr) (σ : L2.St) (H : Hp) (Q : List V → Hp → Prop) : Prop where
  run : ∀ (pos : Pos) (pins : List (Addr × Obj)) (s : Shared), Inv X pins σ H s → wpAny (model X.prog X.w) X.A (spliced (backTo pos (starEach es X.env))) (AP X pins σ Q) X.xe s
theorem pa_mx {X : Cx} {es : List Expr} : PA X es (mxA X es) := ⟨fun pos pins s _ _ _ I h => h.run pos pins s I⟩
theorem mxA_of {X : Cx} {es : List Expr} {t : TA} (h : PA X es t) {σ : St} {H : Hp} {Q : List V → Hp → Prop} (k : t σ H Q) : mxA X es σ H Q := ⟨fun pos pins s I => h.run pos pins s σ H Q I k⟩
structure mxT (X : Cx) (e : Expr) (σ : L2.St) (H : Hp) (Q : Bool → Hp → Prop) : Prop where
  run : ∀ (pins : List (Addr × Obj)) (s : Shared), Inv X pins σ H s → wpAny (model X.prog X.w) X.A (isTrue e X.env (eval e X.env)) (TP X pins σ Q) X.xe s
theorem pt_mx {X : Cx} {e : Expr} : PT X e (mxT X e) := ⟨fun pins s _ _ _ I h => h.run pins s I⟩
theorem mxT_of {X : Cx} {e : Expr} {t : TT} (h : PT X e t) {σ : St} {H : Hp} {Q : Bool → Hp → Prop} (k : t σ H Q) : mxT X e σ H Q := ⟨fun pins s I => h.run pins s σ H Q I k⟩

/-- what an expression does on deep values -/
abbrev Den := List D → Option (D × List D)
abbrev Dens := List D → Option (List D × List D)
abbrev DenT := List D → Option (Bool × List D)

/-- e does f -/
def SndE (g : G) (X : Cx) (e : Expr) (f : Den) : Prop :=
  ∀ (B : Bs) (I H : Hp) (ρ : List D) (σ : St) (ts : List D) (vs : List V) (d : D) (ρ' : List D) (Q : VK), StP g B I H ρ σ ts vs → f ρ = some (d, ρ') →
    (∀ I' H' v, StP g B I' H' ρ' σ (ts ++ [d]) (vs ++ [v]) → Q v H') → mx X e σ H Q
def SndL (g : G) (X : Cx) (es : List Expr) (f : Dens) : Prop :=
  ∀ (B : Bs) (I H : Hp) (ρ : List D) (σ : St) (ts : List D) (vs : List V) (ds : List D) (ρ' : List D) (Q : List V → Hp → Prop), StP g B I H ρ σ ts vs → f ρ = some (ds, ρ') →
    (∀ I' H' ws, StP g B I' H' ρ' σ (ts ++ ds) (vs ++ ws) → ds.length = ws.length → ws.length = es.length → Q ws H') → mxA X es σ H Q
def SndT (g : G) (X : Cx) (e : Expr) (f : DenT) : Prop :=
  ∀ (B : Bs) (I H : Hp) (ρ : List D) (σ : St) (ts : List D) (vs : List V) (b : Bool) (ρ' : List D) (Q : Bool → Hp → Prop), StP g B I H ρ σ ts vs → f ρ = some (b, ρ') →
    (∀ I' H', StP g B I' H' ρ' σ ts vs → Q b H') → mxT X e σ H Q

def dVar (i : Nat) : Den := fun ρ => match ρ[i]? with
  | some .und => none
  | some d => some (fz d, ρ.set i (fz d))
  | none => none
def dCst (d : D) : Den := fun ρ => some (d, ρ)
def dNil : Dens := fun ρ => some ([], ρ)
def dCons (f : Den) (r : Dens) : Dens := fun ρ => match f ρ with
  | some (d, ρ1) => match r ρ1 with
    | some (ds, ρ2) => some (d :: ds, ρ2)
    | none => none
  | none => none
def dTup (r : Dens) : Den := fun ρ => match r ρ with
  | some (ds, ρ') => if ds.length ≤ 1000 then some (.tup (ds.map fz), ρ') else none
  | none => none
def dLst (r : Dens) : Den := fun ρ => match r ρ with
  | some (ds, ρ') => if ds.length ≤ 1000 then some (.own ds, ρ') else none
  | none => none

section
variable {g : G} {X : Cx} {pos : Pos} {B : Bs} {I H : Hp} {ρ : List D} {σ : St} {ts : List D} {vs : List V} {x : Str} {p : Pos}

/-- a slot's value is taken; the slot is frozen -/
theorem StP.var {i : Nat} {d : D} (h : StP g B I H ρ σ ts vs) (e : ρ[i]? = some d) (n : d ≠ .und) :
    ∃ v I', σ[i]? = some (some v) ∧ Rep g I' H (fz d) v [] ∧ StP g B I' H (ρ.set i (fz d)) σ ts vs := by
  obtain ⟨F1, F2, h1, h2, nd, of, hF⟩ := h.reps
  obtain ⟨v, A, f, C, es, rfl, r, k⟩ := h1.at e n
  have n' : ∀ b ∈ f, I b = none := fun b hb => of b (by grind)
  have si := tk_same (H := H) n'
  have rr : Rep g (tk I H f) H (fz d) v [] := r.fz si fun b hb => tk_in hb
  have hσ : σ.set i (some v) = σ := List.ext_getElem? fun j => by
    by_cases q : i = j
    · subst q
      rw [List.getElem?_set_self (List.getElem?_eq_some_iff.mp es).1, es]
    · rw [List.getElem?_set_ne q]
  have k1 := k si (fun _ _ => rfl) rr
  rw [hσ] at k1
  refine ⟨v, tk I H f, es, rr, h.step hF si (tk_sub h.same) (fun _ _ e _ => e) (fun _ _ z => z) (fun b z _ n => ?_) ⟨_, F2, k1, h2.mono si fun _ _ => rfl, ?_, fun b hb => ?_⟩⟩
  · rw [tk_out (by grind)]; exact z
  · grind
  · have : b ∉ f := by grind
    rw [tk_out this]
    exact ⟨of b (by grind), .inl (by grind)⟩

theorem snd_var {i : Nat} (hN : X.N[i]? = some x) (hv : Vis X.env.scope x) (hd : (x == ("__debug__" : Str)) = false) (hcd : (x == ("__classdict__" : Str)) = false) : SndE g X (.Name x pos) (dVar i) := by
  intro B I H ρ σ ts vs d ρ' Q h e k
  unfold dVar at e
  cases q : ρ[i]? with
  | none => rw [q] at e; cases e
  | some d0 =>
    have n : d0 ≠ .und := fun z => by subst z; rw [q] at e; cases e
    have e' : some (fz d0, ρ.set i (fz d0)) = some (d, ρ') := by rw [q] at e; cases d0 <;> first | exact absurd rfl n | exact e
    cases e'
    obtain ⟨v, I', es, r, h'⟩ := h.var q n
    exact mx_of (pe_var hN hv hd hcd) ⟨v, es, k I' H v (h'.push r)⟩
theorem snd_int {i : Int} {j : Nat} : SndE g X (.Constant (.int i) j pos) (dCst (.int i)) := by
  intro B I H ρ σ ts vs d ρ' Q h e k
  cases e
  exact mx_of pe_int (k I H _ (h.push .int))
theorem snd_bl {b : Bool} {j : Nat} : SndE g X (.Constant (.bool b) j pos) (dCst (.bl b)) := by
  intro B I H ρ σ ts vs d ρ' Q h e k
  cases e
  exact mx_of pe_bl (k I H _ (h.push .bl))
theorem snd_non {j : Nat} : SndE g X (.Constant .none j pos) (dCst .non) := by
  intro B I H ρ σ ts vs d ρ' Q h e k
  cases e
  exact mx_of pe_non (k I H _ (h.push .non))
theorem snd_str {z : Str} {j : Nat} : SndE g X (.Constant (.str z) j pos) (dCst (.str z)) := by
  intro B I H ρ σ ts vs d ρ' Q h e k
  cases e
  exact mx_of pe_str (k I H _ (h.push .str))
/-- a module's number -/
theorem snd_globI {i : Int} {t : Tok} (hg : Gl X x) (hm : X.mg x = some (.int i t)) (hd : (x == ("__debug__" : Str)) = false) : SndE g X (.Name x pos) (dCst (.int i)) := by
  intro B I H ρ σ ts vs d ρ' Q h e k
  cases e
  exact mx_of (pe_glob (v := .int i) hg hm ⟨t, rfl⟩ hd) (k I H _ (h.push .int))
theorem snd_nil : SndL g X [] dNil := by
  intro B I H ρ σ ts vs ds ρ' Q h e k
  cases e
  exact mxA_of pa_nil (k I H [] (by simpa using h) rfl rfl)
theorem starOk {e : Expr} {es : List Expr} {env : Env} (h : ∀ v p, e ≠ .Starred v p) : starEach (e :: es) env = (false, eval e env) :: starEach es env := by
  cases e <;> first | rfl | exact absurd rfl (h _ _)
theorem snd_cons {e : Expr} {es : List Expr} {f : Den} {r : Dens} (he : SndE g X e f) (hr : SndL g X es r) (hs : ∀ v p, e ≠ .Starred v p) : SndL g X (e :: es) (dCons f r) := by
  intro B I H ρ σ ts vs ds ρ' Q h q k
  unfold dCons at q
  cases q1 : f ρ with
  | none => rw [q1] at q; cases q
  | some a =>
    obtain ⟨d, ρ1⟩ := a
    rw [q1] at q
    dsimp only at q
    cases q2 : r ρ1 with
    | none => rw [q2] at q; cases q
    | some a =>
      obtain ⟨dr, ρ2⟩ := a
      rw [q2] at q
      cases q
      refine mxA_of (pa_cons (es := es) pe_mx pa_mx (starOk hs)) ?_
      refine he B I H ρ σ ts vs d ρ1 _ h q1 fun I1 H1 v h1 => ?_
      refine hr B I1 H1 ρ1 σ _ _ dr _ _ h1 q2 fun I2 H2 ws h2 hl hn => ?_
      exact k I2 H2 (v :: ws) (by simpa using h2) (by simp [hl]) (by simp [hn])
theorem line1000 {n : Nat} (h : n ≤ 1000) : n ≤ sizeLine := Nat.le_of_lt (small1000 h)
theorem snd_tup {es : List Expr} {r : Dens} {k0 : Nat} (hr : SndL g X es r) : SndE g X (.Tuple es k0 pos) (dTup r) := by
  intro B I H ρ σ ts vs d ρ' Q h q k
  unfold dTup at q
  cases q1 : r ρ with
  | none => rw [q1] at q; cases q
  | some a =>
    obtain ⟨ds, ρ1⟩ := a
    rw [q1] at q
    dsimp only at q
    split at q
    · rename_i hl
      cases q
      refine mx_of (pe_tup pa_mx) ?_
      refine hr B I H ρ σ ts vs ds _ _ h q1 fun I1 H1 ws h1 hw _ => ?_
      refine ⟨line1000 (hw ▸ hl), fun p hp => ?_⟩
      obtain ⟨I2, si, h2, rr⟩ := h1.fzTop hw
      have h3 := (h2.pop (by simpa using hw)).laidI (p := p) (o := .tup ws) hp
      refine k (upd I2 p (.tup ws)) _ _ (h3.push (.tup (.inl upd_same) (rr.mono (Same.updN (h2.same.free hp)) (fun b hb => by cases hb))))
    · cases q
theorem snd_lst {es : List Expr} {r : Dens} (hr : SndL g X es r) : SndE g X (.List es pos) (dLst r) := by
  intro B I H ρ σ ts vs d ρ' Q h q k
  unfold dLst at q
  cases q1 : r ρ with
  | none => rw [q1] at q; cases q
  | some a =>
    obtain ⟨ds, ρ1⟩ := a
    rw [q1] at q
    dsimp only at q
    split at q
    · rename_i hl
      cases q
      refine mx_of (pe_lst pa_mx) ?_
      refine hr B I H ρ σ ts vs ds _ _ h q1 fun I1 H1 ws h1 hw _ => ?_
      exact ⟨line1000 (hw ▸ hl), fun p hp => k I1 _ _ (h1.laidL hw hp)⟩
    · cases q
end
end DV

set_option Elab.async false
set_option maxRecDepth 100000
set_option maxHeartbeats 4000000
/-! DV3: defs on deep values: their promise (spD), calls, bodies. -/
namespace DV
open PySem L2 PySem.Spec PyProof.Rows

/-- a def on deep values: its answer, and what its first argument is behind it (where that one is changed) -/
abbrev Fn := List D → Option (D × D)

/-- the promise; mu: the first argument may be changed -/
def spD (g : G) (mu : Bool) (n : Nat) (sem : Fn) : Sp := fun vs H Q _ =>
  vs.length = n ∧ ∃ I ds F d o, Same I H ∧ Reps g I H ds vs F ∧ F.Nodup ∧ (∀ b ∈ F, I b = none) ∧ sem ds = some (d, o) ∧
    ∀ I' H' v f1 f2, Same I I' → Same I' H' → Rep g I' H' d v f1 → (mu = true → ∃ v0, vs.head? = some v0 ∧ Rep g I' H' o v0 f2) → (mu = false → f2 = []) → (f1 ++ f2).Nodup →
      (∀ b ∈ f1 ++ f2, I' b = none ∧ (b ∈ F ∨ H b = none)) → (∀ b u, H b = some u → b ∉ F → H' b = some u) → (∀ b, I b = none → H b ≠ none → b ∉ F → I' b = none) → (∀ b, H b ≠ none → H' b ≠ none) → Q v H'

/-- as FnOk, for surroundings where (if gd) nothing is being shown -/
structure FnD (P : Program) (w : World) (K : PySem.W.Frag) (mg : Str → Option Value) (base : Heap) (gd : Bool) (k : Nat) (f : Addr) (fd : FuncData) (ps : List Str) (sp : Sp) : Prop where
  len : ∀ vs H Q E, sp vs H Q E → vs.length = ps.length
  run : ∀ (A : Around) (outer : List Env) (s : Shared) (H : Hp) (args : Args) (us : List Value) (vs : List V) (Q : VK) (E : XK), Room k A → (gd = true → A.guards = some []) → Env0 P w K mg base A outer s H →
    BindsTo s fd args (ps.zip us) → Vals vs us → sp vs H Q E → codeAny (model P w) A (.call (.ref f) args) (CR CX0 outer P w H s Q E) s
theorem FnD.of {P : Program} {w : World} {K : PySem.W.Frag} {mg : Str → Option Value} {base : Heap} {gd : Bool} {k : Nat} {f : Addr} {fd : FuncData} {ps : List Str} {sp : Sp} (F : FnOk P w K mg base CX0 k f fd ps sp) : FnD P w K mg base gd k f fd ps sp :=
  ⟨F.len, fun A outer s H args us vs Q E hr _ => F.run A outer s H args us vs Q E hr⟩
theorem FnD.ok {P : Program} {w : World} {K : PySem.W.Frag} {mg : Str → Option Value} {base : Heap} {k : Nat} {f : Addr} {fd : FuncData} {ps : List Str} {sp : Sp} (F : FnD P w K mg base false k f fd ps sp) : FnOk P w K mg base CX0 k f fd ps sp :=
  ⟨F.len, fun A outer s H args us vs Q E hr => F.run A outer s H args us vs Q E hr (fun z => nomatch z)⟩

/-- how a caller knows a def of the text -/
structure CallOk (X : Cx) (x : Str) (gd : Bool) (n : Nat) (sp : Sp) : Prop where
  ex : ∃ (f : Addr) (fd : FuncData) (ps : List Str) (k : Nat), X.mg x = some (.ref f) ∧ PySem.W.keepIn X.K (.ref f) = true ∧ Binds X.K fd ps [] ∧ Room k X.A ∧ (gd = true → X.A.guards = some []) ∧
    FnD X.prog X.w X.K X.mg X.base gd k f fd ps sp ∧ ps.length = n

section
variable {X : Cx} {x : Str} {p pos : Pos} {e : Expr} {es : List Expr} {gd : Bool} {n : Nat} {sp : Sp}
theorem CallOk.run (C : CallOk X x gd n sp) (hg : Gl X x) (hd : (x == ("__debug__" : Str)) = false) (hs : ∀ v p, e ≠ .Starred v p) (hp : ∀ v p, Expr.Starred v p ∉ es) {σ : L2.St} {H : Hp} {Q : VK}
    (h : mxA X (e :: es) σ H fun vs H1 => sp vs H1 Q E0) : mx X (.Call (.Name x p) (e :: es) [] pos) σ H Q := by
  obtain ⟨f, fd, ps, k, hm, hk, hb, hr, hgd, F, hn⟩ := C.ex
  refine ⟨fun pins s I => ?_⟩
  have h1 : starEach (e :: es) X.env = (false, eval e X.env) :: starEach es X.env := starOk hs
  have h2 : ∀ l : List Expr, (∀ v p, Expr.Starred v p ∉ l) → ∀ q, (backTo q (starEach l X.env)).any (·.1) = false := by
    intro l
    induction l with
    | nil => intro _ q; rfl
    | cons a r ih =>
      intro hl q
      have ha : ∀ v p, a ≠ .Starred v p := fun v p z => hl v p (by rw [z]; exact List.mem_cons_self ..)
      have hr' : ∀ v p, Expr.Starred v p ∉ r := fun v p z => hl v p (List.mem_cons_of_mem _ z)
      rw [starOk ha]
      cases r with
      | nil => rfl
      | cons b r =>
        have := ih hr' q
        rw [starOk (fun v p z => hr' v p (by rw [z]; exact List.mem_cons_self ..))] at this ⊢
        exact this
  refine wpAny_Call_Name_kw (ld_glob I hg hm ?_ hd)
  refine PySem.W.callWith_K (h₀ := X.base) I.ok.mod.kin hk (thn (h.run pos pins s I) fun us s1 ⟨vs, H1, I1, r, q⟩ => ⟨I1.kIn, ?_⟩) h1 (h2 es hp pos)
  have hl : (us ++ []).length = ps.length := by rw [List.append_nil, ← r.length]; exact F.len _ _ _ _ q
  have bt := hb s1 us I1.kIn hl
  rw [List.append_nil] at bt
  refine wpAny_call (codeAny_mono (F.run X.A X.stack s1 H1 ⟨us, []⟩ us vs Q E0 hr hgd I1.env0 bt r q) fun r s' hq => ?_)
  cases r with
  | error e => exact hq.elim
  | ok fl =>
    cases fl with
    | ret u => exact I1.after hq
    | next => exact False.elim hq
    | brk => exact False.elim hq
    | cont => exact False.elim hq
end

def dCallP (sem : Fn) (r : Dens) : Den := fun ρ => match r ρ with
  | some (ds, ρ') => match sem (ds.map fz) with
    | some (d, _) => some (d, ρ')
    | none => none
  | none => none
def held (ρ : List D) (i : Nat) : Bool := match ρ[i]? with
  | some .und => false
  | some _ => true
  | none => false
theorem held_some {ρ : List D} {i : Nat} (h : held ρ i = true) : ∃ d, ρ[i]? = some d ∧ d ≠ .und := by
  unfold held at h
  split at h
  · cases h
  · rename_i d n e
    exact ⟨d, e, n⟩
  · cases h
def dCallR (sem : Fn) (i : Nat) (r : Dens) : Den := fun ρ => if held ρ i = true then match r ρ with
  | some (ds, ρ') => if held ρ' i = true then match sem (ρ'.getD i .und :: ds.map fz) with
    | some (d, o) => some (d, ρ'.set i o)
    | none => none
    else none
  | none => none
  else none
/-- the first argument is a value just made -/
def dCallT (sem : Fn) (f : Den) (r : Dens) : Den := fun ρ => match f ρ with
  | some (d0, ρ1) => match r ρ1 with
    | some (ds, ρ') => match sem (d0 :: ds.map fz) with
      | some (d, _) => some (d, ρ')
      | none => none
    | none => none
  | none => none

section
variable {g : G} {X : Cx} {pos p : Pos} {B : Bs} {I I' H H' : Hp} {ρ : List D} {σ : L2.St} {ts : List D} {vs : List V} {x : Str} {e : Expr} {es : List Expr} {gd : Bool} {n : Nat} {sem : Fn} {mu : Bool} {ds : List D} {ws : List V} {d o : D}

theorem noneOf {H : Hp} {b : Addr} (h : ∃ o, H b = some o) : H b ≠ none := by obtain ⟨o, e⟩ := h; rw [e]; simp

/-- frozen arguments -/
theorem StP.callP {Q : VK} (h : StP g B I H ρ σ (ts ++ ds) (vs ++ ws)) (hl : ds.length = ws.length) (hs : sem (ds.map fz) = some (d, o)) (hn : ws.length = n)
    (k : ∀ I' H' v, StP g B I' H' ρ σ (ts ++ [d]) (vs ++ [v]) → Q v H') : spD g false n sem ws H Q E0 := by
  obtain ⟨I2, si, h2, rr⟩ := h.fzTop hl
  refine ⟨hn, I2, ds.map fz, [], d, o, h2.same, rr, List.nodup_nil, (fun b hb => by cases hb), hs, fun I' H' v f1 f2 si' sh' r _ e2 nd off kh ki kd => ?_⟩
  obtain rfl := e2 rfl
  obtain ⟨F1, F2, s1, s2, nd0, of0, hF⟩ := (h2.pop (by simpa using hl)).reps
  have th : ∀ b ∈ F1 ++ F2, ∃ u, H b = some u := fun b hb => (List.mem_append.mp hb).elim (s1.there b) (s2.there b)
  have kk : ∀ b ∈ F1 ++ F2, H' b = H b := fun b hb => by obtain ⟨u, e⟩ := th b hb; rw [e, kh b u e (by simp)]
  refine k I' H' v (h2.step hF si' sh' (fun b u e _ => kh b u e (by simp)) (fun b hb _ => by rw [kk b hb]; obtain ⟨u, e⟩ := th b hb; rw [e]; simp) (fun b z z' _ => ki b z z' (by simp)) ⟨F1, F2 ++ f1, s1.mono si' fun b hb => kk b (by grind), (s2.mono si' fun b hb => kk b (by grind)).append (Reps.one r), ?_, fun b hb => ?_⟩)
  · have : ∀ b ∈ f1, b ∉ F1 ++ F2 := fun b hb z => by
      have h3 := (off b (by simp [hb])).2
      obtain ⟨u, e⟩ := th b z
      rcases h3 with q | q
      · cases q
      · rw [q] at e; cases e
    rw [List.append_nil] at nd
    grind
  · by_cases q : b ∈ F1 ++ F2
    · exact ⟨ki b (of0 b q) (by obtain ⟨u, e⟩ := th b q; rw [e]; simp) (by simp), .inl q⟩
    · have : b ∈ f1 := by grind
      have h3 := off b (by simp [this])
      exact ⟨h3.1, .inr (by rcases h3.2 with z | z; cases z; exact z)⟩
/-- the first argument a value just made -/
theorem StP.callT {Q : VK} {d0 : D} {v0 : V} (h : StP g B I H ρ σ (ts ++ d0 :: ds) (vs ++ v0 :: ws)) (hl : ds.length = ws.length) (hs : sem (d0 :: ds.map fz) = some (d, o)) (hn : ws.length + 1 = n)
    (k : ∀ I' H' v, StP g B I' H' ρ σ (ts ++ [d]) (vs ++ [v]) → Q v H') : spD g mu n sem (v0 :: ws) H Q E0 := by
  have h' : StP g B I H ρ σ ((ts ++ [d0]) ++ ds) ((vs ++ [v0]) ++ ws) := by simpa using h
  obtain ⟨I2, si, h2, rr⟩ := h'.fzTop hl
  obtain ⟨F1, F2, s1, s2, nd0, of0, hF⟩ := (h2.pop (by simpa using hl)).reps
  obtain ⟨fa, f0, rfl, r1, r0⟩ := s2.split' rfl
  obtain ⟨w0, ew, r0⟩ := r0.one_inv
  cases ew
  have th : ∀ b ∈ F1 ++ (fa ++ f0), ∃ u, H b = some u := fun b hb => (List.mem_append.mp hb).elim (s1.there b) (s2.there b)
  refine ⟨by simpa using hn, I2, d0 :: ds.map fz, f0, d, o, h2.same, by simpa using Reps.cons r0 rr, by grind, fun b hb => of0 b (by grind), hs, fun I' H' v f1 f2 si' sh' r _ _ nd off kh ki kd => ?_⟩
  have kk : ∀ b ∈ F1 ++ fa, H' b = H b := fun b hb => by
    obtain ⟨u, e⟩ := th b (by grind)
    rw [e, kh b u e (by grind)]
  refine k I' H' v (h2.step hF si' sh' (fun b u e q => kh b u e (by grind)) (fun b hb z => kd b z) (fun b z z' q => ki b z z' (by grind)) ⟨F1, fa ++ f1, s1.mono si' fun b hb => kk b (by grind), (r1.mono si' fun b hb => kk b (by grind)).append (Reps.one r), ?_, fun b hb => ?_⟩)
  · have : ∀ b ∈ f1, b ∉ F1 ++ fa := fun b hb z => by
      have h3 := (off b (by simp [hb])).2
      obtain ⟨u, e⟩ := th b (by grind)
      rcases h3 with q | q
      · grind
      · rw [q] at e; cases e
    grind
  · by_cases q : b ∈ F1 ++ fa
    · exact ⟨ki b (of0 b (by grind)) (by obtain ⟨u, e⟩ := th b (by grind); rw [e]; simp) (by grind), .inl (by grind)⟩
    · have : b ∈ f1 := by grind
      have h3 := off b (by simp [this])
      exact ⟨h3.1, by rcases h3.2 with z | z; exact .inl (by grind); exact .inr z⟩
/-- the first argument what a slot holds -/
theorem StP.callR {Q : VK} {i : Nat} {d0 : D} (h : StP g B I H ρ σ (ts ++ ds) (vs ++ ws)) (hl : ds.length = ws.length) (hi : ρ[i]? = some d0) (hu : d0 ≠ .und) (hs : sem (d0 :: ds.map fz) = some (d, o)) (hn : ws.length + 1 = n)
    (k : ∀ I' H' v, StP g B I' H' (ρ.set i o) σ (ts ++ [d]) (vs ++ [v]) → Q v H') : ∃ v0, σ[i]? = some (some v0) ∧ spD g true n sem (v0 :: ws) H Q E0 := by
  obtain ⟨I2, si, h2, rr⟩ := h.fzTop hl
  obtain ⟨F1, F2, s1, s2, nd0, of0, hF⟩ := (h2.pop (by simpa using hl)).reps
  obtain ⟨v0, A, f, C, es, rfl, r0, put⟩ := s1.at hi hu
  have hσ : σ.set i (some v0) = σ := List.ext_getElem? fun j => by
    by_cases q : i = j
    · subst q
      rw [List.getElem?_set_self (List.getElem?_eq_some_iff.mp es).1, es]
    · rw [List.getElem?_set_ne q]
  have th : ∀ b ∈ (A ++ (f ++ C)) ++ F2, ∃ u, H b = some u := fun b hb => (List.mem_append.mp hb).elim (s1.there b) (s2.there b)
  refine ⟨v0, es, by simpa using hn, I2, d0 :: ds.map fz, f, d, o, h2.same, by simpa using Reps.cons r0 rr, by grind, fun b hb => of0 b (by grind), hs, fun I' H' v f1 f2 si' sh' r ro _ nd off kh ki kd => ?_⟩
  obtain ⟨w0, ew, ro⟩ := ro rfl
  cases ew
  have kk : ∀ b ∈ (A ++ C) ++ F2, H' b = H b := fun b hb => by
    obtain ⟨u, e⟩ := th b (by grind)
    rw [e, kh b u e (by grind)]
  have s1' := put si' (fun b hb => kk b (by grind)) ro
  rw [hσ] at s1'
  refine k I' H' v (h2.step hF si' sh' (fun b u e q => kh b u e (by grind)) (fun b hb z => kd b z) (fun b z z' q => ki b z z' (by grind)) ⟨A ++ (f2 ++ C), F2 ++ f1, s1', (s2.mono si' fun b hb => kk b (by grind)).append (Reps.one r), ?_, fun b hb => ?_⟩)
  · have : ∀ b ∈ f1 ++ f2, b ∉ (A ++ C) ++ F2 := fun b hb z => by
      have h3 := (off b hb).2
      obtain ⟨u, e⟩ := th b (by grind)
      rcases h3 with q | q
      · grind
      · rw [q] at e; cases e
    have n1 : f1.Nodup := by grind
    have n2 : f2.Nodup := by grind
    have n12 : ∀ b ∈ f1, b ∉ f2 := by grind
    have d1 : ∀ b ∈ f1, b ∉ (A ++ C) ++ F2 := fun b hb => this b (by simp [hb])
    have d2 : ∀ b ∈ f2, b ∉ (A ++ C) ++ F2 := fun b hb => this b (by simp [hb])
    clear this k put off
    simp only [List.nodup_append, List.mem_append] at *
    grind
  · by_cases q : b ∈ (A ++ C) ++ F2
    · exact ⟨ki b (of0 b (by grind)) (by obtain ⟨u, e⟩ := th b (by grind); rw [e]; simp) (by grind), .inl (by grind)⟩
    · have h3 := off b (by grind)
      exact ⟨h3.1, by rcases h3.2 with z | z; exact .inl (by grind); exact .inr z⟩
end
end DV

set_option Elab.async false
set_option maxRecDepth 100000
set_option maxHeartbeats 4000000
/-! DV4: statements, bodies. -/
namespace DV
open PySem L2 PySem.Spec PyProof.Rows
set_option linter.all false

/-- how a block ends -/
inductive Fl where
  | nx (ρ : List D) | rt (d : D) (ρ : List D) | bk (ρ : List D) | ct (ρ : List D)
abbrev DenS := List D → Option Fl

structure mxS (X : Cx) (st : Stmt) (D : Ends) (σ : L2.St) (H : Hp) : Prop where
  run : ∀ (pins : List (Addr × Obj)) (s : Shared), Inv X pins σ H s → wpAny (model X.prog X.w) X.A (exec st X.env) (SP X pins D) X.xe s
theorem ps_mx {X : Cx} {st : Stmt} : PS X st (mxS X st) := ⟨fun pins s _ _ _ I h => h.run pins s I⟩
theorem mxS_of {X : Cx} {st : Stmt} {t : TS} (h : PS X st t) {E : Ends} {σ : L2.St} {H : Hp} (k : t E σ H) : mxS X st E σ H := ⟨fun pins s I => h.run pins s σ H E I k⟩
structure mxB (X : Cx) (st : List Stmt) (D : Ends) (σ : L2.St) (H : Hp) : Prop where
  run : ∀ (pins : List (Addr × Obj)) (s : Shared), Inv X pins σ H s → wpAny (model X.prog X.w) X.A (execs st X.env) (SP X pins D) X.xe s
theorem pss_mx {X : Cx} {st : List Stmt} : PSs X st (mxB X st) := ⟨fun pins s _ _ _ I h => h.run pins s I⟩
theorem mxB_of {X : Cx} {st : List Stmt} {t : TS} (h : PSs X st t) {E : Ends} {σ : L2.St} {H : Hp} (k : t E σ H) : mxB X st E σ H := ⟨fun pins s I => h.run pins s σ H E I k⟩

/-- the first slot stays (where it is the argument that may be changed) -/
def Fx (fx : Bool) (σ σ' : L2.St) : Prop := fx = true → σ'[0]? = σ[0]?
theorem Fx.refl {fx : Bool} {σ : L2.St} : Fx fx σ σ := fun _ => rfl
theorem Fx.trans {fx : Bool} {a b c : L2.St} (h : Fx fx a b) (k : Fx fx b c) : Fx fx a c := fun z => (k z).trans (h z)
theorem Fx.set {fx : Bool} {σ : L2.St} {i : Nat} {v : Option V} (h : fx = true → i ≠ 0) : Fx fx σ (σ.set i v) := fun z => by
  rw [List.getElem?_set_ne (h z)]

/-- what is wanted behind a block that ends so -/
def Post (g : G) (B : Bs) (fx : Bool) (σ : L2.St) (ts : List D) (vs : List V) (E : Ends) : Fl → Prop
  | .nx ρ => ∀ I H σ', StP g B I H ρ σ' ts vs → Fx fx σ σ' → E.nx σ' H
  | .rt d ρ => ∀ I H σ' v, StP g B I H ρ σ' (ts ++ [d]) (vs ++ [v]) → Fx fx σ σ' → E.rt v H
  | .bk ρ => ∀ I H σ', StP g B I H ρ σ' ts vs → Fx fx σ σ' → E.bk σ' H
  | .ct ρ => ∀ I H σ', StP g B I H ρ σ' ts vs → Fx fx σ σ' → E.ct σ' H
theorem Post.fx {g : G} {B : Bs} {fx : Bool} {σ σ1 : L2.St} {ts : List D} {vs : List V} {E : Ends} {fl : Fl} (h : Post g B fx σ ts vs E fl) (k : Fx fx σ σ1) : Post g B fx σ1 ts vs E fl := by
  cases fl with
  | nx ρ => exact fun I H σ' a b => h I H σ' a (k.trans b)
  | rt d ρ => exact fun I H σ' v a b => h I H σ' v a (k.trans b)
  | bk ρ => exact fun I H σ' a b => h I H σ' a (k.trans b)
  | ct ρ => exact fun I H σ' a b => h I H σ' a (k.trans b)

def SndS (g : G) (fx : Bool) (X : Cx) (st : Stmt) (f : DenS) : Prop :=
  ∀ (B : Bs) (I H : Hp) (ρ : List D) (σ : L2.St) (ts : List D) (vs : List V) (fl : Fl) (E : Ends), StP g B I H ρ σ ts vs → f ρ = some fl → Post g B fx σ ts vs E fl → mxS X st E σ H
def SndB (g : G) (fx : Bool) (X : Cx) (st : List Stmt) (f : DenS) : Prop :=
  ∀ (B : Bs) (I H : Hp) (ρ : List D) (σ : L2.St) (ts : List D) (vs : List V) (fl : Fl) (E : Ends), StP g B I H ρ σ ts vs → f ρ = some fl → Post g B fx σ ts vs E fl → mxB X st E σ H

def sEnd : DenS := fun ρ => some (.nx ρ)
def sSeq (f r : DenS) : DenS := fun ρ => match f ρ with
  | some (.nx ρ') => r ρ'
  | o => o
def sRet (f : Den) : DenS := fun ρ => match f ρ with
  | some (d, ρ') => some (.rt d ρ')
  | none => none
def sAsg (i : Nat) (f : Den) : DenS := fun ρ => match f ρ with
  | some (d, ρ') => if i < ρ'.length then some (.nx (ρ'.set i d)) else none
  | none => none
def sIf (c : DenT) (a b : DenS) : DenS := fun ρ => match c ρ with
  | some (true, ρ') => a ρ'
  | some (false, ρ') => b ρ'
  | none => none
def sExpr (f : Den) : DenS := fun ρ => match f ρ with
  | some (_, ρ') => some (.nx ρ')
  | none => none
/-- a statement that is not come to -/
def sNo : DenS := fun _ => none

section
variable {g : G} {fx : Bool} {X : Cx} {st : Stmt} {rest : List Stmt} {f r : DenS} {pos : Pos} {e : Expr} {fe : Den}

theorem snd_end : SndB g fx X [] sEnd := by
  intro B I H ρ σ ts vs fl E h q k
  cases q
  exact mxB_of pss_nil (k I H σ h .refl)
theorem snd_seq (h1 : SndS g fx X st f) (h2 : SndB g fx X rest r) : SndB g fx X (st :: rest) (sSeq f r) := by
  intro B I H ρ σ ts vs fl E h q k
  refine mxB_of (pss_cons ps_mx pss_mx) ?_
  unfold sSeq at q
  cases q1 : f ρ with
  | none => rw [q1] at q; cases q
  | some fl1 =>
    refine h1 B I H ρ σ ts vs fl1 _ h q1 ?_
    cases fl1 with
    | nx ρ' =>
      rw [q1] at q
      exact fun I' H' σ' h' fxx => h2 B I' H' ρ' σ' ts vs fl E h' q (k.fx fxx)
    | rt d ρ' => rw [q1] at q; cases q; exact k
    | bk ρ' => rw [q1] at q; cases q; exact k
    | ct ρ' => rw [q1] at q; cases q; exact k
theorem snd_pass : SndS g fx X (.Pass pos) sEnd := by
  intro B I H ρ σ ts vs fl E h q k
  cases q
  exact mxS_of ps_pass (k I H σ h .refl)
theorem snd_no : SndS g fx X st sNo := by
  intro B I H ρ σ ts vs fl E h q k
  cases q
theorem snd_break : SndS g fx X (.Break pos) (fun ρ => some (.bk ρ)) := by
  intro B I H ρ σ ts vs fl E h q k
  cases q
  exact mxS_of ps_break (k I H σ h .refl)
theorem snd_continue : SndS g fx X (.Continue pos) (fun ρ => some (.ct ρ)) := by
  intro B I H ρ σ ts vs fl E h q k
  cases q
  exact mxS_of ps_continue (k I H σ h .refl)
theorem snd_ret (he : SndE g X e fe) : SndS g fx X (.Return (some e) pos) (sRet fe) := by
  intro B I H ρ σ ts vs fl E h q k
  unfold sRet at q
  cases q1 : fe ρ with
  | none => rw [q1] at q; cases q
  | some a =>
    obtain ⟨d, ρ'⟩ := a
    rw [q1] at q; cases q
    exact mxS_of (ps_ret pe_mx) (he B I H ρ σ ts vs d ρ' _ h q1 fun I' H' v h' => k I' H' σ v h' .refl)
theorem snd_retN : SndS g fx X (.Return none pos) (fun ρ => some (.rt .non ρ)) := by
  intro B I H ρ σ ts vs fl E h q k
  cases q
  exact mxS_of ps_retN (k I H σ _ (h.push .non) .refl)

/-- a slot is given the last value -/
theorem StP.setTop {B : Bs} {I H : Hp} {ρ : List D} {σ : L2.St} {ts : List D} {vs : List V} {d : D} {v : V} {i : Nat} (h : StP g B I H ρ σ (ts ++ [d]) (vs ++ [v])) (hi : i < ρ.length) : StP g B I H (ρ.set i d) (σ.set i (some v)) ts vs := by
  obtain ⟨F1, F2, s1, s2, nd, of, hF⟩ := h.reps
  obtain ⟨fa, fd, rfl, r1, r2⟩ := s2.split' rfl
  obtain ⟨w, ew, r2⟩ := r2.one_inv
  cases ew
  obtain ⟨A, f, C, rfl, put⟩ := s1.put i hi
  refine h.step hF (Same.refl _) h.same (fun _ _ e _ => e) (fun _ _ z => z) (fun _ z _ _ => z) ⟨_, fa, put (Same.refl _) (fun _ _ => rfl) r2, r1, ?_, fun b hb => ⟨of b (by grind), .inl (by grind)⟩⟩
  simp only [List.nodup_append, List.mem_append] at *
  grind
theorem swaps_no {t : Option Expr} {l : Nat} {env : Env} (h : ∀ a b c d, e ≠ .ListComp a b c d) (h2 : ∀ a b c d, e ≠ .SetComp a b c d) (h3 : ∀ a b c d q, e ≠ .DictComp a b c d q) : swapsWith e t l env = pure false := by
  cases e <;> first | rfl | exact absurd rfl (h _ _ _ _) | exact absurd rfl (h2 _ _ _ _) | exact absurd rfl (h3 _ _ _ _ _)
/-- no comprehension -/
def noComp : Expr → Bool
  | .ListComp _ _ _ _ | .SetComp _ _ _ _ | .DictComp _ _ _ _ _ => false
  | _ => true
theorem swaps_noC {t : Option Expr} {l : Nat} {env : Env} (h : noComp e = true) : swapsWith e t l env = pure false := by
  cases e <;> first | rfl | cases h
theorem snd_asg {i : Nat} {x : Str} {pos' : Pos} (hN : X.N.Nodup) (hi : X.N[i]? = some x) (hx : Loc X.env.scope x) (hf : X.fn x = true ∨ X.env.scope.names.lookup x = some .local) (hc : noComp e = true) (h0 : fx = true → i ≠ 0) (he : SndE g X e fe) :
    SndS g fx X (.Assign [.Name x pos'] e pos) (sAsg i fe) := by
  intro B I H ρ σ ts vs fl E h q k
  unfold sAsg at q
  cases q1 : fe ρ with
  | none => rw [q1] at q; cases q
  | some a =>
    obtain ⟨d, ρ'⟩ := a
    rw [q1] at q
    dsimp only at q
    split at q
    · rename_i hl
      cases q
      exact mxS_of (ps_set hN hi hx pe_mx (swaps_noC hc) hf) (he B I H ρ σ ts vs d ρ' _ h q1 fun I' H' v h' => k I' H' _ (h'.setTop hl) (.set h0))
    · cases q
theorem snd_if {c : Expr} {a b : List Stmt} {fc : DenT} {fa fb : DenS} (hc : SndT g X c fc) (ha : SndB g fx X a fa) (hb : SndB g fx X b fb) : SndS g fx X (.If c a b pos) (sIf fc fa fb) := by
  intro B I H ρ σ ts vs fl E h q k
  unfold sIf at q
  cases q1 : fc ρ with
  | none => rw [q1] at q; cases q
  | some z =>
    obtain ⟨t, ρ'⟩ := z
    rw [q1] at q
    refine mxS_of (ps_if pt_mx pss_mx pss_mx) (hc B I H ρ σ ts vs t ρ' _ h q1 fun I' H' h' => ?_)
    cases t with
    | true => exact iteT (ha B I' H' ρ' σ ts vs fl E h' q k)
    | false => exact iteF (hb B I' H' ρ' σ ts vs fl E h' q k)
theorem snd_expr (hc : noComp e = true) (he : SndE g X e fe) : SndS g fx X (.Expr e pos) (sExpr fe) := by
  intro B I H ρ σ ts vs fl E h q k
  unfold sExpr at q
  cases q1 : fe ρ with
  | none => rw [q1] at q; cases q
  | some a =>
    obtain ⟨d, ρ'⟩ := a
    rw [q1] at q; cases q
    exact mxS_of (ps_expr pe_mx (swaps_noC hc)) (he B I H ρ σ ts vs d ρ' _ h q1 fun I' H' v h' => k I' H' σ (h'.pop (by simp)) .refl)
end

/-! ### a def by its body -/
/-- a def's answer, and its first argument behind it -/
def outD (mu : Bool) (d : D) (ρ : List D) : Option (D × D) := if mu = true then (match ρ with
  | [] => none
  | .und :: _ => none
  | o :: _ => some (d, o)) else some (d, .non)
theorem outD_t {d d' o : D} {ρ : List D} (h : outD true d ρ = some (d', o)) : d' = d ∧ ρ[0]? = some o ∧ o ≠ .und := by
  unfold outD at h
  rw [if_pos rfl] at h
  split at h
  · cases h
  · cases h
  · rename_i n
    cases h
    exact ⟨rfl, rfl, fun z => n (by rw [z])⟩
theorem outD_f {d d' o : D} {ρ : List D} (h : outD false d ρ = some (d', o)) : d' = d := by
  unfold outD at h
  rw [if_neg (by decide)] at h
  cases h
  rfl
/-- what a body of N names does as a def -/
def semOf (N : Nat) (mu : Bool) (f : DenS) : Fn := fun ds => match f (ds ++ List.replicate (N - ds.length) .und) with
  | some (.nx ρ) => outD mu .non ρ
  | some (.rt d ρ) => outD mu d ρ
  | _ => none

section
variable {g : G}
theorem Slots.start {I H : Hp} {ds : List D} {vs : List V} {F : List Addr} (h : Reps g I H ds vs F) (n : Nat) : Slots g I H (ds ++ List.replicate n .und) (vs.map some ++ List.replicate n none) F := by
  induction ds generalizing vs F with
  | nil =>
    cases h
    induction n with
    | zero => exact .nil
    | succ n ih => exact .und ih
  | cons d ds ih =>
    cases h with
    | cons r1 r2 => exact .cons r1 (ih r2)
/-- at a body's entry -/
theorem StP.start {I H : Hp} {ds : List D} {vs : List V} {F : List Addr} (h : Reps g I H ds vs F) (nd : F.Nodup) (of : ∀ b ∈ F, I b = none) (sm : Same I H) (N : List Str) (hn : vs.length ≤ N.length) : StP g ⟨I, H, F⟩ I H (ds ++ List.replicate (N.length - ds.length) .und) (L2.start N vs) [] [] := by
  have e := h.length
  refine ⟨⟨F, [], ?_, .nil, by simpa using nd, fun b hb => of b (by simpa using hb), fun b hb _ => by simpa using hb⟩, sm, Same.refl _, fun b o e _ => e, fun b _ _ z => z, fun b z => z⟩
  unfold L2.start
  rw [e]
  exact Slots.start h _
/-- the body's ends lead to the promise -/
theorem post_fn {mu : Bool} {N : List Str} {I H : Hp} {ds : List D} {vs : List V} {F : List Addr} {d o : D} {fl : Fl} {f : DenS} {Q : VK} (hr : Reps g I H ds vs F) (hl : vs.length ≤ N.length) (hm : mu = true → 0 < vs.length)
    (hs : semOf N.length mu f ds = some (d, o)) (hf : f (ds ++ List.replicate (N.length - ds.length) .und) = some fl)
    (k : ∀ I' H' v f1 f2, Same I I' → Same I' H' → Rep g I' H' d v f1 → (mu = true → ∃ v0, vs.head? = some v0 ∧ Rep g I' H' o v0 f2) → (mu = false → f2 = []) → (f1 ++ f2).Nodup →
      (∀ b ∈ f1 ++ f2, I' b = none ∧ (b ∈ F ∨ H b = none)) → (∀ b u, H b = some u → b ∉ F → H' b = some u) → (∀ b, I b = none → H b ≠ none → b ∉ F → I' b = none) → (∀ b, H b ≠ none → H' b ≠ none) → Q v H') :
    Post g ⟨I, H, F⟩ mu (start N vs) [] [] { nx := fun _ H' => Q .non H', rt := Q } fl := by
  have s0 : ∀ v0, vs.head? = some v0 → (start N vs)[0]? = some (some v0) := fun v0 e => by
    cases vs with
    | nil => cases e
    | cons a r => cases e; rfl
  have fin : ∀ (I' H' : Hp) (ρ : List D) (σ' : L2.St) (v : V), StP g ⟨I, H, F⟩ I' H' ρ σ' [d] [v] → Fx mu (start N vs) σ' → (mu = true → ρ[0]? = some o ∧ o ≠ .und) → Q v H' := by
    intro I' H' ρ σ' v h fxx ho
    obtain ⟨F1, F2, s1, s2, nd, of, hF⟩ := h.reps
    obtain ⟨w, ew, r⟩ := s2.one_inv
    cases ew
    have sub : ∀ b ∈ F1 ++ F2, b ∈ F ∨ H b = none := fun b hb => by
      by_cases z : H b = none
      · exact .inr z
      · exact .inl (hF b hb z)
    cases hmu : mu with
    | false =>
      exact k I' H' v F2 [] h.keep h.same r (fun z => by rw [hmu] at z; cases z) (fun _ => rfl) (by grind) (fun b hb => ⟨of b (by grind), sub b (by grind)⟩) h.frH (fun b z z' q => h.frI b z' q z) h.dom
    | true =>
      have ho := ho hmu
      have hv := hm hmu
      obtain ⟨v0, hv0⟩ : ∃ v0, vs.head? = some v0 := by cases vs with | nil => simp at hv | cons a r => exact ⟨a, rfl⟩
      have e0 : σ'[0]? = some (some v0) := (fxx hmu).trans (s0 v0 hv0)
      obtain ⟨v1, A, fo, C, es, rfl, ro, _⟩ := s1.at ho.1 ho.2
      rw [e0] at es
      cases es
      exact k I' H' v F2 fo h.keep h.same r (fun _ => ⟨v0, hv0, ro⟩) (fun z => by rw [hmu] at z; cases z) (by grind) (fun b hb => ⟨of b (by grind), sub b (by grind)⟩) h.frH (fun b z z' q => h.frI b z' q z) h.dom
  unfold semOf at hs
  rw [hf] at hs
  have both : ∀ (d' : D) (ρ : List D), outD mu d' ρ = some (d, o) → d' = d ∧ (mu = true → ρ[0]? = some o ∧ o ≠ .und) := fun d' ρ e => by
    cases mu with
    | true => obtain ⟨a, b, c⟩ := outD_t e; exact ⟨a.symm, fun _ => ⟨b, c⟩⟩
    | false => exact ⟨(outD_f e).symm, fun z => by cases z⟩
  cases fl with
  | nx ρ =>
    intro I' H' σ' h fxx
    obtain ⟨e1, e2⟩ := both _ _ hs
    subst e1
    exact fin I' H' ρ σ' .non (h.push .non) fxx e2
  | rt d' ρ =>
    intro I' H' σ' v h fxx
    obtain ⟨e1, e2⟩ := both _ _ hs
    subst e1
    exact fin I' H' ρ σ' v h fxx e2
  | bk ρ => cases hs
  | ct ρ => cases hs
end

/-- a def's body running -/
structure Body (P : Program) (w : World) (K : PySem.W.Frag) (mg : Str → Option Value) (base : Heap) (N : List Str) (sc : Scope) (gd : Bool) (k : Nat) (X : Cx) : Prop where
  prog : X.prog = P
  w : X.w = w
  K : X.K = K
  mg : X.mg = mg
  base : X.base = base
  N : X.N = N
  sc : X.env.scope = sc
  calm : X.calm = true
  fn : ∀ x, X.fn x = true
  room : Room k X.A
  gd : gd = true → X.A.guards = some []
  nx : X.xe = fun _ _ => False

/-- a def as it stands behind the top, its defaults whatever -/
structure FunA (K : PySem.W.Frag) (x qual : Str) (params : Arguments) (body : List Stmt) (scope : Scope) (f : Addr) (fd : FuncData) : Prop where
  ex : ∃ (oc : Value) (od : Option Addr) (dV kV doc pm : Value) (an : Option Addr) (cdv ct : Value) (osl : Array (Option Value)),
    fd = PySem.W.fnOf x qual params body scope dV kV doc pm an cdv ct ∧ K.lookup f = some ⟨oc, od, .func fd, osl⟩ ∧ PySem.W.codeIn K cdv qual = true
theorem fnD_of {g : G} {P : Program} {w : World} {K : PySem.W.Frag} {mg : Str → Option Value} {base : Heap} {gd mu : Bool} {k n : Nat} {f : Addr} {fd : FuncData} {N ps : List Str} {x qual : Str} {params : Arguments} {body : List Stmt} {scope : Scope} {den : DenS}
    (F : FunA K x qual params body scope f fd) (S : FnScope N ps scope) (hn : ps.length = n) (hm : mu = true → 0 < n)
    (hb : ∀ X : Cx, Body P w K mg base N scope gd k X → SndB g mu X body den) : FnD P w K mg base gd (k + 1) f fd ps (spD g mu n (semOf N.length mu den)) := by
  obtain ⟨oc, od, dV, kV, doc, pm, an, cdv, ct, osl, hfd, lk, hcd⟩ := F.ex
  have long : ∀ (vs : List V) H Q E, spD g mu n (semOf N.length mu den) vs H Q E → vs.length = ps.length := fun vs H Q E h => h.1.trans hn.symm
  refine ⟨long, fun A outer s H args us vs Q E room hgd e0 bt rv h => ?_⟩
  have hl := long _ _ _ _ h
  obtain ⟨_, I, ds, Fp, d, o, sm, rr, nd, of, hs, post⟩ := h
  have keepB : ∀ b u, base.get? b = some u → s.heap.get? b = some u := fun b u e => (e0.bs b u e).1
  have kin := e0.mod.kin.keeps keepB
  subst hfd
  have kinds : ∀ y ∈ ps.zip us, scope.names.lookup y.1 = some .local ∨ (scope.names.lookup y.1 = some .cell ∧ ((cellsFrom (s.heap.objs.size + 1) scope.names []).lookup y.1).isSome = true) := by
    rintro ⟨z, v⟩ hz
    have hz' := S.par z (List.of_mem_zip hz).1
    exact hz'.elim .inl fun q => .inr ⟨q, PySem.W.cellsFrom_some _ _ _ (.inl q)⟩
  refine codeAny_call_function room.depth (kin _ _ lk) rfl S.co S.gen rfl (PySem.W.codeRec_of kin hcd) (bt _ _ _ _ (wpAny_newFunctionEnv_cells S.kind kinds fun env he s1 inC => ?_))
  subst he
  refine ⟨(e0.mod.nolimit.keeps keepB).keeps inC.toInCall.keep, codeAny_func ?_⟩
  let X0 := cxOf CX0 P w K mg base N qual scope f cdv A outer s H E
  have inv : Inv X0 [] (L2.start N vs) H s1 := inv_start S room.hd e0 hl rv inC
  have bd : Body P w K mg base N scope gd k X0.nox := ⟨rfl, rfl, rfl, rfl, rfl, rfl, rfl, rfl, fun _ => rfl, room.deeper _, fun z => hgd z, rfl⟩
  have lenN : vs.length ≤ N.length := by
    have q := congrArg List.length S.pre
    rw [List.length_take] at q
    omega
  cases hf : den (ds ++ List.replicate (N.length - ds.length) .und) with
  | none => unfold semOf at hs; rw [hf] at hs; cases hs
  | some fl =>
    have st0 := StP.start rr nd of sm N lenN
    have pst : Post g ⟨I, H, Fp⟩ mu (L2.start N vs) [] [] { nx := fun _ H' => Q .non H', rt := Q } fl :=
      post_fn rr lenN (fun z => by have := hm z; omega) hs hf post
    have run := hb X0.nox bd ⟨I, H, Fp⟩ I H _ _ [] [] fl _ st0 hf pst
    refine wpAny_mono (run.run [] s1 (inv.wish _)) (fun r s' hr => ?_) fun e s' hr => hr.elim
    have done : ∀ {σ' : L2.St} {H' : Hp} {v : V} {u : Value}, Inv X0.nox [] σ' H' s' → RelV v u → Q v H' → CE outer P w H s Q u s' :=
      fun {σ' H' v u} J rel q => ⟨v, H', J.unwish.os, J.unwish.bare, J.unwish.base, J.unwish.hok, rel, q⟩
    cases r with
    | ret u => obtain ⟨v, σ', H', J, rel, q⟩ := hr; exact done J rel q
    | next => obtain ⟨σ', H', J, q⟩ := hr; exact done (v := V.non) (u := Value.none) J rfl q
    | brk => obtain ⟨_, _, _, q⟩ := hr; exact q.elim
    | cont => obtain ⟨_, _, _, q⟩ := hr; exact q.elim
end DV

set_option Elab.async false
set_option maxRecDepth 100000
set_option maxHeartbeats 4000000
set_option linter.all false
/-! DV5: operators, comparisons, calls of built-ins on deep values. -/
namespace DV
open PySem L2 PySem.Spec PyProof.Rows

/-! ### by values -/
def rO (X : Cx) (f : Value → Value → Sem Value) : R2 := fun x y H Q => ∀ (pins : List (Addr × Obj)) (s : Shared) (σ : L2.St) (v u : Value), Inv X pins σ H s → RelV x v → RelV y u → wpAny (model X.prog X.w) X.A (f v u) (EP X pins σ Q) X.xe s
theorem opO {X : Cx} {f : Value → Value → Sem Value} : OpR X f (rO X f) := fun pins s σ H x y v u Q I rx ry h => h pins s σ v u I rx ry
theorem rO_of {X : Cx} {f : Value → Value → Sem Value} {r : R2} (h : OpR X f r) {x y : V} {H : Hp} {Q : VK} (k : r x y H Q) : rO X f x y H Q := fun pins s σ v u I rx ry => h pins s σ H x y v u Q I rx ry k
def rC (X : Cx) (f : Value) : List V → Hp → VK → Prop := fun xs H Q => ∀ (pins : List (Addr × Obj)) (s : Shared) (σ : L2.St) (us : List Value), Inv X pins σ H s → Vals xs us → wpAny (model X.prog X.w) X.A (call f us) (EP X pins σ Q) X.xe s
theorem opC {X : Cx} {f : Value} : CallR X f (rC X f) := fun pins s σ H xs us Q I r h => h pins s σ us I r
theorem rC_of {X : Cx} {f : Value} {r : List V → Hp → VK → Prop} (h : CallR X f r) {xs : List V} {H : Hp} {Q : VK} (k : r xs H Q) : rC X f xs H Q := fun pins s σ us I rx => h pins s σ H xs us Q I rx k

/-- an operation on fixed values -/
def SndOp (g : G) (X : Cx) (f : Value → Value → Sem Value) (φ : D → D → Option D) : Prop :=
  ∀ (B : Bs) (I H : Hp) (ρ : List D) (σ : L2.St) (ts : List D) (vs : List V) (da db : D) (x y : V) (d : D) (Q : VK), StP g B I H ρ σ ts vs → Rep g I H da x [] → Rep g I H db y [] → φ da db = some d →
    (∀ I' H' v, StP g B I' H' ρ σ (ts ++ [d]) (vs ++ [v]) → Q v H') → rO X f x y H Q
def SndC (g : G) (X : Cx) (f : Value) (φ : List D → Option D) : Prop :=
  ∀ (B : Bs) (I H : Hp) (ρ : List D) (σ : L2.St) (ts : List D) (vs : List V) (ds : List D) (xs : List V) (d : D) (Q : VK), StP g B I H ρ σ ts vs → Reps g I H ds xs [] → φ ds = some d →
    (∀ I' H' v, StP g B I' H' ρ σ (ts ++ [d]) (vs ++ [v]) → Q v H') → rC X f xs H Q

def dBin (φ : D → D → Option D) (fa fb : Den) : Den := fun ρ => match fa ρ with
  | some (da, ρ1) => match fb ρ1 with
    | some (db, ρ2) => match φ (fz da) (fz db) with
      | some d => some (d, ρ2)
      | none => none
    | none => none
  | none => none
def dBlt (φ : List D → Option D) (r : Dens) : Den := fun ρ => match r ρ with
  | some (ds, ρ') => match φ (ds.map fz) with
    | some d => some (d, ρ')
    | none => none
  | none => none

section
variable {g : G} {X : Cx} {B : Bs} {I I' H H' : Hp} {ρ : List D} {σ : L2.St} {ts ds : List D} {vs ws us : List V} {d : D} {v : V} {f : List Addr} {a b e : Expr} {fa fb : Den} {pos : Pos} {φ : D → D → Option D} {xs : List D}

/-! inversions -/
theorem Rep.int_i {i : Int} (h : Rep g I H (.int i) v f) : v = .int i ∧ f = [] := by cases h; exact ⟨rfl, rfl⟩
theorem Rep.bl_i {i : Bool} (h : Rep g I H (.bl i) v f) : v = .bl i ∧ f = [] := by cases h; exact ⟨rfl, rfl⟩
theorem Rep.str_i {i : Str} (h : Rep g I H (.str i) v f) : v = .str i ∧ f = [] := by cases h; exact ⟨rfl, rfl⟩
theorem Rep.non_i (h : Rep g I H .non v f) : v = .non ∧ f = [] := by cases h; exact ⟨rfl, rfl⟩
theorem Rep.lst_i (h : Rep g I H (.lst xs) v f) : ∃ a us, v = .ref a ∧ f = [] ∧ I a = some (.lst us) ∧ Reps g I H xs us [] := by cases h with | lst h r => exact ⟨_, _, rfl, rfl, h, r⟩
theorem Rep.tup_i (h : Rep g I H (.tup xs) v f) : ∃ a us, v = .ref a ∧ f = [] ∧ TpAt g.K I a us ∧ Reps g I H xs us [] := by cases h with | tup h r => exact ⟨_, _, rfl, rfl, h, r⟩
theorem Rep.con_i (h : Rep g I H (.con xs) v f) : ∃ a us, v = .ref a ∧ f = [] ∧ SqL g.K I a us ∧ Reps g I H xs us [] := by cases h with | con h r => exact ⟨_, _, rfl, rfl, h, r⟩
theorem Rep.ins_i {c : Nat} (h : Rep g I H (.ins c xs) v f) : ∃ C a dx us, v = .ref a ∧ f = [] ∧ g.cls c = some C ∧ I a = some (.ins C dx ((g.flds c).zip us)) ∧ Reps g I H xs us [] := by cases h with | ins c h r => exact ⟨_, _, _, _, rfl, rfl, c, h, r⟩
theorem Reps.two {d1 d2 : D} (h : Reps g I H [d1, d2] ws []) : ∃ v1 v2, ws = [v1, v2] ∧ Rep g I H d1 v1 [] ∧ Rep g I H d2 v2 [] := by
  cases hw : (([] : List Addr)) with
  | nil =>
    obtain ⟨vs, vs', f1, f2, rfl, e, h1, h2⟩ := Reps.split (ds := [d1]) (ds' := [d2]) h
    obtain ⟨v1, rfl, r1⟩ := h1.one_inv
    obtain ⟨v2, rfl, r2⟩ := h2.one_inv
    obtain ⟨rfl, rfl⟩ := List.append_eq_nil_iff.mp e.symm
    exact ⟨v1, v2, rfl, r1, r2⟩
  | cons a r => cases hw
theorem Reps.ones {d1 : D} (h : Reps g I H [d1] ws []) : ∃ v1, ws = [v1] ∧ Rep g I H d1 v1 [] := h.one_inv

/-- a new list of fixed values -/
theorem StP.newL {p : Addr} (h : StP g B I H ρ σ ts vs) (n : H p = none) (r : Reps g I H xs us []) : StP g B I (upd H p (.lst us)) ρ σ (ts ++ [.own xs]) (vs ++ [.ref p]) := by
  obtain ⟨F1, F2, h1, h2, nd, of, hF⟩ := h.reps
  have h3 : StP g B I H ρ σ (ts ++ xs) (vs ++ us) := h.step hF (Same.refl _) h.same (fun _ _ e _ => e) (fun _ _ z => z) (fun _ z _ _ => z) ⟨F1, F2, h1, by simpa using h2.append r, nd, fun b hb => ⟨of b hb, .inl hb⟩⟩
  exact h3.laidL r.length n
/-- a new tuple of fixed values -/
theorem StP.newT {p : Addr} (h : StP g B I H ρ σ ts vs) (n : H p = none) (r : Reps g I H xs us []) : StP g B (upd I p (.tup us)) (upd H p (.tup us)) ρ σ (ts ++ [.tup xs]) (vs ++ [.ref p]) :=
  (h.laidI n).push (.tup (.inl upd_same) (r.mono (Same.updN (h.same.free n)) (fun b hb => by cases hb)))

theorem snd_bin {op : Operator} (ho : SndOp g X (binaryOp op) φ) (ha : SndE g X a fa) (hb : SndE g X b fb) : SndE g X (.BinOp a op b pos) (dBin φ fa fb) := by
  intro B I H ρ σ ts vs d ρ' Q h q k
  unfold dBin at q
  cases q1 : fa ρ with
  | none => rw [q1] at q; cases q
  | some z =>
    obtain ⟨da, ρ1⟩ := z
    rw [q1] at q
    dsimp only at q
    cases q2 : fb ρ1 with
    | none => rw [q2] at q; cases q
    | some z =>
      obtain ⟨db, ρ2⟩ := z
      rw [q2] at q
      dsimp only at q
      cases q3 : φ (fz da) (fz db) with
      | none => rw [q3] at q; cases q
      | some d0 =>
        rw [q3] at q; cases q
        refine mx_of (pe_op opO pe_mx pe_mx) ?_
        refine ha B I H ρ σ ts vs da ρ1 _ h q1 fun I1 H1 x h1 => ?_
        refine hb B I1 H1 ρ1 σ _ _ db _ _ h1 q2 fun I2 H2 y h2 => ?_
        have h2' : StP g B I2 H2 ρ' σ (ts ++ [da, db]) (vs ++ [x, y]) := by simpa using h2
        obtain ⟨I3, si, h3, rr⟩ := h2'.fzTop rfl
        obtain ⟨v1, v2, e, r1, r2⟩ := Reps.two rr
        cases e
        exact ho B I3 H2 ρ' σ ts vs _ _ x y d Q (h3.pop rfl) r1 r2 q3 k
/-- where the right side is no set display -/
def noSet : Expr → Bool
  | .Set _ _ _ => false
  | _ => true
theorem marks_no {op : CmpOp} (h : noSet b = true) : behindInMarks op b = false := by
  cases b <;> first | rfl | cases h
theorem snd_cmp {op : CmpOp} (ho : SndOp g X (compareOp op) φ) (hs : noSet b = true) (ha : SndE g X a fa) (hb : SndE g X b fb) : SndE g X (.Compare a [op] [b] pos) (dBin φ fa fb) := by
  intro B I H ρ σ ts vs d ρ' Q h q k
  unfold dBin at q
  cases q1 : fa ρ with
  | none => rw [q1] at q; cases q
  | some z =>
    obtain ⟨da, ρ1⟩ := z
    rw [q1] at q
    dsimp only at q
    cases q2 : fb ρ1 with
    | none => rw [q2] at q; cases q
    | some z =>
      obtain ⟨db, ρ2⟩ := z
      rw [q2] at q
      dsimp only at q
      cases q3 : φ (fz da) (fz db) with
      | none => rw [q3] at q; cases q
      | some d0 =>
        rw [q3] at q; cases q
        refine mx_of (pe_cmpR opO pe_mx pe_mx (marks_no hs)) ?_
        refine ha B I H ρ σ ts vs da ρ1 _ h q1 fun I1 H1 x h1 => ?_
        refine hb B I1 H1 ρ1 σ _ _ db _ _ h1 q2 fun I2 H2 y h2 => ?_
        have h2' : StP g B I2 H2 ρ' σ (ts ++ [da, db]) (vs ++ [x, y]) := by simpa using h2
        obtain ⟨I3, si, h3, rr⟩ := h2'.fzTop rfl
        obtain ⟨v1, v2, e, r1, r2⟩ := Reps.two rr
        cases e
        exact ho B I3 H2 ρ' σ ts vs _ _ x y d Q (h3.pop rfl) r1 r2 q3 k
/-- as a test: the answer a truth -/
def tOf (f : Den) : DenT := fun ρ => match f ρ with
  | some (.bl b, ρ') => some (b, ρ')
  | _ => none
theorem tOf_some {f : Den} {ρ ρ' : List D} {b : Bool} (h : tOf f ρ = some (b, ρ')) : f ρ = some (.bl b, ρ') := by
  unfold tOf at h
  split at h
  · cases h; assumption
  · cases h
theorem StP.topBl {t : Bool} (h : StP g B I H ρ σ (ts ++ [.bl t]) (vs ++ [v])) : v = .bl t ∧ StP g B I H ρ σ ts vs := by
  obtain ⟨F1, F2, h1, h2, _⟩ := h.reps
  obtain ⟨f, f', _, _, r2⟩ := h2.split' rfl
  obtain ⟨w, ew, r⟩ := r2.one_inv
  cases ew
  exact ⟨r.bl_i.1, h.pop rfl⟩
theorem snd_cmpT {op : CmpOp} (ho : SndOp g X (compareOp op) φ) (hs : noSet b = true) (ha : SndE g X a fa) (hb : SndE g X b fb) : SndT g X (.Compare a [op] [b] pos) (tOf (dBin φ fa fb)) := by
  intro B I H ρ σ ts vs t ρ' Q h q k
  refine ⟨fun pins s Iv => ?_⟩
  refine wpAny_isTrue_Compare1 ?_ (marks_no hs)
  -- the comparison as a value, unfolded
  unfold dBin at q
  have e2 := tOf_some q
  cases q1 : fa ρ with
  | none => rw [q1] at e2; cases e2
  | some z =>
    obtain ⟨da, ρ1⟩ := z
    rw [q1] at e2
    dsimp only at e2
    cases q2 : fb ρ1 with
    | none => rw [q2] at e2; cases e2
    | some z =>
      obtain ⟨db, ρ2⟩ := z
      rw [q2] at e2
      dsimp only at e2
      cases q3 : φ (fz da) (fz db) with
      | none => rw [q3] at e2; cases e2
      | some d0 =>
        rw [q3] at e2; cases e2
        refine binT pe_mx pe_mx Iv (R := fun x y H2 => rO X (compareOp op) x y H2 fun v H' => ∃ c, v = .bl c ∧ Q c H') ?_ ?_
        · refine ha B I H ρ σ ts vs da ρ1 _ h q1 fun I1 H1 x h1 => ?_
          refine hb B I1 H1 ρ1 σ _ _ db _ _ h1 q2 fun I2 H2 y h2 => ?_
          have h2' : StP g B I2 H2 ρ' σ (ts ++ [da, db]) (vs ++ [x, y]) := by simpa using h2
          obtain ⟨I3, si, h3, rr⟩ := h2'.fzTop rfl
          obtain ⟨v1, v2, e, r1, r2⟩ := Reps.two rr
          cases e
          exact ho B I3 H2 ρ' σ ts vs _ _ x y _ _ (h3.pop rfl) r1 r2 q3 (fun I' H' v h' => ⟨t, h'.topBl.1, k I' H' h'.topBl.2⟩)
        · intro v u s2 x y H2 I2 rx ry r
          refine thn (r pins s2 σ v u I2 rx ry) fun c s3 ⟨z, H3, I3, rz, c', ez, qq⟩ => ?_
          subst ez
          cases rz
          exact wpAny_truthy_bool ⟨H3, I3, qq⟩
end
end DV

set_option Elab.async false
set_option maxRecDepth 100000
set_option maxHeartbeats 4000000
set_option linter.all false
/-! DV6: the operators on deep values. -/
namespace DV
open PySem L2 PySem.Spec PyProof.Rows

def addB : D → D → Option D
  | .int i, .int j => some (.int (i + j))
  | .str x, .str y => if x.length + y.length ≤ 100000 then some (.str (x ++ y)) else none
  | .lst xs, .lst ys => if xs.length + ys.length ≤ 100000 then some (.own (xs ++ ys)) else none
  | .tup xs, .tup ys => if xs.length + ys.length ≤ 100000 then some (.tup (xs ++ ys)) else none
  | _, _ => none
def subB : D → D → Option D
  | .int i, .int j => some (.int (i - j))
  | _, _ => none
def mulB : D → D → Option D
  | .int i, .int j => if i.natAbs.log2 + j.natAbs.log2 < 1000000 then some (.int (i * j)) else none
  | .lst xs, .int k => if 0 ≤ k ∧ k ≤ 1000 ∧ xs.length ≤ 1000 then some (.own (List.replicate k.toNat xs).flatten) else none
  | _, _ => none
def divB : D → D → Option D
  | .int i, .int j => if j ≠ 0 ∧ j.natAbs.log2 < 9000 then some (.int (i.fdiv j)) else none
  | _, _ => none
def modB : D → D → Option D
  | .int i, .int j => if j ≠ 0 then some (.int (i.fmod j)) else none
  | _, _ => none
def powB : D → D → Option D
  | .int i, .int j => if 0 ≤ j ∧ j ≤ 1000000 ∧ i.natAbs < 2 ^ 64 then some (.int (i ^ j.toNat)) else none
  | _, _ => none
def cmpB (p : Int → Int → Bool) : D → D → Option D
  | .int i, .int j => some (.bl (p i j))
  | _, _ => none
def ltB : D → D → Option D
  | .int i, .int j => some (.bl (decide (i < j)))
  | .str x, .str y => some (.bl (decide (x.cps.toList < y.cps.toList)))
  | _, _ => none
def D.isN : D → Bool
  | .non => true
  | _ => false
def isNonB (neg : Bool) : D → D → Option D
  | d, .non => some (.bl (neg != d.isN))
  | .bl a, .bl b => some (.bl (neg != decide (a = b)))
  | _, _ => none

mutual
/-- plain data -/
def toPy : D → Option PyData
  | .non => some .none
  | .bl b => some (.bool b)
  | .int i => some (.int i)
  | .str x => some (.str x)
  | .lst xs => (toPys xs).map .list
  | .tup xs => (toPys xs).map .tuple
  | .con xs => (toPys xs).map .list
  | _ => none
def toPys : List D → Option (List PyData)
  | [] => some []
  | d :: r => match toPy d, toPys r with
    | some p, some ps => some (p :: ps)
    | _, _ => none
end
def eqB (neg : Bool) (a b : D) : Option D := match toPy a, toPy b with
  | some p, some q => if SeqAt.shaped p = true ∧ SeqAt.shaped q = true then some (.bl (neg != PyData.eqv p q)) else none
  | _, _ => none

section
variable {g : G} {X : Cx} {B : Bs} {I I' H H' : Hp} {ρ : List D} {σ : L2.St} {ts ds : List D} {vs ws us : List V} {d : D} {v : V} {f : List Addr} {a b e : Expr} {fa fb : Den} {pos : Pos}

theorem line100 {n : Nat} (h : n ≤ 100000) : n ≤ sizeLine := by rw [sizeLine_eq]; omega
theorem Reps.app0 {ds ds' : List D} (h : Reps g I H ds vs []) (k : Reps g I H ds' ws []) : Reps g I H (ds ++ ds') (vs ++ ws) [] := by simpa using h.append k
theorem Reps.rep0 {ds : List D} (h : Reps g I H ds vs []) : ∀ k : Nat, Reps g I H (List.replicate k ds).flatten (List.replicate k vs).flatten []
  | 0 => .nil
  | k + 1 => by
    rw [List.replicate_succ, List.replicate_succ, List.flatten_cons, List.flatten_cons]
    exact h.app0 (Reps.rep0 h k)

theorem snd_add (hK : X.K = g.K) : SndOp g X (binaryOp .Add) addB := by
  intro B I H ρ σ ts vs da db x y d Q h r1 r2 e k
  unfold addB at e
  split at e
  · cases e
    obtain ⟨rfl, _⟩ := r1.int_i
    obtain ⟨rfl, _⟩ := r2.int_i
    exact rO_of op_add ⟨_, _, rfl, rfl, k I H _ (h.push .int)⟩
  · split at e <;> cases e
    rename_i hl
    obtain ⟨rfl, _⟩ := r1.str_i
    obtain ⟨rfl, _⟩ := r2.str_i
    exact rO_of op_add_str ⟨_, _, rfl, rfl, line100 hl, k I H _ (h.push .str)⟩
  · split at e <;> cases e
    rename_i hl
    obtain ⟨p, us, rfl, _, h1, q1⟩ := r1.lst_i
    obtain ⟨p', us', rfl, _, h2, q2⟩ := r2.lst_i
    exact rO_of op_cat ⟨p, p', us, us', rfl, rfl, h.same _ _ h1, h.same _ _ h2, line100 (by rw [← q1.length, ← q2.length]; exact hl), fun l hl => k I _ _ (h.newL hl (q1.app0 q2))⟩
  · split at e <;> cases e
    rename_i xs ys hl
    obtain ⟨p, us, rfl, _, h1, q1⟩ := r1.tup_i
    obtain ⟨p', us', rfl, _, h2, q2⟩ := r2.tup_i
    refine rO_of op_catA ⟨p, p', us, us', rfl, rfl, hK ▸ (h1.same h.same).sq, hK ▸ (h2.same h.same).sq, line100 (by rw [← q1.length, ← q2.length]; exact hl), fun z => ?_, fun _ z => ?_, fun _ _ l hl => k _ _ _ (h.newT hl (q1.app0 q2))⟩
    · subst z
      cases q1
      exact k I H _ (h.push r2)
    · subst z
      cases q2
      rw [List.append_nil] at k
      exact k I H _ (h.push r1)
  · cases e
theorem snd_sub : SndOp g X (binaryOp .Sub) subB := by
  intro B I H ρ σ ts vs da db x y d Q h r1 r2 e k
  unfold subB at e
  split at e <;> cases e
  obtain ⟨rfl, _⟩ := r1.int_i
  obtain ⟨rfl, _⟩ := r2.int_i
  exact rO_of op_sub ⟨_, _, rfl, rfl, k I H _ (h.push .int)⟩
theorem snd_mul : SndOp g X (binaryOp .Mult) mulB := by
  intro B I H ρ σ ts vs da db x y d Q h r1 r2 e k
  unfold mulB at e
  split at e
  · split at e <;> cases e
    rename_i hl
    obtain ⟨rfl, _⟩ := r1.int_i
    obtain ⟨rfl, _⟩ := r2.int_i
    exact rO_of op_mulW ⟨_, _, rfl, rfl, hl, k I H _ (h.push .int)⟩
  · rename_i xs k0
    split at e <;> cases e
    rename_i hl
    obtain ⟨p, us, rfl, _, h1, q1⟩ := r1.lst_i
    obtain ⟨rfl, _⟩ := r2.int_i
    refine rO_of op_rep ⟨p, _, us, rfl, rfl, h.same _ _ h1, by omega, by omega, ?_, fun l hl => k I _ _ (h.newL hl (q1.rep0 _))⟩
    have e1 := q1.length
    have a1 : us.length ≤ 1000 := by omega
    have a2 : k0.toNat ≤ 1000 := by omega
    have a3 := Nat.mul_le_mul a1 a2
    rw [sizeLine_eq]
    omega
  · cases e
theorem snd_div : SndOp g X (binaryOp .FloorDiv) divB := by
  intro B I H ρ σ ts vs da db x y d Q h r1 r2 e k
  unfold divB at e
  split at e
  · split at e <;> cases e
    rename_i hl
    obtain ⟨rfl, _⟩ := r1.int_i
    obtain ⟨rfl, _⟩ := r2.int_i
    have op : OpR X (binaryOp .FloorDiv) (rI (fun _ j => j ≠ 0 ∧ j.natAbs.log2 < 9000) fun i j => .int (i.fdiv j)) := opI fun _ _ _ _ _ _ _ hc q => floordiv_int hc.1 q (.inl (PyProof.noPylong_of_log2 hc.2))
    exact rO_of op ⟨_, _, rfl, rfl, hl, k I H _ (h.push .int)⟩
  · cases e
theorem snd_mod : SndOp g X (binaryOp .Mod) modB := by
  intro B I H ρ σ ts vs da db x y d Q h r1 r2 e k
  unfold modB at e
  split at e
  · split at e <;> cases e
    rename_i hl
    obtain ⟨rfl, _⟩ := r1.int_i
    obtain ⟨rfl, _⟩ := r2.int_i
    exact rO_of op_modN ⟨_, _, rfl, rfl, hl, k I H _ (h.push .int)⟩
  · cases e
theorem snd_pow : SndOp g X (binaryOp .Pow) powB := by
  intro B I H ρ σ ts vs da db x y d Q h r1 r2 e k
  unfold powB at e
  split at e
  · split at e <;> cases e
    rename_i hl
    obtain ⟨rfl, _⟩ := r1.int_i
    obtain ⟨rfl, _⟩ := r2.int_i
    exact rO_of op_pow ⟨_, _, rfl, rfl, hl, k I H _ (h.push .int)⟩
  · cases e
theorem snd_cmpI {f : Value → Value → Sem Value} {p : Int → Int → Bool} (ho : OpR X f (rI0 fun i j => .bl (p i j))) : SndOp g X f (cmpB p) := by
  intro B I H ρ σ ts vs da db x y d Q h r1 r2 e k
  unfold cmpB at e
  split at e <;> cases e
  obtain ⟨rfl, _⟩ := r1.int_i
  obtain ⟨rfl, _⟩ := r2.int_i
  exact rO_of ho ⟨_, _, rfl, rfl, k I H _ (h.push .bl)⟩
theorem snd_le : SndOp g X (compareOp .LtE) (cmpB fun i j => decide (i ≤ j)) := snd_cmpI op_le
theorem snd_gt : SndOp g X (compareOp .Gt) (cmpB fun i j => decide (j < i)) := snd_cmpI op_gt
theorem snd_ge : SndOp g X (compareOp .GtE) (cmpB fun i j => decide (j ≤ i)) := snd_cmpI op_ge
theorem snd_lt : SndOp g X (compareOp .Lt) ltB := by
  intro B I H ρ σ ts vs da db x y d Q h r1 r2 e k
  unfold ltB at e
  split at e <;> cases e
  · obtain ⟨rfl, _⟩ := r1.int_i
    obtain ⟨rfl, _⟩ := r2.int_i
    exact rO_of op_lt ⟨_, _, rfl, rfl, k I H _ (h.push .bl)⟩
  · obtain ⟨rfl, _⟩ := r1.str_i
    obtain ⟨rfl, _⟩ := r2.str_i
    exact rO_of op_lt_str ⟨_, _, rfl, rfl, k I H _ (h.push .bl)⟩
theorem Rep.non_iff (r : Rep g I H d v []) : decide (v = .non) = d.isN := by
  cases r <;> rfl
theorem Rep.bl' {p q : Bool} (h : p = q) : Rep g I H (.bl p) (.bl q) [] := by subst h; exact .bl
theorem snd_isN : SndOp g X (compareOp .Is) (isNonB false) := by
  intro B I H ρ σ ts vs da db x y d Q h r1 r2 e k
  unfold isNonB at e
  split at e <;> cases e
  · obtain ⟨rfl, _⟩ := r2.non_i
    refine rO_of op_isN ⟨rfl, ?_⟩
    rw [r1.non_iff]
    exact k I H _ (h.push (Rep.bl' (by simp)))
  · obtain ⟨rfl, _⟩ := r1.bl_i
    obtain ⟨rfl, _⟩ := r2.bl_i
    exact rO_of op_isBl ⟨_, _, rfl, rfl, k I H _ (h.push (Rep.bl' (by simp)))⟩
theorem snd_notN : SndOp g X (compareOp .IsNot) (isNonB true) := by
  intro B I H ρ σ ts vs da db x y d Q h r1 r2 e k
  unfold isNonB at e
  split at e <;> cases e
  · obtain ⟨rfl, _⟩ := r2.non_i
    refine rO_of op_notN ⟨rfl, ?_⟩
    rw [r1.non_iff]
    exact k I H _ (h.push (Rep.bl' (by simp)))
  · obtain ⟨rfl, _⟩ := r1.bl_i
    obtain ⟨rfl, _⟩ := r2.bl_i
    exact rO_of op_notBl ⟨_, _, rfl, rfl, k I H _ (h.push (Rep.bl' (by simp)))⟩

mutual
theorem Rep.dp (s : Same I H) : ∀ {d : D} {v : V} {f : List Addr} {p : PyData}, Rep g I H d v f → toPy d = some p → Dp g.K H v p
  | _, _, _, _, .non, e => by simp only [toPy] at e; cases e; exact .non
  | _, _, _, _, .bl, e => by simp only [toPy] at e; cases e; exact .bl _
  | _, _, _, _, .int, e => by simp only [toPy] at e; cases e; exact .int _
  | _, _, _, _, .str, e => by simp only [toPy] at e; cases e; exact .str _
  | _, _, _, _, .lst h r, e => by
    simp only [toPy, Option.map_eq_some_iff] at e
    obtain ⟨ps, e, rfl⟩ := e
    exact .lst (SqL.of (s _ _ h)) (Reps.dp s r e)
  | _, _, _, _, .con h r, e => by
    simp only [toPy, Option.map_eq_some_iff] at e
    obtain ⟨ps, e, rfl⟩ := e
    exact .lst (Same.seq s h) (Reps.dp s r e)
  | _, _, _, _, .tup h r, e => by
    simp only [toPy, Option.map_eq_some_iff] at e
    obtain ⟨ps, e, rfl⟩ := e
    exact .tup (h.same s).sq (Reps.dp s r e)
  | _, _, _, _, .ty, e => by simp only [toPy] at e; cases e
  | _, _, _, _, .cls _, e => by simp only [toPy] at e; cases e
  | _, _, _, _, .own _ _, e => by simp only [toPy] at e; cases e
  | _, _, _, _, .ins _ _ _, e => by simp only [toPy] at e; cases e
theorem Reps.dp (s : Same I H) : ∀ {ds : List D} {vs : List V} {f : List Addr} {ps : List PyData}, Reps g I H ds vs f → toPys ds = some ps → DpAll g.K H vs ps
  | _, _, _, _, .nil, e => by simp only [toPys] at e; cases e; exact .nil
  | _, _, _, _, .cons h r, e => by
    simp only [toPys] at e
    split at e
    · cases e
      rename_i p ps e1 e2
      exact .cons (Rep.dp s h e1) (Reps.dp s r e2)
    · cases e
end
theorem snd_eq (hK : X.K = g.K) (hu : X.A.units + 64 < cLine) : SndOp g X (compareOp .Eq) (eqB false) := by
  intro B I H ρ σ ts vs da db x y d Q h r1 r2 e k
  unfold eqB at e
  split at e
  · split at e <;> cases e
    rename_i p q e1 e2 hl
    refine rO_of (op_eqD hu) ⟨p, q, hK ▸ r1.dp h.same e1, hK ▸ r2.dp h.same e2, hl.1, hl.2, k I H _ (h.push (Rep.bl' (by simp)))⟩
  · cases e
theorem snd_ne (hK : X.K = g.K) (hu : X.A.units + 64 < cLine) : SndOp g X (compareOp .NotEq) (eqB true) := by
  intro B I H ρ σ ts vs da db x y d Q h r1 r2 e k
  unfold eqB at e
  split at e
  · split at e <;> cases e
    rename_i p q e1 e2 hl
    refine rO_of (op_neD hu) ⟨p, q, hK ▸ r1.dp h.same e1, hK ▸ r2.dp h.same e2, hl.1, hl.2, k I H _ (h.push (Rep.bl' (by simp)))⟩
  · cases e
end
end DV

set_option Elab.async false
set_option maxRecDepth 100000
set_option maxHeartbeats 4000000
set_option linter.all false
/-! DV7: tests, and, or, not; calls of defs as expressions; calls of built-ins. -/
namespace DV
open PySem L2 PySem.Spec PyProof.Rows

def tNotD (f : DenT) : DenT := fun ρ => match f ρ with
  | some (b, ρ') => some (!b, ρ')
  | none => none
def tAndD (f r : DenT) : DenT := fun ρ => match f ρ with
  | some (true, ρ') => r ρ'
  | some (false, ρ') => some (false, ρ')
  | none => none
def tOrD (f r : DenT) : DenT := fun ρ => match f ρ with
  | some (true, ρ') => some (true, ρ')
  | some (false, ρ') => r ρ'
  | none => none
/-- a truth as a value -/
def dOf (f : DenT) : Den := fun ρ => match f ρ with
  | some (b, ρ') => some (.bl b, ρ')
  | none => none
def dIf (c : DenT) (a b : Den) : Den := fun ρ => match c ρ with
  | some (true, ρ') => a ρ'
  | some (false, ρ') => b ρ'
  | none => none
/-- expressions whose test is the truth of their value -/
def plainT : Expr → Bool
  | .UnaryOp .Not _ _ | .BoolOp _ _ _ | .IfExp _ _ _ _ | .Compare _ _ _ _ => false
  | _ => true

section
variable {g : G} {X : Cx} {B : Bs} {I I' H H' : Hp} {ρ : List D} {σ : L2.St} {ts ds : List D} {vs ws us : List V} {d : D} {v : V} {f : List Addr} {a b e c : Expr} {fa fb fe : Den} {ft fu : DenT} {pos : Pos} {rest : List Expr}

theorem plain_test (h : plainT e = true) (env : Env) (whole : PySem.Sem Value) : isTrue e env whole = (do let v ← whole; standAt e.pos; holding [v] (truthy v)) := by
  cases e with
  | UnaryOp op x p => cases op <;> first | rfl | cases h
  | BoolOp _ _ _ => cases h
  | IfExp _ _ _ _ => cases h
  | Compare _ _ _ _ => cases h
  | _ => rfl
theorem snd_tval (hp : plainT e = true) (he : SndE g X e fe) : SndT g X e (tOf fe) := by
  intro B I H ρ σ ts vs t ρ' Q h q k
  exact mxT_of (pt_val pe_mx (plain_test hp _)) (he B I H ρ σ ts vs _ ρ' _ h (tOf_some q) fun I' H' v h' => ⟨t, h'.topBl.1, k I' H' h'.topBl.2⟩)
theorem snd_tnot (he : SndT g X e ft) : SndT g X (.UnaryOp .Not e pos) (tNotD ft) := by
  intro B I H ρ σ ts vs t ρ' Q h q k
  unfold tNotD at q
  cases q1 : ft ρ with
  | none => rw [q1] at q; cases q
  | some z =>
    obtain ⟨b, ρ1⟩ := z
    rw [q1] at q; cases q
    exact mxT_of (pt_not pt_mx) (he B I H ρ σ ts vs b _ _ h q1 k)
/-- a test whatever its whole is -/
def SndW (g : G) (X : Cx) (e : Expr) (f : DenT) : Prop :=
  ∀ (B : Bs) (I H : Hp) (ρ : List D) (σ : L2.St) (ts : List D) (vs : List V) (b : Bool) (ρ' : List D) (Q : Bool → Hp → Prop), StP g B I H ρ σ ts vs → f ρ = some (b, ρ') →
    (∀ I' H', StP g B I' H' ρ' σ ts vs → Q b H') → ∀ (whole : PySem.Sem Value) (pins : List (Addr × Obj)) (s : Shared), Inv X pins σ H s → wpAny (model X.prog X.w) X.A (isTrue e X.env whole) (TP X pins σ Q) X.xe s
def mxW (X : Cx) (e : Expr) : TT := fun σ H Q => ∀ (whole : PySem.Sem Value) (pins : List (Addr × Obj)) (s : Shared), Inv X pins σ H s → wpAny (model X.prog X.w) X.A (isTrue e X.env whole) (TP X pins σ Q) X.xe s
theorem pw_mx : PW X e (mxW X e) := ⟨fun w pins s _ _ _ I h => h w pins s I⟩
theorem SndW.t (h : SndW g X e ft) : SndT g X e ft := fun B I H ρ σ ts vs b ρ' Q hs q k => ⟨fun pins s Iv => h B I H ρ σ ts vs b ρ' Q hs q k _ pins s Iv⟩
theorem snd_and1 (h : SndT g X a ft) : SndW g X (.BoolOp .And [a] pos) ft := fun B I H ρ σ ts vs b ρ' Q hs q k w pins s Iv =>
  (pw_and1 pt_mx).run w pins s σ H Q Iv (h B I H ρ σ ts vs b ρ' Q hs q k)
theorem snd_or1 (h : SndT g X a ft) : SndW g X (.BoolOp .Or [a] pos) ft := fun B I H ρ σ ts vs b ρ' Q hs q k w pins s Iv =>
  (pw_or1 pt_mx).run w pins s σ H Q Iv (h B I H ρ σ ts vs b ρ' Q hs q k)
theorem snd_andc (h : SndT g X a ft) (h2 : SndW g X (.BoolOp .And (b :: rest) pos) fu) : SndW g X (.BoolOp .And (a :: b :: rest) pos) (tAndD ft fu) := by
  intro B I H ρ σ ts vs t ρ' Q hs q k w pins s Iv
  unfold tAndD at q
  refine (pw_and pt_mx pw_mx).run w pins s σ H Q Iv ?_
  cases q1 : ft ρ with
  | none => rw [q1] at q; cases q
  | some z =>
    obtain ⟨c, ρ1⟩ := z
    rw [q1] at q
    refine h B I H ρ σ ts vs c ρ1 _ hs q1 fun I1 H1 h1 => ?_
    cases c with
    | true => exact iteT (fun w pins s Iv => h2 B I1 H1 ρ1 σ ts vs t ρ' Q h1 q k w pins s Iv)
    | false => cases q; exact iteF (k I1 H1 h1)
theorem snd_orc (h : SndT g X a ft) (h2 : SndW g X (.BoolOp .Or (b :: rest) pos) fu) : SndW g X (.BoolOp .Or (a :: b :: rest) pos) (tOrD ft fu) := by
  intro B I H ρ σ ts vs t ρ' Q hs q k w pins s Iv
  unfold tOrD at q
  refine (pw_or pt_mx pw_mx).run w pins s σ H Q Iv ?_
  cases q1 : ft ρ with
  | none => rw [q1] at q; cases q
  | some z =>
    obtain ⟨c, ρ1⟩ := z
    rw [q1] at q
    refine h B I H ρ σ ts vs c ρ1 _ hs q1 fun I1 H1 h1 => ?_
    cases c with
    | false => exact iteF (fun w pins s Iv => h2 B I1 H1 ρ1 σ ts vs t ρ' Q h1 q k w pins s Iv)
    | true => cases q; exact iteT (k I1 H1 h1)
/-! as values: truths on both sides -/
theorem snd_vone {op : BoolOp} (h : SndE g X a fe) : SndE g X (.BoolOp op [a] pos) fe := fun B I H ρ σ ts vs d ρ' Q hs q k => mx_of (pe_one pe_mx) (h B I H ρ σ ts vs d ρ' Q hs q k)
def dAnd (f r : Den) : Den := fun ρ => match f ρ with
  | some (.bl true, ρ') => r ρ'
  | some (.bl false, ρ') => some (.bl false, ρ')
  | _ => none
def dOr (f r : Den) : Den := fun ρ => match f ρ with
  | some (.bl false, ρ') => r ρ'
  | some (.bl true, ρ') => some (.bl true, ρ')
  | _ => none
def dNot (f : Den) : Den := fun ρ => match f ρ with
  | some (.bl b, ρ') => some (.bl (!b), ρ')
  | _ => none
theorem snd_vand (h : SndE g X a fa) (h2 : SndE g X (.BoolOp .And (b :: rest) pos) fb) : SndE g X (.BoolOp .And (a :: b :: rest) pos) (dAnd fa fb) := by
  intro B I H ρ σ ts vs d ρ' Q hs q k
  unfold dAnd at q
  refine mx_of (pe_and pe_mx pe_mx) ?_
  split at q
  · rename_i ρ1 q1
    refine h B I H ρ σ ts vs _ ρ1 _ hs q1 fun I1 H1 v h1 => ⟨true, h1.topBl.1, iteT (h2 B I1 H1 ρ1 σ ts vs d ρ' Q h1.topBl.2 q k)⟩
  · rename_i ρ1 q1
    cases q
    refine h B I H ρ σ ts vs _ ρ' _ hs q1 fun I1 H1 v h1 => ⟨false, h1.topBl.1, iteF (k I1 H1 _ (h1.topBl.2.push .bl))⟩
  · cases q
theorem snd_vor (h : SndE g X a fa) (h2 : SndE g X (.BoolOp .Or (b :: rest) pos) fb) : SndE g X (.BoolOp .Or (a :: b :: rest) pos) (dOr fa fb) := by
  intro B I H ρ σ ts vs d ρ' Q hs q k
  unfold dOr at q
  refine mx_of (pe_or pe_mx pe_mx) ?_
  split at q
  · rename_i ρ1 q1
    refine h B I H ρ σ ts vs _ ρ1 _ hs q1 fun I1 H1 v h1 => ⟨false, h1.topBl.1, iteF (h2 B I1 H1 ρ1 σ ts vs d ρ' Q h1.topBl.2 q k)⟩
  · rename_i ρ1 q1
    cases q
    refine h B I H ρ σ ts vs _ ρ' _ hs q1 fun I1 H1 v h1 => ⟨true, h1.topBl.1, iteT (k I1 H1 _ (h1.topBl.2.push .bl))⟩
  · cases q
theorem snd_vnot (h : SndE g X a fa) : SndE g X (.UnaryOp .Not a pos) (dNot fa) := by
  intro B I H ρ σ ts vs d ρ' Q hs q k
  unfold dNot at q
  split at q
  · rename_i t ρ1 q1
    cases q
    exact mx_of (pe_not pe_mx) (h B I H ρ σ ts vs _ ρ' _ hs q1 fun I1 H1 v h1 => ⟨t, h1.topBl.1, k I1 H1 _ (h1.topBl.2.push .bl)⟩)
  · cases q
theorem snd_vif (hc : SndT g X c ft) (ha : SndE g X a fa) (hb : SndE g X b fb) : SndE g X (.IfExp c a b pos) (dIf ft fa fb) := by
  intro B I H ρ σ ts vs d ρ' Q hs q k
  unfold dIf at q
  refine mx_of (pe_ifExp pt_mx pe_mx pe_mx) ?_
  split at q
  · rename_i ρ1 q1
    exact hc B I H ρ σ ts vs _ ρ1 _ hs q1 fun I1 H1 h1 => iteT (ha B I1 H1 ρ1 σ ts vs d ρ' Q h1 q k)
  · rename_i ρ1 q1
    exact hc B I H ρ σ ts vs _ ρ1 _ hs q1 fun I1 H1 h1 => iteF (hb B I1 H1 ρ1 σ ts vs d ρ' Q h1 q k)
  · cases q
theorem snd_tif {fv fw : DenT} (hc : SndT g X c ft) (ha : SndT g X a fv) (hb : SndT g X b fw) : SndT g X (.IfExp c a b pos) (fun ρ => match ft ρ with | some (true, ρ') => fv ρ' | some (false, ρ') => fw ρ' | none => none) := by
  intro B I H ρ σ ts vs t ρ' Q hs q k
  refine ⟨fun pins s Iv => ?_⟩
  dsimp only at q
  have e : isTrue (.IfExp c a b pos) X.env (eval (.IfExp c a b pos) X.env) = (do if ← isTrue c X.env (eval c X.env) then isTrue a X.env (eval a X.env) else isTrue b X.env (eval b X.env)) := rfl
  rw [e]
  refine wpAny_bind ?_
  split at q
  · rename_i ρ1 q1
    refine thn ((hc B I H ρ σ ts vs _ ρ1 (fun t' H' => t' = true ∧ mxT X a σ H' Q) hs q1 fun I1 H1 h1 => ⟨rfl, ha B I1 H1 ρ1 σ ts vs t ρ' Q h1 q k⟩).run pins s Iv) fun r s1 ⟨H1, I1, er, m⟩ => ?_
    subst er
    exact m.run pins s1 I1
  · rename_i ρ1 q1
    refine thn ((hc B I H ρ σ ts vs _ ρ1 (fun t' H' => t' = false ∧ mxT X b σ H' Q) hs q1 fun I1 H1 h1 => ⟨rfl, hb B I1 H1 ρ1 σ ts vs t ρ' Q h1 q k⟩).run pins s Iv) fun r s1 ⟨H1, I1, er, m⟩ => ?_
    subst er
    exact m.run pins s1 I1
  · cases q
/-- a < b < c: b asked once -/
def dChain (φ ψ : D → D → Option D) (fa fb fc : Den) : Den := fun ρ => match fa ρ with
  | some (da, ρ1) => match fb ρ1 with
    | some (db, ρ2) => match φ (fz da) (fz db) with
      | some (.bl true) => match fc ρ2 with
        | some (dc, ρ3) => match ψ (fz db) (fz dc) with
          | some (.bl t) => some (.bl t, ρ3)
          | _ => none
        | none => none
      | some (.bl false) => some (.bl false, ρ2)
      | _ => none
    | none => none
  | none => none
end

/-! ### calls of defs -/
/-- no star among the arguments -/
def noStar : Expr → Bool
  | .Starred _ _ => false
  | _ => true
def noStars (es : List Expr) : Bool := es.all noStar
section
variable {g : G} {X : Cx} {x : Str} {p pos : Pos} {e : Expr} {es : List Expr} {gd : Bool} {n : Nat} {fn : Fn} {r : Dens} {fe : Den}
theorem noStar_ne (h : noStar e = true) : ∀ v p, e ≠ .Starred v p := fun v p z => by subst z; cases h
theorem noStars_ne (h : noStars es = true) : ∀ v p, Expr.Starred v p ∉ es := fun v p z => by
  have := List.all_eq_true.mp h _ z
  cases this
theorem snd_callP (C : CallOk X x gd n (spD g false n fn)) (hg : Gl X x) (hd : (x == ("__debug__" : Str)) = false) (hs : noStars (e :: es) = true) (hn : (e :: es).length = n) (hr : SndL g X (e :: es) r) : SndE g X (.Call (.Name x p) (e :: es) [] pos) (dCallP fn r) := by
  intro B I H ρ σ ts vs d ρ' Q h q k
  unfold dCallP at q
  cases q1 : r ρ with
  | none => rw [q1] at q; cases q
  | some z =>
    obtain ⟨ds, ρ1⟩ := z
    rw [q1] at q
    dsimp only at q
    cases q2 : fn (ds.map fz) with
    | none => rw [q2] at q; cases q
    | some z =>
      obtain ⟨d0, o⟩ := z
      rw [q2] at q; cases q
      have hs' : noStar e = true ∧ noStars es = true := by simpa [noStars] using hs
      exact C.run hg hd (noStar_ne hs'.1) (noStars_ne hs'.2) (hr B I H ρ σ ts vs ds _ _ h q1 fun I1 H1 ws h1 hl hw => h1.callP hl q2 (hw.trans hn) k)
theorem snd_callT (C : CallOk X x gd n (spD g true n fn)) (hg : Gl X x) (hd : (x == ("__debug__" : Str)) = false) (hs : noStars (e :: es) = true) (hn : (e :: es).length = n) (he : SndE g X e fe) (hr : SndL g X es r) : SndE g X (.Call (.Name x p) (e :: es) [] pos) (dCallT fn fe r) := by
  intro B I H ρ σ ts vs d ρ' Q h q k
  unfold dCallT at q
  cases q0 : fe ρ with
  | none => rw [q0] at q; cases q
  | some z =>
    obtain ⟨d0, ρ0⟩ := z
    rw [q0] at q
    dsimp only at q
    cases q1 : r ρ0 with
    | none => rw [q1] at q; cases q
    | some z =>
      obtain ⟨ds, ρ1⟩ := z
      rw [q1] at q
      dsimp only at q
      cases q2 : fn (d0 :: ds.map fz) with
      | none => rw [q2] at q; cases q
      | some z =>
        obtain ⟨d1, o⟩ := z
        rw [q2] at q; cases q
        have hs' : noStar e = true ∧ noStars es = true := by simpa [noStars] using hs
        have key : SndL g X (e :: es) (dCons fe r) := snd_cons he hr (noStar_ne hs'.1)
        refine C.run hg hd (noStar_ne hs'.1) (noStars_ne hs'.2) (key B I H ρ σ ts vs (d0 :: ds) _ _ h (by unfold dCons; rw [q0]; dsimp only; rw [q1]) fun I1 H1 ws h1 hl hw => ?_)
        cases ws with
        | nil => cases hl
        | cons v0 ws => exact h1.callT (by simpa using hl) q2 (by simpa using hw.trans hn) k
/-- the first argument the name in slot i -/
theorem snd_callR {i : Nat} {y : Str} {p' : Pos} (C : CallOk X x gd n (spD g true n fn)) (hg : Gl X x) (hd : (x == ("__debug__" : Str)) = false) (hs : noStars es = true) (hn : es.length + 1 = n)
    (hN : X.N[i]? = some y) (hv : Vis X.env.scope y) (hyd : (y == ("__debug__" : Str)) = false) (hcd : (y == ("__classdict__" : Str)) = false) (hr : SndL g X es r) : SndE g X (.Call (.Name x p) (.Name y p' :: es) [] pos) (dCallR fn i r) := by
  intro B I H ρ σ ts vs d ρ' Q h q k
  unfold dCallR at q
  split at q
  · rename_i h0
    cases q1 : r ρ with
    | none => rw [q1] at q; cases q
    | some z =>
      obtain ⟨ds, ρ1⟩ := z
      rw [q1] at q
      dsimp only at q
      split at q
      · rename_i h1'
        obtain ⟨d0, q0, hu⟩ := held_some h1'
        have eg : ρ1.getD i .und = d0 := by rw [List.getD_eq_getElem?_getD, q0]; rfl
        rw [eg] at q
        cases q2 : fn (d0 :: ds.map fz) with
        | none => rw [q2] at q; cases q
        | some z =>
          obtain ⟨d1, o⟩ := z
          rw [q2] at q; cases q
          refine C.run hg hd (noStar_ne rfl) (noStars_ne hs) ?_
          obtain ⟨dz, ez, hz⟩ := held_some h0
          obtain ⟨v0, _, e0, _⟩ := h.var ez hz
          refine mxA_of (pa_cons (es := es) (pe_var hN hv hyd hcd) pa_mx rfl) ⟨v0, e0, ?_⟩
          refine hr B I H ρ σ ts vs ds ρ1 _ h q1 fun I1 H1 ws h1 hl hw => ?_
          obtain ⟨v1, e1, sp⟩ := h1.callR (n := n) hl q0 hu q2 (by omega) k
          rw [e0] at e1
          cases e1
          exact sp
      · cases q
  · cases q
end
end DV

set_option Elab.async false
set_option maxRecDepth 100000
set_option maxHeartbeats 4000000
set_option linter.all false
/-! DV8: calls of built-ins on deep values. -/
namespace DV
open PySem L2 PySem.Spec PyProof.Rows

def kinds : List String := ["NoneType", "bool", "int", "str", "list", "tuple", "dict"]
/-- what isinstance asks of an own class -/
structure ClsFacts (g : G) (c : Nat) (C : Addr) : Prop where
  cl : Cls g.K C
  ha : PySem.W.findIn g.K (.ref C) "__class__" = some (some (.builtin "object.__class__"))
  hn : PySem.W.specialIn g.K (.builtin "object.__class__") "__get__" = some (some (.builtin "getset_descriptor.__get__"))
  htk : PySem.W.takesIn g.K (.builtin "object.__class__") = some true
  hm : PySem.W.mroIn g.K C (.type "object") = some true
  bt : ∀ n ∈ kinds, PySem.W.kitOne g.K (.type n) (.ref C) = some false
  tb : ∀ n ∈ kinds, PySem.W.kitOne g.K (.ref C) (.type n) = some false
structure GOk (g : G) : Prop where
  cls : ∀ c C, g.cls c = some C → ClsFacts g c C
  apart : ∀ c c' C C', g.cls c = some C → g.cls c' = some C' → c ≠ c' → PySem.W.kitOne g.K (.ref C) (.ref C') = some false

/-- the built-in type of a value -/
def tyS : D → Option String
  | .non => some "NoneType"
  | .bl _ => some "bool"
  | .int _ => some "int"
  | .str _ => some "str"
  | .lst _ | .con _ => some "list"
  | .tup _ => some "tuple"
  | _ => none
/-- a built-in type, or an own class -/
def kd : D → Option (Sum String Nat)
  | .ins c _ => some (.inr c)
  | d => (tyS d).map .inl
def isOne (d c : D) : Option Bool := match kd d, c with
  | some (.inl t), .ty n => if n ∈ kinds then some (t == n || (t == "bool" && n == "int")) else none
  | some (.inr _), .ty n => if n ∈ kinds then some false else none
  | some (.inl _), .cls _ => some false
  | some (.inr c'), .cls c => some (decide (c' = c))
  | _, _ => none
/-- every class asked is a class -/
def allCls (d : D) (cs : List D) : Bool := cs.all fun c => (isOne d c).isSome
def isAny (d : D) : List D → Option Bool
  | [] => some false
  | c :: r => match isOne d c with
    | some true => some true
    | some false => isAny d r
    | none => none
def isiB : List D → Option D
  | [d, .tup cs] => if allCls d cs = true ∧ 0 < cs.length then (isAny d cs).map .bl else none
  | [d, c] => (isOne d c).map .bl
  | _ => none
def absB : List D → Option D
  | [.int i] => some (.int (if i < 0 then -i else i))
  | _ => none
def maxB : List D → Option D
  | [.int i, .int j] => some (.int (if j > i then j else i))
  | _ => none
def minB : List D → Option D
  | [.int i, .int j] => some (.int (if j < i then j else i))
  | _ => none
def intB : List D → Option D
  | [.int i] => some (.int i)
  | [.bl b] => some (.int (if b then 1 else 0))
  | _ => none
def lenB : List D → Option D
  | [.str x] => if x.length ≤ 100000 then some (.int x.length) else none
  | [.lst xs] => some (.int xs.length)
  | [.con xs] => some (.int xs.length)
  | [.tup xs] => some (.int xs.length)
  | _ => none
def divmodB : List D → Option D
  | [.int i, .int j] => if 0 < j ∧ j < 1073741824 then some (.tup [.int (i / j), .int (i % j)]) else none
  | _ => none
def tupleB : List D → Option D
  | [.lst xs] => some (.tup xs)
  | [.con xs] => some (.tup xs)
  | [.tup xs] => some (.tup xs)
  | _ => none
def listB : List D → Option D
  | [.lst xs] => some (.own xs)
  | [.con xs] => some (.own xs)
  | [.tup xs] => some (.own xs)
  | _ => none
def strB : List D → Option D
  | [.int i] => if i.natAbs.log2 < 1920 then some (.str (toString i : String)) else none
  | [.str x] => some (.str x)
  | _ => none
def reprB : List D → Option D
  | [d] => match toPy d with
    | some p => if p.showable = true ∧ p.depth ≤ 60 ∧ p.hasDict = false ∧ p.shown.length ≤ 100000 then some (.str p.shown) else none
    | none => none
  | _ => none
def boolsOf : List D → Option (List Bool)
  | [] => some []
  | .bl b :: r => (boolsOf r).map (b :: ·)
  | _ => none
def allB : List D → Option D
  | [.lst xs] => (boolsOf xs).map fun bs => .bl (bs.all id)
  | _ => none
def anyB : List D → Option D
  | [.lst xs] => (boolsOf xs).map fun bs => .bl (bs.any id)
  | _ => none
def intsOf : List D → Option (List Int)
  | [] => some []
  | .int b :: r => (intsOf r).map (b :: ·)
  | _ => none
def sumB : List D → Option D
  | [.lst xs] => (intsOf xs).map fun bs => .int bs.sum
  | [.tup xs] => none
  | _ => none

section
variable {g : G} {X : Cx} {B : Bs} {I I' H H' : Hp} {ρ : List D} {σ : L2.St} {ts ds : List D} {vs ws us : List V} {d : D} {v : V} {f : List Addr} {x : Str} {id T : String} {φ : List D → Option D} {e : Expr} {es : List Expr} {r : Dens} {p pos : Pos}

theorem stars_any (h : noStars es = true) : (backTo pos (starEach es X.env)).any (·.1) = false := by
  have : ∀ l : List Expr, noStars l = true → (starEach l X.env).any (·.1) = false := by
    intro l
    induction l with
    | nil => intro _; rfl
    | cons a r ih =>
      intro hl
      have hl' : noStar a = true ∧ noStars r = true := by simpa [noStars] using hl
      rw [starOk (noStar_ne hl'.1), List.any_cons, ih hl'.2]
      rfl
  unfold backTo
  rw [List.any_map]
  exact this es h
theorem snd_blt (hc : SndC g X (.builtin id) φ) (hg : Gl X x) (hm : X.mg x = none) (hv : bootBuiltins x = some (.builtin id)) (hn : x ≠ "__name__") (hd : (x == ("__debug__" : Str)) = false) (hs : noStars (e :: es) = true) (hr : SndL g X (e :: es) r) :
    SndE g X (.Call (.Name x p) (e :: es) [] pos) (dBlt φ r) := by
  intro B I H ρ σ ts vs d ρ' Q h q k
  unfold dBlt at q
  have hs' : noStar e = true ∧ noStars es = true := by simpa [noStars] using hs
  cases q1 : r ρ with
  | none => rw [q1] at q; cases q
  | some z =>
    obtain ⟨ds, ρ1⟩ := z
    rw [q1] at q
    dsimp only at q
    cases q2 : φ (ds.map fz) with
    | none => rw [q2] at q; cases q
    | some d0 =>
      rw [q2] at q; cases q
      refine mx_of (pe_callB opC hg hm hv pa_mx hn hd (starOk (noStar_ne hs'.1)) (stars_any hs'.2)) ?_
      refine hr B I H ρ σ ts vs ds _ _ h q1 fun I1 H1 ws h1 hl _ => ?_
      obtain ⟨I2, si, h2, rr⟩ := h1.fzTop hl
      exact hc B I2 H1 _ σ ts vs _ ws d Q (h2.pop (by simpa using hl)) rr q2 k
theorem snd_bltT (hc : SndC g X (.type T) φ) (hg : Gl X x) (hm : X.mg x = none) (hv : bootBuiltins x = some (.type T)) (hn : x ≠ "__name__") (hd : (x == ("__debug__" : Str)) = false) (hs : noStars (e :: es) = true) (hr : SndL g X (e :: es) r) :
    SndE g X (.Call (.Name x p) (e :: es) [] pos) (dBlt φ r) := by
  intro B I H ρ σ ts vs d ρ' Q h q k
  unfold dBlt at q
  have hs' : noStar e = true ∧ noStars es = true := by simpa [noStars] using hs
  cases q1 : r ρ with
  | none => rw [q1] at q; cases q
  | some z =>
    obtain ⟨ds, ρ1⟩ := z
    rw [q1] at q
    dsimp only at q
    cases q2 : φ (ds.map fz) with
    | none => rw [q2] at q; cases q
    | some d0 =>
      rw [q2] at q; cases q
      refine mx_of (pe_callTy opC hg hm hv pa_mx hn hd (starOk (noStar_ne hs'.1)) (stars_any hs'.2)) ?_
      refine hr B I H ρ σ ts vs ds _ _ h q1 fun I1 H1 ws h1 hl _ => ?_
      obtain ⟨I2, si, h2, rr⟩ := h1.fzTop hl
      exact hc B I2 H1 _ σ ts vs _ ws d Q (h2.pop (by simpa using hl)) rr q2 k

theorem kit_tt : ∀ t ∈ kinds, ∀ n ∈ kinds, kitB t n = some (t == n || (t == "bool" && n == "int")) := by decide +kernel
theorem Rep.tyx (s : Same I H) {t : String} (h : Rep g I H d v []) (e : tyS d = some t) : TyX g.K H v (.type t) ∧ t ∈ kinds := by
  cases h with
  | non => cases e; exact ⟨.base .non, by decide⟩
  | bl => cases e; exact ⟨.base (.bl _), by decide⟩
  | int => cases e; exact ⟨.base (.int _), by decide⟩
  | str => cases e; exact ⟨.base (.str _), by decide⟩
  | lst h r => cases e; exact ⟨.base (.lst (s _ _ h)), by decide⟩
  | con h r =>
    cases e
    refine ⟨?_, by decide⟩
    rcases h with (h | ⟨o, h⟩) | ⟨o, its, n, h, c, _⟩
    · exact .base (.lst (s _ _ h))
    · exact .base (.frz (s _ _ h))
    · exact .kList h c
  | tup h r =>
    cases e
    refine ⟨?_, by decide⟩
    rcases h with h | ⟨o, its, n, h, c, _⟩
    · exact .base (.tup (s _ _ h))
    · exact .kTuple h c
  | _ => cases e
theorem Rep.kdl (s : Same I H) {t : String} (h : Rep g I H d v []) (e : kd d = some (.inl t)) : TyX g.K H v (.type t) ∧ t ∈ kinds := by
  have : tyS d = some t := by
    unfold kd at e
    split at e
    · cases e
    · simpa using e
  exact h.tyx s this
theorem Rep.kdr (G : GOk g) (s : Same I H) {c : Nat} (h : Rep g I H d v []) (e : kd d = some (.inr c)) : ∃ C, g.cls c = some C ∧ TyX g.K H v (.ref C) := by
  cases h with
  | ins hc h r =>
    cases e
    obtain F := G.cls _ _ hc
    exact ⟨_, hc, .base (.ins (s _ _ h) F.cl F.ha F.hn F.htk F.hm)⟩
  | _ => simp [kd, tyS] at e
theorem isOne_ok (G : GOk g) (s : Same I H) {c : D} {cv : V} {b : Bool} {t u : Value} (hd : Rep g I H d v []) (hc : Rep g I H c cv []) (e : isOne d c = some b) : ∃ t u, ClsV cv u ∧ TyX g.K H v t ∧ PySem.W.kitOne g.K t u = some b := by
  unfold isOne at e
  split at e
  · rename_i t n e1
    split at e <;> cases e
    rename_i hn
    cases hc
    obtain ⟨ty, ht⟩ := hd.kdl s e1
    exact ⟨_, _, .ty n, ty, kit_ty (kit_tt t ht n hn)⟩
  · rename_i c n e1
    split at e <;> cases e
    rename_i hn
    cases hc
    obtain ⟨C, h1, ty⟩ := hd.kdr G s e1
    exact ⟨_, _, .ty n, ty, (G.cls _ _ h1).tb n hn⟩
  · rename_i t c e1
    cases e
    cases hc with
    | cls hcc =>
      obtain ⟨ty, ht⟩ := hd.kdl s e1
      exact ⟨_, _, .own _, ty, (G.cls _ _ hcc).bt t ht⟩
  · rename_i c' c e1
    cases e
    cases hc with
    | cls hcc =>
      obtain ⟨C, h1, ty⟩ := hd.kdr G s e1
      refine ⟨_, _, .own _, ty, ?_⟩
      by_cases z : c' = c
      · subst z
        rw [h1] at hcc
        cases hcc
        rw [decide_eq_true rfl]
        unfold PySem.W.kitOne
        simp
      · rw [decide_eq_false z]
        exact G.apart _ _ _ _ h1 hcc z
  · cases e
/-- one kind of value: the same type for all classes asked -/
theorem kd_ty (G : GOk g) (s : Same I H) (hd : Rep g I H d v []) {k : Sum String Nat} (e : kd d = some k) : ∃ t, TyX g.K H v t ∧ ∀ c cv b, Rep g I H c cv [] → isOne d c = some b → ∃ u, ClsV cv u ∧ PySem.W.kitOne g.K t u = some b := by
  cases k with
  | inl t =>
    obtain ⟨ty, ht⟩ := hd.kdl s e
    refine ⟨_, ty, fun c cv b hc q => ?_⟩
    unfold isOne at q
    rw [e] at q
    cases hc with
    | ty =>
      dsimp only at q
      split at q <;> cases q
      rename_i hn
      exact ⟨_, .ty _, kit_ty (kit_tt t ht _ hn)⟩
    | cls hcc => cases q; exact ⟨_, .own _, (G.cls _ _ hcc).bt t ht⟩
    | _ => cases q
  | inr c0 =>
    obtain ⟨C, h1, ty⟩ := hd.kdr G s e
    refine ⟨_, ty, fun c cv b hc q => ?_⟩
    unfold isOne at q
    rw [e] at q
    cases hc with
    | ty =>
      dsimp only at q
      split at q <;> cases q
      rename_i hn
      exact ⟨_, .ty _, (G.cls _ _ h1).tb _ hn⟩
    | cls hcc =>
      cases q
      refine ⟨_, .own _, ?_⟩
      rename_i c C2
      by_cases z : c0 = c
      · subst z
        rw [h1] at hcc
        cases hcc
        rw [decide_eq_true rfl]
        unfold PySem.W.kitOne
        simp
      · rw [decide_eq_false z]
        exact G.apart _ _ _ _ h1 hcc z
    | _ => cases q
theorem isAny_kd : ∀ {cs : List D} {b : Bool}, isAny d cs = some b → cs ≠ [] → ∃ k, kd d = some k
  | [], _, _, n => absurd rfl n
  | c :: r, b, e, _ => by
    unfold isAny at e
    cases q : kd d with
    | some k => exact ⟨k, rfl⟩
    | none =>
      have : isOne d c = none := by unfold isOne; rw [q]
      rw [this] at e
      cases e
theorem isAny_ok {t : Value} (hk : ∀ c cv b, Rep g I H c cv [] → isOne d c = some b → ∃ u, ClsV cv u ∧ PySem.W.kitOne g.K t u = some b) : ∀ {cs : List D} {ws : List V} {b : Bool}, Reps g I H cs ws [] → isAny d cs = some b → (∀ c ∈ cs, ∃ b, isOne d c = some b) → ∃ us, Paired ClsV ws us ∧ PySem.W.kitAny g.K t us = some b
  | [], ws, b, r, e, _ => by
    cases r
    cases e
    exact ⟨[], .nil, rfl⟩
  | c :: cs, ws, b, r, e, all => by
    obtain ⟨vs, vs', f1, f2, rfl, ef, h1, h2⟩ := Reps.split (ds := [c]) (ds' := cs) r
    obtain ⟨rfl, rfl⟩ := List.append_eq_nil_iff.mp ef.symm
    obtain ⟨v1, rfl, r1⟩ := h1.one_inv
    unfold isAny at e
    obtain ⟨b1, q1⟩ := all c (List.mem_cons_self ..)
    obtain ⟨u, cu, ku⟩ := hk c v1 b1 r1 q1
    rw [q1] at e
    cases b1 with
    | true =>
      cases e
      -- the others are classes too
      have rest : ∀ {cs : List D} {ws : List V}, Reps g I H cs ws [] → (∀ c ∈ cs, ∃ b, isOne d c = some b) → ∃ us, Paired ClsV ws us := by
        intro cs
        induction cs with
        | nil => intro ws r _; cases r; exact ⟨[], .nil⟩
        | cons c cs ih =>
          intro ws r all
          obtain ⟨vs, vs', f1, f2, rfl, ef, h1, h2⟩ := Reps.split (ds := [c]) (ds' := cs) r
          obtain ⟨rfl, rfl⟩ := List.append_eq_nil_iff.mp ef.symm
          obtain ⟨v2, rfl, r2⟩ := h1.one_inv
          obtain ⟨b2, q2⟩ := all c (List.mem_cons_self ..)
          obtain ⟨u2, cu2, _⟩ := hk c v2 b2 r2 q2
          obtain ⟨us, p⟩ := ih h2 fun c hc => all c (List.mem_cons_of_mem _ hc)
          exact ⟨u2 :: us, .cons cu2 p⟩
      obtain ⟨us, p⟩ := rest h2 fun c hc => all c (List.mem_cons_of_mem _ hc)
      exact ⟨u :: us, .cons cu p, kitAny_cons ku (fun z => nomatch z) fun _ => rfl⟩
    | false =>
      obtain ⟨us, p, q⟩ := isAny_ok hk h2 e fun c hc => all c (List.mem_cons_of_mem _ hc)
      exact ⟨u :: us, .cons cu p, kitAny_cons ku (fun _ => q) fun z => nomatch z⟩

theorem allCls_of {cs : List D} (h : allCls d cs = true) : ∀ c ∈ cs, ∃ b, isOne d c = some b := fun c hc => Option.isSome_iff_exists.mp (List.all_eq_true.mp h c hc)
theorem snd_isi (G : GOk g) (hK : X.K = g.K) : SndC g X (.builtin "isinstance") isiB := by
  intro B I H ρ σ ts vs ds xs d Q h r e k
  unfold isiB at e
  split at e
  · rename_i da cs
    split at e
    · rename_i hc
      obtain ⟨v1, v2, rfl, r1, r2⟩ := Reps.two r
      obtain ⟨b, e1, rfl⟩ := Option.map_eq_some_iff.mp e
      obtain ⟨kk, hk⟩ := isAny_kd e1 (fun z => by subst z; exact absurd hc.2 (by decide))
      obtain ⟨t, ty, ok⟩ := kd_ty G h.same r1 hk
      obtain ⟨p, us, rfl, _, tp, q⟩ := r2.tup_i
      obtain ⟨ws, pw, ka⟩ := isAny_ok ok q e1 (allCls_of hc.1)
      rcases tp with tp | ⟨o, its, n, lk, oc, od, oz, ov⟩
      · exact rC_of call_isiT ⟨_, _, _, _, _, _, rfl, h.same _ _ tp, pw, hK ▸ ty, hK ▸ ka, k I H _ (h.push .bl)⟩
      · have ew := ClsV.all pw ov
        obtain ⟨oc', odd, odt, osl⟩ := o
        simp only at oc od
        subst oc od
        refine rC_of call_isiK ⟨_, _, odd, ws, n, osl, _, _, rfl, ?_, hK ▸ ty, hK ▸ ka, k I H _ (h.push .bl)⟩
        rw [hK, lk, ← ew]
    · cases e
  · rename_i da c _
    obtain ⟨v1, v2, rfl, r1, r2⟩ := Reps.two r
    obtain ⟨b, e1, rfl⟩ := Option.map_eq_some_iff.mp e
    obtain ⟨t, u, cu, ty, ko⟩ := isOne_ok (t := .none) (u := .none) G h.same r1 r2 e1
    exact rC_of call_isi ⟨_, _, _, _, _, rfl, cu, hK ▸ ty, hK ▸ ko, k I H _ (h.push .bl)⟩
  · cases e
theorem snd_abs : SndC g X (.builtin "abs") absB := by
  intro B I H ρ σ ts vs ds xs d Q h r e k
  unfold absB at e
  split at e <;> cases e
  obtain ⟨v1, rfl, r1⟩ := r.ones
  obtain ⟨rfl, _⟩ := r1.int_i
  exact rC_of call_abs ⟨_, rfl, k I H _ (h.push .int)⟩
theorem snd_max (hc : X.calm = true) : SndC g X (.builtin "max") maxB := by
  intro B I H ρ σ ts vs ds xs d Q h r e k
  unfold maxB at e
  split at e <;> cases e
  obtain ⟨v1, v2, rfl, r1, r2⟩ := r.two
  obtain ⟨rfl, _⟩ := r1.int_i
  obtain ⟨rfl, _⟩ := r2.int_i
  exact rC_of (call_max2 hc) ⟨_, _, rfl, k I H _ (h.push .int)⟩
theorem snd_min (hc : X.calm = true) : SndC g X (.builtin "min") minB := by
  intro B I H ρ σ ts vs ds xs d Q h r e k
  unfold minB at e
  split at e <;> cases e
  obtain ⟨v1, v2, rfl, r1, r2⟩ := r.two
  obtain ⟨rfl, _⟩ := r1.int_i
  obtain ⟨rfl, _⟩ := r2.int_i
  exact rC_of (call_min2 hc) ⟨_, _, rfl, k I H _ (h.push .int)⟩
theorem snd_intf : SndC g X (.type "int") intB := by
  intro B I H ρ σ ts vs ds xs d Q h r e k
  unfold intB at e
  split at e <;> cases e
  · obtain ⟨v1, rfl, r1⟩ := r.ones
    obtain ⟨rfl, _⟩ := r1.int_i
    exact rC_of call_int1 (.inl ⟨_, rfl, k I H _ (h.push .int)⟩)
  · obtain ⟨v1, rfl, r1⟩ := r.ones
    obtain ⟨rfl, _⟩ := r1.bl_i
    exact rC_of call_int1 (.inr ⟨_, rfl, k I H _ (h.push .int)⟩)
theorem snd_len (hK : X.K = g.K) : SndC g X (.builtin "len") lenB := by
  intro B I H ρ σ ts vs ds xs d Q h r e k
  unfold lenB at e
  split at e
  · split at e <;> cases e
    rename_i hl
    obtain ⟨v1, rfl, r1⟩ := r.ones
    obtain ⟨rfl, _⟩ := r1.str_i
    exact rC_of call_len_str ⟨_, rfl, line100 hl, k I H _ (h.push .int)⟩
  · cases e
    obtain ⟨v1, rfl, r1⟩ := r.ones
    obtain ⟨p, us, rfl, _, hp, q⟩ := r1.lst_i
    refine rC_of call_len_seq ⟨_, us, rfl, .inl (SqL.of (h.same _ _ hp)), ?_⟩
    rw [← q.length]
    exact k I H _ (h.push .int)
  · cases e
    obtain ⟨v1, rfl, r1⟩ := r.ones
    obtain ⟨p, us, rfl, _, hp, q⟩ := r1.con_i
    refine rC_of call_len_seq ⟨_, us, rfl, .inl (hK ▸ h.same.seq hp), ?_⟩
    rw [← q.length]
    exact k I H _ (h.push .int)
  · cases e
    obtain ⟨v1, rfl, r1⟩ := r.ones
    obtain ⟨p, us, rfl, _, hp, q⟩ := r1.tup_i
    refine rC_of call_len_seq ⟨_, us, rfl, .inr (hK ▸ (hp.same h.same).sq), ?_⟩
    rw [← q.length]
    exact k I H _ (h.push .int)
  · cases e
theorem snd_divmod : SndC g X (.builtin "divmod") divmodB := by
  intro B I H ρ σ ts vs ds xs d Q h r e k
  unfold divmodB at e
  split at e
  · split at e <;> cases e
    rename_i hl
    obtain ⟨v1, v2, rfl, r1, r2⟩ := r.two
    obtain ⟨rfl, _⟩ := r1.int_i
    obtain ⟨rfl, _⟩ := r2.int_i
    exact rC_of call_divmod ⟨_, _, rfl, hl, fun p hp => k _ _ _ (h.newT hp (by simpa using Reps.cons .int (Reps.one .int)))⟩
  · cases e
theorem snd_tuple (hK : X.K = g.K) : SndC g X (.type "tuple") tupleB := by
  intro B I H ρ σ ts vs ds xs d Q h r e k
  unfold tupleB at e
  split at e <;> cases e
  · obtain ⟨v1, rfl, r1⟩ := r.ones
    obtain ⟨p, us, rfl, _, hp, q⟩ := r1.lst_i
    exact rC_of call_tuple_of ⟨p, us, rfl, .inl ⟨SqL.of (h.same _ _ hp), fun l hl => k _ _ _ (h.newT hl q)⟩⟩
  · obtain ⟨v1, rfl, r1⟩ := r.ones
    obtain ⟨p, us, rfl, _, hp, q⟩ := r1.con_i
    exact rC_of call_tuple_of ⟨p, us, rfl, .inl ⟨hK ▸ h.same.seq hp, fun l hl => k _ _ _ (h.newT hl q)⟩⟩
  · obtain ⟨v1, rfl, r1⟩ := r.ones
    obtain ⟨p, us, rfl, _, hp, q⟩ := r1.tup_i
    exact rC_of call_tuple_of ⟨p, us, rfl, .inr ⟨hK ▸ (hp.same h.same).sq, k I H _ (h.push (.tup hp q))⟩⟩
theorem snd_list (hK : X.K = g.K) : SndC g X (.type "list") listB := by
  intro B I H ρ σ ts vs ds xs d Q h r e k
  unfold listB at e
  split at e <;> cases e
  · obtain ⟨v1, rfl, r1⟩ := r.ones
    obtain ⟨p, us, rfl, _, hp, q⟩ := r1.lst_i
    exact rC_of call_list_of ⟨p, us, rfl, .inl (SqL.of (h.same _ _ hp)), fun l hl => k _ _ _ (h.newL hl q)⟩
  · obtain ⟨v1, rfl, r1⟩ := r.ones
    obtain ⟨p, us, rfl, _, hp, q⟩ := r1.con_i
    exact rC_of call_list_of ⟨p, us, rfl, .inl (hK ▸ h.same.seq hp), fun l hl => k _ _ _ (h.newL hl q)⟩
  · obtain ⟨v1, rfl, r1⟩ := r.ones
    obtain ⟨p, us, rfl, _, hp, q⟩ := r1.tup_i
    exact rC_of call_list_of ⟨p, us, rfl, .inr (hK ▸ (hp.same h.same).sq), fun l hl => k _ _ _ (h.newL hl q)⟩
theorem snd_strf : SndC g X (.type "str") strB := by
  intro B I H ρ σ ts vs ds xs d Q h r e k
  unfold strB at e
  split at e
  · split at e <;> cases e
    rename_i hl
    obtain ⟨v1, rfl, r1⟩ := r.ones
    obtain ⟨rfl, _⟩ := r1.int_i
    exact rC_of call_str_int ⟨_, rfl, hl, k I H _ (h.push .str)⟩
  · cases e
    obtain ⟨v1, rfl, r1⟩ := r.ones
    obtain ⟨rfl, _⟩ := r1.str_i
    exact rC_of SkE.call_str_str ⟨_, rfl, k I H _ (h.push .str)⟩
  · cases e
theorem boolsOf_reps : ∀ {xs : List D} {us : List V} {bs : List Bool} {f : List Addr}, Reps g I H xs us f → boolsOf xs = some bs → us = bs.map V.bl
  | [], us, bs, f, r, e => by cases r; cases e; rfl
  | d :: xs, us, bs, f, r, e => by
    cases r with
    | cons r1 r2 =>
      unfold boolsOf at e
      split at e
      · rename_i e0; cases e0
      · rename_i b r0 e0
        cases e0
        obtain ⟨bs, e1, rfl⟩ := Option.map_eq_some_iff.mp e
        rw [boolsOf_reps r2 e1, r1.bl_i.1]
        rfl
      · cases e
theorem intsOf_reps : ∀ {xs : List D} {us : List V} {bs : List Int} {f : List Addr}, Reps g I H xs us f → intsOf xs = some bs → us = bs.map V.int
  | [], us, bs, f, r, e => by cases r; cases e; rfl
  | d :: xs, us, bs, f, r, e => by
    cases r with
    | cons r1 r2 =>
      unfold intsOf at e
      split at e
      · rename_i e0; cases e0
      · rename_i b r0 e0
        cases e0
        obtain ⟨bs, e1, rfl⟩ := Option.map_eq_some_iff.mp e
        rw [intsOf_reps r2 e1, r1.int_i.1]
        rfl
      · cases e
theorem snd_all (hc : X.calm = true) : SndC g X (.builtin "all") allB := by
  intro B I H ρ σ ts vs ds xs d Q h r e k
  unfold allB at e
  split at e
  · obtain ⟨bs, e1, rfl⟩ := Option.map_eq_some_iff.mp e
    obtain ⟨v1, rfl, r1⟩ := r.ones
    obtain ⟨p, us, rfl, _, hp, q⟩ := r1.lst_i
    refine rC_of (cr_all hc) ⟨p, bs, rfl, SqL.of ?_, k I H _ (h.push .bl)⟩
    rw [← boolsOf_reps q e1]
    exact h.same _ _ hp
  · cases e
theorem snd_any (hc : X.calm = true) : SndC g X (.builtin "any") anyB := by
  intro B I H ρ σ ts vs ds xs d Q h r e k
  unfold anyB at e
  split at e
  · obtain ⟨bs, e1, rfl⟩ := Option.map_eq_some_iff.mp e
    obtain ⟨v1, rfl, r1⟩ := r.ones
    obtain ⟨p, us, rfl, _, hp, q⟩ := r1.lst_i
    refine rC_of (cr_any hc) ⟨p, bs, rfl, SqL.of ?_, k I H _ (h.push .bl)⟩
    rw [← boolsOf_reps q e1]
    exact h.same _ _ hp
  · cases e
theorem snd_sum (hc : X.calm = true) : SndC g X (.builtin "sum") sumB := by
  intro B I H ρ σ ts vs ds xs d Q h r e k
  unfold sumB at e
  split at e
  · obtain ⟨bs, e1, rfl⟩ := Option.map_eq_some_iff.mp e
    obtain ⟨v1, rfl, r1⟩ := r.ones
    obtain ⟨p, us, rfl, _, hp, q⟩ := r1.lst_i
    refine rC_of (cr_sum hc) ⟨p, bs, rfl, SqL.of ?_, k I H _ (h.push .int)⟩
    rw [← intsOf_reps q e1]
    exact h.same _ _ hp
  · cases e
  · cases e
/-- repr of plain data -/
theorem snd_repr (hK : X.K = g.K) (hg : X.A.guards = some []) (hu : X.A.units + 64 < cLine) : SndC g X (.builtin "repr") reprB := by
  intro B I H ρ σ ts vs ds xs d Q h r e k
  unfold reprB at e
  split at e
  · rename_i da
    split at e
    · rename_i p ep
      split at e <;> cases e
      rename_i hc
      obtain ⟨v1, rfl, r1⟩ := r.ones
      have dp := r1.dp h.same ep
      intro pins s σ' us Iv rv
      obtain ⟨u, rfl, ru⟩ := vals1 rv
      obtain ⟨as, rd⟩ := Dp.reads Iv p v1 u (hK ▸ dp) ru
      have fin : ∀ (s' : Shared) (tk : Tok), Inv X pins σ' H s' → EP X pins σ' Q (.str p.shown tk) s' := fun s' tk J => ⟨.str _, H, J, ⟨_, rfl⟩, k I H _ (h.push .str)⟩
      have hl : p.shown.length ≤ sizeLine := line100 hc.2.2.2
      have ref : ∀ a, u = .ref a → wpAny (model X.prog X.w) X.A (call (.builtin "repr") [u]) (EP X pins σ' Q) X.xe s := fun a ea => by
        subst ea
        exact repr_of_reads' rd hc.1 (fun z => by rw [hc.2.2.1] at z; cases z) hg (by omega) (fun _ _ e => e) (fun h' u tk hk => fin _ u (Iv.kept (t' := tk) hk)) hl
      cases rd with
      | none => exact PySem.P.repr_of_none (fin _ _ (Iv.tok _))
      | bool b => exact PySem.P.repr_of_bool (fin _ _ (Iv.tok _))
      | int i t => exact PySem.P.repr_of_int (by simpa [PyData.showable] using hc.1) (fin _ _ (Iv.tok _))
      | str x t => exact PySem.P.repr_of_str (fin _ _ (Iv.tok _)) hl
      | _ => exact ref _ rfl
    · cases e
  · cases e
end
end DV

set_option Elab.async false
set_option maxRecDepth 100000
set_option maxHeartbeats 4000000
set_option linter.all false
/-! DV9: subscripts, slices, chains, f-strings, loops. -/
namespace DV
open PySem L2 PySem.Spec PyProof.Rows

/-- an item by its place -/
def ixB : D → D → Option D
  | .lst xs, .int i => atI xs i
  | .con xs, .int i => atI xs i
  | .tup xs, .int i => atI xs i
  | .str x, .int i => if x.length ≤ 100000 then (atI x.cps.toList i).map fun c => .str ⟨#[c]⟩ else none
  | _, _ => none
/-- subscripts that are no slice -/
def noSlice : Expr → Bool
  | .Slice _ _ _ _ => false
  | _ => true
def cutD (xs : List D) (lo hi : Option Int) : List D := (xs.drop (HT.sIx xs.length 0 lo)).take (HT.sIx xs.length xs.length hi - HT.sIx xs.length 0 lo)
section
variable {g : G} {X : Cx} {B : Bs} {I I' H H' : Hp} {ρ : List D} {σ : L2.St} {ts ds xs : List D} {vs ws us : List V} {d : D} {v : V} {f : List Addr} {a b e c : Expr} {fa fb fe fc : Den} {pos : Pos}

theorem Reps.get : ∀ {ds : List D} {vs : List V} {i : Nat} {d : D}, Reps g I H ds vs [] → ds[i]? = some d → ∃ v, vs[i]? = some v ∧ Rep g I H d v []
  | [], vs, i, d, r, e => by simp at e
  | d0 :: ds, vs, i, d, r, e => by
    obtain ⟨ws, ws', f1, f2, rfl, ef, h1, h2⟩ := Reps.split (ds := [d0]) (ds' := ds) r
    obtain ⟨rfl, rfl⟩ := List.append_eq_nil_iff.mp ef.symm
    obtain ⟨v1, rfl, r1⟩ := h1.one_inv
    cases i with
    | zero => simp at e; subst e; exact ⟨v1, rfl, r1⟩
    | succ i =>
      obtain ⟨v, e1, r⟩ := Reps.get (i := i) h2 (by simpa using e)
      exact ⟨v, by simpa using e1, r⟩
theorem Reps.atI {i : Int} (r : Reps g I H ds vs []) (e : L2.atI ds i = some d) : ∃ v, L2.atI vs i = some v ∧ Rep g I H d v [] := by
  unfold L2.atI at e ⊢
  rw [r.length] at e
  cases q : ixN vs.length i with
  | none => rw [q] at e; cases e
  | some j =>
    rw [q] at e
    obtain ⟨v, h1, h2⟩ := r.get (i := j) (by simpa using e)
    exact ⟨v, by simpa using h1, h2⟩
theorem plain_ix (h : noSlice b = true) : PlainIx b := by
  intro o i
  cases b <;> first | rfl | cases h
def rX (X : Cx) : R2 := fun x y H Q => ∀ (pins : List (Addr × Obj)) (s : Shared) (σ : L2.St) (v u : Value), Inv X pins σ H s → RelV x v → RelV y u → wpAny (model X.prog X.w) X.A (getItem v u) (EP X pins σ Q) X.xe s
theorem snd_ix (hK : X.K = g.K) (hs : noSlice b = true) (ha : SndE g X a fa) (hb : SndE g X b fb) : SndE g X (.Subscript a b pos) (dBin ixB fa fb) := by
  intro B I H ρ σ ts vs d ρ' Q h q k
  unfold dBin at q
  cases q1 : fa ρ with
  | none => rw [q1] at q; cases q
  | some z =>
    obtain ⟨da, ρ1⟩ := z
    rw [q1] at q
    dsimp only at q
    cases q2 : fb ρ1 with
    | none => rw [q2] at q; cases q
    | some z =>
      obtain ⟨db, ρ2⟩ := z
      rw [q2] at q
      dsimp only at q
      cases q3 : ixB (fz da) (fz db) with
      | none => rw [q3] at q; cases q
      | some d0 =>
        rw [q3] at q; cases q
        refine mx_of (pe_ix ix_seq pe_mx pe_mx (plain_ix hs)) ?_
        refine ha B I H ρ σ ts vs da ρ1 _ h q1 fun I1 H1 x h1 => ?_
        refine hb B I1 H1 ρ1 σ _ _ db _ _ h1 q2 fun I2 H2 y h2 => ?_
        have h2' : StP g B I2 H2 ρ' σ (ts ++ [da, db]) (vs ++ [x, y]) := by simpa using h2
        obtain ⟨I3, si, h3, rr⟩ := h2'.fzTop rfl
        obtain ⟨v1, v2, e, r1, r2⟩ := Reps.two rr
        cases e
        have h4 := h3.pop rfl
        revert r1 r2 q3
        generalize fz da = ea
        generalize fz db = eb
        intro q3 r1 r2
        unfold ixB at q3
        split at q3
        · obtain ⟨p, us, rfl, _, hp, q⟩ := r1.lst_i
          obtain ⟨rfl, _⟩ := r2.int_i
          obtain ⟨v, ev, rv⟩ := q.atI q3
          exact .inl ⟨p, us, _, v, rfl, rfl, SqL.of (h4.same _ _ hp), ev, k _ _ _ (h4.push rv)⟩
        · obtain ⟨p, us, rfl, _, hp, q⟩ := r1.con_i
          obtain ⟨rfl, _⟩ := r2.int_i
          obtain ⟨v, ev, rv⟩ := q.atI q3
          exact .inl ⟨p, us, _, v, rfl, rfl, hK ▸ h4.same.seq hp, ev, k _ _ _ (h4.push rv)⟩
        · obtain ⟨p, us, rfl, _, hp, q⟩ := r1.tup_i
          obtain ⟨rfl, _⟩ := r2.int_i
          obtain ⟨v, ev, rv⟩ := q.atI q3
          exact .inr (.inl ⟨p, us, _, v, rfl, rfl, hK ▸ (hp.same h4.same).sq, ev, k _ _ _ (h4.push rv)⟩)
        · split at q3
          · rename_i hl
            obtain ⟨rfl, _⟩ := r1.str_i
            obtain ⟨rfl, _⟩ := r2.int_i
            obtain ⟨c, ec, rfl⟩ := Option.map_eq_some_iff.mp q3
            exact .inr (.inr ⟨_, _, c, rfl, rfl, line100 hl, ec, k _ _ _ (h4.push .str)⟩)
          · cases q3
        · cases q3
end
end DV

set_option Elab.async false
set_option maxRecDepth 100000
set_option maxHeartbeats 4000000
set_option linter.all false
/-! DV10: what is walked; for, while. -/
namespace DV
open PySem L2 PySem.Spec PyProof.Rows

/-- the iterator J gives its, one by one, while the values dk, vk are held -/
def ItOk (g : G) (J : It) (its dk : List D) (vk : List V) : Prop :=
  ∀ (B : Bs) (I H : Hp) (ρ : List D) (σ : L2.St) (ts : List D) (vs : List V) (i : Nat), StP g B I H ρ σ (ts ++ dk) (vs ++ vk) →
    (∀ d, its[i]? = some d → J.go i H ∧ ∀ x H', J.yld i H x H' → ∃ I', StP g B I' H' ρ σ ((ts ++ dk) ++ [d]) ((vs ++ vk) ++ [x])) ∧ (its.length ≤ i → J.stop i H)
structure mxI (X : Cx) (tg iter : Expr) (σ : L2.St) (H : Hp) (R : It → Hp → Prop) : Prop where
  run : ∀ (pins : List (Addr × Obj)) (s : Shared), Inv X pins σ H s →
  wpAny (model X.prog X.w) X.A (eval iter X.env) (fun v s1 => wpAny (model X.prog X.w) X.A (pyIter v) (PIE X pins σ tg R) X.xe s1) X.xe s
theorem pi_mx {X : Cx} {tg iter : Expr} : PI X tg iter (mxI X tg iter) := ⟨fun pins s σ H R I h => h.run pins s I⟩
theorem mxI_of {X : Cx} {tg iter : Expr} {wi : TI} (h : PI X tg iter wi) {σ : L2.St} {H : Hp} {R : It → Hp → Prop} (k : wi σ H R) : mxI X tg iter σ H R := ⟨fun pins s I => h.run pins s σ H R I k⟩
def SndI (g : G) (X : Cx) (tg iter : Expr) (f : Dens) : Prop :=
  ∀ (B : Bs) (I H : Hp) (ρ : List D) (σ : L2.St) (ts : List D) (vs : List V) (its ρ' : List D) (R : It → Hp → Prop), StP g B I H ρ σ ts vs → f ρ = some (its, ρ') →
    (∀ I' H' J dk vk, StP g B I' H' ρ' σ (ts ++ dk) (vs ++ vk) → dk.length = vk.length → ItOk g J its dk vk → R J H') → mxI X tg iter σ H R

/-- the items of a list or tuple -/
def itemsOf : D → Option (List D)
  | .lst xs => some xs
  | .con xs => some xs
  | .tup xs => some xs
  | _ => none
def iSeq (f : Den) : Dens := fun ρ => match f ρ with
  | some (d, ρ') => match itemsOf (fz d) with
    | some xs => some (xs, ρ')
    | none => none
  | none => none
def rngD (lo : Int) (n : Nat) : List D := (List.range n).map fun (i : Nat) => D.int (lo + (i : Int))
def iRng (r : Dens) : Dens := fun ρ => match r ρ with
  | some ([.int j], ρ') => if -4611686018427387904 ≤ j ∧ j < 4611686018427387904 then some (rngD 0 j.toNat, ρ') else none
  | some ([.int i, .int j], ρ') => if (-4611686018427387904 ≤ i ∧ i < 4611686018427387904) ∧ -4611686018427387904 ≤ j ∧ j < 4611686018427387904 then some (rngD i (j - i).toNat, ρ') else none
  | _ => none

section
variable {g : G} {X : Cx} {B : Bs} {I I' H H' : Hp} {ρ : List D} {σ : L2.St} {ts ds xs : List D} {vs ws us : List V} {d : D} {v : V} {f : List Addr} {a b e c tg iter : Expr} {fe : Den} {pos p : Pos} {r : Dens}

theorem StP.topRep (h : StP g B I H ρ σ (ts ++ [d]) (vs ++ [v])) : ∃ f, Rep g I H d v f := by
  obtain ⟨F1, F2, h1, h2, _⟩ := h.reps
  obtain ⟨f, f', _, _, r2⟩ := h2.split' rfl
  obtain ⟨w, ew, r⟩ := r2.one_inv
  cases ew
  exact ⟨_, r⟩
theorem itOk_lst {a : Addr} : ItOk g (Itl g.K a) xs [.lst xs] [.ref a] := by
  intro B I H ρ σ ts vs i h
  obtain ⟨f, r⟩ := h.topRep
  obtain ⟨p, us, e, _, hp, q⟩ := r.lst_i
  cases e
  have sq : SqL g.K H a us := SqL.of (h.same _ _ hp)
  refine ⟨fun d e => ?_, fun hl => ⟨us, sq, by rw [← q.length]; exact hl⟩⟩
  obtain ⟨v, ev, rv⟩ := q.get e
  exact ⟨⟨us, v, sq, ev⟩, fun x H' ⟨eh, hx⟩ => by
    have := hx us sq
    rw [ev] at this
    cases this
    subst eh
    exact ⟨I, h.push rv⟩⟩
theorem itOk_con {a : Addr} : ItOk g (Itl g.K a) xs [.con xs] [.ref a] := by
  intro B I H ρ σ ts vs i h
  obtain ⟨f, r⟩ := h.topRep
  obtain ⟨p, us, e, _, hp, q⟩ := r.con_i
  cases e
  have sq : SqL g.K H a us := h.same.seq hp
  refine ⟨fun d e => ?_, fun hl => ⟨us, sq, by rw [← q.length]; exact hl⟩⟩
  obtain ⟨v, ev, rv⟩ := q.get e
  exact ⟨⟨us, v, sq, ev⟩, fun x H' ⟨eh, hx⟩ => by
    have := hx us sq
    rw [ev] at this
    cases this
    subst eh
    exact ⟨I, h.push rv⟩⟩
theorem itOk_tup {a : Addr} : ItOk g (Itt g.K a) xs [.tup xs] [.ref a] := by
  intro B I H ρ σ ts vs i h
  obtain ⟨f, r⟩ := h.topRep
  obtain ⟨p, us, e, _, hp, q⟩ := r.tup_i
  cases e
  have sq : SqT g.K H a us := (hp.same h.same).sq
  refine ⟨fun d e => ?_, fun hl => ⟨us, sq, by rw [← q.length]; exact hl⟩⟩
  obtain ⟨v, ev, rv⟩ := q.get e
  exact ⟨⟨us, v, sq, ev⟩, fun x H' ⟨eh, hx⟩ => by
    have := hx us sq
    rw [ev] at this
    cases this
    subst eh
    exact ⟨I, h.push rv⟩⟩
theorem itOk_rng {lo : Int} {n : Nat} : ItOk g (Itr lo n) (rngD lo n) [] [] := by
  intro B I H ρ σ ts vs i h
  refine ⟨fun d e => ?_, fun hl => show n ≤ i by simpa [rngD] using hl⟩
  unfold rngD at e
  rw [List.getElem?_map] at e
  obtain ⟨j, ej, rfl⟩ := Option.map_eq_some_iff.mp e
  have hi : i < n := by
    have := (List.getElem?_eq_some_iff.mp ej).1
    simpa using this
  have : j = i := by
    rw [List.getElem?_range hi] at ej
    exact (Option.some.inj ej).symm
  subst this
  exact ⟨hi, fun x H' ⟨eh, ex⟩ => by subst eh ex; exact ⟨I, h.push .int⟩⟩

theorem snd_iseq (hK : X.K = g.K) (he : SndE g X iter fe) : SndI g X tg iter (iSeq fe) := by
  intro B I H ρ σ ts vs its ρ' R h q k
  unfold iSeq at q
  cases q1 : fe ρ with
  | none => rw [q1] at q; cases q
  | some z =>
    obtain ⟨d, ρ1⟩ := z
    rw [q1] at q
    dsimp only at q
    cases q2 : itemsOf (fz d) with
    | none => rw [q2] at q; cases q
    | some ys =>
      rw [q2] at q; cases q
      have key : ∀ I1 H1 x, StP g B I1 H1 ρ' σ (ts ++ [d]) (vs ++ [x]) → ∃ I2, StP g B I2 H1 ρ' σ (ts ++ [fz d]) (vs ++ [x]) := fun I1 H1 x h1 => by
        obtain ⟨I2, _, h2, _⟩ := h1.fzTop (ds := [d]) (ws := [x]) rfl
        exact ⟨I2, h2⟩
      unfold itemsOf at q2
      split at q2 <;> cases q2
      · rename_i ed
        refine mxI_of (pi_list pe_mx) (he B I H ρ σ ts vs d _ _ h q1 fun I1 H1 x h1 => ?_)
        obtain ⟨I2, h2⟩ := key I1 H1 x h1
        rw [ed] at h2
        obtain ⟨f, r⟩ := h2.topRep
        obtain ⟨p, us, rfl, _, hp, q⟩ := r.lst_i
        exact ⟨p, rfl, ⟨us, SqL.of (h2.same _ _ hp)⟩, k I2 H1 _ [.lst its] [.ref p] h2 rfl (hK ▸ itOk_lst)⟩
      · rename_i ed
        refine mxI_of (pi_list pe_mx) (he B I H ρ σ ts vs d _ _ h q1 fun I1 H1 x h1 => ?_)
        obtain ⟨I2, h2⟩ := key I1 H1 x h1
        rw [ed] at h2
        obtain ⟨f, r⟩ := h2.topRep
        obtain ⟨p, us, rfl, _, hp, q⟩ := r.con_i
        exact ⟨p, rfl, ⟨us, hK ▸ h2.same.seq hp⟩, k I2 H1 _ [.con its] [.ref p] h2 rfl (hK ▸ itOk_con)⟩
      · rename_i ed
        refine mxI_of (pi_tup pe_mx) (he B I H ρ σ ts vs d _ _ h q1 fun I1 H1 x h1 => ?_)
        obtain ⟨I2, h2⟩ := key I1 H1 x h1
        rw [ed] at h2
        obtain ⟨f, r⟩ := h2.topRep
        obtain ⟨p, us, rfl, _, hp, q⟩ := r.tup_i
        exact ⟨p, rfl, ⟨us, hK ▸ (hp.same h2.same).sq⟩, k I2 H1 _ [.tup its] [.ref p] h2 rfl (hK ▸ itOk_tup)⟩
theorem StP.topInts {i : Int} (h : StP g B I H ρ σ (ts ++ [.int i]) (vs ++ ws)) (hl : ws.length = 1) : ws = [.int i] ∧ StP g B I H ρ σ ts vs := by
  cases ws with
  | nil => cases hl
  | cons w r =>
    cases r with
    | cons _ _ => simp at hl
    | nil =>
      obtain ⟨f, r⟩ := h.topRep
      exact ⟨by rw [r.int_i.1], h.pop rfl⟩
theorem snd_irng1 (hg : Gl X "range") (hm : X.mg "range" = none) (hs : noStar a = true) (hr : SndL g X [a] r) : SndI g X tg (.Call (.Name "range" p) [a] [] pos) (iRng r) := by
  intro B I H ρ σ ts vs its ρ' R h q k
  unfold iRng at q
  split at q
  · rename_i j ρ1 q1
    split at q <;> cases q
    rename_i hl
    refine mxI_of (pi_range1 hg hm pa_mx (starOk (noStar_ne hs))) (hr B I H ρ σ ts vs _ _ _ h q1 fun I1 H1 ws h1 hw hn => ?_)
    obtain ⟨rfl, h2⟩ := h1.topInts hn
    exact ⟨j, rfl, by have := hl.1; omega, by have := hl.2; omega, k I1 H1 _ [] [] (by simpa using h2) rfl itOk_rng⟩
  · rename_i i j ρ1 q1
    split at q <;> cases q
    exact mxI_of (pi_range1 hg hm pa_mx (starOk (noStar_ne hs))) (hr B I H ρ σ ts vs _ _ _ h q1 fun I1 H1 ws h1 hw hn => absurd (hw.trans hn) (by simp))
  · cases q
theorem snd_irng2 (hg : Gl X "range") (hm : X.mg "range" = none) (hs : noStars [a, b] = true) (hr : SndL g X [a, b] r) : SndI g X tg (.Call (.Name "range" p) [a, b] [] pos) (iRng r) := by
  have hs' : noStar a = true ∧ noStar b = true := by simpa [noStars] using hs
  have s1 : starEach [a, b] X.env = [(false, eval a X.env), (false, eval b X.env)] := by rw [starOk (noStar_ne hs'.1), starOk (noStar_ne hs'.2)]; rfl
  have s2 : starEach [b] X.env = [(false, eval b X.env)] := by rw [starOk (noStar_ne hs'.2)]; rfl
  intro B I H ρ σ ts vs its ρ' R h q k
  unfold iRng at q
  split at q
  · rename_i j ρ1 q1
    split at q <;> cases q
    exact mxI_of (pi_range2 hg hm pa_mx s1 s2) (hr B I H ρ σ ts vs _ _ _ h q1 fun I1 H1 ws h1 hw hn => absurd (hw.trans hn) (by simp))
  · rename_i i j ρ1 q1
    split at q <;> cases q
    rename_i hl
    refine mxI_of (pi_range2 hg hm pa_mx s1 s2) (hr B I H ρ σ ts vs _ _ _ h q1 fun I1 H1 ws h1 hw hn => ?_)
    obtain ⟨F1, F2, _, r2, _⟩ := h1.reps
    obtain ⟨f, f', _, _, r3⟩ := r2.split' hw
    match ws, hn with
    | [w1, w2], _ =>
      cases r3 with
      | cons ra rb =>
        cases rb with
        | cons rb rc =>
          rw [ra.int_i.1, rb.int_i.1]
          obtain ⟨⟨l1, l2⟩, l3, l4⟩ := hl
          exact ⟨i, j, rfl, by omega, k I1 H1 _ [] [] (by simpa using h1.pop rfl) rfl itOk_rng⟩
  · cases q
end

/-! ### targets -/
/-- what a target does with a value -/
abbrev DenG := D → List D → Option (List D)
structure mxG (X : Cx) (tg : Expr) (v : V) (σ : L2.St) (H : Hp) (Q : L2.St → Hp → Prop) : Prop where
  run : ∀ (pins : List (Addr × Obj)) (s : Shared) (u : Value), Inv X pins σ H s → RelV v u → wpAny (model X.prog X.w) X.A (assign tg X.env u) (fun _ s' => ∃ σ' H', Inv X pins σ' H' s' ∧ Q σ' H') X.xe s
theorem pg_mx {X : Cx} {tg : Expr} : PG X tg (mxG X tg) := ⟨fun pins s σ H v u Q I r h => h.run pins s u I r⟩
theorem mxG_of {X : Cx} {tg : Expr} {t : TG} (h : PG X tg t) {v : V} {σ : L2.St} {H : Hp} {Q : L2.St → Hp → Prop} (k : t v σ H Q) : mxG X tg v σ H Q := ⟨fun pins s u I r => h.run pins s σ H v u Q I r k⟩
/-- only the slots of sl are changed -/
def Ch (sl : List Nat) (σ σ' : L2.St) : Prop := σ'.length = σ.length ∧ ∀ j, j ∉ sl → σ'[j]? = σ[j]?
theorem Ch.refl {sl : List Nat} {σ : L2.St} : Ch sl σ σ := ⟨rfl, fun _ _ => rfl⟩
theorem Ch.trans {sl : List Nat} {a b c : L2.St} (h : Ch sl a b) (k : Ch sl b c) : Ch sl a c := ⟨k.1.trans h.1, fun j n => (k.2 j n).trans (h.2 j n)⟩
theorem Ch.set {sl : List Nat} {σ : L2.St} {i : Nat} {v : Option V} (h : i ∈ sl) : Ch sl σ (σ.set i v) := ⟨List.length_set .., fun j n => List.getElem?_set_ne fun z => n (by rw [← z]; exact h)⟩
theorem Ch.fx {fx : Bool} {sl : List Nat} {a b : L2.St} (h : Ch sl a b) (n : fx = true → 0 ∉ sl) : Fx fx a b := fun z => h.2 0 (n z)
theorem Ch.mono {sl sl' : List Nat} {a b : L2.St} (h : Ch sl a b) (k : ∀ i ∈ sl, i ∈ sl') : Ch sl' a b := ⟨h.1, fun j n => h.2 j fun z => n (k j z)⟩
theorem wipe_at {σ : L2.St} {j : Nat} : ∀ l : List Nat, (wipe σ l)[j]? = if j ∈ l ∧ j < σ.length then some none else σ[j]?
  | [] => by simp [wipe]
  | i :: r => by
    unfold wipe
    by_cases e : i = j
    · subst e
      by_cases q : i < σ.length
      · rw [List.getElem?_set_self (by rw [wipe_length]; exact q), if_pos ⟨List.mem_cons_self .., q⟩]
      · have h1 : ((wipe σ r).set i none)[i]? = none := List.getElem?_eq_none (by rw [List.length_set, wipe_length]; omega)
        rw [h1, if_neg (fun z => q z.2), List.getElem?_eq_none (by omega)]
    · rw [List.getElem?_set_ne e, wipe_at r]
      have : (j ∈ i :: r ∧ j < σ.length) ↔ (j ∈ r ∧ j < σ.length) := by
        constructor
        · rintro ⟨h, h2⟩
          rcases List.mem_cons.mp h with z | z
          · exact absurd z.symm e
          · exact ⟨z, h2⟩
        · rintro ⟨h, h2⟩
          exact ⟨List.mem_cons_of_mem _ h, h2⟩
      simp only [this]
theorem Ch.wipe {own : List Nat} {a b : L2.St} (h : Ch own a b) : L2.wipe b own = L2.wipe a own := by
  refine List.ext_getElem? fun j => ?_
  rw [wipe_at, wipe_at, h.1]
  by_cases q : j ∈ own
  · by_cases z : j < a.length
    · rw [if_pos ⟨q, z⟩, if_pos ⟨q, z⟩]
    · rw [if_neg (fun w => z w.2), if_neg (fun w => z w.2), List.getElem?_eq_none (by rw [h.1]; omega), List.getElem?_eq_none (by omega)]
  · rw [if_neg (fun w => q w.1), if_neg (fun w => q w.1), h.2 j q]

/-- the target tg stores f's, at the slots of sl -/
def SndG (g : G) (X : Cx) (tg : Expr) (sl : List Nat) (f : DenG) : Prop :=
  ∀ (B : Bs) (I H : Hp) (ρ : List D) (σ : L2.St) (ts : List D) (vs : List V) (d : D) (v : V) (ρ' : List D) (Q : L2.St → Hp → Prop), StP g B I H ρ σ (ts ++ [d]) (vs ++ [v]) → f d ρ = some ρ' →
    (∀ I' H' σ', StP g B I' H' ρ' σ' ts vs → Ch sl σ σ' → Q σ' H') → mxG X tg v σ H Q
def gNm (i : Nat) : DenG := fun d ρ => if i < ρ.length then some (ρ.set i d) else none
/-- (a, b, ..): names -/
def gNms : List Nat → List D → List D → Option (List D)
  | [], [], ρ => some ρ
  | i :: is, d :: ds, ρ => if i < ρ.length then gNms is ds (ρ.set i d) else none
  | _, _, _ => none
def gTp (is : List Nat) : DenG := fun d ρ => match fz d with
  | .tup ds => gNms is ds ρ
  | _ => none

section
variable {g : G} {fx : Bool} {X : Cx} {tg iter : Expr} {pos : Pos} {x : Str} {body : List Stmt} {fb : DenS} {fi : Dens} {fg : DenG} {es : List Expr}
theorem snd_gnm {i : Nat} (hN : X.N.Nodup) (hi : X.N[i]? = some x) (hx : Loc X.env.scope x) (hf : X.fn x = true ∨ X.env.scope.names.lookup x = some .local) : SndG g X (.Name x pos) [i] (gNm i) := by
  intro B I H ρ σ ts vs d v ρ' Q h q k
  unfold gNm at q
  split at q <;> cases q
  rename_i hl
  exact mxG_of (pg_name hN hi hx hf) (k I H _ (h.setTop hl) (.set (by simp)))
/-- names one by one -/
structure GName (X : Cx) (e : Expr) (i : Nat) : Prop where
  ex : ∃ x pos, e = .Name x pos ∧ X.N[i]? = some x ∧ Loc X.env.scope x ∧ (X.fn x = true ∨ X.env.scope.names.lookup x = some .local)
structure mxGs (X : Cx) (ts : List Expr) (vs : List V) (σ : L2.St) (H : Hp) (Q : L2.St → Hp → Prop) : Prop where
  run : ∀ (pins : List (Addr × Obj)) (s : Shared) (us : List Value), Inv X pins σ H s → Vals vs us → wpAny (model X.prog X.w) X.A (assignInOrder ((assignEach ts X.env).map (·.2)) us) (fun _ s' => ∃ σ' H', Inv X pins σ' H' s' ∧ Q σ' H') X.xe s
theorem pgs_mx {es : List Expr} : PGs X es (mxGs X es) := ⟨fun pins s σ H vs us Q I r h => h.run pins s us I r⟩
theorem mxGs_of {t : TGs} (h : PGs X es t) {vs : List V} {σ : L2.St} {H : Hp} {Q : L2.St → Hp → Prop} (k : t vs σ H Q) : mxGs X es vs σ H Q := ⟨fun pins s us I r => h.run pins s σ H vs us Q I r k⟩
theorem eachNames : ∀ {es : List Expr} {is : List Nat}, Paired (GName X) es is → ((assignEach es X.env).map (·.2)).length = es.length ∧ (assignEach es X.env).findIdx? (·.1) = none
  | _, _, .nil => ⟨rfl, rfl⟩
  | _, _, .cons (l₁ := es) (a := e) h r => by
    obtain ⟨x, pos, rfl, _⟩ := h.ex
    obtain ⟨h1, h2⟩ := eachNames r
    have e1 : assignEach (.Name x pos :: es) X.env = (false, assign (.Name x pos) X.env) :: assignEach es X.env := rfl
    rw [e1]
    refine ⟨by rw [List.map_cons, List.length_cons, h1, List.length_cons], ?_⟩
    rw [List.findIdx?_cons, h2]
    rfl
theorem snd_gnms (hN : X.N.Nodup) : ∀ {es : List Expr} {is : List Nat}, Paired (GName X) es is → ∀ (B : Bs) (I H : Hp) (ρ : List D) (σ : L2.St) (ts : List D) (vs : List V) (ds : List D) (ws : List V) (ρ' : List D) (Q : L2.St → Hp → Prop), StP g B I H ρ σ ts vs → Reps g I H ds ws [] → gNms is ds ρ = some ρ' →
    (∀ I' H' σ', StP g B I' H' ρ' σ' ts vs → Ch is σ σ' → Q σ' H') → mxGs X es ws σ H Q
  | _, _, .nil, B, I, H, ρ, σ, ts, vs, ds, ws, ρ', Q, h, r, q, k => by
    cases ds with
    | cons d ds => cases q
    | nil =>
      cases q
      cases r
      exact mxGs_of pgs_nil ⟨rfl, k I H σ h .refl⟩
  | _, _, .cons (l₁ := es) (l₂ := is) (b := i) h r, B, I, H, ρ, σ, ts, vs, ds, ws, ρ', Q, hs, rr, q, k => by
    obtain ⟨x, pos, rfl, hi, hx, hf⟩ := h.ex
    cases ds with
    | nil => cases q
    | cons d ds =>
      obtain ⟨w1, ws', f1, f2, rfl, ef, h1, h2⟩ := Reps.split (ds := [d]) (ds' := ds) rr
      obtain ⟨rfl, rfl⟩ := List.append_eq_nil_iff.mp ef.symm
      obtain ⟨v1, rfl, r1⟩ := h1.one_inv
      unfold gNms at q
      split at q
      · rename_i hl
        refine mxGs_of (pgs_cons (pg_name hN hi hx hf) pgs_mx rfl) ⟨v1, ws', rfl, ?_⟩
        refine snd_gnms hN r B I H _ _ ts vs ds ws' ρ' Q ((hs.push r1).setTop hl) h2 q fun I' H' σ' h' c => ?_
        exact k I' H' σ' h' ((Ch.set (List.mem_cons_self ..)).trans (c.mono fun j hj => List.mem_cons_of_mem _ hj))
      · cases q
theorem snd_gtp {is : List Nat} {k0 : Nat} (hK : X.K = g.K) (hc : X.calm = true) (hN : X.N.Nodup) (hp : Paired (GName X) es is) : SndG g X (.Tuple es k0 pos) is (gTp is) := by
  intro B I H ρ σ ts vs d v ρ' Q h q k
  unfold gTp at q
  cases ed : fz d with
  | tup ds =>
    rw [ed] at q
    dsimp only at q
    obtain ⟨en, ei⟩ := eachNames (X := X) hp
    refine mxG_of (pg_tup (n := es.length) hc pgs_mx (by simpa using en) ei) ?_
    obtain ⟨I2, _, h2, rr⟩ := h.fzTop (ds := [d]) (ws := [v]) rfl
    rw [List.map_cons, List.map_nil, ed] at rr h2
    obtain ⟨w, ew, r⟩ := rr.one_inv
    cases ew
    obtain ⟨p, us, rfl, _, tp, qq⟩ := r.tup_i
    have lens : ∀ {is : List Nat} {ds ρ ρ' : List D}, gNms is ds ρ = some ρ' → ds.length = is.length := by
      intro is
      induction is with
      | nil => intro ds ρ ρ' e; cases ds with | nil => rfl | cons _ _ => cases e
      | cons i is ih =>
        intro ds ρ ρ' e
        cases ds with
        | nil => cases e
        | cons d ds =>
          unfold gNms at e
          split at e
          · rw [List.length_cons, ih e, List.length_cons]
          · cases e
    have h3 := h2.pop (ds := [.tup ds]) (ws := [.ref p]) rfl
    have el : es.length = is.length := Paired.length hp
    exact ⟨p, us, rfl, hK ▸ (tp.same h3.same).sq, by rw [← qq.length, lens q, el], snd_gnms hN hp B I2 H ρ σ ts vs ds us ρ' Q h3 qq q k⟩
  | _ => rw [ed] at q; cases q

/-- over its items -/
def forD (fg : DenG) (fb : DenS) : List D → List D → Option Fl
  | [], ρ => some (.nx ρ)
  | d :: ds, ρ => match fg d ρ with
    | some ρ1 => match fb ρ1 with
      | some (.nx ρ2) => forD fg fb ds ρ2
      | some (.ct ρ2) => forD fg fb ds ρ2
      | some (.bk ρ2) => some (.nx ρ2)
      | some (.rt d ρ2) => some (.rt d ρ2)
      | none => none
    | none => none
def sFor (fi : Dens) (fg : DenG) (fb : DenS) : DenS := fun ρ => match fi ρ with
  | some (its, ρ') => forD fg fb its ρ'
  | none => none
theorem StP.popMid {B : Bs} {I H : Hp} {ρ : List D} {σ : L2.St} {ts dk : List D} {vs vk : List V} {d : D} {v : V} (h : StP g B I H ρ σ ((ts ++ dk) ++ [d]) ((vs ++ vk) ++ [v])) (hl : dk.length = vk.length) : StP g B I H ρ σ (ts ++ [d]) (vs ++ [v]) := by
  obtain ⟨F1, F2, s1, s2, nd, of, hF⟩ := h.reps
  obtain ⟨fa, fd, rfl, r1, r2⟩ := s2.split' rfl
  obtain ⟨f0, fk, rfl, q1, q2⟩ := r1.split' hl
  exact h.step hF (Same.refl _) h.same (fun _ _ e _ => e) (fun _ _ z => z) (fun _ z _ _ => z) ⟨F1, f0 ++ fd, s1, q1.append r2, by grind, fun b hb => ⟨of b (by grind), .inl (by grind)⟩⟩
theorem folded_no {x : Value} {env : Env} (h : noSet iter = true) : foldedSetIterable iter env x = pure x := by
  cases iter <;> first | rfl | cases h
theorem snd_for {sl : List Nat} (hnx : X.xe = fun _ _ => False) (hc : X.calm = true) (hs : noSet iter = true) (hi : SndI g X tg iter fi) (hg : SndG g X tg sl fg) (h0 : fx = true → 0 ∉ sl) (hb : SndB g fx X body fb) : SndS g fx X (.For tg iter body [] pos) (sFor fi fg fb) := by
  intro B I H ρ σ ts vs fl E h q k
  unfold sFor at q
  cases q1 : fi ρ with
  | none => rw [q1] at q; cases q
  | some z =>
    obtain ⟨its, ρ1⟩ := z
    rw [q1] at q
    dsimp only at q
    refine mxS_of (ps_for (by rw [hnx]; exact PassesOwn.never) hc pi_mx pg_mx pss_mx (fun x => folded_no hs)) ?_
    refine hi B I H ρ σ ts vs its ρ1 _ h q1 fun I1 H1 J dk vk h1 hl ok => ?_
    refine ⟨fun i m σ' H' => m = its.length - i ∧ i ≤ its.length ∧ ∃ I' ρ', StP g B I' H' ρ' σ' (ts ++ dk) (vs ++ vk) ∧ forD fg fb (its.drop i) ρ' = some fl ∧ Fx fx σ σ', ⟨its.length, by simp, Nat.zero_le _, I1, ρ1, h1, q, .refl⟩, ?_⟩
    rintro i m σ' H' ⟨rfl, hi', I', ρ', h', q', fxx⟩
    obtain ⟨it1, it2⟩ := ok B I' H' ρ' σ' ts vs i h'
    by_cases hlt : i < its.length
    · right
      obtain ⟨go, yl⟩ := it1 _ (List.getElem?_eq_getElem hlt)
      refine ⟨go, fun σ2 H2 => ∃ I2 ρ2, StP g B I2 H2 ρ2 σ2 (ts ++ dk) (vs ++ vk) ∧ forD fg fb (its.drop (i + 1)) ρ2 = some fl ∧ Fx fx σ σ2, fun σ2 H2 ⟨I2, ρ2, a, b, c⟩ => ⟨its.length - (i + 1), by omega, rfl, hlt, I2, ρ2, a, b, c⟩, fun x H2 y => ?_⟩
      obtain ⟨I2, h2⟩ := yl x H2 y
      rw [List.drop_eq_getElem_cons hlt] at q'
      unfold forD at q'
      cases e1 : fg its[i] ρ' with
      | none => rw [e1] at q'; cases q'
      | some ρ2 =>
        rw [e1] at q'
        dsimp only at q'
        refine hg B I2 H2 ρ' σ' (ts ++ dk) (vs ++ vk) _ x ρ2 _ h2 e1 fun I3 H3 σ3 h3 ch => ?_
        have fx3 : Fx fx σ σ3 := fxx.trans (ch.fx h0)
        cases e2 : fb ρ2 with
        | none => rw [e2] at q'; cases q'
        | some fl1 =>
          rw [e2] at q'
          refine hb B I3 H3 ρ2 σ3 (ts ++ dk) (vs ++ vk) fl1 _ h3 e2 ?_
          cases fl1 with
          | nx ρ3 => exact fun I4 H4 σ4 h4 f4 => ⟨I4, ρ3, h4, q', fx3.trans f4⟩
          | ct ρ3 => exact fun I4 H4 σ4 h4 f4 => ⟨I4, ρ3, h4, q', fx3.trans f4⟩
          | bk ρ3 => cases q'; exact fun I4 H4 σ4 h4 f4 => k I4 H4 σ4 (h4.pop hl) (fx3.trans f4)
          | rt d ρ3 => cases q'; exact fun I4 H4 σ4 v h4 f4 => k I4 H4 σ4 v (h4.popMid hl) (fx3.trans f4)
    · left
      have e : i = its.length := by omega
      refine ⟨it2 (by omega), ?_⟩
      rw [e, List.drop_length] at q'
      cases q'
      exact k I' H' σ' (h'.pop hl) fxx
end
end DV

set_option Elab.async false
set_option maxRecDepth 100000
set_option maxHeartbeats 4000000
set_option linter.all false
/-! DV11: while, comprehensions, unpacking, stores into lists, methods of lists. -/
namespace DV
open PySem L2 PySem.Spec PyProof.Rows

/-- turn after turn, until it ends -/
def whl {S R : Type} (f : S → Option (S ⊕ R)) (s : S) : Option R := match f s with
  | none => none
  | some (.inr r) => some r
  | some (.inl s') => whl f s'
partial_fixpoint

/-- it ends within n turns -/
inductive Ends2 {S R : Type} (f : S → Option (S ⊕ R)) (r : R) : Nat → S → Prop
  | done {s} : f s = some (.inr r) → Ends2 f r 0 s
  | turn {s s' n} : f s = some (.inl s') → Ends2 f r n s' → Ends2 f r (n + 1) s
theorem whl_ends {S R : Type} {f : S → Option (S ⊕ R)} : ∀ {s : S} {r : R}, whl f s = some r → ∃ n, Ends2 f r n s := by
  intro s r
  refine whl.partial_correctness f (motive := fun s r => ∃ n, Ends2 f r n s) ?_ s r
  intro w ih s r h
  split at h
  · cases h
  · cases h
    rename_i e
    exact ⟨0, .done e⟩
  · rename_i s' e
    obtain ⟨n, k⟩ := ih _ _ h
    exact ⟨n + 1, .turn e k⟩

/-- a while loop -/
def sWhile (fc : DenT) (fb : DenS) : DenS := whl fun ρ => match fc ρ with
  | some (true, ρ1) => match fb ρ1 with
    | some (.nx ρ2) => some (.inl ρ2)
    | some (.ct ρ2) => some (.inl ρ2)
    | some (.bk ρ2) => some (.inr (.nx ρ2))
    | some (.rt d ρ2) => some (.inr (.rt d ρ2))
    | none => none
  | some (false, ρ1) => some (.inr (.nx ρ1))
  | none => none

section
variable {g : G} {fx : Bool} {X : Cx} {tg iter elt c : Expr} {pos : Pos} {x : Str} {body : List Stmt} {fb : DenS} {fi : Dens} {fg : DenG} {fc : DenT} {es : List Expr}
theorem snd_while (hnx : X.xe = fun _ _ => False) (hc : SndT g X c fc) (hb : SndB g fx X body fb) : SndS g fx X (.While c body [] pos) (sWhile fc fb) := by
  intro B I H ρ σ ts vs fl E h q k
  obtain ⟨n, en⟩ := whl_ends (show whl _ ρ = some fl from q)
  refine mxS_of (ps_while (by rw [hnx]; exact PassesOwn.never) pt_mx pss_mx) ?_
  refine ⟨fun m σ' H' => ∃ I' ρ', StP g B I' H' ρ' σ' ts vs ∧ Ends2 _ fl m ρ' ∧ Fx fx σ σ', ⟨n, I, ρ, h, en, .refl⟩, ?_⟩
  rintro m σ' H' ⟨I', ρ', h', e', fxx⟩
  cases e' with
  | done e =>
    split at e
    · rename_i ρ1 q1
      refine hc B I' H' ρ' σ' ts vs true ρ1 _ h' q1 fun I2 H2 h2 => iteT ?_
      refine ⟨fun _ _ => False, fun _ _ z => z.elim, ?_⟩
      split at e <;> cases e
      · rename_i ρ2 q2
        exact hb B I2 H2 ρ1 σ' ts vs _ _ h2 q2 fun I3 H3 σ3 h3 f3 => k I3 H3 σ3 h3 (fxx.trans f3)
      · rename_i d ρ2 q2
        exact hb B I2 H2 ρ1 σ' ts vs _ _ h2 q2 fun I3 H3 σ3 v h3 f3 => k I3 H3 σ3 v h3 (fxx.trans f3)
    · rename_i ρ1 q1
      cases e
      exact hc B I' H' ρ' σ' ts vs false ρ1 _ h' q1 fun I2 H2 h2 => iteF (k I2 H2 σ' h2 fxx)
    · cases e
  | turn e e2 =>
    rename_i ρn m'
    split at e
    · rename_i ρ1 q1
      refine hc B I' H' ρ' σ' ts vs true ρ1 _ h' q1 fun I2 H2 h2 => iteT ?_
      refine ⟨fun σ2 H2 => ∃ I2 ρ2, StP g B I2 H2 ρ2 σ2 ts vs ∧ Ends2 _ fl m' ρ2 ∧ Fx fx σ σ2, fun σ2 H2 ⟨I2, ρ2, a, b, c⟩ => ⟨m', Nat.lt_succ_self _, I2, ρ2, a, b, c⟩, ?_⟩
      split at e <;> cases e
      · rename_i q2
        exact hb B I2 H2 ρ1 σ' ts vs _ _ h2 q2 fun I3 H3 σ3 h3 f3 => ⟨I3, ρn, h3, e2, fxx.trans f3⟩
      · rename_i q2
        exact hb B I2 H2 ρ1 σ' ts vs _ _ h2 q2 fun I3 H3 σ3 h3 f3 => ⟨I3, ρn, h3, e2, fxx.trans f3⟩
    · cases e
    · cases e

end

/-! ### comprehensions -/
def unset : List Nat → List D → List D
  | [], ρ => ρ
  | i :: r, ρ => (unset r ρ).set i .und
theorem unset_len {ρ : List D} : ∀ l : List Nat, (unset l ρ).length = ρ.length
  | [] => rfl
  | i :: r => by unfold unset; rw [List.length_set, unset_len r]
theorem unset_at {ρ : List D} {j : Nat} : ∀ {l : List Nat}, j ∈ l → j < ρ.length → (unset l ρ)[j]? = some .und
  | [], h, _ => by cases h
  | i :: r, h, l => by
    unfold unset
    by_cases e : i = j
    · subst e
      exact List.getElem?_set_self (by rw [unset_len]; exact l)
    · rw [List.getElem?_set_ne e]
      exact unset_at ((List.mem_cons.mp h).resolve_left fun z => e z.symm) l
section
variable {g : G} {B : Bs} {I I' H H' : Hp} {ρ : List D} {σ σ' : L2.St} {ts : List D} {vs : List V} {F : List Addr}
theorem Slots.unset1 : ∀ {ρ : List D} {σ : L2.St} {F : List Addr} (i : Nat), Slots g I H ρ σ F → ∃ F', F'.Sublist F ∧ Slots g I H (ρ.set i .und) σ F'
  | _, _, _, i, .nil => ⟨[], .slnil, by simpa using Slots.nil⟩
  | _, _, F, 0, .und r => ⟨F, .refl _, .und r⟩
  | _, _, _, 0, .cons (f := f) (F := F) h r => ⟨F, List.sublist_append_right _ _, .und r⟩
  | _, _, _, i + 1, .und r => by
    obtain ⟨F', s, k⟩ := Slots.unset1 i r
    exact ⟨F', s, .und k⟩
  | _, _, _, i + 1, .cons (f := f) h r => by
    obtain ⟨F', s, k⟩ := Slots.unset1 i r
    exact ⟨f ++ F', List.Sublist.append (.refl _) s, .cons h k⟩
theorem Slots.unset (h : Slots g I H ρ σ F) : ∀ l : List Nat, ∃ F', F'.Sublist F ∧ Slots g I H (DV.unset l ρ) σ F'
  | [] => ⟨F, .refl _, h⟩
  | i :: r => by
    obtain ⟨F1, s1, k1⟩ := Slots.unset h r
    obtain ⟨F2, s2, k2⟩ := k1.unset1 i
    exact ⟨F2, s2.trans s1, k2⟩
theorem Slots.other : ∀ {ρ : List D} {σ σ' : L2.St} {F : List Addr}, Slots g I H ρ σ F → σ'.length = σ.length → (∀ j : Nat, ρ[j]? = some D.und ∨ σ'[j]? = σ[j]?) → Slots g I H ρ σ' F
  | _, _, σ', _, .nil, l, _ => by cases σ' with | nil => exact .nil | cons _ _ => cases l
  | _, _, σ', _, .und r, l, k => by
    cases σ' with
    | nil => cases l
    | cons a t => exact .und (Slots.other r (by simpa using l) fun j => by simpa using k (j + 1))
  | _, _, σ', _, .cons (d := d) h r, l, k => by
    cases σ' with
    | nil => cases l
    | cons a t =>
      rename_i v0 _ _ _ _
      have e : a = some v0 := by
        rcases k 0 with z | z
        · have z' : d = .und := by simpa using z
          subst z'
          cases h
        · simpa using z
      rw [e]
      exact .cons h (Slots.other r (by simpa using l) fun j => by simpa using k (j + 1))
theorem StP.unset (h : StP g B I H ρ σ ts vs) {own : List Nat} (c : Ch own σ σ') : StP g B I H (DV.unset own ρ) σ' ts vs := by
  obtain ⟨F1, F2, s1, s2, nd, of, hF⟩ := h.reps
  obtain ⟨F', sb, k⟩ := s1.unset own
  have el := s1.length
  have k' : Slots g I H (DV.unset own ρ) σ' F' := k.other c.1 fun j => by
    by_cases q : j ∈ own
    · by_cases l : j < ρ.length
      · exact .inl (unset_at q l)
      · exact .inr (by rw [List.getElem?_eq_none (by rw [c.1]; omega), List.getElem?_eq_none (by omega)])
    · exact .inr (c.2 j q)
  have sub : ∀ b ∈ F', b ∈ F1 := fun b hb => sb.subset hb
  refine h.step hF (Same.refl _) h.same (fun _ _ e _ => e) (fun _ _ z => z) (fun _ z _ _ => z) ⟨F', F2, k', s2, ?_, fun b hb => ⟨of b ?_, .inl ?_⟩⟩
  · have n1 : F'.Nodup := (List.nodup_append.mp nd).1.sublist sb
    have n2 := (List.nodup_append.mp nd).2.1
    have n3 := (List.nodup_append.mp nd).2.2
    exact List.nodup_append.mpr ⟨n1, n2, fun a ha b hb => n3 a (sub a ha) b hb⟩
  · rcases List.mem_append.mp hb with z | z
    · exact List.mem_append_left _ (sub b z)
    · exact List.mem_append_right _ z
  · rcases List.mem_append.mp hb with z | z
    · exact List.mem_append_left _ (sub b z)
    · exact List.mem_append_right _ z
/-- the last value goes into the list ahead of it -/
theorem StP.appTop {acc : List D} {e : D} {p : Addr} {y : V} (h : StP g B I H ρ σ ((ts ++ [.own acc]) ++ [e]) ((vs ++ [.ref p]) ++ [y])) : ∃ us, H p = some (.lst us) ∧ us.length = acc.length ∧ StP g B I (upd H p (.lst (us ++ [y]))) ρ σ (ts ++ [.own (acc ++ [e])]) (vs ++ [.ref p]) := by
  obtain ⟨F1, F2, s1, s2, nd, of, hF⟩ := h.reps
  obtain ⟨fa, fe, rfl, r1, r2⟩ := s2.split' rfl
  obtain ⟨w, ew, re⟩ := r2.one_inv
  cases ew
  obtain ⟨f0, fo, rfl, q1, q2⟩ := r1.split' rfl
  obtain ⟨w, ew, ro⟩ := q2.one_inv
  cases ew
  cases ro with
  | own hp ri =>
    rename_i us f
    have np : p ∉ F1 ++ f0 ++ f ++ fe := by grind
    have kk : ∀ b, b ∈ F1 ++ f0 ++ f ++ fe → upd H p (.lst (us ++ [y])) b = H b := fun b hb => upd_ne (fun z => np (by rw [← z]; exact hb))
    have nI : I p = none := of p (by simp)
    refine ⟨us, hp, ri.length.symm, h.step hF (Same.refl _) (fun b u e => ?_) (fun b u e q => ?_) (fun b q z => ?_) (fun _ z _ _ => z) ⟨F1, f0 ++ (p :: (f ++ fe)), s1.mono (Same.refl _) fun b hb => kk b (by grind), ?_, ?_, fun b hb => ⟨of b (by grind), .inl (by grind)⟩⟩⟩
    · rw [upd_ne (fun z => by subst z; rw [nI] at e; cases e)]
      exact h.same b u e
    · rw [upd_ne (fun z => q (by subst z; simp))]
      exact e
    · by_cases w : b = p
      · subst w; rw [upd_same]; simp
      · rw [upd_ne w]; exact z
    · exact (q1.mono (Same.refl _) fun b hb => kk b (by grind)).append (Reps.one (.own upd_same ((ri.mono (Same.refl _) fun b hb => kk b (by grind)).append (Reps.one (re.mono (Same.refl _) fun b hb => kk b (by grind))))))
    · grind
end

/-- the items made, one by one -/
def compD (own : List Nat) (fg : DenG) (ft : DenT) (fe : Den) : List D → List D → List D → Option (List D × List D)
  | [], acc, ρ => some (acc, ρ)
  | d :: ds, acc, ρ => match fg d ρ with
    | some ρ1 => match ft ρ1 with
      | some (true, ρ2) => match fe ρ2 with
        | some (e, ρ3) => if acc.length < 100000 then compD own fg ft fe ds (acc ++ [e]) (unset own ρ3) else none
        | none => none
      | some (false, ρ2) => compD own fg ft fe ds acc (unset own ρ2)
      | none => none
    | none => none
def dComp (own : List Nat) (fi : Dens) (fg : DenG) (ft : DenT) (fe : Den) : Den := fun ρ => match fi ρ with
  | some (its, ρ') => match compD own fg ft fe its [] (unset own ρ') with
    | some (acc, ρ2) => some (.own acc, ρ2)
    | none => none
  | none => none

theorem unset_out {ρ : List D} {j : Nat} : ∀ {l : List Nat}, j ∉ l → (unset l ρ)[j]? = ρ[j]?
  | [], _ => rfl
  | i :: r, h => by
    unfold unset
    rw [List.getElem?_set_ne (fun z => h (by rw [z]; exact List.mem_cons_self ..))]
    exact unset_out fun z => h (List.mem_cons_of_mem _ z)
theorem unset_twice {ρ : List D} {l : List Nat} : unset l (unset l ρ) = unset l ρ := by
  refine List.ext_getElem? fun j => ?_
  by_cases h : j ∈ l
  · by_cases k : j < ρ.length
    · rw [unset_at h (by rw [unset_len]; exact k), unset_at h k]
    · rw [List.getElem?_eq_none (by rw [unset_len, unset_len]; omega), List.getElem?_eq_none (by rw [unset_len]; omega)]
  · rw [unset_out h]
theorem Ch.symm {sl : List Nat} {a b : L2.St} (h : Ch sl a b) : Ch sl b a := ⟨h.1.symm, fun j n => (h.2 j n).symm⟩
theorem Ch.wiped {sl : List Nat} {a : L2.St} : Ch sl a (L2.wipe a sl) := ⟨L2.wipe_length a sl, fun j n => by rw [wipe_at, if_neg (fun z => n z.1)]⟩

/-- a block of X -/
abbrev Blk (X : Cx) (scope : Scope) (s : Shared) (H : Hp) (C : Addr) (cl : List (Str × Addr)) (fp : List Addr) : Cx := X.blk s H scope (compEnvC scope cl C X.env) fp
section
variable {g : G} {X : Cx} {tg iter elt : Expr} {ifs : List Expr} {scope : Scope} {pos : Pos} {fi : Dens} {fg : DenG} {ft : DenT} {fe : Den} {own : List (Str × Nat)} {ow : List Nat}
/-- what is asked of a comprehension's parts, in each block; tests: none, or one -/
structure BlkSnd (g : G) (X : Cx) (scope : Scope) (tg elt : Expr) (ifs : List Expr) (own : List Nat) (fg : DenG) (ft : DenT) (fe : Den) : Prop where
  tgt : ∀ s H C cl fp, SndG g (Blk X scope s H C cl fp) tg own fg
  ifs : (ifs = [] ∧ ft = fun ρ => some (true, ρ)) ∨ ∃ c, ifs = [c] ∧ ∀ s H C cl fp, SndT g (Blk X scope s H C cl fp) c ft
  elt : ∀ s H C cl fp, SndE g (Blk X scope s H C cl fp) elt fe

theorem StP.swap {B : Bs} {I H : Hp} {ρ : List D} {σ : L2.St} {ts d1 d2 d3 : List D} {vs w1 w2 w3 : List V} (h : StP g B I H ρ σ (((ts ++ d1) ++ d2) ++ d3) (((vs ++ w1) ++ w2) ++ w3)) (e1 : d1.length = w1.length) (e2 : d2.length = w2.length) (e3 : d3.length = w3.length) :
    StP g B I H ρ σ (((ts ++ d2) ++ d1) ++ d3) (((vs ++ w2) ++ w1) ++ w3) := by
  obtain ⟨F1, F2, s1, s2, nd, of, hF⟩ := h.reps
  obtain ⟨fa, f3, rfl, r1, r3⟩ := s2.split' e3
  obtain ⟨fb, f2, rfl, r1, r2⟩ := r1.split' e2
  obtain ⟨f0, f1, rfl, r0, r1⟩ := r1.split' e1
  refine h.step hF (Same.refl _) h.same (fun _ _ e _ => e) (fun _ _ z => z) (fun _ z _ _ => z) ⟨F1, ((f0 ++ f2) ++ f1) ++ f3, s1, ((r0.append r2).append r1).append r3, ?_, fun b hb => ⟨of b (by grind), .inl (by grind)⟩⟩
  simp only [List.nodup_append, List.mem_append] at *
  grind

theorem comp_core (b : BlkSnd g X scope tg elt ifs ow fg ft fe) (hi : SndI g X tg iter fi) {B : Bs} {I H : Hp} {ρ : List D} {σ : L2.St} {ts : List D} {vs : List V} {d : D} {ρ' : List D} {Q : VK} (h : StP g B I H ρ σ ts vs)
    (q : dComp ow fi fg ft fe ρ = some (d, ρ')) (k : ∀ I' H' v, StP g B I' H' ρ' σ (ts ++ [d]) (vs ++ [v]) → Q v H') :
    ∃ (g' : TG) (tt : TT) (te : TE), (∀ s H C cl fp, PG (Blk X scope s H C cl fp) tg g') ∧ (∀ s H C cl fp, PTs (Blk X scope s H C cl fp) ifs tt) ∧ (∀ s H C cl fp, PE (Blk X scope s H C cl fp) elt te) ∧ tLc (mxI X tg iter) g' tt te ow σ H Q := by
  have hT : ∃ tt : TT, (∀ s H C cl fp, PTs (Blk X scope s H C cl fp) ifs tt) ∧ ∀ (B : Bs) (I H : Hp) (ρ : List D) (σ : L2.St) (ts : List D) (vs : List V) (b : Bool) (ρ' : List D) (Q : Bool → Hp → Prop), StP g B I H ρ σ ts vs → ft ρ = some (b, ρ') →
      (∀ I' H', StP g B I' H' ρ' σ ts vs → Q b H') → tt σ H Q := by
    rcases b.ifs with ⟨rfl, rfl⟩ | ⟨c, rfl, hc⟩
    · exact ⟨tYes, fun _ _ _ _ _ => pts_nil, fun B I H ρ σ ts vs t ρ' Q h q k => by cases q; exact k I H h⟩
    · exact ⟨fun σ H Q => ∀ s H0 C cl fp, mxT (Blk X scope s H0 C cl fp) c σ H Q, fun s H C cl fp => pts_one ⟨fun pins s' σ H' Q' Iv h => (h s H C cl fp).run pins s' Iv⟩, fun B I H ρ σ ts vs t ρ' Q h q k s H0 C cl fp => hc s H0 C cl fp B I H ρ σ ts vs t ρ' Q h q k⟩
  obtain ⟨tt, ht, tok⟩ := hT
  refine ⟨fun v σ H Q => ∀ s H0 C cl fp, mxG (Blk X scope s H0 C cl fp) tg v σ H Q, tt, fun σ H Q => ∀ s H0 C cl fp, mx (Blk X scope s H0 C cl fp) elt σ H Q, fun s H C cl fp => ⟨fun pins s' σ H' v u Q' Iv r h => (h s H C cl fp).run pins s' u Iv r⟩, ht, fun s H C cl fp => ⟨fun pins s' σ H' Q' Iv h => (h s H C cl fp).run pins s' Iv⟩, ?_⟩
  unfold dComp at q
  cases q1 : fi ρ with
  | none => rw [q1] at q; cases q
  | some z =>
    obtain ⟨its, ρ1⟩ := z
    rw [q1] at q
    dsimp only at q
    cases q2 : compD ow fg ft fe its [] (unset ow ρ1) with
    | none => rw [q2] at q; cases q
    | some z =>
      obtain ⟨acc, ρ2⟩ := z
      rw [q2] at q; cases q
      refine hi B I H ρ σ ts vs its ρ1 _ h q1 fun I1 H1 J dk vk h1 hlk ok => ?_
      intro p hp
      have h1' : StP g B I1 H1 (unset ow ρ1) σ (ts ++ dk) (vs ++ vk) := h1.unset .refl
      refine ⟨fun i m H' => m = its.length - i ∧ i ≤ its.length ∧ ∃ I' ρ3 acc', StP g B I' H' ρ3 σ ((ts ++ dk) ++ [.own acc']) ((vs ++ vk) ++ [.ref p]) ∧ compD ow fg ft fe (its.drop i) acc' ρ3 = some (acc, ρ') ∧ unset ow ρ3 = ρ3, ⟨its.length, by simp, Nat.zero_le _, I1, _, [], ?_, q2, unset_twice⟩, ?_⟩
      · have := h1'.newL (xs := []) (us := []) hp .nil
        simpa using this
      · rintro i m H' ⟨rfl, hi', I', ρ3, acc', h', q', un⟩
        -- the iterator, with the new list beside what it holds
        have hw : StP g B I' H' ρ3 σ ((ts ++ [.own acc']) ++ dk) ((vs ++ [.ref p]) ++ vk) := by
          have z := StP.swap (ts := ts) (d1 := dk) (d2 := [.own acc']) (d3 := []) (vs := vs) (w1 := vk) (w2 := [.ref p]) (w3 := []) (by rw [List.append_nil, List.append_nil]; exact h') hlk rfl rfl
          rw [List.append_nil, List.append_nil] at z
          exact z
        obtain ⟨it1, it2⟩ := ok B I' H' ρ3 σ (ts ++ [.own acc']) (vs ++ [.ref p]) i hw
        by_cases hlt : i < its.length
        · right
          obtain ⟨go, yl⟩ := it1 _ (List.getElem?_eq_getElem hlt)
          refine ⟨go, fun H2 => ∃ I2 ρ4 acc2, StP g B I2 H2 ρ4 σ ((ts ++ dk) ++ [.own acc2]) ((vs ++ vk) ++ [.ref p]) ∧ compD ow fg ft fe (its.drop (i + 1)) acc2 ρ4 = some (acc, ρ') ∧ unset ow ρ4 = ρ4, fun H2 ⟨I2, ρ4, acc2, a, b, c⟩ => ⟨its.length - (i + 1), by omega, rfl, hlt, I2, ρ4, acc2, a, b, c⟩, fun x H2 y => ?_⟩
          obtain ⟨I2, h2⟩ := yl x H2 y
          have h2' : StP g B I2 H2 ρ3 σ (((ts ++ dk) ++ [.own acc']) ++ [its[i]]) (((vs ++ vk) ++ [.ref p]) ++ [x]) := StP.swap h2 rfl hlk rfl
          have h3 : StP g B I2 H2 ρ3 (L2.wipe σ ow) (((ts ++ dk) ++ [.own acc']) ++ [its[i]]) (((vs ++ vk) ++ [.ref p]) ++ [x]) := by
            have := h2'.unset (own := ow) Ch.wiped
            rwa [un] at this
          rw [List.drop_eq_getElem_cons hlt] at q'
          unfold compD at q'
          intro s0 H0 C cl fp
          cases e1 : fg its[i] ρ3 with
          | none => rw [e1] at q'; cases q'
          | some ρ4 =>
            rw [e1] at q'
            dsimp only at q'
            refine b.tgt s0 H0 C cl fp B I2 H2 ρ3 _ _ _ _ x ρ4 _ h3 e1 fun I4 H4 σ4 h4 c4 => ?_
            have back : Ch ow σ4 σ := (Ch.wiped.trans c4).symm
            refine ⟨c4.wipe.trans (Ch.wipe Ch.wiped), ?_⟩
            cases e2 : ft ρ4 with
            | none => rw [e2] at q'; cases q'
            | some z =>
              obtain ⟨t, ρ5⟩ := z
              rw [e2] at q'
              refine tok B I4 H4 ρ4 σ4 _ _ t ρ5 _ h4 e2 fun I5 H5 h5 => ?_
              cases t with
              | true =>
                dsimp only at q'
                refine iteT fun s0 H0 C cl fp => ?_
                cases e3 : fe ρ5 with
                | none => rw [e3] at q'; cases q'
                | some z =>
                  obtain ⟨e, ρ6⟩ := z
                  rw [e3] at q'
                  dsimp only at q'
                  split at q'
                  · rename_i hl
                    refine b.elt s0 H0 C cl fp B I5 H5 ρ5 σ4 _ _ e ρ6 _ h5 e3 fun I6 H6 v h6 => ?_
                    obtain ⟨us, hp6, ul, h7⟩ := h6.appTop
                    refine ⟨us, hp6, Nat.lt_of_lt_of_le (by omega : us.length < 100000) (line100 (Nat.le_refl _)), I6, unset ow ρ6, acc' ++ [e], h7.unset back, q', unset_twice⟩
                  · cases q'
              | false => exact iteF ⟨I5, unset ow ρ5, acc', h5.unset back, q', unset_twice⟩
        · left
          have e : i = its.length := by omega
          refine ⟨it2 (by omega), ?_⟩
          rw [e, List.drop_length] at q'
          cases q'
          exact k I' H' _ (h'.popMid hlk)
end
end DV

set_option Elab.async false
set_option maxRecDepth 100000
set_option maxHeartbeats 4000000
set_option linter.all false
/-! DV12: comprehensions as values; lists in slots: items read and stored, methods; unpacking; chains; slices; f-strings. -/
namespace DV
open PySem L2 PySem.Spec PyProof.Rows

section
variable {g : G} {X : Cx} {tg iter elt e : Expr} {ifs : List Expr} {scope : Scope} {pos pos' : Pos} {fi : Dens} {fg : DenG} {ft : DenT} {fe : Den} {own : List (Str × Nat)} {fx : Bool} {x : Str}
theorem snd_lc (hc : X.calm = true) (hN : X.N.Nodup) (hi : SndI g X tg iter fi) (ok : BlkOk X.N X.env.scope scope own) (b : BlkSnd g X scope tg elt ifs (own.map (·.2)) fg ft fe) (hs : noSet iter = true) :
    SndE g X (.ListComp elt [⟨tg, iter, ifs, 0⟩] scope pos) (dComp (own.map (·.2)) fi fg ft fe) := by
  intro B I H ρ σ ts vs d ρ' Q h q k
  obtain ⟨g', tt, te, h1, h2, h3, c⟩ := comp_core b hi h q k
  exact mx_of (pe_lc hc hN pi_mx ok h1 h2 h3 (fun x => folded_no hs)) c
theorem snd_asg' {i : Nat} (hN : X.N.Nodup) (hi : X.N[i]? = some x) (hx : Loc X.env.scope x) (hf : X.fn x = true ∨ X.env.scope.names.lookup x = some .local) (hc : swapsWith e (some (.Name x pos')) pos.line X.env = pure false) (h0 : fx = true → i ≠ 0) (he : SndE g X e fe) :
    SndS g fx X (.Assign [.Name x pos'] e pos) (sAsg i fe) := by
  intro B I H ρ σ ts vs fl E h q k
  unfold sAsg at q
  cases q1 : fe ρ with
  | none => rw [q1] at q; cases q
  | some a =>
    obtain ⟨d, ρ'⟩ := a
    rw [q1] at q
    dsimp only at q
    split at q
    · rename_i hl
      cases q
      exact mxS_of (ps_set hN hi hx pe_mx hc hf) (he B I H ρ σ ts vs d ρ' _ h q1 fun I' H' v h' => k I' H' _ (h'.setTop hl) (.set h0))
    · cases q
/-- does a new list go to the name ahead of the block's end -/
def swL (sc scope : Scope) (x : Str) (p v : Pos) : Bool := (if sc.kind.isAnnotationScope then .function else sc.kind) == ScopeKind.function && sc.names.lookup x == some .local && p.line == v.line && !(scope.names.any fun (n, k) => n == x && (k == .local || k == .cell))
theorem swL_eq {gs : List Comprehension} {l : Nat} : swapsWith (.ListComp elt gs scope pos) (some (.Name x pos')) l X.env = pure (swL X.env.scope scope x pos' pos) := rfl
theorem snd_asgL {i : Nat} {lpos : Pos} (hc : X.calm = true) (hN : X.N.Nodup) (hi : X.N[i]? = some x) (hx : Loc X.env.scope x) (hf : X.fn x = true ∨ X.env.scope.names.lookup x = some .local) (h0 : fx = true → i ≠ 0)
    (hI : SndI g X tg iter fi) (ok : BlkOk X.N X.env.scope scope own) (b : BlkSnd g X scope tg elt ifs (own.map (·.2)) fg ft fe) (hs : noSet iter = true) :
    SndS g fx X (.Assign [.Name x pos'] (.ListComp elt [⟨tg, iter, ifs, 0⟩] scope lpos) pos) (sAsg i (dComp (own.map (·.2)) fi fg ft fe)) := by
  cases sw : swL X.env.scope scope x pos' lpos with
  | false => exact snd_asg' hN hi hx hf (by rw [swL_eq, sw]) h0 (snd_lc hc hN hI ok b hs)
  | true =>
    have hl : X.env.scope.names.lookup x = some .local := by
      unfold swL at sw
      simp only [Bool.and_eq_true, beq_iff_eq] at sw
      exact sw.1.1.2
    intro B I H ρ σ ts vs fl E h q k
    unfold sAsg at q
    cases q1 : dComp (own.map (·.2)) fi fg ft fe ρ with
    | none => rw [q1] at q; cases q
    | some a =>
      obtain ⟨d, ρ'⟩ := a
      rw [q1] at q
      dsimp only at q
      split at q
      · rename_i hlen
        cases q
        obtain ⟨g', tt, te, h1, h2, h3, c⟩ := comp_core (Q := fun v H' => E.nx (σ.set i (some v)) H') b hI h q1 fun I' H' v h' => k I' H' _ (h'.setTop hlen) (.set h0)
        exact mxS_of (ps_setLc hc hN hi hl (by rw [swL_eq, sw]) pi_mx ok h1 h2 h3 (fun x => folded_no hs)) c
      · cases q
end

/-! ### a list in a slot -/
theorem set_same {α : Type} {l : List α} {i : Nat} {a : α} (h : l[i]? = some a) : l.set i a = l := List.ext_getElem? fun j => by
  by_cases q : i = j
  · subst q
    rw [List.getElem?_set_self (List.getElem?_eq_some_iff.mp h).1, h]
  · rw [List.getElem?_set_ne q]
section
variable {g : G} {B : Bs} {I I' H H' : Hp} {ρ : List D} {σ : L2.St} {ts ds xs zs : List D} {vs us : List V} {F : List Addr} {d : D} {v : V} {i j : Nat}
theorem Reps.item : ∀ {ds : List D} {us : List V} {F : List Addr} {i : Nat} {d : D}, Reps g I H ds us F → ds[i]? = some d →
    ∃ v A f C, us[i]? = some v ∧ F = A ++ (f ++ C) ∧ Rep g I H d v f ∧ ∀ {I' H' : Hp} {d' : D} {v' : V} {f' : List Addr}, Same I I' → (∀ b ∈ A ++ C, H' b = H b) → Rep g I' H' d' v' f' → Reps g I' H' (ds.set i d') (us.set i v') (A ++ (f' ++ C))
  | _, _, _, i, _, .nil, e => by simp at e
  | _, _, _, 0, _, .cons (f1 := f1) (f2 := f2) h r, e => by
    have e1 := Option.some.inj (show some _ = some _ from e)
    subst e1
    exact ⟨_, [], f1, f2, rfl, rfl, h, fun si k h' => by rw [List.nil_append]; exact .cons h' (r.mono si k)⟩
  | _, _, _, i + 1, _, .cons (f1 := f1) h0 r, e => by
    obtain ⟨v, A, f, C, e1, rfl, h, k⟩ := Reps.item (i := i) r (by simpa using e)
    refine ⟨v, f1 ++ A, f, C, by simpa using e1, (List.append_assoc ..).symm, h, fun si q h' => ?_⟩
    rw [List.append_assoc]
    exact .cons (h0.mono si fun b hb => q b (by simp [hb])) (k si (fun b hb => q b (by simp only [List.append_assoc, List.mem_append] at hb ⊢; exact .inr hb)) h')
/-- an item is read; it is frozen, the list not -/
theorem StP.ownRead (h : StP g B I H ρ σ ts vs) (e : ρ[i]? = some (.own xs)) (ej : xs[j]? = some d) :
    ∃ p us v I', σ[i]? = some (some (.ref p)) ∧ H p = some (.lst us) ∧ us.length = xs.length ∧ us[j]? = some v ∧ StP g B I' H (ρ.set i (.own (xs.set j (fz d)))) σ (ts ++ [fz d]) (vs ++ [v]) := by
  obtain ⟨F1, F2, h1, h2, nd, of, hF⟩ := h.reps
  obtain ⟨w, A, f, C, es, rfl, r, k⟩ := h1.at e (by simp)
  cases r with
  | own hp ri =>
    rename_i p us f0
    obtain ⟨v, A0, f1, C0, ev, rfl, rd, k0⟩ := ri.item ej
    have n' : ∀ b ∈ f1, I b = none := fun b hb => of b (by grind)
    have si := tk_same (H := H) n'
    have rr : Rep g (tk I H f1) H (fz d) v [] := rd.fz si fun b hb => tk_in hb
    have k3 := k0 si (fun _ _ => rfl) rr
    rw [set_same ev] at k3
    have k1 := k si (fun _ _ => rfl) (.own hp k3)
    rw [set_same es] at k1
    have k2 := (h2.mono (H' := H) si fun _ _ => rfl).append (Reps.one rr)
    refine ⟨p, us, v, tk I H f1, es, hp, ri.length.symm, ev, h.step hF si (tk_sub h.same) (fun _ _ e _ => e) (fun _ _ z => z) (fun b z _ n => ?_) ⟨_, _, k1, k2, ?_, fun b hb => ?_⟩⟩
    · rw [tk_out (by grind)]; exact z
    · clear k k0 k1 k2 k3
      simp only [List.nodup_append, List.mem_append, List.nodup_cons, List.mem_cons, List.nil_append, List.append_nil] at *
      grind
    · have hb' : b ∉ f1 := by
        clear k k0 k1 k2 k3
        simp only [List.nodup_append, List.mem_append, List.nodup_cons, List.mem_cons, List.nil_append, List.append_nil] at *
        grind
      rw [tk_out hb']
      exact ⟨of b (by grind), .inl (by grind)⟩
theorem ne_upd {H : Hp} {p b : Addr} {o : HO} (h : b ≠ p) : upd H p o b = H b := upd_ne h
theorem StP.ownAt (h : StP g B I H ρ σ ts vs) (e : ρ[i]? = some (.own xs)) : ∃ p xv, σ[i]? = some (some (.ref p)) ∧ H p = some (.lst xv) ∧ xv.length = xs.length := by
  obtain ⟨F1, F2, h1, h2, nd, of, hF⟩ := h.reps
  obtain ⟨w, A, f, C, es, rfl, r, _⟩ := h1.at e (by simp)
  cases r with
  | own hp ri => exact ⟨_, _, es, hp, ri.length.symm⟩
theorem StP.ownSet (h : StP g B I H ρ σ (ts ++ [d]) (vs ++ [v])) (e : ρ[i]? = some (.own xs)) (hj : j < xs.length) :
    ∃ p xv, σ[i]? = some (some (.ref p)) ∧ H p = some (.lst xv) ∧ xv.length = xs.length ∧ StP g B I (upd H p (.lst (xv.set j v))) (ρ.set i (.own (xs.set j d))) σ ts vs := by
  obtain ⟨F1, F2, h1, h2, nd, of, hF⟩ := h.reps
  obtain ⟨fa, fd, rfl, r1, r2⟩ := h2.split' rfl
  obtain ⟨w, ew, rd⟩ := r2.one_inv
  cases ew
  obtain ⟨w, A, f, C, es, rfl, r, k⟩ := h1.at e (by simp)
  cases r with
  | own hp ri =>
    rename_i p xv f0
    obtain ⟨v1, A0, f1, C0, ev, rfl, _, k0⟩ := ri.item (List.getElem?_eq_getElem hj)
    have np : p ∉ (A ++ C) ++ (A0 ++ C0) ++ (fa ++ fd) := by
      clear k k0
      simp only [List.nodup_append, List.mem_append, List.nodup_cons, List.mem_cons] at *
      grind
    have kk : ∀ b, b ∈ (A ++ C) ++ (A0 ++ C0) ++ (fa ++ fd) → upd H p (.lst (xv.set j v)) b = H b := fun b hb => upd_ne (fun z => np (by rw [← z]; exact hb))
    have nI : I p = none := of p (by simp)
    have rl := ri.length
    have k1 := k (Same.refl _) (fun b hb => kk b (by grind)) (.own upd_same (k0 (Same.refl _) (fun b hb => kk b (by grind)) (rd.mono (Same.refl _) fun b hb => kk b (by grind))))
    rw [set_same es] at k1
    refine ⟨p, xv, es, hp, rl.symm, h.step hF (Same.refl _) (fun b u e => ?_) (fun b u e q => ?_) (fun b q z => ?_) (fun _ z _ _ => z) ⟨_, fa, k1, r1.mono (Same.refl _) fun b hb => kk b (by grind), ?_, fun b hb => ⟨of b (by grind), .inl (by grind)⟩⟩⟩
    · rw [upd_ne (fun z => by subst z; rw [nI] at e; cases e)]
      exact h.same b u e
    · rw [upd_ne (fun z => q (by subst z; simp))]
      exact e
    · by_cases w : b = p
      · subst w; rw [upd_same]; simp
      · rw [upd_ne w]; exact z
    · clear k k0 k1 kk
      simp only [List.nodup_append, List.mem_append, List.nodup_cons, List.mem_cons] at *
      grind
theorem StP.ownApp (h : StP g B I H ρ σ (ts ++ ds) (vs ++ us)) (hl : ds.length = us.length) (e : ρ[i]? = some (.own xs)) :
    ∃ p xv, σ[i]? = some (some (.ref p)) ∧ H p = some (.lst xv) ∧ xv.length = xs.length ∧ StP g B I (upd H p (.lst (xv ++ us))) (ρ.set i (.own (xs ++ ds))) σ ts vs := by
  obtain ⟨F1, F2, h1, h2, nd, of, hF⟩ := h.reps
  obtain ⟨fa, fd, rfl, r1, r2⟩ := h2.split' hl
  obtain ⟨w, A, f, C, es, rfl, r, k⟩ := h1.at e (by simp)
  cases r with
  | own hp ri =>
    rename_i p xv f0
    have np : p ∉ (A ++ C) ++ f0 ++ (fa ++ fd) := by
      clear k
      simp only [List.nodup_append, List.mem_append, List.nodup_cons, List.mem_cons] at *
      grind
    have kk : ∀ b, b ∈ (A ++ C) ++ f0 ++ (fa ++ fd) → upd H p (.lst (xv ++ us)) b = H b := fun b hb => upd_ne (fun z => np (by rw [← z]; exact hb))
    have nI : I p = none := of p (by simp)
    have rl := ri.length
    have k1 := k (Same.refl _) (fun b hb => kk b (by grind)) (.own upd_same ((ri.mono (Same.refl _) fun b hb => kk b (by grind)).append (r2.mono (Same.refl _) fun b hb => kk b (by grind))))
    rw [set_same es] at k1
    refine ⟨p, xv, es, hp, rl.symm, h.step hF (Same.refl _) (fun b u e => ?_) (fun b u e q => ?_) (fun b q z => ?_) (fun _ z _ _ => z) ⟨_, fa, k1, r1.mono (Same.refl _) fun b hb => kk b (by grind), ?_, fun b hb => ⟨of b (by grind), .inl (by grind)⟩⟩⟩
    · rw [upd_ne (fun z => by subst z; rw [nI] at e; cases e)]
      exact h.same b u e
    · rw [upd_ne (fun z => q (by subst z; simp))]
      exact e
    · by_cases w : b = p
      · subst w; rw [upd_same]; simp
      · rw [upd_ne w]; exact z
    · clear k k1 kk
      simp only [List.nodup_append, List.mem_append, List.nodup_cons, List.mem_cons] at *
      grind
end
end DV

set_option Elab.async false
set_option maxRecDepth 100000
set_option maxHeartbeats 4000000
set_option linter.all false
/-! DV13: items, stores, unpacking, methods of lists, chains, slices, f-strings. -/
namespace DV
open PySem L2 PySem.Spec PyProof.Rows

theorem fz_fz (d : D) : fz (fz d) = fz d := by
  cases d <;> simp [fz]
/-- an item of what slot i holds; a list there stays as it is -/
def dItem (i : Nat) (fj : Den) : Den := fun ρ => if held ρ i = true then match fj ρ with
  | some (.int j, ρ') => match ρ'[i]? with
    | some (.own xs) => match ixN xs.length j with
      | some k => match xs[k]? with
        | some d => some (fz d, ρ'.set i (.own (xs.set k (fz d))))
        | none => none
      | none => none
    | some d => match ixB d (.int j) with
      | some d' => some (d', ρ')
      | none => none
    | none => none
  | _ => none
  else none
def gItem (i : Nat) (fj : Den) : DenG := fun d ρ => if held ρ i = true then match fj ρ with
  | some (.int j, ρ') => match ρ'[i]? with
    | some (.own xs) => match ixN xs.length j with
      | some k => some (ρ'.set i (.own (xs.set k d)))
      | none => none
    | _ => none
  | _ => none
  else none
/-- target = value -/
def sAsgG (fe : Den) (fg : DenG) : DenS := fun ρ => match fe ρ with
  | some (d, ρ') => match fg d ρ' with
    | some ρ2 => some (.nx ρ2)
    | none => none
  | none => none
def gTs : List DenG → List D → List D → Option (List D)
  | [], [], ρ => some ρ
  | f :: fs, d :: ds, ρ => match f d ρ with
    | some ρ1 => gTs fs ds ρ1
    | none => none
  | _, _, _ => none
def gTup (fs : List DenG) : DenG := fun d ρ => match fz d with
  | .tup ds => gTs fs ds ρ
  | _ => none
def sPar (i j : Nat) (r : Dens) : DenS := fun ρ => match r ρ with
  | some ([d1, d2], ρ') => if i < ρ'.length ∧ j < ρ'.length then some (.nx ((ρ'.set i d1).set j d2)) else none
  | _ => none
def sPar3 (i j l : Nat) (r : Dens) : DenS := fun ρ => match r ρ with
  | some ([d1, d2, d3], ρ') => if i < ρ'.length ∧ j < ρ'.length ∧ l < ρ'.length then some (.nx (((ρ'.set i d1).set j d2).set l d3)) else none
  | _ => none
def isOwn (ρ : List D) (i : Nat) : Bool := match ρ[i]? with
  | some (.own _) => true
  | _ => false
/-- xs.append(e), xs in slot i -/
def dApp (i : Nat) (fe : Den) : Den := fun ρ => if isOwn ρ i = true then match fe ρ with
  | some (d, ρ') => match ρ'[i]? with
    | some (.own xs) => if xs.length < 100000 then some (.non, ρ'.set i (.own (xs ++ [d]))) else none
    | _ => none
  | none => none
  else none
def dExt (i : Nat) (fe : Den) : Den := fun ρ => if isOwn ρ i = true then match fe ρ with
  | some (d, ρ') => match fz d, ρ'[i]? with
    | .lst zs, some (.own xs) => if xs.length + zs.length ≤ 100000 then some (.non, ρ'.set i (.own (xs ++ zs))) else none
    | _, _ => none
  | none => none
  else none
def negB : D → Option D
  | .int i => some (.int (-i))
  | _ => none
def dUn (φ : D → Option D) (f : Den) : Den := fun ρ => match f ρ with
  | some (d, ρ') => match φ (fz d) with
    | some d' => some (d', ρ')
    | none => none
  | none => none

section
variable {g : G} {X : Cx} {B : Bs} {I I' H H' : Hp} {ρ : List D} {σ : L2.St} {ts ds xs : List D} {vs ws us : List V} {d : D} {v : V} {f : List Addr} {a b c e tg : Expr} {fa fb fc fe fj : Den} {pos p pos' : Pos} {x : Str} {i : Nat} {fx : Bool} {fg : DenG} {sl : List Nat} {r : Dens} {es : List Expr}

theorem ixB_ok {x y : V} {j : D} {Q : VK} (hK : X.K = g.K) (h4 : StP g B I H ρ σ ts vs) (r1 : Rep g I H d x []) (r2 : Rep g I H j y []) {d' : D} (q3 : ixB d j = some d') (k : ∀ v, StP g B I H ρ σ (ts ++ [d']) (vs ++ [v]) → Q v H) : rIx X.K x y H Q := by
  unfold ixB at q3
  split at q3
  · obtain ⟨p, us, rfl, _, hp, q⟩ := r1.lst_i
    obtain ⟨rfl, _⟩ := r2.int_i
    obtain ⟨v, ev, rv⟩ := q.atI q3
    exact .inl ⟨p, us, _, v, rfl, rfl, SqL.of (h4.same _ _ hp), ev, k _ (h4.push rv)⟩
  · obtain ⟨p, us, rfl, _, hp, q⟩ := r1.con_i
    obtain ⟨rfl, _⟩ := r2.int_i
    obtain ⟨v, ev, rv⟩ := q.atI q3
    exact .inl ⟨p, us, _, v, rfl, rfl, hK ▸ h4.same.seq hp, ev, k _ (h4.push rv)⟩
  · obtain ⟨p, us, rfl, _, hp, q⟩ := r1.tup_i
    obtain ⟨rfl, _⟩ := r2.int_i
    obtain ⟨v, ev, rv⟩ := q.atI q3
    exact .inr (.inl ⟨p, us, _, v, rfl, rfl, hK ▸ (hp.same h4.same).sq, ev, k _ (h4.push rv)⟩)
  · split at q3
    · rename_i hl
      obtain ⟨rfl, _⟩ := r1.str_i
      obtain ⟨rfl, _⟩ := r2.int_i
      obtain ⟨c, ec, rfl⟩ := Option.map_eq_some_iff.mp q3
      exact .inr (.inr ⟨_, _, c, rfl, rfl, line100 hl, ec, k _ (h4.push .str)⟩)
    · cases q3
  · cases q3
theorem StP.topInt {j : Int} (h : StP g B I H ρ σ (ts ++ [.int j]) (vs ++ [v])) : v = .int j ∧ StP g B I H ρ σ ts vs := by
  obtain ⟨f, r⟩ := h.topRep
  exact ⟨r.int_i.1, h.pop rfl⟩
theorem snd_item (hK : X.K = g.K) (hN : X.N[i]? = some x) (hv : Vis X.env.scope x) (hd : (x == ("__debug__" : Str)) = false) (hcd : (x == ("__classdict__" : Str)) = false) (hs : noSlice b = true) (hb : SndE g X b fj) :
    SndE g X (.Subscript (.Name x p) b pos) (dItem i fj) := by
  intro B I H ρ σ ts vs d ρ' Q h q k
  unfold dItem at q
  split at q
  · rename_i h0
    obtain ⟨dz, ez, hz⟩ := held_some h0
    obtain ⟨v0, _, e0, _⟩ := h.var ez hz
    refine mx_of (pe_ix ix_seq (pe_var hN hv hd hcd) pe_mx (plain_ix hs)) ⟨v0, e0, ?_⟩
    split at q
    · rename_i j ρ1 q1
      refine hb B I H ρ σ ts vs _ ρ1 _ h q1 fun I1 H1 y h1 => ?_
      obtain ⟨rfl, h2⟩ := h1.topInt
      split at q
      · rename_i xs e1
        split at q
        · rename_i k0 e2
          split at q
          · rename_i d0 e3
            cases q
            obtain ⟨p, us, v, I2, es, hp, hl, ev, h3⟩ := h2.ownRead e1 e3
            rw [e0] at es
            cases es
            refine .inl ⟨p, us, j, v, rfl, rfl, SqL.of hp, ?_, k I2 H1 v h3⟩
            unfold L2.atI
            rw [hl, e2]
            exact ev
          · cases q
        · cases q
      · rename_i d1 hno e1
        split at q
        · rename_i d2 e2
          cases q
          have hu : d1 ≠ .und := fun z => by subst z; cases e2
          have hf : fz d1 = d1 := by
            cases d1 <;> first | (simp only [fz]; done) | exact absurd e2 (by simp [ixB])
          obtain ⟨v, I2, es, rr, h3⟩ := h2.var e1 hu
          rw [e0] at es
          cases es
          rw [hf] at rr h3
          rw [set_same e1] at h3
          exact ixB_ok hK h3 rr .int e2 fun v h => k _ _ v h
        · cases q
      · cases q
    · cases q
  · cases q
theorem snd_gitem (hN : X.N[i]? = some x) (hv : Vis X.env.scope x) (hd : (x == ("__debug__" : Str)) = false) (hcd : (x == ("__classdict__" : Str)) = false) (hs : noSlice b = true) (hb : SndE g X b fj) :
    SndG g X (.Subscript (.Name x p) b pos) [] (gItem i fj) := by
  intro B I H ρ σ ts vs d v ρ' Q h q k
  unfold gItem at q
  split at q
  · rename_i h0
    obtain ⟨dz, ez, hz⟩ := held_some h0
    obtain ⟨v0, _, e0, _⟩ := h.var ez hz
    refine mxG_of (pg_sub (pe_var hN hv hd hcd) pe_mx set_list (by intro v; cases b <;> first | rfl | cases hs)) ⟨v0, e0, ?_⟩
    split at q
    · rename_i j ρ1 q1
      refine hb B I H ρ σ _ _ _ ρ1 _ h q1 fun I1 H1 y h1 => ?_
      obtain ⟨rfl, h2⟩ := h1.topInt
      split at q
      · rename_i xs e1
        split at q
        · rename_i k0 e2
          cases q
          obtain ⟨p, us, es, hp, hl, h3⟩ := h2.ownSet e1 (ixN_seq e2).2.1
          rw [e0] at es
          cases es
          exact ⟨p, us, j, k0, rfl, rfl, hp, by rw [hl]; exact e2, k I1 _ σ h3 .refl⟩
        · cases q
      · cases q
    · cases q
  · cases q
theorem snd_asgG (he : SndE g X e fe) (hg : SndG g X tg sl fg) (h0 : fx = true → 0 ∉ sl) (hs : swapsWithSole [tg] e pos.line X.env = pure false) (hw : swappedStores [tg] e X.env = pure none) (h1 : (assignEach [tg] X.env).map (·.2) = [assign tg X.env]) :
    SndS g fx X (.Assign [tg] e pos) (sAsgG fe fg) := by
  intro B I H ρ σ ts vs fl E h q k
  unfold sAsgG at q
  cases q1 : fe ρ with
  | none => rw [q1] at q; cases q
  | some z =>
    obtain ⟨d, ρ1⟩ := z
    rw [q1] at q
    dsimp only at q
    cases q2 : fg d ρ1 with
    | none => rw [q2] at q; cases q
    | some ρ2 =>
      rw [q2] at q; cases q
      refine mxS_of (ps_asg pe_mx pg_mx hs hw h1) (he B I H ρ σ ts vs d ρ1 _ h q1 fun I1 H1 v h1 => ?_)
      exact hg B I1 H1 ρ1 σ ts vs d v ρ2 _ h1 q2 fun I2 H2 σ2 h2 c => k I2 H2 σ2 h2 (c.fx h0)
/-- targets -/
inductive GTs (g : G) (X : Cx) : List Expr → List Nat → List DenG → Prop
  | nil : GTs g X [] [] []
  | cons {e : Expr} {es : List Expr} {sl sls : List Nat} {f : DenG} {fs : List DenG} : SndG g X e sl f → noStar e = true → GTs g X es sls fs → GTs g X (e :: es) (sl ++ sls) (f :: fs)
theorem assignOk {env : Env} (h : noStar e = true) : assignEach (e :: es) env = (false, assign e env) :: assignEach es env := by
  cases e <;> first | rfl | cases h
theorem GTs.names {sl : List Nat} {fs : List DenG} (h : GTs g X es sl fs) : (assignEach es X.env).length = es.length ∧ (assignEach es X.env).findIdx? (·.1) = none ∧ fs.length = es.length := by
  induction h with
  | nil => exact ⟨rfl, rfl, rfl⟩
  | cons h n r ih =>
    rw [assignOk n]
    refine ⟨by rw [List.length_cons, ih.1, List.length_cons], ?_, by rw [List.length_cons, List.length_cons, ih.2.2]⟩
    rw [List.findIdx?_cons, ih.2.1]
    rfl
theorem snd_gts {sl : List Nat} {fs : List DenG} (hg : GTs g X es sl fs) : ∀ (B : Bs) (I H : Hp) (ρ : List D) (σ : L2.St) (ts : List D) (vs : List V) (ds : List D) (ws : List V) (ρ' : List D) (Q : L2.St → Hp → Prop), StP g B I H ρ σ (ts ++ ds) (vs ++ ws) → ds.length = ws.length → gTs fs ds ρ = some ρ' →
    (∀ I' H' σ', StP g B I' H' ρ' σ' ts vs → Ch sl σ σ' → Q σ' H') → mxGs X es ws σ H Q := by
  induction hg with
  | nil =>
    intro B I H ρ σ ts vs ds ws ρ' Q h hl q k
    cases ds with
    | cons d ds => cases q
    | nil =>
      cases q
      cases ws with
      | cons _ _ => cases hl
      | nil => exact mxGs_of pgs_nil ⟨rfl, k I H σ (by simpa using h) .refl⟩
  | cons hg n r ih =>
    rename_i e es sl sls f fs
    intro B I H ρ σ ts vs ds ws ρ' Q h hl q k
    cases ds with
    | nil => cases q
    | cons d ds =>
      cases ws with
      | nil => cases hl
      | cons w ws =>
        unfold gTs at q
        cases q1 : f d ρ with
        | none => rw [q1] at q; cases q
        | some ρ1 =>
          rw [q1] at q
          dsimp only at q
          have hl' : ds.length = ws.length := by simpa using hl
          have hq := StP.swap (g := g) (ts := ts) (d1 := [d]) (d2 := ds) (d3 := []) (vs := vs) (w1 := [w]) (w2 := ws) (w3 := []) (by simpa using h) rfl hl' rfl
          rw [List.append_nil, List.append_nil] at hq
          refine mxGs_of (pgs_cons pg_mx pgs_mx (by rw [assignOk n]; rfl)) ⟨w, ws, rfl, ?_⟩
          refine hg B I H ρ σ (ts ++ ds) (vs ++ ws) d w ρ1 _ hq q1 fun I1 H1 σ1 h1 c1 => ?_
          exact ih B I1 H1 ρ1 σ1 ts vs ds ws ρ' Q h1 hl' q fun I2 H2 σ2 h2 c2 => k I2 H2 σ2 h2 ((c1.mono fun i hi => List.mem_append_left _ hi).trans (c2.mono fun i hi => List.mem_append_right _ hi))
theorem gTs_len : ∀ {fs : List DenG} {ds ρ ρ' : List D}, gTs fs ds ρ = some ρ' → ds.length = fs.length
  | [], [], _, _, _ => rfl
  | f :: fs, d :: ds, ρ, ρ', e => by
    unfold gTs at e
    split at e
    · rw [List.length_cons, List.length_cons, gTs_len e]
    · cases e
  | [], d :: ds, ρ, ρ', e => by cases e
  | f :: fs, [], ρ, ρ', e => by cases e
theorem snd_gtup {sl : List Nat} {fs : List DenG} {k0 : Nat} (hK : X.K = g.K) (hc : X.calm = true) (hp : GTs g X es sl fs) : SndG g X (.Tuple es k0 pos) sl (gTup fs) := by
  intro B I H ρ σ ts vs d v ρ' Q h q k
  unfold gTup at q
  split at q
  · rename_i ds ed
    obtain ⟨en, ei, el⟩ := hp.names
    refine mxG_of (pg_tup (n := es.length) hc pgs_mx en ei) ?_
    obtain ⟨I2, _, h2, rr⟩ := h.fzTop (ds := [d]) (ws := [v]) rfl
    rw [List.map_cons, List.map_nil, ed] at rr h2
    obtain ⟨w, ew, r⟩ := rr.one_inv
    cases ew
    obtain ⟨p, us, rfl, _, tp, qq⟩ := r.tup_i
    have h3 := h2.pop (ds := [.tup ds]) (ws := [.ref p]) rfl
    have h4 : StP g B I2 H ρ σ (ts ++ ds) (vs ++ us) := by
      obtain ⟨F1, F2, s1, s2, nd, of, hF⟩ := h3.reps
      exact h3.step hF (Same.refl _) h3.same (fun _ _ e _ => e) (fun _ _ z => z) (fun _ z _ _ => z) ⟨F1, F2, s1, by simpa using s2.append qq, nd, fun b hb => ⟨of b hb, .inl hb⟩⟩
    exact ⟨p, us, rfl, hK ▸ (tp.same h3.same).sq, by rw [← qq.length, gTs_len q, el], snd_gts hp B I2 H ρ σ ts vs ds us ρ' Q h4 qq.length q k⟩
  · cases q
theorem snd_par {j : Nat} {y : Str} {px py pt : Pos} {kt k2 : Nat} {pt2 : Pos} (hc : X.calm = true) (hN : X.N.Nodup) (hi : X.N[i]? = some x) (hj : X.N[j]? = some y) (hij : i ≠ j)
    (hx : X.env.scope.names.lookup x = some .local) (hy : X.env.scope.names.lookup y = some .local) (hr : SndL g X [a, b] r)
    (hw : swappedStores [.Tuple [.Name x px, .Name y py] kt pt] (.Tuple [a, b] k2 pt2) X.env = pure (some [x, y])) (h0 : fx = true → i ≠ 0 ∧ j ≠ 0) :
    SndS g fx X (.Assign [.Tuple [.Name x px, .Name y py] kt pt] (.Tuple [a, b] k2 pt2) pos) (sPar i j r) := by
  intro B I H ρ σ ts vs fl E h q k
  unfold sPar at q
  split at q
  · rename_i d1 d2 ρ1 q1
    split at q
    · rename_i hl
      cases q
      refine mxS_of (ps_par hc hN hi hj hij hx hy pa_mx hw) (hr B I H ρ σ ts vs _ ρ1 _ h q1 fun I1 H1 ws h1 hw hn => ?_)
      match ws, hn with
      | [v, w], _ =>
        refine ⟨v, w, rfl, ?_⟩
        have h2 : StP g B I1 H1 (ρ1.set j d2) (σ.set j (some w)) (ts ++ [d1]) (vs ++ [v]) := StP.setTop (by simpa using h1) hl.2
        have h3 := h2.setTop (i := i) (by rw [List.length_set]; exact hl.1)
        rw [List.set_comm _ _ (Ne.symm hij), List.set_comm _ _ (Ne.symm hij)] at h3
        refine k I1 H1 _ h3 fun z => ?_
        rw [List.getElem?_set_ne (h0 z).2, List.getElem?_set_ne (h0 z).1]
    · cases q
  · cases q
theorem snd_par3 {j l : Nat} {y z : Str} {px py pz pt : Pos} {kt k2 : Nat} {pt2 : Pos} (hc : X.calm = true) (hN : X.N.Nodup) (hi : X.N[i]? = some x) (hj : X.N[j]? = some y) (hl : X.N[l]? = some z) (hij : i ≠ j) (hil : i ≠ l) (hjl : j ≠ l)
    (hx : X.env.scope.names.lookup x = some .local) (hy : X.env.scope.names.lookup y = some .local) (hz : X.env.scope.names.lookup z = some .local) (hr : SndL g X [a, b, c] r)
    (hw : swappedStores [.Tuple [.Name x px, .Name y py, .Name z pz] kt pt] (.Tuple [a, b, c] k2 pt2) X.env = pure (some [x, y, z])) (h0 : fx = true → i ≠ 0 ∧ j ≠ 0 ∧ l ≠ 0) :
    SndS g fx X (.Assign [.Tuple [.Name x px, .Name y py, .Name z pz] kt pt] (.Tuple [a, b, c] k2 pt2) pos) (sPar3 i j l r) := by
  intro B I H ρ σ ts vs fl E h q k
  unfold sPar3 at q
  split at q
  · rename_i d1 d2 d3 ρ1 q1
    split at q
    · rename_i hl3
      cases q
      refine mxS_of (ps_par3 hc hN hi hj hl hij hil hjl hx hy hz pa_mx hw) (hr B I H ρ σ ts vs _ ρ1 _ h q1 fun I1 H1 ws h1 hw hn => ?_)
      match ws, hn with
      | [u, v, w], _ =>
        refine ⟨u, v, w, rfl, ?_⟩
        have h2 : StP g B I1 H1 (ρ1.set l d3) (σ.set l (some w)) ((ts ++ [d1]) ++ [d2]) ((vs ++ [u]) ++ [v]) := StP.setTop (by simpa using h1) hl3.2.2
        have h3 := h2.setTop (i := j) (by rw [List.length_set]; exact hl3.2.1)
        have h4 := h3.setTop (i := i) (by rw [List.length_set, List.length_set]; exact hl3.1)
        rw [List.set_comm _ _ (Ne.symm hjl), List.set_comm _ _ (Ne.symm hil), List.set_comm _ _ (Ne.symm hij), List.set_comm _ _ (Ne.symm hjl), List.set_comm _ _ (Ne.symm hil), List.set_comm _ _ (Ne.symm hij)] at h4
        refine k I1 H1 _ h4 fun z => ?_
        rw [List.getElem?_set_ne (h0 z).2.2, List.getElem?_set_ne (h0 z).2.1, List.getElem?_set_ne (h0 z).1]
    · cases q
  · cases q
end
end DV

set_option Elab.async false
set_option maxRecDepth 100000
set_option maxHeartbeats 4000000
set_option linter.all false
/-! DV14: methods of lists, one-sided operators, chains, slices, f-strings. -/
namespace DV
open PySem L2 PySem.Spec PyProof.Rows

abbrev PartD := List D → Option (Option Int × List D)
def pNo : PartD := fun ρ => some (none, ρ)
def pSome (f : Den) : PartD := fun ρ => match f ρ with
  | some (.int i, ρ') => some (some i, ρ')
  | _ => none
/-- a[lo:hi] -/
def slcB (d : D) (lo hi : Option Int) : Option D := match d with
  | .lst xs => if xs.length ≤ 100000 then some (.own (cutD xs lo hi)) else none
  | .con xs => if xs.length ≤ 100000 then some (.own (cutD xs lo hi)) else none
  | .tup xs => if xs.length ≤ 100000 then some (.tup (cutD xs lo hi)) else none
  | .str x => if x.length ≤ 100000 then some (.str (cutS x lo hi)) else none
  | _ => none
def dSlc (f : Den) (lo hi : PartD) : Den := fun ρ => match f ρ with
  | some (d, ρ1) => match lo ρ1 with
    | some (l, ρ2) => match hi ρ2 with
      | some (h, ρ3) => match slcB (fz d) l h with
        | some d' => some (d', ρ3)
        | none => none
      | none => none
    | none => none
  | none => none
def fmtB : D → Option D
  | .str y => if y.length ≤ 100000 then some (.str y) else none
  | .int i => if i.natAbs.log2 < 1920 then some (.str (toString i : String)) else none
  | _ => none
def joinD : List Den → Str → List D → Option (Str × List D)
  | [], acc, ρ => some (acc, ρ)
  | f :: fs, acc, ρ => match f ρ with
    | some (.str y, ρ1) => if (acc ++ y).length ≤ 100000 then joinD fs (acc ++ y) ρ1 else none
    | _ => none
def dJoin (fs : List Den) : Den := fun ρ => match joinD fs Str.empty ρ with
  | some (s, ρ') => some (.str s, ρ')
  | none => none

structure mxO (X : Cx) (e : Option Expr) (σ : L2.St) (H : Hp) (Q : Option Int → Hp → Prop) : Prop where
  run : ∀ (pins : List (Addr × Obj)) (s : Shared), Inv X pins σ H s → wpAny (model X.prog X.w) X.A (evalPart e X.env) (fun u s' => ∃ o H', Inv X pins σ H' s' ∧ IsPart u o ∧ Q o H') X.xe s
theorem po_mx {X : Cx} {e : Option Expr} : PO X e (mxO X e) := ⟨fun pins s _ _ _ I h => h.run pins s I⟩
theorem mxO_of {X : Cx} {e : Option Expr} {t : TO} (h : PO X e t) {σ : L2.St} {H : Hp} {Q : Option Int → Hp → Prop} (k : t σ H Q) : mxO X e σ H Q := ⟨fun pins s I => h.run pins s σ H Q I k⟩
def SndP (g : G) (X : Cx) (e : Option Expr) (f : PartD) : Prop :=
  ∀ (B : Bs) (I H : Hp) (ρ : List D) (σ : L2.St) (ts : List D) (vs : List V) (o : Option Int) (ρ' : List D) (Q : Option Int → Hp → Prop), StP g B I H ρ σ ts vs → f ρ = some (o, ρ') →
    (∀ I' H', StP g B I' H' ρ' σ ts vs → Q o H') → mxO X e σ H Q

section
variable {g : G} {X : Cx} {B : Bs} {I I' H H' : Hp} {ρ : List D} {σ : L2.St} {ts ds xs : List D} {vs ws us : List V} {d : D} {v : V} {f : List Addr} {a b c e tg : Expr} {fa fb fc fe fj : Den} {pos p pos' apos p2 : Pos} {x : Str} {i : Nat} {fx : Bool} {es : List Expr} {lo hi : Option Expr} {fl fh : PartD}

theorem few1 (h : noStar e = true) : ((backTo pos (starEach [e] X.env)).all (fun x => !x.1) && (backToKw pos (keywordEach [] X.env)).all (fun x => x.1.isSome)
      && decide (([e] : List Expr).length + ([] : List Keyword).length + (if ([] : List Keyword).isEmpty then 0 else 1) < 30)) = true := by
  rw [starOk (noStar_ne h)]
  rfl
theorem isOwn_some {ρ : List D} {i : Nat} (h : isOwn ρ i = true) : ∃ xs, ρ[i]? = some (.own xs) := by
  unfold isOwn at h
  split at h
  · exact ⟨_, by assumption⟩
  · cases h
theorem snd_app (hN : X.N[i]? = some x) (hv : Vis X.env.scope x) (hd : (x == ("__debug__" : Str)) = false) (hcd : (x == ("__classdict__" : Str)) = false) (hs : noStar e = true) (hl : (apos.endLine == pos.line) = true) (he : SndE g X e fe) :
    SndE g X (.Call (.Attribute (.Name x p) "append" apos) [e] [] pos) (dApp i fe) := by
  intro B I H ρ σ ts vs d ρ' Q h q k
  unfold dApp at q
  split at q
  · rename_i h0
    obtain ⟨xs0, e0⟩ := isOwn_some h0
    obtain ⟨p0, xv0, es0, hp0, _⟩ := h.ownAt e0
    refine mx_of (pe_bm PySem.F.plainAttrs_list PySem.F.slot_list_append PySem.F.type_list_append (r := rAppend) (fun pins s σ H x xs v us Q I rx rs q => mt_append pins s σ H x xs v us Q I rx rs q) (pe_var hN hv hd hcd) (pa_cons pe_mx pa_nil (starOk (noStar_ne hs))) rfl (few1 hs) hl (starOk (noStar_ne hs)) rfl) ?_
    refine ⟨.ref p0, es0, .inl ⟨rfl, _, SqL.of hp0⟩, ?_⟩
    cases q1 : fe ρ with
    | none => rw [q1] at q; cases q
    | some z =>
      obtain ⟨d1, ρ1⟩ := z
      rw [q1] at q
      dsimp only at q
      refine he B I H ρ σ ts vs d1 ρ1 _ h q1 fun I1 H1 y h1 => ?_
      split at q
      · rename_i xs e1
        split at q
        · rename_i hl
          cases q
          obtain ⟨p1, xv, es1, hp1, hl1, h2⟩ := StP.ownApp (ds := [d1]) (us := [y]) h1 rfl e1
          rw [es0] at es1
          cases es1
          exact ⟨p0, xv, y, rfl, rfl, hp1, Nat.lt_of_lt_of_le (by omega : xv.length < 100000) (line100 (Nat.le_refl _)), k I1 _ _ (h2.push .non)⟩
        · cases q
      · cases q
  · cases q
theorem snd_ext (hN : X.N[i]? = some x) (hv : Vis X.env.scope x) (hd : (x == ("__debug__" : Str)) = false) (hcd : (x == ("__classdict__" : Str)) = false) (hs : noStar e = true) (hl : (apos.endLine == pos.line) = true) (he : SndE g X e fe) :
    SndE g X (.Call (.Attribute (.Name x p) "extend" apos) [e] [] pos) (dExt i fe) := by
  intro B I H ρ σ ts vs d ρ' Q h q k
  unfold dExt at q
  split at q
  · rename_i h0
    obtain ⟨xs0, e0⟩ := isOwn_some h0
    obtain ⟨p0, xv0, es0, hp0, _⟩ := h.ownAt e0
    refine mx_of (pe_bm PySem.F.plainAttrs_list PySem.F.slot_list_extend PySem.F.type_list_extend (r := rExtend) (fun pins s σ H x xs v us Q I rx rs q => mt_extend pins s σ H x xs v us Q I rx rs q) (pe_var hN hv hd hcd) (pa_cons pe_mx pa_nil (starOk (noStar_ne hs))) rfl (few1 hs) hl (starOk (noStar_ne hs)) rfl) ?_
    refine ⟨.ref p0, es0, .inl ⟨rfl, _, SqL.of hp0⟩, ?_⟩
    cases q1 : fe ρ with
    | none => rw [q1] at q; cases q
    | some z =>
      obtain ⟨d1, ρ1⟩ := z
      rw [q1] at q
      dsimp only at q
      refine he B I H ρ σ ts vs d1 ρ1 _ h q1 fun I1 H1 y h1 => ?_
      split at q
      · rename_i zs xs ed e1
        split at q
        · rename_i hl
          cases q
          obtain ⟨I2, _, h2, rr⟩ := h1.fzTop (ds := [d1]) (ws := [y]) rfl
          rw [List.map_cons, List.map_nil, ed] at rr h2
          obtain ⟨w, ew, r⟩ := rr.one_inv
          cases ew
          obtain ⟨pb, us, rfl, _, hb, qq⟩ := r.lst_i
          have h3 := h2.pop (ds := [.lst zs]) (ws := [.ref pb]) rfl
          have hB := h3.same _ _ hb
          have h4 : StP g B I2 H1 ρ1 σ (ts ++ zs) (vs ++ us) := by
            obtain ⟨F1, F2, s1, s2, nd, of, hF⟩ := h3.reps
            exact h3.step hF (Same.refl _) h3.same (fun _ _ e _ => e) (fun _ _ z => z) (fun _ z _ _ => z) ⟨F1, F2, s1, by simpa using s2.append qq, nd, fun b hb => ⟨of b hb, .inl hb⟩⟩
          obtain ⟨p1, xv, es1, hp1, hl1, h5⟩ := h4.ownApp qq.length e1
          rw [es0] at es1
          cases es1
          exact ⟨p0, pb, xv, us, rfl, rfl, hp1, hB, line100 (by rw [hl1, ← qq.length]; exact hl), k I2 _ _ (h5.push .non)⟩
        · cases q
      · cases q
  · cases q

/-! ### one-sided operators -/
def rU1 (X : Cx) (f : Value → Sem Value) : V → Hp → VK → Prop := fun x H Q => ∀ (pins : List (Addr × Obj)) (s : Shared) (σ : L2.St) (v : Value), Inv X pins σ H s → RelV x v → wpAny (model X.prog X.w) X.A (f v) (EP X pins σ Q) X.xe s
theorem unO {f : Value → Sem Value} : UnR X f (rU1 X f) := fun pins s σ H x v Q I rx h => h pins s σ v I rx
theorem rU1_of {f : Value → Sem Value} {r : V → Hp → VK → Prop} (h : UnR X f r) {x : V} {H : Hp} {Q : VK} (k : r x H Q) : rU1 X f x H Q := fun pins s σ v I rx => h pins s σ H x v Q I rx k
def SndU (g : G) (X : Cx) (f : Value → Sem Value) (φ : D → Option D) : Prop :=
  ∀ (B : Bs) (I H : Hp) (ρ : List D) (σ : L2.St) (ts : List D) (vs : List V) (da : D) (x : V) (d : D) (Q : VK), StP g B I H ρ σ ts vs → Rep g I H da x [] → φ da = some d →
    (∀ I' H' v, StP g B I' H' ρ σ (ts ++ [d]) (vs ++ [v]) → Q v H') → rU1 X f x H Q
theorem snd_un {op : UnaryOp} {φ : D → Option D} (ho : SndU g X (unaryOp op) φ) (ha : SndE g X a fa) : SndE g X (.UnaryOp op a pos) (dUn φ fa) := by
  intro B I H ρ σ ts vs d ρ' Q h q k
  unfold dUn at q
  cases q1 : fa ρ with
  | none => rw [q1] at q; cases q
  | some z =>
    obtain ⟨da, ρ1⟩ := z
    rw [q1] at q
    dsimp only at q
    cases q2 : φ (fz da) with
    | none => rw [q2] at q; cases q
    | some d0 =>
      rw [q2] at q; cases q
      refine mx_of (pe_un unO pe_mx) (ha B I H ρ σ ts vs da _ _ h q1 fun I1 H1 x h1 => ?_)
      obtain ⟨I2, _, h2, rr⟩ := h1.fzTop (ds := [da]) (ws := [x]) rfl
      obtain ⟨w, ew, r⟩ := rr.one_inv
      cases ew
      exact ho B I2 H1 _ σ ts vs _ x d Q (h2.pop rfl) r q2 k
theorem snd_neg : SndU g X (unaryOp .USub) negB := by
  intro B I H ρ σ ts vs da x d Q h r e k
  unfold negB at e
  split at e <;> cases e
  obtain ⟨rfl, _⟩ := r.int_i
  exact rU1_of un_neg ⟨_, rfl, k I H _ (h.push .int)⟩

/-! ### chains -/
theorem chain_core {φ ψ : D → D → Option D} {op op' : CmpOp} (ho : SndOp g X (compareOp op) φ) (ho' : SndOp g X (compareOp op') ψ) (ha : SndE g X a fa) (hb : SndE g X b fb) (hc : SndE g X c fc)
    {Q : VK} (h : StP g B I H ρ σ ts vs) {ρ' : List D} {t : Bool} (q : dChain φ ψ fa fb fc ρ = some (.bl t, ρ')) (k : ∀ I' H', StP g B I' H' ρ' σ ts vs → Q (.bl t) H') :
    tChain (rO X (compareOp op)) (rO X (compareOp op')) (mx X a) (mx X b) (mx X c) σ H Q := by
  unfold dChain at q
  cases q1 : fa ρ with
  | none => rw [q1] at q; cases q
  | some z =>
    obtain ⟨da, ρ1⟩ := z
    rw [q1] at q
    dsimp only at q
    cases q2 : fb ρ1 with
    | none => rw [q2] at q; cases q
    | some z =>
      obtain ⟨db, ρ2⟩ := z
      rw [q2] at q
      dsimp only at q
      refine ha B I H ρ σ ts vs da ρ1 _ h q1 fun I1 H1 x h1 => ?_
      refine hb B I1 H1 ρ1 σ _ _ db _ _ h1 q2 fun I2 H2 y h2 => ?_
      have h2' : StP g B I2 H2 ρ2 σ (ts ++ [da, db]) (vs ++ [x, y]) := by simpa using h2
      obtain ⟨I3, si, h3, rr⟩ := h2'.fzTop rfl
      obtain ⟨v1, v2, e, r1, r2⟩ := Reps.two rr
      cases e
      cases q3 : φ (fz da) (fz db) with
      | none => rw [q3] at q; cases q
      | some d0 =>
        rw [q3] at q
        refine ho B I3 H2 ρ2 σ _ _ _ _ x y d0 _ h3 r1 r2 q3 fun I4 H4 w h4 => ?_
        split at q
        · rename_i heq
          cases heq
          obtain ⟨rfl, h5⟩ := h4.topBl
          refine ⟨true, rfl, iteT ?_⟩
          cases q4 : fc ρ2 with
          | none => rw [q4] at q; cases q
          | some z =>
            obtain ⟨dc, ρ3⟩ := z
            rw [q4] at q
            dsimp only at q
            refine hc B I4 H4 ρ2 σ _ _ dc ρ3 _ h5 q4 fun I6 H6 u h6 => ?_
            have h6' : StP g B I6 H6 ρ3 σ ((ts ++ [fz da]) ++ [fz db, dc]) ((vs ++ [x]) ++ [y, u]) := by simpa using h6
            obtain ⟨I7, _, h7, rr7⟩ := h6'.fzTop rfl
            obtain ⟨v1, v2, e, r1, r2⟩ := Reps.two rr7
            cases e
            rw [fz_fz] at r1
            cases q5 : ψ (fz db) (fz dc) with
            | none => rw [q5] at q; cases q
            | some d5 =>
              rw [q5] at q
              refine ho' B I7 H6 ρ3 σ ts vs _ _ y u d5 _ ((h7.pop rfl).pop rfl) r1 r2 q5 fun I8 H8 w8 h8 => ?_
              split at q
              · rename_i heq
                cases heq
                cases q
                obtain ⟨rfl, h9⟩ := h8.topBl
                exact k I8 H8 h9
              · cases q
        · rename_i heq
          cases heq
          cases q
          obtain ⟨rfl, h5⟩ := h4.topBl
          exact ⟨false, rfl, iteF (k I4 H4 (h5.pop rfl))⟩
        · cases q
theorem dChain_bl {φ ψ : D → D → Option D} {ρ' : List D} (q : dChain φ ψ fa fb fc ρ = some (d, ρ')) : ∃ t, d = .bl t := by
  unfold dChain at q
  split at q <;> try cases q
  split at q <;> try cases q
  split at q <;> try cases q
  · split at q <;> try cases q
    split at q <;> try cases q
    exact ⟨_, rfl⟩
  · exact ⟨_, rfl⟩
theorem snd_chain {φ ψ : D → D → Option D} {op op' : CmpOp} (ho : SndOp g X (compareOp op) φ) (ho' : SndOp g X (compareOp op') ψ) (hm : lastMarks [op, op'] [b, c] = false) (ha : SndE g X a fa) (hb : SndE g X b fb) (hc : SndE g X c fc) :
    SndE g X (.Compare a [op, op'] [b, c] pos) (dChain φ ψ fa fb fc) := by
  intro B I H ρ σ ts vs d ρ' Q h q k
  obtain ⟨t, rfl⟩ := dChain_bl q
  exact mx_of (pe_chain opO opO pe_mx pe_mx pe_mx hm) (chain_core ho ho' ha hb hc h q fun I1 H1 h1 => k I1 H1 _ (h1.push .bl))
theorem snd_chainT {φ ψ : D → D → Option D} {op op' : CmpOp} (ho : SndOp g X (compareOp op) φ) (ho' : SndOp g X (compareOp op') ψ) (hm : lastMarks [op, op'] [b, c] = false) (ha : SndE g X a fa) (hb : SndE g X b fb) (hc : SndE g X c fc) :
    SndT g X (.Compare a [op, op'] [b, c] pos) (tOf (dChain φ ψ fa fb fc)) := by
  intro B I H ρ σ ts vs t ρ' Q h q k
  exact mxT_of (pt_chain opO opO pe_mx pe_mx pe_mx hm) (chain_core ho ho' ha hb hc h (tOf_some q) fun I1 H1 h1 => ⟨t, rfl, k I1 H1 h1⟩)

/-! ### slices -/
theorem snd_pno : SndP g X none pNo := by
  intro B I H ρ σ ts vs o ρ' Q h q k
  cases q
  exact mxO_of po_none (k I H h)
theorem snd_psome (he : SndE g X e fe) : SndP g X (some e) (pSome fe) := by
  intro B I H ρ σ ts vs o ρ' Q h q k
  unfold pSome at q
  split at q <;> cases q
  rename_i j q1
  exact mxO_of (po_some pe_mx) (he B I H ρ σ ts vs _ _ _ h q1 fun I1 H1 v h1 => ⟨j, h1.topInt.1, k I1 H1 h1.topInt.2⟩)
theorem Reps.cut {lo hi : Option Int} (r : Reps g I H ds vs []) : Reps g I H (cutD ds lo hi) (cutV vs lo hi) [] := by
  unfold cutD cutV
  rw [r.length]
  have dropR : ∀ {ds : List D} {vs : List V} (n : Nat), Reps g I H ds vs [] → Reps g I H (ds.drop n) (vs.drop n) [] := by
    intro ds vs n r
    rw [← List.take_append_drop n ds, ← List.take_append_drop n vs] at r
    obtain ⟨f, f', e, r1, r2⟩ := r.split' (by rw [List.length_drop, List.length_drop]; have := r.length; rw [List.take_append_drop, List.take_append_drop] at this; omega)
    obtain ⟨rfl, rfl⟩ := List.append_eq_nil_iff.mp e.symm
    exact r2
  have takeR : ∀ {ds : List D} {vs : List V} (n : Nat), Reps g I H ds vs [] → Reps g I H (ds.take n) (vs.take n) [] := by
    intro ds vs n r
    rw [← List.take_append_drop n ds, ← List.take_append_drop n vs] at r
    obtain ⟨f, f', e, r1, r2⟩ := r.split' (by rw [List.length_drop, List.length_drop]; have := r.length; rw [List.take_append_drop, List.take_append_drop] at this; omega)
    obtain ⟨rfl, rfl⟩ := List.append_eq_nil_iff.mp e.symm
    exact r1
  exact takeR _ (dropR _ r)
theorem cut_whole {α : Type} {xs : List α} {a b : Nat} (h : a = 0 ∧ b = xs.length) : (xs.drop a).take (b - a) = xs := by
  obtain ⟨rfl, rfl⟩ := h
  simp
theorem slcB_ok {x : V} {d' : D} {l u : Option Int} {Q : VK} (hK : X.K = g.K) (h : StP g B I H ρ σ ts vs) (r : Rep g I H d x []) (q : slcB d l u = some d') (k : ∀ I' H' v, StP g B I' H' ρ σ (ts ++ [d']) (vs ++ [v]) → Q v H') :
    (rSlL X.K x l u H Q ∨ rSlA X.K x l u H Q) ∨ rSlS x l u H Q := by
  unfold slcB at q
  split at q
  · split at q <;> cases q
    obtain ⟨p, us, rfl, _, hp, rr⟩ := r.lst_i
    exact .inl (.inl ⟨p, us, rfl, SqL.of (h.same _ _ hp), fun p' hp' => k I _ _ (h.newL hp' rr.cut)⟩)
  · split at q <;> cases q
    obtain ⟨p, us, rfl, _, hp, rr⟩ := r.con_i
    exact .inl (.inl ⟨p, us, rfl, hK ▸ h.same.seq hp, fun p' hp' => k I _ _ (h.newL hp' rr.cut)⟩)
  · split at q <;> cases q
    rename_i xs hl
    obtain ⟨p, us, rfl, _, hp, rr⟩ := r.tup_i
    refine .inl (.inr ⟨p, us, rfl, hK ▸ (hp.same h.same).sq, fun hw => ?_, fun _ p' hp' => k _ _ _ (h.newT hp' rr.cut)⟩)
    have e : cutD xs l u = xs := by
      unfold cutD
      exact cut_whole (by rw [rr.length]; exact hw)
    rw [e] at k
    exact k I H _ (h.push r)
  · split at q <;> cases q
    rename_i hl
    obtain ⟨rfl, _⟩ := r.str_i
    exact .inr ⟨_, rfl, line100 hl, k I H _ (h.push .str)⟩
  · cases q
theorem snd_slc (hK : X.K = g.K) (he : SndE g X e fe) (hl : SndP g X lo fl) (hu : SndP g X hi fh) : SndE g X (.Subscript e (.Slice lo hi none p2) pos) (dSlc fe fl fh) := by
  intro B I H ρ σ ts vs d ρ' Q h q k
  unfold dSlc at q
  cases q1 : fe ρ with
  | none => rw [q1] at q; cases q
  | some z =>
    obtain ⟨da, ρ1⟩ := z
    rw [q1] at q
    dsimp only at q
    cases q2 : fl ρ1 with
    | none => rw [q2] at q; cases q
    | some z =>
      obtain ⟨l, ρ2⟩ := z
      rw [q2] at q
      dsimp only at q
      cases q3 : fh ρ2 with
      | none => rw [q3] at q; cases q
      | some z =>
        obtain ⟨u, ρ3⟩ := z
        rw [q3] at q
        dsimp only at q
        cases q4 : slcB (fz da) l u with
        | none => rw [q4] at q; cases q
        | some d0 =>
          rw [q4] at q; cases q
          refine mx_of (pe_slice ((sl_list.or sl_tupA).or sl_str) pe_mx po_mx po_mx) ?_
          refine he B I H ρ σ ts vs da ρ1 _ h q1 fun I1 H1 x h1 => ?_
          refine hl B I1 H1 ρ1 σ _ _ l ρ2 _ h1 q2 fun I2 H2 h2 => ?_
          refine hu B I2 H2 ρ2 σ _ _ u _ _ h2 q3 fun I3 H3 h3 => ?_
          obtain ⟨I4, _, h4, rr⟩ := h3.fzTop (ds := [da]) (ws := [x]) rfl
          obtain ⟨w, ew, r⟩ := rr.one_inv
          cases ew
          exact slcB_ok hK (h4.pop rfl) r q4 k

/-! ### f-strings -/
theorem snd_fmt (he : SndE g X e fe) : SndE g X (.FormattedValue e (-1) none pos) (dUn fmtB fe) := by
  intro B I H ρ σ ts vs d ρ' Q h q k
  unfold dUn at q
  cases q1 : fe ρ with
  | none => rw [q1] at q; cases q
  | some z =>
    obtain ⟨da, ρ1⟩ := z
    rw [q1] at q
    dsimp only at q
    cases q2 : fmtB (fz da) with
    | none => rw [q2] at q; cases q
    | some d0 =>
      rw [q2] at q; cases q
      refine mx_of (pe_fmt pe_mx) (he B I H ρ σ ts vs da _ _ h q1 fun I1 H1 x h1 => ?_)
      obtain ⟨I2, _, h2, rr⟩ := h1.fzTop (ds := [da]) (ws := [x]) rfl
      obtain ⟨w, ew, r⟩ := rr.one_inv
      cases ew
      have h3 := h2.pop (ds := [fz da]) (ws := [x]) rfl
      revert r q2
      generalize fz da = dd
      intro q2 r
      unfold fmtB at q2
      split at q2
      · split at q2 <;> cases q2
        rename_i hl
        obtain ⟨rfl, _⟩ := r.str_i
        exact .inl ⟨_, rfl, line100 hl, k I2 H1 _ (h3.push .str)⟩
      · split at q2 <;> cases q2
        rename_i hl
        obtain ⟨rfl, _⟩ := r.int_i
        exact .inr ⟨_, rfl, hl, k I2 H1 _ (h3.push .str)⟩
      · cases q2
inductive SndJ (g : G) (X : Cx) : List Expr → List Den → Prop
  | nil : SndJ g X [] []
  | cons {e : Expr} {es : List Expr} {f : Den} {fs : List Den} : SndE g X e f → SndJ g X es fs → SndJ g X (e :: es) (f :: fs)
theorem StP.topStr {y : Str} (h : StP g B I H ρ σ (ts ++ [.str y]) (vs ++ [v])) : v = .str y ∧ StP g B I H ρ σ ts vs := by
  obtain ⟨f, r⟩ := h.topRep
  exact ⟨r.str_i.1, h.pop rfl⟩
def mxJ (X : Cx) (es : List Expr) : List TE := es.map (mx X)
theorem pj_mx : ∀ es : List Expr, PJ X es (mxJ X es)
  | [] => .nil
  | _ :: es => .cons pe_mx (pj_mx es)
theorem join_core {fs : List Den} (hj : SndJ g X es fs) : ∀ (acc : Str) (I H : Hp) (ρ ρ' : List D) (out : Str) (Q : Str → Hp → Prop), StP g B I H ρ σ ts vs → joinD fs acc ρ = some (out, ρ') → (∀ I' H', StP g B I' H' ρ' σ ts vs → Q out H') → tJs (mxJ X es) acc σ H Q := by
  induction hj with
  | nil =>
    intro acc I H ρ ρ' out Q h q k
    cases q
    exact k I H h
  | cons he r ih =>
    intro acc I H ρ ρ' out Q h q k
    unfold joinD at q
    split at q
    · rename_i y ρ1 q1
      split at q
      · rename_i hl
        refine he B I H ρ σ ts vs _ ρ1 _ h q1 fun I1 H1 v h1 => ⟨y, h1.topStr.1, line100 hl, ?_⟩
        exact ih (acc ++ y) I1 H1 ρ1 ρ' out Q h1.topStr.2 q k
      · cases q
    · cases q
theorem snd_join {v1 v2 : Expr} {fs : List Den} (hj : SndJ g X (v1 :: v2 :: es) fs) : SndE g X (.JoinedStr (v1 :: v2 :: es) pos) (dJoin fs) := by
  intro B I H ρ σ ts vs d ρ' Q h q k
  unfold dJoin at q
  cases q1 : joinD fs Str.empty ρ with
  | none => rw [q1] at q; cases q
  | some z =>
    obtain ⟨out, ρ1⟩ := z
    rw [q1] at q; cases q
    exact mx_of (pe_joined (pj_mx _)) (join_core hj Str.empty I H ρ _ out _ h q1 fun I1 H1 h1 => k I1 H1 _ (h1.push .str))
theorem snd_join1 (he : SndE g X e fe) : SndE g X (.JoinedStr [e] pos) fe := by
  intro B I H ρ σ ts vs d ρ' Q h q k
  exact mx_of (pe_joined1 pe_mx) (he B I H ρ σ ts vs d ρ' Q h q k)
end
end DV

set_option Elab.async false
set_option maxRecDepth 100000
set_option maxHeartbeats 4000000
set_option linter.all false
/-! DV15: operators, comparisons, str, repr of instances, by the fragment. -/
namespace DV
open PySem L2 PySem.Spec PyProof.Rows

section
variable {prog : Program} {w : World} {M : Model} {A : Around} {E : Value → Shared → Prop} {s : Shared} {K : PySem.W.Frag} {x y C f : Addr} {ox oy : Obj} {od od2 : Option Obj} {i : Int} {t : Tok} {b : Value}
/-- both of one class -/
theorem bin_same {op : Operator} {Q : Value → Shared → Prop} (X : K.In s.heap) (I : PySem.W.InstAt s.heap x ox C od) (J : PySem.W.InstAt s.heap y oy C od2) (hc : PySem.W.selfFirst K C = true)
    (hs : PySem.W.findIn K (.ref C) (PySem.dunder op.info.2) = some (some (.ref f))) (hf : PySem.W.isFn K (.ref f) = true)
    (h : wpAny (model prog w) A (call (.ref f) [.ref x, .ref y]) (PySem.W.CmpBack Q) E s) : wpAny (model prog w) A (binaryOp op (.ref x) (.ref y)) Q E s := by
  obtain ⟨cd, rest, hcd, hm⟩ := PySem.W.ksp_first hc
  rcases hi : op.info with ⟨sym, nm'⟩
  rw [hi] at hs
  dsimp only at hs
  have one := PySem.W.ksp_try X I hs hf h
  obtain ⟨hh, g, d, tt, os⟩ := s
  have L1 : PySem.W.Looks (model prog w) hh (typeOf (.ref x)) (.ref C) := I.type
  have L2 : PySem.W.Looks (model prog w) hh (typeOf (.ref y)) (.ref C) := J.type
  have L3 : PySem.W.Looks (model prog w) hh (fillsNumberSlot (.ref C) nm') true := PySem.W.fills_K X hcd hm hs
  simp only [binaryOp, hi]
  refine wpAny_holding (wpAny_bind ?_)
  unfold binaryOp1
  refine wpAny_bind (L1.at (wpAny_bind (L2.at (wpAny_bind (L3.at ?_)))))
  simp only [beq_self_eq_true, if_true, Bool.and_false, Bool.false_eq_true, if_false]
  refine wpAny_bind (wpAny_pure ?_)
  ksp_lk
  refine wpAny_mono one (fun r s' hr' => ?_) fun _ _ e => e
  obtain ⟨v, rfl, hq⟩ := hr'
  ksp_lk
  exact hq

theorem int_decl_add (hd : oy.data = .plain) : Meets (Builtin.«int.__add__» ⟨[.int i t, .ref y], []⟩) (fun _ R s => s.heap.get? y = some oy ∧ R (.ok (.ret Value.notImplemented)) s) :=
  .of_wp fun prog w A R s h => by obtain ⟨hp, g, d, tk, os⟩ := s; obtain ⟨hl, h⟩ := h; obtain ⟨c, dd, da, sl⟩ := oy; cases hd; wp_walk; exact ⟨_, rfl, h⟩
theorem int_decl_sub (hd : oy.data = .plain) : Meets (Builtin.«int.__sub__» ⟨[.int i t, .ref y], []⟩) (fun _ R s => s.heap.get? y = some oy ∧ R (.ok (.ret Value.notImplemented)) s) :=
  .of_wp fun prog w A R s h => by obtain ⟨hp, g, d, tk, os⟩ := s; obtain ⟨hl, h⟩ := h; obtain ⟨c, dd, da, sl⟩ := oy; cases hd; wp_walk; exact ⟨_, rfl, h⟩
theorem int_decl_mul (hd : oy.data = .plain) : Meets (Builtin.«int.__mul__» ⟨[.int i t, .ref y], []⟩) (fun _ R s => s.heap.get? y = some oy ∧ R (.ok (.ret Value.notImplemented)) s) :=
  .of_wp fun prog w A R s h => by obtain ⟨hp, g, d, tk, os⟩ := s; obtain ⟨hl, h⟩ := h; obtain ⟨c, dd, da, sl⟩ := oy; cases hd; wp_walk; exact ⟨_, rfl, h⟩
theorem int_decl_eq (hd : oy.data = .plain) : Meets (Builtin.«int.__eq__» ⟨[.int i t, .ref y], []⟩) (fun _ R s => s.heap.get? y = some oy ∧ R (.ok (.ret Value.notImplemented)) s) :=
  .of_wp fun prog w A R s h => by obtain ⟨hp, g, d, tk, os⟩ := s; obtain ⟨hl, h⟩ := h; obtain ⟨c, dd, da, sl⟩ := oy; cases hd; wp_walk; exact ⟨_, rfl, h⟩
theorem int_decl_ne (hd : oy.data = .plain) : Meets (Builtin.«int.__ne__» ⟨[.int i t, .ref y], []⟩) (fun _ R s => s.heap.get? y = some oy ∧ R (.ok (.ret Value.notImplemented)) s) :=
  .of_wp fun prog w A R s h => by obtain ⟨hp, g, d, tk, os⟩ := s; obtain ⟨hl, h⟩ := h; obtain ⟨c, dd, da, sl⟩ := oy; cases hd; wp_walk; exact ⟨_, rfl, h⟩
/-- an int on the left, the instance's reflected one -/
theorem bin_refl {op : Operator} {idl : String} {Bi : Builtin} {Q : Value → Shared → Prop} (X : K.In s.heap) (J : PySem.W.InstAt s.heap y oy C od) (hc : PySem.W.selfFirst K C = true)
    (hfT : fillsNumberSlot (.type "int") op.info.2 = pure true) (hl : Slot "int" (PySem.dunder op.info.2) idl) (he : entryFor table idl = some Bi) (ha : argsOk idl ⟨[.int i t, .ref y], []⟩)
    (hm : Meets (Bi ⟨[.int i t, .ref y], []⟩) (fun _ R s => s.heap.get? y = some oy ∧ R (.ok (.ret Value.notImplemented)) s))
    (hs : PySem.W.findIn K (.ref C) (PySem.dunder op.info.2) = some (some (.ref f))) {fr : Addr} (hr : PySem.W.findIn K (.ref C) (dunderR op.info.2) = some (some (.ref fr))) (hf : PySem.W.isFn K (.ref fr) = true)
    (hsub : PySem.W.subIn K (.ref C) (.type "int") = some false)
    (h : wpAny (model prog w) A (call (.ref fr) [.ref y, .int i t]) (PySem.W.CmpBack Q) E s) : wpAny (model prog w) A (binaryOp op (.int i t) (.ref y)) Q E s := by
  obtain ⟨cd, rest, hcd, hmro⟩ := PySem.W.ksp_first hc
  rcases hi : op.info with ⟨sym, nm'⟩
  rw [hi] at hs hr hfT hl
  dsimp only at hs hr hfT hl
  have one := PySem.W.ksp_try X J hr hf h
  have dec : wpAny (model prog w) A (tryMethod (.int i t) (PySem.dunder nm') (.ref y)) (fun r s' => r = none ∧ s' = s) E s :=
    wpAny_tryMethod_declines (typeIs_int s i t) hl (call_meets hl (typeIs_int s i t) he ha hm ⟨J.at_, rfl, rfl, rfl⟩)
  obtain ⟨hh, g, d, tt, os⟩ := s
  have L1 : PySem.W.Looks (model prog w) hh (typeOf (.int i t)) (.type "int") := PySem.W.Looks.of_pure rfl
  have L2 : PySem.W.Looks (model prog w) hh (typeOf (.ref y)) (.ref C) := J.type
  have L3 : PySem.W.Looks (model prog w) hh (fillsNumberSlot (.ref C) nm') true := PySem.W.fills_K X hcd hmro hs
  have L4 : PySem.W.Looks (model prog w) hh (fillsNumberSlot (.type "int") nm') true := PySem.W.Looks.of_pure hfT
  have L5 : PySem.W.Looks (model prog w) hh (isSubtype (.ref C) (.type "int")) false := PySem.W.looks_subIn X hsub
  have L7 : PySem.W.Looks (model prog w) hh (numberSlotInPython (.type "int") nm') false := PySem.W.Looks.of_pure rfl
  have hne : (Value.type "int" == Value.ref C) = false := Bool.eq_false_iff.mpr fun q => by cases beq_iff_eq.mp q
  simp only [binaryOp, hi]
  refine wpAny_holding (wpAny_bind ?_)
  unfold binaryOp1
  refine wpAny_bind (L1.at (wpAny_bind (L2.at (wpAny_bind (L4.at ?_)))))
  simp only [hne, Bool.false_eq_true, if_false]
  ksp_lk
  refine wpAny_mono dec (fun r s' hr' => ?_) fun _ _ e => e
  obtain ⟨rfl, rfl⟩ := hr'
  ksp_lk
  refine wpAny_mono one (fun r s' hr' => ?_) fun _ _ e => e
  obtain ⟨v, rfl, hq⟩ := hr'
  ksp_lk
  exact hq

/-- x == b by the instance's own __eq__ (and the other comparisons) -/
theorem cmp_own {op : CmpOp} {tb : Value} {Q : Value → Shared → Prop} (hu : A.units < cLine) (X : K.In s.heap) (I : PySem.W.InstAt s.heap x ox C od) (hb : PySem.W.Looks (model prog w) s.heap (typeOf b) tb) (hn : PySem.W.notFirst K C tb = true)
    (hs : PySem.W.findIn K (.ref C) (cmpInfo op).2.1 = some (some (.ref f))) (hf : PySem.W.isFn K (.ref f) = true)
    (h : wpAny (model prog w) A (call (.ref f) [.ref x, b]) (fun v s' => ∃ t, v = .bool t ∧ Q v s') E s) : wpAny (model prog w) A (richCompare op (.ref x) b) Q E s := by
  have one : wpAny (model prog w) A (tryCompare (.ref x) (cmpInfo op).2.1 b) (fun r s' => ∃ v, r = some v ∧ Q v s') E s := by
    unfold tryCompare
    refine wpAny_bind (PySem.W.ifBound_K X I hs hf (thn h fun v s' ⟨t, e, q⟩ => ?_))
    subst e
    exact wpAny_pure ⟨_, rfl, q⟩
  unfold richCompare
  simp only [oneThing_ref]
  refine wpAny_holding (wpAny_bind (wpAny_cRoomFor hu (wpAny_bind (I.type.here (wpAny_bind (hb.here ?_))))))
  have fin : ∀ r : Option Value, ∀ s' : Shared, (∃ v, r = some v ∧ Q v s') → ∃ v, r = some v ∧ Q v s' := fun _ _ z => z
  split
  · rename_i q
    have e : PySem.W.subIn K tb (.ref C) = some false := (Bool.or_eq_true_iff.mp hn).elim (fun e => by rw [beq_iff_eq.mp e] at q; simp at q) fun e => beq_iff_eq.mp e
    refine wpAny_bind ((PySem.W.looks_subIn X e).here ?_)
    simp only [Bool.false_eq_true, if_false]
    refine wpAny_bind (thn one fun r s' ⟨v, e, q⟩ => ?_)
    subst e
    exact wpAny_pure q
  · refine wpAny_bind (wpAny_pure ?_)
    simp only [Bool.false_eq_true, if_false]
    refine wpAny_bind (thn one fun r s' ⟨v, e, q⟩ => ?_)
    subst e
    exact wpAny_pure q
theorem ne_entry {Q : Fin → Shared → Prop} (hu : A.units < cLine) (X : K.In s.heap) (I : PySem.W.InstAt s.heap x ox C od) (hs : PySem.W.findIn K (.ref C) "__eq__" = some (some (.ref f))) (hf : PySem.W.isFn K (.ref f) = true)
    (h : wpAny (model prog w) A (call (.ref f) [.ref x, b]) (fun v s' => ∃ t, v = .bool t ∧ Q (.done (.ret (.bool (!t)))) s') E s) : wpAny (model prog w) A (Builtin.«object.__ne__» ⟨[.ref x, b], []⟩) Q E s := by
  have one : wpAny (model prog w) A (callSpecialIfBound? (.ref x) "__eq__" [b]) (fun r s' => ∃ t, r = some (.bool t) ∧ Q (.done (.ret (.bool (!t)))) s') E s :=
    PySem.W.ifBound_K X I hs hf (thn h fun v s' ⟨t, e, q⟩ => ⟨t, by rw [e], q⟩)
  unfold Builtin.«object.__ne__»
  repeat (first
    | with_reducible refine wpAny_cRoomFor hu ?_
    | (refine wpAny_bind (m := callSpecialIfBound? (.ref x) (Str.ofString "__eq__") [b]) (thn one fun r s' hr => by
        obtain ⟨t, rfl, hq⟩ := hr
        repeat (first | exact hq | exact wpAny_pure hq | exact wpAny_truthy_bool hq | (refine wpAny_bind (m := truthy (.bool _)) (wpAny_truthy_bool ?_)) | wp_step)))
    | wp_step)
/-- x != b where __ne__ is object's and __eq__ the instance's own -/
theorem ne_own {tb : Value} {Q : Value → Shared → Prop} (hu : A.units + 1 < cLine) (X : K.In s.heap) (I : PySem.W.InstAt s.heap x ox C od) (hb : PySem.W.Looks (model prog w) s.heap (typeOf b) tb) (hn : PySem.W.notFirst K C tb = true)
    (hne : PySem.W.findIn K (.ref C) "__ne__" = some (some (.builtin "object.__ne__"))) (hob : PySem.W.subIn K (.ref C) (.type "object") = some true)
    (hs : PySem.W.findIn K (.ref C) "__eq__" = some (some (.ref f))) (hf : PySem.W.isFn K (.ref f) = true)
    (h : wpAny (model prog w) A.in1 (call (.ref f) [.ref x, b]) (fun v s' => ∃ t, v = .bool t ∧ Q (.bool (!t)) s') E s) : wpAny (model prog w) A (richCompare .NotEq (.ref x) b) Q E s := by
  have S : Slot "object" "__ne__" "object.__ne__" := PySem.F.slot_object_ne
  have hcall : wpAny (model prog w) A (call (.builtin "object.__ne__") [.ref x, b]) (fun v s' => ∃ t, v = .bool t ∧ Q v s') E s := by
    refine wpAny_call (codeAny_call_builtin S.plain PySem.F.entry_object_ne ?_)
    refine PySem.W.check_slot PySem.F.cmpKind_ne PySem.F.cmpSplit_ne (I.type.andThen (PySem.W.looks_subIn X hob)) (PySem.F.args_object_ne_2 _ _) ?_
    refine ne_entry (A := A.in1) hu X I hs hf (thn h fun v s' ⟨t, e, q⟩ => ⟨t, e, ?_⟩)
    exact ⟨!t, rfl, q⟩
  have one : wpAny (model prog w) A (tryCompare (.ref x) "__ne__" b) (fun r s' => ∃ v, r = some v ∧ Q v s') E s := by
    unfold tryCompare
    simp only [callSpecialIfBound?, bindSpecialIfBound?]
    refine wpAny_bind (wpAny_holding (wpAny_bind (wpAny_bind (wpAny_bind (I.type.here ((PySem.W.looks_findIn X hne).here ?_))))))
    simp only [S.bind]
    refine wpAny_bind (wpAny_askSetting (wpAny_ite ?_))
    have fin : wpAny (model prog w) A (call (.builtin "object.__ne__") ([.ref x] ++ [b]) >>= fun v => pure (some v)) (fun r s' => wpAny (model prog w) A (match r with | some .notImplemented | none => pure none | some v => pure (some v)) (fun r s' => ∃ v, r = some v ∧ Q v s') E s') E s :=
      wpAny_bind (thn hcall fun v s' ⟨t, e, q⟩ => wpAny_pure (by subst e; exact wpAny_pure ⟨_, rfl, q⟩))
    split
    · exact wpAny_bind (wpAny_pure (wpAny_pure (by exact fin)))
    · exact wpAny_tryCatch (wpAny_bind (wpAny_pure (wpAny_pure (by exact fin))))
  unfold richCompare
  simp only [oneThing_ref]
  refine wpAny_holding (wpAny_bind (wpAny_cRoomFor (Nat.lt_of_succ_lt hu) (wpAny_bind (I.type.here (wpAny_bind (hb.here ?_))))))
  split
  · rename_i q
    have e : PySem.W.subIn K tb (.ref C) = some false := (Bool.or_eq_true_iff.mp hn).elim (fun e => by rw [beq_iff_eq.mp e] at q; simp at q) fun e => beq_iff_eq.mp e
    refine wpAny_bind ((PySem.W.looks_subIn X e).here ?_)
    simp only [Bool.false_eq_true, if_false]
    refine wpAny_bind (thn one fun r s' ⟨v, e, q⟩ => ?_)
    subst e
    exact wpAny_pure q
  · refine wpAny_bind (wpAny_pure ?_)
    simp only [Bool.false_eq_true, if_false]
    refine wpAny_bind (thn one fun r s' ⟨v, e, q⟩ => ?_)
    subst e
    exact wpAny_pure q
/-- i == y, the instance's __eq__ asked behind int's -/
theorem eq_refl {fe : Addr} {Q : Value → Shared → Prop} (hu : A.units < cLine) (X : K.In s.heap) (J : PySem.W.InstAt s.heap y oy C od) (hd : oy.data = .plain)
    (hs : PySem.W.findIn K (.ref C) "__eq__" = some (some (.ref fe))) (hf : PySem.W.isFn K (.ref fe) = true) (hsub : PySem.W.subIn K (.ref C) (.type "int") = some false)
    (h : wpAny (model prog w) A (call (.ref fe) [.ref y, .int i t]) (fun v s' => ∃ t, v = .bool t ∧ Q v s') E s) : wpAny (model prog w) A (richCompare .Eq (.int i t) (.ref y)) Q E s := by
  have dec : wpAny (model prog w) A (tryCompare (.int i t) "__eq__" (.ref y)) (fun r s' => r = none ∧ s' = s) E s := by
    unfold tryCompare
    refine wpAny_bind (wpAny_callSpecialIfBound?_slot (typeIs_int s i t) PySem.F.slot_int_eq (call_meets PySem.F.slot_int_eq (typeIs_int s i t) PySem.F.entry_int_eq (PySem.F.args_int_eq_2 _ _) (int_decl_eq hd) ⟨J.at_, wpAny_pure ⟨rfl, rfl⟩⟩))
  have one : wpAny (model prog w) A (tryCompare (.ref y) "__eq__" (.int i t)) (fun r s' => ∃ v, r = some v ∧ Q v s') E s := by
    unfold tryCompare
    refine wpAny_bind (PySem.W.ifBound_K X J hs hf (thn h fun v s' ⟨t, e, q⟩ => ?_))
    subst e
    exact wpAny_pure ⟨_, rfl, q⟩
  unfold richCompare
  refine wpAny_holding (wpAny_bind (wpAny_cRoomFor hu ?_))
  have eo : oneThing? .Eq (.int i t) (.ref y) = none := rfl
  rw [eo]
  dsimp only
  refine wpAny_bind ((PySem.W.Looks.of_pure (r := Value.type "int") rfl).here (wpAny_bind (J.type.here ?_)))
  have hne : (Value.type "int" != Value.ref C) = true := by simp
  rw [hne, if_pos rfl]
  refine wpAny_bind ((PySem.W.looks_subIn X hsub).here ?_)
  simp only [Bool.false_eq_true, if_false, Bool.not_false, if_true]
  refine wpAny_bind (thn dec fun r s' ⟨e, e'⟩ => ?_)
  subst e e'
  refine wpAny_bind (thn one fun r s' ⟨v, e, q⟩ => ?_)
  subst e
  exact wpAny_pure q
theorem neg_own {Q : Value → Shared → Prop} (X : K.In s.heap) (I : PySem.W.InstAt s.heap x ox C od) (hs : PySem.W.findIn K (.ref C) "__neg__" = some (some (.ref f))) (hf : PySem.W.isFn K (.ref f) = true)
    (h : wpAny (model prog w) A (call (.ref f) [.ref x]) Q E s) : wpAny (model prog w) A (unaryOp .USub (.ref x)) Q E s := by
  unfold unaryOp
  exact wpAny_holding (wpAny_bind (PySem.W.special_fn X I hs (beq_iff_eq.mp hf) (thn h fun v s' q => wpAny_pure q)))
theorem repr_ownK {Q : Value → Shared → Prop} (hu : A.in1.units < cLine) (X : K.In s.heap) (I : PySem.W.InstAt s.heap x ox C od) (hs : PySem.W.findIn K (.ref C) "__repr__" = some (some (.ref f))) (hf : PySem.W.isFn K (.ref f) = true)
    (h : wpAny (model prog w) A.in1 (call (.ref f) [.ref x]) (fun r s' => ∃ m tk, r = .str m tk ∧ Q (.str m tk) s') E s) : wpAny (model prog w) A (call (.builtin "repr") [.ref x]) Q E s := by
  refine Calls.call_function_entry PySem.F.kind_repr PySem.F.plain_repr PySem.F.entry_repr (PySem.F.args_repr1 _) ?_
  unfold Builtin.«repr»
  refine wpAny_bind (m := oneArg "repr" _) (wpAny_pure (wpAny_bind (wpAny_cRoomFor hu ?_)))
  refine wpAny_bind (m := specialOf (.ref x) (Str.ofString "__repr__")) (wpAny_bind (I.type.here ((PySem.W.looks_findIn X hs).here ?_)))
  rw [if_neg (by simp)]
  refine wpAny_bind (m := callSpecialIfBound? (.ref x) (Str.ofString "__repr__") _) (PySem.W.ifBound_K X I hs hf (thn h fun r s' hr => ?_))
  obtain ⟨m, tk, rfl, hq⟩ := hr
  refine wpAny_bind (wpAny_isInstance (typeIs_str _ _ _) isSubtype_str_str ?_)
  first
    | exact wpAny_pure ⟨_, rfl, hq⟩
    | (simp only [if_true]; exact wpAny_pure ⟨_, rfl, hq⟩)
end
end DV

set_option Elab.async false
set_option maxRecDepth 100000
set_option maxHeartbeats 4000000
set_option linter.all false
/-! DV16: classes on deep values: fields, properties, methods, creation. -/
namespace DV
open PySem L2 PySem.Spec PyProof.Rows

theorem zip_at {f : Str} {v : V} : ∀ {ns : List Str} {vs : List V} {i : Nat}, ns.Nodup → ns[i]? = some f → vs[i]? = some v → (ns.zip vs).lookup f = some v
  | [], _, _, _, e, _ => by simp at e
  | _ :: _, [], _, _, _, e => by simp at e
  | n :: ns, w :: vs, 0, _, e1, e2 => by
    have e1' : n = f := by simpa using e1
    have e2' : w = v := by simpa using e2
    subst e1' e2'
    rw [List.zip_cons_cons, List.lookup_cons_self]
  | n :: ns, w :: vs, i + 1, nd, e1, e2 => by
    have e1' : ns[i]? = some f := by simpa using e1
    have ne : (f == n) = false := by
      rw [beq_eq_false_iff_ne]
      rintro rfl
      exact (List.nodup_cons.mp nd).1 (List.mem_of_getElem? e1')
    rw [List.zip_cons_cons, List.lookup_cons, ne]
    exact zip_at (List.nodup_cons.mp nd).2 e1' (by simpa using e2)
theorem zip_no {f : Str} : ∀ {ns : List Str} {vs : List V}, f ∉ ns → (ns.zip vs).lookup f = none
  | [], _, _ => rfl
  | _ :: _, [], _ => rfl
  | n :: ns, w :: vs, h => by
    have ne : (f == n) = false := by
      rw [beq_eq_false_iff_ne]
      rintro rfl
      exact h (List.mem_cons_self ..)
    rw [List.zip_cons_cons, List.lookup_cons, ne]
    exact zip_no fun z => h (List.mem_cons_of_mem _ z)
theorem zip_put {f : Str} {y : V} : ∀ {ns : List Str} {vs : List V} {j : Nat}, ns.Nodup → ns[j]? = some f → j ≤ vs.length → putF f y (ns.zip vs) = ns.zip (if j < vs.length then vs.set j y else vs ++ [y])
  | [], _, _, _, e, _ => by simp at e
  | n :: ns, [], j, nd, e, l => by
    have hj : j = 0 := by simpa using l
    subst hj
    have e' : n = f := by simpa using e
    subst e'
    rw [if_neg (by simp), List.zip_nil_right, List.nil_append, List.zip_cons_cons, List.zip_nil_right]
    rfl
  | n :: ns, w :: vs, 0, nd, e, l => by
    have e' : n = f := by simpa using e
    subst e'
    rw [if_pos (by simp), List.zip_cons_cons, List.set_cons_zero, List.zip_cons_cons]
    show (if n = n then _ else _) = _
    rw [if_pos rfl]
  | n :: ns, w :: vs, j + 1, nd, e, l => by
    have e' : ns[j]? = some f := by simpa using e
    have ne : ¬ n = f := by
      rintro rfl
      exact (List.nodup_cons.mp nd).1 (List.mem_of_getElem? e')
    have ih := zip_put (y := y) (vs := vs) (List.nodup_cons.mp nd).2 e' (by simpa using l)
    rw [List.zip_cons_cons]
    show (if n = f then _ else (n, w) :: putF f y (ns.zip vs)) = _
    rw [if_neg ne, ih]
    by_cases q : j < vs.length
    · rw [if_pos q, if_pos (by simpa using q), List.set_cons_succ, List.zip_cons_cons]
    · rw [if_neg q, if_neg (by simpa using q), List.cons_append, List.zip_cons_cons]

/-! ### what a body knows of classes -/
/-- instances of c have the field f at place j -/
structure FldOk (g : G) (X : Cx) (c : Nat) (f : Str) (j : Nat) : Prop where
  at_ : (g.flds c)[j]? = some f
  nd : (g.flds c).Nodup
  sz : (g.flds c).length < 1000
  cls : ∀ C, g.cls c = some C → Cls X.K C ∧ NoAttr X.K C f
structure MOk (g : G) (X : Cx) (c : Nat) (name : Str) (n : Nat) (mu : Bool) (fn : Fn) : Prop where
  ex : ∃ (C f : Addr) (fd : FuncData) (ps : List Str) (k : Nat), g.cls c = some C ∧ Cls X.K C ∧ Meth X.K C name f ∧ Binds X.K fd ps [] ∧ Room (k + 2) X.A ∧
    FnD X.prog X.w X.K X.mg X.base false k f fd ps (spD g mu n fn) ∧ ps.length = n
  no : name ∉ g.flds c
structure POk (g : G) (X : Cx) (c : Nat) (name : Str) (fn : Fn) : Prop where
  ex : ∃ (C p f : Addr) (fd : FuncData) (ps : List Str) (k : Nat), g.cls c = some C ∧ Cls X.K C ∧ PropOf X.K C name p f ∧ Binds X.K fd ps [] ∧ Room (k + 2) X.A ∧
    FnD X.prog X.w X.K X.mg X.base false k f fd ps (spD g false 1 fn) ∧ ps.length = 1
structure CMOk (g : G) (X : Cx) (c : Nat) (name : Str) (n : Nat) (fn : Fn) : Prop where
  ex : ∃ (C p f : Addr) (mc : Value) (fd : FuncData) (ps : List Str) (k : Nat), g.cls c = some C ∧ ClX.CRead X.K C mc ∧ ClX.CMet X.K C mc name p f ∧ Binds X.K fd ps [] ∧ Room (k + 2) X.A ∧
    FnD X.prog X.w X.K X.mg X.base false k f fd ps (spD g false n fn) ∧ ps.length = n
/-- x(..) makes instances of c; dd: the defaults that fill up -/
structure MkOk (g : G) (X : Cx) (c : Nat) (x : Str) (n : Nat) (dd : List D) (fn : Fn) : Prop where
  ex : ∃ (C f : Addr) (fd : FuncData) (ps : List Str) (k : Nat) (dvs : List V) (ds : List Value), g.cls c = some C ∧ X.mg x = some (.ref C) ∧ Mk X.K C f ∧ Binds X.K fd ps ds ∧ Vals dvs ds ∧ (∀ I H, Reps g I H dd dvs []) ∧ Room (k + 2) X.A ∧
    FnD X.prog X.w X.K X.mg X.base false k f fd ps (spD g true n fn) ∧ ps.length = n

/-! ### what they do -/
def dFld (c j : Nat) (f : Den) : Den := fun ρ => match f ρ with
  | some (d, ρ') => match fz d with
    | .ins c' xs => if c' = c then (match xs[j]? with
      | some x => some (x, ρ')
      | none => none) else none
    | _ => none
  | none => none
/-- of the object in slot i, which stays as it is -/
def dFldV (i c j : Nat) : Den := fun ρ => match ρ[i]? with
  | some (.obj c' xs) => if c' = c then (match xs[j]? with
    | some x => some (fz x, ρ.set i (.obj c (xs.set j (fz x))))
    | none => none) else none
  | some (.ins c' xs) => if c' = c then (match xs[j]? with
    | some x => some (x, ρ)
    | none => none) else none
  | _ => none
def dMeth (c : Nat) (fn : Fn) (f : Den) (r : Dens) : Den := fun ρ => match f ρ with
  | some (d, ρ1) => match fz d with
    | .ins c' xs => if c' = c then (match r ρ1 with
      | some (ds, ρ2) => match fn (.ins c xs :: ds.map fz) with
        | some (d', _) => some (d', ρ2)
        | none => none
      | none => none) else none
    | _ => none
  | none => none
def dProp (c : Nat) (fn : Fn) (f : Den) : Den := dMeth c fn f dNil
def dCMeth (c : Nat) (fn : Fn) (r : Dens) : Den := fun ρ => match r ρ with
  | some (ds, ρ') => match fn (.cls c :: ds.map fz) with
    | some (d, _) => some (d, ρ')
    | none => none
  | none => none
def dMake (c : Nat) (dd : List D) (fn : Fn) (r : Dens) : Den := fun ρ => match r ρ with
  | some (ds, ρ') => match fn (.obj c [] :: (ds.map fz ++ dd)) with
    | some (.non, o) => some (o, ρ')
    | _ => none
  | none => none
/-- self.f = e, self in slot i -/
def sFst (i c j : Nat) (fe : Den) : DenS := fun ρ => match fe ρ with
  | some (d, ρ') => match ρ'[i]? with
    | some (.obj c' xs) => if c' = c ∧ j ≤ xs.length then some (.nx (ρ'.set i (.obj c (if j < xs.length then xs.set j d else xs ++ [d])))) else none
    | _ => none
  | none => none

section
variable {g : G} {X : Cx} {B : Bs} {I I' H H' : Hp} {ρ : List D} {σ : L2.St} {ts ds xs : List D} {vs ws us : List V} {d o : D} {v : V} {c j n k i : Nat} {fn sem : Fn} {e a : Expr} {es : List Expr} {fe : Den} {r : Dens} {m f x : Str} {pos apos p : Pos} {fx : Bool}

/-! ### steps -/
theorem StP.objAt (h : StP g B I H ρ σ ts vs) (e : ρ[i]? = some (.obj c xs)) : ∃ C a dx us, σ[i]? = some (some (.ref a)) ∧ g.cls c = some C ∧ H a = some (.ins C dx ((g.flds c).zip us)) ∧ us.length = xs.length := by
  obtain ⟨F1, F2, h1, h2, nd, of, hF⟩ := h.reps
  obtain ⟨w, A, f, Z, es, rfl, r, _⟩ := h1.at e (by simp)
  cases r with
  | obj hc hp hd hl ri => exact ⟨_, _, _, _, es, hc, hp, ri.length.symm⟩
/-- a field is read; it is frozen, the object not -/
theorem StP.objRead (h : StP g B I H ρ σ ts vs) (e : ρ[i]? = some (.obj c xs)) (ej : xs[j]? = some d) :
    ∃ C a dx us v I', σ[i]? = some (some (.ref a)) ∧ g.cls c = some C ∧ H a = some (.ins C dx ((g.flds c).zip us)) ∧ us[j]? = some v ∧ StP g B I' H (ρ.set i (.obj c (xs.set j (fz d)))) σ (ts ++ [fz d]) (vs ++ [v]) := by
  obtain ⟨F1, F2, h1, h2, nd, of, hF⟩ := h.reps
  obtain ⟨w, A, f, Z, es, rfl, r, k⟩ := h1.at e (by simp)
  cases r with
  | obj hc hp hd hl ri =>
    rename_i C a dx us f0
    obtain ⟨v, A0, f1, C0, ev, rfl, rd, k0⟩ := ri.item ej
    have n' : ∀ b ∈ f1, I b = none := fun b hb => of b (by grind)
    have si := tk_same (H := H) n'
    have rr : Rep g (tk I H f1) H (fz d) v [] := rd.fz si fun b hb => tk_in hb
    have k3 := k0 si (fun _ _ => rfl) rr
    rw [set_same ev] at k3
    have k1 := k si (fun _ _ => rfl) (.obj hc hp hd (by rw [List.length_set]; exact hl) k3)
    rw [set_same es] at k1
    have k2 := (h2.mono (H' := H) si fun _ _ => rfl).append (Reps.one rr)
    refine ⟨C, a, dx, us, v, tk I H f1, es, hc, hp, ev, h.step hF si (tk_sub h.same) (fun _ _ e _ => e) (fun _ _ z => z) (fun b z _ n => ?_) ⟨_, _, k1, k2, ?_, fun b hb => ?_⟩⟩
    · rw [tk_out (by grind)]; exact z
    · clear k k0 k1 k2 k3
      simp only [List.nodup_append, List.mem_append, List.nodup_cons, List.mem_cons, List.nil_append, List.append_nil] at *
      grind
    · have hb' : b ∉ f1 := by
        clear k k0 k1 k2 k3
        simp only [List.nodup_append, List.mem_append, List.nodup_cons, List.mem_cons, List.nil_append, List.append_nil] at *
        grind
      rw [tk_out hb']
      exact ⟨of b (by grind), .inl (by grind)⟩
/-- a field is stored -/
theorem StP.objSet (h : StP g B I H ρ σ (ts ++ [d]) (vs ++ [v])) (e : ρ[i]? = some (.obj c xs)) (hj : j ≤ xs.length) (hz : j < (g.flds c).length) :
    ∃ C a dx us, σ[i]? = some (some (.ref a)) ∧ g.cls c = some C ∧ H a = some (.ins C dx ((g.flds c).zip us)) ∧ us.length = xs.length ∧
      StP g B I (upd H a (.ins C dx ((g.flds c).zip (if j < us.length then us.set j v else us ++ [v])))) (ρ.set i (.obj c (if j < xs.length then xs.set j d else xs ++ [d]))) σ ts vs := by
  obtain ⟨F1, F2, h1, h2, nd, of, hF⟩ := h.reps
  obtain ⟨fa, fd, rfl, r1, r2⟩ := h2.split' rfl
  obtain ⟨w, ew, rd⟩ := r2.one_inv
  cases ew
  obtain ⟨w, A, f, Z, es, rfl, r, k⟩ := h1.at e (by simp)
  cases r with
  | obj hc hp hd hl ri =>
    rename_i C a dx us f0
    have ul := ri.length
    -- the new items
    have items : ∃ f', (∀ b ∈ f', b ∈ f0 ++ fd) ∧ ((f0 ++ fd).Nodup → f'.Nodup) ∧ ∀ {H' : Hp}, (∀ b ∈ f0 ++ fd, H' b = H b) → Reps g I H' (if j < xs.length then xs.set j d else xs ++ [d]) (if j < us.length then us.set j v else us ++ [v]) f' := by
      by_cases q : j < xs.length
      · obtain ⟨v1, A0, f1, C0, ev, rfl, _, k0⟩ := ri.item (List.getElem?_eq_getElem q)
        refine ⟨A0 ++ (fd ++ C0), fun b hb => by grind, fun z => by clear k k0; simp only [List.nodup_append, List.mem_append] at *; grind, fun {H'} hb => ?_⟩
        rw [if_pos q, if_pos (by omega)]
        exact k0 (Same.refl _) (fun b hb' => hb b (by grind)) (rd.mono (Same.refl _) fun b hb' => hb b (by grind))
      · refine ⟨f0 ++ fd, fun b hb => hb, fun z => z, fun {H'} hb => ?_⟩
        rw [if_neg q, if_neg (by omega)]
        exact (ri.mono (Same.refl _) fun b hb' => hb b (by grind)).append (Reps.one (rd.mono (Same.refl _) fun b hb' => hb b (by grind)))
    obtain ⟨f', sub, ndp, mk⟩ := items
    have np : a ∉ (A ++ Z) ++ (dx :: f0) ++ (fa ++ fd) := by
      clear k mk
      simp only [List.nodup_append, List.mem_append, List.nodup_cons, List.mem_cons] at *
      grind
    have kk : ∀ b, b ∈ (A ++ Z) ++ (dx :: f0) ++ (fa ++ fd) → upd H a (.ins C dx ((g.flds c).zip (if j < us.length then us.set j v else us ++ [v]))) b = H b := fun b hb => upd_ne (fun z => np (by rw [← z]; exact hb))
    have nI : I a = none := of a (by simp)
    have len' : (if j < xs.length then xs.set j d else xs ++ [d]).length ≤ (g.flds c).length := by
      split
      · rw [List.length_set]; exact hl
      · rw [List.length_append, List.length_singleton]; omega
    have k1 := k (Same.refl _) (fun b hb => kk b (by grind)) (.obj hc upd_same ((kk dx (by simp)).trans hd) len' (mk fun b hb => kk b (by grind)))
    rw [set_same es] at k1
    refine ⟨C, a, dx, us, es, hc, hp, ul.symm, h.step hF (Same.refl _) (fun b u e => ?_) (fun b u e q => ?_) (fun b q z => ?_) (fun _ z _ _ => z) ⟨_, fa, k1, r1.mono (Same.refl _) fun b hb => kk b (by grind), ?_, fun b hb => ⟨of b (by grind), .inl (by grind)⟩⟩⟩
    · rw [upd_ne (fun z => by subst z; rw [nI] at e; cases e)]
      exact h.same b u e
    · rw [upd_ne (fun z => q (by subst z; simp))]
      exact e
    · by_cases w : b = a
      · subst w; rw [upd_same]; simp
      · rw [upd_ne w]; exact z
    · have n1 : (f0 ++ fd).Nodup := by
        clear k mk kk k1
        simp only [List.nodup_append, List.mem_append, List.nodup_cons, List.mem_cons] at *
        grind
      have n2 := ndp n1
      clear k mk kk k1 ndp
      simp only [List.nodup_append, List.mem_append, List.nodup_cons, List.mem_cons] at *
      grind
/-- a new object of class c, its __init__ run -/
theorem StP.callM {Q : VK} {dd : List D} {dvs : List V} {C x dx : Addr} (h : StP g B I H ρ σ (ts ++ ds) (vs ++ ws)) (hl : ds.length = ws.length) (hc : g.cls c = some C) (hs : sem (.obj c [] :: (ds.map fz ++ dd)) = some (.non, o)) (rd : ∀ I H, Reps g I H dd dvs []) (hn : (ws ++ dvs).length + 1 = n)
    (k : ∀ I' H' v, StP g B I' H' ρ σ (ts ++ [o]) (vs ++ [v]) → Q v H') (nx : H x = none) (ndx : H dx = none) (ne : dx ≠ x) :
    spD g true n sem (.ref x :: (ws ++ dvs)) (upd (upd H dx (.own x)) x (.ins C dx [])) (fun v H2 => v = .non ∧ Q (.ref x) H2) E0 := by
  obtain ⟨I2, si, h2, rr⟩ := h.fzTop hl
  obtain ⟨F1, F2, s1, s2, nd0, of0, hF⟩ := (h2.pop (by simpa using hl)).reps
  have th : ∀ b ∈ F1 ++ F2, ∃ u, H b = some u := fun b hb => (List.mem_append.mp hb).elim (s1.there b) (s2.there b)
  have nIx : I2 x = none := h2.same.free nx
  have nId : I2 dx = none := h2.same.free ndx
  have hx : upd (upd H dx (.own x)) x (.ins C dx []) x = some (.ins C dx []) := upd_same
  have hd : upd (upd H dx (.own x)) x (.ins C dx []) dx = some (.own x) := by rw [upd_ne ne, upd_same]
  have ho : ∀ b, b ≠ x → b ≠ dx → upd (upd H dx (.own x)) x (.ins C dx []) b = H b := fun b h1 h2 => by rw [upd_ne h1, upd_ne h2]
  have sm : Same I2 (upd (upd H dx (.own x)) x (.ins C dx [])) := fun b u e => by
    rw [ho b (fun z => by subst z; rw [nIx] at e; cases e) (fun z => by subst z; rw [nId] at e; cases e)]
    exact h2.same b u e
  refine ⟨by simpa using hn, I2, .obj c [] :: (ds.map fz ++ dd), [x, dx], .non, o, sm, ?_, by simp [Ne.symm ne], fun b hb => ?_, hs, fun I' H' v f1 f2 si' sh' r ro _ nd off kh ki kd => ?_⟩
  · have r1 : Rep g I2 (upd (upd H dx (.own x)) x (.ins C dx [])) (.obj c []) (.ref x) (x :: dx :: []) := .obj hc (vs := []) (by rw [List.zip_nil_right]; exact hx) hd (Nat.zero_le _) .nil
    have r2 := Reps.cons r1 ((rr.mono (Same.refl _) (H' := upd (upd H dx (.own x)) x (.ins C dx [])) fun b hb => by cases hb).append (rd I2 _))
    simpa using r2
  · rcases List.mem_cons.mp hb with rfl | hb
    · exact nIx
    · rcases List.mem_cons.mp hb with rfl | hb
      · exact nId
      · cases hb
  · obtain ⟨rfl, rfl⟩ := r.non_i
    refine ⟨rfl, ?_⟩
    obtain ⟨w0, ew, ro⟩ := ro rfl
    cases ew
    have nb : ∀ b ∈ F1 ++ F2, b ≠ x ∧ b ≠ dx := fun b hb => by
      obtain ⟨u, e⟩ := th b hb
      exact ⟨fun z => (by subst z; rw [nx] at e; cases e), fun z => (by subst z; rw [ndx] at e; cases e)⟩
    have kk : ∀ b ∈ F1 ++ F2, H' b = H b := fun b hb => by
      obtain ⟨u, e⟩ := th b hb
      rw [e]
      exact kh b u (by rw [ho b (nb b hb).1 (nb b hb).2]; exact e) (by simp [(nb b hb).1, (nb b hb).2])
    refine k I' H' (.ref x) (h2.step hF si' sh' (fun b u e q => ?_) (fun b hb z => by rw [kk b hb]; exact z) (fun b z z' q => ?_) ⟨F1, F2 ++ f2, s1.mono si' fun b hb => kk b (by grind), (s2.mono si' fun b hb => kk b (by grind)).append (Reps.one ro), ?_, fun b hb => ?_⟩)
    · have b1 : b ≠ x := fun z => by subst z; rw [nx] at e; cases e
      have b2 : b ≠ dx := fun z => by subst z; rw [ndx] at e; cases e
      exact kh b u (by rw [ho b b1 b2]; exact e) (by simp [b1, b2])
    · have b1 : b ≠ x := fun w => by subst w; exact z' nx
      have b2 : b ≠ dx := fun w => by subst w; exact z' ndx
      exact ki b z (by rw [ho b b1 b2]; exact z') (by simp [b1, b2])
    · have : ∀ b ∈ f2, b ∉ F1 ++ F2 := fun b hb z => by
        have h3 := (off b (by simp [hb])).2
        obtain ⟨u, e⟩ := th b z
        rcases h3 with q | q
        · have := nb b z
          simp at q
          grind
        · rw [ho b (nb b z).1 (nb b z).2, e] at q; cases q
      have nd' : f2.Nodup := by simpa using nd
      clear off k kk ro
      simp only [List.nodup_append, List.mem_append] at *
      grind
    · by_cases q : b ∈ F1 ++ F2
      · refine ⟨ki b (of0 b q) ?_ (by simp [(nb b q).1, (nb b q).2]), .inl q⟩
        obtain ⟨u, e⟩ := th b q
        rw [ho b (nb b q).1 (nb b q).2, e]
        simp
      · have h3 := off b (by grind)
        refine ⟨h3.1, .inr ?_⟩
        rcases h3.2 with z | z
        · have : b = x ∨ b = dx := by simpa using z
          rcases this with rfl | rfl
          · exact nx
          · exact ndx
        · by_cases b1 : b = x
          · subst b1; exact nx
          · by_cases b2 : b = dx
            · subst b2; exact ndx
            · rw [ho b b1 b2] at z; exact z
end
end DV

set_option Elab.async false
set_option maxRecDepth 100000
set_option maxHeartbeats 4000000
set_option linter.all false
/-! DV17: classes on deep values: the rules. -/
namespace DV
open PySem L2 PySem.Spec PyProof.Rows

/-- the form of a call of a method -/
def MForm (env : Env) (o : Expr) (m : Str) (apos pos : Pos) (args : List Expr) : Prop := ∃ pl : Sem Bool, eval (.Call (.Attribute o m apos) args [] pos) env = (do
      let ov ← eval o env
      standAt apos.atName
      let (f, first) ← holding [ov] (getMethod ov m pl)
      callWith pos f first (backTo pos (starEach args env)) (backToKw pos (keywordEach [] env)))

section
variable {g : G} {X : Cx} {B : Bs} {I I' H H' : Hp} {ρ : List D} {σ : L2.St} {ts ds xs : List D} {vs ws us : List V} {d o : D} {v : V} {c j n k i : Nat} {fn sem : Fn} {e a : Expr} {es : List Expr} {fe : Den} {r : Dens} {m f x : Str} {pos apos p : Pos} {fx : Bool} {dd : List D}

theorem stars_plain (h : noStars es = true) : (backTo pos (starEach es X.env)).any (·.1) = false := stars_any h

theorem snd_fld (F : FldOk g X c f j) (hb : attributeBase e f X.env (eval e X.env) = eval e X.env) (he : SndE g X e fe) : SndE g X (.Attribute e f pos) (dFld c j fe) := by
  intro B I H ρ σ ts vs d ρ' Q h q k
  unfold dFld at q
  cases q1 : fe ρ with
  | none => rw [q1] at q; cases q
  | some z =>
    obtain ⟨da, ρ1⟩ := z
    rw [q1] at q
    dsimp only at q
    split at q
    · rename_i c' xs ed
      split at q
      · rename_i hc
        subst hc
        split at q
        · rename_i x ex
          cases q
          refine mx_of (pe_fld pe_mx hb) (he B I H ρ σ ts vs da _ _ h q1 fun I1 H1 y h1 => ?_)
          obtain ⟨I2, _, h2, rr⟩ := h1.fzTop (ds := [da]) (ws := [y]) rfl
          rw [List.map_cons, List.map_nil, ed] at rr
          obtain ⟨w, ew, r⟩ := rr.one_inv
          cases ew
          obtain ⟨C, a, dx, us, rfl, _, hC, hI, ri⟩ := r.ins_i
          have h3 := h2.pop (ds := [fz da]) (ws := [V.ref a]) rfl
          obtain ⟨v, ev, rv⟩ := ri.get ex
          exact ⟨a, C, dx, _, v, rfl, h3.same _ _ hI, (F.cls C hC).1, (F.cls C hC).2, zip_at F.nd F.at_ ev, k I2 H1 v (h3.push rv)⟩
        · cases q
      · cases q
    · cases q
  
theorem snd_fldV (F : FldOk g X c f j) (hb : attributeBase (.Name x p) f X.env (eval (.Name x p) X.env) = eval (.Name x p) X.env) (hN : X.N[i]? = some x) (hv : Vis X.env.scope x) (hd : (x == ("__debug__" : Str)) = false) (hcd : (x == ("__classdict__" : Str)) = false) :
    SndE g X (.Attribute (.Name x p) f pos) (dFldV i c j) := by
  intro B I H ρ σ ts vs d ρ' Q h q k
  unfold dFldV at q
  refine mx_of (pe_fld (pe_var hN hv hd hcd) hb) ?_
  split at q
  · rename_i c' xs e
    split at q
    · rename_i hc
      subst hc
      split at q
      · rename_i y ey
        cases q
        obtain ⟨C, a, dx, us, v, I2, es, hC, hI, ev, h2⟩ := h.objRead e ey
        exact ⟨_, es, a, C, dx, _, v, rfl, hI, (F.cls C hC).1, (F.cls C hC).2, zip_at F.nd F.at_ ev, k I2 H v h2⟩
      · cases q
    · cases q
  · rename_i c' xs e
    split at q
    · rename_i hc
      subst hc
      split at q
      · rename_i y ey
        cases q
        obtain ⟨w, I2, es, r, h2⟩ := h.var e (by simp)
        obtain ⟨C, a, dx, us, rfl, _, hC, hI, ri⟩ := r.ins_i
        obtain ⟨v, ev, rv⟩ := ri.get ey
        have h3 : StP g B I2 H ρ σ ts vs := by
          have e2 : ρ.set i (fz (.ins c' xs)) = ρ := set_same e
          rwa [e2] at h2
        exact ⟨_, es, a, C, dx, _, v, rfl, h3.same _ _ hI, (F.cls C hC).1, (F.cls C hC).2, zip_at F.nd F.at_ ev, k I2 H v (h3.push rv)⟩
      · cases q
    · cases q
  · cases q
theorem snd_fst (F : FldOk g X c f j) (hs : swapsWith e (some (.Attribute (.Name x p) f apos)) pos.line X.env = pure false) (hN : X.N[i]? = some x) (hv : Vis X.env.scope x) (hd : (x == ("__debug__" : Str)) = false) (hcd : (x == ("__classdict__" : Str)) = false) (he : SndE g X e fe) :
    SndS g fx X (.Assign [.Attribute (.Name x p) f apos] e pos) (sFst i c j fe) := by
  intro B I H ρ σ ts vs fl E h q k
  unfold sFst at q
  cases q1 : fe ρ with
  | none => rw [q1] at q; cases q
  | some z =>
    obtain ⟨d, ρ1⟩ := z
    rw [q1] at q
    dsimp only at q
    refine mxS_of (ps_fld (pe_var hN hv hd hcd) pe_mx hs) (he B I H ρ σ ts vs d ρ1 _ h q1 fun I1 H1 y h1 => ?_)
    split at q
    · rename_i c' xs e1
      split at q
      · rename_i hc
        obtain ⟨rfl, hj⟩ := hc
        cases q
        obtain ⟨C, a, dx, us, es, hC, hI, ul, h2⟩ := h1.objSet e1 hj (List.getElem?_eq_some_iff.mp F.at_).1
        refine ⟨_, es, a, C, dx, _, rfl, hI, (F.cls C hC).1, (F.cls C hC).2, ?_, ?_⟩
        · have := F.sz
          rw [List.length_zip]
          omega
        · rw [zip_put F.nd F.at_ (by omega)]
          exact k I1 _ σ h2 .refl
      · cases q
    · cases q
theorem snd_globC {C : Addr} (hg : Gl X x) (hm : X.mg x = some (.ref C)) (hd : (x == ("__debug__" : Str)) = false) (hc : g.cls c = some C) : SndE g X (.Name x pos) (dCst (.cls c)) := by
  intro B I H ρ σ ts vs d ρ' Q h q k
  cases q
  exact mx_of (pe_glob (v := .ref C) hg hm rfl hd) (k I H _ (h.push (.cls hc)))
/-- a built-in type's name -/
theorem snd_meth (M : MOk g X c m n false fn) (hs : noStars (e :: es) = true) (hn : (e :: es).length + 1 = n) (ht : MForm X.env a m apos pos (e :: es)) (ha : SndE g X a fe) (hr : SndL g X (e :: es) r) :
    SndE g X (.Call (.Attribute a m apos) (e :: es) [] pos) (dMeth c fn fe r) := by
  intro B I H ρ σ ts vs d ρ' Q h q k
  obtain ⟨C, fa, fd, ps, kk, hC, cl, me, bi, ro, F, hps⟩ := M.ex
  obtain ⟨pl, ht⟩ := ht
  have hs' : noStar e = true ∧ noStars es = true := by simpa [noStars] using hs
  unfold dMeth at q
  cases q1 : fe ρ with
  | none => rw [q1] at q; cases q
  | some z =>
    obtain ⟨da, ρ1⟩ := z
    rw [q1] at q
    dsimp only at q
    split at q
    · rename_i c' xs ed
      split at q
      · rename_i hc
        subst hc
        cases q2 : r ρ1 with
        | none => rw [q2] at q; cases q
        | some z =>
          obtain ⟨ds, ρ2⟩ := z
          rw [q2] at q
          dsimp only at q
          cases q3 : fn (.ins c' xs :: ds.map fz) with
          | none => rw [q3] at q; cases q
          | some z =>
            obtain ⟨d', o⟩ := z
            rw [q3] at q; cases q
            refine mx_of (pe_meth (pl := pl) (E := E0) pe_mx cl me F.ok (ro.mono (by omega)) bi .nil pass0 pa_mx (starOk (noStar_ne hs'.1)) (stars_any hs'.2) ht) (ha B I H ρ σ ts vs da ρ1 _ h q1 fun I1 H1 y h1 => ?_)
            obtain ⟨I2, _, h2, rr⟩ := h1.fzTop (ds := [da]) (ws := [y]) rfl
            rw [List.map_cons, List.map_nil, ed] at rr h2
            obtain ⟨w, ew, r1⟩ := rr.one_inv
            cases ew
            obtain ⟨C', a', dx, us, rfl, _, hC', hI, ri⟩ := r1.ins_i
            rw [hC] at hC'
            cases hC'
            refine ⟨a', dx, _, rfl, h2.same _ _ hI, zip_no M.no, ?_⟩
            refine hr B I2 H1 ρ1 σ _ _ ds _ _ h2 q2 fun I3 H3 ws h3 hl hw => ?_
            rw [List.append_nil]
            refine StP.callP (ds := .ins c' xs :: ds) (ws := .ref a' :: ws) (by simpa using h3) (by simp [hl]) q3 ?_ k
            rw [List.length_cons, hw]
            exact hn
      · cases q
    · cases q
theorem snd_meth0 (M : MOk g X c m 1 false fn) (ht : MForm X.env a m apos pos []) (ha : SndE g X a fe) : SndE g X (.Call (.Attribute a m apos) [] [] pos) (dMeth c fn fe dNil) := by
  intro B I H ρ σ ts vs d ρ' Q h q k
  obtain ⟨C, fa, fd, ps, kk, hC, cl, me, bi, ro, F, hps⟩ := M.ex
  obtain ⟨pl, ht⟩ := ht
  unfold dMeth dNil at q
  cases q1 : fe ρ with
  | none => rw [q1] at q; cases q
  | some z =>
    obtain ⟨da, ρ1⟩ := z
    rw [q1] at q
    dsimp only at q
    split at q
    · rename_i c' xs ed
      split at q
      · rename_i hc
        subst hc
        cases q3 : fn [.ins c' xs] with
        | none => rw [List.map_nil, q3] at q; cases q
        | some z =>
          obtain ⟨d', o⟩ := z
          rw [List.map_nil, q3] at q; cases q
          refine mx_of (pe_meth0 (pl := pl) (E := E0) pe_mx cl me F.ok (ro.mono (by omega)) bi .nil pass0 ht) (ha B I H ρ σ ts vs da _ _ h q1 fun I1 H1 y h1 => ?_)
          obtain ⟨I2, _, h2, rr⟩ := h1.fzTop (ds := [da]) (ws := [y]) rfl
          rw [List.map_cons, List.map_nil, ed] at rr h2
          obtain ⟨w, ew, r1⟩ := rr.one_inv
          cases ew
          obtain ⟨C', a', dx, us, rfl, _, hC', hI, ri⟩ := r1.ins_i
          rw [hC] at hC'
          cases hC'
          exact ⟨a', dx, _, rfl, h2.same _ _ hI, zip_no M.no, StP.callP (ds := [.ins c' xs]) (ws := [.ref a']) h2 rfl q3 rfl k⟩
      · cases q
    · cases q
theorem snd_prop (P : POk g X c f fn) (hb : attributeBase a f X.env (eval a X.env) = eval a X.env) (ha : SndE g X a fe) : SndE g X (.Attribute a f pos) (dProp c fn fe) := by
  intro B I H ρ σ ts vs d ρ' Q h q k
  obtain ⟨C, p, fa, fd, ps, kk, hC, cl, pr, bi, ro, F, hps⟩ := P.ex
  unfold dProp dMeth dNil at q
  cases q1 : fe ρ with
  | none => rw [q1] at q; cases q
  | some z =>
    obtain ⟨da, ρ1⟩ := z
    rw [q1] at q
    dsimp only at q
    split at q
    · rename_i c' xs ed
      split at q
      · rename_i hc
        subst hc
        cases q3 : fn [.ins c' xs] with
        | none => rw [List.map_nil, q3] at q; cases q
        | some z =>
          obtain ⟨d', o⟩ := z
          rw [List.map_nil, q3] at q; cases q
          refine mx_of (pe_prop (E := E0) pe_mx cl pr F.ok (ro.mono (by omega)) bi .nil pass0 hb) (ha B I H ρ σ ts vs da _ _ h q1 fun I1 H1 y h1 => ?_)
          obtain ⟨I2, _, h2, rr⟩ := h1.fzTop (ds := [da]) (ws := [y]) rfl
          rw [List.map_cons, List.map_nil, ed] at rr h2
          obtain ⟨w, ew, r1⟩ := rr.one_inv
          cases ew
          obtain ⟨C', a', dx, us, rfl, _, hC', hI, ri⟩ := r1.ins_i
          rw [hC] at hC'
          cases hC'
          exact ⟨a', dx, _, rfl, h2.same _ _ hI, StP.callP (ds := [.ins c' xs]) (ws := [.ref a']) h2 rfl q3 rfl k⟩
      · cases q
    · cases q
theorem snd_cmeth (M : CMOk g X c m n fn) (hg : Gl X x) (hm : ∀ C, g.cls c = some C → X.mg x = some (.ref C)) (hd : (x == ("__debug__" : Str)) = false) (hs : noStars (e :: es) = true) (hn : (e :: es).length + 1 = n) (ht : MForm X.env (.Name x p) m apos pos (e :: es)) (hr : SndL g X (e :: es) r) :
    SndE g X (.Call (.Attribute (.Name x p) m apos) (e :: es) [] pos) (dCMeth c fn r) := by
  intro B I H ρ σ ts vs d ρ' Q h q k
  obtain ⟨C, p, fa, mc, fd, ps, kk, hC, cr, cm, bi, ro, F, hps⟩ := M.ex
  obtain ⟨pl, ht⟩ := ht
  have hs' : noStar e = true ∧ noStars es = true := by simpa [noStars] using hs
  unfold dCMeth at q
  cases q2 : r ρ with
  | none => rw [q2] at q; cases q
  | some z =>
    obtain ⟨ds, ρ2⟩ := z
    rw [q2] at q
    dsimp only at q
    cases q3 : fn (.cls c :: ds.map fz) with
    | none => rw [q3] at q; cases q
    | some z =>
      obtain ⟨d', o⟩ := z
      rw [q3] at q; cases q
      refine mx_of (ClX.pe_cmeth (pl := pl) (E := E0) (pe_glob (v := .ref C) hg (hm C hC) rfl hd) cr cm (F.ok.raw bi .nil) (ro.mono (by omega)) pass0 pa_mx (starOk (noStar_ne hs'.1)) (stars_any hs'.2) ht) ⟨rfl, ?_⟩
      refine hr B I H ρ σ _ _ ds _ _ (h.push (.cls hC)) q2 fun I3 H3 ws h3 hl hw => ?_
      show spD g false n fn ((.ref C :: ws) ++ []) H3 Q E0
      rw [List.append_nil]
      refine StP.callP (ds := .cls c :: ds) (ws := .ref C :: ws) (by simpa using h3) (by simp [hl]) q3 ?_ k
      rw [List.length_cons, hw]
      exact hn
theorem snd_make (M : MkOk g X c x n dd fn) (hg : Gl X x) (hd : (x == ("__debug__" : Str)) = false) (hs : noStars (e :: es) = true) (hn : (e :: es).length + dd.length + 1 = n) (hr : SndL g X (e :: es) r) :
    SndE g X (.Call (.Name x p) (e :: es) [] pos) (dMake c dd fn r) := by
  intro B I H ρ σ ts vs d ρ' Q h q k
  obtain ⟨C, fa, fd, ps, kk, dvs, dvals, hC, hm, mk, bi, dv, rd, ro, F, hps⟩ := M.ex
  have hs' : noStar e = true ∧ noStars es = true := by simpa [noStars] using hs
  unfold dMake at q
  cases q2 : r ρ with
  | none => rw [q2] at q; cases q
  | some z =>
    obtain ⟨ds, ρ2⟩ := z
    rw [q2] at q
    dsimp only at q
    split at q
    · rename_i o q3
      cases q
      refine mx_of (pe_make (E := E0) mk F.ok (ro.mono (by omega)) hg hm bi dv pass0 pa_mx hd (starOk (noStar_ne hs'.1)) (stars_any hs'.2)) ?_
      refine hr B I H ρ σ _ _ ds _ _ h q2 fun I3 H3 ws h3 hl hw => ?_
      intro y dx ny ndx ne
      have e1 := (rd I H).length
      exact h3.callM hl hC q3 rd (by rw [List.length_append, hw, ← e1]; exact hn) k ny ndx ne
    · cases q
theorem snd_make0 (M : MkOk g X c x n dd fn) (hg : Gl X x) (hd : (x == ("__debug__" : Str)) = false) (hn : dd.length + 1 = n) :
    SndE g X (.Call (.Name x p) [] [] pos) (dMake c dd fn dNil) := by
  intro B I H ρ σ ts vs d ρ' Q h q k
  obtain ⟨C, fa, fd, ps, kk, dvs, dvals, hC, hm, mk, bi, dv, rd, ro, F, hps⟩ := M.ex
  unfold dMake dNil at q
  dsimp only at q
  split at q
  · rename_i o q3
    cases q
    refine mx_of (pe_make0 (E := E0) mk F.ok (ro.mono (by omega)) hg hm bi dv pass0 hd) ?_
    intro y dx ny ndx ne
    have e1 := (rd I H).length
    exact StP.callM (ds := []) (ws := []) (by simpa using h) rfl hC q3 rd (by rw [List.nil_append, ← e1]; exact hn) k ny ndx ne
  · cases q
end
end DV

set_option Elab.async false
set_option maxRecDepth 100000
set_option maxHeartbeats 4000000
set_option linter.all false
/-! DV18: operators, comparisons, str, repr of instances on deep values. -/
namespace DV
open PySem L2 PySem.Spec PyProof.Rows

/-- what the operators ask of a class -/
structure OpCls (g : G) (X : Cx) (c : Nat) : Prop where
  ex : ∃ C, g.cls c = some C ∧ PySem.W.selfFirst X.K C = true ∧ PySem.W.subIn X.K (.ref C) (.type "int") = some false ∧ PySem.W.subIn X.K (.ref C) (.type "object") = some true ∧
    PySem.W.findIn X.K (.ref C) "__ne__" = some (some (.builtin "object.__ne__")) ∧ ∀ T ∈ kinds, PySem.W.subIn X.K (.type T) (.ref C) = some false

/-- l, r: the class's op and reflected op; φ: what else the operator does -/
def ownO (c : Nat) (l r : Fn) (φ : D → D → Option D) : D → D → Option D
  | .ins c' xs, .int i => if c' = c then (l [.ins c xs, .int i]).map (·.1) else φ (.ins c' xs) (.int i)
  | .ins c' xs, .ins c2 ys => if c' = c ∧ c2 = c then (l [.ins c xs, .ins c ys]).map (·.1) else φ (.ins c' xs) (.ins c2 ys)
  | .int i, .ins c' ys => if c' = c then (r [.ins c ys, .int i]).map (·.1) else φ (.int i) (.ins c' ys)
  | a, b => φ a b
/-- plain values that are no object -/
def bare : D → Bool
  | .int _ | .bl _ | .str _ | .non => true
  | _ => false
def ownQ (c : Nat) (e : Fn) (φ : D → D → Option D) : D → D → Option D
  | .ins c' xs, .ins c2 ys => if c' = c ∧ c2 = c then (match e [.ins c xs, .ins c ys] with
    | some (.bl t, _) => some (.bl t)
    | _ => none) else φ (.ins c' xs) (.ins c2 ys)
  | .int i, .ins c' ys => if c' = c then (match e [.ins c ys, .int i] with
    | some (.bl t, _) => some (.bl t)
    | _ => none) else φ (.int i) (.ins c' ys)
  | .ins c' xs, b => if c' = c ∧ bare b = true then (match e [.ins c xs, b] with
    | some (.bl t, _) => some (.bl t)
    | _ => none) else φ (.ins c' xs) b
  | a, b => φ a b
def ownN (c : Nat) (e : Fn) (φ : D → D → Option D) : D → D → Option D
  | .ins c' xs, .ins c2 ys => if c' = c ∧ c2 = c then (match e [.ins c xs, .ins c ys] with
    | some (.bl t, _) => some (.bl (!t))
    | _ => none) else φ (.ins c' xs) (.ins c2 ys)
  | .ins c' xs, b => if c' = c ∧ bare b = true then (match e [.ins c xs, b] with
    | some (.bl t, _) => some (.bl (!t))
    | _ => none) else φ (.ins c' xs) b
  | a, b => φ a b
def ownS (c : Nat) (s : Fn) (φ : List D → Option D) : List D → Option D
  | [.ins c' xs] => if c' = c then (match s [.ins c xs] with
    | some (.str y, _) => some (.str y)
    | _ => none) else φ [.ins c' xs]
  | ds => φ ds
def ownU (c : Nat) (s : Fn) (φ : D → Option D) : D → Option D
  | .ins c' xs => if c' = c then (s [.ins c xs]).map (·.1) else φ (.ins c' xs)
  | d => φ d

section
variable {g : G} {X : Cx} {B : Bs} {I I' H H' : Hp} {ρ : List D} {σ : L2.St} {ts ds xs : List D} {vs ws us : List V} {d o : D} {v : V} {c j n k i : Nat} {fn l r sem : Fn} {gd : Bool}

theorem run_at {A' : Around} {pins : List (Addr × Obj)} {s : Shared} {us vals : List Value} {vs dvs : List V} {Q : VK} {E' : Value → Shared → Prop} {f : Addr} {fd : FuncData} {ps : List Str} {sp : Sp} (F : FnD X.prog X.w X.K X.mg X.base gd k f fd ps sp) (hr : Room k A') (hgd : gd = true → A'.guards = some [])
    (e0 : Env0 X.prog X.w X.K X.mg X.base A' X.stack s H) (hb : Binds X.K fd ps vals) (hd : Vals dvs vals) (I : Inv X pins σ H s) (r : Vals vs us) (h : sp (vs ++ dvs) H Q E0) : wpAny (model X.prog X.w) A' (call (.ref f) us) (EP X pins σ Q) E' s := by
  have r2 := r.append hd
  have hl : (us ++ vals).length = ps.length := by rw [← r2.length]; exact F.len _ _ _ _ h
  refine wpAny_call (codeAny_mono (F.run A' X.stack s H ⟨us, []⟩ (us ++ vals) (vs ++ dvs) Q E0 hr hgd e0 (hb s us I.kIn hl) r2 h) fun r s' hq => ?_)
  cases r with
  | error e => exact hq.elim
  | ok fl =>
    cases fl with
    | ret u => exact I.after hq
    | next => exact False.elim hq
    | brk => exact False.elim hq
    | cont => exact False.elim hq
theorem inst_at {pins : List (Addr × Obj)} {s : Shared} {a C dx : Addr} {fs : List (Str × V)} (I : Inv X pins σ H s) (e : H a = some (.ins C dx fs)) : ∃ od, PySem.W.InstAt s.heap a (PySem.W.instObj C dx) C (some od) := by
  obtain ⟨mA, O, _⟩ := ins_get I.hok e
  obtain ⟨od, J, _⟩ := O.look
  exact ⟨od, J⟩
theorem cmpBack {Q : Value → Shared → Prop} {x : V} {u : Value} {s : Shared} (r : RelV x u) (q : Q u s) : PySem.W.CmpBack Q u s := by
  cases x with
  | non => cases (show u = Value.none from r); exact q
  | bl b => cases (show u = Value.bool b from r); exact q
  | int i => obtain ⟨t, rfl⟩ := r; exact q
  | str y => obtain ⟨t, rfl⟩ := r; exact q
  | ref a => cases (show u = Value.ref a from r); exact q
  | _ => cases u <;> first | exact q | (obtain ⟨_, z⟩ := r; cases z) | cases r
theorem map1 {α β : Type} {z : Option (α × β)} {y : α} (h : z.map (·.1) = some y) : ∃ b, z = some (y, b) := by
  cases z with
  | none => cases h
  | some p => obtain ⟨a, b⟩ := p; cases h; exact ⟨b, rfl⟩

theorem snd_own {op : Operator} {φ : D → D → Option D} {idl : String} {Bi : Builtin} (hφ : SndOp g X (binaryOp op) φ) (O : OpCls g X c) (hl : MOk g X c (PySem.dunder op.info.2) 2 false l) (hr : MOk g X c (dunderR op.info.2) 2 false r)
    (hfT : fillsNumberSlot (.type "int") op.info.2 = pure true) (hsl : Slot "int" (PySem.dunder op.info.2) idl) (he : entryFor table idl = some Bi) (ha : ∀ a b : Value, argsOk idl ⟨[a, b], []⟩)
    (hm : ∀ (i : Int) (t : Tok) (y : Addr) (oy : Obj), oy.data = .plain → Meets (Bi ⟨[.int i t, .ref y], []⟩) (fun _ R s => s.heap.get? y = some oy ∧ R (.ok (.ret Value.notImplemented)) s))
    {fo ro : Option Value} (h1 : PySem.W.findIn X.K (.type "int") (PySem.dunder op.info.2) = some fo) (h2 : PySem.W.findIn X.K (.type "int") (dunderR op.info.2) = some ro) : SndOp g X (binaryOp op) (ownO c l r φ) := by
  obtain ⟨C, hC, sf, si, so, _, sub⟩ := O.ex
  obtain ⟨C1, f1, fd1, ps1, k1, hC1, cl1, me1, bi1, ro1, F1, hp1⟩ := hl.ex
  obtain ⟨C2, f2, fd2, ps2, k2, hC2, cl2, me2, bi2, ro2, F2, hp2⟩ := hr.ex
  rw [hC] at hC1 hC2
  cases hC1
  cases hC2
  intro B I H ρ σ ts vs da db x y d Q h r1 r2 e k
  unfold ownO at e
  split at e
  · rename_i c' xs i
    split at e
    · rename_i hc
      subst hc
      obtain ⟨o', e⟩ := map1 e
      obtain ⟨C', a, dx, us, rfl, _, hC', hI, ri⟩ := r1.ins_i
      rw [hC] at hC'
      cases hC'
      obtain ⟨rfl, _⟩ := r2.int_i
      intro pins s σ' v u Iv rx ry
      obtain rfl : v = Value.ref a := rx
      obtain ⟨t, rfl⟩ := ry
      obtain ⟨od, J⟩ := inst_at Iv (h.same _ _ hI)
      obtain ⟨mm, Fr0⟩ := Iv.fr
      refine PySem.W.ksp_binT Fr0 Iv.ok.mod.kin J (T := "int") rfl sf me1.at_ me1.fn me2.at_ (.inr ⟨_, rfl⟩) h1 h2 (sub "int" (by decide)) ?_
      have h5 : StP g B I H ρ σ (ts ++ [.ins c' xs, .int i]) (vs ++ [.ref a, .int i]) := by simpa using (h.push r1).push r2
      have run := run_at (gd := false) (E' := X.xe) (vs := [.ref a, .int i]) (dvs := []) (Q := Q) F1 (ro1.mono (by omega)) (fun z => nomatch z) Iv.env0 bi1 .nil Iv (.cons rfl (.cons ⟨t, rfl⟩ .nil)) (StP.callP (ds := [.ins c' xs, .int i]) h5 rfl e rfl k)
      exact thn run fun u' s' ⟨z, H', I', rz, q⟩ => cmpBack rz ⟨z, H', I', rz, q⟩
    · exact hφ B I H ρ σ ts vs _ _ x y d Q h r1 r2 e k
  · rename_i c' xs c2 ys
    split at e
    · rename_i hc
      obtain ⟨rfl, rfl⟩ := hc
      obtain ⟨o', e⟩ := map1 e
      obtain ⟨C', a, dx, us, rfl, _, hC', hI, ri⟩ := r1.ins_i
      rw [hC] at hC'
      cases hC'
      obtain ⟨C', b, dy, us2, rfl, _, hC', hI2, ri2⟩ := r2.ins_i
      rw [hC] at hC'
      cases hC'
      intro pins s σ' v u Iv rx ry
      obtain rfl : v = Value.ref a := rx
      obtain rfl : u = Value.ref b := ry
      obtain ⟨od, J⟩ := inst_at Iv (h.same _ _ hI)
      obtain ⟨od2, J2⟩ := inst_at Iv (h.same _ _ hI2)
      refine bin_same Iv.kIn J J2 sf me1.at_ me1.fn ?_
      have h5 : StP g B I H ρ σ (ts ++ [.ins c2 xs, .ins c2 ys]) (vs ++ [.ref a, .ref b]) := by simpa using (h.push r1).push r2
      have run := run_at (gd := false) (E' := X.xe) (vs := [.ref a, .ref b]) (dvs := []) (Q := Q) F1 (ro1.mono (by omega)) (fun z => nomatch z) Iv.env0 bi1 .nil Iv (.cons rfl (.cons rfl .nil)) (StP.callP (ds := [.ins c2 xs, .ins c2 ys]) h5 rfl e rfl k)
      exact thn run fun u' s' ⟨z, H', I', rz, q⟩ => cmpBack rz ⟨z, H', I', rz, q⟩
    · exact hφ B I H ρ σ ts vs _ _ x y d Q h r1 r2 e k
  · rename_i i c' ys
    split at e
    · rename_i hc
      subst hc
      obtain ⟨o', e⟩ := map1 e
      obtain ⟨C', b, dy, us, rfl, _, hC', hI, ri⟩ := r2.ins_i
      rw [hC] at hC'
      cases hC'
      obtain ⟨rfl, _⟩ := r1.int_i
      intro pins s σ' v u Iv rx ry
      obtain rfl : u = Value.ref b := ry
      obtain ⟨t, rfl⟩ := rx
      obtain ⟨od, J⟩ := inst_at Iv (h.same _ _ hI)
      refine bin_refl Iv.kIn J sf hfT hsl he (ha _ _) (hm _ _ _ _ rfl) me1.at_ me2.at_ me2.fn si ?_
      have h5 : StP g B I H ρ σ (ts ++ [.ins c' ys, .int i]) (vs ++ [.ref b, .int i]) := by simpa using (h.push r2).push r1
      have run := run_at (gd := false) (E' := X.xe) (vs := [.ref b, .int i]) (dvs := []) (Q := Q) F2 (ro2.mono (by omega)) (fun z => nomatch z) Iv.env0 bi2 .nil Iv (.cons rfl (.cons ⟨t, rfl⟩ .nil)) (StP.callP (ds := [.ins c' ys, .int i]) h5 rfl e rfl k)
      exact thn run fun u' s' ⟨z, H', I', rz, q⟩ => cmpBack rz ⟨z, H', I', rz, q⟩
    · exact hφ B I H ρ σ ts vs _ _ x y d Q h r1 r2 e k
  · exact hφ B I H ρ σ ts vs _ _ x y d Q h r1 r2 e k

theorem instS : ∀ {d : D} {x : V}, bare d = true → Rep g I H d x [] → ∃ T, T ∈ kinds ∧ ∀ u, RelV x u → typeOf u = pure (.type T)
  | .int _, _, _, r => ⟨"int", by decide, fun u ru => by obtain ⟨rfl, _⟩ := r.int_i; obtain ⟨t, rfl⟩ := ru; rfl⟩
  | .bl _, _, _, r => ⟨"bool", by decide, fun u ru => by obtain ⟨rfl, _⟩ := r.bl_i; cases (show u = Value.bool _ from ru); rfl⟩
  | .str _, _, _, r => ⟨"str", by decide, fun u ru => by obtain ⟨rfl, _⟩ := r.str_i; obtain ⟨t, rfl⟩ := ru; rfl⟩
  | .non, _, _, r => ⟨"NoneType", by decide, fun u ru => by obtain ⟨rfl, _⟩ := r.non_i; cases (show u = Value.none from ru); rfl⟩
/-- the call of the instance's comparison -/
theorem call_cmp {A' : Around} {E' : Value → Shared → Prop} {a b : D} {x y : V} {fa : Addr} {pins : List (Addr × Obj)} {s : Shared} {v u : Value} {t : Bool} {o : D} {Q' : Value → Shared → Prop} {fd : FuncData} {ps : List Str} (F : FnD X.prog X.w X.K X.mg X.base false k fa fd ps (spD g false 2 fn)) (bi : Binds X.K fd ps []) (hr : Room k A')
    (h : StP g B I H ρ σ ts vs) (r1 : Rep g I H a x []) (r2 : Rep g I H b y []) {σ' : L2.St} (Iv : Inv X pins σ' H s) (e0 : Env0 X.prog X.w X.K X.mg X.base A' X.stack s H) (rx : RelV x v) (ry : RelV y u) (fa_ : fz a = a) (fb_ : fz b = b) (e : fn [a, b] = some (.bl t, o))
    (k' : ∀ I' H' s', StP g B I' H' ρ σ ts vs → Inv X pins σ' H' s' → Q' (.bool t) s') : wpAny (model X.prog X.w) A' (call (.ref fa) [v, u]) (fun w' s' => ∃ t', w' = .bool t' ∧ t' = t ∧ Q' w' s') E' s := by
  have h5 : StP g B I H ρ σ (ts ++ [a, b]) (vs ++ [x, y]) := by simpa using (h.push r1).push r2
  have run := run_at (gd := false) (E' := E') (vs := [x, y]) (dvs := []) (Q := fun z H' => z = .bl t ∧ ∃ I', StP g B I' H' ρ σ ts vs) F hr (fun z => nomatch z) e0 bi .nil Iv (.cons rx (.cons ry .nil))
    (StP.callP (ds := [a, b]) h5 rfl (by rw [List.map_cons, List.map_cons, List.map_nil, fa_, fb_]; exact e) rfl fun I' H' v h' => ⟨h'.topBl.1, I', h'.topBl.2⟩)
  refine thn run fun u' s' ⟨z, H', I', rz, ez, I2, h2⟩ => ?_
  subst ez
  cases (show u' = Value.bool t from rz)
  exact ⟨t, rfl, rfl, k' I2 H' s' h2 I'⟩
theorem mat {z : Option (D × D)} {d : D} {w : Bool → D} (h : (match z with | some (.bl t, _) => some (w t) | _ => none) = some d) : ∃ t o, z = some (.bl t, o) ∧ d = w t := by
  split at h
  · cases h; exact ⟨_, _, rfl, rfl⟩
  · cases h
theorem eqop (a b : Value) : compareOp .Eq a b = richCompare .Eq a b := by unfold compareOp; rfl
theorem neop (a b : Value) : compareOp .NotEq a b = richCompare .NotEq a b := by unfold compareOp; rfl
theorem snd_ownQ {φ : D → D → Option D} (hφ : SndOp g X (compareOp .Eq) φ) (O : OpCls g X c) (hl : MOk g X c "__eq__" 2 false l) : SndOp g X (compareOp .Eq) (ownQ c l φ) := by
  obtain ⟨C, hC, sf, si, so, _, sub⟩ := O.ex
  obtain ⟨C1, f1, fd1, ps1, k1, hC1, cl1, me1, bi1, ro1, F1, hp1⟩ := hl.ex
  rw [hC] at hC1
  cases hC1
  have hu : X.A.units < cLine := ro1.units0
  intro B I H ρ σ ts vs da db x y d Q h r1 r2 e k
  unfold ownQ at e
  split at e
  · rename_i c' xs c2 ys
    split at e
    · rename_i hc
      obtain ⟨rfl, rfl⟩ := hc
      obtain ⟨t, o, e1, rfl⟩ := mat (w := D.bl) e
      obtain ⟨C', a, dx, us, rfl, _, hC', hI, ri⟩ := r1.ins_i
      rw [hC] at hC'
      cases hC'
      obtain ⟨C', b, dy, us2, rfl, _, hC', hI2, ri2⟩ := r2.ins_i
      rw [hC] at hC'
      cases hC'
      intro pins s σ' v u Iv rx ry
      obtain rfl : v = Value.ref a := rx
      obtain rfl : u = Value.ref b := ry
      obtain ⟨od, J⟩ := inst_at Iv (h.same _ _ hI)
      obtain ⟨od2, J2⟩ := inst_at Iv (h.same _ _ hI2)
      rw [eqop]
      refine cmp_own hu Iv.kIn J J2.type (by unfold PySem.W.notFirst; simp) me1.at_ me1.fn ?_
      refine thn (call_cmp (Q' := EP X pins σ' Q) F1 bi1 (ro1.mono (by omega)) h r1 r2 Iv Iv.env0 rfl rfl rfl rfl e1 fun I' H' s' h' I2 => ⟨.bl t, H', I2, rfl, k I' H' _ (h'.push .bl)⟩) fun w' s' ⟨t', e2, _, q⟩ => ⟨t', e2, q⟩
    · exact hφ B I H ρ σ ts vs _ _ x y d Q h r1 r2 e k
  · rename_i i c' ys
    split at e
    · rename_i hc
      subst hc
      obtain ⟨t, o, e1, rfl⟩ := mat (w := D.bl) e
      obtain ⟨C', b, dy, us, rfl, _, hC', hI, ri⟩ := r2.ins_i
      rw [hC] at hC'
      cases hC'
      obtain ⟨rfl, _⟩ := r1.int_i
      intro pins s σ' v u Iv rx ry
      obtain rfl : u = Value.ref b := ry
      obtain ⟨tk, rfl⟩ := rx
      obtain ⟨od, J⟩ := inst_at Iv (h.same _ _ hI)
      rw [eqop]
      refine eq_refl hu Iv.kIn J rfl me1.at_ me1.fn si ?_
      refine thn (call_cmp (Q' := EP X pins σ' Q) F1 bi1 (ro1.mono (by omega)) h r2 .int Iv Iv.env0 rfl ⟨tk, rfl⟩ rfl rfl e1 fun I' H' s' h' I2 => ⟨.bl t, H', I2, rfl, k I' H' _ (h'.push .bl)⟩) fun w' s' ⟨t', e2, _, q⟩ => ⟨t', e2, q⟩
    · exact hφ B I H ρ σ ts vs _ _ x y d Q h r1 r2 e k
  · rename_i c' xs _
    split at e
    · rename_i hc
      obtain ⟨rfl, hb⟩ := hc
      obtain ⟨t, o, e1, rfl⟩ := mat (w := D.bl) e
      obtain ⟨C', a, dx, us, rfl, _, hC', hI, ri⟩ := r1.ins_i
      rw [hC] at hC'
      cases hC'
      obtain ⟨T, hT, ty⟩ := instS hb r2
      intro pins s σ' v u Iv rx ry
      obtain rfl : v = Value.ref a := rx
      obtain ⟨od, J⟩ := inst_at Iv (h.same _ _ hI)
      rw [eqop]
      refine cmp_own hu Iv.kIn J (PySem.W.Looks.of_pure (ty u ry)) (by unfold PySem.W.notFirst; rw [sub T hT]; simp) me1.at_ me1.fn ?_
      refine thn (call_cmp (Q' := EP X pins σ' Q) F1 bi1 (ro1.mono (by omega)) h r1 r2 Iv Iv.env0 rfl ry rfl (by revert hb; cases db <;> first | (intro _; rfl) | (intro z; cases z)) e1 fun I' H' s' h' I2 => ⟨.bl t, H', I2, rfl, k I' H' _ (h'.push .bl)⟩) fun w' s' ⟨t', e2, _, q⟩ => ⟨t', e2, q⟩
    · exact hφ B I H ρ σ ts vs _ _ x y d Q h r1 r2 e k
  · exact hφ B I H ρ σ ts vs _ _ x y d Q h r1 r2 e k
theorem snd_ownN {φ : D → D → Option D} (hφ : SndOp g X (compareOp .NotEq) φ) (O : OpCls g X c) (hl : MOk g X c "__eq__" 2 false l) : SndOp g X (compareOp .NotEq) (ownN c l φ) := by
  obtain ⟨C, hC, sf, si, so, hne, sub⟩ := O.ex
  obtain ⟨C1, f1, fd1, ps1, k1, hC1, cl1, me1, bi1, ro1, F1, hp1⟩ := hl.ex
  rw [hC] at hC1
  cases hC1
  have hu : X.A.units + 1 < cLine := by have := ro1.un; omega
  intro B I H ρ σ ts vs da db x y d Q h r1 r2 e k
  unfold ownN at e
  split at e
  · rename_i c' xs c2 ys
    split at e
    · rename_i hc
      obtain ⟨rfl, rfl⟩ := hc
      obtain ⟨t, o, e1, rfl⟩ := mat (w := fun t => D.bl (!t)) e
      obtain ⟨C', a, dx, us, rfl, _, hC', hI, ri⟩ := r1.ins_i
      rw [hC] at hC'
      cases hC'
      obtain ⟨C', b, dy, us2, rfl, _, hC', hI2, ri2⟩ := r2.ins_i
      rw [hC] at hC'
      cases hC'
      intro pins s σ' v u Iv rx ry
      obtain rfl : v = Value.ref a := rx
      obtain rfl : u = Value.ref b := ry
      obtain ⟨od, J⟩ := inst_at Iv (h.same _ _ hI)
      obtain ⟨od2, J2⟩ := inst_at Iv (h.same _ _ hI2)
      rw [neop]
      refine ne_own hu Iv.kIn J J2.type (by unfold PySem.W.notFirst; simp) hne so me1.at_ me1.fn ?_
      refine thn (call_cmp (Q' := fun _ s' => EP X pins σ' Q (.bool (!t)) s') F1 bi1 (Room.in1 (ro1.mono (by omega))) h r1 r2 Iv Iv.env0.in1 rfl rfl rfl rfl e1 fun I' H' s' h' I2 => ⟨.bl (!t), H', I2, rfl, k I' H' _ (h'.push .bl)⟩) fun w' s' ⟨t', e2, e3, q⟩ => ⟨t', e2, by rw [e3]; exact q⟩
    · exact hφ B I H ρ σ ts vs _ _ x y d Q h r1 r2 e k
  · rename_i c' xs _
    split at e
    · rename_i hc
      obtain ⟨rfl, hb⟩ := hc
      obtain ⟨t, o, e1, rfl⟩ := mat (w := fun t => D.bl (!t)) e
      obtain ⟨C', a, dx, us, rfl, _, hC', hI, ri⟩ := r1.ins_i
      rw [hC] at hC'
      cases hC'
      obtain ⟨T, hT, ty⟩ := instS hb r2
      intro pins s σ' v u Iv rx ry
      obtain rfl : v = Value.ref a := rx
      obtain ⟨od, J⟩ := inst_at Iv (h.same _ _ hI)
      rw [neop]
      refine ne_own hu Iv.kIn J (PySem.W.Looks.of_pure (ty u ry)) (by unfold PySem.W.notFirst; rw [sub T hT]; simp) hne so me1.at_ me1.fn ?_
      refine thn (call_cmp (Q' := fun _ s' => EP X pins σ' Q (.bool (!t)) s') F1 bi1 (Room.in1 (ro1.mono (by omega))) h r1 r2 Iv Iv.env0.in1 rfl ry rfl (by revert hb; cases db <;> first | (intro _; rfl) | (intro z; cases z)) e1 fun I' H' s' h' I2 => ⟨.bl (!t), H', I2, rfl, k I' H' _ (h'.push .bl)⟩) fun w' s' ⟨t', e2, e3, q⟩ => ⟨t', e2, by rw [e3]; exact q⟩
    · exact hφ B I H ρ σ ts vs _ _ x y d Q h r1 r2 e k
  · exact hφ B I H ρ σ ts vs _ _ x y d Q h r1 r2 e k
theorem snd_ownU {φ : D → Option D} (hφ : SndU g X (unaryOp .USub) φ) (hl : MOk g X c "__neg__" 1 false l) : SndU g X (unaryOp .USub) (ownU c l φ) := by
  obtain ⟨C, f1, fd1, ps1, k1, hC, cl1, me1, bi1, ro1, F1, hp1⟩ := hl.ex
  intro B I H ρ σ ts vs da x d Q h r1 e k
  unfold ownU at e
  split at e
  · rename_i c' xs
    split at e
    · rename_i hc
      subst hc
      obtain ⟨o', e⟩ := map1 e
      obtain ⟨C', a, dx, us, rfl, _, hC', hI, ri⟩ := r1.ins_i
      rw [hC] at hC'
      cases hC'
      intro pins s σ' v Iv rx
      obtain rfl : v = Value.ref a := rx
      obtain ⟨od, J⟩ := inst_at Iv (h.same _ _ hI)
      refine neg_own Iv.kIn J me1.at_ me1.fn ?_
      have h5 : StP g B I H ρ σ (ts ++ [.ins c' xs]) (vs ++ [.ref a]) := h.push r1
      exact run_at (gd := false) (E' := X.xe) (vs := [.ref a]) (dvs := []) (Q := Q) F1 (ro1.mono (by omega)) (fun z => nomatch z) Iv.env0 bi1 .nil Iv (.cons rfl .nil) (StP.callP (ds := [.ins c' xs]) h5 rfl e rfl k)
    · exact hφ B I H ρ σ ts vs _ x d Q h r1 e k
  · exact hφ B I H ρ σ ts vs _ x d Q h r1 e k
theorem matS {z : Option (D × D)} {d : D} (h : (match z with | some (.str t, _) => some (.str t) | _ => none) = some d) : ∃ t o, z = some (.str t, o) ∧ d = .str t := by
  split at h
  · cases h; exact ⟨_, _, rfl, rfl⟩
  · cases h
theorem call_str {A' : Around} {E' : Value → Shared → Prop} {a : D} {x : V} {fa : Addr} {pins : List (Addr × Obj)} {s : Shared} {v : Value} {t : Str} {o : D} {Q : VK} {fd : FuncData} {ps : List Str} (F : FnD X.prog X.w X.K X.mg X.base false k fa fd ps (spD g false 1 fn)) (bi : Binds X.K fd ps []) (hr : Room k A')
    (h : StP g B I H ρ σ ts vs) (r1 : Rep g I H a x []) {σ' : L2.St} (Iv : Inv X pins σ' H s) (e0 : Env0 X.prog X.w X.K X.mg X.base A' X.stack s H) (rx : RelV x v) (fa_ : fz a = a) (e : fn [a] = some (.str t, o))
    (k' : ∀ I' H', StP g B I' H' ρ σ ts vs → Q (.str t) H') : wpAny (model X.prog X.w) A' (call (.ref fa) [v]) (fun w' s' => ∃ tk, w' = .str t tk ∧ EP X pins σ' Q w' s') E' s := by
  have h5 : StP g B I H ρ σ (ts ++ [a]) (vs ++ [x]) := h.push r1
  have run := run_at (gd := false) (E' := E') (vs := [x]) (dvs := []) (Q := fun z H' => z = .str t ∧ ∃ I', StP g B I' H' ρ σ ts vs) F hr (fun z => nomatch z) e0 bi .nil Iv (.cons rx .nil)
    (StP.callP (ds := [a]) h5 rfl (by rw [List.map_cons, List.map_nil, fa_]; exact e) rfl fun I' H' v h' => ⟨h'.topStr.1, I', h'.topStr.2⟩)
  refine thn run fun u' s' ⟨z, H', I', rz, ez, I2, h2⟩ => ?_
  subst ez
  obtain ⟨tk, rfl⟩ := rz
  exact ⟨tk, rfl, .str t, H', I', ⟨tk, rfl⟩, k' I2 H' h2⟩
theorem snd_ownStr {φ : List D → Option D} (hφ : SndC g X (.type "str") φ) (hl : MOk g X c "__str__" 1 false l) : SndC g X (.type "str") (ownS c l φ) := by
  obtain ⟨C, f1, fd1, ps1, k1, hC, cl1, me1, bi1, ro1, F1, hp1⟩ := hl.ex
  intro B I H ρ σ ts vs ds xs d Q h rr e k
  unfold ownS at e
  split at e
  · rename_i c' ys
    split at e
    · rename_i hc
      subst hc
      obtain ⟨t, o, e1, rfl⟩ := matS e
      obtain ⟨x, rfl, r1⟩ := rr.ones
      obtain ⟨C', a, dx, us, rfl, _, hC', hI, ri⟩ := r1.ins_i
      rw [hC] at hC'
      cases hC'
      intro pins s σ' us Iv rx
      obtain ⟨u, rfl, ru⟩ : ∃ u, us = [u] ∧ RelV (.ref a) u := by
        cases rx with
        | cons p q => cases q; exact ⟨_, rfl, p⟩
      obtain rfl : u = Value.ref a := ru
      obtain ⟨od, J⟩ := inst_at Iv (h.same _ _ hI)
      refine PySem.W.kso_call (by have := ro1.un; show X.A.units + 1 + 1 < _; omega) Iv.kIn J me1.at_ me1.fn ?_
      refine thn (call_str (Q := Q) F1 bi1 (Room.in1 (Room.in1 ro1)) h r1 Iv Iv.env0.in1.in1 rfl rfl e1 fun I' H' h' => k I' H' _ (h'.push .str)) fun w' s' ⟨tk, e2, q⟩ => ?_
      subst e2
      exact q
    · exact hφ B I H ρ σ ts vs _ xs d Q h rr e k
  · exact hφ B I H ρ σ ts vs _ xs d Q h rr e k
theorem snd_ownRepr {φ : List D → Option D} (hφ : SndC g X (.builtin "repr") φ) (hl : MOk g X c "__repr__" 1 false l) : SndC g X (.builtin "repr") (ownS c l φ) := by
  obtain ⟨C, f1, fd1, ps1, k1, hC, cl1, me1, bi1, ro1, F1, hp1⟩ := hl.ex
  intro B I H ρ σ ts vs ds xs d Q h rr e k
  unfold ownS at e
  split at e
  · rename_i c' ys
    split at e
    · rename_i hc
      subst hc
      obtain ⟨t, o, e1, rfl⟩ := matS e
      obtain ⟨x, rfl, r1⟩ := rr.ones
      obtain ⟨C', a, dx, us, rfl, _, hC', hI, ri⟩ := r1.ins_i
      rw [hC] at hC'
      cases hC'
      intro pins s σ' us Iv rx
      obtain ⟨u, rfl, ru⟩ : ∃ u, us = [u] ∧ RelV (.ref a) u := by
        cases rx with
        | cons p q => cases q; exact ⟨_, rfl, p⟩
      obtain rfl : u = Value.ref a := ru
      obtain ⟨od, J⟩ := inst_at Iv (h.same _ _ hI)
      refine repr_ownK (by have := ro1.un; show X.A.units + 1 < _; omega) Iv.kIn J me1.at_ me1.fn ?_
      refine thn (call_str (Q := Q) F1 bi1 (Room.in1 (ro1.mono (by omega))) h r1 Iv Iv.env0.in1 rfl rfl e1 fun I' H' h' => k I' H' _ (h'.push .str)) fun w' s' ⟨tk, e2, q⟩ => ⟨t, tk, e2, by subst e2; exact q⟩
    · exact hφ B I H ρ σ ts vs _ xs d Q h rr e k
  · exact hφ B I H ρ σ ts vs _ xs d Q h rr e k
end
end DV

set_option Elab.async false
set_option maxRecDepth 100000
set_option maxHeartbeats 4000000
set_option linter.all false
/-! DV19: calls with keywords (all that is wanted is given, in the parameters' order). -/
namespace DV
open PySem L2 PySem.Spec PyProof.Rows

/-- n values and keywords ks, in the parameters' order -/
structure KwB (K : PySem.W.Frag) (fd : FuncData) (ps : List Str) (n : Nat) (ks : List Str) : Prop where
  to : ∀ (s : Shared) (us ws : List Value), K.In s.heap → us.length = n → ws.length = ks.length → BindsTo s fd ⟨us, ks.zip ws⟩ (ps.zip (us ++ ws))
structure mxK (X : Cx) (kws : List Keyword) (σ : L2.St) (H : Hp) (Q : List V → Hp → Prop) : Prop where
  run : ∀ (pos : Pos) (pins : List (Addr × Obj)) (s : Shared), Inv X pins σ H s → wpAny (model X.prog X.w) X.A (evalAll ((backToKw pos (keywordEach kws X.env)).map (·.2))) (AP X pins σ Q) X.xe s
theorem pk_mx {X : Cx} {kws : List Keyword} : PK X kws (mxK X kws) := ⟨fun pos pins s _ _ _ I h => h.run pos pins s I⟩
theorem mxK_of {X : Cx} {kws : List Keyword} {t : TA} (h : PK X kws t) {σ : L2.St} {H : Hp} {Q : List V → Hp → Prop} (k : t σ H Q) : mxK X kws σ H Q := ⟨fun pos pins s I => h.run pos pins s σ H Q I k⟩
def SndK (g : G) (X : Cx) (kws : List Keyword) (f : Dens) : Prop :=
  ∀ (B : Bs) (I H : Hp) (ρ : List D) (σ : L2.St) (ts : List D) (vs : List V) (ds : List D) (ρ' : List D) (Q : List V → Hp → Prop), StP g B I H ρ σ ts vs → f ρ = some (ds, ρ') →
    (∀ I' H' ws, StP g B I' H' ρ' σ (ts ++ ds) (vs ++ ws) → ds.length = ws.length → ws.length = kws.length → Q ws H') → mxK X kws σ H Q
def rBoth (r q : Dens) : Dens := fun ρ => match r ρ with
  | some (ds, ρ1) => match q ρ1 with
    | some (es, ρ2) => some (ds ++ es, ρ2)
    | none => none
  | none => none
/-- the form of keywords: names ks -/
structure KwF (env : Env) (pos : Pos) (kws : List Keyword) (ks : List Str) : Prop where
  all : (backToKw pos (keywordEach kws env)).all (·.1.isSome) = true
  names : (backToKw pos (keywordEach kws env)).filterMap (·.1) = ks
  no : (backToKw pos (keywordEach kws env)).any (·.1.isNone) = false
  len : kws.length = ks.length
def MFormK (env : Env) (o : Expr) (m : Str) (apos pos : Pos) (args : List Expr) (kws : List Keyword) : Prop := ∃ pl : Sem Bool, eval (.Call (.Attribute o m apos) args kws pos) env = (do
      let ov ← eval o env
      standAt apos.atName
      let (f, first) ← holding [ov] (getMethod ov m pl)
      callWith pos f first (backTo pos (starEach args env)) (backToKw pos (keywordEach kws env)))

section
variable {g : G} {X : Cx} {B : Bs} {I I' H H' : Hp} {ρ : List D} {σ : L2.St} {ts ds xs : List D} {vs ws us : List V} {d o : D} {v : V} {c j n k i : Nat} {fn : Fn} {e a : Expr} {es : List Expr} {fe : Den} {r rk : Dens} {m f x : Str} {pos apos p kpos : Pos} {kws : List Keyword} {ks : List Str} {gd : Bool} {nm : Option Str}
theorem snd_knil : SndK g X [] dNil := by
  intro B I H ρ σ ts vs ds ρ' Q h q k
  cases q
  exact mxK_of pk_nil (k I H [] (by simpa using h) rfl rfl)
theorem snd_kcons (he : SndE g X e fe) (hr : SndK g X kws r) : SndK g X (⟨nm, e, kpos⟩ :: kws) (dCons fe r) := by
  intro B I H ρ σ ts vs ds ρ' Q h q k
  unfold dCons at q
  cases q1 : fe ρ with
  | none => rw [q1] at q; cases q
  | some a =>
    obtain ⟨d, ρ1⟩ := a
    rw [q1] at q
    dsimp only at q
    cases q2 : r ρ1 with
    | none => rw [q2] at q; cases q
    | some a =>
      obtain ⟨dr, ρ2⟩ := a
      rw [q2] at q
      cases q
      refine mxK_of (pk_cons pe_mx pk_mx) ?_
      refine he B I H ρ σ ts vs d ρ1 _ h q1 fun I1 H1 v h1 => ?_
      refine hr B I1 H1 ρ1 σ _ _ dr _ _ h1 q2 fun I2 H2 ws h2 hl hn => ?_
      exact k I2 H2 (v :: ws) (by simpa using h2) (by simp [hl]) (by simp [hn])
/-- arguments, then keywords -/
def argK (X : Cx) (es : List Expr) (kws : List Keyword) (σ : L2.St) (H : Hp) (R : List V → List V → Hp → Prop) : Prop := match es with
  | [] => mxK X kws σ H (R [])
  | e :: es => mxA X (e :: es) σ H fun vs H1 => mxK X kws σ H1 (R vs)
theorem cw_mx {f : Value} {first : List Value} {pins : List (Addr × Obj)} {s : Shared} {Q : VK} (hk : PySem.W.keepIn X.K f = true) (hs : noStars es = true) (F : KwF X.env pos kws ks) (I : Inv X pins σ H s)
    (h : argK X es kws σ H fun vs zs H2 => ∀ (us ws : List Value) (s2 : Shared), Inv X pins σ H2 s2 → Vals vs us → Vals zs ws → wpAny (model X.prog X.w) X.A (call f (first ++ us) (ks.zip ws)) (EP X pins σ Q) X.xe s2) :
    wpAny (model X.prog X.w) X.A (callWith pos f first (backTo pos (starEach es X.env)) (backToKw pos (keywordEach kws X.env))) (EP X pins σ Q) X.xe s := by
  cases es with
  | nil =>
    refine PySem.W.callWith_KW0 (h₀ := X.base) I.ok.mod.kin hk F.all ?_ (by rw [F.no]; rfl)
    refine thn ((show mxK X kws σ H _ from h).run pos pins s I) fun ws s2 ⟨zs, H2, I2, rz, q2⟩ => ⟨I2.kIn, ?_⟩
    rw [F.names]
    exact q2 [] ws s2 I2 .nil rz
  | cons e es =>
    have hs' : noStar e = true ∧ noStars es = true := by simpa [noStars] using hs
    refine PySem.W.callWith_KW (h₀ := X.base) I.ok.mod.kin hk F.all (thn ((show mxA X (e :: es) σ H _ from h).run pos pins s I) fun us s1 ⟨vs, H1, I1, r, q⟩ => ?_) (by rw [stars_any hs, F.no]; rfl) (starOk (noStar_ne hs'.1))
    refine thn (q.run pos pins s1 I1) fun ws s2 ⟨zs, H2, I2, rz, q2⟩ => ⟨I2.kIn, ?_⟩
    rw [F.names]
    exact q2 us ws s2 I2 r rz
def SndA (g : G) (X : Cx) (es : List Expr) (kws : List Keyword) (f : Dens) : Prop :=
  ∀ (B : Bs) (I H : Hp) (ρ : List D) (σ : L2.St) (ts : List D) (vs : List V) (ds : List D) (ρ' : List D) (R : List V → List V → Hp → Prop), StP g B I H ρ σ ts vs → f ρ = some (ds, ρ') →
    (∀ I' H' ws zs, StP g B I' H' ρ' σ (ts ++ ds) (vs ++ (ws ++ zs)) → ds.length = (ws ++ zs).length → ws.length = es.length → zs.length = kws.length → R ws zs H') → argK X es kws σ H R
theorem snd_a0 (hk : SndK g X kws rk) : SndA g X [] kws rk := by
  intro B I H ρ σ ts vs ds ρ' R h q k
  exact hk B I H ρ σ ts vs ds ρ' _ h q fun I' H' ws h' hl hn => k I' H' [] ws h' hl rfl hn
theorem snd_a1 (hr : SndL g X (e :: es) r) (hk : SndK g X kws rk) : SndA g X (e :: es) kws (rBoth r rk) := by
  intro B I H ρ σ ts vs ds ρ' R h q k
  unfold rBoth at q
  cases q1 : r ρ with
  | none => rw [q1] at q; cases q
  | some a =>
    obtain ⟨d1, ρ1⟩ := a
    rw [q1] at q
    dsimp only at q
    cases q2 : rk ρ1 with
    | none => rw [q2] at q; cases q
    | some a =>
      obtain ⟨d2, ρ2⟩ := a
      rw [q2] at q
      cases q
      refine hr B I H ρ σ ts vs d1 ρ1 _ h q1 fun I1 H1 ws h1 hl1 hn1 => ?_
      refine hk B I1 H1 ρ1 σ _ _ d2 _ _ h1 q2 fun I2 H2 zs h2 hl2 hn2 => ?_
      exact k I2 H2 ws zs (by simpa using h2) (by simp [hl1, hl2]) hn1 hn2

/-! ### the callees -/
structure CallKOk (X : Cx) (x : Str) (gd : Bool) (n : Nat) (ks : List Str) (sp : Sp) : Prop where
  ex : ∃ (f : Addr) (fd : FuncData) (ps : List Str) (k : Nat), X.mg x = some (.ref f) ∧ PySem.W.keepIn X.K (.ref f) = true ∧ KwB X.K fd ps n ks ∧ Room k X.A ∧ (gd = true → X.A.guards = some []) ∧ FnD X.prog X.w X.K X.mg X.base gd k f fd ps sp
structure MKOk (g : G) (X : Cx) (c : Nat) (name : Str) (n : Nat) (ks : List Str) (fn : Fn) : Prop where
  ex : ∃ (C f : Addr) (fd : FuncData) (ps : List Str) (k : Nat), g.cls c = some C ∧ Cls X.K C ∧ Meth X.K C name f ∧ KwB X.K fd ps (n + 1) ks ∧ Room (k + 2) X.A ∧
    FnD X.prog X.w X.K X.mg X.base false k f fd ps (spD g false (n + 1 + ks.length) fn)
  no : name ∉ g.flds c
structure CMKOk (g : G) (X : Cx) (c : Nat) (name : Str) (n : Nat) (ks : List Str) (fn : Fn) : Prop where
  ex : ∃ (C p f : Addr) (mc : Value) (fd : FuncData) (ps : List Str) (k : Nat), g.cls c = some C ∧ ClX.CRead X.K C mc ∧ ClX.CMet X.K C mc name p f ∧ KwB X.K fd ps (n + 1) ks ∧ Room (k + 2) X.A ∧
    FnD X.prog X.w X.K X.mg X.base false k f fd ps (spD g false (n + 1 + ks.length) fn)
structure MkKOk (g : G) (X : Cx) (c : Nat) (x : Str) (n : Nat) (ks : List Str) (fn : Fn) : Prop where
  ex : ∃ (C f : Addr) (fd : FuncData) (ps : List Str) (k : Nat), g.cls c = some C ∧ X.mg x = some (.ref C) ∧ Mk X.K C f ∧ KwB X.K fd ps (n + 1) ks ∧ Room (k + 2) X.A ∧
    FnD X.prog X.w X.K X.mg X.base false k f fd ps (spD g true (n + 1 + ks.length) fn)

theorem run_atK {A' : Around} {pins : List (Addr × Obj)} {s : Shared} {us wsv : List Value} {vs zs : List V} {Q : VK} {E' : Value → Shared → Prop} {f : Addr} {fd : FuncData} {ps : List Str} {sp : Sp} (F : FnD X.prog X.w X.K X.mg X.base gd k f fd ps sp) (hr : Room k A') (hgd : gd = true → A'.guards = some [])
    (e0 : Env0 X.prog X.w X.K X.mg X.base A' X.stack s H) (hb : KwB X.K fd ps n ks) (I : Inv X pins σ H s) (r : Vals vs us) (rz : Vals zs wsv) (l1 : vs.length = n) (l2 : zs.length = ks.length) (h : sp (vs ++ zs) H Q E0) :
    wpAny (model X.prog X.w) A' (call (.ref f) us (ks.zip wsv)) (EP X pins σ Q) E' s := by
  refine wpAny_call (codeAny_mono (F.run A' X.stack s H ⟨us, ks.zip wsv⟩ (us ++ wsv) (vs ++ zs) Q E0 hr hgd e0 (hb.to s us wsv I.kIn (r.length.symm.trans l1) (rz.length.symm.trans l2)) (r.append rz) h) fun r s' hq => ?_)
  cases r with
  | error e => exact hq.elim
  | ok fl =>
    cases fl with
    | ret u => exact I.after hq
    | next => exact False.elim hq
    | brk => exact False.elim hq
    | cont => exact False.elim hq
theorem snd_callKw (C : CallKOk X x gd n ks (spD g false (n + ks.length) fn)) (hg : Gl X x) (hd : (x == ("__debug__" : Str)) = false) (hs : noStars es = true) (hn : es.length = n) (F : KwF X.env pos kws ks) (hr : SndA g X es kws r) :
    SndE g X (.Call (.Name x p) es kws pos) (dCallP fn r) := by
  intro B I H ρ σ ts vs d ρ' Q h q k
  refine ⟨fun pins s Iv => ?_⟩
  obtain ⟨f, fd, ps, kk, hm, hk, hb, ro, hgd, Fn⟩ := C.ex
  unfold dCallP at q
  cases q1 : r ρ with
  | none => rw [q1] at q; cases q
  | some z =>
    obtain ⟨ds, ρ1⟩ := z
    rw [q1] at q
    dsimp only at q
    cases q2 : fn (ds.map fz) with
    | none => rw [q2] at q; cases q
    | some z =>
      obtain ⟨d0, o⟩ := z
      rw [q2] at q; cases q
      refine wpAny_Call_Name_kw (ld_glob Iv hg hm ?_ hd)
      refine cw_mx (first := []) hk hs F Iv (hr B I H ρ σ ts vs ds _ _ h q1 fun I1 H1 ws zs h1 hl hw hz => ?_)
      intro us wsv s2 I2 rv rz
      exact run_atK (A' := X.A) (E' := X.xe) Fn ro hgd I2.env0 hb I2 rv rz (hw.trans hn) (hz.trans F.len) (h1.callP hl q2 (by rw [List.length_append, hw, hz, hn, F.len]) k)
theorem snd_methKw (M : MKOk g X c m n ks fn) (hs : noStars es = true) (hn : es.length = n) (F : KwF X.env pos kws ks) (ht : MFormK X.env a m apos pos es kws) (ha : SndE g X a fe) (hr : SndA g X es kws r) :
    SndE g X (.Call (.Attribute a m apos) es kws pos) (dMeth c fn fe r) := by
  intro B I H ρ σ ts vs d ρ' Q h q k
  refine ⟨fun pins s Iv => ?_⟩
  obtain ⟨C, fa, fd, ps, kk, hC, cl, me, hb, ro, Fn⟩ := M.ex
  obtain ⟨pl, ht⟩ := ht
  unfold dMeth at q
  cases q1 : fe ρ with
  | none => rw [q1] at q; cases q
  | some z =>
    obtain ⟨da, ρ1⟩ := z
    rw [q1] at q
    dsimp only at q
    split at q
    · rename_i c' xs ed
      split at q
      · rename_i hc
        subst hc
        cases q2 : r ρ1 with
        | none => rw [q2] at q; cases q
        | some z =>
          obtain ⟨ds, ρ2⟩ := z
          rw [q2] at q
          dsimp only at q
          cases q3 : fn (.ins c' xs :: ds.map fz) with
          | none => rw [q3] at q; cases q
          | some z =>
            obtain ⟨d', o⟩ := z
            rw [q3] at q; cases q
            refine PySem.W.methodCall_KW (pl := pl) (thn ((ha B I H ρ σ ts vs da ρ1 (fun x H1 => ∃ I2, StP g B I2 H1 ρ1 σ (ts ++ [.ins c' xs]) (vs ++ [x]) ∧ Rep g I2 H1 (.ins c' xs) x []) h q1 fun I1 H1 y h1 => ?_).run pins s Iv) fun u s1 ⟨x, H1, Iv1, rx, I2, h2, r1⟩ => ?_) ht
            · obtain ⟨I2, _, h2, rr⟩ := h1.fzTop (ds := [da]) (ws := [y]) rfl
              rw [List.map_cons, List.map_nil, ed] at rr h2
              obtain ⟨w, ew, r1⟩ := rr.one_inv
              cases ew
              exact ⟨I2, h2, r1⟩
            · obtain ⟨C', a', dx, us, rfl, _, hC', hI, ri⟩ := r1.ins_i
              rw [hC] at hC'
              cases hC'
              obtain rfl : u = Value.ref a' := rx
              refine getmeth_ok Iv1 (h2.same _ _ hI) cl me (zip_no M.no) ?_
              refine cw_mx (first := [.ref a']) me.kp hs F Iv1 (hr B I2 H1 ρ1 σ _ _ ds _ _ h2 q2 fun I3 H3 ws zs h3 hl hw hz => ?_)
              intro us wsv s2 Iv2 rv rz
              refine run_atK (A' := X.A) (E' := X.xe) (vs := .ref a' :: ws) (us := .ref a' :: us) Fn (ro.mono (by omega)) (fun z => nomatch z) Iv2.env0 hb Iv2 (.cons rfl rv) rz (by rw [List.length_cons, hw, hn]) (hz.trans F.len) ?_
              refine StP.callP (ds := .ins c' xs :: ds) (ws := .ref a' :: (ws ++ zs)) (by simpa using h3) (by simpa using hl) q3 ?_ k
              rw [List.length_cons, List.length_append, hw, hz, hn, F.len]
              omega
      · cases q
    · cases q
theorem snd_cmethKw0 (M : CMKOk g X c m 0 ks fn) (hg : Gl X x) (hm : ∀ C, g.cls c = some C → X.mg x = some (.ref C)) (hd : (x == ("__debug__" : Str)) = false) (F : KwF X.env pos kws ks) (ht : MFormK X.env (.Name x p) m apos pos [] kws) (hr : SndK g X kws r) :
    SndE g X (.Call (.Attribute (.Name x p) m apos) [] kws pos) (dCMeth c fn r) := by
  intro B I H ρ σ ts vs d ρ' Q h q k
  refine ⟨fun pins s Iv => ?_⟩
  obtain ⟨C, pp, fa, mc, fd, ps, kk, hC, cr, cm, hb, ro, Fn⟩ := M.ex
  obtain ⟨pl, ht⟩ := ht
  unfold dCMeth at q
  cases q2 : r ρ with
  | none => rw [q2] at q; cases q
  | some z =>
    obtain ⟨ds, ρ2⟩ := z
    rw [q2] at q
    dsimp only at q
    cases q3 : fn (.cls c :: ds.map fz) with
    | none => rw [q3] at q; cases q
    | some z =>
      obtain ⟨d', o⟩ := z
      rw [q3] at q; cases q
      refine PySem.W.methodCall_KW (pl := pl) (thn ((pe_glob (pos := p) (v := .ref C) hg (hm C hC) rfl hd).run pins s σ H (fun x H1 => x = .ref C ∧ H1 = H) Iv ⟨rfl, rfl⟩) fun u s1 ⟨x, H1, Iv1, rx, ex, eH⟩ => ?_) ht
      subst ex eH
      obtain rfl : u = Value.ref C := rx
      refine ClX.getmethcm_ok Iv1 cr cm fun s2 I2 => ?_
      refine PySem.W.callWith_of (P := PySem.W.MethP X.K s1.heap.objs.size fa (.ref C)) (by rw [F.no]; rfl) (PySem.W.keeps_M cm.fi) (PyProof.Rows.evalArgs_kw2_nil F.all ?_)
      refine thn ((hr B I _ ρ σ _ _ ds _ (fun zs H2 => zs.length = ks.length ∧ spD g false (0 + 1 + ks.length) fn (.ref C :: zs) H2 Q E0) (h.push (.cls hC)) q2 fun I3 H3 ws h3 hl hw => ?_).run pos _ s2 I2) fun ws s3 ⟨zs, H2, I3, rz, lz, q5⟩ => ?_
      · refine ⟨hw.trans F.len, StP.callP (ds := .cls c :: ds) (ws := .ref C :: ws) (by simpa using h3) (by simp [hl]) q3 ?_ k⟩
        rw [List.length_cons, hw, F.len]
        omega
      · refine ⟨⟨ClX.pin_at I3, I3.kIn⟩, ?_⟩
        rw [F.names]
        refine thn (Q := EP X ((s1.heap.objs.size, PySem.W.methodObj (.ref fa) (.ref C)) :: pins) σ Q) (wpAny_call (PySem.W.method_call (ClX.pin_at I3) ?_)) fun _ _ y => ClX.unpinE y
        refine codeAny_mono (Fn.run X.A X.stack s3 H2 ⟨[.ref C], ks.zip ws⟩ ([.ref C] ++ ws) ([.ref C] ++ zs) Q E0 (ro.mono (by omega)) (fun z => nomatch z) I3.env0 (hb.to s3 [.ref C] ws I3.kIn rfl (rz.length.symm.trans lz)) (.cons rfl rz) q5) fun r s' hq => ?_
        cases r with
        | error e => exact hq.elim
        | ok fl =>
          cases fl with
          | ret u => exact I3.after hq
          | next => exact False.elim hq
          | brk => exact False.elim hq
          | cont => exact False.elim hq
theorem snd_makeKw (M : MkKOk g X c x n ks fn) (hg : Gl X x) (hd : (x == ("__debug__" : Str)) = false) (hs : noStars es = true) (hn : es.length = n) (F : KwF X.env pos kws ks) (hr : SndA g X es kws r) :
    SndE g X (.Call (.Name x p) es kws pos) (dMake c [] fn r) := by
  intro B I H ρ σ ts vs d ρ' Q h q k
  refine ⟨fun pins s Iv => ?_⟩
  obtain ⟨C, fa, fd, ps, kk, hC, hm, mk, hb, ro, Fn⟩ := M.ex
  unfold dMake at q
  cases q2 : r ρ with
  | none => rw [q2] at q; cases q
  | some z =>
    obtain ⟨ds, ρ2⟩ := z
    rw [q2] at q
    dsimp only at q
    split at q
    · rename_i o q3
      cases q
      refine wpAny_Call_Name_kw (ld_glob Iv hg hm ?_ hd)
      refine cw_mx (first := []) mk.kp hs F Iv (hr B I H ρ σ ts vs ds _ _ h q2 fun I1 H1 ws zs h1 hl hw hz => ?_)
      intro us wsv s2 I2 rv rz
      have kb : KBn X.K fd ps (n + 1) ks (fun us ws => us ++ ws) (fun vs zs => vs ++ zs) := ⟨fun s us ws X l1 l2 => hb.to s us ws X l1 l2, fun r rz => r.append rz⟩
      refine run_makeK (E := E0) (CX := CX0) (k := kk) mk Fn.ok (ro.mono (by omega)) kb pass0 I2 rv rz (hw.trans hn) (hz.trans F.len) fun y dx ny ndx ne => ?_
      have rd : ∀ I H, Reps g I H [] [] [] := fun _ _ => .nil
      have e := StP.callM (n := n + 1 + ks.length) h1 hl hC q3 rd (by rw [List.append_nil, List.length_append, hw, hz, hn, F.len]; omega) k ny ndx ne
      rw [List.append_nil] at e
      exact e
    · cases q
end
end DV

set_option Elab.async false
set_option maxRecDepth 100000
set_option maxHeartbeats 4000000
set_option linter.all false
/-! DV20: facts of the text: classes, defs; the head. -/
namespace DV
open PySem L2 PySem.Spec PyProof.Rows

/-- what the written part says of a class -/
structure ClsK (K : PySem.W.Frag) (C : Addr) : Prop where
  pg : PySem.W.plainGet K C Str.empty = true
  hd : PySem.W.hasDictIn K C = true
  po : PySem.W.plainOver K C = true
  sa : PySem.W.findIn K (.ref C) "__setattr__" = some (some (.builtin "object.__setattr__"))
  ha : PySem.W.findIn K (.ref C) "__class__" = some (some (.builtin "object.__class__"))
  hn : PySem.W.specialIn K (.builtin "object.__class__") "__get__" = some (some (.builtin "getset_descriptor.__get__"))
  tk : PySem.W.takesIn K (.builtin "object.__class__") = some true
  ob : PySem.W.mroIn K C (.type "object") = some true
  ic : PySem.W.isClsIn K C = true
  ty : PySem.W.typeIn K (.ref C) = some (.type "type")
  sf : PySem.W.selfFirst K C = true
  ne : PySem.W.findIn K (.ref C) "__ne__" = some (some (.builtin "object.__ne__"))
  u0 : PySem.W.mroIn K C (.type "NoneType") = some false
  u1 : PySem.W.mroIn K C (.type "bool") = some false
  u2 : PySem.W.mroIn K C (.type "int") = some false
  u3 : PySem.W.mroIn K C (.type "str") = some false
  u4 : PySem.W.mroIn K C (.type "list") = some false
  u5 : PySem.W.mroIn K C (.type "tuple") = some false
  u6 : PySem.W.mroIn K C (.type "dict") = some false
theorem ClsK.cl {K : PySem.W.Frag} {C : Addr} (c : ClsK K C) : Cls K C := ⟨c.pg, c.hd, c.po, c.sa⟩
theorem sub_ty {K : PySem.W.Frag} {C : Addr} : ∀ T ∈ kinds, PySem.W.subIn K (.type T) (.ref C) = some false := by
  intro T hT
  have go : ∀ T ∈ kinds, (fastBuiltinMro T).isSome = true ∧ ((fastBuiltinMro T).getD []).all (fun v => match v with | .type _ => true | _ => false) = true := by decide +kernel
  obtain ⟨h1, h2⟩ := go T hT
  cases q : fastBuiltinMro T with
  | none => rw [q] at h1; cases h1
  | some l =>
    rw [q] at h2
    show (fastBuiltinMro T).map (·.contains (.ref C)) = some false
    rw [q, Option.map_some]
    have : l.contains (.ref C) = false := by
      rw [← Bool.not_eq_true, List.contains_iff_mem]
      intro hm
      have := List.all_eq_true.mp h2 _ hm
      cases this
    rw [this]
theorem ClsK.un {K : PySem.W.Frag} {C : Addr} (c : ClsK K C) : ∀ T ∈ kinds, PySem.W.mroIn K C (.type T) = some false := by
  intro T hT
  simp only [kinds, List.mem_cons, List.not_mem_nil, or_false] at hT
  rcases hT with rfl | rfl | rfl | rfl | rfl | rfl | rfl
  · exact c.u0
  · exact c.u1
  · exact c.u2
  · exact c.u3
  · exact c.u4
  · exact c.u5
  · exact c.u6
theorem kinds_meta : ∀ T ∈ kinds, PySem.W.kitMeta T = true := by decide +kernel
theorem ClsK.facts {g : G} {c : Nat} {C : Addr} (k : ClsK g.K C) : ClsFacts g c C where
  cl := k.cl
  ha := k.ha
  hn := k.hn
  htk := k.tk
  hm := k.ob
  bt := fun n hn => by
    unfold PySem.W.kitOne PySem.W.kitCls
    rw [if_neg (by simp)]
    dsimp only
    rw [if_pos (by
      have h1 : (PySem.W.clsIn g.K C).isSome = true := k.ic
      rw [h1, k.ty]
      rfl)]
    exact sub_ty n hn
  tb := fun n hn => by
    unfold PySem.W.kitOne PySem.W.kitCls
    rw [if_neg (by simp)]
    dsimp only
    rw [if_pos (kinds_meta n hn)]
    exact k.un n hn
theorem ClsK.op {g : G} {X : Cx} {c : Nat} {C : Addr} (k : ClsK X.K C) (hc : g.cls c = some C) : OpCls g X c :=
  ⟨C, hc, k.sf, k.u2, k.ob, k.ne, fun T hT => sub_ty T hT⟩

section
variable {g : G} {X : Cx} {x : Str} {pos : Pos}
theorem snd_ty {n : String} (hg : Gl X x) (hm : X.mg x = none) (hv : bootBuiltins x = some (.type n)) (hn : x ≠ "__name__") (hd : (x == ("__debug__" : Str)) = false) : SndE g X (.Name x pos) (dCst (.ty n)) := by
  intro B I H ρ σ ts vs d ρ' Q h q k
  cases q
  exact mx_of (pe_bltn (v := .ty n) hg hm hv rfl hn hd) (k I H _ (h.push .ty))
end

/-- THE HEAD, for a def that is shown where nothing else is being shown -/
theorem head_call {P : Program} {w : World} {K : PySem.W.Frag} {mg mb : Str → Option Value} {k : Nat} {fa a : Addr} {fd : FuncData} {x : Str} {sp : Sp} {s₁ : Shared} {vs : List Value} {ns : List Int}
    (KX : K.In s₁.heap) (hns : s₁.heap.Ns mainGlobals mg) (hb : s₁.heap.Ns builtinsNs mb) (hbb : ∀ x : Str, x ≠ "__name__" → mb x = bootBuiltins x) (hlim : s₁.heap.NoLimit) (hg : s₁.gens = #[])
    (ha : s₁.heap.get? a = some { cls := .type "list", data := .seq vs.toArray }) (hi : IntsAre vs ns) (hl : ns.length ≤ sizeLine) (hr : Room k callerA)
    (F : ∀ base : Heap, K.In base → base.Ns mainGlobals mg → FnD P w K mg base true k fa fd [x] sp) (hbind : ∀ (s : Shared) (u : Value), BindsTo s fd ⟨[u], []⟩ [(x, u)])
    (hsp : ∀ H : Hp, Only H → SqL K H a (ns.map V.int) → sp [.ref a] H (fun v _ => v = .bl true) E0) :
    codeAny (model P w) callerA (.call (.ref fa) ⟨[.ref a], []⟩) (fun r s' => r = .ok (.ret (.bool true)) ∧ OldK s₁.heap s'.heap ∧ s'.os = s₁.os ∧ AllBare s'.gens) s₁ := by
  have rv := vals_ints hi
  have vl := hi.length
  -- over a heap that knows of nothing, but (it may be) of the script
  have go : ∀ H : Hp, Only H → SqL K H a (ns.map V.int) → HOk P w H s₁.heap → (∀ b, b ≠ a → H b = none) → (H a ≠ none → K.lookup a = none) →
      codeAny (model P w) callerA (.call (.ref fa) ⟨[.ref a], []⟩) (fun r s' => r = .ok (.ret (.bool true)) ∧ OldK s₁.heap s'.heap ∧ s'.os = s₁.os ∧ AllBare s'.gens) s₁ := by
    intro H only sq ok off offK
    have kept : ∀ {b : Addr} {o : Obj}, s₁.heap.get? b = some o → H b = none → (hidT s₁.heap H).get? b = some o := fun e n => hidT_get e n
    have dictOff : ∀ {b : Addr} {o : Obj} {es : Array DictEntry} {ep : Nat}, s₁.heap.get? b = some o → o.data = .dict es ep → H b = none := fun {b o es ep} e d => by
      by_cases q : b = a
      · rw [q, ha] at e
        cases e
        cases (show Data.seq vs.toArray _ = Data.dict es ep from d)
      · exact off b q
    have names : ∀ {b : Addr} {m : Str → Option Value}, s₁.heap.Ns b m → (hidT s₁.heap H).Ns b m := fun {b m} z => by
      obtain ⟨o, es, ep, e, d, r⟩ := z
      exact ⟨o, es, ep, kept e (dictOff e d), d, r⟩
    have part : K.In (hidT s₁.heap H) := fun b o e => kept (KX b o e) (by
      by_cases q : b = a
      · cases z : H b with
        | none => rfl
        | some u =>
          subst q
          rw [offK (by rw [z]; simp)] at e
          cases e
      · exact off b q)
    have lim : (hidT s₁.heap H).NoLimit := by
      obtain ⟨mc, z1, z2⟩ := hlim
      exact ⟨mc, names z1, z2⟩
    have e0 : Env0 P w K mg (hidT s₁.heap H) callerA [] s₁ H := ⟨rfl, ⟨part, names hns, ⟨mb, names hb, hbb⟩, lim⟩, fun b o e => of_hidT e, Nat.le_of_eq (hidT_size _ _), trivial, fun b hb => (nomatch (show b ∈ ([] : List Addr) from hb)), ok, .of_eq hg⟩
    refine codeAny_mono ((F _ part (names hns)).run callerA [] s₁ H ⟨[.ref a], []⟩ [.ref a] [.ref a] _ E0 hr (fun _ => rfl) e0 (hbind s₁ (.ref a)) (.cons rfl .nil) (hsp H only sq)) fun r s' h => ?_
    match r, h with
    | .error e, h => exact h.elim
    | .ok .next, h => exact False.elim h
    | .ok .brk, h => exact False.elim h
    | .ok .cont, h => exact False.elim h
    | .ok (.ret u), h =>
      obtain ⟨v, H', os, bare, un, ok', rel, q⟩ := h
      cases (show v = .bl true from q)
      cases (show u = Value.bool true from rel)
      refine ⟨rfl, OldK.of_keep fun b o e => ?_, os, bare⟩
      rcases only b with z | ⟨ob, xs, z⟩
      · exact un.keep b o e z (fun z => (nomatch (show b ∈ ([] : List Addr) from z))) (by simp)
      · obtain ⟨e1, _⟩ := ok b _ z
        obtain ⟨e2, _⟩ := ok' b _ (un.frzs b ob _ z)
        rw [e] at e1
        cases e1
        exact e2
  cases hk : K.lookup a with
  | some o =>
    have e := KX a o hk
    rw [ha] at e
    cases e
    exact go (fun _ => none) (fun _ => .inl rfl) (.inr ⟨_, vs.toArray, _, hk, rfl, rfl, rfl, by rw [List.size_toArray, vl]; exact hl, by simpa using rv⟩) (fun b u z => by cases (show (none : Option HO) = some u from z)) (fun _ _ => rfl) fun z => absurd rfl z
  | none =>
    refine go (fun b => if b = a then some (.frz { cls := .type "list", data := .seq vs.toArray } (.lst (ns.map V.int))) else none) (fun b => ?_) (.inl (.inr ⟨{ cls := .type "list", data := .seq vs.toArray }, if_pos rfl⟩)) (fun b u z => ?_) (fun b q => if_neg q) fun _ => hk
    · by_cases q : b = a
      · exact .inr ⟨_, _, if_pos q⟩
      · exact .inl (if_neg q)
    · by_cases q : b = a
      · have z' := (if_pos q).symm.trans z
        cases z'
        subst q
        exact ⟨ha, by rw [List.length_map]; exact hl, vs, _, rv, ha⟩
      · have z' := (if_neg q).symm.trans z
        cases z'

theorem reps_ints {g : G} {I H : Hp} : ∀ ns : List Int, Reps g I H (ns.map D.int) (ns.map V.int) []
  | [] => .nil
  | n :: ns => .cons (f1 := []) (f2 := []) .int (reps_ints ns)
/-- the goal that k_head leaves, from what the law's def does on deep values -/
theorem walk_D {l : PySem.W.OpenLaw} {n k : Nat} {q : Program} {loose : List Str} {XP : (Str → Option Value) → Heap → Prop} {YP : World → Heap → Prop} {d : DefRec} {K : Params → PySem.W.Frag} {x : Str} {sem : Fn}
    (hn : l.most = some n) (hn2 : n ≤ sizeLine) (hdf : d.params.defaults = []) (hr : Room k callerA) (hY : ∀ (w : World) (h : Heap), YP w h → (K w.params).In h)
    (F : ∀ (w : World) (mg : Str → Option Value) (fa : Addr) (h : Heap), (K w.params).In h → h.Ns mainGlobals mg → mg d.name = some (.ref fa) →
      ∃ (fd : FuncData) (g : G), g.K = K w.params ∧ (∀ (s : Shared) (u : Value), BindsTo s fd ⟨[u], []⟩ [(x, u)]) ∧
        ∀ base : Heap, (K w.params).In base → base.Ns mainGlobals mg → FnD l.prog w (K w.params) mg base true k fa fd [x] (spD g false 1 sem))
    (hsem : ∀ ns : List Int, ns.length ≤ n → ∃ o, sem [.con (ns.map D.int)] = some (.bl true, o)) :
    PySem.W.WalkO q loose XP YP l.row.toRowW d [] (fun f vs => PySem.call f vs) := by
  refine Att.attach_call hn hdf fun w s₀ s₁ mg mb fa o pm cd doc a vs ns Gr Y ho hd hcd hmg hobj hints hlen hg => ?_
  have KX := hY w _ Y
  obtain ⟨fd, g, hK, hb, hF⟩ := F w mg fa _ KX Gr.T.g hmg
  obtain ⟨o', e⟩ := hsem ns hlen
  refine head_call KX Gr.T.g Gr.T.b Gr.T.builtins Gr.T.nolimit hg hobj hints (Nat.le_trans hlen hn2) hr hF hb fun H only sq => ?_
  refine ⟨rfl, H, [.con (ns.map D.int)], [], .bl true, o', Same.refl _, Reps.one (.con (hK ▸ sq) (reps_ints ns)), List.nodup_nil, fun b hb => (by cases hb), e, fun I' H' v f1 f2 _ _ r _ _ _ _ _ _ _ => r.bl_i.1⟩
end DV

set_option Elab.async false
set_option maxRecDepth 100000
set_option maxHeartbeats 4000000
set_option linter.all false
/-! DV21: the rules again, each from what a body knows (Cok), with checks that are run. -/
namespace DV
open PySem L2 PySem.Spec PyProof.Rows

structure Cok (g : G) (N : List Str) (sc : Scope) (fc : Str → Bool) (X : Cx) : Prop where
  hK : X.K = g.K
  hN : X.N = N
  nd : N.Nodup
  hs : X.env.scope = sc
  calm : X.calm = true
  nx : X.xe = fun _ _ => False
  fn : ∀ x, fc x = true → X.fn x = true
  un : X.A.units + 64 < cLine
theorem Body.ctx {P : Program} {w : World} {K : PySem.W.Frag} {mg : Str → Option Value} {base : Heap} {N : List Str} {sc : Scope} {gd : Bool} {k : Nat} {X : Cx} {g : G} (b : Body P w K mg base N sc gd k X) (hK : K = g.K) (nd : N.Nodup) : Cok g N sc (fun _ => true) X :=
  ⟨b.K.trans hK, b.N, nd, b.sc, b.calm, b.nx, fun x _ => b.fn x, b.room.units⟩
/-- a block's scope: what is free in it and a cell around it is a cell -/
def rlS (scope sc : Scope) : Scope := { scope with names := scope.names.map fun (n, k) => if (k == .free && sc.kind == .function && sc.names.lookup n == some .cell) then (n, .cell) else (n, k) }
section
variable {g : G} {N : List Str} {sc scope : Scope} {fc : Str → Bool} {X : Cx} {s : Shared} {H : Hp} {C : Addr} {cl : List (Str × Addr)} {fp : List Addr} {x : Str} {gd : Bool} {n c0 : Nat} {sp : Sp} {fn : Fn} {ks : List Str} {dd : List D} {mu : Bool}
theorem Cok.blk (c : Cok g N sc fc X) : Cok g N (rlS scope sc) (fun x => scope.names.lookup x == some .cell) (Blk X scope s H C cl fp) :=
  ⟨c.hK, c.hN, c.nd, by rw [← c.hs]; rfl, c.calm, rfl, fun x h => h, c.un⟩
theorem CallOk.blk (k : CallOk X x gd n sp) : CallOk (Blk X scope s H C cl fp) x gd n sp := ⟨k.ex⟩
theorem CallKOk.blk (k : CallKOk X x gd n ks sp) : CallKOk (Blk X scope s H C cl fp) x gd n ks sp := ⟨k.ex⟩
theorem FldOk.blk {j : Nat} (k : FldOk g X c0 x j) : FldOk g (Blk X scope s H C cl fp) c0 x j := ⟨k.at_, k.nd, k.sz, k.cls⟩
theorem MOk.blk (k : MOk g X c0 x n mu fn) : MOk g (Blk X scope s H C cl fp) c0 x n mu fn := ⟨k.ex, k.no⟩
theorem MKOk.blk (k : MKOk g X c0 x n ks fn) : MKOk g (Blk X scope s H C cl fp) c0 x n ks fn := ⟨k.ex, k.no⟩
theorem POk.blk (k : POk g X c0 x fn) : POk g (Blk X scope s H C cl fp) c0 x fn := ⟨k.ex⟩
theorem CMOk.blk (k : CMOk g X c0 x n fn) : CMOk g (Blk X scope s H C cl fp) c0 x n fn := ⟨k.ex⟩
theorem CMKOk.blk (k : CMKOk g X c0 x n ks fn) : CMKOk g (Blk X scope s H C cl fp) c0 x n ks fn := ⟨k.ex⟩
theorem MkOk.blk (k : MkOk g X c0 x n dd fn) : MkOk g (Blk X scope s H C cl fp) c0 x n dd fn := ⟨k.ex⟩
theorem MkKOk.blk (k : MkKOk g X c0 x n ks fn) : MkKOk g (Blk X scope s H C cl fp) c0 x n ks fn := ⟨k.ex⟩
theorem OpCls.blk (k : OpCls g X c0) : OpCls g (Blk X scope s H C cl fp) c0 := ⟨k.ex⟩
end

/-! ### checks -/
def visB (sc : Scope) (x : Str) : Bool := match sc.names.lookup x with
  | some .local => true
  | some .cell => true
  | some .free => true
  | _ => false
def okV (N : List Str) (sc : Scope) (i : Nat) (x : Str) : Bool := decide (N[i]? = some x) && visB sc x && !(x == ("__debug__" : Str)) && !(x == ("__classdict__" : Str))
def okL (N : List Str) (sc : Scope) (fc : Str → Bool) (i : Nat) (x : Str) : Bool := decide (N[i]? = some x) && (match sc.names.lookup x with
  | some .local => true
  | some .cell => fc x
  | _ => false)
def okG (sc : Scope) (x : Str) : Bool := (match sc.names.lookup x with
  | some .globalImplicit => true
  | _ => false) && !(x == ("__debug__" : Str)) && !(x == ("__name__" : Str))
def okLL (N : List Str) (sc : Scope) (i : Nat) (x : Str) : Bool := decide (N[i]? = some x) && (match sc.names.lookup x with
  | some .local => true
  | _ => false)
section
variable {g : G} {N : List Str} {sc scope : Scope} {fc : Str → Bool} {X : Cx} {x y z m f : Str} {i j l n c0 : Nat} {p pos pos' apos lpos p2 px py pz pt kpos : Pos} {a b e tg iter elt c' : Expr} {es : List Expr} {fa fb fe fj : Den} {ft fu : DenT} {r rk : Dens} {fx gd : Bool} {fn : Fn} {dd : List D} {ks : List Str} {kws : List Keyword} {sl : List Nat} {fg : DenG} {fi : Dens} {body : List Stmt} {gb : DenS}
theorem visB_of (h : visB sc x = true) : Vis sc x := by
  unfold visB at h
  split at h
  · exact .inl (by assumption)
  · exact .inr (.inl (by assumption))
  · exact .inr (.inr (by assumption))
  · cases h
structure VarOk (X : Cx) (i : Nat) (x : Str) : Prop where
  N : X.N[i]? = some x
  v : Vis X.env.scope x
  d : (x == ("__debug__" : Str)) = false
  cd : (x == ("__classdict__" : Str)) = false
theorem Cok.vok (c : Cok g N sc fc X) (h : okV N sc i x = true) : VarOk X i x := by
  unfold okV at h
  simp only [Bool.and_eq_true, decide_eq_true_eq, Bool.not_eq_true'] at h
  exact ⟨by rw [c.hN]; exact h.1.1.1, by rw [c.hs]; exact visB_of h.1.1.2, h.1.2, h.2⟩
structure LocOk (X : Cx) (i : Nat) (x : Str) : Prop where
  N : X.N[i]? = some x
  l : L2.Loc X.env.scope x
  f : X.fn x = true ∨ X.env.scope.names.lookup x = some .local
theorem Cok.lok (c : Cok g N sc fc X) (h : okL N sc fc i x = true) : LocOk X i x := by
  unfold okL at h
  simp only [Bool.and_eq_true, decide_eq_true_eq] at h
  obtain ⟨h1, h2⟩ := h
  split at h2
  · rename_i e
    exact ⟨by rw [c.hN]; exact h1, by rw [c.hs]; exact .inl e, by rw [c.hs]; exact .inr e⟩
  · rename_i e
    exact ⟨by rw [c.hN]; exact h1, by rw [c.hs]; exact .inr e, .inl (c.fn x h2)⟩
  · cases h2
structure GlbOk (X : Cx) (x : Str) : Prop where
  g : Gl X x
  d : (x == ("__debug__" : Str)) = false
  n : x ≠ "__name__"
theorem Cok.gok (c : Cok g N sc fc X) (h : okG sc x = true) : GlbOk X x := by
  unfold okG at h
  simp only [Bool.and_eq_true, Bool.not_eq_true'] at h
  refine ⟨?_, h.1.2, fun z => by rw [z] at h; exact absurd h.2 (by simp)⟩
  show X.env.scope.names.lookup x = some .globalImplicit
  rw [c.hs]
  have h1 := h.1.1
  split at h1
  · assumption
  · cases h1
theorem Cok.llk (c : Cok g N sc fc X) (h : okLL N sc i x = true) : X.N[i]? = some x ∧ X.env.scope.names.lookup x = some .local := by
  unfold okLL at h
  simp only [Bool.and_eq_true, decide_eq_true_eq] at h
  refine ⟨by rw [c.hN]; exact h.1, ?_⟩
  rw [c.hs]
  have h1 := h.2
  split at h1
  · assumption
  · cases h1
theorem Cok.nodup (c : Cok g N sc fc X) : X.N.Nodup := by rw [c.hN]; exact c.nd

/-! ### expressions -/
theorem Cok.var (c : Cok g N sc fc X) (h : okV N sc i x = true) : SndE g X (.Name x p) (dVar i) := let v := c.vok h; snd_var v.N v.v v.d v.cd
theorem Cok.item (c : Cok g N sc fc X) (h : okV N sc i x = true) (hs : noSlice b = true) (hb : SndE g X b fj) : SndE g X (.Subscript (.Name x p) b pos) (dItem i fj) := let v := c.vok h; snd_item c.hK v.N v.v v.d v.cd hs hb
theorem Cok.ix (c : Cok g N sc fc X) (hs : noSlice b = true) (ha : SndE g X a fa) (hb : SndE g X b fb) : SndE g X (.Subscript a b pos) (dBin ixB fa fb) := snd_ix c.hK hs ha hb
theorem Cok.app (c : Cok g N sc fc X) (h : okV N sc i x = true) (hs : noStar e = true) (hl : (apos.endLine == pos.line) = true) (he : SndE g X e fe) : SndE g X (.Call (.Attribute (.Name x p) "append" apos) [e] [] pos) (dApp i fe) := let v := c.vok h; snd_app v.N v.v v.d v.cd hs hl he
theorem Cok.ext (c : Cok g N sc fc X) (h : okV N sc i x = true) (hs : noStar e = true) (hl : (apos.endLine == pos.line) = true) (he : SndE g X e fe) : SndE g X (.Call (.Attribute (.Name x p) "extend" apos) [e] [] pos) (dExt i fe) := let v := c.vok h; snd_ext v.N v.v v.d v.cd hs hl he
theorem Cok.gint (c : Cok g N sc fc X) (h : okG sc x = true) {k : Int} {t : Tok} (hm : X.mg x = some (.int k t)) : SndE g X (.Name x pos) (dCst (.int k)) := let v := c.gok h; snd_globI v.g hm v.d
theorem Cok.gcls (c : Cok g N sc fc X) (h : okG sc x = true) {C : Addr} (hm : X.mg x = some (.ref C)) (hc : g.cls c0 = some C) : SndE g X (.Name x pos) (dCst (.cls c0)) := let v := c.gok h; snd_globC v.g hm v.d hc
theorem Cok.ty (c : Cok g N sc fc X) (h : okG sc x = true) {t : String} (hm : X.mg x = none) (hv : bootBuiltins x = some (.type t)) : SndE g X (.Name x pos) (dCst (.ty t)) := let v := c.gok h; snd_ty v.g hm hv v.n v.d
theorem Cok.callP (c : Cok g N sc fc X) (C : CallOk X x gd n (spD g false n fn)) (h : okG sc x = true) (hs : noStars (e :: es) = true) (hn : (e :: es).length = n) (hr : SndL g X (e :: es) r) : SndE g X (.Call (.Name x p) (e :: es) [] pos) (dCallP fn r) := let v := c.gok h; snd_callP C v.g v.d hs hn hr
theorem Cok.callT (c : Cok g N sc fc X) (C : CallOk X x gd n (spD g true n fn)) (h : okG sc x = true) (hs : noStars (e :: es) = true) (hn : (e :: es).length = n) (he : SndE g X e fe) (hr : SndL g X es r) : SndE g X (.Call (.Name x p) (e :: es) [] pos) (dCallT fn fe r) := let v := c.gok h; snd_callT C v.g v.d hs hn he hr
theorem Cok.callR (c : Cok g N sc fc X) (C : CallOk X x gd n (spD g true n fn)) (h : okG sc x = true) (hs : noStars es = true) (hn : es.length + 1 = n) (hy : okV N sc i y = true) (hr : SndL g X es r) : SndE g X (.Call (.Name x p) (.Name y p2 :: es) [] pos) (dCallR fn i r) := let v := c.gok h; let w := c.vok hy; snd_callR C v.g v.d hs hn w.N w.v w.d w.cd hr
theorem Cok.callKw (c : Cok g N sc fc X) (C : CallKOk X x gd n ks (spD g false (n + ks.length) fn)) (h : okG sc x = true) (hs : noStars es = true) (hn : es.length = n) (F : KwF X.env pos kws ks) (hr : SndA g X es kws r) : SndE g X (.Call (.Name x p) es kws pos) (dCallP fn r) := let v := c.gok h; snd_callKw C v.g v.d hs hn F hr
theorem Cok.make (c : Cok g N sc fc X) (M : MkOk g X c0 x n dd fn) (h : okG sc x = true) (hs : noStars (e :: es) = true) (hn : (e :: es).length + dd.length + 1 = n) (hr : SndL g X (e :: es) r) : SndE g X (.Call (.Name x p) (e :: es) [] pos) (dMake c0 dd fn r) := let v := c.gok h; snd_make M v.g v.d hs hn hr
theorem Cok.make0 (c : Cok g N sc fc X) (M : MkOk g X c0 x n dd fn) (h : okG sc x = true) (hn : dd.length + 1 = n) : SndE g X (.Call (.Name x p) [] [] pos) (dMake c0 dd fn dNil) := let v := c.gok h; snd_make0 M v.g v.d hn
theorem Cok.makeKw (c : Cok g N sc fc X) (M : MkKOk g X c0 x n ks fn) (h : okG sc x = true) (hs : noStars es = true) (hn : es.length = n) (F : KwF X.env pos kws ks) (hr : SndA g X es kws r) : SndE g X (.Call (.Name x p) es kws pos) (dMake c0 [] fn r) := let v := c.gok h; snd_makeKw M v.g v.d hs hn F hr
theorem Cok.cmeth (c : Cok g N sc fc X) (M : CMOk g X c0 m n fn) (h : okG sc x = true) (hm : ∀ C, g.cls c0 = some C → X.mg x = some (.ref C)) (hs : noStars (e :: es) = true) (hn : (e :: es).length + 1 = n) (ht : MForm X.env (.Name x p) m apos pos (e :: es)) (hr : SndL g X (e :: es) r) : SndE g X (.Call (.Attribute (.Name x p) m apos) (e :: es) [] pos) (dCMeth c0 fn r) := let v := c.gok h; snd_cmeth M v.g hm v.d hs hn ht hr
theorem Cok.cmethKw (c : Cok g N sc fc X) (M : CMKOk g X c0 m 0 ks fn) (h : okG sc x = true) (hm : ∀ C, g.cls c0 = some C → X.mg x = some (.ref C)) (F : KwF X.env pos kws ks) (ht : MFormK X.env (.Name x p) m apos pos [] kws) (hr : SndK g X kws r) : SndE g X (.Call (.Attribute (.Name x p) m apos) [] kws pos) (dCMeth c0 fn r) := let v := c.gok h; snd_cmethKw0 M v.g hm v.d F ht hr
theorem Cok.fldV (c : Cok g N sc fc X) (F : FldOk g X c0 f j) (h : okV N sc i x = true) (hb : attributeBase (.Name x p) f X.env (eval (.Name x p) X.env) = eval (.Name x p) X.env) : SndE g X (.Attribute (.Name x p) f pos) (dFldV i c0 j) := let v := c.vok h; snd_fldV F hb v.N v.v v.d v.cd
theorem Cok.blt (c : Cok g N sc fc X) {φ : List D → Option D} {id : String} (hc : SndC g X (.builtin id) φ) (h : okG sc x = true) (hm : X.mg x = none) (hv : bootBuiltins x = some (.builtin id)) (hs : noStars (e :: es) = true) (hr : SndL g X (e :: es) r) : SndE g X (.Call (.Name x p) (e :: es) [] pos) (dBlt φ r) := let v := c.gok h; snd_blt hc v.g hm hv v.n v.d hs hr
theorem Cok.bltT (c : Cok g N sc fc X) {φ : List D → Option D} {T : String} (hc : SndC g X (.type T) φ) (h : okG sc x = true) (hm : X.mg x = none) (hv : bootBuiltins x = some (.type T)) (hs : noStars (e :: es) = true) (hr : SndL g X (e :: es) r) : SndE g X (.Call (.Name x p) (e :: es) [] pos) (dBlt φ r) := let v := c.gok h; snd_bltT hc v.g hm hv v.n v.d hs hr
theorem Cok.slc (c : Cok g N sc fc X) {lo hi : Option Expr} {fl fh : PartD} (he : SndE g X e fe) (hl : SndP g X lo fl) (hu : SndP g X hi fh) : SndE g X (.Subscript e (.Slice lo hi none p2) pos) (dSlc fe fl fh) := snd_slc c.hK he hl hu
/-- no test -/
def tYesD : DenT := fun ρ => some (true, ρ)
theorem Cok.lc (c : Cok g N sc fc X) {own : List (Str × Nat)} {ow : List Nat} (ok : blkC N sc scope own = true) (ho : own.map (·.2) = ow) (hs : noSet iter = true) (hi : SndI g X tg iter fi)
    (tgt : ∀ s H C cl fp, SndG g (Blk X scope s H C cl fp) tg ow fg) (el : ∀ s H C cl fp, SndE g (Blk X scope s H C cl fp) elt fe) : SndE g X (.ListComp elt [⟨tg, iter, [], 0⟩] scope pos) (dComp ow fi fg tYesD fe) := by
  subst ho
  exact snd_lc c.calm c.nodup hi (by rw [c.hN, c.hs]; exact blkOk_by ok) ⟨tgt, .inl ⟨rfl, rfl⟩, el⟩ hs
theorem Cok.lcIf (c : Cok g N sc fc X) {own : List (Str × Nat)} {ow : List Nat} (ok : blkC N sc scope own = true) (ho : own.map (·.2) = ow) (hs : noSet iter = true) (hi : SndI g X tg iter fi)
    (tgt : ∀ s H C cl fp, SndG g (Blk X scope s H C cl fp) tg ow fg) (tst : ∀ s H C cl fp, SndT g (Blk X scope s H C cl fp) c' ft) (el : ∀ s H C cl fp, SndE g (Blk X scope s H C cl fp) elt fe) : SndE g X (.ListComp elt [⟨tg, iter, [c'], 0⟩] scope pos) (dComp ow fi fg ft fe) := by
  subst ho
  exact snd_lc c.calm c.nodup hi (by rw [c.hN, c.hs]; exact blkOk_by ok) ⟨tgt, .inr ⟨c', rfl, tst⟩, el⟩ hs
theorem Cok.iseq (c : Cok g N sc fc X) (he : SndE g X iter fe) : SndI g X tg iter (iSeq fe) := snd_iseq c.hK he
theorem Cok.irng1 (c : Cok g N sc fc X) (h : okG sc "range" = true) (hm : X.mg "range" = none) (hs : noStar a = true) (hr : SndL g X [a] r) : SndI g X tg (.Call (.Name "range" p) [a] [] pos) (iRng r) := snd_irng1 (c.gok h).g hm hs hr
theorem Cok.irng2 (c : Cok g N sc fc X) (h : okG sc "range" = true) (hm : X.mg "range" = none) (hs : noStars [a, b] = true) (hr : SndL g X [a, b] r) : SndI g X tg (.Call (.Name "range" p) [a, b] [] pos) (iRng r) := snd_irng2 (c.gok h).g hm hs hr
/-! ### targets, statements -/
theorem Cok.gnm (c : Cok g N sc fc X) (h : okL N sc fc i x = true) : SndG g X (.Name x pos) [i] (gNm i) := let v := c.lok h; snd_gnm c.nodup v.N v.l v.f
theorem Cok.gitem (c : Cok g N sc fc X) (h : okV N sc i x = true) (hs : noSlice b = true) (hb : SndE g X b fj) : SndG g X (.Subscript (.Name x p) b pos) [] (gItem i fj) := let v := c.vok h; snd_gitem v.N v.v v.d v.cd hs hb
theorem Cok.gtup (c : Cok g N sc fc X) {fs : List DenG} {k0 : Nat} (hp : GTs g X es sl fs) : SndG g X (.Tuple es k0 pos) sl (gTup fs) := snd_gtup c.hK c.calm hp
theorem Cok.asg (c : Cok g N sc fc X) (h : okL N sc fc i x = true) (hc : noComp e = true) (h0 : fx = true → i ≠ 0) (he : SndE g X e fe) : SndS g fx X (.Assign [.Name x pos'] e pos) (sAsg i fe) := let v := c.lok h; snd_asg c.nodup v.N v.l v.f hc h0 he
theorem Cok.asgL (c : Cok g N sc fc X) {own : List (Str × Nat)} {ow : List Nat} (h : okL N sc fc i x = true) (h0 : fx = true → i ≠ 0) (ok : blkC N sc scope own = true) (ho : own.map (·.2) = ow) (hs : noSet iter = true) (hi : SndI g X tg iter fi)
    (tgt : ∀ s H C cl fp, SndG g (Blk X scope s H C cl fp) tg ow fg) (el : ∀ s H C cl fp, SndE g (Blk X scope s H C cl fp) elt fe) : SndS g fx X (.Assign [.Name x pos'] (.ListComp elt [⟨tg, iter, [], 0⟩] scope lpos) pos) (sAsg i (dComp ow fi fg tYesD fe)) := by
  subst ho
  have v := c.lok h
  exact snd_asgL c.calm c.nodup v.N v.l v.f h0 hi (by rw [c.hN, c.hs]; exact blkOk_by ok) ⟨tgt, .inl ⟨rfl, rfl⟩, el⟩ hs
theorem Cok.asgLIf (c : Cok g N sc fc X) {own : List (Str × Nat)} {ow : List Nat} (h : okL N sc fc i x = true) (h0 : fx = true → i ≠ 0) (ok : blkC N sc scope own = true) (ho : own.map (·.2) = ow) (hs : noSet iter = true) (hi : SndI g X tg iter fi)
    (tgt : ∀ s H C cl fp, SndG g (Blk X scope s H C cl fp) tg ow fg) (tst : ∀ s H C cl fp, SndT g (Blk X scope s H C cl fp) c' ft) (el : ∀ s H C cl fp, SndE g (Blk X scope s H C cl fp) elt fe) : SndS g fx X (.Assign [.Name x pos'] (.ListComp elt [⟨tg, iter, [c'], 0⟩] scope lpos) pos) (sAsg i (dComp ow fi fg ft fe)) := by
  subst ho
  have v := c.lok h
  exact snd_asgL c.calm c.nodup v.N v.l v.f h0 hi (by rw [c.hN, c.hs]; exact blkOk_by ok) ⟨tgt, .inr ⟨c', rfl, tst⟩, el⟩ hs
theorem Cok.asgT (c : Cok g N sc fc X) (he : SndE g X e fe) (hg : SndG g X tg sl fg) (h0 : fx = true → 0 ∉ sl) (hs : swapsWithSole [tg] e pos.line X.env = pure false) (hw : swappedStores [tg] e X.env = pure none) (h1 : (assignEach [tg] X.env).map (·.2) = [assign tg X.env]) : SndS g fx X (.Assign [tg] e pos) (sAsgG fe fg) := snd_asgG he hg h0 hs hw h1
theorem Cok.par (c : Cok g N sc fc X) {kt k2 : Nat} {pt2 : Pos} (hi : okLL N sc i x = true) (hj : okLL N sc j y = true) (hij : i ≠ j) (h0 : fx = true → i ≠ 0 ∧ j ≠ 0)
    (hw : ∀ env : Env, env.scope = sc → swappedStores [.Tuple [.Name x px, .Name y py] kt pt] (.Tuple [a, b] k2 pt2) env = pure (some [x, y])) (hr : SndL g X [a, b] r) :
    SndS g fx X (.Assign [.Tuple [.Name x px, .Name y py] kt pt] (.Tuple [a, b] k2 pt2) pos) (sPar i j r) := let v := c.llk hi; let w := c.llk hj; snd_par c.calm c.nodup v.1 w.1 hij v.2 w.2 hr (hw _ c.hs) h0
theorem Cok.par3 (c : Cok g N sc fc X) {kt k2 : Nat} {pt2 : Pos} (hi : okLL N sc i x = true) (hj : okLL N sc j y = true) (hl : okLL N sc l z = true) (hij : i ≠ j) (hil : i ≠ l) (hjl : j ≠ l) (h0 : fx = true → i ≠ 0 ∧ j ≠ 0 ∧ l ≠ 0)
    (hw : ∀ env : Env, env.scope = sc → swappedStores [.Tuple [.Name x px, .Name y py, .Name z pz] kt pt] (.Tuple [a, b, c'] k2 pt2) env = pure (some [x, y, z])) (hr : SndL g X [a, b, c'] r) :
    SndS g fx X (.Assign [.Tuple [.Name x px, .Name y py, .Name z pz] kt pt] (.Tuple [a, b, c'] k2 pt2) pos) (sPar3 i j l r) := let v := c.llk hi; let w := c.llk hj; let u := c.llk hl; snd_par3 c.calm c.nodup v.1 w.1 u.1 hij hil hjl v.2 w.2 u.2 hr (hw _ c.hs) h0
theorem Cok.fst (c : Cok g N sc fc X) (F : FldOk g X c0 f j) (h : okV N sc i x = true) (hs : swapsWith e (some (.Attribute (.Name x p) f apos)) pos.line X.env = pure false) (he : SndE g X e fe) : SndS g fx X (.Assign [.Attribute (.Name x p) f apos] e pos) (sFst i c0 j fe) := let v := c.vok h; snd_fst F hs v.N v.v v.d v.cd he
theorem Cok.for' (c : Cok g N sc fc X) (hs : noSet iter = true) (h0 : fx = true → 0 ∉ sl) (hi : SndI g X tg iter fi) (hg : SndG g X tg sl fg) (hb : SndB g fx X body gb) : SndS g fx X (.For tg iter body [] pos) (sFor fi fg gb) := snd_for c.nx c.calm hs hi hg h0 hb
theorem Cok.whl (c : Cok g N sc fc X) (hc : SndT g X a ft) (hb : SndB g fx X body gb) : SndS g fx X (.While a body [] pos) (sWhile ft gb) := snd_while c.nx hc hb
end
end DV

set_option Elab.async false
set_option maxRecDepth 100000
set_option maxHeartbeats 4000000
set_option linter.all false
/-! DV22: defs by their places: bindings. -/
namespace DV
open PySem L2 PySem.Spec PyProof.Rows
section
variable {K : PySem.W.Frag} {x qual : Str} {params : Arguments} {body : List Stmt} {scope : Scope} {dvs : List V} {kws : List (Str × V)} {f : Addr} {fd : FuncData} {ps ks : List Str} {n : Nat}
theorem FunD.a' (F : L2.FunD K x qual params body scope dvs kws f fd) : FunA K x qual params body scope f fd := by
  obtain ⟨oc, od, dV, kV, doc, pm, an, cdv, ct, osl, e, lk, hcd, _⟩ := F.ex
  exact ⟨oc, od, dV, kV, doc, pm, an, cdv, ct, osl, e, lk, hcd⟩
theorem FunD.kwN (F : L2.FunD K x qual params body scope [] kws f fd) (h : ∀ (kV doc pm : Value) (an : Option Addr) (cdv ct : Value) (us ws : List Value), us.length = n → ws.length = ks.length →
    bindArgs (PySem.W.fnOf x qual params body scope .none kV doc pm an cdv ct) ⟨us, ks.zip ws⟩ = pure (ps.zip (us ++ ws))) : KwB K fd ps n ks := by
  obtain ⟨oc, od, dV, kV, doc, pm, an, cdv, ct, osl, rfl, lk, hcd, hD, hK⟩ := F.ex
  rcases hD with ⟨_, rfl⟩ | ⟨e, _⟩
  · exact ⟨fun s us ws _ l1 l2 => .of_eq (h kV doc pm an cdv ct us ws l1 l2)⟩
  · exact absurd rfl e
theorem FunD.kwD (F : L2.FunD K x qual params body scope dvs kws f fd) (hd : dvs ≠ []) (h : ∀ (T : Addr) (kV doc pm : Value) (an : Option Addr) (cdv ct : Value) (us its ws : List Value), us.length = n → its.length = dvs.length → ws.length = ks.length →
      ∃ k, bindArgs (PySem.W.fnOf x qual params body scope (.ref T) kV doc pm an cdv ct) ⟨us, ks.zip ws⟩ = seqItems? (.ref T) >>= k ∧ k (some its.toArray) = pure (ps.zip (us ++ ws))) : KwB K fd ps n ks := by
  obtain ⟨its, kb⟩ := L2.FunD.kbindsD F n ks (fun us _ ws => us ++ ws) hd (fun r _ rz => r.append rz) h
  exact ⟨fun s us ws X l1 l2 => kb.to s us ws X l1 l2⟩
end
end DV

set_option Elab.async false
set_option maxRecDepth 100000
set_option maxHeartbeats 4000000
set_option linter.all false
/-! DV23: the text's facts, looked at behind the top by one run. -/
namespace DV
open PySem L2 PySem.Spec PyProof.Rows
/-- where a def stands: a module's name, a method, a property, a classmethod -/
inductive At where
  | gl (x : Str) | me (c m : Str) | pr (c m : Str) | cm (c m : Str)
/-- the record of a property, a classmethod -/
def rcA (K : PySem.W.Frag) (c m : Str) : Addr := match PySem.W.findIn K (.ref (He.ga K c)) m with
  | some (some (.ref p)) => p
  | _ => 0
def rcG (K : PySem.W.Frag) (T : String) (p : Addr) : Addr := match PySem.W.recIn K p T with
  | some (.ref q :: _) => q
  | _ => 0
def At.ad (K : PySem.W.Frag) : At → Addr
  | .gl x => He.ga K x
  | .me c m => He.ma K (He.ga K c) m
  | .pr c m => rcG K "property" (rcA K c m)
  | .cm c m => rcG K "classmethod" (rcA K c m)
structure DefX where
  at_ : At
  name : Str
  qual : Str
  st : Stmt
  dfl : List He.Dv := []
def wh (K : PySem.W.Frag) (a : Addr) : He.FnW := match K.lookup a with
  | some o => match o.data with
    | .func z => some (z.name, z.qualname, z.params, z.body, z.scope, z.globals, z.closure, z.builtins)
    | _ => none
  | none => none
def DefX.due (d : DefX) : He.FnW := some (d.name, d.qual, defArgs d.st, .stmts (defBody d.st), defScope d.st, mainGlobals, [], builtinsNs)
def DefX.dvs (K : PySem.W.Frag) (d : DefX) : List V := d.dfl.map (He.Dv.v K)
def DefX.ok (K : PySem.W.Frag) (d : DefX) : Bool := PySem.W.keepIn K (.ref (d.at_.ad K)) && (match K.lookup (d.at_.ad K) with
  | some o => match o.data with
    | .func z => PySem.W.codeIn K z.code d.qual && (He.dflB K z.defaults (d.dvs K) && He.kwdB K z.kwdefaults [])
    | _ => false
  | none => false)
theorem DefX.funD {K : PySem.W.Frag} {d : DefX} (e : wh K (d.at_.ad K) = d.due) (c : d.ok K = true) : ∃ fd, FunD K d.name d.qual (defArgs d.st) (defBody d.st) (defScope d.st) (d.dvs K) [] (d.at_.ad K) fd := by
  obtain ⟨kp, c2⟩ := He.ba c
  unfold wh at e
  cases q : K.lookup (d.at_.ad K) with
  | none => rw [q] at c2; cases c2
  | some o =>
    obtain ⟨oc, od, dt, sl⟩ := o
    rw [q] at e c2
    cases dt with
    | func z =>
      obtain ⟨x1, x2, x3, x4, x5, x6, x7, x8, x9, x10, x11, x12, x13, x14, x15⟩ := z
      have e' : (some (x1, x2, x3, x4, x5, x6, x7, x15) : He.FnW) = d.due := e
      simp only [DefX.due, Option.some.injEq, Prod.mk.injEq] at e'
      obtain ⟨r1, r2, r3, r4, r5, r6, r7, r8⟩ := e'
      subst r1 r2 r3 r4 r5 r6 r7 r8
      obtain ⟨k1, k2⟩ := He.ba (show (PySem.W.codeIn K x13 d.qual && (He.dflB K x8 (d.dvs K) && He.kwdB K x9 [])) = true from c2)
      obtain ⟨k3, k4⟩ := He.ba k2
      refine ⟨_, ⟨oc, od, x8, x9, x10, x11, x12, x13, x14, sl, rfl, q, k1, He.dflB_ok k3, He.kwdB_ok k4⟩, kp⟩
    | _ => cases c2
/-! ### facts -/
inductive Fak where
  | glo (x : Str) | free (x : Str) | int (x : Str) (i : Int) | str (x z : Str) | cls (x : Str) | noat (c f : Str) | meth (c m : Str) | mkr (c : Str) | prop (c m : Str) | cmet (c m : Str) | crd (c : Str)
def tyT (K : PySem.W.Frag) (C : Addr) (b : Bool) (n : String) : Bool := decide (PySem.W.mroIn K C (.type n) = some b)
def clsB (K : PySem.W.Frag) (C : Addr) : Bool :=
  PySem.W.plainGet K C Str.empty && (PySem.W.hasDictIn K C && (PySem.W.plainOver K C && (He.eqO (PySem.W.findIn K (.ref C) "__setattr__") (some (some (.builtin "object.__setattr__"))) &&
  (He.eqO (PySem.W.findIn K (.ref C) "__class__") (some (some (.builtin "object.__class__"))) && (He.eqO (PySem.W.specialIn K (.builtin "object.__class__") "__get__") (some (some (.builtin "getset_descriptor.__get__"))) &&
  (decide (PySem.W.takesIn K (.builtin "object.__class__") = some true) && (tyT K C true "object" && (PySem.W.isClsIn K C && (decide (PySem.W.typeIn K (.ref C) = some (.type "type")) && (PySem.W.selfFirst K C &&
  (He.eqO (PySem.W.findIn K (.ref C) "__ne__") (some (some (.builtin "object.__ne__"))) && kinds.all fun n => tyT K C false n)))))))))))
theorem clsB_ok {K : PySem.W.Frag} {C : Addr} (h : clsB K C = true) : ClsK K C := by
  obtain ⟨c1, h⟩ := He.ba h
  obtain ⟨c2, h⟩ := He.ba h
  obtain ⟨c3, h⟩ := He.ba h
  obtain ⟨c4, h⟩ := He.ba h
  obtain ⟨c5, h⟩ := He.ba h
  obtain ⟨c6, h⟩ := He.ba h
  obtain ⟨c7, h⟩ := He.ba h
  obtain ⟨c8, h⟩ := He.ba h
  obtain ⟨c9, h⟩ := He.ba h
  obtain ⟨c10, h⟩ := He.ba h
  obtain ⟨c11, h⟩ := He.ba h
  obtain ⟨c12, h⟩ := He.ba h
  have u : ∀ n ∈ kinds, PySem.W.mroIn K C (.type n) = some false := fun n hn => of_decide_eq_true (List.all_eq_true.mp h n hn)
  exact ⟨c1, c2, c3, He.eqO_ok c4, He.eqO_ok c5, He.eqO_ok c6, of_decide_eq_true c7, of_decide_eq_true c8, c9, of_decide_eq_true c10, c11, He.eqO_ok c12,
    u _ (by decide), u _ (by decide), u _ (by decide), u _ (by decide), u _ (by decide), u _ (by decide), u _ (by decide)⟩
def cgB (K : PySem.W.Frag) (c m : Str) : Bool := match PySem.W.findCls K (.ref (He.ga K c)) (.type "type") m with
  | some (.get (.builtin b) (.ref p) .none (.ref C)) => decide (b = "classmethod.__get__") && (decide (p = rcA K c m) && decide (C = He.ga K c))
  | _ => false
def rcB (K : PySem.W.Frag) (T : String) (c m : Str) : Bool := match PySem.W.recIn K (rcA K c m) T with
  | some (.ref _ :: _) => true
  | _ => false
theorem rcB_ok {K : PySem.W.Frag} {T : String} {c m : Str} (h : rcB K T c m = true) : ∃ rest, PySem.W.recIn K (rcA K c m) T = some (.ref (rcG K T (rcA K c m)) :: rest) := by
  unfold rcB at h
  split at h
  · rename_i q rest e
    exact ⟨rest, by unfold rcG; rw [e]⟩
  · cases h
def Fak.ok (K : PySem.W.Frag) : Fak → Bool
  | .glo x => (He.Fa.glo x).ok K
  | .free x => (He.Fa.free x).ok K
  | .int x i => (He.Fa.int x i).ok K
  | .str x z => (He.Fa.str x z).ok K
  | .cls x => clsB K (He.ga K x)
  | .noat c f => (He.Fa.noat c f).ok K
  | .meth c m => (He.Fa.meth c m).ok K
  | .mkr c => (He.Fa.mkr c).ok K
  | .prop c m => He.eqO (PySem.W.findIn K (.ref (He.ga K c)) m) (some (some (.ref (rcA K c m)))) && (He.eqO (PySem.W.specialIn K (.ref (rcA K c m)) "__get__") (some (some (.builtin "property.__get__"))) &&
      (decide (PySem.W.takesIn K (.ref (rcA K c m)) = some true) && rcB K "property" c m))
  | .cmet c m => cgB K c m && (rcB K "classmethod" c m && PySem.W.fnIn K (rcG K "classmethod" (rcA K c m)))
  | .crd c => PySem.W.readsIn K (He.ga K c) (.type "type") && He.eqO (PySem.W.specialIn K (.ref (He.ga K c)) "__getattribute__") (some (some (.builtin "type.__getattribute__")))
section
variable {K : PySem.W.Frag} {h : Heap} {mg : Str → Option Value}
theorem prop_ok {c m : Str} (z : (Fak.prop c m).ok K = true) : PropOf K (He.ga K c) m (rcA K c m) (At.ad K (.pr c m)) := by
  obtain ⟨c1, z⟩ := He.ba z
  obtain ⟨c2, z⟩ := He.ba z
  obtain ⟨c3, z⟩ := He.ba z
  exact ⟨He.eqO_ok c1, He.eqO_ok c2, of_decide_eq_true c3, rcB_ok z⟩
theorem cmet_ok {c m : Str} (z : (Fak.cmet c m).ok K = true) : ClX.CMet K (He.ga K c) (.type "type") m (rcA K c m) (At.ad K (.cm c m)) := by
  obtain ⟨c1, z⟩ := He.ba z
  obtain ⟨c2, c3⟩ := He.ba z
  refine ⟨?_, rcB_ok c2, c3⟩
  unfold cgB at c1
  split at c1
  · rename_i b p C e
    obtain ⟨d1, d2⟩ := He.ba c1
    obtain ⟨d2, d3⟩ := He.ba d2
    rw [e, of_decide_eq_true d1, of_decide_eq_true d2, of_decide_eq_true d3]
  · cases c1
theorem crd_ok {c : Str} (z : (Fak.crd c).ok K = true) : ClX.CRead K (He.ga K c) (.type "type") := by
  obtain ⟨c1, c2⟩ := He.ba z
  exact ⟨c1, He.eqO_ok c2⟩
end
/-! ### the look -/
def reachX (g : Addr → Option Obj) (n : Nat) : List Addr := PySem.cStatics :: He.asD g n
def obsX (fx : List Fak) (fn : List DefX) (K : PySem.W.Frag) : He.AlD := ((fx.all fun f => f.ok K) && fn.all fun d => d.ok K, fn.map fun d => wh K (d.at_.ad K))
def lookX (n : Nat) (fx : List Fak) (fn : List DefX) (g : Addr → Option Obj) : He.AlD := obsX fx fn (He.frG g (reachX g n))
def SayX (fx : List Fak) (fn : List DefX) (K : PySem.W.Frag) : Prop := obsX fx fn K = (true, fn.map DefX.due)
def hkX (n : Nat) (fx : List Fak) (fn : List DefX) : PySem.W.Hook where
  α := He.AlD
  obs := fun s => lookX n fx fn s.heap.get?
  val := fun _ => (true, fn.map DefX.due)
  says := fun _ h => ∃ K : PySem.W.Frag, K.In h ∧ SayX fx fn K
  of := fun _ _ e => ⟨_, He.frG_in, e⟩
  keeps := fun _ _ _ z k => z.elim fun K z => ⟨K, PySem.W.Frag.In.keeps z.1 k, z.2⟩
theorem lookX_eq {n : Nat} {fx : List Fak} {fn : List DefX} {s : PySem.W.SharedT} : lookX n fx fn (HandSHeadRun.getT s) = (hkX n fx fn).obs s.abs := by
  have e : HandSHeadRun.getT s = s.abs.heap.get? := funext fun a => HandSHeadRun.getT_eq s a
  rw [e]; rfl
theorem SayX.fact {fx : List Fak} {fn : List DefX} {K : PySem.W.Frag} (c : SayX fx fn K) (i : Nat) {f : Fak} (h : fx[i]? = some f) : f.ok K = true :=
  List.all_eq_true.mp (He.ba (congrArg Prod.fst c)).1 f (List.mem_of_getElem? h)
theorem SayX.fun_ {fx : List Fak} {fn : List DefX} {K : PySem.W.Frag} (c : SayX fx fn K) (i : Nat) : ∃ fd : FuncData, ∀ d : DefX, fn[i]? = some d → FunD K d.name d.qual (defArgs d.st) (defBody d.st) (defScope d.st) (d.dvs K) [] (d.at_.ad K) fd := by
  cases h : fn[i]? with
  | none => exact ⟨default, fun d e => by cases e⟩
  | some d0 =>
    have c2 := List.all_eq_true.mp (He.ba (congrArg Prod.fst c)).2 d0 (List.mem_of_getElem? h)
    have e : (fn.map fun d => wh K (d.at_.ad K))[i]? = (fn.map DefX.due)[i]? := congrArg (fun z : He.AlD => z.2[i]?) c
    rw [List.getElem?_map, List.getElem?_map, h] at e
    obtain ⟨fd, F⟩ := DefX.funD (Option.some.inj e) c2
    exact ⟨fd, fun d q => by cases q; exact F⟩
/-- the end: from the look behind the top -/
theorem walk_X {l : PySem.W.OpenLaw} {n k m : Nat} {q : Program} {loose : List Str} {XP : (Str → Option Value) → Heap → Prop} {d : DefRec} {x : Str} {sem : Fn} {fx : List Fak} {fn : List DefX}
    (hn : l.most = some n) (hn2 : n ≤ sizeLine) (hdf : d.params.defaults = []) (hr : Room k callerA)
    (F : ∀ (w : World) (mg : Str → Option Value) (fa : Addr) (h : Heap) (K : PySem.W.Frag), K.In h → SayX fx fn K → h.Ns mainGlobals mg → mg d.name = some (.ref fa) →
      ∃ (fd : FuncData) (g : G), g.K = K ∧ (∀ (s : Shared) (u : Value), BindsTo s fd ⟨[u], []⟩ [(x, u)]) ∧
        ∀ base : Heap, K.In base → base.Ns mainGlobals mg → FnD l.prog w K mg base true k fa fd [x] (spD g false 1 sem))
    (hsem : ∀ ns : List Int, ns.length ≤ n → ∃ o, sem [.con (ns.map D.int)] = some (.bl true, o)) :
    PySem.W.WalkO q loose XP (hkX m fx fn).says l.row.toRowW d [] (fun f vs => PySem.call f vs) := by
  refine Att.attach_call hn hdf fun w s₀ s₁ mg mb fa o pm cd doc a vs ns Gr Y ho hd hcd hmg hobj hints hlen hg => ?_
  obtain ⟨K, KX, say⟩ := Y
  obtain ⟨fd, g, hK, hb, hF⟩ := F w mg fa _ K KX say Gr.T.g hmg
  obtain ⟨o', e⟩ := hsem ns hlen
  refine head_call KX Gr.T.g Gr.T.b Gr.T.builtins Gr.T.nolimit hg hobj hints (Nat.le_trans hlen hn2) hr hF hb fun H only sq => ?_
  refine ⟨rfl, H, [.con (ns.map D.int)], [], .bl true, o', Same.refl _, Reps.one (.con (hK ▸ sq) (reps_ints ns)), List.nodup_nil, fun b hb => (by cases hb), e, fun I' H' v f1 f2 _ _ r _ _ _ _ _ _ _ => r.bl_i.1⟩
end DV

set_option maxRecDepth 100000
set_option linter.all false
/-! printed by gen.py: what the defs do on deep values -/
namespace K11D
open PySem L2 DV
/-- is_integer(value); names: 0=value -/
def d_is_integer : DenS := (sSeq (sRet (dAnd (dBlt isiB (dCons (dVar 0) (dCons (dCst (.ty "int")) dNil))) (dNot (dBlt isiB (dCons (dVar 0) (dCons (dCst (.ty "bool")) dNil))))))
  sEnd)
def f_is_integer : DV.Fn := semOf 1 false d_is_integer
/-- told_pair(value); names: 0=value -/
def d_told_pair : DenS := (sSeq (sIf (tOf (dBlt isiB (dCons (dVar 0) (dCons (dCst (.cls 3)) dNil)))) (sSeq (sRet (dTup (dCons (dFldV 0 3 0) (dCons (dFldV 0 3 1) dNil))))
  sEnd) sEnd)
  (sSeq (sIf (tNotD (tOf (dCallP f_is_integer (dCons (dVar 0) dNil)))) (sSeq sNo
  sEnd) sEnd)
  (sSeq (sRet (dTup (dCons (dVar 0) (dCons (dCst (.int 1)) dNil))))
  sEnd)))
def f_told_pair : DV.Fn := semOf 1 false d_told_pair
/-- common_part(one, other); names: 0=one 1=other -/
def d_common_part : DenS := (sSeq (sPar 0 1 (dCons (dBlt absB (dCons (dVar 0) dNil)) (dCons (dBlt absB (dCons (dVar 1) dNil)) dNil)))
  (sSeq (sWhile (tOf (dBin (cmpB fun i j => decide (j < i)) (dVar 1) (dCst (.int 0)))) (sSeq (sPar 0 1 (dCons (dVar 1) (dCons (dBin modB (dBlt intB (dCons (dVar 0) dNil)) (dVar 1)) dNil)))
  sEnd))
  (sSeq (sRet (dVar 0))
  sEnd)))
def f_common_part : DV.Fn := semOf 2 false d_common_part
/-- Ratio.__init__(self, top, bottom); names: 0=self 1=top 2=bottom 3=common -/
def d_Ratio___init : DenS := (sSeq (sIf (tNotD (tOf (dCallP f_is_integer (dCons (dVar 1) dNil)))) (sSeq sNo
  sEnd) sEnd)
  (sSeq (sIf (tOrD (tNotD (tOf (dCallP f_is_integer (dCons (dVar 2) dNil)))) (tOf (dBin (eqB false) (dVar 2) (dCst (.int 0))))) (sSeq sNo
  sEnd) sEnd)
  (sSeq (sAsg 3 (dCallP f_common_part (dCons (dVar 1) (dCons (dVar 2) dNil))))
  (sSeq (sIf (tOf (dBin ltB (dVar 2) (dCst (.int 0)))) (sSeq (sAsg 3 (dBin subB (dCst (.int 0)) (dVar 3)))
  sEnd) sEnd)
  (sSeq (sFst 0 3 0 (dBin divB (dVar 1) (dVar 3)))
  (sSeq (sFst 0 3 1 (dBin divB (dVar 2) (dVar 3)))
  sEnd))))))
def f_Ratio___init : DV.Fn := semOf 4 true d_Ratio___init
/-- Ratio.__add__(self, other); names: 0=self 1=other 2=top 3=bottom -/
def d_Ratio___add : DenS := (sSeq (sAsgG (dCallP f_told_pair (dCons (dVar 1) dNil)) (gTup [(gNm 2), (gNm 3)]))
  (sSeq (sRet (dMake 3 [] f_Ratio___init (dCons (dBin addB (dBin mulB (dFldV 0 3 0) (dVar 3)) (dBin mulB (dVar 2) (dFldV 0 3 1))) (dCons (dBin mulB (dFldV 0 3 1) (dVar 3)) dNil))))
  sEnd))
def f_Ratio___add : DV.Fn := semOf 4 false d_Ratio___add
/-- Ratio.__radd__(self, other); names: 0=self 1=other 2=top 3=bottom -/
def d_Ratio___radd : DenS := (sSeq (sAsgG (dCallP f_told_pair (dCons (dVar 1) dNil)) (gTup [(gNm 2), (gNm 3)]))
  (sSeq (sRet (dMake 3 [] f_Ratio___init (dCons (dBin addB (dBin mulB (dFldV 0 3 0) (dVar 3)) (dBin mulB (dVar 2) (dFldV 0 3 1))) (dCons (dBin mulB (dFldV 0 3 1) (dVar 3)) dNil))))
  sEnd))
def f_Ratio___radd : DV.Fn := semOf 4 false d_Ratio___radd
def oAdd := ownO 3 f_Ratio___add f_Ratio___radd addB
/-- Ratio.__mul__(self, other); names: 0=self 1=other 2=top 3=bottom -/
def d_Ratio___mul : DenS := (sSeq (sAsgG (dCallP f_told_pair (dCons (dVar 1) dNil)) (gTup [(gNm 2), (gNm 3)]))
  (sSeq (sRet (dMake 3 [] f_Ratio___init (dCons (dBin mulB (dFldV 0 3 0) (dVar 2)) (dCons (dBin mulB (dFldV 0 3 1) (dVar 3)) dNil))))
  sEnd))
def f_Ratio___mul : DV.Fn := semOf 4 false d_Ratio___mul
/-- Ratio.__rmul__(self, other); names: 0=self 1=other 2=top 3=bottom -/
def d_Ratio___rmul : DenS := (sSeq (sAsgG (dCallP f_told_pair (dCons (dVar 1) dNil)) (gTup [(gNm 2), (gNm 3)]))
  (sSeq (sRet (dMake 3 [] f_Ratio___init (dCons (dBin mulB (dFldV 0 3 0) (dVar 2)) (dCons (dBin mulB (dFldV 0 3 1) (dVar 3)) dNil))))
  sEnd))
def f_Ratio___rmul : DV.Fn := semOf 4 false d_Ratio___rmul
def oMult := ownO 3 f_Ratio___mul f_Ratio___rmul mulB
/-- _law_draw(_law_pot_here, _law_size); names: 0=_law_pot_here 1=_law_size 2=_law_digit -/
def d_law_draw : DenS := (sSeq (sIf (tOf (dBin (cmpB fun i j => decide (j < i)) (dItem 0 (dCst (.int 0))) (dCst (.int 0)))) (sSeq (sAsgG (dBlt divmodB (dCons (dItem 0 (dCst (.int 0))) (dCons (dVar 1) dNil))) (gTup [(gItem 0 (dCst (.int 0))), (gNm 2)]))
  (sSeq (sRet (dVar 2))
  sEnd)) sEnd)
  (sSeq (sAsgG (dBin modB (dBlt intB (dCons (dBin oAdd (dBin oMult (dItem 0 (dCst (.int 1))) (dCst (.int 48271))) (dCst (.int 11490))) dNil)) (dCst (.int 2147483587))) (gItem 0 (dCst (.int 1))))
  (sSeq (sRet (dBin modB (dBlt intB (dCons (dBin divB (dBin modB (dBlt intB (dCons (dBin oMult (dItem 0 (dCst (.int 1))) (dItem 0 (dCst (.int 1)))) dNil)) (dCst (.int 2147483549))) (dCst (.int 11))) dNil)) (dVar 1)))
  sEnd)))
def f_law_draw : DV.Fn := semOf 3 true d_law_draw
/-- _law_pick(_law_pot_here, _law_some); names: 0=_law_pot_here 1=_law_some -/
def d_law_pick : DenS := (sSeq (sRet (dItem 1 (dCallR f_law_draw 0 (dCons (dBlt lenB (dCons (dVar 1) dNil)) dNil))))
  sEnd)
def f_law_pick : DV.Fn := semOf 2 true d_law_pick
/-- Ratio.__sub__(self, other); names: 0=self 1=other 2=top 3=bottom -/
def d_Ratio___sub : DenS := (sSeq (sAsgG (dCallP f_told_pair (dCons (dVar 1) dNil)) (gTup [(gNm 2), (gNm 3)]))
  (sSeq (sRet (dMake 3 [] f_Ratio___init (dCons (dBin subB (dBin mulB (dFldV 0 3 0) (dVar 3)) (dBin mulB (dVar 2) (dFldV 0 3 1))) (dCons (dBin mulB (dFldV 0 3 1) (dVar 3)) dNil))))
  sEnd))
def f_Ratio___sub : DV.Fn := semOf 4 false d_Ratio___sub
/-- Ratio.__rsub__(self, other); names: 0=self 1=other 2=top 3=bottom -/
def d_Ratio___rsub : DenS := (sSeq (sAsgG (dCallP f_told_pair (dCons (dVar 1) dNil)) (gTup [(gNm 2), (gNm 3)]))
  (sSeq (sRet (dMake 3 [] f_Ratio___init (dCons (dBin subB (dBin mulB (dVar 2) (dFldV 0 3 1)) (dBin mulB (dFldV 0 3 0) (dVar 3))) (dCons (dBin mulB (dFldV 0 3 1) (dVar 3)) dNil))))
  sEnd))
def f_Ratio___rsub : DV.Fn := semOf 4 false d_Ratio___rsub
def oSub := ownO 3 f_Ratio___sub f_Ratio___rsub subB
/-- Ratio.__eq__(self, other); names: 0=self 1=other -/
def d_Ratio___eq : DenS := (sSeq (sIf (tNotD (tOf (dBlt isiB (dCons (dVar 1) (dCons (dCst (.cls 3)) dNil))))) (sSeq (sRet (dCst (.bl false)))
  sEnd) sEnd)
  (sSeq (sRet (dAnd (dBin (eqB false) (dFldV 0 3 0) (dFldV 1 3 0)) (dBin (eqB false) (dFldV 0 3 1) (dFldV 1 3 1))))
  sEnd))
def f_Ratio___eq : DV.Fn := semOf 2 false d_Ratio___eq
def oEq := ownQ 3 f_Ratio___eq (eqB false)
def oNotEq := ownN 3 f_Ratio___eq (eqB true)
/-- _law_raw(_law_pot_here); names: 0=_law_pot_here 1=_law_top 2=_law_bottom 3=_law_common 4=_law_sign -/
def d_law_raw : DenS := (sSeq (sAsg 1 (dBin oSub (dCallR f_law_draw 0 (dCons (dCst (.int 25)) dNil)) (dCst (.int 12))))
  (sSeq (sAsg 2 (dBin oAdd (dCst (.int 1)) (dCallR f_law_draw 0 (dCons (dCst (.int 12)) dNil))))
  (sSeq (sIf (tOf (dBin oEq (dCallR f_law_draw 0 (dCons (dCst (.int 3)) dNil)) (dCst (.int 0)))) (sSeq (sAsg 1 (dBin oAdd (dBin oMult (dVar 1) (dBin powB (dCst (.int 10007)) (dCst (.int 6)))) (dCallR f_law_draw 0 (dCons (dCst (.int 9)) dNil))))
  (sSeq (sAsg 2 (dBin oAdd (dBin oAdd (dBin oMult (dVar 2) (dBin powB (dCst (.int 10)) (dCst (.int 20)))) (dCallR f_law_draw 0 (dCons (dCst (.int 9)) dNil))) (dCst (.int 1))))
  sEnd)) sEnd)
  (sSeq (sAsg 3 (dCallR f_law_pick 0 (dCons (dLst (dCons (dCst (.int 1)) (dCons (dCst (.int 6)) (dCons (dCst (.int 35)) (dCons (dBin powB (dCst (.int 10)) (dCst (.int 9))) dNil))))) dNil)))
  (sSeq (sAsg 4 (dCallR f_law_pick 0 (dCons (dLst (dCons (dCst (.int 1)) (dCons (dUn negB (dCst (.int 1))) dNil))) dNil)))
  (sSeq (sRet (dTup (dCons (dBin oMult (dBin oMult (dVar 1) (dVar 3)) (dVar 4)) (dCons (dBin oMult (dBin oMult (dVar 2) (dVar 3)) (dVar 4)) dNil))))
  sEnd))))))
def f_law_raw : DV.Fn := semOf 5 true d_law_raw
/-- _law_low(_law_top, _law_bottom); names: 0=_law_top 1=_law_bottom 2=_law_one 3=_law_other -/
def d_law_low : DenS := (sSeq (sPar 2 3 (dCons (dBlt absB (dCons (dVar 0) dNil)) (dCons (dBlt absB (dCons (dVar 1) dNil)) dNil)))
  (sSeq (sWhile (tOf (dBin (cmpB fun i j => decide (j < i)) (dVar 3) (dCst (.int 0)))) (sSeq (sPar 2 3 (dCons (dVar 3) (dCons (dBin modB (dBlt intB (dCons (dVar 2) dNil)) (dVar 3)) dNil)))
  sEnd))
  (sSeq (sAsg 2 (dIf (tOf (dBin (cmpB fun i j => decide (j < i)) (dVar 1) (dCst (.int 0)))) (dVar 2) (dBin oSub (dCst (.int 0)) (dVar 2))))
  (sSeq (sRet (dTup (dCons (dBin divB (dVar 0) (dVar 2)) (dCons (dBin divB (dVar 1) (dVar 2)) dNil))))
  sEnd))))
def f_law_low : DV.Fn := semOf 4 false d_law_low
/-- Ratio.bottom(self); names: 0=self -/
def d_Ratio_bottom : DenS := (sSeq (sRet (dFldV 0 3 1))
  sEnd)
def f_Ratio_bottom : DV.Fn := semOf 1 false d_Ratio_bottom
/-- Ratio.top(self); names: 0=self -/
def d_Ratio_top : DenS := (sSeq (sRet (dFldV 0 3 0))
  sEnd)
def f_Ratio_top : DV.Fn := semOf 1 false d_Ratio_top
/-- _law_pair(_law_value); names: 0=_law_value -/
def d_law_pair : DenS := (sSeq (sRet (dIf (tOf (dBlt isiB (dCons (dVar 0) (dCons (dCst (.cls 3)) dNil)))) (dTup (dCons (dProp 3 f_Ratio_top (dVar 0)) (dCons (dProp 3 f_Ratio_bottom (dVar 0)) dNil))) (dCst .non)))
  sEnd)
def f_law_pair : DV.Fn := semOf 1 false d_law_pair
/-- digits_of(number); names: 0=number 1=left 2=told 3=part 4=sign -/
def d_digits_of : DenS := (sSeq (sPar 1 2 (dCons (dIf (tOf (dBin (cmpB fun i j => decide (j ≤ i)) (dVar 0) (dCst (.int 0)))) (dVar 0) (dBin subB (dCst (.int 0)) (dVar 0))) (dCons (dCst (.str "")) dNil)))
  (sSeq (sWhile (tOf (dBin (cmpB fun i j => decide (j ≤ i)) (dVar 1) (dCst (.int 1000000000000000000000000000000000000000000000000000000000000)))) (sSeq (sAsg 3 (dBin addB (dBin modB (dBlt intB (dCons (dVar 1) dNil)) (dCst (.int 1000000000000000000000000000000000000000000000000000000000000))) (dCst (.int 1000000000000000000000000000000000000000000000000000000000000))))
  (sSeq (sAsg 2 (dJoin [(dUn fmtB (dSlc (dBlt strB (dCons (dVar 3) dNil)) (pSome (dCst (.int 1))) pNo)), (dUn fmtB (dVar 2))]))
  (sSeq (sAsg 1 (dBin divB (dVar 1) (dCst (.int 1000000000000000000000000000000000000000000000000000000000000))))
  sEnd))))
  (sSeq (sAsg 4 (dIf (tOf (dBin ltB (dVar 0) (dCst (.int 0)))) (dCst (.str "-")) (dCst (.str ""))))
  (sSeq (sRet (dJoin [(dUn fmtB (dVar 4)), (dUn fmtB (dVar 1)), (dUn fmtB (dVar 2))]))
  sEnd))))
def f_digits_of : DV.Fn := semOf 5 false d_digits_of
/-- Ratio.__str__(self); names: 0=self -/
def d_Ratio___str : DenS := (sSeq (sIf (tOf (dBin (eqB false) (dFldV 0 3 1) (dCst (.int 1)))) (sSeq (sRet (dUn fmtB (dCallP f_digits_of (dCons (dFldV 0 3 0) dNil))))
  sEnd) sEnd)
  (sSeq (sRet (dJoin [(dUn fmtB (dCallP f_digits_of (dCons (dFldV 0 3 0) dNil))), (dCst (.str "/")), (dUn fmtB (dCallP f_digits_of (dCons (dFldV 0 3 1) dNil)))]))
  sEnd))
def f_Ratio___str : DV.Fn := semOf 1 false d_Ratio___str
def ostr := ownS 3 f_Ratio___str strB
/-- _law_shown(_law_pair_here); names: 0=_law_pair_here -/
def d_law_shown : DenS := (sSeq (sRet (dIf (tOf (dBin oEq (dItem 0 (dCst (.int 1))) (dCst (.int 1)))) (dBlt ostr (dCons (dItem 0 (dCst (.int 0))) dNil)) (dBin oAdd (dBin oAdd (dBlt ostr (dCons (dItem 0 (dCst (.int 0))) dNil)) (dCst (.str "/"))) (dBlt ostr (dCons (dItem 0 (dCst (.int 1))) dNil)))))
  sEnd)
def f_law_shown : DV.Fn := semOf 1 false d_law_shown
/-- Ratio.is_whole(self); names: 0=self -/
def d_Ratio_is_whole : DenS := (sSeq (sRet (dBin oEq (dFldV 0 3 1) (dCst (.int 1))))
  sEnd)
def f_Ratio_is_whole : DV.Fn := semOf 1 false d_Ratio_is_whole
/-- Ratio.sign(self); names: 0=self -/
def d_Ratio_sign : DenS := (sSeq (sRet (dBin oSub (dBlt intB (dCons (dBin (cmpB fun i j => decide (j < i)) (dFldV 0 3 0) (dCst (.int 0))) dNil)) (dBlt intB (dCons (dBin ltB (dFldV 0 3 0) (dCst (.int 0))) dNil))))
  sEnd)
def f_Ratio_sign : DV.Fn := semOf 1 false d_Ratio_sign
/-- Ratio.size(self); names: 0=self -/
def d_Ratio_size : DenS := (sSeq (sRet (dMake 3 [] f_Ratio___init (dCons (dBlt absB (dCons (dFldV 0 3 0) dNil)) (dCons (dFldV 0 3 1) dNil))))
  sEnd)
def f_Ratio_size : DV.Fn := semOf 1 false d_Ratio_size
/-- is_count(value); names: 0=value -/
def d_is_count : DenS := (sSeq (sRet (dAnd (dCallP f_is_integer (dCons (dVar 0) dNil)) (dBin (cmpB fun i j => decide (j ≤ i)) (dVar 0) (dCst (.int 0)))))
  sEnd)
def f_is_count : DV.Fn := semOf 1 false d_is_count
/-- is_number(value); names: 0=value -/
def d_is_number : DenS := (sSeq (sRet (dOr (dCallP f_is_integer (dCons (dVar 0) dNil)) (dBlt isiB (dCons (dVar 0) (dCons (dCst (.cls 3)) dNil)))))
  sEnd)
def f_is_number : DV.Fn := semOf 1 false d_is_number
/-- ratio_of(number); names: 0=number -/
def d_ratio_of : DenS := (sSeq (sRet (dIf (tOf (dBlt isiB (dCons (dVar 0) (dCons (dCst (.cls 3)) dNil)))) (dVar 0) (dMake 3 [.int 1] f_Ratio___init (dCons (dVar 0) dNil))))
  sEnd)
def f_ratio_of : DV.Fn := semOf 1 false d_ratio_of
/-- Ratio.is_at_most(self, other); names: 0=self 1=other 2=top 3=bottom -/
def d_Ratio_is_at_most : DenS := (sSeq (sAsgG (dCallP f_told_pair (dCons (dVar 1) dNil)) (gTup [(gNm 2), (gNm 3)]))
  (sSeq (sRet (dBin (cmpB fun i j => decide (i ≤ j)) (dBin oMult (dFldV 0 3 0) (dVar 3)) (dBin oMult (dVar 2) (dFldV 0 3 1))))
  sEnd))
def f_Ratio_is_at_most : DV.Fn := semOf 4 false d_Ratio_is_at_most
/-- is_share(value); names: 0=value 1=share -/
def d_is_share : DenS := (sSeq (sIf (tNotD (tOf (dCallP f_is_number (dCons (dVar 0) dNil)))) (sSeq (sRet (dCst (.bl false)))
  sEnd) sEnd)
  (sSeq (sAsg 1 (dCallP f_ratio_of (dCons (dVar 0) dNil)))
  (sSeq (sRet (dAnd (dBin (cmpB fun i j => decide (j ≤ i)) (dProp 3 f_Ratio_sign (dVar 1)) (dCst (.int 0))) (dMeth 3 f_Ratio_is_at_most (dVar 1) (dCons (dCst (.int 1)) dNil))))
  sEnd)))
def f_is_share : DV.Fn := semOf 2 false d_is_share
/-- Ratio.__repr__(self); names: 0=self -/
def d_Ratio___repr : DenS := (sSeq (sRet (dJoin [(dCst (.str "Ratio(")), (dUn fmtB (dCallP f_digits_of (dCons (dFldV 0 3 0) dNil))), (dCst (.str ", ")), (dUn fmtB (dCallP f_digits_of (dCons (dFldV 0 3 1) dNil))), (dCst (.str ")"))]))
  sEnd)
def f_Ratio___repr : DV.Fn := semOf 1 false d_Ratio___repr
def orepr := ownS 3 f_Ratio___repr reprB
/-- Ratio.__neg__(self); names: 0=self -/
def d_Ratio___neg : DenS := (sSeq (sRet (dMake 3 [] f_Ratio___init (dCons (dBin subB (dCst (.int 0)) (dFldV 0 3 0)) (dCons (dFldV 0 3 1) dNil))))
  sEnd)
def f_Ratio___neg : DV.Fn := semOf 1 false d_Ratio___neg
def oNeg := ownU 3 f_Ratio___neg negB
/-- _law_one_right(_law_raw_here); names: 0=_law_raw_here 1=_law_made 2=_law_pair_here 3=_law_sign 4=_law_told -/
def d_law_one_right : DenS := (sSeq (sPar 1 2 (dCons (dMake 3 [] f_Ratio___init (dCons (dItem 0 (dCst (.int 0))) (dCons (dItem 0 (dCst (.int 1))) dNil))) (dCons (dCallP f_law_low (dCons (dItem 0 (dCst (.int 0))) (dCons (dItem 0 (dCst (.int 1))) dNil))) dNil)))
  (sSeq (sIf (tOrD (tOf (dBin oNotEq (dCallP f_law_pair (dCons (dVar 1) dNil)) (dVar 2))) (tOf (dBin oNotEq (dBlt ostr (dCons (dVar 1) dNil)) (dCallP f_law_shown (dCons (dVar 2) dNil))))) (sSeq (sRet (dCst (.bl false)))
  sEnd) sEnd)
  (sSeq (sIf (tOf (dBin oNotEq (dBlt orepr (dCons (dVar 1) dNil)) (dBin oAdd (dBin oAdd (dBin oAdd (dBin oAdd (dCst (.str "Ratio(")) (dBlt ostr (dCons (dItem 2 (dCst (.int 0))) dNil))) (dCst (.str ", "))) (dBlt ostr (dCons (dItem 2 (dCst (.int 1))) dNil))) (dCst (.str ")"))))) (sSeq (sRet (dCst (.bl false)))
  sEnd) sEnd)
  (sSeq (sAsg 3 (dIf (tOf (dBin oEq (dItem 2 (dCst (.int 0))) (dCst (.int 0)))) (dCst (.int 0)) (dIf (tOf (dBin (cmpB fun i j => decide (j < i)) (dItem 2 (dCst (.int 0))) (dCst (.int 0)))) (dCst (.int 1)) (dUn negB (dCst (.int 1))))))
  (sSeq (sIf (tOf (dBin oNotEq (dBlt orepr (dCons (dLst (dCons (dProp 3 f_Ratio_sign (dVar 1)) (dCons (dProp 3 f_Ratio_is_whole (dVar 1)) dNil))) dNil)) (dBlt orepr (dCons (dLst (dCons (dVar 3) (dCons (dBin oEq (dItem 2 (dCst (.int 1))) (dCst (.int 1))) dNil))) dNil)))) (sSeq (sRet (dCst (.bl false)))
  sEnd) sEnd)
  (sSeq (sIf (tOf (dBin oNotEq (dCallP f_law_pair (dCons (dMeth 3 f_Ratio_size (dVar 1) dNil) dNil)) (dTup (dCons (dBlt absB (dCons (dItem 2 (dCst (.int 0))) dNil)) (dCons (dItem 2 (dCst (.int 1))) dNil))))) (sSeq (sRet (dCst (.bl false)))
  sEnd) sEnd)
  (sSeq (sIf (tOrD (tOf (dBin oNotEq (dCallP f_law_pair (dCons (dBin oSub (dCst (.int 0)) (dVar 1)) dNil)) (dTup (dCons (dBin oSub (dCst (.int 0)) (dItem 2 (dCst (.int 0)))) (dCons (dItem 2 (dCst (.int 1))) dNil))))) (tOf (dBin oNotEq (dCallP f_law_pair (dCons (dUn oNeg (dVar 1)) dNil)) (dTup (dCons (dBin oSub (dCst (.int 0)) (dItem 2 (dCst (.int 0)))) (dCons (dItem 2 (dCst (.int 1))) dNil)))))) (sSeq (sRet (dCst (.bl false)))
  sEnd) sEnd)
  (sSeq (sAsg 4 (dLst (dCons (dCallP f_is_number (dCons (dVar 1) dNil)) (dCons (dCallP f_is_share (dCons (dVar 1) dNil)) (dCons (dCallP f_is_integer (dCons (dVar 1) dNil)) (dCons (dCallP f_is_count (dCons (dVar 1) dNil)) dNil))))))
  (sSeq (sIf (tOf (dBin oNotEq (dVar 4) (dLst (dCons (dCst (.bl true)) (dCons (dChain (cmpB fun i j => decide (i ≤ j)) (cmpB fun i j => decide (i ≤ j)) (dCst (.int 0)) (dItem 2 (dCst (.int 0))) (dItem 2 (dCst (.int 1)))) (dCons (dCst (.bl false)) (dCons (dCst (.bl false)) dNil))))))) (sSeq (sRet (dCst (.bl false)))
  sEnd) sEnd)
  (sSeq (sRet (dBin oEq (dCallP f_law_pair (dCons (dMake 3 [] f_Ratio___init (dCons (dItem 0 (dCst (.int 0))) (dCons (dItem 0 (dCst (.int 1))) dNil))) dNil)) (dVar 2)))
  sEnd))))))))))
def f_law_one_right : DV.Fn := semOf 5 false d_law_one_right
/-- _law_sum(_law_one, _law_other); names: 0=_law_one 1=_law_other -/
def d_law_sum : DenS := (sSeq (sRet (dCallP f_law_low (dCons (dBin oAdd (dBin oMult (dItem 0 (dCst (.int 0))) (dItem 1 (dCst (.int 1)))) (dBin oMult (dItem 1 (dCst (.int 0))) (dItem 0 (dCst (.int 1))))) (dCons (dBin oMult (dItem 0 (dCst (.int 1))) (dItem 1 (dCst (.int 1)))) dNil))))
  sEnd)
def f_law_sum : DV.Fn := semOf 2 false d_law_sum
/-- _law_by(_law_one, _law_other); names: 0=_law_one 1=_law_other -/
def d_law_by : DenS := (sSeq (sRet (dCallP f_law_low (dCons (dBin oMult (dItem 0 (dCst (.int 0))) (dItem 1 (dCst (.int 0)))) (dCons (dBin oMult (dItem 0 (dCst (.int 1))) (dItem 1 (dCst (.int 1)))) dNil))))
  sEnd)
def f_law_by : DV.Fn := semOf 2 false d_law_by
/-- _law_less(_law_one, _law_other); names: 0=_law_one 1=_law_other -/
def d_law_less : DenS := (sSeq (sRet (dCallP f_law_sum (dCons (dVar 0) (dCons (dTup (dCons (dBin oSub (dCst (.int 0)) (dItem 1 (dCst (.int 0)))) (dCons (dItem 1 (dCst (.int 1))) dNil))) dNil))))
  sEnd)
def f_law_less : DV.Fn := semOf 2 false d_law_less
/-- _law_pairs(_law_value); names: 0=_law_value 1=_law_one -/
def d_law_pairs : DenS := (sSeq (sRet (dIf (tOf (dBlt isiB (dCons (dVar 0) (dCons (dCst (.ty "list")) dNil)))) (dComp [1] (iSeq (dVar 0)) (gNm 1) tYesD (dCallP f_law_pair (dCons (dVar 1) dNil))) (dCst .non)))
  sEnd)
def f_law_pairs : DV.Fn := semOf 2 false d_law_pairs
/-- Ratio.over(self, other); names: 0=self 1=other 2=top 3=bottom -/
def d_Ratio_over : DenS := (sSeq (sAsgG (dCallP f_told_pair (dCons (dVar 1) dNil)) (gTup [(gNm 2), (gNm 3)]))
  (sSeq (sIf (tOf (dBin oEq (dVar 2) (dCst (.int 0)))) (sSeq sNo
  sEnd) sEnd)
  (sSeq (sRet (dMake 3 [] f_Ratio___init (dCons (dBin oMult (dFldV 0 3 0) (dVar 3)) (dCons (dBin oMult (dFldV 0 3 1) (dVar 2)) dNil))))
  sEnd)))
def f_Ratio_over : DV.Fn := semOf 4 false d_Ratio_over
/-- _law_over(_law_one, _law_other); names: 0=_law_one 1=_law_other -/
def d_law_over : DenS := (sSeq (sRet (dCallP f_law_low (dCons (dBin oMult (dItem 0 (dCst (.int 0))) (dItem 1 (dCst (.int 1)))) (dCons (dBin oMult (dItem 0 (dCst (.int 1))) (dItem 1 (dCst (.int 0)))) dNil))))
  sEnd)
def f_law_over : DV.Fn := semOf 2 false d_law_over
/-- Ratio.is_below(self, other); names: 0=self 1=other 2=top 3=bottom -/
def d_Ratio_is_below : DenS := (sSeq (sAsgG (dCallP f_told_pair (dCons (dVar 1) dNil)) (gTup [(gNm 2), (gNm 3)]))
  (sSeq (sRet (dBin ltB (dBin oMult (dFldV 0 3 0) (dVar 3)) (dBin oMult (dVar 2) (dFldV 0 3 1))))
  sEnd))
def f_Ratio_is_below : DV.Fn := semOf 4 false d_Ratio_is_below
/-- _law_two_right(_law_raw_here, _law_other_raw, _law_number); names: 0=_law_raw_here 1=_law_other_raw 2=_law_number 3=_law_made 4=_law_mate 5=_law_one 6=_law_two 7=_law_whole 8=_law_told 9=_law_due 10=_law_below 11=_law_above -/
def d_law_two_right : DenS := (sSeq (sPar 3 4 (dCons (dMake 3 [] f_Ratio___init (dCons (dItem 0 (dCst (.int 0))) (dCons (dItem 0 (dCst (.int 1))) dNil))) (dCons (dMake 3 [] f_Ratio___init (dCons (dItem 1 (dCst (.int 0))) (dCons (dItem 1 (dCst (.int 1))) dNil))) dNil)))
  (sSeq (sPar3 5 6 7 (dCons (dCallP f_law_low (dCons (dItem 0 (dCst (.int 0))) (dCons (dItem 0 (dCst (.int 1))) dNil))) (dCons (dCallP f_law_low (dCons (dItem 1 (dCst (.int 0))) (dCons (dItem 1 (dCst (.int 1))) dNil))) (dCons (dTup (dCons (dVar 2) (dCons (dCst (.int 1)) dNil))) dNil))))
  (sSeq (sAsg 8 (dLst (dCons (dBin oAdd (dVar 3) (dVar 4)) (dCons (dBin oSub (dVar 3) (dVar 4)) (dCons (dBin oMult (dVar 3) (dVar 4)) (dCons (dBin oAdd (dVar 3) (dVar 2)) (dCons (dBin oAdd (dVar 2) (dVar 3)) (dCons (dBin oMult (dVar 3) (dVar 2)) (dCons (dBin oMult (dVar 2) (dVar 3)) dNil)))))))))
  (sSeq (sExpr (dApp 8 (dBin oSub (dVar 2) (dVar 3))))
  (sSeq (sAsg 9 (dLst (dCons (dCallP f_law_sum (dCons (dVar 5) (dCons (dVar 6) dNil))) (dCons (dCallP f_law_less (dCons (dVar 5) (dCons (dVar 6) dNil))) (dCons (dCallP f_law_by (dCons (dVar 5) (dCons (dVar 6) dNil))) (dCons (dCallP f_law_sum (dCons (dVar 5) (dCons (dVar 7) dNil))) (dCons (dCallP f_law_sum (dCons (dVar 5) (dCons (dVar 7) dNil))) dNil)))))))
  (sSeq (sExpr (dExt 9 (dLst (dCons (dCallP f_law_by (dCons (dVar 5) (dCons (dVar 7) dNil))) (dCons (dCallP f_law_by (dCons (dVar 5) (dCons (dVar 7) dNil))) (dCons (dCallP f_law_less (dCons (dVar 7) (dCons (dVar 5) dNil))) dNil))))))
  (sSeq (sIf (tOf (dBin oNotEq (dCallP f_law_pairs (dCons (dVar 8) dNil)) (dVar 9))) (sSeq (sRet (dCst (.bl false)))
  sEnd) sEnd)
  (sSeq (sIf (tAndD (tOf (dBin oNotEq (dItem 6 (dCst (.int 0))) (dCst (.int 0)))) (tOf (dBin oNotEq (dLst (dCons (dCallP f_law_pair (dCons (dMeth 3 f_Ratio_over (dVar 3) (dCons (dVar 4) dNil)) dNil)) (dCons (dCallP f_law_pair (dCons (dMeth 3 f_Ratio_over (dVar 3) (dCons (dVar 4) dNil)) dNil)) dNil))) (dBin oMult (dLst (dCons (dCallP f_law_over (dCons (dVar 5) (dCons (dVar 6) dNil))) dNil)) (dCst (.int 2)))))) (sSeq (sRet (dCst (.bl false)))
  sEnd) sEnd)
  (sSeq (sAsg 10 (dBin ltB (dBin oMult (dItem 5 (dCst (.int 0))) (dItem 6 (dCst (.int 1)))) (dBin oMult (dItem 6 (dCst (.int 0))) (dItem 5 (dCst (.int 1))))))
  (sSeq (sAsg 8 (dLst (dCons (dMeth 3 f_Ratio_is_below (dVar 3) (dCons (dVar 4) dNil)) (dCons (dMeth 3 f_Ratio_is_below (dVar 4) (dCons (dVar 3) dNil)) (dCons (dMeth 3 f_Ratio_is_at_most (dVar 3) (dCons (dVar 4) dNil)) (dCons (dBin oEq (dVar 3) (dVar 4)) (dCons (dBin oNotEq (dVar 3) (dVar 4)) dNil)))))))
  (sSeq (sAsg 11 (dBin (cmpB fun i j => decide (j < i)) (dBin oMult (dItem 5 (dCst (.int 0))) (dItem 6 (dCst (.int 1)))) (dBin oMult (dItem 6 (dCst (.int 0))) (dItem 5 (dCst (.int 1))))))
  (sSeq (sIf (tOf (dBin oNotEq (dVar 8) (dLst (dCons (dVar 10) (dCons (dVar 11) (dCons (dNot (dVar 11)) (dCons (dBin oEq (dVar 5) (dVar 6)) (dCons (dBin oNotEq (dVar 5) (dVar 6)) dNil)))))))) (sSeq (sRet (dCst (.bl false)))
  sEnd) sEnd)
  (sSeq (sAsg 8 (dLst (dCons (dMeth 3 f_Ratio_is_below (dVar 3) (dCons (dVar 2) dNil)) (dCons (dMeth 3 f_Ratio_is_at_most (dVar 3) (dCons (dVar 2) dNil)) (dCons (dBin oEq (dVar 3) (dVar 2)) (dCons (dBin oEq (dVar 2) (dVar 3)) dNil))))))
  (sSeq (sRet (dBin oEq (dVar 8) (dLst (dCons (dBin ltB (dItem 5 (dCst (.int 0))) (dBin oMult (dVar 2) (dItem 5 (dCst (.int 1))))) (dCons (dBin (cmpB fun i j => decide (i ≤ j)) (dItem 5 (dCst (.int 0))) (dBin oMult (dVar 2) (dItem 5 (dCst (.int 1))))) (dCons (dCst (.bl false)) (dCons (dCst (.bl false)) dNil)))))))
  sEnd))))))))))))))
def f_law_two_right : DV.Fn := semOf 12 false d_law_two_right
/-- is_list(value); names: 0=value -/
def d_is_list : DenS := (sSeq (sRet (dBlt isiB (dCons (dVar 0) (dCons (dTup (dCons (dCst (.ty "list")) (dCons (dCst (.ty "tuple")) dNil))) dNil))))
  sEnd)
def f_is_list : DV.Fn := semOf 1 false d_is_list
/-- total_of(ratios); names: 0=ratios 1=found 2=ratio -/
def d_total_of : DenS := (sSeq (sAsg 1 (dMake 3 [.int 1] f_Ratio___init (dCons (dCst (.int 0)) dNil)))
  (sSeq (sFor (iSeq (dVar 0)) (gNm 2) (sSeq (sAsg 1 (dBin oAdd (dVar 1) (dVar 2)))
  sEnd))
  (sSeq (sRet (dVar 1))
  sEnd)))
def f_total_of : DV.Fn := semOf 3 false d_total_of
/-- want_number(value); names: 0=value -/
def d_want_number : DenS := (sSeq (sIf (tNotD (tOf (dCallP f_is_number (dCons (dVar 0) dNil)))) (sSeq sNo
  sEnd) sEnd)
  (sSeq (sRet (dCallP f_ratio_of (dCons (dVar 0) dNil)))
  sEnd))
def f_want_number : DV.Fn := semOf 1 false d_want_number
/-- Ratio.total(cls, numbers); names: 0=cls 1=numbers 2=number -/
def d_Ratio_total : DenS := (sSeq (sIf (tNotD (tOf (dCallP f_is_list (dCons (dVar 1) dNil)))) (sSeq sNo
  sEnd) sEnd)
  (sSeq (sRet (dCallP f_total_of (dCons (dComp [2] (iSeq (dVar 1)) (gNm 2) tYesD (dCallP f_want_number (dCons (dVar 2) dNil))) dNil)))
  sEnd))
def f_Ratio_total : DV.Fn := semOf 3 false d_Ratio_total
/-- _law_total(_law_pairs_here); names: 0=_law_pairs_here 1=_law_found 2=_law_pair_here -/
def d_law_total : DenS := (sSeq (sAsg 1 (dTup (dCons (dCst (.int 0)) (dCons (dCst (.int 1)) dNil))))
  (sSeq (sFor (iSeq (dVar 0)) (gNm 2) (sSeq (sAsg 1 (dCallP f_law_sum (dCons (dVar 1) (dCons (dVar 2) dNil))))
  sEnd))
  (sSeq (sRet (dVar 1))
  sEnd)))
def f_law_total : DV.Fn := semOf 3 false d_law_total
/-- _law_right(_law_pot_here); names: 0=_law_pot_here 1=_law_raws 2=_law_turn 3=_law_raw_here 4=_law_pairs_here 5=_law_given 6=_law_told 7=_law_values 8=_law_one 9=_law_due -/
def d_law_right : DenS := (sSeq (sAsg 1 (dComp [2] (iRng (dCons (dCst (.int 6)) dNil)) (gNm 2) tYesD (dCallR f_law_raw 0 dNil)))
  (sSeq (sExpr (dApp 1 (dTup (dCons (dBin oMult (dBin ixB (dItem 1 (dCst (.int 0))) (dCst (.int 0))) (dCst (.int 3))) (dCons (dBin oMult (dBin ixB (dItem 1 (dCst (.int 0))) (dCst (.int 1))) (dCst (.int 3))) dNil)))))
  (sSeq (sExpr (dApp 1 (dTup (dCons (dCst (.int 0)) (dCons (dBin ixB (dItem 1 (dCst (.int 1))) (dCst (.int 1))) dNil)))))
  (sSeq (sFor (iSeq (dVar 1)) (gNm 3) (sSeq (sIf (tNotD (tOf (dCallP f_law_one_right (dCons (dVar 3) dNil)))) (sSeq (sRet (dCst (.bl false)))
  sEnd) sEnd)
  sEnd))
  (sSeq (sFor (iRng (dCons (dCst (.int 12)) dNil)) (gNm 2) (sSeq (sIf (tNotD (tOf (dCallP f_law_two_right (dCons (dCallR f_law_pick 0 (dCons (dVar 1) dNil)) (dCons (dCallR f_law_pick 0 (dCons (dVar 1) dNil)) (dCons (dBin oSub (dCallR f_law_draw 0 (dCons (dCst (.int 41)) dNil)) (dCst (.int 20))) dNil)))))) (sSeq (sRet (dCst (.bl false)))
  sEnd) sEnd)
  sEnd))
  (sSeq (sAsg 4 (dComp [3] (iSeq (dVar 1)) (gNm 3) tYesD (dCallP f_law_low (dCons (dItem 3 (dCst (.int 0))) (dCons (dItem 3 (dCst (.int 1))) dNil)))))
  (sSeq (sAsg 5 (dBin oAdd (dComp [3] (iSeq (dVar 1)) (gNm 3) tYesD (dMake 3 [] f_Ratio___init (dCons (dItem 3 (dCst (.int 0))) (dCons (dItem 3 (dCst (.int 1))) dNil)))) (dLst (dCons (dCst (.int 7)) dNil))))
  (sSeq (sAsg 6 (dLst (dCons (dCMeth 3 f_Ratio_total (dCons (dVar 5) dNil)) (dCons (dCMeth 3 f_Ratio_total (dCons (dBlt tupleB (dCons (dVar 5) dNil)) dNil)) (dCons (dCMeth 3 f_Ratio_total (dCons (dVar 5) dNil)) (dCons (dCMeth 3 f_Ratio_total (dCons (dLst dNil) dNil)) dNil))))))
  (sSeq (sIf (tOf (dBin oNotEq (dCallP f_law_pairs (dCons (dVar 6) dNil)) (dBin oAdd (dBin oMult (dLst (dCons (dCallP f_law_total (dCons (dBin oAdd (dVar 4) (dLst (dCons (dTup (dCons (dCst (.int 7)) (dCons (dCst (.int 1)) dNil))) dNil))) dNil)) dNil)) (dCst (.int 3))) (dLst (dCons (dTup (dCons (dCst (.int 0)) (dCons (dCst (.int 1)) dNil))) dNil))))) (sSeq (sRet (dCst (.bl false)))
  sEnd) sEnd)
  (sSeq (sAsg 7 (dLst (dCons (dCst (.int 0)) (dCons (dCst (.int 1)) (dCons (dUn negB (dCst (.int 1))) (dCons (dCst (.int 5)) (dCons (dCst (.bl true)) (dCons (dCst (.bl false)) (dCons (dCst .non) (dCons (dCst (.str "1")) (dCons (dLst (dCons (dCst (.int 1)) dNil)) (dCons (dTup (dCons (dCst (.int 1)) (dCons (dCst (.int 2)) dNil))) (dCons (dBin powB (dCst (.int 10)) (dCst (.int 5))) dNil)))))))))))))
  (sSeq (sAsg 6 (dComp [8] (iSeq (dVar 7)) (gNm 8) tYesD (dLst (dCons (dCallP f_is_number (dCons (dVar 8) dNil)) (dCons (dCallP f_is_share (dCons (dVar 8) dNil)) (dCons (dCallP f_is_integer (dCons (dVar 8) dNil)) (dCons (dCallP f_is_count (dCons (dVar 8) dNil)) dNil)))))))
  (sSeq (sAsg 9 (dLst (dCons (dLst (dCons (dCst (.bl true)) (dCons (dCst (.bl true)) (dCons (dCst (.bl true)) (dCons (dCst (.bl true)) dNil))))) (dCons (dLst (dCons (dCst (.bl true)) (dCons (dCst (.bl true)) (dCons (dCst (.bl true)) (dCons (dCst (.bl true)) dNil))))) (dCons (dLst (dCons (dCst (.bl true)) (dCons (dCst (.bl false)) (dCons (dCst (.bl true)) (dCons (dCst (.bl false)) dNil))))) (dCons (dLst (dCons (dCst (.bl true)) (dCons (dCst (.bl false)) (dCons (dCst (.bl true)) (dCons (dCst (.bl true)) dNil))))) dNil))))))
  (sSeq (sRet (dBin oEq (dVar 6) (dBin oAdd (dBin oAdd (dVar 9) (dComp [2] (iRng (dCons (dCst (.int 6)) dNil)) (gNm 2) tYesD (dBin oMult (dLst (dCons (dCst (.bl false)) dNil)) (dCst (.int 4))))) (dLst (dCons (dLst (dCons (dCst (.bl true)) (dCons (dCst (.bl false)) (dCons (dCst (.bl true)) (dCons (dCst (.bl true)) dNil))))) dNil)))))
  sEnd)))))))))))))
def f_law_right : DV.Fn := semOf 10 true d_law_right
/-- _law_pot(_law_script, _law_k); names: 0=_law_script 1=_law_k 2=_law_cell -/
def d_law_pot : DenS := (sSeq (sAsg 2 (dBin oAdd (dBin oMult (dCst (.int 67)) (dVar 1)) (dCst (.int 53))))
  (sSeq (sIf (tOf (dBin ltB (dVar 1) (dBlt lenB (dCons (dVar 0) dNil)))) (sSeq (sAsg 2 (dBlt absB (dCons (dItem 0 (dVar 1)) dNil)))
  sEnd) sEnd)
  (sSeq (sRet (dLst (dCons (dBlt maxB (dCons (dCst (.int 0)) (dCons (dBin oSub (dVar 2) (dBin powB (dCst (.int 10)) (dCst (.int 18)))) dNil))) (dCons (dBin oAdd (dBin modB (dBin oMult (dBlt intB (dCons (dBin oAdd (dBin modB (dBlt intB (dCons (dVar 2) dNil)) (dCst (.int 2147483549))) (dCst (.int 53))) dNil)) (dBin powB (dBin oAdd (dBin oMult (dCst (.int 2)) (dVar 1)) (dCst (.int 3))) (dCst (.int 3)))) (dCst (.int 2147483477))) (dCst (.int 1))) dNil))))
  sEnd)))
def f_law_pot : DV.Fn := semOf 3 false d_law_pot
/-- law(_law_script); names: 0=_law_script -/
def d_law : DenS := (sSeq (sRet (dCallT f_law_right (dCallP f_law_pot (dCons (dVar 0) (dCons (dCst (.int 0)) dNil))) dNil))
  sEnd)
def f_law : DV.Fn := semOf 1 false d_law
end K11D

set_option Elab.async false
set_option maxRecDepth 100000
set_option maxHeartbeats 4000000
set_option linter.all false
/-! printed by gen.py: the defs do that -/
namespace K11W
open PySem L2 DV K11D PySem.Spec PyProof.Rows
def top (i : Nat) : Stmt := PySem.Challenge.pw_onecrest_k11_ratios_reckoned.main.body.getD i (.Pass ⟨0, 0, 0, 0⟩)
abbrev s_is_integer : Stmt := top 5
abbrev s_told_pair : Stmt := top 13
abbrev s_common_part : Stmt := top 11
abbrev s_Ratio___init : Stmt := inClass (top 12) 0
abbrev s_Ratio___add : Stmt := inClass (top 12) 6
abbrev s_Ratio___radd : Stmt := inClass (top 12) 7
abbrev s_Ratio___mul : Stmt := inClass (top 12) 10
abbrev s_Ratio___rmul : Stmt := inClass (top 12) 11
abbrev s_law_draw : Stmt := top 21
abbrev s_law_pick : Stmt := top 22
abbrev s_Ratio___sub : Stmt := inClass (top 12) 8
abbrev s_Ratio___rsub : Stmt := inClass (top 12) 9
abbrev s_Ratio___eq : Stmt := inClass (top 12) 17
abbrev s_law_raw : Stmt := top 32
abbrev s_law_low : Stmt := top 23
abbrev s_Ratio_bottom : Stmt := inClass (top 12) 2
abbrev s_Ratio_top : Stmt := inClass (top 12) 1
abbrev s_law_pair : Stmt := top 29
abbrev s_digits_of : Stmt := top 10
abbrev s_Ratio___str : Stmt := inClass (top 12) 18
abbrev s_law_shown : Stmt := top 31
abbrev s_Ratio_is_whole : Stmt := inClass (top 12) 4
abbrev s_Ratio_sign : Stmt := inClass (top 12) 3
abbrev s_Ratio_size : Stmt := inClass (top 12) 14
abbrev s_is_count : Stmt := top 6
abbrev s_is_number : Stmt := top 14
abbrev s_ratio_of : Stmt := top 15
abbrev s_Ratio_is_at_most : Stmt := inClass (top 12) 16
abbrev s_is_share : Stmt := top 17
abbrev s_Ratio___repr : Stmt := inClass (top 12) 19
abbrev s_Ratio___neg : Stmt := inClass (top 12) 12
abbrev s_law_one_right : Stmt := top 33
abbrev s_law_sum : Stmt := top 24
abbrev s_law_by : Stmt := top 25
abbrev s_law_less : Stmt := top 26
abbrev s_law_pairs : Stmt := top 30
abbrev s_Ratio_over : Stmt := inClass (top 12) 13
abbrev s_law_over : Stmt := top 27
abbrev s_Ratio_is_below : Stmt := inClass (top 12) 15
abbrev s_law_two_right : Stmt := top 34
abbrev s_is_list : Stmt := top 7
abbrev s_total_of : Stmt := top 18
abbrev s_want_number : Stmt := top 16
abbrev s_Ratio_total : Stmt := inClass (top 12) 5
abbrev s_law_total : Stmt := top 28
abbrev s_law_right : Stmt := top 35
abbrev s_law_pot : Stmt := top 20
abbrev s_law : Stmt := top 36
/-- what the text says, by places: A the defs, P the records of properties and classmethods, C the classes -/
structure Txt (K : PySem.W.Frag) (mg : Str → Option Value) (A P C : Nat → Addr) (FD : Nat → FuncData) : Prop where
  F0 : FunD K "is_integer" "is_integer" (defArgs s_is_integer) (defBody s_is_integer) (defScope s_is_integer) [] [] (A 0) (FD 0)
  g0 : mg "is_integer" = some (.ref (A 0))
  F1 : FunD K "told_pair" "told_pair" (defArgs s_told_pair) (defBody s_told_pair) (defScope s_told_pair) [] [] (A 1) (FD 1)
  g1 : mg "told_pair" = some (.ref (A 1))
  F2 : FunD K "common_part" "common_part" (defArgs s_common_part) (defBody s_common_part) (defScope s_common_part) [] [] (A 2) (FD 2)
  g2 : mg "common_part" = some (.ref (A 2))
  F3 : FunD K "__init__" "Ratio.__init__" (defArgs s_Ratio___init) (defBody s_Ratio___init) (defScope s_Ratio___init) [.int 1] [] (A 3) (FD 3)
  me3 : Meth K (C 3) "__init__" (A 3)
  F4 : FunD K "__add__" "Ratio.__add__" (defArgs s_Ratio___add) (defBody s_Ratio___add) (defScope s_Ratio___add) [] [] (A 4) (FD 4)
  me4 : Meth K (C 3) "__add__" (A 4)
  F5 : FunD K "__radd__" "Ratio.__radd__" (defArgs s_Ratio___radd) (defBody s_Ratio___radd) (defScope s_Ratio___radd) [] [] (A 5) (FD 5)
  me5 : Meth K (C 3) "__radd__" (A 5)
  F6 : FunD K "__mul__" "Ratio.__mul__" (defArgs s_Ratio___mul) (defBody s_Ratio___mul) (defScope s_Ratio___mul) [] [] (A 6) (FD 6)
  me6 : Meth K (C 3) "__mul__" (A 6)
  F7 : FunD K "__rmul__" "Ratio.__rmul__" (defArgs s_Ratio___rmul) (defBody s_Ratio___rmul) (defScope s_Ratio___rmul) [] [] (A 7) (FD 7)
  me7 : Meth K (C 3) "__rmul__" (A 7)
  F8 : FunD K "_law_draw" "_law_draw" (defArgs s_law_draw) (defBody s_law_draw) (defScope s_law_draw) [] [] (A 8) (FD 8)
  g8 : mg "_law_draw" = some (.ref (A 8))
  F9 : FunD K "_law_pick" "_law_pick" (defArgs s_law_pick) (defBody s_law_pick) (defScope s_law_pick) [] [] (A 9) (FD 9)
  g9 : mg "_law_pick" = some (.ref (A 9))
  F10 : FunD K "__sub__" "Ratio.__sub__" (defArgs s_Ratio___sub) (defBody s_Ratio___sub) (defScope s_Ratio___sub) [] [] (A 10) (FD 10)
  me10 : Meth K (C 3) "__sub__" (A 10)
  F11 : FunD K "__rsub__" "Ratio.__rsub__" (defArgs s_Ratio___rsub) (defBody s_Ratio___rsub) (defScope s_Ratio___rsub) [] [] (A 11) (FD 11)
  me11 : Meth K (C 3) "__rsub__" (A 11)
  F12 : FunD K "__eq__" "Ratio.__eq__" (defArgs s_Ratio___eq) (defBody s_Ratio___eq) (defScope s_Ratio___eq) [] [] (A 12) (FD 12)
  me12 : Meth K (C 3) "__eq__" (A 12)
  F13 : FunD K "_law_raw" "_law_raw" (defArgs s_law_raw) (defBody s_law_raw) (defScope s_law_raw) [] [] (A 13) (FD 13)
  g13 : mg "_law_raw" = some (.ref (A 13))
  F14 : FunD K "_law_low" "_law_low" (defArgs s_law_low) (defBody s_law_low) (defScope s_law_low) [] [] (A 14) (FD 14)
  g14 : mg "_law_low" = some (.ref (A 14))
  F15 : FunD K "bottom" "Ratio.bottom" (defArgs s_Ratio_bottom) (defBody s_Ratio_bottom) (defScope s_Ratio_bottom) [] [] (A 15) (FD 15)
  pr15 : PropOf K (C 3) "bottom" (P 15) (A 15)
  F16 : FunD K "top" "Ratio.top" (defArgs s_Ratio_top) (defBody s_Ratio_top) (defScope s_Ratio_top) [] [] (A 16) (FD 16)
  pr16 : PropOf K (C 3) "top" (P 16) (A 16)
  F17 : FunD K "_law_pair" "_law_pair" (defArgs s_law_pair) (defBody s_law_pair) (defScope s_law_pair) [] [] (A 17) (FD 17)
  g17 : mg "_law_pair" = some (.ref (A 17))
  F18 : FunD K "digits_of" "digits_of" (defArgs s_digits_of) (defBody s_digits_of) (defScope s_digits_of) [] [] (A 18) (FD 18)
  g18 : mg "digits_of" = some (.ref (A 18))
  F19 : FunD K "__str__" "Ratio.__str__" (defArgs s_Ratio___str) (defBody s_Ratio___str) (defScope s_Ratio___str) [] [] (A 19) (FD 19)
  me19 : Meth K (C 3) "__str__" (A 19)
  F20 : FunD K "_law_shown" "_law_shown" (defArgs s_law_shown) (defBody s_law_shown) (defScope s_law_shown) [] [] (A 20) (FD 20)
  g20 : mg "_law_shown" = some (.ref (A 20))
  F21 : FunD K "is_whole" "Ratio.is_whole" (defArgs s_Ratio_is_whole) (defBody s_Ratio_is_whole) (defScope s_Ratio_is_whole) [] [] (A 21) (FD 21)
  pr21 : PropOf K (C 3) "is_whole" (P 21) (A 21)
  F22 : FunD K "sign" "Ratio.sign" (defArgs s_Ratio_sign) (defBody s_Ratio_sign) (defScope s_Ratio_sign) [] [] (A 22) (FD 22)
  pr22 : PropOf K (C 3) "sign" (P 22) (A 22)
  F23 : FunD K "size" "Ratio.size" (defArgs s_Ratio_size) (defBody s_Ratio_size) (defScope s_Ratio_size) [] [] (A 23) (FD 23)
  me23 : Meth K (C 3) "size" (A 23)
  F24 : FunD K "is_count" "is_count" (defArgs s_is_count) (defBody s_is_count) (defScope s_is_count) [] [] (A 24) (FD 24)
  g24 : mg "is_count" = some (.ref (A 24))
  F25 : FunD K "is_number" "is_number" (defArgs s_is_number) (defBody s_is_number) (defScope s_is_number) [] [] (A 25) (FD 25)
  g25 : mg "is_number" = some (.ref (A 25))
  F26 : FunD K "ratio_of" "ratio_of" (defArgs s_ratio_of) (defBody s_ratio_of) (defScope s_ratio_of) [] [] (A 26) (FD 26)
  g26 : mg "ratio_of" = some (.ref (A 26))
  F27 : FunD K "is_at_most" "Ratio.is_at_most" (defArgs s_Ratio_is_at_most) (defBody s_Ratio_is_at_most) (defScope s_Ratio_is_at_most) [] [] (A 27) (FD 27)
  me27 : Meth K (C 3) "is_at_most" (A 27)
  F28 : FunD K "is_share" "is_share" (defArgs s_is_share) (defBody s_is_share) (defScope s_is_share) [] [] (A 28) (FD 28)
  g28 : mg "is_share" = some (.ref (A 28))
  F29 : FunD K "__repr__" "Ratio.__repr__" (defArgs s_Ratio___repr) (defBody s_Ratio___repr) (defScope s_Ratio___repr) [] [] (A 29) (FD 29)
  me29 : Meth K (C 3) "__repr__" (A 29)
  F30 : FunD K "__neg__" "Ratio.__neg__" (defArgs s_Ratio___neg) (defBody s_Ratio___neg) (defScope s_Ratio___neg) [] [] (A 30) (FD 30)
  me30 : Meth K (C 3) "__neg__" (A 30)
  F31 : FunD K "_law_one_right" "_law_one_right" (defArgs s_law_one_right) (defBody s_law_one_right) (defScope s_law_one_right) [] [] (A 31) (FD 31)
  g31 : mg "_law_one_right" = some (.ref (A 31))
  F32 : FunD K "_law_sum" "_law_sum" (defArgs s_law_sum) (defBody s_law_sum) (defScope s_law_sum) [] [] (A 32) (FD 32)
  g32 : mg "_law_sum" = some (.ref (A 32))
  F33 : FunD K "_law_by" "_law_by" (defArgs s_law_by) (defBody s_law_by) (defScope s_law_by) [] [] (A 33) (FD 33)
  g33 : mg "_law_by" = some (.ref (A 33))
  F34 : FunD K "_law_less" "_law_less" (defArgs s_law_less) (defBody s_law_less) (defScope s_law_less) [] [] (A 34) (FD 34)
  g34 : mg "_law_less" = some (.ref (A 34))
  F35 : FunD K "_law_pairs" "_law_pairs" (defArgs s_law_pairs) (defBody s_law_pairs) (defScope s_law_pairs) [] [] (A 35) (FD 35)
  g35 : mg "_law_pairs" = some (.ref (A 35))
  F36 : FunD K "over" "Ratio.over" (defArgs s_Ratio_over) (defBody s_Ratio_over) (defScope s_Ratio_over) [] [] (A 36) (FD 36)
  me36 : Meth K (C 3) "over" (A 36)
  F37 : FunD K "_law_over" "_law_over" (defArgs s_law_over) (defBody s_law_over) (defScope s_law_over) [] [] (A 37) (FD 37)
  g37 : mg "_law_over" = some (.ref (A 37))
  F38 : FunD K "is_below" "Ratio.is_below" (defArgs s_Ratio_is_below) (defBody s_Ratio_is_below) (defScope s_Ratio_is_below) [] [] (A 38) (FD 38)
  me38 : Meth K (C 3) "is_below" (A 38)
  F39 : FunD K "_law_two_right" "_law_two_right" (defArgs s_law_two_right) (defBody s_law_two_right) (defScope s_law_two_right) [] [] (A 39) (FD 39)
  g39 : mg "_law_two_right" = some (.ref (A 39))
  F40 : FunD K "is_list" "is_list" (defArgs s_is_list) (defBody s_is_list) (defScope s_is_list) [] [] (A 40) (FD 40)
  g40 : mg "is_list" = some (.ref (A 40))
  F41 : FunD K "total_of" "total_of" (defArgs s_total_of) (defBody s_total_of) (defScope s_total_of) [] [] (A 41) (FD 41)
  g41 : mg "total_of" = some (.ref (A 41))
  F42 : FunD K "want_number" "want_number" (defArgs s_want_number) (defBody s_want_number) (defScope s_want_number) [] [] (A 42) (FD 42)
  g42 : mg "want_number" = some (.ref (A 42))
  F43 : FunD K "total" "Ratio.total" (defArgs s_Ratio_total) (defBody s_Ratio_total) (defScope s_Ratio_total) [] [] (A 43) (FD 43)
  cm43 : ClX.CMet K (C 3) (.type "type") "total" (P 43) (A 43)
  F44 : FunD K "_law_total" "_law_total" (defArgs s_law_total) (defBody s_law_total) (defScope s_law_total) [] [] (A 44) (FD 44)
  g44 : mg "_law_total" = some (.ref (A 44))
  F45 : FunD K "_law_right" "_law_right" (defArgs s_law_right) (defBody s_law_right) (defScope s_law_right) [] [] (A 45) (FD 45)
  g45 : mg "_law_right" = some (.ref (A 45))
  F46 : FunD K "_law_pot" "_law_pot" (defArgs s_law_pot) (defBody s_law_pot) (defScope s_law_pot) [] [] (A 46) (FD 46)
  g46 : mg "_law_pot" = some (.ref (A 46))
  F47 : FunD K "law" "law" (defArgs s_law) (defBody s_law) (defScope s_law) [] [] (A 47) (FD 47)
  g47 : mg "law" = some (.ref (A 47))
  k3 : ClsK K (C 3)
  mc3 : mg "Ratio" = some (.ref (C 3))
  n3_0 : NoAttr K (C 3) "own_top"
  n3_1 : NoAttr K (C 3) "own_bottom"
  cr3 : ClX.CRead K (C 3) (.type "type")
  mk3 : Mk K (C 3) (A 3)
  i_PART : ∃ t, mg "PART" = some (.int 1000000000000000000000000000000000000000000000000000000000000 t)
  z_isinstance : mg "isinstance" = none
  z_int : mg "int" = none
  z_bool : mg "bool" = none
  z_abs : mg "abs" = none
  z_divmod : mg "divmod" = none
  z_len : mg "len" = none
  z_str : mg "str" = none
  z_repr : mg "repr" = none
  z_list : mg "list" = none
  z_tuple : mg "tuple" = none
  z_range : mg "range" = none
  z_max : mg "max" = none
/-- the classes by number -/
def gg (K : PySem.W.Frag) (C : Nat → Addr) : G := { K := K, cls := fun c => if c = 3 then some (C 3) else none, flds := fun c => if c = 3 then ["own_top", "own_bottom"] else [] }
section
variable {P : Program} {w : World} {K : PySem.W.Frag} {mg : Str → Option Value} {base : Heap} {A Pp C : Nat → Addr} {FD : Nat → FuncData}
theorem gok (T : Txt K mg A Pp C FD) : GOk (gg K C) := by
  refine ⟨fun c D h => ?_, fun c c' D D' h h' n => ?_⟩
  · simp only [gg] at h
    by_cases q3 : c = 3
    · subst q3; simp at h; subst h; exact (show ClsK (gg K C).K (C 3) from T.k3).facts
    simp [q3] at h
  · simp only [gg] at h h'
    by_cases q : c = 3
    · by_cases q' : c' = 3
      · exact absurd (q.trans q'.symm) n
      · simp [q'] at h'
    · simp [q] at h
theorem b0 (T : Txt K mg A Pp C FD) : Binds K (FD 0) ["value"] [] := FunD.bindsN T.F0 fun _ _ _ _ _ _ us hl => match us, hl with | [_], _ => rfl
theorem b1 (T : Txt K mg A Pp C FD) : Binds K (FD 1) ["value"] [] := FunD.bindsN T.F1 fun _ _ _ _ _ _ us hl => match us, hl with | [_], _ => rfl
theorem b2 (T : Txt K mg A Pp C FD) : Binds K (FD 2) ["one", "other"] [] := FunD.bindsN T.F2 fun _ _ _ _ _ _ us hl => match us, hl with | [_, _], _ => rfl
theorem b4 (T : Txt K mg A Pp C FD) : Binds K (FD 4) ["self", "other"] [] := FunD.bindsN T.F4 fun _ _ _ _ _ _ us hl => match us, hl with | [_, _], _ => rfl
theorem b5 (T : Txt K mg A Pp C FD) : Binds K (FD 5) ["self", "other"] [] := FunD.bindsN T.F5 fun _ _ _ _ _ _ us hl => match us, hl with | [_, _], _ => rfl
theorem b6 (T : Txt K mg A Pp C FD) : Binds K (FD 6) ["self", "other"] [] := FunD.bindsN T.F6 fun _ _ _ _ _ _ us hl => match us, hl with | [_, _], _ => rfl
theorem b7 (T : Txt K mg A Pp C FD) : Binds K (FD 7) ["self", "other"] [] := FunD.bindsN T.F7 fun _ _ _ _ _ _ us hl => match us, hl with | [_, _], _ => rfl
theorem b8 (T : Txt K mg A Pp C FD) : Binds K (FD 8) ["_law_pot_here", "_law_size"] [] := FunD.bindsN T.F8 fun _ _ _ _ _ _ us hl => match us, hl with | [_, _], _ => rfl
theorem b9 (T : Txt K mg A Pp C FD) : Binds K (FD 9) ["_law_pot_here", "_law_some"] [] := FunD.bindsN T.F9 fun _ _ _ _ _ _ us hl => match us, hl with | [_, _], _ => rfl
theorem b10 (T : Txt K mg A Pp C FD) : Binds K (FD 10) ["self", "other"] [] := FunD.bindsN T.F10 fun _ _ _ _ _ _ us hl => match us, hl with | [_, _], _ => rfl
theorem b11 (T : Txt K mg A Pp C FD) : Binds K (FD 11) ["self", "other"] [] := FunD.bindsN T.F11 fun _ _ _ _ _ _ us hl => match us, hl with | [_, _], _ => rfl
theorem b12 (T : Txt K mg A Pp C FD) : Binds K (FD 12) ["self", "other"] [] := FunD.bindsN T.F12 fun _ _ _ _ _ _ us hl => match us, hl with | [_, _], _ => rfl
theorem b13 (T : Txt K mg A Pp C FD) : Binds K (FD 13) ["_law_pot_here"] [] := FunD.bindsN T.F13 fun _ _ _ _ _ _ us hl => match us, hl with | [_], _ => rfl
theorem b14 (T : Txt K mg A Pp C FD) : Binds K (FD 14) ["_law_top", "_law_bottom"] [] := FunD.bindsN T.F14 fun _ _ _ _ _ _ us hl => match us, hl with | [_, _], _ => rfl
theorem b15 (T : Txt K mg A Pp C FD) : Binds K (FD 15) ["self"] [] := FunD.bindsN T.F15 fun _ _ _ _ _ _ us hl => match us, hl with | [_], _ => rfl
theorem b16 (T : Txt K mg A Pp C FD) : Binds K (FD 16) ["self"] [] := FunD.bindsN T.F16 fun _ _ _ _ _ _ us hl => match us, hl with | [_], _ => rfl
theorem b17 (T : Txt K mg A Pp C FD) : Binds K (FD 17) ["_law_value"] [] := FunD.bindsN T.F17 fun _ _ _ _ _ _ us hl => match us, hl with | [_], _ => rfl
theorem b18 (T : Txt K mg A Pp C FD) : Binds K (FD 18) ["number"] [] := FunD.bindsN T.F18 fun _ _ _ _ _ _ us hl => match us, hl with | [_], _ => rfl
theorem b19 (T : Txt K mg A Pp C FD) : Binds K (FD 19) ["self"] [] := FunD.bindsN T.F19 fun _ _ _ _ _ _ us hl => match us, hl with | [_], _ => rfl
theorem b20 (T : Txt K mg A Pp C FD) : Binds K (FD 20) ["_law_pair_here"] [] := FunD.bindsN T.F20 fun _ _ _ _ _ _ us hl => match us, hl with | [_], _ => rfl
theorem b21 (T : Txt K mg A Pp C FD) : Binds K (FD 21) ["self"] [] := FunD.bindsN T.F21 fun _ _ _ _ _ _ us hl => match us, hl with | [_], _ => rfl
theorem b22 (T : Txt K mg A Pp C FD) : Binds K (FD 22) ["self"] [] := FunD.bindsN T.F22 fun _ _ _ _ _ _ us hl => match us, hl with | [_], _ => rfl
theorem b23 (T : Txt K mg A Pp C FD) : Binds K (FD 23) ["self"] [] := FunD.bindsN T.F23 fun _ _ _ _ _ _ us hl => match us, hl with | [_], _ => rfl
theorem b24 (T : Txt K mg A Pp C FD) : Binds K (FD 24) ["value"] [] := FunD.bindsN T.F24 fun _ _ _ _ _ _ us hl => match us, hl with | [_], _ => rfl
theorem b25 (T : Txt K mg A Pp C FD) : Binds K (FD 25) ["value"] [] := FunD.bindsN T.F25 fun _ _ _ _ _ _ us hl => match us, hl with | [_], _ => rfl
theorem b26 (T : Txt K mg A Pp C FD) : Binds K (FD 26) ["number"] [] := FunD.bindsN T.F26 fun _ _ _ _ _ _ us hl => match us, hl with | [_], _ => rfl
theorem b27 (T : Txt K mg A Pp C FD) : Binds K (FD 27) ["self", "other"] [] := FunD.bindsN T.F27 fun _ _ _ _ _ _ us hl => match us, hl with | [_, _], _ => rfl
theorem b28 (T : Txt K mg A Pp C FD) : Binds K (FD 28) ["value"] [] := FunD.bindsN T.F28 fun _ _ _ _ _ _ us hl => match us, hl with | [_], _ => rfl
theorem b29 (T : Txt K mg A Pp C FD) : Binds K (FD 29) ["self"] [] := FunD.bindsN T.F29 fun _ _ _ _ _ _ us hl => match us, hl with | [_], _ => rfl
theorem b30 (T : Txt K mg A Pp C FD) : Binds K (FD 30) ["self"] [] := FunD.bindsN T.F30 fun _ _ _ _ _ _ us hl => match us, hl with | [_], _ => rfl
theorem b31 (T : Txt K mg A Pp C FD) : Binds K (FD 31) ["_law_raw_here"] [] := FunD.bindsN T.F31 fun _ _ _ _ _ _ us hl => match us, hl with | [_], _ => rfl
theorem b32 (T : Txt K mg A Pp C FD) : Binds K (FD 32) ["_law_one", "_law_other"] [] := FunD.bindsN T.F32 fun _ _ _ _ _ _ us hl => match us, hl with | [_, _], _ => rfl
theorem b33 (T : Txt K mg A Pp C FD) : Binds K (FD 33) ["_law_one", "_law_other"] [] := FunD.bindsN T.F33 fun _ _ _ _ _ _ us hl => match us, hl with | [_, _], _ => rfl
theorem b34 (T : Txt K mg A Pp C FD) : Binds K (FD 34) ["_law_one", "_law_other"] [] := FunD.bindsN T.F34 fun _ _ _ _ _ _ us hl => match us, hl with | [_, _], _ => rfl
theorem b35 (T : Txt K mg A Pp C FD) : Binds K (FD 35) ["_law_value"] [] := FunD.bindsN T.F35 fun _ _ _ _ _ _ us hl => match us, hl with | [_], _ => rfl
theorem b36 (T : Txt K mg A Pp C FD) : Binds K (FD 36) ["self", "other"] [] := FunD.bindsN T.F36 fun _ _ _ _ _ _ us hl => match us, hl with | [_, _], _ => rfl
theorem b37 (T : Txt K mg A Pp C FD) : Binds K (FD 37) ["_law_one", "_law_other"] [] := FunD.bindsN T.F37 fun _ _ _ _ _ _ us hl => match us, hl with | [_, _], _ => rfl
theorem b38 (T : Txt K mg A Pp C FD) : Binds K (FD 38) ["self", "other"] [] := FunD.bindsN T.F38 fun _ _ _ _ _ _ us hl => match us, hl with | [_, _], _ => rfl
theorem b39 (T : Txt K mg A Pp C FD) : Binds K (FD 39) ["_law_raw_here", "_law_other_raw", "_law_number"] [] := FunD.bindsN T.F39 fun _ _ _ _ _ _ us hl => match us, hl with | [_, _, _], _ => rfl
theorem b40 (T : Txt K mg A Pp C FD) : Binds K (FD 40) ["value"] [] := FunD.bindsN T.F40 fun _ _ _ _ _ _ us hl => match us, hl with | [_], _ => rfl
theorem b41 (T : Txt K mg A Pp C FD) : Binds K (FD 41) ["ratios"] [] := FunD.bindsN T.F41 fun _ _ _ _ _ _ us hl => match us, hl with | [_], _ => rfl
theorem b42 (T : Txt K mg A Pp C FD) : Binds K (FD 42) ["value"] [] := FunD.bindsN T.F42 fun _ _ _ _ _ _ us hl => match us, hl with | [_], _ => rfl
theorem b43 (T : Txt K mg A Pp C FD) : Binds K (FD 43) ["cls", "numbers"] [] := FunD.bindsN T.F43 fun _ _ _ _ _ _ us hl => match us, hl with | [_, _], _ => rfl
theorem b44 (T : Txt K mg A Pp C FD) : Binds K (FD 44) ["_law_pairs_here"] [] := FunD.bindsN T.F44 fun _ _ _ _ _ _ us hl => match us, hl with | [_], _ => rfl
theorem b45 (T : Txt K mg A Pp C FD) : Binds K (FD 45) ["_law_pot_here"] [] := FunD.bindsN T.F45 fun _ _ _ _ _ _ us hl => match us, hl with | [_], _ => rfl
theorem b46 (T : Txt K mg A Pp C FD) : Binds K (FD 46) ["_law_script", "_law_k"] [] := FunD.bindsN T.F46 fun _ _ _ _ _ _ us hl => match us, hl with | [_, _], _ => rfl
theorem b47 (T : Txt K mg A Pp C FD) : Binds K (FD 47) ["_law_script"] [] := FunD.bindsN T.F47 fun _ _ _ _ _ _ us hl => match us, hl with | [_], _ => rfl
theorem ok_is_integer (T : Txt K mg A Pp C FD) : FnD P w K mg base false 1 (A 0) (FD 0) ["value"] (spD (gg K C) false 1 f_is_integer) := by
  refine fnD_of (N := ["value"]) (FunD.a' T.F0) ⟨rfl, rfl, rfl, by decide +kernel, rfl, by decide +kernel, by decide +kernel⟩ rfl (by decide) fun X b => ?_
  have hp := b.prog; have hw := b.w; have hK := b.K; have hm := b.mg; have hb := b.base; subst hp hw hK hm hb
  have c0 : Cok (gg X.K C) ["value"] (defScope s_is_integer) (fun _ => true) X := b.ctx rfl (by decide +kernel)
  have G := gok T
  have z_isinstance := T.z_isinstance
  have z_int := T.z_int
  have z_bool := T.z_bool
  exact (snd_seq (snd_ret (snd_vand (Cok.blt c0 (snd_isi G c0.hK) (by decide +kernel) z_isinstance (by decide +kernel) rfl (snd_cons (Cok.var c0 (by decide +kernel)) (snd_cons (Cok.ty c0 (by decide +kernel) z_int (by decide +kernel)) snd_nil (noStar_ne rfl)) (noStar_ne rfl))) (snd_vone (snd_vnot (Cok.blt c0 (snd_isi G c0.hK) (by decide +kernel) z_isinstance (by decide +kernel) rfl (snd_cons (Cok.var c0 (by decide +kernel)) (snd_cons (Cok.ty c0 (by decide +kernel) z_bool (by decide +kernel)) snd_nil (noStar_ne rfl)) (noStar_ne rfl)))))))
  snd_end)
theorem ok_told_pair (T : Txt K mg A Pp C FD) : FnD P w K mg base false 2 (A 1) (FD 1) ["value"] (spD (gg K C) false 1 f_told_pair) := by
  refine fnD_of (N := ["value"]) (FunD.a' T.F1) ⟨rfl, rfl, rfl, by decide +kernel, rfl, by decide +kernel, by decide +kernel⟩ rfl (by decide) fun X b => ?_
  have hp := b.prog; have hw := b.w; have hK := b.K; have hm := b.mg; have hb := b.base; subst hp hw hK hm hb
  have c0 : Cok (gg X.K C) ["value"] (defScope s_told_pair) (fun _ => true) X := b.ctx rfl (by decide +kernel)
  have G := gok T
  have z_isinstance := T.z_isinstance
  have w0 := T.mc3
  have w1 : (gg X.K C).cls 3 = some (C 3) := rfl
  have w2 : FldOk (gg X.K C) X 3 "own_bottom" 1 := ⟨rfl, (show (["own_top", "own_bottom"] : List Str).Nodup by decide +kernel), (show (["own_top", "own_bottom"] : List Str).length < 1000 by decide), fun D hD => by cases (show some (C 3) = some D from hD); exact ⟨T.k3.cl, T.n3_1⟩⟩
  have w3 : FldOk (gg X.K C) X 3 "own_top" 0 := ⟨rfl, (show (["own_top", "own_bottom"] : List Str).Nodup by decide +kernel), (show (["own_top", "own_bottom"] : List Str).length < 1000 by decide), fun D hD => by cases (show some (C 3) = some D from hD); exact ⟨T.k3.cl, T.n3_0⟩⟩
  have w4 : CallOk X "is_integer" false 1 (spD (gg X.K C) false 1 f_is_integer) := ⟨_, FD 0, ["value"], 1, T.g0, T.F0.kp, b0 T, b.room.mono (by decide), (fun z => nomatch z), ok_is_integer T, rfl⟩
  exact (snd_seq (snd_if (snd_tval rfl (Cok.blt c0 (snd_isi G c0.hK) (by decide +kernel) z_isinstance (by decide +kernel) rfl (snd_cons (Cok.var c0 (by decide +kernel)) (snd_cons (Cok.gcls c0 (by decide +kernel) w0 w1) snd_nil (noStar_ne rfl)) (noStar_ne rfl)))) (snd_seq (snd_ret (snd_tup (snd_cons (Cok.fldV c0 w3 (by decide +kernel) rfl) (snd_cons (Cok.fldV c0 w2 (by decide +kernel) rfl) snd_nil (noStar_ne rfl)) (noStar_ne rfl))))
  snd_end) snd_end)
  (snd_seq (snd_if (snd_tnot (snd_tval rfl (Cok.callP c0 w4 (by decide +kernel) rfl rfl (snd_cons (Cok.var c0 (by decide +kernel)) snd_nil (noStar_ne rfl))))) (snd_seq snd_no
  snd_end) snd_end)
  (snd_seq (snd_ret (snd_tup (snd_cons (Cok.var c0 (by decide +kernel)) (snd_cons snd_int snd_nil (noStar_ne rfl)) (noStar_ne rfl))))
  snd_end)))
theorem ok_common_part (T : Txt K mg A Pp C FD) : FnD P w K mg base false 1 (A 2) (FD 2) ["one", "other"] (spD (gg K C) false 2 f_common_part) := by
  refine fnD_of (N := ["one", "other"]) (FunD.a' T.F2) ⟨rfl, rfl, rfl, by decide +kernel, rfl, by decide +kernel, by decide +kernel⟩ rfl (by decide) fun X b => ?_
  have hp := b.prog; have hw := b.w; have hK := b.K; have hm := b.mg; have hb := b.base; subst hp hw hK hm hb
  have c0 : Cok (gg X.K C) ["one", "other"] (defScope s_common_part) (fun _ => true) X := b.ctx rfl (by decide +kernel)
  have G := gok T
  have z_abs := T.z_abs
  have z_int := T.z_int
  exact (snd_seq (Cok.par c0 (by decide +kernel) (by decide +kernel) (by decide) (by decide) (fun env h => by unfold swappedStores Env.blockKind Env.kindOf; rw [h]; rfl) (snd_cons (Cok.blt c0 (snd_abs) (by decide +kernel) z_abs (by decide +kernel) rfl (snd_cons (Cok.var c0 (by decide +kernel)) snd_nil (noStar_ne rfl))) (snd_cons (Cok.blt c0 (snd_abs) (by decide +kernel) z_abs (by decide +kernel) rfl (snd_cons (Cok.var c0 (by decide +kernel)) snd_nil (noStar_ne rfl))) snd_nil (noStar_ne rfl)) (noStar_ne rfl)))
  (snd_seq (Cok.whl c0 (snd_cmpT (snd_gt) rfl (Cok.var c0 (by decide +kernel)) snd_int) (snd_seq (Cok.par c0 (by decide +kernel) (by decide +kernel) (by decide) (by decide) (fun env h => by unfold swappedStores Env.blockKind Env.kindOf; rw [h]; rfl) (snd_cons (Cok.var c0 (by decide +kernel)) (snd_cons (snd_bin (snd_mod) (Cok.bltT c0 (snd_intf) (by decide +kernel) z_int (by decide +kernel) rfl (snd_cons (Cok.var c0 (by decide +kernel)) snd_nil (noStar_ne rfl))) (Cok.var c0 (by decide +kernel))) snd_nil (noStar_ne rfl)) (noStar_ne rfl)))
  snd_end))
  (snd_seq (snd_ret (Cok.var c0 (by decide +kernel)))
  snd_end)))
theorem ok_Ratio___init (T : Txt K mg A Pp C FD) : FnD P w K mg base false 2 (A 3) (FD 3) ["self", "top", "bottom"] (spD (gg K C) true 3 f_Ratio___init) := by
  refine fnD_of (N := ["self", "top", "bottom", "common"]) (FunD.a' T.F3) ⟨rfl, rfl, rfl, by decide +kernel, rfl, by decide +kernel, by decide +kernel⟩ rfl (by decide) fun X b => ?_
  have hp := b.prog; have hw := b.w; have hK := b.K; have hm := b.mg; have hb := b.base; subst hp hw hK hm hb
  have c0 : Cok (gg X.K C) ["self", "top", "bottom", "common"] (defScope s_Ratio___init) (fun _ => true) X := b.ctx rfl (by decide +kernel)
  have G := gok T
  have w0 : CallOk X "is_integer" false 1 (spD (gg X.K C) false 1 f_is_integer) := ⟨_, FD 0, ["value"], 1, T.g0, T.F0.kp, b0 T, b.room.mono (by decide), (fun z => nomatch z), ok_is_integer T, rfl⟩
  have w1 : CallOk X "common_part" false 2 (spD (gg X.K C) false 2 f_common_part) := ⟨_, FD 2, ["one", "other"], 1, T.g2, T.F2.kp, b2 T, b.room.mono (by decide), (fun z => nomatch z), ok_common_part T, rfl⟩
  have w2 : FldOk (gg X.K C) X 3 "own_top" 0 := ⟨rfl, (show (["own_top", "own_bottom"] : List Str).Nodup by decide +kernel), (show (["own_top", "own_bottom"] : List Str).length < 1000 by decide), fun D hD => by cases (show some (C 3) = some D from hD); exact ⟨T.k3.cl, T.n3_0⟩⟩
  have w3 : FldOk (gg X.K C) X 3 "own_bottom" 1 := ⟨rfl, (show (["own_top", "own_bottom"] : List Str).Nodup by decide +kernel), (show (["own_top", "own_bottom"] : List Str).length < 1000 by decide), fun D hD => by cases (show some (C 3) = some D from hD); exact ⟨T.k3.cl, T.n3_1⟩⟩
  exact (snd_seq (snd_if (snd_tnot (snd_tval rfl (Cok.callP c0 w0 (by decide +kernel) rfl rfl (snd_cons (Cok.var c0 (by decide +kernel)) snd_nil (noStar_ne rfl))))) (snd_seq snd_no
  snd_end) snd_end)
  (snd_seq (snd_if (SndW.t (snd_orc (snd_tnot (snd_tval rfl (Cok.callP c0 w0 (by decide +kernel) rfl rfl (snd_cons (Cok.var c0 (by decide +kernel)) snd_nil (noStar_ne rfl))))) (snd_or1 (snd_cmpT (snd_eq c0.hK c0.un) rfl (Cok.var c0 (by decide +kernel)) snd_int)))) (snd_seq snd_no
  snd_end) snd_end)
  (snd_seq (Cok.asg c0 (by decide +kernel) rfl (by decide) (Cok.callP c0 w1 (by decide +kernel) rfl rfl (snd_cons (Cok.var c0 (by decide +kernel)) (snd_cons (Cok.var c0 (by decide +kernel)) snd_nil (noStar_ne rfl)) (noStar_ne rfl))))
  (snd_seq (snd_if (snd_cmpT (snd_lt) rfl (Cok.var c0 (by decide +kernel)) snd_int) (snd_seq (Cok.asg c0 (by decide +kernel) rfl (by decide) (snd_bin (snd_sub) snd_int (Cok.var c0 (by decide +kernel))))
  snd_end) snd_end)
  (snd_seq (Cok.fst c0 w2 (by decide +kernel) rfl (snd_bin (snd_div) (Cok.var c0 (by decide +kernel)) (Cok.var c0 (by decide +kernel))))
  (snd_seq (Cok.fst c0 w3 (by decide +kernel) rfl (snd_bin (snd_div) (Cok.var c0 (by decide +kernel)) (Cok.var c0 (by decide +kernel))))
  snd_end))))))
theorem ok_Ratio___add (T : Txt K mg A Pp C FD) : FnD P w K mg base false 5 (A 4) (FD 4) ["self", "other"] (spD (gg K C) false 2 f_Ratio___add) := by
  refine fnD_of (N := ["self", "other", "top", "bottom"]) (FunD.a' T.F4) ⟨rfl, rfl, rfl, by decide +kernel, rfl, by decide +kernel, by decide +kernel⟩ rfl (by decide) fun X b => ?_
  have hp := b.prog; have hw := b.w; have hK := b.K; have hm := b.mg; have hb := b.base; subst hp hw hK hm hb
  have c0 : Cok (gg X.K C) ["self", "other", "top", "bottom"] (defScope s_Ratio___add) (fun _ => true) X := b.ctx rfl (by decide +kernel)
  have G := gok T
  have w0 : CallOk X "told_pair" false 1 (spD (gg X.K C) false 1 f_told_pair) := ⟨_, FD 1, ["value"], 2, T.g1, T.F1.kp, b1 T, b.room.mono (by decide), (fun z => nomatch z), ok_told_pair T, rfl⟩
  have w1 : FldOk (gg X.K C) X 3 "own_bottom" 1 := ⟨rfl, (show (["own_top", "own_bottom"] : List Str).Nodup by decide +kernel), (show (["own_top", "own_bottom"] : List Str).length < 1000 by decide), fun D hD => by cases (show some (C 3) = some D from hD); exact ⟨T.k3.cl, T.n3_1⟩⟩
  have w2 : FldOk (gg X.K C) X 3 "own_top" 0 := ⟨rfl, (show (["own_top", "own_bottom"] : List Str).Nodup by decide +kernel), (show (["own_top", "own_bottom"] : List Str).length < 1000 by decide), fun D hD => by cases (show some (C 3) = some D from hD); exact ⟨T.k3.cl, T.n3_0⟩⟩
  have w3 : MkOk (gg X.K C) X 3 "Ratio" 3 [] f_Ratio___init := by
    obtain ⟨ds, dv, bi⟩ := (FunD.binds1 (ps := ["self", "top", "bottom"]) T.F3 3 1 (by simp) rfl fun _ _ _ _ _ _ _ us its l1 l2 => match us, its, l1, l2 with | [_, _, _], [_], _, _ => ⟨_, rfl, rfl⟩)
    exact ⟨⟨C 3, A 3, FD 3, ["self", "top", "bottom"], 2, _, ds, rfl, T.mc3, T.mk3, bi, dv, fun _ _ => .nil, b.room.mono (by decide), ok_Ratio___init T, rfl⟩⟩
  exact (snd_seq (Cok.asgT c0 (Cok.callP c0 w0 (by decide +kernel) rfl rfl (snd_cons (Cok.var c0 (by decide +kernel)) snd_nil (noStar_ne rfl))) (Cok.gtup c0 (.cons (Cok.gnm c0 (by decide +kernel)) rfl (.cons (Cok.gnm c0 (by decide +kernel)) rfl .nil))) (by decide) rfl rfl rfl)
  (snd_seq (snd_ret (Cok.make c0 w3 (by decide +kernel) rfl rfl (snd_cons (snd_bin (snd_add c0.hK) (snd_bin (snd_mul) (Cok.fldV c0 w2 (by decide +kernel) rfl) (Cok.var c0 (by decide +kernel))) (snd_bin (snd_mul) (Cok.var c0 (by decide +kernel)) (Cok.fldV c0 w1 (by decide +kernel) rfl))) (snd_cons (snd_bin (snd_mul) (Cok.fldV c0 w1 (by decide +kernel) rfl) (Cok.var c0 (by decide +kernel))) snd_nil (noStar_ne rfl)) (noStar_ne rfl))))
  snd_end))
theorem ok_Ratio___radd (T : Txt K mg A Pp C FD) : FnD P w K mg base false 5 (A 5) (FD 5) ["self", "other"] (spD (gg K C) false 2 f_Ratio___radd) := by
  refine fnD_of (N := ["self", "other", "top", "bottom"]) (FunD.a' T.F5) ⟨rfl, rfl, rfl, by decide +kernel, rfl, by decide +kernel, by decide +kernel⟩ rfl (by decide) fun X b => ?_
  have hp := b.prog; have hw := b.w; have hK := b.K; have hm := b.mg; have hb := b.base; subst hp hw hK hm hb
  have c0 : Cok (gg X.K C) ["self", "other", "top", "bottom"] (defScope s_Ratio___radd) (fun _ => true) X := b.ctx rfl (by decide +kernel)
  have G := gok T
  have w0 : CallOk X "told_pair" false 1 (spD (gg X.K C) false 1 f_told_pair) := ⟨_, FD 1, ["value"], 2, T.g1, T.F1.kp, b1 T, b.room.mono (by decide), (fun z => nomatch z), ok_told_pair T, rfl⟩
  have w1 : FldOk (gg X.K C) X 3 "own_bottom" 1 := ⟨rfl, (show (["own_top", "own_bottom"] : List Str).Nodup by decide +kernel), (show (["own_top", "own_bottom"] : List Str).length < 1000 by decide), fun D hD => by cases (show some (C 3) = some D from hD); exact ⟨T.k3.cl, T.n3_1⟩⟩
  have w2 : FldOk (gg X.K C) X 3 "own_top" 0 := ⟨rfl, (show (["own_top", "own_bottom"] : List Str).Nodup by decide +kernel), (show (["own_top", "own_bottom"] : List Str).length < 1000 by decide), fun D hD => by cases (show some (C 3) = some D from hD); exact ⟨T.k3.cl, T.n3_0⟩⟩
  have w3 : MkOk (gg X.K C) X 3 "Ratio" 3 [] f_Ratio___init := by
    obtain ⟨ds, dv, bi⟩ := (FunD.binds1 (ps := ["self", "top", "bottom"]) T.F3 3 1 (by simp) rfl fun _ _ _ _ _ _ _ us its l1 l2 => match us, its, l1, l2 with | [_, _, _], [_], _, _ => ⟨_, rfl, rfl⟩)
    exact ⟨⟨C 3, A 3, FD 3, ["self", "top", "bottom"], 2, _, ds, rfl, T.mc3, T.mk3, bi, dv, fun _ _ => .nil, b.room.mono (by decide), ok_Ratio___init T, rfl⟩⟩
  exact (snd_seq (Cok.asgT c0 (Cok.callP c0 w0 (by decide +kernel) rfl rfl (snd_cons (Cok.var c0 (by decide +kernel)) snd_nil (noStar_ne rfl))) (Cok.gtup c0 (.cons (Cok.gnm c0 (by decide +kernel)) rfl (.cons (Cok.gnm c0 (by decide +kernel)) rfl .nil))) (by decide) rfl rfl rfl)
  (snd_seq (snd_ret (Cok.make c0 w3 (by decide +kernel) rfl rfl (snd_cons (snd_bin (snd_add c0.hK) (snd_bin (snd_mul) (Cok.fldV c0 w2 (by decide +kernel) rfl) (Cok.var c0 (by decide +kernel))) (snd_bin (snd_mul) (Cok.var c0 (by decide +kernel)) (Cok.fldV c0 w1 (by decide +kernel) rfl))) (snd_cons (snd_bin (snd_mul) (Cok.fldV c0 w1 (by decide +kernel) rfl) (Cok.var c0 (by decide +kernel))) snd_nil (noStar_ne rfl)) (noStar_ne rfl))))
  snd_end))
theorem p_oAdd {g : G} {N : List Str} {sc : Scope} {fc : Str → Bool} {X : Cx} (c : Cok g N sc fc X) (O : OpCls g X 3) (l : MOk g X 3 "__add__" 2 false f_Ratio___add) (r : MOk g X 3 "__radd__" 2 false f_Ratio___radd) : SndOp g X (binaryOp .Add) oAdd :=
  snd_own (op := .Add) (snd_add c.hK) O l r PySem.F.fills_int_add PySem.F.slot_int_add PySem.F.entry_int_add (PySem.F.args_int_add_2) (fun _ _ _ _ hd => int_decl_add hd) (fo := some (.builtin "int.__add__")) (ro := some (.builtin "int.__radd__")) (by first | rfl | decide +kernel) (by first | rfl | decide +kernel)
theorem ok_Ratio___mul (T : Txt K mg A Pp C FD) : FnD P w K mg base false 5 (A 6) (FD 6) ["self", "other"] (spD (gg K C) false 2 f_Ratio___mul) := by
  refine fnD_of (N := ["self", "other", "top", "bottom"]) (FunD.a' T.F6) ⟨rfl, rfl, rfl, by decide +kernel, rfl, by decide +kernel, by decide +kernel⟩ rfl (by decide) fun X b => ?_
  have hp := b.prog; have hw := b.w; have hK := b.K; have hm := b.mg; have hb := b.base; subst hp hw hK hm hb
  have c0 : Cok (gg X.K C) ["self", "other", "top", "bottom"] (defScope s_Ratio___mul) (fun _ => true) X := b.ctx rfl (by decide +kernel)
  have G := gok T
  have w0 : CallOk X "told_pair" false 1 (spD (gg X.K C) false 1 f_told_pair) := ⟨_, FD 1, ["value"], 2, T.g1, T.F1.kp, b1 T, b.room.mono (by decide), (fun z => nomatch z), ok_told_pair T, rfl⟩
  have w1 : FldOk (gg X.K C) X 3 "own_bottom" 1 := ⟨rfl, (show (["own_top", "own_bottom"] : List Str).Nodup by decide +kernel), (show (["own_top", "own_bottom"] : List Str).length < 1000 by decide), fun D hD => by cases (show some (C 3) = some D from hD); exact ⟨T.k3.cl, T.n3_1⟩⟩
  have w2 : FldOk (gg X.K C) X 3 "own_top" 0 := ⟨rfl, (show (["own_top", "own_bottom"] : List Str).Nodup by decide +kernel), (show (["own_top", "own_bottom"] : List Str).length < 1000 by decide), fun D hD => by cases (show some (C 3) = some D from hD); exact ⟨T.k3.cl, T.n3_0⟩⟩
  have w3 : MkOk (gg X.K C) X 3 "Ratio" 3 [] f_Ratio___init := by
    obtain ⟨ds, dv, bi⟩ := (FunD.binds1 (ps := ["self", "top", "bottom"]) T.F3 3 1 (by simp) rfl fun _ _ _ _ _ _ _ us its l1 l2 => match us, its, l1, l2 with | [_, _, _], [_], _, _ => ⟨_, rfl, rfl⟩)
    exact ⟨⟨C 3, A 3, FD 3, ["self", "top", "bottom"], 2, _, ds, rfl, T.mc3, T.mk3, bi, dv, fun _ _ => .nil, b.room.mono (by decide), ok_Ratio___init T, rfl⟩⟩
  exact (snd_seq (Cok.asgT c0 (Cok.callP c0 w0 (by decide +kernel) rfl rfl (snd_cons (Cok.var c0 (by decide +kernel)) snd_nil (noStar_ne rfl))) (Cok.gtup c0 (.cons (Cok.gnm c0 (by decide +kernel)) rfl (.cons (Cok.gnm c0 (by decide +kernel)) rfl .nil))) (by decide) rfl rfl rfl)
  (snd_seq (snd_ret (Cok.make c0 w3 (by decide +kernel) rfl rfl (snd_cons (snd_bin (snd_mul) (Cok.fldV c0 w2 (by decide +kernel) rfl) (Cok.var c0 (by decide +kernel))) (snd_cons (snd_bin (snd_mul) (Cok.fldV c0 w1 (by decide +kernel) rfl) (Cok.var c0 (by decide +kernel))) snd_nil (noStar_ne rfl)) (noStar_ne rfl))))
  snd_end))
theorem ok_Ratio___rmul (T : Txt K mg A Pp C FD) : FnD P w K mg base false 5 (A 7) (FD 7) ["self", "other"] (spD (gg K C) false 2 f_Ratio___rmul) := by
  refine fnD_of (N := ["self", "other", "top", "bottom"]) (FunD.a' T.F7) ⟨rfl, rfl, rfl, by decide +kernel, rfl, by decide +kernel, by decide +kernel⟩ rfl (by decide) fun X b => ?_
  have hp := b.prog; have hw := b.w; have hK := b.K; have hm := b.mg; have hb := b.base; subst hp hw hK hm hb
  have c0 : Cok (gg X.K C) ["self", "other", "top", "bottom"] (defScope s_Ratio___rmul) (fun _ => true) X := b.ctx rfl (by decide +kernel)
  have G := gok T
  have w0 : CallOk X "told_pair" false 1 (spD (gg X.K C) false 1 f_told_pair) := ⟨_, FD 1, ["value"], 2, T.g1, T.F1.kp, b1 T, b.room.mono (by decide), (fun z => nomatch z), ok_told_pair T, rfl⟩
  have w1 : FldOk (gg X.K C) X 3 "own_bottom" 1 := ⟨rfl, (show (["own_top", "own_bottom"] : List Str).Nodup by decide +kernel), (show (["own_top", "own_bottom"] : List Str).length < 1000 by decide), fun D hD => by cases (show some (C 3) = some D from hD); exact ⟨T.k3.cl, T.n3_1⟩⟩
  have w2 : FldOk (gg X.K C) X 3 "own_top" 0 := ⟨rfl, (show (["own_top", "own_bottom"] : List Str).Nodup by decide +kernel), (show (["own_top", "own_bottom"] : List Str).length < 1000 by decide), fun D hD => by cases (show some (C 3) = some D from hD); exact ⟨T.k3.cl, T.n3_0⟩⟩
  have w3 : MkOk (gg X.K C) X 3 "Ratio" 3 [] f_Ratio___init := by
    obtain ⟨ds, dv, bi⟩ := (FunD.binds1 (ps := ["self", "top", "bottom"]) T.F3 3 1 (by simp) rfl fun _ _ _ _ _ _ _ us its l1 l2 => match us, its, l1, l2 with | [_, _, _], [_], _, _ => ⟨_, rfl, rfl⟩)
    exact ⟨⟨C 3, A 3, FD 3, ["self", "top", "bottom"], 2, _, ds, rfl, T.mc3, T.mk3, bi, dv, fun _ _ => .nil, b.room.mono (by decide), ok_Ratio___init T, rfl⟩⟩
  exact (snd_seq (Cok.asgT c0 (Cok.callP c0 w0 (by decide +kernel) rfl rfl (snd_cons (Cok.var c0 (by decide +kernel)) snd_nil (noStar_ne rfl))) (Cok.gtup c0 (.cons (Cok.gnm c0 (by decide +kernel)) rfl (.cons (Cok.gnm c0 (by decide +kernel)) rfl .nil))) (by decide) rfl rfl rfl)
  (snd_seq (snd_ret (Cok.make c0 w3 (by decide +kernel) rfl rfl (snd_cons (snd_bin (snd_mul) (Cok.fldV c0 w2 (by decide +kernel) rfl) (Cok.var c0 (by decide +kernel))) (snd_cons (snd_bin (snd_mul) (Cok.fldV c0 w1 (by decide +kernel) rfl) (Cok.var c0 (by decide +kernel))) snd_nil (noStar_ne rfl)) (noStar_ne rfl))))
  snd_end))
theorem p_oMult {g : G} {N : List Str} {sc : Scope} {fc : Str → Bool} {X : Cx} (c : Cok g N sc fc X) (O : OpCls g X 3) (l : MOk g X 3 "__mul__" 2 false f_Ratio___mul) (r : MOk g X 3 "__rmul__" 2 false f_Ratio___rmul) : SndOp g X (binaryOp .Mult) oMult :=
  snd_own (op := .Mult) (snd_mul) O l r PySem.F.fills_int_mul PySem.F.slot_int_mul PySem.F.entry_int_mul (PySem.F.args_int_mul_2) (fun _ _ _ _ hd => int_decl_mul hd) (fo := some (.builtin "int.__mul__")) (ro := some (.builtin "int.__rmul__")) (by first | rfl | decide +kernel) (by first | rfl | decide +kernel)
theorem ok_law_draw (T : Txt K mg A Pp C FD) : FnD P w K mg base false 8 (A 8) (FD 8) ["_law_pot_here", "_law_size"] (spD (gg K C) true 2 f_law_draw) := by
  refine fnD_of (N := ["_law_pot_here", "_law_size", "_law_digit"]) (FunD.a' T.F8) ⟨rfl, rfl, rfl, by decide +kernel, rfl, by decide +kernel, by decide +kernel⟩ rfl (by decide) fun X b => ?_
  have hp := b.prog; have hw := b.w; have hK := b.K; have hm := b.mg; have hb := b.base; subst hp hw hK hm hb
  have c0 : Cok (gg X.K C) ["_law_pot_here", "_law_size", "_law_digit"] (defScope s_law_draw) (fun _ => true) X := b.ctx rfl (by decide +kernel)
  have G := gok T
  have z_divmod := T.z_divmod
  have z_int := T.z_int
  have w1 : OpCls (gg X.K C) X 3 := ClsK.op T.k3 rfl
  have w2 : MOk (gg X.K C) X 3 "__add__" 2 false f_Ratio___add := ⟨⟨C 3, A 4, FD 4, ["self", "other"], 5, rfl, T.k3.cl, T.me4, b4 T, b.room.mono (by decide), ok_Ratio___add T, rfl⟩, (show ("__add__" : Str) ∉ (["own_top", "own_bottom"] : List Str) by decide +kernel)⟩
  have w3 : MOk (gg X.K C) X 3 "__radd__" 2 false f_Ratio___radd := ⟨⟨C 3, A 5, FD 5, ["self", "other"], 5, rfl, T.k3.cl, T.me5, b5 T, b.room.mono (by decide), ok_Ratio___radd T, rfl⟩, (show ("__radd__" : Str) ∉ (["own_top", "own_bottom"] : List Str) by decide +kernel)⟩
  have w5 : MOk (gg X.K C) X 3 "__mul__" 2 false f_Ratio___mul := ⟨⟨C 3, A 6, FD 6, ["self", "other"], 5, rfl, T.k3.cl, T.me6, b6 T, b.room.mono (by decide), ok_Ratio___mul T, rfl⟩, (show ("__mul__" : Str) ∉ (["own_top", "own_bottom"] : List Str) by decide +kernel)⟩
  have w6 : MOk (gg X.K C) X 3 "__rmul__" 2 false f_Ratio___rmul := ⟨⟨C 3, A 7, FD 7, ["self", "other"], 5, rfl, T.k3.cl, T.me7, b7 T, b.room.mono (by decide), ok_Ratio___rmul T, rfl⟩, (show ("__rmul__" : Str) ∉ (["own_top", "own_bottom"] : List Str) by decide +kernel)⟩
  exact (snd_seq (snd_if (snd_cmpT (snd_gt) rfl (Cok.item c0 (by decide +kernel) rfl snd_int) snd_int) (snd_seq (Cok.asgT c0 (Cok.blt c0 (snd_divmod) (by decide +kernel) z_divmod (by decide +kernel) rfl (snd_cons (Cok.item c0 (by decide +kernel) rfl snd_int) (snd_cons (Cok.var c0 (by decide +kernel)) snd_nil (noStar_ne rfl)) (noStar_ne rfl))) (Cok.gtup c0 (.cons (Cok.gitem c0 (by decide +kernel) rfl snd_int) rfl (.cons (Cok.gnm c0 (by decide +kernel)) rfl .nil))) (by decide) rfl rfl rfl)
  (snd_seq (snd_ret (Cok.var c0 (by decide +kernel)))
  snd_end)) snd_end)
  (snd_seq (Cok.asgT c0 (snd_bin (snd_mod) (Cok.bltT c0 (snd_intf) (by decide +kernel) z_int (by decide +kernel) rfl (snd_cons (snd_bin (p_oAdd c0 w1 w2 w3) (snd_bin (p_oMult c0 w1 w5 w6) (Cok.item c0 (by decide +kernel) rfl snd_int) snd_int) snd_int) snd_nil (noStar_ne rfl))) snd_int) (Cok.gitem c0 (by decide +kernel) rfl snd_int) (by decide) rfl rfl rfl)
  (snd_seq (snd_ret (snd_bin (snd_mod) (Cok.bltT c0 (snd_intf) (by decide +kernel) z_int (by decide +kernel) rfl (snd_cons (snd_bin (snd_div) (snd_bin (snd_mod) (Cok.bltT c0 (snd_intf) (by decide +kernel) z_int (by decide +kernel) rfl (snd_cons (snd_bin (p_oMult c0 w1 w5 w6) (Cok.item c0 (by decide +kernel) rfl snd_int) (Cok.item c0 (by decide +kernel) rfl snd_int)) snd_nil (noStar_ne rfl))) snd_int) snd_int) snd_nil (noStar_ne rfl))) (Cok.var c0 (by decide +kernel))))
  snd_end)))
theorem ok_law_pick (T : Txt K mg A Pp C FD) : FnD P w K mg base false 9 (A 9) (FD 9) ["_law_pot_here", "_law_some"] (spD (gg K C) true 2 f_law_pick) := by
  refine fnD_of (N := ["_law_pot_here", "_law_some"]) (FunD.a' T.F9) ⟨rfl, rfl, rfl, by decide +kernel, rfl, by decide +kernel, by decide +kernel⟩ rfl (by decide) fun X b => ?_
  have hp := b.prog; have hw := b.w; have hK := b.K; have hm := b.mg; have hb := b.base; subst hp hw hK hm hb
  have c0 : Cok (gg X.K C) ["_law_pot_here", "_law_some"] (defScope s_law_pick) (fun _ => true) X := b.ctx rfl (by decide +kernel)
  have G := gok T
  have z_len := T.z_len
  have w0 : CallOk X "_law_draw" false 2 (spD (gg X.K C) true 2 f_law_draw) := ⟨_, FD 8, ["_law_pot_here", "_law_size"], 8, T.g8, T.F8.kp, b8 T, b.room.mono (by decide), (fun z => nomatch z), ok_law_draw T, rfl⟩
  exact (snd_seq (snd_ret (Cok.item c0 (by decide +kernel) rfl (Cok.callR c0 w0 (by decide +kernel) rfl rfl (by decide +kernel) (snd_cons (Cok.blt c0 (snd_len c0.hK) (by decide +kernel) z_len (by decide +kernel) rfl (snd_cons (Cok.var c0 (by decide +kernel)) snd_nil (noStar_ne rfl))) snd_nil (noStar_ne rfl)))))
  snd_end)
theorem ok_Ratio___sub (T : Txt K mg A Pp C FD) : FnD P w K mg base false 5 (A 10) (FD 10) ["self", "other"] (spD (gg K C) false 2 f_Ratio___sub) := by
  refine fnD_of (N := ["self", "other", "top", "bottom"]) (FunD.a' T.F10) ⟨rfl, rfl, rfl, by decide +kernel, rfl, by decide +kernel, by decide +kernel⟩ rfl (by decide) fun X b => ?_
  have hp := b.prog; have hw := b.w; have hK := b.K; have hm := b.mg; have hb := b.base; subst hp hw hK hm hb
  have c0 : Cok (gg X.K C) ["self", "other", "top", "bottom"] (defScope s_Ratio___sub) (fun _ => true) X := b.ctx rfl (by decide +kernel)
  have G := gok T
  have w0 : CallOk X "told_pair" false 1 (spD (gg X.K C) false 1 f_told_pair) := ⟨_, FD 1, ["value"], 2, T.g1, T.F1.kp, b1 T, b.room.mono (by decide), (fun z => nomatch z), ok_told_pair T, rfl⟩
  have w1 : FldOk (gg X.K C) X 3 "own_bottom" 1 := ⟨rfl, (show (["own_top", "own_bottom"] : List Str).Nodup by decide +kernel), (show (["own_top", "own_bottom"] : List Str).length < 1000 by decide), fun D hD => by cases (show some (C 3) = some D from hD); exact ⟨T.k3.cl, T.n3_1⟩⟩
  have w2 : FldOk (gg X.K C) X 3 "own_top" 0 := ⟨rfl, (show (["own_top", "own_bottom"] : List Str).Nodup by decide +kernel), (show (["own_top", "own_bottom"] : List Str).length < 1000 by decide), fun D hD => by cases (show some (C 3) = some D from hD); exact ⟨T.k3.cl, T.n3_0⟩⟩
  have w3 : MkOk (gg X.K C) X 3 "Ratio" 3 [] f_Ratio___init := by
    obtain ⟨ds, dv, bi⟩ := (FunD.binds1 (ps := ["self", "top", "bottom"]) T.F3 3 1 (by simp) rfl fun _ _ _ _ _ _ _ us its l1 l2 => match us, its, l1, l2 with | [_, _, _], [_], _, _ => ⟨_, rfl, rfl⟩)
    exact ⟨⟨C 3, A 3, FD 3, ["self", "top", "bottom"], 2, _, ds, rfl, T.mc3, T.mk3, bi, dv, fun _ _ => .nil, b.room.mono (by decide), ok_Ratio___init T, rfl⟩⟩
  exact (snd_seq (Cok.asgT c0 (Cok.callP c0 w0 (by decide +kernel) rfl rfl (snd_cons (Cok.var c0 (by decide +kernel)) snd_nil (noStar_ne rfl))) (Cok.gtup c0 (.cons (Cok.gnm c0 (by decide +kernel)) rfl (.cons (Cok.gnm c0 (by decide +kernel)) rfl .nil))) (by decide) rfl rfl rfl)
  (snd_seq (snd_ret (Cok.make c0 w3 (by decide +kernel) rfl rfl (snd_cons (snd_bin (snd_sub) (snd_bin (snd_mul) (Cok.fldV c0 w2 (by decide +kernel) rfl) (Cok.var c0 (by decide +kernel))) (snd_bin (snd_mul) (Cok.var c0 (by decide +kernel)) (Cok.fldV c0 w1 (by decide +kernel) rfl))) (snd_cons (snd_bin (snd_mul) (Cok.fldV c0 w1 (by decide +kernel) rfl) (Cok.var c0 (by decide +kernel))) snd_nil (noStar_ne rfl)) (noStar_ne rfl))))
  snd_end))
theorem ok_Ratio___rsub (T : Txt K mg A Pp C FD) : FnD P w K mg base false 5 (A 11) (FD 11) ["self", "other"] (spD (gg K C) false 2 f_Ratio___rsub) := by
  refine fnD_of (N := ["self", "other", "top", "bottom"]) (FunD.a' T.F11) ⟨rfl, rfl, rfl, by decide +kernel, rfl, by decide +kernel, by decide +kernel⟩ rfl (by decide) fun X b => ?_
  have hp := b.prog; have hw := b.w; have hK := b.K; have hm := b.mg; have hb := b.base; subst hp hw hK hm hb
  have c0 : Cok (gg X.K C) ["self", "other", "top", "bottom"] (defScope s_Ratio___rsub) (fun _ => true) X := b.ctx rfl (by decide +kernel)
  have G := gok T
  have w0 : CallOk X "told_pair" false 1 (spD (gg X.K C) false 1 f_told_pair) := ⟨_, FD 1, ["value"], 2, T.g1, T.F1.kp, b1 T, b.room.mono (by decide), (fun z => nomatch z), ok_told_pair T, rfl⟩
  have w1 : FldOk (gg X.K C) X 3 "own_bottom" 1 := ⟨rfl, (show (["own_top", "own_bottom"] : List Str).Nodup by decide +kernel), (show (["own_top", "own_bottom"] : List Str).length < 1000 by decide), fun D hD => by cases (show some (C 3) = some D from hD); exact ⟨T.k3.cl, T.n3_1⟩⟩
  have w2 : FldOk (gg X.K C) X 3 "own_top" 0 := ⟨rfl, (show (["own_top", "own_bottom"] : List Str).Nodup by decide +kernel), (show (["own_top", "own_bottom"] : List Str).length < 1000 by decide), fun D hD => by cases (show some (C 3) = some D from hD); exact ⟨T.k3.cl, T.n3_0⟩⟩
  have w3 : MkOk (gg X.K C) X 3 "Ratio" 3 [] f_Ratio___init := by
    obtain ⟨ds, dv, bi⟩ := (FunD.binds1 (ps := ["self", "top", "bottom"]) T.F3 3 1 (by simp) rfl fun _ _ _ _ _ _ _ us its l1 l2 => match us, its, l1, l2 with | [_, _, _], [_], _, _ => ⟨_, rfl, rfl⟩)
    exact ⟨⟨C 3, A 3, FD 3, ["self", "top", "bottom"], 2, _, ds, rfl, T.mc3, T.mk3, bi, dv, fun _ _ => .nil, b.room.mono (by decide), ok_Ratio___init T, rfl⟩⟩
  exact (snd_seq (Cok.asgT c0 (Cok.callP c0 w0 (by decide +kernel) rfl rfl (snd_cons (Cok.var c0 (by decide +kernel)) snd_nil (noStar_ne rfl))) (Cok.gtup c0 (.cons (Cok.gnm c0 (by decide +kernel)) rfl (.cons (Cok.gnm c0 (by decide +kernel)) rfl .nil))) (by decide) rfl rfl rfl)
  (snd_seq (snd_ret (Cok.make c0 w3 (by decide +kernel) rfl rfl (snd_cons (snd_bin (snd_sub) (snd_bin (snd_mul) (Cok.var c0 (by decide +kernel)) (Cok.fldV c0 w1 (by decide +kernel) rfl)) (snd_bin (snd_mul) (Cok.fldV c0 w2 (by decide +kernel) rfl) (Cok.var c0 (by decide +kernel)))) (snd_cons (snd_bin (snd_mul) (Cok.fldV c0 w1 (by decide +kernel) rfl) (Cok.var c0 (by decide +kernel))) snd_nil (noStar_ne rfl)) (noStar_ne rfl))))
  snd_end))
theorem p_oSub {g : G} {N : List Str} {sc : Scope} {fc : Str → Bool} {X : Cx} (c : Cok g N sc fc X) (O : OpCls g X 3) (l : MOk g X 3 "__sub__" 2 false f_Ratio___sub) (r : MOk g X 3 "__rsub__" 2 false f_Ratio___rsub) : SndOp g X (binaryOp .Sub) oSub :=
  snd_own (op := .Sub) (snd_sub) O l r PySem.F.fills_int_sub PySem.F.slot_int_sub PySem.F.entry_int_sub (PySem.F.args_int_sub_2) (fun _ _ _ _ hd => int_decl_sub hd) (fo := some (.builtin "int.__sub__")) (ro := some (.builtin "int.__rsub__")) (by first | rfl | decide +kernel) (by first | rfl | decide +kernel)
theorem ok_Ratio___eq (T : Txt K mg A Pp C FD) : FnD P w K mg base false 1 (A 12) (FD 12) ["self", "other"] (spD (gg K C) false 2 f_Ratio___eq) := by
  refine fnD_of (N := ["self", "other"]) (FunD.a' T.F12) ⟨rfl, rfl, rfl, by decide +kernel, rfl, by decide +kernel, by decide +kernel⟩ rfl (by decide) fun X b => ?_
  have hp := b.prog; have hw := b.w; have hK := b.K; have hm := b.mg; have hb := b.base; subst hp hw hK hm hb
  have c0 : Cok (gg X.K C) ["self", "other"] (defScope s_Ratio___eq) (fun _ => true) X := b.ctx rfl (by decide +kernel)
  have G := gok T
  have z_isinstance := T.z_isinstance
  have w0 := T.mc3
  have w1 : (gg X.K C).cls 3 = some (C 3) := rfl
  have w2 : FldOk (gg X.K C) X 3 "own_top" 0 := ⟨rfl, (show (["own_top", "own_bottom"] : List Str).Nodup by decide +kernel), (show (["own_top", "own_bottom"] : List Str).length < 1000 by decide), fun D hD => by cases (show some (C 3) = some D from hD); exact ⟨T.k3.cl, T.n3_0⟩⟩
  have w3 : FldOk (gg X.K C) X 3 "own_bottom" 1 := ⟨rfl, (show (["own_top", "own_bottom"] : List Str).Nodup by decide +kernel), (show (["own_top", "own_bottom"] : List Str).length < 1000 by decide), fun D hD => by cases (show some (C 3) = some D from hD); exact ⟨T.k3.cl, T.n3_1⟩⟩
  exact (snd_seq (snd_if (snd_tnot (snd_tval rfl (Cok.blt c0 (snd_isi G c0.hK) (by decide +kernel) z_isinstance (by decide +kernel) rfl (snd_cons (Cok.var c0 (by decide +kernel)) (snd_cons (Cok.gcls c0 (by decide +kernel) w0 w1) snd_nil (noStar_ne rfl)) (noStar_ne rfl))))) (snd_seq (snd_ret snd_bl)
  snd_end) snd_end)
  (snd_seq (snd_ret (snd_vand (snd_cmp (snd_eq c0.hK c0.un) rfl (Cok.fldV c0 w2 (by decide +kernel) rfl) (Cok.fldV c0 w2 (by decide +kernel) rfl)) (snd_vone (snd_cmp (snd_eq c0.hK c0.un) rfl (Cok.fldV c0 w3 (by decide +kernel) rfl) (Cok.fldV c0 w3 (by decide +kernel) rfl)))))
  snd_end))
theorem p_oEq {g : G} {N : List Str} {sc : Scope} {fc : Str → Bool} {X : Cx} (c : Cok g N sc fc X) (O : OpCls g X 3) (l : MOk g X 3 "__eq__" 2 false f_Ratio___eq) : SndOp g X (compareOp .Eq) oEq := snd_ownQ (snd_eq c.hK c.un) O l
theorem p_oNotEq {g : G} {N : List Str} {sc : Scope} {fc : Str → Bool} {X : Cx} (c : Cok g N sc fc X) (O : OpCls g X 3) (l : MOk g X 3 "__eq__" 2 false f_Ratio___eq) : SndOp g X (compareOp .NotEq) oNotEq := snd_ownN (snd_ne c.hK c.un) O l
theorem ok_law_raw (T : Txt K mg A Pp C FD) : FnD P w K mg base false 10 (A 13) (FD 13) ["_law_pot_here"] (spD (gg K C) true 1 f_law_raw) := by
  refine fnD_of (N := ["_law_pot_here", "_law_top", "_law_bottom", "_law_common", "_law_sign"]) (FunD.a' T.F13) ⟨rfl, rfl, rfl, by decide +kernel, rfl, by decide +kernel, by decide +kernel⟩ rfl (by decide) fun X b => ?_
  have hp := b.prog; have hw := b.w; have hK := b.K; have hm := b.mg; have hb := b.base; subst hp hw hK hm hb
  have c0 : Cok (gg X.K C) ["_law_pot_here", "_law_top", "_law_bottom", "_law_common", "_law_sign"] (defScope s_law_raw) (fun _ => true) X := b.ctx rfl (by decide +kernel)
  have G := gok T
  have w1 : OpCls (gg X.K C) X 3 := ClsK.op T.k3 rfl
  have w2 : MOk (gg X.K C) X 3 "__sub__" 2 false f_Ratio___sub := ⟨⟨C 3, A 10, FD 10, ["self", "other"], 5, rfl, T.k3.cl, T.me10, b10 T, b.room.mono (by decide), ok_Ratio___sub T, rfl⟩, (show ("__sub__" : Str) ∉ (["own_top", "own_bottom"] : List Str) by decide +kernel)⟩
  have w3 : MOk (gg X.K C) X 3 "__rsub__" 2 false f_Ratio___rsub := ⟨⟨C 3, A 11, FD 11, ["self", "other"], 5, rfl, T.k3.cl, T.me11, b11 T, b.room.mono (by decide), ok_Ratio___rsub T, rfl⟩, (show ("__rsub__" : Str) ∉ (["own_top", "own_bottom"] : List Str) by decide +kernel)⟩
  have w4 : CallOk X "_law_draw" false 2 (spD (gg X.K C) true 2 f_law_draw) := ⟨_, FD 8, ["_law_pot_here", "_law_size"], 8, T.g8, T.F8.kp, b8 T, b.room.mono (by decide), (fun z => nomatch z), ok_law_draw T, rfl⟩
  have w6 : MOk (gg X.K C) X 3 "__add__" 2 false f_Ratio___add := ⟨⟨C 3, A 4, FD 4, ["self", "other"], 5, rfl, T.k3.cl, T.me4, b4 T, b.room.mono (by decide), ok_Ratio___add T, rfl⟩, (show ("__add__" : Str) ∉ (["own_top", "own_bottom"] : List Str) by decide +kernel)⟩
  have w7 : MOk (gg X.K C) X 3 "__radd__" 2 false f_Ratio___radd := ⟨⟨C 3, A 5, FD 5, ["self", "other"], 5, rfl, T.k3.cl, T.me5, b5 T, b.room.mono (by decide), ok_Ratio___radd T, rfl⟩, (show ("__radd__" : Str) ∉ (["own_top", "own_bottom"] : List Str) by decide +kernel)⟩
  have w8 : MOk (gg X.K C) X 3 "__eq__" 2 false f_Ratio___eq := ⟨⟨C 3, A 12, FD 12, ["self", "other"], 1, rfl, T.k3.cl, T.me12, b12 T, b.room.mono (by decide), ok_Ratio___eq T, rfl⟩, (show ("__eq__" : Str) ∉ (["own_top", "own_bottom"] : List Str) by decide +kernel)⟩
  have w10 : MOk (gg X.K C) X 3 "__mul__" 2 false f_Ratio___mul := ⟨⟨C 3, A 6, FD 6, ["self", "other"], 5, rfl, T.k3.cl, T.me6, b6 T, b.room.mono (by decide), ok_Ratio___mul T, rfl⟩, (show ("__mul__" : Str) ∉ (["own_top", "own_bottom"] : List Str) by decide +kernel)⟩
  have w11 : MOk (gg X.K C) X 3 "__rmul__" 2 false f_Ratio___rmul := ⟨⟨C 3, A 7, FD 7, ["self", "other"], 5, rfl, T.k3.cl, T.me7, b7 T, b.room.mono (by decide), ok_Ratio___rmul T, rfl⟩, (show ("__rmul__" : Str) ∉ (["own_top", "own_bottom"] : List Str) by decide +kernel)⟩
  have w12 : CallOk X "_law_pick" false 2 (spD (gg X.K C) true 2 f_law_pick) := ⟨_, FD 9, ["_law_pot_here", "_law_some"], 9, T.g9, T.F9.kp, b9 T, b.room.mono (by decide), (fun z => nomatch z), ok_law_pick T, rfl⟩
  exact (snd_seq (Cok.asg c0 (by decide +kernel) rfl (by decide) (snd_bin (p_oSub c0 w1 w2 w3) (Cok.callR c0 w4 (by decide +kernel) rfl rfl (by decide +kernel) (snd_cons snd_int snd_nil (noStar_ne rfl))) snd_int))
  (snd_seq (Cok.asg c0 (by decide +kernel) rfl (by decide) (snd_bin (p_oAdd c0 w1 w6 w7) snd_int (Cok.callR c0 w4 (by decide +kernel) rfl rfl (by decide +kernel) (snd_cons snd_int snd_nil (noStar_ne rfl)))))
  (snd_seq (snd_if (snd_cmpT (p_oEq c0 w1 w8) rfl (Cok.callR c0 w4 (by decide +kernel) rfl rfl (by decide +kernel) (snd_cons snd_int snd_nil (noStar_ne rfl))) snd_int) (snd_seq (Cok.asg c0 (by decide +kernel) rfl (by decide) (snd_bin (p_oAdd c0 w1 w6 w7) (snd_bin (p_oMult c0 w1 w10 w11) (Cok.var c0 (by decide +kernel)) (snd_bin (snd_pow) snd_int snd_int)) (Cok.callR c0 w4 (by decide +kernel) rfl rfl (by decide +kernel) (snd_cons snd_int snd_nil (noStar_ne rfl)))))
  (snd_seq (Cok.asg c0 (by decide +kernel) rfl (by decide) (snd_bin (p_oAdd c0 w1 w6 w7) (snd_bin (p_oAdd c0 w1 w6 w7) (snd_bin (p_oMult c0 w1 w10 w11) (Cok.var c0 (by decide +kernel)) (snd_bin (snd_pow) snd_int snd_int)) (Cok.callR c0 w4 (by decide +kernel) rfl rfl (by decide +kernel) (snd_cons snd_int snd_nil (noStar_ne rfl)))) snd_int))
  snd_end)) snd_end)
  (snd_seq (Cok.asg c0 (by decide +kernel) rfl (by decide) (Cok.callR c0 w12 (by decide +kernel) rfl rfl (by decide +kernel) (snd_cons (snd_lst (snd_cons snd_int (snd_cons snd_int (snd_cons snd_int (snd_cons (snd_bin (snd_pow) snd_int snd_int) snd_nil (noStar_ne rfl)) (noStar_ne rfl)) (noStar_ne rfl)) (noStar_ne rfl))) snd_nil (noStar_ne rfl))))
  (snd_seq (Cok.asg c0 (by decide +kernel) rfl (by decide) (Cok.callR c0 w12 (by decide +kernel) rfl rfl (by decide +kernel) (snd_cons (snd_lst (snd_cons snd_int (snd_cons (snd_un snd_neg snd_int) snd_nil (noStar_ne rfl)) (noStar_ne rfl))) snd_nil (noStar_ne rfl))))
  (snd_seq (snd_ret (snd_tup (snd_cons (snd_bin (p_oMult c0 w1 w10 w11) (snd_bin (p_oMult c0 w1 w10 w11) (Cok.var c0 (by decide +kernel)) (Cok.var c0 (by decide +kernel))) (Cok.var c0 (by decide +kernel))) (snd_cons (snd_bin (p_oMult c0 w1 w10 w11) (snd_bin (p_oMult c0 w1 w10 w11) (Cok.var c0 (by decide +kernel)) (Cok.var c0 (by decide +kernel))) (Cok.var c0 (by decide +kernel))) snd_nil (noStar_ne rfl)) (noStar_ne rfl))))
  snd_end))))))
theorem ok_law_low (T : Txt K mg A Pp C FD) : FnD P w K mg base false 8 (A 14) (FD 14) ["_law_top", "_law_bottom"] (spD (gg K C) false 2 f_law_low) := by
  refine fnD_of (N := ["_law_top", "_law_bottom", "_law_one", "_law_other"]) (FunD.a' T.F14) ⟨rfl, rfl, rfl, by decide +kernel, rfl, by decide +kernel, by decide +kernel⟩ rfl (by decide) fun X b => ?_
  have hp := b.prog; have hw := b.w; have hK := b.K; have hm := b.mg; have hb := b.base; subst hp hw hK hm hb
  have c0 : Cok (gg X.K C) ["_law_top", "_law_bottom", "_law_one", "_law_other"] (defScope s_law_low) (fun _ => true) X := b.ctx rfl (by decide +kernel)
  have G := gok T
  have z_abs := T.z_abs
  have z_int := T.z_int
  have w1 : OpCls (gg X.K C) X 3 := ClsK.op T.k3 rfl
  have w2 : MOk (gg X.K C) X 3 "__sub__" 2 false f_Ratio___sub := ⟨⟨C 3, A 10, FD 10, ["self", "other"], 5, rfl, T.k3.cl, T.me10, b10 T, b.room.mono (by decide), ok_Ratio___sub T, rfl⟩, (show ("__sub__" : Str) ∉ (["own_top", "own_bottom"] : List Str) by decide +kernel)⟩
  have w3 : MOk (gg X.K C) X 3 "__rsub__" 2 false f_Ratio___rsub := ⟨⟨C 3, A 11, FD 11, ["self", "other"], 5, rfl, T.k3.cl, T.me11, b11 T, b.room.mono (by decide), ok_Ratio___rsub T, rfl⟩, (show ("__rsub__" : Str) ∉ (["own_top", "own_bottom"] : List Str) by decide +kernel)⟩
  exact (snd_seq (Cok.par c0 (by decide +kernel) (by decide +kernel) (by decide) (by decide) (fun env h => by unfold swappedStores Env.blockKind Env.kindOf; rw [h]; rfl) (snd_cons (Cok.blt c0 (snd_abs) (by decide +kernel) z_abs (by decide +kernel) rfl (snd_cons (Cok.var c0 (by decide +kernel)) snd_nil (noStar_ne rfl))) (snd_cons (Cok.blt c0 (snd_abs) (by decide +kernel) z_abs (by decide +kernel) rfl (snd_cons (Cok.var c0 (by decide +kernel)) snd_nil (noStar_ne rfl))) snd_nil (noStar_ne rfl)) (noStar_ne rfl)))
  (snd_seq (Cok.whl c0 (snd_cmpT (snd_gt) rfl (Cok.var c0 (by decide +kernel)) snd_int) (snd_seq (Cok.par c0 (by decide +kernel) (by decide +kernel) (by decide) (by decide) (fun env h => by unfold swappedStores Env.blockKind Env.kindOf; rw [h]; rfl) (snd_cons (Cok.var c0 (by decide +kernel)) (snd_cons (snd_bin (snd_mod) (Cok.bltT c0 (snd_intf) (by decide +kernel) z_int (by decide +kernel) rfl (snd_cons (Cok.var c0 (by decide +kernel)) snd_nil (noStar_ne rfl))) (Cok.var c0 (by decide +kernel))) snd_nil (noStar_ne rfl)) (noStar_ne rfl)))
  snd_end))
  (snd_seq (Cok.asg c0 (by decide +kernel) rfl (by decide) (snd_vif (snd_cmpT (snd_gt) rfl (Cok.var c0 (by decide +kernel)) snd_int) (Cok.var c0 (by decide +kernel)) (snd_bin (p_oSub c0 w1 w2 w3) snd_int (Cok.var c0 (by decide +kernel)))))
  (snd_seq (snd_ret (snd_tup (snd_cons (snd_bin (snd_div) (Cok.var c0 (by decide +kernel)) (Cok.var c0 (by decide +kernel))) (snd_cons (snd_bin (snd_div) (Cok.var c0 (by decide +kernel)) (Cok.var c0 (by decide +kernel))) snd_nil (noStar_ne rfl)) (noStar_ne rfl))))
  snd_end))))
theorem ok_Ratio_bottom (T : Txt K mg A Pp C FD) : FnD P w K mg base false 1 (A 15) (FD 15) ["self"] (spD (gg K C) false 1 f_Ratio_bottom) := by
  refine fnD_of (N := ["self"]) (FunD.a' T.F15) ⟨rfl, rfl, rfl, by decide +kernel, rfl, by decide +kernel, by decide +kernel⟩ rfl (by decide) fun X b => ?_
  have hp := b.prog; have hw := b.w; have hK := b.K; have hm := b.mg; have hb := b.base; subst hp hw hK hm hb
  have c0 : Cok (gg X.K C) ["self"] (defScope s_Ratio_bottom) (fun _ => true) X := b.ctx rfl (by decide +kernel)
  have G := gok T
  have w0 : FldOk (gg X.K C) X 3 "own_bottom" 1 := ⟨rfl, (show (["own_top", "own_bottom"] : List Str).Nodup by decide +kernel), (show (["own_top", "own_bottom"] : List Str).length < 1000 by decide), fun D hD => by cases (show some (C 3) = some D from hD); exact ⟨T.k3.cl, T.n3_1⟩⟩
  exact (snd_seq (snd_ret (Cok.fldV c0 w0 (by decide +kernel) rfl))
  snd_end)
theorem ok_Ratio_top (T : Txt K mg A Pp C FD) : FnD P w K mg base false 1 (A 16) (FD 16) ["self"] (spD (gg K C) false 1 f_Ratio_top) := by
  refine fnD_of (N := ["self"]) (FunD.a' T.F16) ⟨rfl, rfl, rfl, by decide +kernel, rfl, by decide +kernel, by decide +kernel⟩ rfl (by decide) fun X b => ?_
  have hp := b.prog; have hw := b.w; have hK := b.K; have hm := b.mg; have hb := b.base; subst hp hw hK hm hb
  have c0 : Cok (gg X.K C) ["self"] (defScope s_Ratio_top) (fun _ => true) X := b.ctx rfl (by decide +kernel)
  have G := gok T
  have w0 : FldOk (gg X.K C) X 3 "own_top" 0 := ⟨rfl, (show (["own_top", "own_bottom"] : List Str).Nodup by decide +kernel), (show (["own_top", "own_bottom"] : List Str).length < 1000 by decide), fun D hD => by cases (show some (C 3) = some D from hD); exact ⟨T.k3.cl, T.n3_0⟩⟩
  exact (snd_seq (snd_ret (Cok.fldV c0 w0 (by decide +kernel) rfl))
  snd_end)
theorem ok_law_pair (T : Txt K mg A Pp C FD) : FnD P w K mg base false 4 (A 17) (FD 17) ["_law_value"] (spD (gg K C) false 1 f_law_pair) := by
  refine fnD_of (N := ["_law_value"]) (FunD.a' T.F17) ⟨rfl, rfl, rfl, by decide +kernel, rfl, by decide +kernel, by decide +kernel⟩ rfl (by decide) fun X b => ?_
  have hp := b.prog; have hw := b.w; have hK := b.K; have hm := b.mg; have hb := b.base; subst hp hw hK hm hb
  have c0 : Cok (gg X.K C) ["_law_value"] (defScope s_law_pair) (fun _ => true) X := b.ctx rfl (by decide +kernel)
  have G := gok T
  have z_isinstance := T.z_isinstance
  have w0 := T.mc3
  have w1 : (gg X.K C).cls 3 = some (C 3) := rfl
  have w2 : POk (gg X.K C) X 3 "bottom" f_Ratio_bottom := ⟨⟨C 3, Pp 15, A 15, FD 15, ["self"], 1, rfl, T.k3.cl, T.pr15, b15 T, b.room.mono (by decide), ok_Ratio_bottom T, rfl⟩⟩
  have w3 : POk (gg X.K C) X 3 "top" f_Ratio_top := ⟨⟨C 3, Pp 16, A 16, FD 16, ["self"], 1, rfl, T.k3.cl, T.pr16, b16 T, b.room.mono (by decide), ok_Ratio_top T, rfl⟩⟩
  exact (snd_seq (snd_ret (snd_vif (snd_tval rfl (Cok.blt c0 (snd_isi G c0.hK) (by decide +kernel) z_isinstance (by decide +kernel) rfl (snd_cons (Cok.var c0 (by decide +kernel)) (snd_cons (Cok.gcls c0 (by decide +kernel) w0 w1) snd_nil (noStar_ne rfl)) (noStar_ne rfl)))) (snd_tup (snd_cons (snd_prop w3 rfl (Cok.var c0 (by decide +kernel))) (snd_cons (snd_prop w2 rfl (Cok.var c0 (by decide +kernel))) snd_nil (noStar_ne rfl)) (noStar_ne rfl))) snd_non))
  snd_end)
theorem ok_digits_of (T : Txt K mg A Pp C FD) : FnD P w K mg base false 1 (A 18) (FD 18) ["number"] (spD (gg K C) false 1 f_digits_of) := by
  refine fnD_of (N := ["number", "left", "told", "part", "sign"]) (FunD.a' T.F18) ⟨rfl, rfl, rfl, by decide +kernel, rfl, by decide +kernel, by decide +kernel⟩ rfl (by decide) fun X b => ?_
  have hp := b.prog; have hw := b.w; have hK := b.K; have hm := b.mg; have hb := b.base; subst hp hw hK hm hb
  have c0 : Cok (gg X.K C) ["number", "left", "told", "part", "sign"] (defScope s_digits_of) (fun _ => true) X := b.ctx rfl (by decide +kernel)
  have G := gok T
  have z_int := T.z_int
  have z_str := T.z_str
  obtain ⟨t_PART, w0⟩ := T.i_PART
  exact (snd_seq (Cok.par c0 (by decide +kernel) (by decide +kernel) (by decide) (by decide) (fun env h => by unfold swappedStores Env.blockKind Env.kindOf; rw [h]; rfl) (snd_cons (snd_vif (snd_cmpT (snd_ge) rfl (Cok.var c0 (by decide +kernel)) snd_int) (Cok.var c0 (by decide +kernel)) (snd_bin (snd_sub) snd_int (Cok.var c0 (by decide +kernel)))) (snd_cons snd_str snd_nil (noStar_ne rfl)) (noStar_ne rfl)))
  (snd_seq (Cok.whl c0 (snd_cmpT (snd_ge) rfl (Cok.var c0 (by decide +kernel)) (Cok.gint c0 (by decide +kernel) w0)) (snd_seq (Cok.asg c0 (by decide +kernel) rfl (by decide) (snd_bin (snd_add c0.hK) (snd_bin (snd_mod) (Cok.bltT c0 (snd_intf) (by decide +kernel) z_int (by decide +kernel) rfl (snd_cons (Cok.var c0 (by decide +kernel)) snd_nil (noStar_ne rfl))) (Cok.gint c0 (by decide +kernel) w0)) (Cok.gint c0 (by decide +kernel) w0)))
  (snd_seq (Cok.asg c0 (by decide +kernel) rfl (by decide) (snd_join (.cons (snd_fmt (Cok.slc c0 (Cok.bltT c0 (snd_strf) (by decide +kernel) z_str (by decide +kernel) rfl (snd_cons (Cok.var c0 (by decide +kernel)) snd_nil (noStar_ne rfl))) (snd_psome snd_int) snd_pno)) (.cons (snd_fmt (Cok.var c0 (by decide +kernel))) .nil))))
  (snd_seq (Cok.asg c0 (by decide +kernel) rfl (by decide) (snd_bin (snd_div) (Cok.var c0 (by decide +kernel)) (Cok.gint c0 (by decide +kernel) w0)))
  snd_end))))
  (snd_seq (Cok.asg c0 (by decide +kernel) rfl (by decide) (snd_vif (snd_cmpT (snd_lt) rfl (Cok.var c0 (by decide +kernel)) snd_int) snd_str snd_str))
  (snd_seq (snd_ret (snd_join (.cons (snd_fmt (Cok.var c0 (by decide +kernel))) (.cons (snd_fmt (Cok.var c0 (by decide +kernel))) (.cons (snd_fmt (Cok.var c0 (by decide +kernel))) .nil)))))
  snd_end))))
theorem ok_Ratio___str (T : Txt K mg A Pp C FD) : FnD P w K mg base false 2 (A 19) (FD 19) ["self"] (spD (gg K C) false 1 f_Ratio___str) := by
  refine fnD_of (N := ["self"]) (FunD.a' T.F19) ⟨rfl, rfl, rfl, by decide +kernel, rfl, by decide +kernel, by decide +kernel⟩ rfl (by decide) fun X b => ?_
  have hp := b.prog; have hw := b.w; have hK := b.K; have hm := b.mg; have hb := b.base; subst hp hw hK hm hb
  have c0 : Cok (gg X.K C) ["self"] (defScope s_Ratio___str) (fun _ => true) X := b.ctx rfl (by decide +kernel)
  have G := gok T
  have w0 : FldOk (gg X.K C) X 3 "own_bottom" 1 := ⟨rfl, (show (["own_top", "own_bottom"] : List Str).Nodup by decide +kernel), (show (["own_top", "own_bottom"] : List Str).length < 1000 by decide), fun D hD => by cases (show some (C 3) = some D from hD); exact ⟨T.k3.cl, T.n3_1⟩⟩
  have w1 : FldOk (gg X.K C) X 3 "own_top" 0 := ⟨rfl, (show (["own_top", "own_bottom"] : List Str).Nodup by decide +kernel), (show (["own_top", "own_bottom"] : List Str).length < 1000 by decide), fun D hD => by cases (show some (C 3) = some D from hD); exact ⟨T.k3.cl, T.n3_0⟩⟩
  have w2 : CallOk X "digits_of" false 1 (spD (gg X.K C) false 1 f_digits_of) := ⟨_, FD 18, ["number"], 1, T.g18, T.F18.kp, b18 T, b.room.mono (by decide), (fun z => nomatch z), ok_digits_of T, rfl⟩
  exact (snd_seq (snd_if (snd_cmpT (snd_eq c0.hK c0.un) rfl (Cok.fldV c0 w0 (by decide +kernel) rfl) snd_int) (snd_seq (snd_ret (snd_join1 (snd_fmt (Cok.callP c0 w2 (by decide +kernel) rfl rfl (snd_cons (Cok.fldV c0 w1 (by decide +kernel) rfl) snd_nil (noStar_ne rfl))))))
  snd_end) snd_end)
  (snd_seq (snd_ret (snd_join (.cons (snd_fmt (Cok.callP c0 w2 (by decide +kernel) rfl rfl (snd_cons (Cok.fldV c0 w1 (by decide +kernel) rfl) snd_nil (noStar_ne rfl)))) (.cons snd_str (.cons (snd_fmt (Cok.callP c0 w2 (by decide +kernel) rfl rfl (snd_cons (Cok.fldV c0 w0 (by decide +kernel) rfl) snd_nil (noStar_ne rfl)))) .nil)))))
  snd_end))
theorem ok_law_shown (T : Txt K mg A Pp C FD) : FnD P w K mg base false 8 (A 20) (FD 20) ["_law_pair_here"] (spD (gg K C) false 1 f_law_shown) := by
  refine fnD_of (N := ["_law_pair_here"]) (FunD.a' T.F20) ⟨rfl, rfl, rfl, by decide +kernel, rfl, by decide +kernel, by decide +kernel⟩ rfl (by decide) fun X b => ?_
  have hp := b.prog; have hw := b.w; have hK := b.K; have hm := b.mg; have hb := b.base; subst hp hw hK hm hb
  have c0 : Cok (gg X.K C) ["_law_pair_here"] (defScope s_law_shown) (fun _ => true) X := b.ctx rfl (by decide +kernel)
  have G := gok T
  have z_str := T.z_str
  have w0 : OpCls (gg X.K C) X 3 := ClsK.op T.k3 rfl
  have w1 : MOk (gg X.K C) X 3 "__eq__" 2 false f_Ratio___eq := ⟨⟨C 3, A 12, FD 12, ["self", "other"], 1, rfl, T.k3.cl, T.me12, b12 T, b.room.mono (by decide), ok_Ratio___eq T, rfl⟩, (show ("__eq__" : Str) ∉ (["own_top", "own_bottom"] : List Str) by decide +kernel)⟩
  have w2 : MOk (gg X.K C) X 3 "__str__" 1 false f_Ratio___str := ⟨⟨C 3, A 19, FD 19, ["self"], 2, rfl, T.k3.cl, T.me19, b19 T, b.room.mono (by decide), ok_Ratio___str T, rfl⟩, (show ("__str__" : Str) ∉ (["own_top", "own_bottom"] : List Str) by decide +kernel)⟩
  have w4 : MOk (gg X.K C) X 3 "__add__" 2 false f_Ratio___add := ⟨⟨C 3, A 4, FD 4, ["self", "other"], 5, rfl, T.k3.cl, T.me4, b4 T, b.room.mono (by decide), ok_Ratio___add T, rfl⟩, (show ("__add__" : Str) ∉ (["own_top", "own_bottom"] : List Str) by decide +kernel)⟩
  have w5 : MOk (gg X.K C) X 3 "__radd__" 2 false f_Ratio___radd := ⟨⟨C 3, A 5, FD 5, ["self", "other"], 5, rfl, T.k3.cl, T.me5, b5 T, b.room.mono (by decide), ok_Ratio___radd T, rfl⟩, (show ("__radd__" : Str) ∉ (["own_top", "own_bottom"] : List Str) by decide +kernel)⟩
  exact (snd_seq (snd_ret (snd_vif (snd_cmpT (p_oEq c0 w0 w1) rfl (Cok.item c0 (by decide +kernel) rfl snd_int) snd_int) (Cok.bltT c0 (snd_ownStr (snd_strf) w2) (by decide +kernel) z_str (by decide +kernel) rfl (snd_cons (Cok.item c0 (by decide +kernel) rfl snd_int) snd_nil (noStar_ne rfl))) (snd_bin (p_oAdd c0 w0 w4 w5) (snd_bin (p_oAdd c0 w0 w4 w5) (Cok.bltT c0 (snd_ownStr (snd_strf) w2) (by decide +kernel) z_str (by decide +kernel) rfl (snd_cons (Cok.item c0 (by decide +kernel) rfl snd_int) snd_nil (noStar_ne rfl))) snd_str) (Cok.bltT c0 (snd_ownStr (snd_strf) w2) (by decide +kernel) z_str (by decide +kernel) rfl (snd_cons (Cok.item c0 (by decide +kernel) rfl snd_int) snd_nil (noStar_ne rfl))))))
  snd_end)
theorem ok_Ratio_is_whole (T : Txt K mg A Pp C FD) : FnD P w K mg base false 4 (A 21) (FD 21) ["self"] (spD (gg K C) false 1 f_Ratio_is_whole) := by
  refine fnD_of (N := ["self"]) (FunD.a' T.F21) ⟨rfl, rfl, rfl, by decide +kernel, rfl, by decide +kernel, by decide +kernel⟩ rfl (by decide) fun X b => ?_
  have hp := b.prog; have hw := b.w; have hK := b.K; have hm := b.mg; have hb := b.base; subst hp hw hK hm hb
  have c0 : Cok (gg X.K C) ["self"] (defScope s_Ratio_is_whole) (fun _ => true) X := b.ctx rfl (by decide +kernel)
  have G := gok T
  have w0 : OpCls (gg X.K C) X 3 := ClsK.op T.k3 rfl
  have w1 : MOk (gg X.K C) X 3 "__eq__" 2 false f_Ratio___eq := ⟨⟨C 3, A 12, FD 12, ["self", "other"], 1, rfl, T.k3.cl, T.me12, b12 T, b.room.mono (by decide), ok_Ratio___eq T, rfl⟩, (show ("__eq__" : Str) ∉ (["own_top", "own_bottom"] : List Str) by decide +kernel)⟩
  have w2 : FldOk (gg X.K C) X 3 "own_bottom" 1 := ⟨rfl, (show (["own_top", "own_bottom"] : List Str).Nodup by decide +kernel), (show (["own_top", "own_bottom"] : List Str).length < 1000 by decide), fun D hD => by cases (show some (C 3) = some D from hD); exact ⟨T.k3.cl, T.n3_1⟩⟩
  exact (snd_seq (snd_ret (snd_cmp (p_oEq c0 w0 w1) rfl (Cok.fldV c0 w2 (by decide +kernel) rfl) snd_int))
  snd_end)
theorem ok_Ratio_sign (T : Txt K mg A Pp C FD) : FnD P w K mg base false 8 (A 22) (FD 22) ["self"] (spD (gg K C) false 1 f_Ratio_sign) := by
  refine fnD_of (N := ["self"]) (FunD.a' T.F22) ⟨rfl, rfl, rfl, by decide +kernel, rfl, by decide +kernel, by decide +kernel⟩ rfl (by decide) fun X b => ?_
  have hp := b.prog; have hw := b.w; have hK := b.K; have hm := b.mg; have hb := b.base; subst hp hw hK hm hb
  have c0 : Cok (gg X.K C) ["self"] (defScope s_Ratio_sign) (fun _ => true) X := b.ctx rfl (by decide +kernel)
  have G := gok T
  have z_int := T.z_int
  have w1 : OpCls (gg X.K C) X 3 := ClsK.op T.k3 rfl
  have w2 : MOk (gg X.K C) X 3 "__sub__" 2 false f_Ratio___sub := ⟨⟨C 3, A 10, FD 10, ["self", "other"], 5, rfl, T.k3.cl, T.me10, b10 T, b.room.mono (by decide), ok_Ratio___sub T, rfl⟩, (show ("__sub__" : Str) ∉ (["own_top", "own_bottom"] : List Str) by decide +kernel)⟩
  have w3 : MOk (gg X.K C) X 3 "__rsub__" 2 false f_Ratio___rsub := ⟨⟨C 3, A 11, FD 11, ["self", "other"], 5, rfl, T.k3.cl, T.me11, b11 T, b.room.mono (by decide), ok_Ratio___rsub T, rfl⟩, (show ("__rsub__" : Str) ∉ (["own_top", "own_bottom"] : List Str) by decide +kernel)⟩
  have w4 : FldOk (gg X.K C) X 3 "own_top" 0 := ⟨rfl, (show (["own_top", "own_bottom"] : List Str).Nodup by decide +kernel), (show (["own_top", "own_bottom"] : List Str).length < 1000 by decide), fun D hD => by cases (show some (C 3) = some D from hD); exact ⟨T.k3.cl, T.n3_0⟩⟩
  exact (snd_seq (snd_ret (snd_bin (p_oSub c0 w1 w2 w3) (Cok.bltT c0 (snd_intf) (by decide +kernel) z_int (by decide +kernel) rfl (snd_cons (snd_cmp (snd_gt) rfl (Cok.fldV c0 w4 (by decide +kernel) rfl) snd_int) snd_nil (noStar_ne rfl))) (Cok.bltT c0 (snd_intf) (by decide +kernel) z_int (by decide +kernel) rfl (snd_cons (snd_cmp (snd_lt) rfl (Cok.fldV c0 w4 (by decide +kernel) rfl) snd_int) snd_nil (noStar_ne rfl)))))
  snd_end)
theorem ok_Ratio_size (T : Txt K mg A Pp C FD) : FnD P w K mg base false 5 (A 23) (FD 23) ["self"] (spD (gg K C) false 1 f_Ratio_size) := by
  refine fnD_of (N := ["self"]) (FunD.a' T.F23) ⟨rfl, rfl, rfl, by decide +kernel, rfl, by decide +kernel, by decide +kernel⟩ rfl (by decide) fun X b => ?_
  have hp := b.prog; have hw := b.w; have hK := b.K; have hm := b.mg; have hb := b.base; subst hp hw hK hm hb
  have c0 : Cok (gg X.K C) ["self"] (defScope s_Ratio_size) (fun _ => true) X := b.ctx rfl (by decide +kernel)
  have G := gok T
  have z_abs := T.z_abs
  have w0 : FldOk (gg X.K C) X 3 "own_bottom" 1 := ⟨rfl, (show (["own_top", "own_bottom"] : List Str).Nodup by decide +kernel), (show (["own_top", "own_bottom"] : List Str).length < 1000 by decide), fun D hD => by cases (show some (C 3) = some D from hD); exact ⟨T.k3.cl, T.n3_1⟩⟩
  have w1 : FldOk (gg X.K C) X 3 "own_top" 0 := ⟨rfl, (show (["own_top", "own_bottom"] : List Str).Nodup by decide +kernel), (show (["own_top", "own_bottom"] : List Str).length < 1000 by decide), fun D hD => by cases (show some (C 3) = some D from hD); exact ⟨T.k3.cl, T.n3_0⟩⟩
  have w2 : MkOk (gg X.K C) X 3 "Ratio" 3 [] f_Ratio___init := by
    obtain ⟨ds, dv, bi⟩ := (FunD.binds1 (ps := ["self", "top", "bottom"]) T.F3 3 1 (by simp) rfl fun _ _ _ _ _ _ _ us its l1 l2 => match us, its, l1, l2 with | [_, _, _], [_], _, _ => ⟨_, rfl, rfl⟩)
    exact ⟨⟨C 3, A 3, FD 3, ["self", "top", "bottom"], 2, _, ds, rfl, T.mc3, T.mk3, bi, dv, fun _ _ => .nil, b.room.mono (by decide), ok_Ratio___init T, rfl⟩⟩
  exact (snd_seq (snd_ret (Cok.make c0 w2 (by decide +kernel) rfl rfl (snd_cons (Cok.blt c0 (snd_abs) (by decide +kernel) z_abs (by decide +kernel) rfl (snd_cons (Cok.fldV c0 w1 (by decide +kernel) rfl) snd_nil (noStar_ne rfl))) (snd_cons (Cok.fldV c0 w0 (by decide +kernel) rfl) snd_nil (noStar_ne rfl)) (noStar_ne rfl))))
  snd_end)
theorem ok_is_count (T : Txt K mg A Pp C FD) : FnD P w K mg base false 2 (A 24) (FD 24) ["value"] (spD (gg K C) false 1 f_is_count) := by
  refine fnD_of (N := ["value"]) (FunD.a' T.F24) ⟨rfl, rfl, rfl, by decide +kernel, rfl, by decide +kernel, by decide +kernel⟩ rfl (by decide) fun X b => ?_
  have hp := b.prog; have hw := b.w; have hK := b.K; have hm := b.mg; have hb := b.base; subst hp hw hK hm hb
  have c0 : Cok (gg X.K C) ["value"] (defScope s_is_count) (fun _ => true) X := b.ctx rfl (by decide +kernel)
  have G := gok T
  have w0 : CallOk X "is_integer" false 1 (spD (gg X.K C) false 1 f_is_integer) := ⟨_, FD 0, ["value"], 1, T.g0, T.F0.kp, b0 T, b.room.mono (by decide), (fun z => nomatch z), ok_is_integer T, rfl⟩
  exact (snd_seq (snd_ret (snd_vand (Cok.callP c0 w0 (by decide +kernel) rfl rfl (snd_cons (Cok.var c0 (by decide +kernel)) snd_nil (noStar_ne rfl))) (snd_vone (snd_cmp (snd_ge) rfl (Cok.var c0 (by decide +kernel)) snd_int))))
  snd_end)
theorem ok_is_number (T : Txt K mg A Pp C FD) : FnD P w K mg base false 2 (A 25) (FD 25) ["value"] (spD (gg K C) false 1 f_is_number) := by
  refine fnD_of (N := ["value"]) (FunD.a' T.F25) ⟨rfl, rfl, rfl, by decide +kernel, rfl, by decide +kernel, by decide +kernel⟩ rfl (by decide) fun X b => ?_
  have hp := b.prog; have hw := b.w; have hK := b.K; have hm := b.mg; have hb := b.base; subst hp hw hK hm hb
  have c0 : Cok (gg X.K C) ["value"] (defScope s_is_number) (fun _ => true) X := b.ctx rfl (by decide +kernel)
  have G := gok T
  have z_isinstance := T.z_isinstance
  have w0 : CallOk X "is_integer" false 1 (spD (gg X.K C) false 1 f_is_integer) := ⟨_, FD 0, ["value"], 1, T.g0, T.F0.kp, b0 T, b.room.mono (by decide), (fun z => nomatch z), ok_is_integer T, rfl⟩
  have w1 := T.mc3
  have w2 : (gg X.K C).cls 3 = some (C 3) := rfl
  exact (snd_seq (snd_ret (snd_vor (Cok.callP c0 w0 (by decide +kernel) rfl rfl (snd_cons (Cok.var c0 (by decide +kernel)) snd_nil (noStar_ne rfl))) (snd_vone (Cok.blt c0 (snd_isi G c0.hK) (by decide +kernel) z_isinstance (by decide +kernel) rfl (snd_cons (Cok.var c0 (by decide +kernel)) (snd_cons (Cok.gcls c0 (by decide +kernel) w1 w2) snd_nil (noStar_ne rfl)) (noStar_ne rfl))))))
  snd_end)
theorem ok_ratio_of (T : Txt K mg A Pp C FD) : FnD P w K mg base false 5 (A 26) (FD 26) ["number"] (spD (gg K C) false 1 f_ratio_of) := by
  refine fnD_of (N := ["number"]) (FunD.a' T.F26) ⟨rfl, rfl, rfl, by decide +kernel, rfl, by decide +kernel, by decide +kernel⟩ rfl (by decide) fun X b => ?_
  have hp := b.prog; have hw := b.w; have hK := b.K; have hm := b.mg; have hb := b.base; subst hp hw hK hm hb
  have c0 : Cok (gg X.K C) ["number"] (defScope s_ratio_of) (fun _ => true) X := b.ctx rfl (by decide +kernel)
  have G := gok T
  have z_isinstance := T.z_isinstance
  have w0 := T.mc3
  have w1 : (gg X.K C).cls 3 = some (C 3) := rfl
  have w2 : MkOk (gg X.K C) X 3 "Ratio" 3 [.int 1] f_Ratio___init := by
    obtain ⟨ds, dv, bi⟩ := (FunD.binds1 (ps := ["self", "top", "bottom"]) T.F3 2 0 (by simp) rfl fun _ _ _ _ _ _ _ us its l1 l2 => match us, its, l1, l2 with | [_, _], [_], _, _ => ⟨_, rfl, rfl⟩)
    exact ⟨⟨C 3, A 3, FD 3, ["self", "top", "bottom"], 2, _, ds, rfl, T.mc3, T.mk3, bi, dv, fun _ _ => (.cons (f1 := []) (f2 := []) .int .nil), b.room.mono (by decide), ok_Ratio___init T, rfl⟩⟩
  exact (snd_seq (snd_ret (snd_vif (snd_tval rfl (Cok.blt c0 (snd_isi G c0.hK) (by decide +kernel) z_isinstance (by decide +kernel) rfl (snd_cons (Cok.var c0 (by decide +kernel)) (snd_cons (Cok.gcls c0 (by decide +kernel) w0 w1) snd_nil (noStar_ne rfl)) (noStar_ne rfl)))) (Cok.var c0 (by decide +kernel)) (Cok.make c0 w2 (by decide +kernel) rfl rfl (snd_cons (Cok.var c0 (by decide +kernel)) snd_nil (noStar_ne rfl)))))
  snd_end)
theorem ok_Ratio_is_at_most (T : Txt K mg A Pp C FD) : FnD P w K mg base false 8 (A 27) (FD 27) ["self", "other"] (spD (gg K C) false 2 f_Ratio_is_at_most) := by
  refine fnD_of (N := ["self", "other", "top", "bottom"]) (FunD.a' T.F27) ⟨rfl, rfl, rfl, by decide +kernel, rfl, by decide +kernel, by decide +kernel⟩ rfl (by decide) fun X b => ?_
  have hp := b.prog; have hw := b.w; have hK := b.K; have hm := b.mg; have hb := b.base; subst hp hw hK hm hb
  have c0 : Cok (gg X.K C) ["self", "other", "top", "bottom"] (defScope s_Ratio_is_at_most) (fun _ => true) X := b.ctx rfl (by decide +kernel)
  have G := gok T
  have w0 : CallOk X "told_pair" false 1 (spD (gg X.K C) false 1 f_told_pair) := ⟨_, FD 1, ["value"], 2, T.g1, T.F1.kp, b1 T, b.room.mono (by decide), (fun z => nomatch z), ok_told_pair T, rfl⟩
  have w2 : OpCls (gg X.K C) X 3 := ClsK.op T.k3 rfl
  have w3 : MOk (gg X.K C) X 3 "__mul__" 2 false f_Ratio___mul := ⟨⟨C 3, A 6, FD 6, ["self", "other"], 5, rfl, T.k3.cl, T.me6, b6 T, b.room.mono (by decide), ok_Ratio___mul T, rfl⟩, (show ("__mul__" : Str) ∉ (["own_top", "own_bottom"] : List Str) by decide +kernel)⟩
  have w4 : MOk (gg X.K C) X 3 "__rmul__" 2 false f_Ratio___rmul := ⟨⟨C 3, A 7, FD 7, ["self", "other"], 5, rfl, T.k3.cl, T.me7, b7 T, b.room.mono (by decide), ok_Ratio___rmul T, rfl⟩, (show ("__rmul__" : Str) ∉ (["own_top", "own_bottom"] : List Str) by decide +kernel)⟩
  have w5 : FldOk (gg X.K C) X 3 "own_top" 0 := ⟨rfl, (show (["own_top", "own_bottom"] : List Str).Nodup by decide +kernel), (show (["own_top", "own_bottom"] : List Str).length < 1000 by decide), fun D hD => by cases (show some (C 3) = some D from hD); exact ⟨T.k3.cl, T.n3_0⟩⟩
  have w6 : FldOk (gg X.K C) X 3 "own_bottom" 1 := ⟨rfl, (show (["own_top", "own_bottom"] : List Str).Nodup by decide +kernel), (show (["own_top", "own_bottom"] : List Str).length < 1000 by decide), fun D hD => by cases (show some (C 3) = some D from hD); exact ⟨T.k3.cl, T.n3_1⟩⟩
  exact (snd_seq (Cok.asgT c0 (Cok.callP c0 w0 (by decide +kernel) rfl rfl (snd_cons (Cok.var c0 (by decide +kernel)) snd_nil (noStar_ne rfl))) (Cok.gtup c0 (.cons (Cok.gnm c0 (by decide +kernel)) rfl (.cons (Cok.gnm c0 (by decide +kernel)) rfl .nil))) (by decide) rfl rfl rfl)
  (snd_seq (snd_ret (snd_cmp (snd_le) rfl (snd_bin (p_oMult c0 w2 w3 w4) (Cok.fldV c0 w5 (by decide +kernel) rfl) (Cok.var c0 (by decide +kernel))) (snd_bin (p_oMult c0 w2 w3 w4) (Cok.var c0 (by decide +kernel)) (Cok.fldV c0 w6 (by decide +kernel) rfl))))
  snd_end))
theorem ok_is_share (T : Txt K mg A Pp C FD) : FnD P w K mg base false 11 (A 28) (FD 28) ["value"] (spD (gg K C) false 1 f_is_share) := by
  refine fnD_of (N := ["value", "share"]) (FunD.a' T.F28) ⟨rfl, rfl, rfl, by decide +kernel, rfl, by decide +kernel, by decide +kernel⟩ rfl (by decide) fun X b => ?_
  have hp := b.prog; have hw := b.w; have hK := b.K; have hm := b.mg; have hb := b.base; subst hp hw hK hm hb
  have c0 : Cok (gg X.K C) ["value", "share"] (defScope s_is_share) (fun _ => true) X := b.ctx rfl (by decide +kernel)
  have G := gok T
  have w0 : CallOk X "is_number" false 1 (spD (gg X.K C) false 1 f_is_number) := ⟨_, FD 25, ["value"], 2, T.g25, T.F25.kp, b25 T, b.room.mono (by decide), (fun z => nomatch z), ok_is_number T, rfl⟩
  have w1 : CallOk X "ratio_of" false 1 (spD (gg X.K C) false 1 f_ratio_of) := ⟨_, FD 26, ["number"], 5, T.g26, T.F26.kp, b26 T, b.room.mono (by decide), (fun z => nomatch z), ok_ratio_of T, rfl⟩
  have w2 : POk (gg X.K C) X 3 "sign" f_Ratio_sign := ⟨⟨C 3, Pp 22, A 22, FD 22, ["self"], 8, rfl, T.k3.cl, T.pr22, b22 T, b.room.mono (by decide), ok_Ratio_sign T, rfl⟩⟩
  have w3 : MOk (gg X.K C) X 3 "is_at_most" 2 false f_Ratio_is_at_most := ⟨⟨C 3, A 27, FD 27, ["self", "other"], 8, rfl, T.k3.cl, T.me27, b27 T, b.room.mono (by decide), ok_Ratio_is_at_most T, rfl⟩, (show ("is_at_most" : Str) ∉ (["own_top", "own_bottom"] : List Str) by decide +kernel)⟩
  exact (snd_seq (snd_if (snd_tnot (snd_tval rfl (Cok.callP c0 w0 (by decide +kernel) rfl rfl (snd_cons (Cok.var c0 (by decide +kernel)) snd_nil (noStar_ne rfl))))) (snd_seq (snd_ret snd_bl)
  snd_end) snd_end)
  (snd_seq (Cok.asg c0 (by decide +kernel) rfl (by decide) (Cok.callP c0 w1 (by decide +kernel) rfl rfl (snd_cons (Cok.var c0 (by decide +kernel)) snd_nil (noStar_ne rfl))))
  (snd_seq (snd_ret (snd_vand (snd_cmp (snd_ge) rfl (snd_prop w2 rfl (Cok.var c0 (by decide +kernel))) snd_int) (snd_vone (snd_meth w3 rfl rfl ⟨_, rfl⟩ (Cok.var c0 (by decide +kernel)) (snd_cons snd_int snd_nil (noStar_ne rfl))))))
  snd_end)))
theorem ok_Ratio___repr (T : Txt K mg A Pp C FD) : FnD P w K mg base false 2 (A 29) (FD 29) ["self"] (spD (gg K C) false 1 f_Ratio___repr) := by
  refine fnD_of (N := ["self"]) (FunD.a' T.F29) ⟨rfl, rfl, rfl, by decide +kernel, rfl, by decide +kernel, by decide +kernel⟩ rfl (by decide) fun X b => ?_
  have hp := b.prog; have hw := b.w; have hK := b.K; have hm := b.mg; have hb := b.base; subst hp hw hK hm hb
  have c0 : Cok (gg X.K C) ["self"] (defScope s_Ratio___repr) (fun _ => true) X := b.ctx rfl (by decide +kernel)
  have G := gok T
  have w0 : FldOk (gg X.K C) X 3 "own_top" 0 := ⟨rfl, (show (["own_top", "own_bottom"] : List Str).Nodup by decide +kernel), (show (["own_top", "own_bottom"] : List Str).length < 1000 by decide), fun D hD => by cases (show some (C 3) = some D from hD); exact ⟨T.k3.cl, T.n3_0⟩⟩
  have w1 : CallOk X "digits_of" false 1 (spD (gg X.K C) false 1 f_digits_of) := ⟨_, FD 18, ["number"], 1, T.g18, T.F18.kp, b18 T, b.room.mono (by decide), (fun z => nomatch z), ok_digits_of T, rfl⟩
  have w2 : FldOk (gg X.K C) X 3 "own_bottom" 1 := ⟨rfl, (show (["own_top", "own_bottom"] : List Str).Nodup by decide +kernel), (show (["own_top", "own_bottom"] : List Str).length < 1000 by decide), fun D hD => by cases (show some (C 3) = some D from hD); exact ⟨T.k3.cl, T.n3_1⟩⟩
  exact (snd_seq (snd_ret (snd_join (.cons snd_str (.cons (snd_fmt (Cok.callP c0 w1 (by decide +kernel) rfl rfl (snd_cons (Cok.fldV c0 w0 (by decide +kernel) rfl) snd_nil (noStar_ne rfl)))) (.cons snd_str (.cons (snd_fmt (Cok.callP c0 w1 (by decide +kernel) rfl rfl (snd_cons (Cok.fldV c0 w2 (by decide +kernel) rfl) snd_nil (noStar_ne rfl)))) (.cons snd_str .nil)))))))
  snd_end)
theorem ok_Ratio___neg (T : Txt K mg A Pp C FD) : FnD P w K mg base false 5 (A 30) (FD 30) ["self"] (spD (gg K C) false 1 f_Ratio___neg) := by
  refine fnD_of (N := ["self"]) (FunD.a' T.F30) ⟨rfl, rfl, rfl, by decide +kernel, rfl, by decide +kernel, by decide +kernel⟩ rfl (by decide) fun X b => ?_
  have hp := b.prog; have hw := b.w; have hK := b.K; have hm := b.mg; have hb := b.base; subst hp hw hK hm hb
  have c0 : Cok (gg X.K C) ["self"] (defScope s_Ratio___neg) (fun _ => true) X := b.ctx rfl (by decide +kernel)
  have G := gok T
  have w0 : FldOk (gg X.K C) X 3 "own_bottom" 1 := ⟨rfl, (show (["own_top", "own_bottom"] : List Str).Nodup by decide +kernel), (show (["own_top", "own_bottom"] : List Str).length < 1000 by decide), fun D hD => by cases (show some (C 3) = some D from hD); exact ⟨T.k3.cl, T.n3_1⟩⟩
  have w1 : FldOk (gg X.K C) X 3 "own_top" 0 := ⟨rfl, (show (["own_top", "own_bottom"] : List Str).Nodup by decide +kernel), (show (["own_top", "own_bottom"] : List Str).length < 1000 by decide), fun D hD => by cases (show some (C 3) = some D from hD); exact ⟨T.k3.cl, T.n3_0⟩⟩
  have w2 : MkOk (gg X.K C) X 3 "Ratio" 3 [] f_Ratio___init := by
    obtain ⟨ds, dv, bi⟩ := (FunD.binds1 (ps := ["self", "top", "bottom"]) T.F3 3 1 (by simp) rfl fun _ _ _ _ _ _ _ us its l1 l2 => match us, its, l1, l2 with | [_, _, _], [_], _, _ => ⟨_, rfl, rfl⟩)
    exact ⟨⟨C 3, A 3, FD 3, ["self", "top", "bottom"], 2, _, ds, rfl, T.mc3, T.mk3, bi, dv, fun _ _ => .nil, b.room.mono (by decide), ok_Ratio___init T, rfl⟩⟩
  exact (snd_seq (snd_ret (Cok.make c0 w2 (by decide +kernel) rfl rfl (snd_cons (snd_bin (snd_sub) snd_int (Cok.fldV c0 w1 (by decide +kernel) rfl)) (snd_cons (Cok.fldV c0 w0 (by decide +kernel) rfl) snd_nil (noStar_ne rfl)) (noStar_ne rfl))))
  snd_end)
theorem ok_law_one_right (T : Txt K mg A Pp C FD) : FnD P w K mg base true 12 (A 31) (FD 31) ["_law_raw_here"] (spD (gg K C) false 1 f_law_one_right) := by
  refine fnD_of (N := ["_law_raw_here", "_law_made", "_law_pair_here", "_law_sign", "_law_told"]) (FunD.a' T.F31) ⟨rfl, rfl, rfl, by decide +kernel, rfl, by decide +kernel, by decide +kernel⟩ rfl (by decide) fun X b => ?_
  have hp := b.prog; have hw := b.w; have hK := b.K; have hm := b.mg; have hb := b.base; subst hp hw hK hm hb
  have c0 : Cok (gg X.K C) ["_law_raw_here", "_law_made", "_law_pair_here", "_law_sign", "_law_told"] (defScope s_law_one_right) (fun _ => true) X := b.ctx rfl (by decide +kernel)
  have G := gok T
  have gu := b.gd rfl
  have z_str := T.z_str
  have z_repr := T.z_repr
  have z_abs := T.z_abs
  have w0 : CallOk X "_law_low" false 2 (spD (gg X.K C) false 2 f_law_low) := ⟨_, FD 14, ["_law_top", "_law_bottom"], 8, T.g14, T.F14.kp, b14 T, b.room.mono (by decide), (fun z => nomatch z), ok_law_low T, rfl⟩
  have w1 : MkOk (gg X.K C) X 3 "Ratio" 3 [] f_Ratio___init := by
    obtain ⟨ds, dv, bi⟩ := (FunD.binds1 (ps := ["self", "top", "bottom"]) T.F3 3 1 (by simp) rfl fun _ _ _ _ _ _ _ us its l1 l2 => match us, its, l1, l2 with | [_, _, _], [_], _, _ => ⟨_, rfl, rfl⟩)
    exact ⟨⟨C 3, A 3, FD 3, ["self", "top", "bottom"], 2, _, ds, rfl, T.mc3, T.mk3, bi, dv, fun _ _ => .nil, b.room.mono (by decide), ok_Ratio___init T, rfl⟩⟩
  have w2 : OpCls (gg X.K C) X 3 := ClsK.op T.k3 rfl
  have w3 : MOk (gg X.K C) X 3 "__eq__" 2 false f_Ratio___eq := ⟨⟨C 3, A 12, FD 12, ["self", "other"], 1, rfl, T.k3.cl, T.me12, b12 T, b.room.mono (by decide), ok_Ratio___eq T, rfl⟩, (show ("__eq__" : Str) ∉ (["own_top", "own_bottom"] : List Str) by decide +kernel)⟩
  have w4 : CallOk X "_law_pair" false 1 (spD (gg X.K C) false 1 f_law_pair) := ⟨_, FD 17, ["_law_value"], 4, T.g17, T.F17.kp, b17 T, b.room.mono (by decide), (fun z => nomatch z), ok_law_pair T, rfl⟩
  have w5 : MOk (gg X.K C) X 3 "__str__" 1 false f_Ratio___str := ⟨⟨C 3, A 19, FD 19, ["self"], 2, rfl, T.k3.cl, T.me19, b19 T, b.room.mono (by decide), ok_Ratio___str T, rfl⟩, (show ("__str__" : Str) ∉ (["own_top", "own_bottom"] : List Str) by decide +kernel)⟩
  have w6 : CallOk X "_law_shown" false 1 (spD (gg X.K C) false 1 f_law_shown) := ⟨_, FD 20, ["_law_pair_here"], 8, T.g20, T.F20.kp, b20 T, b.room.mono (by decide), (fun z => nomatch z), ok_law_shown T, rfl⟩
  have w7 : MOk (gg X.K C) X 3 "__repr__" 1 false f_Ratio___repr := ⟨⟨C 3, A 29, FD 29, ["self"], 2, rfl, T.k3.cl, T.me29, b29 T, b.room.mono (by decide), ok_Ratio___repr T, rfl⟩, (show ("__repr__" : Str) ∉ (["own_top", "own_bottom"] : List Str) by decide +kernel)⟩
  have w9 : MOk (gg X.K C) X 3 "__add__" 2 false f_Ratio___add := ⟨⟨C 3, A 4, FD 4, ["self", "other"], 5, rfl, T.k3.cl, T.me4, b4 T, b.room.mono (by decide), ok_Ratio___add T, rfl⟩, (show ("__add__" : Str) ∉ (["own_top", "own_bottom"] : List Str) by decide +kernel)⟩
  have w10 : MOk (gg X.K C) X 3 "__radd__" 2 false f_Ratio___radd := ⟨⟨C 3, A 5, FD 5, ["self", "other"], 5, rfl, T.k3.cl, T.me5, b5 T, b.room.mono (by decide), ok_Ratio___radd T, rfl⟩, (show ("__radd__" : Str) ∉ (["own_top", "own_bottom"] : List Str) by decide +kernel)⟩
  have w11 : POk (gg X.K C) X 3 "is_whole" f_Ratio_is_whole := ⟨⟨C 3, Pp 21, A 21, FD 21, ["self"], 4, rfl, T.k3.cl, T.pr21, b21 T, b.room.mono (by decide), ok_Ratio_is_whole T, rfl⟩⟩
  have w12 : POk (gg X.K C) X 3 "sign" f_Ratio_sign := ⟨⟨C 3, Pp 22, A 22, FD 22, ["self"], 8, rfl, T.k3.cl, T.pr22, b22 T, b.room.mono (by decide), ok_Ratio_sign T, rfl⟩⟩
  have w13 : MOk (gg X.K C) X 3 "size" 1 false f_Ratio_size := ⟨⟨C 3, A 23, FD 23, ["self"], 5, rfl, T.k3.cl, T.me23, b23 T, b.room.mono (by decide), ok_Ratio_size T, rfl⟩, (show ("size" : Str) ∉ (["own_top", "own_bottom"] : List Str) by decide +kernel)⟩
  have w15 : MOk (gg X.K C) X 3 "__sub__" 2 false f_Ratio___sub := ⟨⟨C 3, A 10, FD 10, ["self", "other"], 5, rfl, T.k3.cl, T.me10, b10 T, b.room.mono (by decide), ok_Ratio___sub T, rfl⟩, (show ("__sub__" : Str) ∉ (["own_top", "own_bottom"] : List Str) by decide +kernel)⟩
  have w16 : MOk (gg X.K C) X 3 "__rsub__" 2 false f_Ratio___rsub := ⟨⟨C 3, A 11, FD 11, ["self", "other"], 5, rfl, T.k3.cl, T.me11, b11 T, b.room.mono (by decide), ok_Ratio___rsub T, rfl⟩, (show ("__rsub__" : Str) ∉ (["own_top", "own_bottom"] : List Str) by decide +kernel)⟩
  have w17 : MOk (gg X.K C) X 3 "__neg__" 1 false f_Ratio___neg := ⟨⟨C 3, A 30, FD 30, ["self"], 5, rfl, T.k3.cl, T.me30, b30 T, b.room.mono (by decide), ok_Ratio___neg T, rfl⟩, (show ("__neg__" : Str) ∉ (["own_top", "own_bottom"] : List Str) by decide +kernel)⟩
  have w18 : CallOk X "is_count" false 1 (spD (gg X.K C) false 1 f_is_count) := ⟨_, FD 24, ["value"], 2, T.g24, T.F24.kp, b24 T, b.room.mono (by decide), (fun z => nomatch z), ok_is_count T, rfl⟩
  have w19 : CallOk X "is_integer" false 1 (spD (gg X.K C) false 1 f_is_integer) := ⟨_, FD 0, ["value"], 1, T.g0, T.F0.kp, b0 T, b.room.mono (by decide), (fun z => nomatch z), ok_is_integer T, rfl⟩
  have w20 : CallOk X "is_share" false 1 (spD (gg X.K C) false 1 f_is_share) := ⟨_, FD 28, ["value"], 11, T.g28, T.F28.kp, b28 T, b.room.mono (by decide), (fun z => nomatch z), ok_is_share T, rfl⟩
  have w21 : CallOk X "is_number" false 1 (spD (gg X.K C) false 1 f_is_number) := ⟨_, FD 25, ["value"], 2, T.g25, T.F25.kp, b25 T, b.room.mono (by decide), (fun z => nomatch z), ok_is_number T, rfl⟩
  have w22 : MkKOk (gg X.K C) X 3 "Ratio" 0 ["top", "bottom"] f_Ratio___init := ⟨⟨C 3, A 3, FD 3, ["self", "top", "bottom"], 2, rfl, T.mc3, T.mk3, (FunD.kwD T.F3 (by simp) fun _ _ _ _ _ _ _ us its ws l1 l2 l3 => match us, its, ws, l1, l2, l3 with | [_], [_], [_, _], _, _, _ => ⟨_, rfl, rfl⟩), b.room.mono (by decide), ok_Ratio___init T⟩⟩
  have q0 : SndS (gg X.K C) false X ((defBody s_law_one_right).getD 0 (.Pass ⟨0, 0, 0, 0⟩)) (sPar 1 2 (dCons (dMake 3 [] f_Ratio___init (dCons (dItem 0 (dCst (.int 0))) (dCons (dItem 0 (dCst (.int 1))) dNil))) (dCons (dCallP f_law_low (dCons (dItem 0 (dCst (.int 0))) (dCons (dItem 0 (dCst (.int 1))) dNil))) dNil))) := (Cok.par c0 (by decide +kernel) (by decide +kernel) (by decide) (by decide) (fun env h => by unfold swappedStores Env.blockKind Env.kindOf; rw [h]; rfl) (snd_cons (Cok.make c0 w1 (by decide +kernel) rfl rfl (snd_cons (Cok.item c0 (by decide +kernel) rfl snd_int) (snd_cons (Cok.item c0 (by decide +kernel) rfl snd_int) snd_nil (noStar_ne rfl)) (noStar_ne rfl))) (snd_cons (Cok.callP c0 w0 (by decide +kernel) rfl rfl (snd_cons (Cok.item c0 (by decide +kernel) rfl snd_int) (snd_cons (Cok.item c0 (by decide +kernel) rfl snd_int) snd_nil (noStar_ne rfl)) (noStar_ne rfl))) snd_nil (noStar_ne rfl)) (noStar_ne rfl)))
  have q1 : SndS (gg X.K C) false X ((defBody s_law_one_right).getD 1 (.Pass ⟨0, 0, 0, 0⟩)) (sIf (tOrD (tOf (dBin oNotEq (dCallP f_law_pair (dCons (dVar 1) dNil)) (dVar 2))) (tOf (dBin oNotEq (dBlt ostr (dCons (dVar 1) dNil)) (dCallP f_law_shown (dCons (dVar 2) dNil))))) (sSeq (sRet (dCst (.bl false)))
  sEnd) sEnd) := (snd_if (SndW.t (snd_orc (snd_cmpT (p_oNotEq c0 w2 w3) rfl (Cok.callP c0 w4 (by decide +kernel) rfl rfl (snd_cons (Cok.var c0 (by decide +kernel)) snd_nil (noStar_ne rfl))) (Cok.var c0 (by decide +kernel))) (snd_or1 (snd_cmpT (p_oNotEq c0 w2 w3) rfl (Cok.bltT c0 (snd_ownStr (snd_strf) w5) (by decide +kernel) z_str (by decide +kernel) rfl (snd_cons (Cok.var c0 (by decide +kernel)) snd_nil (noStar_ne rfl))) (Cok.callP c0 w6 (by decide +kernel) rfl rfl (snd_cons (Cok.var c0 (by decide +kernel)) snd_nil (noStar_ne rfl))))))) (snd_seq (snd_ret snd_bl)
  snd_end) snd_end)
  have q2 : SndS (gg X.K C) false X ((defBody s_law_one_right).getD 2 (.Pass ⟨0, 0, 0, 0⟩)) (sIf (tOf (dBin oNotEq (dBlt orepr (dCons (dVar 1) dNil)) (dBin oAdd (dBin oAdd (dBin oAdd (dBin oAdd (dCst (.str "Ratio(")) (dBlt ostr (dCons (dItem 2 (dCst (.int 0))) dNil))) (dCst (.str ", "))) (dBlt ostr (dCons (dItem 2 (dCst (.int 1))) dNil))) (dCst (.str ")"))))) (sSeq (sRet (dCst (.bl false)))
  sEnd) sEnd) := (snd_if (snd_cmpT (p_oNotEq c0 w2 w3) rfl (Cok.blt c0 (snd_ownRepr (snd_repr c0.hK gu c0.un) w7) (by decide +kernel) z_repr (by decide +kernel) rfl (snd_cons (Cok.var c0 (by decide +kernel)) snd_nil (noStar_ne rfl))) (snd_bin (p_oAdd c0 w2 w9 w10) (snd_bin (p_oAdd c0 w2 w9 w10) (snd_bin (p_oAdd c0 w2 w9 w10) (snd_bin (p_oAdd c0 w2 w9 w10) snd_str (Cok.bltT c0 (snd_ownStr (snd_strf) w5) (by decide +kernel) z_str (by decide +kernel) rfl (snd_cons (Cok.item c0 (by decide +kernel) rfl snd_int) snd_nil (noStar_ne rfl)))) snd_str) (Cok.bltT c0 (snd_ownStr (snd_strf) w5) (by decide +kernel) z_str (by decide +kernel) rfl (snd_cons (Cok.item c0 (by decide +kernel) rfl snd_int) snd_nil (noStar_ne rfl)))) snd_str)) (snd_seq (snd_ret snd_bl)
  snd_end) snd_end)
  have q3 : SndS (gg X.K C) false X ((defBody s_law_one_right).getD 3 (.Pass ⟨0, 0, 0, 0⟩)) (sAsg 3 (dIf (tOf (dBin oEq (dItem 2 (dCst (.int 0))) (dCst (.int 0)))) (dCst (.int 0)) (dIf (tOf (dBin (cmpB fun i j => decide (j < i)) (dItem 2 (dCst (.int 0))) (dCst (.int 0)))) (dCst (.int 1)) (dUn negB (dCst (.int 1)))))) := (Cok.asg c0 (by decide +kernel) rfl (by decide) (snd_vif (snd_cmpT (p_oEq c0 w2 w3) rfl (Cok.item c0 (by decide +kernel) rfl snd_int) snd_int) snd_int (snd_vif (snd_cmpT (snd_gt) rfl (Cok.item c0 (by decide +kernel) rfl snd_int) snd_int) snd_int (snd_un snd_neg snd_int))))
  have q4 : SndS (gg X.K C) false X ((defBody s_law_one_right).getD 4 (.Pass ⟨0, 0, 0, 0⟩)) (sIf (tOf (dBin oNotEq (dBlt orepr (dCons (dLst (dCons (dProp 3 f_Ratio_sign (dVar 1)) (dCons (dProp 3 f_Ratio_is_whole (dVar 1)) dNil))) dNil)) (dBlt orepr (dCons (dLst (dCons (dVar 3) (dCons (dBin oEq (dItem 2 (dCst (.int 1))) (dCst (.int 1))) dNil))) dNil)))) (sSeq (sRet (dCst (.bl false)))
  sEnd) sEnd) := (snd_if (snd_cmpT (p_oNotEq c0 w2 w3) rfl (Cok.blt c0 (snd_ownRepr (snd_repr c0.hK gu c0.un) w7) (by decide +kernel) z_repr (by decide +kernel) rfl (snd_cons (snd_lst (snd_cons (snd_prop w12 rfl (Cok.var c0 (by decide +kernel))) (snd_cons (snd_prop w11 rfl (Cok.var c0 (by decide +kernel))) snd_nil (noStar_ne rfl)) (noStar_ne rfl))) snd_nil (noStar_ne rfl))) (Cok.blt c0 (snd_ownRepr (snd_repr c0.hK gu c0.un) w7) (by decide +kernel) z_repr (by decide +kernel) rfl (snd_cons (snd_lst (snd_cons (Cok.var c0 (by decide +kernel)) (snd_cons (snd_cmp (p_oEq c0 w2 w3) rfl (Cok.item c0 (by decide +kernel) rfl snd_int) snd_int) snd_nil (noStar_ne rfl)) (noStar_ne rfl))) snd_nil (noStar_ne rfl)))) (snd_seq (snd_ret snd_bl)
  snd_end) snd_end)
  have q5 : SndS (gg X.K C) false X ((defBody s_law_one_right).getD 5 (.Pass ⟨0, 0, 0, 0⟩)) (sIf (tOf (dBin oNotEq (dCallP f_law_pair (dCons (dMeth 3 f_Ratio_size (dVar 1) dNil) dNil)) (dTup (dCons (dBlt absB (dCons (dItem 2 (dCst (.int 0))) dNil)) (dCons (dItem 2 (dCst (.int 1))) dNil))))) (sSeq (sRet (dCst (.bl false)))
  sEnd) sEnd) := (snd_if (snd_cmpT (p_oNotEq c0 w2 w3) rfl (Cok.callP c0 w4 (by decide +kernel) rfl rfl (snd_cons (snd_meth0 w13 ⟨_, rfl⟩ (Cok.var c0 (by decide +kernel))) snd_nil (noStar_ne rfl))) (snd_tup (snd_cons (Cok.blt c0 (snd_abs) (by decide +kernel) z_abs (by decide +kernel) rfl (snd_cons (Cok.item c0 (by decide +kernel) rfl snd_int) snd_nil (noStar_ne rfl))) (snd_cons (Cok.item c0 (by decide +kernel) rfl snd_int) snd_nil (noStar_ne rfl)) (noStar_ne rfl)))) (snd_seq (snd_ret snd_bl)
  snd_end) snd_end)
  have q6 : SndS (gg X.K C) false X ((defBody s_law_one_right).getD 6 (.Pass ⟨0, 0, 0, 0⟩)) (sIf (tOrD (tOf (dBin oNotEq (dCallP f_law_pair (dCons (dBin oSub (dCst (.int 0)) (dVar 1)) dNil)) (dTup (dCons (dBin oSub (dCst (.int 0)) (dItem 2 (dCst (.int 0)))) (dCons (dItem 2 (dCst (.int 1))) dNil))))) (tOf (dBin oNotEq (dCallP f_law_pair (dCons (dUn oNeg (dVar 1)) dNil)) (dTup (dCons (dBin oSub (dCst (.int 0)) (dItem 2 (dCst (.int 0)))) (dCons (dItem 2 (dCst (.int 1))) dNil)))))) (sSeq (sRet (dCst (.bl false)))
  sEnd) sEnd) := (snd_if (SndW.t (snd_orc (snd_cmpT (p_oNotEq c0 w2 w3) rfl (Cok.callP c0 w4 (by decide +kernel) rfl rfl (snd_cons (snd_bin (p_oSub c0 w2 w15 w16) snd_int (Cok.var c0 (by decide +kernel))) snd_nil (noStar_ne rfl))) (snd_tup (snd_cons (snd_bin (p_oSub c0 w2 w15 w16) snd_int (Cok.item c0 (by decide +kernel) rfl snd_int)) (snd_cons (Cok.item c0 (by decide +kernel) rfl snd_int) snd_nil (noStar_ne rfl)) (noStar_ne rfl)))) (snd_or1 (snd_cmpT (p_oNotEq c0 w2 w3) rfl (Cok.callP c0 w4 (by decide +kernel) rfl rfl (snd_cons (snd_un (snd_ownU snd_neg w17) (Cok.var c0 (by decide +kernel))) snd_nil (noStar_ne rfl))) (snd_tup (snd_cons (snd_bin (p_oSub c0 w2 w15 w16) snd_int (Cok.item c0 (by decide +kernel) rfl snd_int)) (snd_cons (Cok.item c0 (by decide +kernel) rfl snd_int) snd_nil (noStar_ne rfl)) (noStar_ne rfl))))))) (snd_seq (snd_ret snd_bl)
  snd_end) snd_end)
  have q7 : SndS (gg X.K C) false X ((defBody s_law_one_right).getD 7 (.Pass ⟨0, 0, 0, 0⟩)) (sAsg 4 (dLst (dCons (dCallP f_is_number (dCons (dVar 1) dNil)) (dCons (dCallP f_is_share (dCons (dVar 1) dNil)) (dCons (dCallP f_is_integer (dCons (dVar 1) dNil)) (dCons (dCallP f_is_count (dCons (dVar 1) dNil)) dNil)))))) := (Cok.asg c0 (by decide +kernel) rfl (by decide) (snd_lst (snd_cons (Cok.callP c0 w21 (by decide +kernel) rfl rfl (snd_cons (Cok.var c0 (by decide +kernel)) snd_nil (noStar_ne rfl))) (snd_cons (Cok.callP c0 w20 (by decide +kernel) rfl rfl (snd_cons (Cok.var c0 (by decide +kernel)) snd_nil (noStar_ne rfl))) (snd_cons (Cok.callP c0 w19 (by decide +kernel) rfl rfl (snd_cons (Cok.var c0 (by decide +kernel)) snd_nil (noStar_ne rfl))) (snd_cons (Cok.callP c0 w18 (by decide +kernel) rfl rfl (snd_cons (Cok.var c0 (by decide +kernel)) snd_nil (noStar_ne rfl))) snd_nil (noStar_ne rfl)) (noStar_ne rfl)) (noStar_ne rfl)) (noStar_ne rfl))))
  have q8 : SndS (gg X.K C) false X ((defBody s_law_one_right).getD 8 (.Pass ⟨0, 0, 0, 0⟩)) (sIf (tOf (dBin oNotEq (dVar 4) (dLst (dCons (dCst (.bl true)) (dCons (dChain (cmpB fun i j => decide (i ≤ j)) (cmpB fun i j => decide (i ≤ j)) (dCst (.int 0)) (dItem 2 (dCst (.int 0))) (dItem 2 (dCst (.int 1)))) (dCons (dCst (.bl false)) (dCons (dCst (.bl false)) dNil))))))) (sSeq (sRet (dCst (.bl false)))
  sEnd) sEnd) := (snd_if (snd_cmpT (p_oNotEq c0 w2 w3) rfl (Cok.var c0 (by decide +kernel)) (snd_lst (snd_cons snd_bl (snd_cons (snd_chain (snd_le) (snd_le) rfl snd_int (Cok.item c0 (by decide +kernel) rfl snd_int) (Cok.item c0 (by decide +kernel) rfl snd_int)) (snd_cons snd_bl (snd_cons snd_bl snd_nil (noStar_ne rfl)) (noStar_ne rfl)) (noStar_ne rfl)) (noStar_ne rfl)))) (snd_seq (snd_ret snd_bl)
  snd_end) snd_end)
  have q9 : SndS (gg X.K C) false X ((defBody s_law_one_right).getD 9 (.Pass ⟨0, 0, 0, 0⟩)) (sRet (dBin oEq (dCallP f_law_pair (dCons (dMake 3 [] f_Ratio___init (dCons (dItem 0 (dCst (.int 0))) (dCons (dItem 0 (dCst (.int 1))) dNil))) dNil)) (dVar 2))) := (snd_ret (snd_cmp (p_oEq c0 w2 w3) rfl (Cok.callP c0 w4 (by decide +kernel) rfl rfl (snd_cons (Cok.makeKw c0 w22 (by decide +kernel) rfl rfl ⟨rfl, rfl, rfl, rfl⟩ (snd_a0 (snd_kcons (Cok.item c0 (by decide +kernel) rfl snd_int) (snd_kcons (Cok.item c0 (by decide +kernel) rfl snd_int) snd_knil)))) snd_nil (noStar_ne rfl))) (Cok.var c0 (by decide +kernel))))
  exact (snd_seq q0 (snd_seq q1 (snd_seq q2 (snd_seq q3 (snd_seq q4 (snd_seq q5 (snd_seq q6 (snd_seq q7 (snd_seq q8 (snd_seq q9 snd_end))))))))))
theorem ok_law_sum (T : Txt K mg A Pp C FD) : FnD P w K mg base false 9 (A 32) (FD 32) ["_law_one", "_law_other"] (spD (gg K C) false 2 f_law_sum) := by
  refine fnD_of (N := ["_law_one", "_law_other"]) (FunD.a' T.F32) ⟨rfl, rfl, rfl, by decide +kernel, rfl, by decide +kernel, by decide +kernel⟩ rfl (by decide) fun X b => ?_
  have hp := b.prog; have hw := b.w; have hK := b.K; have hm := b.mg; have hb := b.base; subst hp hw hK hm hb
  have c0 : Cok (gg X.K C) ["_law_one", "_law_other"] (defScope s_law_sum) (fun _ => true) X := b.ctx rfl (by decide +kernel)
  have G := gok T
  have w1 : OpCls (gg X.K C) X 3 := ClsK.op T.k3 rfl
  have w2 : MOk (gg X.K C) X 3 "__mul__" 2 false f_Ratio___mul := ⟨⟨C 3, A 6, FD 6, ["self", "other"], 5, rfl, T.k3.cl, T.me6, b6 T, b.room.mono (by decide), ok_Ratio___mul T, rfl⟩, (show ("__mul__" : Str) ∉ (["own_top", "own_bottom"] : List Str) by decide +kernel)⟩
  have w3 : MOk (gg X.K C) X 3 "__rmul__" 2 false f_Ratio___rmul := ⟨⟨C 3, A 7, FD 7, ["self", "other"], 5, rfl, T.k3.cl, T.me7, b7 T, b.room.mono (by decide), ok_Ratio___rmul T, rfl⟩, (show ("__rmul__" : Str) ∉ (["own_top", "own_bottom"] : List Str) by decide +kernel)⟩
  have w5 : MOk (gg X.K C) X 3 "__add__" 2 false f_Ratio___add := ⟨⟨C 3, A 4, FD 4, ["self", "other"], 5, rfl, T.k3.cl, T.me4, b4 T, b.room.mono (by decide), ok_Ratio___add T, rfl⟩, (show ("__add__" : Str) ∉ (["own_top", "own_bottom"] : List Str) by decide +kernel)⟩
  have w6 : MOk (gg X.K C) X 3 "__radd__" 2 false f_Ratio___radd := ⟨⟨C 3, A 5, FD 5, ["self", "other"], 5, rfl, T.k3.cl, T.me5, b5 T, b.room.mono (by decide), ok_Ratio___radd T, rfl⟩, (show ("__radd__" : Str) ∉ (["own_top", "own_bottom"] : List Str) by decide +kernel)⟩
  have w7 : CallOk X "_law_low" false 2 (spD (gg X.K C) false 2 f_law_low) := ⟨_, FD 14, ["_law_top", "_law_bottom"], 8, T.g14, T.F14.kp, b14 T, b.room.mono (by decide), (fun z => nomatch z), ok_law_low T, rfl⟩
  exact (snd_seq (snd_ret (Cok.callP c0 w7 (by decide +kernel) rfl rfl (snd_cons (snd_bin (p_oAdd c0 w1 w5 w6) (snd_bin (p_oMult c0 w1 w2 w3) (Cok.item c0 (by decide +kernel) rfl snd_int) (Cok.item c0 (by decide +kernel) rfl snd_int)) (snd_bin (p_oMult c0 w1 w2 w3) (Cok.item c0 (by decide +kernel) rfl snd_int) (Cok.item c0 (by decide +kernel) rfl snd_int))) (snd_cons (snd_bin (p_oMult c0 w1 w2 w3) (Cok.item c0 (by decide +kernel) rfl snd_int) (Cok.item c0 (by decide +kernel) rfl snd_int)) snd_nil (noStar_ne rfl)) (noStar_ne rfl))))
  snd_end)
theorem ok_law_by (T : Txt K mg A Pp C FD) : FnD P w K mg base false 9 (A 33) (FD 33) ["_law_one", "_law_other"] (spD (gg K C) false 2 f_law_by) := by
  refine fnD_of (N := ["_law_one", "_law_other"]) (FunD.a' T.F33) ⟨rfl, rfl, rfl, by decide +kernel, rfl, by decide +kernel, by decide +kernel⟩ rfl (by decide) fun X b => ?_
  have hp := b.prog; have hw := b.w; have hK := b.K; have hm := b.mg; have hb := b.base; subst hp hw hK hm hb
  have c0 : Cok (gg X.K C) ["_law_one", "_law_other"] (defScope s_law_by) (fun _ => true) X := b.ctx rfl (by decide +kernel)
  have G := gok T
  have w1 : OpCls (gg X.K C) X 3 := ClsK.op T.k3 rfl
  have w2 : MOk (gg X.K C) X 3 "__mul__" 2 false f_Ratio___mul := ⟨⟨C 3, A 6, FD 6, ["self", "other"], 5, rfl, T.k3.cl, T.me6, b6 T, b.room.mono (by decide), ok_Ratio___mul T, rfl⟩, (show ("__mul__" : Str) ∉ (["own_top", "own_bottom"] : List Str) by decide +kernel)⟩
  have w3 : MOk (gg X.K C) X 3 "__rmul__" 2 false f_Ratio___rmul := ⟨⟨C 3, A 7, FD 7, ["self", "other"], 5, rfl, T.k3.cl, T.me7, b7 T, b.room.mono (by decide), ok_Ratio___rmul T, rfl⟩, (show ("__rmul__" : Str) ∉ (["own_top", "own_bottom"] : List Str) by decide +kernel)⟩
  have w4 : CallOk X "_law_low" false 2 (spD (gg X.K C) false 2 f_law_low) := ⟨_, FD 14, ["_law_top", "_law_bottom"], 8, T.g14, T.F14.kp, b14 T, b.room.mono (by decide), (fun z => nomatch z), ok_law_low T, rfl⟩
  exact (snd_seq (snd_ret (Cok.callP c0 w4 (by decide +kernel) rfl rfl (snd_cons (snd_bin (p_oMult c0 w1 w2 w3) (Cok.item c0 (by decide +kernel) rfl snd_int) (Cok.item c0 (by decide +kernel) rfl snd_int)) (snd_cons (snd_bin (p_oMult c0 w1 w2 w3) (Cok.item c0 (by decide +kernel) rfl snd_int) (Cok.item c0 (by decide +kernel) rfl snd_int)) snd_nil (noStar_ne rfl)) (noStar_ne rfl))))
  snd_end)
theorem ok_law_less (T : Txt K mg A Pp C FD) : FnD P w K mg base false 10 (A 34) (FD 34) ["_law_one", "_law_other"] (spD (gg K C) false 2 f_law_less) := by
  refine fnD_of (N := ["_law_one", "_law_other"]) (FunD.a' T.F34) ⟨rfl, rfl, rfl, by decide +kernel, rfl, by decide +kernel, by decide +kernel⟩ rfl (by decide) fun X b => ?_
  have hp := b.prog; have hw := b.w; have hK := b.K; have hm := b.mg; have hb := b.base; subst hp hw hK hm hb
  have c0 : Cok (gg X.K C) ["_law_one", "_law_other"] (defScope s_law_less) (fun _ => true) X := b.ctx rfl (by decide +kernel)
  have G := gok T
  have w1 : OpCls (gg X.K C) X 3 := ClsK.op T.k3 rfl
  have w2 : MOk (gg X.K C) X 3 "__sub__" 2 false f_Ratio___sub := ⟨⟨C 3, A 10, FD 10, ["self", "other"], 5, rfl, T.k3.cl, T.me10, b10 T, b.room.mono (by decide), ok_Ratio___sub T, rfl⟩, (show ("__sub__" : Str) ∉ (["own_top", "own_bottom"] : List Str) by decide +kernel)⟩
  have w3 : MOk (gg X.K C) X 3 "__rsub__" 2 false f_Ratio___rsub := ⟨⟨C 3, A 11, FD 11, ["self", "other"], 5, rfl, T.k3.cl, T.me11, b11 T, b.room.mono (by decide), ok_Ratio___rsub T, rfl⟩, (show ("__rsub__" : Str) ∉ (["own_top", "own_bottom"] : List Str) by decide +kernel)⟩
  have w4 : CallOk X "_law_sum" false 2 (spD (gg X.K C) false 2 f_law_sum) := ⟨_, FD 32, ["_law_one", "_law_other"], 9, T.g32, T.F32.kp, b32 T, b.room.mono (by decide), (fun z => nomatch z), ok_law_sum T, rfl⟩
  exact (snd_seq (snd_ret (Cok.callP c0 w4 (by decide +kernel) rfl rfl (snd_cons (Cok.var c0 (by decide +kernel)) (snd_cons (snd_tup (snd_cons (snd_bin (p_oSub c0 w1 w2 w3) snd_int (Cok.item c0 (by decide +kernel) rfl snd_int)) (snd_cons (Cok.item c0 (by decide +kernel) rfl snd_int) snd_nil (noStar_ne rfl)) (noStar_ne rfl))) snd_nil (noStar_ne rfl)) (noStar_ne rfl))))
  snd_end)
theorem ok_law_pairs (T : Txt K mg A Pp C FD) : FnD P w K mg base false 5 (A 35) (FD 35) ["_law_value"] (spD (gg K C) false 1 f_law_pairs) := by
  refine fnD_of (N := ["_law_value", "_law_one"]) (FunD.a' T.F35) ⟨rfl, rfl, rfl, by decide +kernel, rfl, by decide +kernel, by decide +kernel⟩ rfl (by decide) fun X b => ?_
  have hp := b.prog; have hw := b.w; have hK := b.K; have hm := b.mg; have hb := b.base; subst hp hw hK hm hb
  have c0 : Cok (gg X.K C) ["_law_value", "_law_one"] (defScope s_law_pairs) (fun _ => true) X := b.ctx rfl (by decide +kernel)
  have G := gok T
  have z_isinstance := T.z_isinstance
  have z_list := T.z_list
  have w0 : CallOk X "_law_pair" false 1 (spD (gg X.K C) false 1 f_law_pair) := ⟨_, FD 17, ["_law_value"], 4, T.g17, T.F17.kp, b17 T, b.room.mono (by decide), (fun z => nomatch z), ok_law_pair T, rfl⟩
  exact (snd_seq (snd_ret (snd_vif (snd_tval rfl (Cok.blt c0 (snd_isi G c0.hK) (by decide +kernel) z_isinstance (by decide +kernel) rfl (snd_cons (Cok.var c0 (by decide +kernel)) (snd_cons (Cok.ty c0 (by decide +kernel) z_list (by decide +kernel)) snd_nil (noStar_ne rfl)) (noStar_ne rfl)))) (Cok.lc c0 (own := [("_law_one", 1)]) (by decide +kernel) rfl rfl (Cok.iseq c0 (Cok.var c0 (by decide +kernel))) (fun _ _ _ _ _ => (Cok.gnm (c0.blk) (by decide +kernel))) (fun _ _ _ _ _ => (Cok.callP (c0.blk) w0.blk (by decide +kernel) rfl rfl (snd_cons (Cok.var (c0.blk) (by decide +kernel)) snd_nil (noStar_ne rfl))))) snd_non))
  snd_end)
theorem ok_Ratio_over (T : Txt K mg A Pp C FD) : FnD P w K mg base false 8 (A 36) (FD 36) ["self", "other"] (spD (gg K C) false 2 f_Ratio_over) := by
  refine fnD_of (N := ["self", "other", "top", "bottom"]) (FunD.a' T.F36) ⟨rfl, rfl, rfl, by decide +kernel, rfl, by decide +kernel, by decide +kernel⟩ rfl (by decide) fun X b => ?_
  have hp := b.prog; have hw := b.w; have hK := b.K; have hm := b.mg; have hb := b.base; subst hp hw hK hm hb
  have c0 : Cok (gg X.K C) ["self", "other", "top", "bottom"] (defScope s_Ratio_over) (fun _ => true) X := b.ctx rfl (by decide +kernel)
  have G := gok T
  have w0 : CallOk X "told_pair" false 1 (spD (gg X.K C) false 1 f_told_pair) := ⟨_, FD 1, ["value"], 2, T.g1, T.F1.kp, b1 T, b.room.mono (by decide), (fun z => nomatch z), ok_told_pair T, rfl⟩
  have w1 : OpCls (gg X.K C) X 3 := ClsK.op T.k3 rfl
  have w2 : MOk (gg X.K C) X 3 "__eq__" 2 false f_Ratio___eq := ⟨⟨C 3, A 12, FD 12, ["self", "other"], 1, rfl, T.k3.cl, T.me12, b12 T, b.room.mono (by decide), ok_Ratio___eq T, rfl⟩, (show ("__eq__" : Str) ∉ (["own_top", "own_bottom"] : List Str) by decide +kernel)⟩
  have w4 : MOk (gg X.K C) X 3 "__mul__" 2 false f_Ratio___mul := ⟨⟨C 3, A 6, FD 6, ["self", "other"], 5, rfl, T.k3.cl, T.me6, b6 T, b.room.mono (by decide), ok_Ratio___mul T, rfl⟩, (show ("__mul__" : Str) ∉ (["own_top", "own_bottom"] : List Str) by decide +kernel)⟩
  have w5 : MOk (gg X.K C) X 3 "__rmul__" 2 false f_Ratio___rmul := ⟨⟨C 3, A 7, FD 7, ["self", "other"], 5, rfl, T.k3.cl, T.me7, b7 T, b.room.mono (by decide), ok_Ratio___rmul T, rfl⟩, (show ("__rmul__" : Str) ∉ (["own_top", "own_bottom"] : List Str) by decide +kernel)⟩
  have w6 : FldOk (gg X.K C) X 3 "own_bottom" 1 := ⟨rfl, (show (["own_top", "own_bottom"] : List Str).Nodup by decide +kernel), (show (["own_top", "own_bottom"] : List Str).length < 1000 by decide), fun D hD => by cases (show some (C 3) = some D from hD); exact ⟨T.k3.cl, T.n3_1⟩⟩
  have w7 : FldOk (gg X.K C) X 3 "own_top" 0 := ⟨rfl, (show (["own_top", "own_bottom"] : List Str).Nodup by decide +kernel), (show (["own_top", "own_bottom"] : List Str).length < 1000 by decide), fun D hD => by cases (show some (C 3) = some D from hD); exact ⟨T.k3.cl, T.n3_0⟩⟩
  have w8 : MkOk (gg X.K C) X 3 "Ratio" 3 [] f_Ratio___init := by
    obtain ⟨ds, dv, bi⟩ := (FunD.binds1 (ps := ["self", "top", "bottom"]) T.F3 3 1 (by simp) rfl fun _ _ _ _ _ _ _ us its l1 l2 => match us, its, l1, l2 with | [_, _, _], [_], _, _ => ⟨_, rfl, rfl⟩)
    exact ⟨⟨C 3, A 3, FD 3, ["self", "top", "bottom"], 2, _, ds, rfl, T.mc3, T.mk3, bi, dv, fun _ _ => .nil, b.room.mono (by decide), ok_Ratio___init T, rfl⟩⟩
  exact (snd_seq (Cok.asgT c0 (Cok.callP c0 w0 (by decide +kernel) rfl rfl (snd_cons (Cok.var c0 (by decide +kernel)) snd_nil (noStar_ne rfl))) (Cok.gtup c0 (.cons (Cok.gnm c0 (by decide +kernel)) rfl (.cons (Cok.gnm c0 (by decide +kernel)) rfl .nil))) (by decide) rfl rfl rfl)
  (snd_seq (snd_if (snd_cmpT (p_oEq c0 w1 w2) rfl (Cok.var c0 (by decide +kernel)) snd_int) (snd_seq snd_no
  snd_end) snd_end)
  (snd_seq (snd_ret (Cok.make c0 w8 (by decide +kernel) rfl rfl (snd_cons (snd_bin (p_oMult c0 w1 w4 w5) (Cok.fldV c0 w7 (by decide +kernel) rfl) (Cok.var c0 (by decide +kernel))) (snd_cons (snd_bin (p_oMult c0 w1 w4 w5) (Cok.fldV c0 w6 (by decide +kernel) rfl) (Cok.var c0 (by decide +kernel))) snd_nil (noStar_ne rfl)) (noStar_ne rfl))))
  snd_end)))
theorem ok_law_over (T : Txt K mg A Pp C FD) : FnD P w K mg base false 9 (A 37) (FD 37) ["_law_one", "_law_other"] (spD (gg K C) false 2 f_law_over) := by
  refine fnD_of (N := ["_law_one", "_law_other"]) (FunD.a' T.F37) ⟨rfl, rfl, rfl, by decide +kernel, rfl, by decide +kernel, by decide +kernel⟩ rfl (by decide) fun X b => ?_
  have hp := b.prog; have hw := b.w; have hK := b.K; have hm := b.mg; have hb := b.base; subst hp hw hK hm hb
  have c0 : Cok (gg X.K C) ["_law_one", "_law_other"] (defScope s_law_over) (fun _ => true) X := b.ctx rfl (by decide +kernel)
  have G := gok T
  have w1 : OpCls (gg X.K C) X 3 := ClsK.op T.k3 rfl
  have w2 : MOk (gg X.K C) X 3 "__mul__" 2 false f_Ratio___mul := ⟨⟨C 3, A 6, FD 6, ["self", "other"], 5, rfl, T.k3.cl, T.me6, b6 T, b.room.mono (by decide), ok_Ratio___mul T, rfl⟩, (show ("__mul__" : Str) ∉ (["own_top", "own_bottom"] : List Str) by decide +kernel)⟩
  have w3 : MOk (gg X.K C) X 3 "__rmul__" 2 false f_Ratio___rmul := ⟨⟨C 3, A 7, FD 7, ["self", "other"], 5, rfl, T.k3.cl, T.me7, b7 T, b.room.mono (by decide), ok_Ratio___rmul T, rfl⟩, (show ("__rmul__" : Str) ∉ (["own_top", "own_bottom"] : List Str) by decide +kernel)⟩
  have w4 : CallOk X "_law_low" false 2 (spD (gg X.K C) false 2 f_law_low) := ⟨_, FD 14, ["_law_top", "_law_bottom"], 8, T.g14, T.F14.kp, b14 T, b.room.mono (by decide), (fun z => nomatch z), ok_law_low T, rfl⟩
  exact (snd_seq (snd_ret (Cok.callP c0 w4 (by decide +kernel) rfl rfl (snd_cons (snd_bin (p_oMult c0 w1 w2 w3) (Cok.item c0 (by decide +kernel) rfl snd_int) (Cok.item c0 (by decide +kernel) rfl snd_int)) (snd_cons (snd_bin (p_oMult c0 w1 w2 w3) (Cok.item c0 (by decide +kernel) rfl snd_int) (Cok.item c0 (by decide +kernel) rfl snd_int)) snd_nil (noStar_ne rfl)) (noStar_ne rfl))))
  snd_end)
theorem ok_Ratio_is_below (T : Txt K mg A Pp C FD) : FnD P w K mg base false 8 (A 38) (FD 38) ["self", "other"] (spD (gg K C) false 2 f_Ratio_is_below) := by
  refine fnD_of (N := ["self", "other", "top", "bottom"]) (FunD.a' T.F38) ⟨rfl, rfl, rfl, by decide +kernel, rfl, by decide +kernel, by decide +kernel⟩ rfl (by decide) fun X b => ?_
  have hp := b.prog; have hw := b.w; have hK := b.K; have hm := b.mg; have hb := b.base; subst hp hw hK hm hb
  have c0 : Cok (gg X.K C) ["self", "other", "top", "bottom"] (defScope s_Ratio_is_below) (fun _ => true) X := b.ctx rfl (by decide +kernel)
  have G := gok T
  have w0 : CallOk X "told_pair" false 1 (spD (gg X.K C) false 1 f_told_pair) := ⟨_, FD 1, ["value"], 2, T.g1, T.F1.kp, b1 T, b.room.mono (by decide), (fun z => nomatch z), ok_told_pair T, rfl⟩
  have w2 : OpCls (gg X.K C) X 3 := ClsK.op T.k3 rfl
  have w3 : MOk (gg X.K C) X 3 "__mul__" 2 false f_Ratio___mul := ⟨⟨C 3, A 6, FD 6, ["self", "other"], 5, rfl, T.k3.cl, T.me6, b6 T, b.room.mono (by decide), ok_Ratio___mul T, rfl⟩, (show ("__mul__" : Str) ∉ (["own_top", "own_bottom"] : List Str) by decide +kernel)⟩
  have w4 : MOk (gg X.K C) X 3 "__rmul__" 2 false f_Ratio___rmul := ⟨⟨C 3, A 7, FD 7, ["self", "other"], 5, rfl, T.k3.cl, T.me7, b7 T, b.room.mono (by decide), ok_Ratio___rmul T, rfl⟩, (show ("__rmul__" : Str) ∉ (["own_top", "own_bottom"] : List Str) by decide +kernel)⟩
  have w5 : FldOk (gg X.K C) X 3 "own_top" 0 := ⟨rfl, (show (["own_top", "own_bottom"] : List Str).Nodup by decide +kernel), (show (["own_top", "own_bottom"] : List Str).length < 1000 by decide), fun D hD => by cases (show some (C 3) = some D from hD); exact ⟨T.k3.cl, T.n3_0⟩⟩
  have w6 : FldOk (gg X.K C) X 3 "own_bottom" 1 := ⟨rfl, (show (["own_top", "own_bottom"] : List Str).Nodup by decide +kernel), (show (["own_top", "own_bottom"] : List Str).length < 1000 by decide), fun D hD => by cases (show some (C 3) = some D from hD); exact ⟨T.k3.cl, T.n3_1⟩⟩
  exact (snd_seq (Cok.asgT c0 (Cok.callP c0 w0 (by decide +kernel) rfl rfl (snd_cons (Cok.var c0 (by decide +kernel)) snd_nil (noStar_ne rfl))) (Cok.gtup c0 (.cons (Cok.gnm c0 (by decide +kernel)) rfl (.cons (Cok.gnm c0 (by decide +kernel)) rfl .nil))) (by decide) rfl rfl rfl)
  (snd_seq (snd_ret (snd_cmp (snd_lt) rfl (snd_bin (p_oMult c0 w2 w3 w4) (Cok.fldV c0 w5 (by decide +kernel) rfl) (Cok.var c0 (by decide +kernel))) (snd_bin (p_oMult c0 w2 w3 w4) (Cok.var c0 (by decide +kernel)) (Cok.fldV c0 w6 (by decide +kernel) rfl))))
  snd_end))
theorem ok_law_two_right (T : Txt K mg A Pp C FD) : FnD P w K mg base false 11 (A 39) (FD 39) ["_law_raw_here", "_law_other_raw", "_law_number"] (spD (gg K C) false 3 f_law_two_right) := by
  refine fnD_of (N := ["_law_raw_here", "_law_other_raw", "_law_number", "_law_made", "_law_mate", "_law_one", "_law_two", "_law_whole", "_law_told", "_law_due", "_law_below", "_law_above"]) (FunD.a' T.F39) ⟨rfl, rfl, rfl, by decide +kernel, rfl, by decide +kernel, by decide +kernel⟩ rfl (by decide) fun X b => ?_
  have hp := b.prog; have hw := b.w; have hK := b.K; have hm := b.mg; have hb := b.base; subst hp hw hK hm hb
  have c0 : Cok (gg X.K C) ["_law_raw_here", "_law_other_raw", "_law_number", "_law_made", "_law_mate", "_law_one", "_law_two", "_law_whole", "_law_told", "_law_due", "_law_below", "_law_above"] (defScope s_law_two_right) (fun _ => true) X := b.ctx rfl (by decide +kernel)
  have G := gok T
  have w0 : MkOk (gg X.K C) X 3 "Ratio" 3 [] f_Ratio___init := by
    obtain ⟨ds, dv, bi⟩ := (FunD.binds1 (ps := ["self", "top", "bottom"]) T.F3 3 1 (by simp) rfl fun _ _ _ _ _ _ _ us its l1 l2 => match us, its, l1, l2 with | [_, _, _], [_], _, _ => ⟨_, rfl, rfl⟩)
    exact ⟨⟨C 3, A 3, FD 3, ["self", "top", "bottom"], 2, _, ds, rfl, T.mc3, T.mk3, bi, dv, fun _ _ => .nil, b.room.mono (by decide), ok_Ratio___init T, rfl⟩⟩
  have w1 : CallOk X "_law_low" false 2 (spD (gg X.K C) false 2 f_law_low) := ⟨_, FD 14, ["_law_top", "_law_bottom"], 8, T.g14, T.F14.kp, b14 T, b.room.mono (by decide), (fun z => nomatch z), ok_law_low T, rfl⟩
  have w3 : OpCls (gg X.K C) X 3 := ClsK.op T.k3 rfl
  have w4 : MOk (gg X.K C) X 3 "__mul__" 2 false f_Ratio___mul := ⟨⟨C 3, A 6, FD 6, ["self", "other"], 5, rfl, T.k3.cl, T.me6, b6 T, b.room.mono (by decide), ok_Ratio___mul T, rfl⟩, (show ("__mul__" : Str) ∉ (["own_top", "own_bottom"] : List Str) by decide +kernel)⟩
  have w5 : MOk (gg X.K C) X 3 "__rmul__" 2 false f_Ratio___rmul := ⟨⟨C 3, A 7, FD 7, ["self", "other"], 5, rfl, T.k3.cl, T.me7, b7 T, b.room.mono (by decide), ok_Ratio___rmul T, rfl⟩, (show ("__rmul__" : Str) ∉ (["own_top", "own_bottom"] : List Str) by decide +kernel)⟩
  have w7 : MOk (gg X.K C) X 3 "__add__" 2 false f_Ratio___add := ⟨⟨C 3, A 4, FD 4, ["self", "other"], 5, rfl, T.k3.cl, T.me4, b4 T, b.room.mono (by decide), ok_Ratio___add T, rfl⟩, (show ("__add__" : Str) ∉ (["own_top", "own_bottom"] : List Str) by decide +kernel)⟩
  have w8 : MOk (gg X.K C) X 3 "__radd__" 2 false f_Ratio___radd := ⟨⟨C 3, A 5, FD 5, ["self", "other"], 5, rfl, T.k3.cl, T.me5, b5 T, b.room.mono (by decide), ok_Ratio___radd T, rfl⟩, (show ("__radd__" : Str) ∉ (["own_top", "own_bottom"] : List Str) by decide +kernel)⟩
  have w10 : MOk (gg X.K C) X 3 "__sub__" 2 false f_Ratio___sub := ⟨⟨C 3, A 10, FD 10, ["self", "other"], 5, rfl, T.k3.cl, T.me10, b10 T, b.room.mono (by decide), ok_Ratio___sub T, rfl⟩, (show ("__sub__" : Str) ∉ (["own_top", "own_bottom"] : List Str) by decide +kernel)⟩
  have w11 : MOk (gg X.K C) X 3 "__rsub__" 2 false f_Ratio___rsub := ⟨⟨C 3, A 11, FD 11, ["self", "other"], 5, rfl, T.k3.cl, T.me11, b11 T, b.room.mono (by decide), ok_Ratio___rsub T, rfl⟩, (show ("__rsub__" : Str) ∉ (["own_top", "own_bottom"] : List Str) by decide +kernel)⟩
  have w12 : CallOk X "_law_sum" false 2 (spD (gg X.K C) false 2 f_law_sum) := ⟨_, FD 32, ["_law_one", "_law_other"], 9, T.g32, T.F32.kp, b32 T, b.room.mono (by decide), (fun z => nomatch z), ok_law_sum T, rfl⟩
  have w13 : CallOk X "_law_by" false 2 (spD (gg X.K C) false 2 f_law_by) := ⟨_, FD 33, ["_law_one", "_law_other"], 9, T.g33, T.F33.kp, b33 T, b.room.mono (by decide), (fun z => nomatch z), ok_law_by T, rfl⟩
  have w14 : CallOk X "_law_less" false 2 (spD (gg X.K C) false 2 f_law_less) := ⟨_, FD 34, ["_law_one", "_law_other"], 10, T.g34, T.F34.kp, b34 T, b.room.mono (by decide), (fun z => nomatch z), ok_law_less T, rfl⟩
  have w15 : MOk (gg X.K C) X 3 "__eq__" 2 false f_Ratio___eq := ⟨⟨C 3, A 12, FD 12, ["self", "other"], 1, rfl, T.k3.cl, T.me12, b12 T, b.room.mono (by decide), ok_Ratio___eq T, rfl⟩, (show ("__eq__" : Str) ∉ (["own_top", "own_bottom"] : List Str) by decide +kernel)⟩
  have w16 : CallOk X "_law_pairs" false 1 (spD (gg X.K C) false 1 f_law_pairs) := ⟨_, FD 35, ["_law_value"], 5, T.g35, T.F35.kp, b35 T, b.room.mono (by decide), (fun z => nomatch z), ok_law_pairs T, rfl⟩
  have w17 : MKOk (gg X.K C) X 3 "over" 0 ["other"] f_Ratio_over := ⟨⟨C 3, A 36, FD 36, ["self", "other"], 8, rfl, T.k3.cl, T.me36, (FunD.kwN T.F36 fun _ _ _ _ _ _ us ws l1 l2 => match us, ws, l1, l2 with | [_], [_], _, _ => rfl), b.room.mono (by decide), ok_Ratio_over T⟩, (show ("over" : Str) ∉ (["own_top", "own_bottom"] : List Str) by decide +kernel)⟩
  have w18 : CallOk X "_law_pair" false 1 (spD (gg X.K C) false 1 f_law_pair) := ⟨_, FD 17, ["_law_value"], 4, T.g17, T.F17.kp, b17 T, b.room.mono (by decide), (fun z => nomatch z), ok_law_pair T, rfl⟩
  have w19 : MOk (gg X.K C) X 3 "over" 2 false f_Ratio_over := ⟨⟨C 3, A 36, FD 36, ["self", "other"], 8, rfl, T.k3.cl, T.me36, b36 T, b.room.mono (by decide), ok_Ratio_over T, rfl⟩, (show ("over" : Str) ∉ (["own_top", "own_bottom"] : List Str) by decide +kernel)⟩
  have w20 : CallOk X "_law_over" false 2 (spD (gg X.K C) false 2 f_law_over) := ⟨_, FD 37, ["_law_one", "_law_other"], 9, T.g37, T.F37.kp, b37 T, b.room.mono (by decide), (fun z => nomatch z), ok_law_over T, rfl⟩
  have w21 : MOk (gg X.K C) X 3 "is_at_most" 2 false f_Ratio_is_at_most := ⟨⟨C 3, A 27, FD 27, ["self", "other"], 8, rfl, T.k3.cl, T.me27, b27 T, b.room.mono (by decide), ok_Ratio_is_at_most T, rfl⟩, (show ("is_at_most" : Str) ∉ (["own_top", "own_bottom"] : List Str) by decide +kernel)⟩
  have w22 : MOk (gg X.K C) X 3 "is_below" 2 false f_Ratio_is_below := ⟨⟨C 3, A 38, FD 38, ["self", "other"], 8, rfl, T.k3.cl, T.me38, b38 T, b.room.mono (by decide), ok_Ratio_is_below T, rfl⟩, (show ("is_below" : Str) ∉ (["own_top", "own_bottom"] : List Str) by decide +kernel)⟩
  have q0 : SndS (gg X.K C) false X ((defBody s_law_two_right).getD 0 (.Pass ⟨0, 0, 0, 0⟩)) (sPar 3 4 (dCons (dMake 3 [] f_Ratio___init (dCons (dItem 0 (dCst (.int 0))) (dCons (dItem 0 (dCst (.int 1))) dNil))) (dCons (dMake 3 [] f_Ratio___init (dCons (dItem 1 (dCst (.int 0))) (dCons (dItem 1 (dCst (.int 1))) dNil))) dNil))) := (Cok.par c0 (by decide +kernel) (by decide +kernel) (by decide) (by decide) (fun env h => by unfold swappedStores Env.blockKind Env.kindOf; rw [h]; rfl) (snd_cons (Cok.make c0 w0 (by decide +kernel) rfl rfl (snd_cons (Cok.item c0 (by decide +kernel) rfl snd_int) (snd_cons (Cok.item c0 (by decide +kernel) rfl snd_int) snd_nil (noStar_ne rfl)) (noStar_ne rfl))) (snd_cons (Cok.make c0 w0 (by decide +kernel) rfl rfl (snd_cons (Cok.item c0 (by decide +kernel) rfl snd_int) (snd_cons (Cok.item c0 (by decide +kernel) rfl snd_int) snd_nil (noStar_ne rfl)) (noStar_ne rfl))) snd_nil (noStar_ne rfl)) (noStar_ne rfl)))
  have q1 : SndS (gg X.K C) false X ((defBody s_law_two_right).getD 1 (.Pass ⟨0, 0, 0, 0⟩)) (sPar3 5 6 7 (dCons (dCallP f_law_low (dCons (dItem 0 (dCst (.int 0))) (dCons (dItem 0 (dCst (.int 1))) dNil))) (dCons (dCallP f_law_low (dCons (dItem 1 (dCst (.int 0))) (dCons (dItem 1 (dCst (.int 1))) dNil))) (dCons (dTup (dCons (dVar 2) (dCons (dCst (.int 1)) dNil))) dNil)))) := (Cok.par3 c0 (by decide +kernel) (by decide +kernel) (by decide +kernel) (by decide) (by decide) (by decide) (by decide) (fun env h => by unfold swappedStores Env.blockKind Env.kindOf; rw [h]; rfl) (snd_cons (Cok.callP c0 w1 (by decide +kernel) rfl rfl (snd_cons (Cok.item c0 (by decide +kernel) rfl snd_int) (snd_cons (Cok.item c0 (by decide +kernel) rfl snd_int) snd_nil (noStar_ne rfl)) (noStar_ne rfl))) (snd_cons (Cok.callP c0 w1 (by decide +kernel) rfl rfl (snd_cons (Cok.item c0 (by decide +kernel) rfl snd_int) (snd_cons (Cok.item c0 (by decide +kernel) rfl snd_int) snd_nil (noStar_ne rfl)) (noStar_ne rfl))) (snd_cons (snd_tup (snd_cons (Cok.var c0 (by decide +kernel)) (snd_cons snd_int snd_nil (noStar_ne rfl)) (noStar_ne rfl))) snd_nil (noStar_ne rfl)) (noStar_ne rfl)) (noStar_ne rfl)))
  have q2 : SndS (gg X.K C) false X ((defBody s_law_two_right).getD 2 (.Pass ⟨0, 0, 0, 0⟩)) (sAsg 8 (dLst (dCons (dBin oAdd (dVar 3) (dVar 4)) (dCons (dBin oSub (dVar 3) (dVar 4)) (dCons (dBin oMult (dVar 3) (dVar 4)) (dCons (dBin oAdd (dVar 3) (dVar 2)) (dCons (dBin oAdd (dVar 2) (dVar 3)) (dCons (dBin oMult (dVar 3) (dVar 2)) (dCons (dBin oMult (dVar 2) (dVar 3)) dNil))))))))) := (Cok.asg c0 (by decide +kernel) rfl (by decide) (snd_lst (snd_cons (snd_bin (p_oAdd c0 w3 w7 w8) (Cok.var c0 (by decide +kernel)) (Cok.var c0 (by decide +kernel))) (snd_cons (snd_bin (p_oSub c0 w3 w10 w11) (Cok.var c0 (by decide +kernel)) (Cok.var c0 (by decide +kernel))) (snd_cons (snd_bin (p_oMult c0 w3 w4 w5) (Cok.var c0 (by decide +kernel)) (Cok.var c0 (by decide +kernel))) (snd_cons (snd_bin (p_oAdd c0 w3 w7 w8) (Cok.var c0 (by decide +kernel)) (Cok.var c0 (by decide +kernel))) (snd_cons (snd_bin (p_oAdd c0 w3 w7 w8) (Cok.var c0 (by decide +kernel)) (Cok.var c0 (by decide +kernel))) (snd_cons (snd_bin (p_oMult c0 w3 w4 w5) (Cok.var c0 (by decide +kernel)) (Cok.var c0 (by decide +kernel))) (snd_cons (snd_bin (p_oMult c0 w3 w4 w5) (Cok.var c0 (by decide +kernel)) (Cok.var c0 (by decide +kernel))) snd_nil (noStar_ne rfl)) (noStar_ne rfl)) (noStar_ne rfl)) (noStar_ne rfl)) (noStar_ne rfl)) (noStar_ne rfl)) (noStar_ne rfl))))
  have q3 : SndS (gg X.K C) false X ((defBody s_law_two_right).getD 3 (.Pass ⟨0, 0, 0, 0⟩)) (sExpr (dApp 8 (dBin oSub (dVar 2) (dVar 3)))) := (snd_expr rfl (Cok.app c0 (by decide +kernel) rfl rfl (snd_bin (p_oSub c0 w3 w10 w11) (Cok.var c0 (by decide +kernel)) (Cok.var c0 (by decide +kernel)))))
  have q4 : SndS (gg X.K C) false X ((defBody s_law_two_right).getD 4 (.Pass ⟨0, 0, 0, 0⟩)) (sAsg 9 (dLst (dCons (dCallP f_law_sum (dCons (dVar 5) (dCons (dVar 6) dNil))) (dCons (dCallP f_law_less (dCons (dVar 5) (dCons (dVar 6) dNil))) (dCons (dCallP f_law_by (dCons (dVar 5) (dCons (dVar 6) dNil))) (dCons (dCallP f_law_sum (dCons (dVar 5) (dCons (dVar 7) dNil))) (dCons (dCallP f_law_sum (dCons (dVar 5) (dCons (dVar 7) dNil))) dNil))))))) := (Cok.asg c0 (by decide +kernel) rfl (by decide) (snd_lst (snd_cons (Cok.callP c0 w12 (by decide +kernel) rfl rfl (snd_cons (Cok.var c0 (by decide +kernel)) (snd_cons (Cok.var c0 (by decide +kernel)) snd_nil (noStar_ne rfl)) (noStar_ne rfl))) (snd_cons (Cok.callP c0 w14 (by decide +kernel) rfl rfl (snd_cons (Cok.var c0 (by decide +kernel)) (snd_cons (Cok.var c0 (by decide +kernel)) snd_nil (noStar_ne rfl)) (noStar_ne rfl))) (snd_cons (Cok.callP c0 w13 (by decide +kernel) rfl rfl (snd_cons (Cok.var c0 (by decide +kernel)) (snd_cons (Cok.var c0 (by decide +kernel)) snd_nil (noStar_ne rfl)) (noStar_ne rfl))) (snd_cons (Cok.callP c0 w12 (by decide +kernel) rfl rfl (snd_cons (Cok.var c0 (by decide +kernel)) (snd_cons (Cok.var c0 (by decide +kernel)) snd_nil (noStar_ne rfl)) (noStar_ne rfl))) (snd_cons (Cok.callP c0 w12 (by decide +kernel) rfl rfl (snd_cons (Cok.var c0 (by decide +kernel)) (snd_cons (Cok.var c0 (by decide +kernel)) snd_nil (noStar_ne rfl)) (noStar_ne rfl))) snd_nil (noStar_ne rfl)) (noStar_ne rfl)) (noStar_ne rfl)) (noStar_ne rfl)) (noStar_ne rfl))))
  have q5 : SndS (gg X.K C) false X ((defBody s_law_two_right).getD 5 (.Pass ⟨0, 0, 0, 0⟩)) (sExpr (dExt 9 (dLst (dCons (dCallP f_law_by (dCons (dVar 5) (dCons (dVar 7) dNil))) (dCons (dCallP f_law_by (dCons (dVar 5) (dCons (dVar 7) dNil))) (dCons (dCallP f_law_less (dCons (dVar 7) (dCons (dVar 5) dNil))) dNil)))))) := (snd_expr rfl (Cok.ext c0 (by decide +kernel) rfl rfl (snd_lst (snd_cons (Cok.callP c0 w13 (by decide +kernel) rfl rfl (snd_cons (Cok.var c0 (by decide +kernel)) (snd_cons (Cok.var c0 (by decide +kernel)) snd_nil (noStar_ne rfl)) (noStar_ne rfl))) (snd_cons (Cok.callP c0 w13 (by decide +kernel) rfl rfl (snd_cons (Cok.var c0 (by decide +kernel)) (snd_cons (Cok.var c0 (by decide +kernel)) snd_nil (noStar_ne rfl)) (noStar_ne rfl))) (snd_cons (Cok.callP c0 w14 (by decide +kernel) rfl rfl (snd_cons (Cok.var c0 (by decide +kernel)) (snd_cons (Cok.var c0 (by decide +kernel)) snd_nil (noStar_ne rfl)) (noStar_ne rfl))) snd_nil (noStar_ne rfl)) (noStar_ne rfl)) (noStar_ne rfl)))))
  have q6 : SndS (gg X.K C) false X ((defBody s_law_two_right).getD 6 (.Pass ⟨0, 0, 0, 0⟩)) (sIf (tOf (dBin oNotEq (dCallP f_law_pairs (dCons (dVar 8) dNil)) (dVar 9))) (sSeq (sRet (dCst (.bl false)))
  sEnd) sEnd) := (snd_if (snd_cmpT (p_oNotEq c0 w3 w15) rfl (Cok.callP c0 w16 (by decide +kernel) rfl rfl (snd_cons (Cok.var c0 (by decide +kernel)) snd_nil (noStar_ne rfl))) (Cok.var c0 (by decide +kernel))) (snd_seq (snd_ret snd_bl)
  snd_end) snd_end)
  have q7 : SndS (gg X.K C) false X ((defBody s_law_two_right).getD 7 (.Pass ⟨0, 0, 0, 0⟩)) (sIf (tAndD (tOf (dBin oNotEq (dItem 6 (dCst (.int 0))) (dCst (.int 0)))) (tOf (dBin oNotEq (dLst (dCons (dCallP f_law_pair (dCons (dMeth 3 f_Ratio_over (dVar 3) (dCons (dVar 4) dNil)) dNil)) (dCons (dCallP f_law_pair (dCons (dMeth 3 f_Ratio_over (dVar 3) (dCons (dVar 4) dNil)) dNil)) dNil))) (dBin oMult (dLst (dCons (dCallP f_law_over (dCons (dVar 5) (dCons (dVar 6) dNil))) dNil)) (dCst (.int 2)))))) (sSeq (sRet (dCst (.bl false)))
  sEnd) sEnd) := (snd_if (SndW.t (snd_andc (snd_cmpT (p_oNotEq c0 w3 w15) rfl (Cok.item c0 (by decide +kernel) rfl snd_int) snd_int) (snd_and1 (snd_cmpT (p_oNotEq c0 w3 w15) rfl (snd_lst (snd_cons (Cok.callP c0 w18 (by decide +kernel) rfl rfl (snd_cons (snd_meth w19 rfl rfl ⟨_, rfl⟩ (Cok.var c0 (by decide +kernel)) (snd_cons (Cok.var c0 (by decide +kernel)) snd_nil (noStar_ne rfl))) snd_nil (noStar_ne rfl))) (snd_cons (Cok.callP c0 w18 (by decide +kernel) rfl rfl (snd_cons (snd_methKw w17 rfl rfl ⟨rfl, rfl, rfl, rfl⟩ ⟨_, rfl⟩ (Cok.var c0 (by decide +kernel)) (snd_a0 (snd_kcons (Cok.var c0 (by decide +kernel)) snd_knil))) snd_nil (noStar_ne rfl))) snd_nil (noStar_ne rfl)) (noStar_ne rfl))) (snd_bin (p_oMult c0 w3 w4 w5) (snd_lst (snd_cons (Cok.callP c0 w20 (by decide +kernel) rfl rfl (snd_cons (Cok.var c0 (by decide +kernel)) (snd_cons (Cok.var c0 (by decide +kernel)) snd_nil (noStar_ne rfl)) (noStar_ne rfl))) snd_nil (noStar_ne rfl))) snd_int))))) (snd_seq (snd_ret snd_bl)
  snd_end) snd_end)
  have q8 : SndS (gg X.K C) false X ((defBody s_law_two_right).getD 8 (.Pass ⟨0, 0, 0, 0⟩)) (sAsg 10 (dBin ltB (dBin oMult (dItem 5 (dCst (.int 0))) (dItem 6 (dCst (.int 1)))) (dBin oMult (dItem 6 (dCst (.int 0))) (dItem 5 (dCst (.int 1)))))) := (Cok.asg c0 (by decide +kernel) rfl (by decide) (snd_cmp (snd_lt) rfl (snd_bin (p_oMult c0 w3 w4 w5) (Cok.item c0 (by decide +kernel) rfl snd_int) (Cok.item c0 (by decide +kernel) rfl snd_int)) (snd_bin (p_oMult c0 w3 w4 w5) (Cok.item c0 (by decide +kernel) rfl snd_int) (Cok.item c0 (by decide +kernel) rfl snd_int))))
  have q9 : SndS (gg X.K C) false X ((defBody s_law_two_right).getD 9 (.Pass ⟨0, 0, 0, 0⟩)) (sAsg 8 (dLst (dCons (dMeth 3 f_Ratio_is_below (dVar 3) (dCons (dVar 4) dNil)) (dCons (dMeth 3 f_Ratio_is_below (dVar 4) (dCons (dVar 3) dNil)) (dCons (dMeth 3 f_Ratio_is_at_most (dVar 3) (dCons (dVar 4) dNil)) (dCons (dBin oEq (dVar 3) (dVar 4)) (dCons (dBin oNotEq (dVar 3) (dVar 4)) dNil))))))) := (Cok.asg c0 (by decide +kernel) rfl (by decide) (snd_lst (snd_cons (snd_meth w22 rfl rfl ⟨_, rfl⟩ (Cok.var c0 (by decide +kernel)) (snd_cons (Cok.var c0 (by decide +kernel)) snd_nil (noStar_ne rfl))) (snd_cons (snd_meth w22 rfl rfl ⟨_, rfl⟩ (Cok.var c0 (by decide +kernel)) (snd_cons (Cok.var c0 (by decide +kernel)) snd_nil (noStar_ne rfl))) (snd_cons (snd_meth w21 rfl rfl ⟨_, rfl⟩ (Cok.var c0 (by decide +kernel)) (snd_cons (Cok.var c0 (by decide +kernel)) snd_nil (noStar_ne rfl))) (snd_cons (snd_cmp (p_oEq c0 w3 w15) rfl (Cok.var c0 (by decide +kernel)) (Cok.var c0 (by decide +kernel))) (snd_cons (snd_cmp (p_oNotEq c0 w3 w15) rfl (Cok.var c0 (by decide +kernel)) (Cok.var c0 (by decide +kernel))) snd_nil (noStar_ne rfl)) (noStar_ne rfl)) (noStar_ne rfl)) (noStar_ne rfl)) (noStar_ne rfl))))
  have q10 : SndS (gg X.K C) false X ((defBody s_law_two_right).getD 10 (.Pass ⟨0, 0, 0, 0⟩)) (sAsg 11 (dBin (cmpB fun i j => decide (j < i)) (dBin oMult (dItem 5 (dCst (.int 0))) (dItem 6 (dCst (.int 1)))) (dBin oMult (dItem 6 (dCst (.int 0))) (dItem 5 (dCst (.int 1)))))) := (Cok.asg c0 (by decide +kernel) rfl (by decide) (snd_cmp (snd_gt) rfl (snd_bin (p_oMult c0 w3 w4 w5) (Cok.item c0 (by decide +kernel) rfl snd_int) (Cok.item c0 (by decide +kernel) rfl snd_int)) (snd_bin (p_oMult c0 w3 w4 w5) (Cok.item c0 (by decide +kernel) rfl snd_int) (Cok.item c0 (by decide +kernel) rfl snd_int))))
  have q11 : SndS (gg X.K C) false X ((defBody s_law_two_right).getD 11 (.Pass ⟨0, 0, 0, 0⟩)) (sIf (tOf (dBin oNotEq (dVar 8) (dLst (dCons (dVar 10) (dCons (dVar 11) (dCons (dNot (dVar 11)) (dCons (dBin oEq (dVar 5) (dVar 6)) (dCons (dBin oNotEq (dVar 5) (dVar 6)) dNil)))))))) (sSeq (sRet (dCst (.bl false)))
  sEnd) sEnd) := (snd_if (snd_cmpT (p_oNotEq c0 w3 w15) rfl (Cok.var c0 (by decide +kernel)) (snd_lst (snd_cons (Cok.var c0 (by decide +kernel)) (snd_cons (Cok.var c0 (by decide +kernel)) (snd_cons (snd_vnot (Cok.var c0 (by decide +kernel))) (snd_cons (snd_cmp (p_oEq c0 w3 w15) rfl (Cok.var c0 (by decide +kernel)) (Cok.var c0 (by decide +kernel))) (snd_cons (snd_cmp (p_oNotEq c0 w3 w15) rfl (Cok.var c0 (by decide +kernel)) (Cok.var c0 (by decide +kernel))) snd_nil (noStar_ne rfl)) (noStar_ne rfl)) (noStar_ne rfl)) (noStar_ne rfl)) (noStar_ne rfl)))) (snd_seq (snd_ret snd_bl)
  snd_end) snd_end)
  have q12 : SndS (gg X.K C) false X ((defBody s_law_two_right).getD 12 (.Pass ⟨0, 0, 0, 0⟩)) (sAsg 8 (dLst (dCons (dMeth 3 f_Ratio_is_below (dVar 3) (dCons (dVar 2) dNil)) (dCons (dMeth 3 f_Ratio_is_at_most (dVar 3) (dCons (dVar 2) dNil)) (dCons (dBin oEq (dVar 3) (dVar 2)) (dCons (dBin oEq (dVar 2) (dVar 3)) dNil)))))) := (Cok.asg c0 (by decide +kernel) rfl (by decide) (snd_lst (snd_cons (snd_meth w22 rfl rfl ⟨_, rfl⟩ (Cok.var c0 (by decide +kernel)) (snd_cons (Cok.var c0 (by decide +kernel)) snd_nil (noStar_ne rfl))) (snd_cons (snd_meth w21 rfl rfl ⟨_, rfl⟩ (Cok.var c0 (by decide +kernel)) (snd_cons (Cok.var c0 (by decide +kernel)) snd_nil (noStar_ne rfl))) (snd_cons (snd_cmp (p_oEq c0 w3 w15) rfl (Cok.var c0 (by decide +kernel)) (Cok.var c0 (by decide +kernel))) (snd_cons (snd_cmp (p_oEq c0 w3 w15) rfl (Cok.var c0 (by decide +kernel)) (Cok.var c0 (by decide +kernel))) snd_nil (noStar_ne rfl)) (noStar_ne rfl)) (noStar_ne rfl)) (noStar_ne rfl))))
  have q13 : SndS (gg X.K C) false X ((defBody s_law_two_right).getD 13 (.Pass ⟨0, 0, 0, 0⟩)) (sRet (dBin oEq (dVar 8) (dLst (dCons (dBin ltB (dItem 5 (dCst (.int 0))) (dBin oMult (dVar 2) (dItem 5 (dCst (.int 1))))) (dCons (dBin (cmpB fun i j => decide (i ≤ j)) (dItem 5 (dCst (.int 0))) (dBin oMult (dVar 2) (dItem 5 (dCst (.int 1))))) (dCons (dCst (.bl false)) (dCons (dCst (.bl false)) dNil))))))) := (snd_ret (snd_cmp (p_oEq c0 w3 w15) rfl (Cok.var c0 (by decide +kernel)) (snd_lst (snd_cons (snd_cmp (snd_lt) rfl (Cok.item c0 (by decide +kernel) rfl snd_int) (snd_bin (p_oMult c0 w3 w4 w5) (Cok.var c0 (by decide +kernel)) (Cok.item c0 (by decide +kernel) rfl snd_int))) (snd_cons (snd_cmp (snd_le) rfl (Cok.item c0 (by decide +kernel) rfl snd_int) (snd_bin (p_oMult c0 w3 w4 w5) (Cok.var c0 (by decide +kernel)) (Cok.item c0 (by decide +kernel) rfl snd_int))) (snd_cons snd_bl (snd_cons snd_bl snd_nil (noStar_ne rfl)) (noStar_ne rfl)) (noStar_ne rfl)) (noStar_ne rfl)))))
  exact (snd_seq q0 (snd_seq q1 (snd_seq q2 (snd_seq q3 (snd_seq q4 (snd_seq q5 (snd_seq q6 (snd_seq q7 (snd_seq q8 (snd_seq q9 (snd_seq q10 (snd_seq q11 (snd_seq q12 (snd_seq q13 snd_end))))))))))))))
theorem ok_is_list (T : Txt K mg A Pp C FD) : FnD P w K mg base false 1 (A 40) (FD 40) ["value"] (spD (gg K C) false 1 f_is_list) := by
  refine fnD_of (N := ["value"]) (FunD.a' T.F40) ⟨rfl, rfl, rfl, by decide +kernel, rfl, by decide +kernel, by decide +kernel⟩ rfl (by decide) fun X b => ?_
  have hp := b.prog; have hw := b.w; have hK := b.K; have hm := b.mg; have hb := b.base; subst hp hw hK hm hb
  have c0 : Cok (gg X.K C) ["value"] (defScope s_is_list) (fun _ => true) X := b.ctx rfl (by decide +kernel)
  have G := gok T
  have z_isinstance := T.z_isinstance
  have z_tuple := T.z_tuple
  have z_list := T.z_list
  exact (snd_seq (snd_ret (Cok.blt c0 (snd_isi G c0.hK) (by decide +kernel) z_isinstance (by decide +kernel) rfl (snd_cons (Cok.var c0 (by decide +kernel)) (snd_cons (snd_tup (snd_cons (Cok.ty c0 (by decide +kernel) z_list (by decide +kernel)) (snd_cons (Cok.ty c0 (by decide +kernel) z_tuple (by decide +kernel)) snd_nil (noStar_ne rfl)) (noStar_ne rfl))) snd_nil (noStar_ne rfl)) (noStar_ne rfl))))
  snd_end)
theorem ok_total_of (T : Txt K mg A Pp C FD) : FnD P w K mg base false 8 (A 41) (FD 41) ["ratios"] (spD (gg K C) false 1 f_total_of) := by
  refine fnD_of (N := ["ratios", "found", "ratio"]) (FunD.a' T.F41) ⟨rfl, rfl, rfl, by decide +kernel, rfl, by decide +kernel, by decide +kernel⟩ rfl (by decide) fun X b => ?_
  have hp := b.prog; have hw := b.w; have hK := b.K; have hm := b.mg; have hb := b.base; subst hp hw hK hm hb
  have c0 : Cok (gg X.K C) ["ratios", "found", "ratio"] (defScope s_total_of) (fun _ => true) X := b.ctx rfl (by decide +kernel)
  have G := gok T
  have w0 : MkOk (gg X.K C) X 3 "Ratio" 3 [.int 1] f_Ratio___init := by
    obtain ⟨ds, dv, bi⟩ := (FunD.binds1 (ps := ["self", "top", "bottom"]) T.F3 2 0 (by simp) rfl fun _ _ _ _ _ _ _ us its l1 l2 => match us, its, l1, l2 with | [_, _], [_], _, _ => ⟨_, rfl, rfl⟩)
    exact ⟨⟨C 3, A 3, FD 3, ["self", "top", "bottom"], 2, _, ds, rfl, T.mc3, T.mk3, bi, dv, fun _ _ => (.cons (f1 := []) (f2 := []) .int .nil), b.room.mono (by decide), ok_Ratio___init T, rfl⟩⟩
  have w2 : OpCls (gg X.K C) X 3 := ClsK.op T.k3 rfl
  have w3 : MOk (gg X.K C) X 3 "__add__" 2 false f_Ratio___add := ⟨⟨C 3, A 4, FD 4, ["self", "other"], 5, rfl, T.k3.cl, T.me4, b4 T, b.room.mono (by decide), ok_Ratio___add T, rfl⟩, (show ("__add__" : Str) ∉ (["own_top", "own_bottom"] : List Str) by decide +kernel)⟩
  have w4 : MOk (gg X.K C) X 3 "__radd__" 2 false f_Ratio___radd := ⟨⟨C 3, A 5, FD 5, ["self", "other"], 5, rfl, T.k3.cl, T.me5, b5 T, b.room.mono (by decide), ok_Ratio___radd T, rfl⟩, (show ("__radd__" : Str) ∉ (["own_top", "own_bottom"] : List Str) by decide +kernel)⟩
  exact (snd_seq (Cok.asg c0 (by decide +kernel) rfl (by decide) (Cok.make c0 w0 (by decide +kernel) rfl rfl (snd_cons snd_int snd_nil (noStar_ne rfl))))
  (snd_seq (Cok.for' c0 rfl (by decide) (Cok.iseq c0 (Cok.var c0 (by decide +kernel))) (Cok.gnm c0 (by decide +kernel)) (snd_seq (Cok.asg c0 (by decide +kernel) rfl (by decide) (snd_bin (p_oAdd c0 w2 w3 w4) (Cok.var c0 (by decide +kernel)) (Cok.var c0 (by decide +kernel))))
  snd_end))
  (snd_seq (snd_ret (Cok.var c0 (by decide +kernel)))
  snd_end)))
theorem ok_want_number (T : Txt K mg A Pp C FD) : FnD P w K mg base false 6 (A 42) (FD 42) ["value"] (spD (gg K C) false 1 f_want_number) := by
  refine fnD_of (N := ["value"]) (FunD.a' T.F42) ⟨rfl, rfl, rfl, by decide +kernel, rfl, by decide +kernel, by decide +kernel⟩ rfl (by decide) fun X b => ?_
  have hp := b.prog; have hw := b.w; have hK := b.K; have hm := b.mg; have hb := b.base; subst hp hw hK hm hb
  have c0 : Cok (gg X.K C) ["value"] (defScope s_want_number) (fun _ => true) X := b.ctx rfl (by decide +kernel)
  have G := gok T
  have w0 : CallOk X "is_number" false 1 (spD (gg X.K C) false 1 f_is_number) := ⟨_, FD 25, ["value"], 2, T.g25, T.F25.kp, b25 T, b.room.mono (by decide), (fun z => nomatch z), ok_is_number T, rfl⟩
  have w1 : CallOk X "ratio_of" false 1 (spD (gg X.K C) false 1 f_ratio_of) := ⟨_, FD 26, ["number"], 5, T.g26, T.F26.kp, b26 T, b.room.mono (by decide), (fun z => nomatch z), ok_ratio_of T, rfl⟩
  exact (snd_seq (snd_if (snd_tnot (snd_tval rfl (Cok.callP c0 w0 (by decide +kernel) rfl rfl (snd_cons (Cok.var c0 (by decide +kernel)) snd_nil (noStar_ne rfl))))) (snd_seq snd_no
  snd_end) snd_end)
  (snd_seq (snd_ret (Cok.callP c0 w1 (by decide +kernel) rfl rfl (snd_cons (Cok.var c0 (by decide +kernel)) snd_nil (noStar_ne rfl))))
  snd_end))
theorem ok_Ratio_total (T : Txt K mg A Pp C FD) : FnD P w K mg base false 9 (A 43) (FD 43) ["cls", "numbers"] (spD (gg K C) false 2 f_Ratio_total) := by
  refine fnD_of (N := ["cls", "numbers", "number"]) (FunD.a' T.F43) ⟨rfl, rfl, rfl, by decide +kernel, rfl, by decide +kernel, by decide +kernel⟩ rfl (by decide) fun X b => ?_
  have hp := b.prog; have hw := b.w; have hK := b.K; have hm := b.mg; have hb := b.base; subst hp hw hK hm hb
  have c0 : Cok (gg X.K C) ["cls", "numbers", "number"] (defScope s_Ratio_total) (fun _ => true) X := b.ctx rfl (by decide +kernel)
  have G := gok T
  have w0 : CallOk X "is_list" false 1 (spD (gg X.K C) false 1 f_is_list) := ⟨_, FD 40, ["value"], 1, T.g40, T.F40.kp, b40 T, b.room.mono (by decide), (fun z => nomatch z), ok_is_list T, rfl⟩
  have w1 : CallOk X "want_number" false 1 (spD (gg X.K C) false 1 f_want_number) := ⟨_, FD 42, ["value"], 6, T.g42, T.F42.kp, b42 T, b.room.mono (by decide), (fun z => nomatch z), ok_want_number T, rfl⟩
  have w2 : CallOk X "total_of" false 1 (spD (gg X.K C) false 1 f_total_of) := ⟨_, FD 41, ["ratios"], 8, T.g41, T.F41.kp, b41 T, b.room.mono (by decide), (fun z => nomatch z), ok_total_of T, rfl⟩
  exact (snd_seq (snd_if (snd_tnot (snd_tval rfl (Cok.callP c0 w0 (by decide +kernel) rfl rfl (snd_cons (Cok.var c0 (by decide +kernel)) snd_nil (noStar_ne rfl))))) (snd_seq snd_no
  snd_end) snd_end)
  (snd_seq (snd_ret (Cok.callP c0 w2 (by decide +kernel) rfl rfl (snd_cons (Cok.lc c0 (own := [("number", 2)]) (by decide +kernel) rfl rfl (Cok.iseq c0 (Cok.var c0 (by decide +kernel))) (fun _ _ _ _ _ => (Cok.gnm (c0.blk) (by decide +kernel))) (fun _ _ _ _ _ => (Cok.callP (c0.blk) w1.blk (by decide +kernel) rfl rfl (snd_cons (Cok.var (c0.blk) (by decide +kernel)) snd_nil (noStar_ne rfl))))) snd_nil (noStar_ne rfl))))
  snd_end))
theorem ok_law_total (T : Txt K mg A Pp C FD) : FnD P w K mg base false 10 (A 44) (FD 44) ["_law_pairs_here"] (spD (gg K C) false 1 f_law_total) := by
  refine fnD_of (N := ["_law_pairs_here", "_law_found", "_law_pair_here"]) (FunD.a' T.F44) ⟨rfl, rfl, rfl, by decide +kernel, rfl, by decide +kernel, by decide +kernel⟩ rfl (by decide) fun X b => ?_
  have hp := b.prog; have hw := b.w; have hK := b.K; have hm := b.mg; have hb := b.base; subst hp hw hK hm hb
  have c0 : Cok (gg X.K C) ["_law_pairs_here", "_law_found", "_law_pair_here"] (defScope s_law_total) (fun _ => true) X := b.ctx rfl (by decide +kernel)
  have G := gok T
  have w0 : CallOk X "_law_sum" false 2 (spD (gg X.K C) false 2 f_law_sum) := ⟨_, FD 32, ["_law_one", "_law_other"], 9, T.g32, T.F32.kp, b32 T, b.room.mono (by decide), (fun z => nomatch z), ok_law_sum T, rfl⟩
  exact (snd_seq (Cok.asg c0 (by decide +kernel) rfl (by decide) (snd_tup (snd_cons snd_int (snd_cons snd_int snd_nil (noStar_ne rfl)) (noStar_ne rfl))))
  (snd_seq (Cok.for' c0 rfl (by decide) (Cok.iseq c0 (Cok.var c0 (by decide +kernel))) (Cok.gnm c0 (by decide +kernel)) (snd_seq (Cok.asg c0 (by decide +kernel) rfl (by decide) (Cok.callP c0 w0 (by decide +kernel) rfl rfl (snd_cons (Cok.var c0 (by decide +kernel)) (snd_cons (Cok.var c0 (by decide +kernel)) snd_nil (noStar_ne rfl)) (noStar_ne rfl))))
  snd_end))
  (snd_seq (snd_ret (Cok.var c0 (by decide +kernel)))
  snd_end)))
theorem ok_law_right (T : Txt K mg A Pp C FD) : FnD P w K mg base true 13 (A 45) (FD 45) ["_law_pot_here"] (spD (gg K C) true 1 f_law_right) := by
  refine fnD_of (N := ["_law_pot_here", "_law_raws", "_law_turn", "_law_raw_here", "_law_pairs_here", "_law_given", "_law_told", "_law_values", "_law_one", "_law_due"]) (FunD.a' T.F45) ⟨rfl, rfl, rfl, by decide +kernel, rfl, by decide +kernel, by decide +kernel⟩ rfl (by decide) fun X b => ?_
  have hp := b.prog; have hw := b.w; have hK := b.K; have hm := b.mg; have hb := b.base; subst hp hw hK hm hb
  have c0 : Cok (gg X.K C) ["_law_pot_here", "_law_raws", "_law_turn", "_law_raw_here", "_law_pairs_here", "_law_given", "_law_told", "_law_values", "_law_one", "_law_due"] (defScope s_law_right) (fun _ => true) X := b.ctx rfl (by decide +kernel)
  have G := gok T
  have gu := b.gd rfl
  have z_range := T.z_range
  have z_tuple := T.z_tuple
  have w0 : CallOk X "_law_raw" false 1 (spD (gg X.K C) true 1 f_law_raw) := ⟨_, FD 13, ["_law_pot_here"], 10, T.g13, T.F13.kp, b13 T, b.room.mono (by decide), (fun z => nomatch z), ok_law_raw T, rfl⟩
  have w2 : OpCls (gg X.K C) X 3 := ClsK.op T.k3 rfl
  have w3 : MOk (gg X.K C) X 3 "__mul__" 2 false f_Ratio___mul := ⟨⟨C 3, A 6, FD 6, ["self", "other"], 5, rfl, T.k3.cl, T.me6, b6 T, b.room.mono (by decide), ok_Ratio___mul T, rfl⟩, (show ("__mul__" : Str) ∉ (["own_top", "own_bottom"] : List Str) by decide +kernel)⟩
  have w4 : MOk (gg X.K C) X 3 "__rmul__" 2 false f_Ratio___rmul := ⟨⟨C 3, A 7, FD 7, ["self", "other"], 5, rfl, T.k3.cl, T.me7, b7 T, b.room.mono (by decide), ok_Ratio___rmul T, rfl⟩, (show ("__rmul__" : Str) ∉ (["own_top", "own_bottom"] : List Str) by decide +kernel)⟩
  have w5 : CallOk X "_law_one_right" true 1 (spD (gg X.K C) false 1 f_law_one_right) := ⟨_, FD 31, ["_law_raw_here"], 12, T.g31, T.F31.kp, b31 T, b.room.mono (by decide), (fun _ => b.gd rfl), ok_law_one_right T, rfl⟩
  have w7 : MOk (gg X.K C) X 3 "__sub__" 2 false f_Ratio___sub := ⟨⟨C 3, A 10, FD 10, ["self", "other"], 5, rfl, T.k3.cl, T.me10, b10 T, b.room.mono (by decide), ok_Ratio___sub T, rfl⟩, (show ("__sub__" : Str) ∉ (["own_top", "own_bottom"] : List Str) by decide +kernel)⟩
  have w8 : MOk (gg X.K C) X 3 "__rsub__" 2 false f_Ratio___rsub := ⟨⟨C 3, A 11, FD 11, ["self", "other"], 5, rfl, T.k3.cl, T.me11, b11 T, b.room.mono (by decide), ok_Ratio___rsub T, rfl⟩, (show ("__rsub__" : Str) ∉ (["own_top", "own_bottom"] : List Str) by decide +kernel)⟩
  have w9 : CallOk X "_law_draw" false 2 (spD (gg X.K C) true 2 f_law_draw) := ⟨_, FD 8, ["_law_pot_here", "_law_size"], 8, T.g8, T.F8.kp, b8 T, b.room.mono (by decide), (fun z => nomatch z), ok_law_draw T, rfl⟩
  have w10 : CallOk X "_law_pick" false 2 (spD (gg X.K C) true 2 f_law_pick) := ⟨_, FD 9, ["_law_pot_here", "_law_some"], 9, T.g9, T.F9.kp, b9 T, b.room.mono (by decide), (fun z => nomatch z), ok_law_pick T, rfl⟩
  have w11 : CallOk X "_law_two_right" false 3 (spD (gg X.K C) false 3 f_law_two_right) := ⟨_, FD 39, ["_law_raw_here", "_law_other_raw", "_law_number"], 11, T.g39, T.F39.kp, b39 T, b.room.mono (by decide), (fun z => nomatch z), ok_law_two_right T, rfl⟩
  have w12 : CallOk X "_law_low" false 2 (spD (gg X.K C) false 2 f_law_low) := ⟨_, FD 14, ["_law_top", "_law_bottom"], 8, T.g14, T.F14.kp, b14 T, b.room.mono (by decide), (fun z => nomatch z), ok_law_low T, rfl⟩
  have w14 : MOk (gg X.K C) X 3 "__add__" 2 false f_Ratio___add := ⟨⟨C 3, A 4, FD 4, ["self", "other"], 5, rfl, T.k3.cl, T.me4, b4 T, b.room.mono (by decide), ok_Ratio___add T, rfl⟩, (show ("__add__" : Str) ∉ (["own_top", "own_bottom"] : List Str) by decide +kernel)⟩
  have w15 : MOk (gg X.K C) X 3 "__radd__" 2 false f_Ratio___radd := ⟨⟨C 3, A 5, FD 5, ["self", "other"], 5, rfl, T.k3.cl, T.me5, b5 T, b.room.mono (by decide), ok_Ratio___radd T, rfl⟩, (show ("__radd__" : Str) ∉ (["own_top", "own_bottom"] : List Str) by decide +kernel)⟩
  have w16 : MkOk (gg X.K C) X 3 "Ratio" 3 [] f_Ratio___init := by
    obtain ⟨ds, dv, bi⟩ := (FunD.binds1 (ps := ["self", "top", "bottom"]) T.F3 3 1 (by simp) rfl fun _ _ _ _ _ _ _ us its l1 l2 => match us, its, l1, l2 with | [_, _, _], [_], _, _ => ⟨_, rfl, rfl⟩)
    exact ⟨⟨C 3, A 3, FD 3, ["self", "top", "bottom"], 2, _, ds, rfl, T.mc3, T.mk3, bi, dv, fun _ _ => .nil, b.room.mono (by decide), ok_Ratio___init T, rfl⟩⟩
  have w17 : ∀ D, (gg X.K C).cls 3 = some D → X.mg "Ratio" = some (.ref D) := fun D hD => by cases (show some (C 3) = some D from hD); exact T.mc3
  have w18 : CMOk (gg X.K C) X 3 "total" 2 f_Ratio_total := ⟨⟨C 3, Pp 43, A 43, _, FD 43, ["cls", "numbers"], 9, rfl, T.cr3, T.cm43, b43 T, b.room.mono (by decide), ok_Ratio_total T, rfl⟩⟩
  have w19 : CMKOk (gg X.K C) X 3 "total" 0 ["numbers"] f_Ratio_total := ⟨⟨C 3, Pp 43, A 43, _, FD 43, ["cls", "numbers"], 9, rfl, T.cr3, T.cm43, (FunD.kwN T.F43 fun _ _ _ _ _ _ us ws l1 l2 => match us, ws, l1, l2 with | [_], [_], _, _ => rfl), b.room.mono (by decide), ok_Ratio_total T⟩⟩
  have w20 : MOk (gg X.K C) X 3 "__eq__" 2 false f_Ratio___eq := ⟨⟨C 3, A 12, FD 12, ["self", "other"], 1, rfl, T.k3.cl, T.me12, b12 T, b.room.mono (by decide), ok_Ratio___eq T, rfl⟩, (show ("__eq__" : Str) ∉ (["own_top", "own_bottom"] : List Str) by decide +kernel)⟩
  have w21 : CallOk X "_law_pairs" false 1 (spD (gg X.K C) false 1 f_law_pairs) := ⟨_, FD 35, ["_law_value"], 5, T.g35, T.F35.kp, b35 T, b.room.mono (by decide), (fun z => nomatch z), ok_law_pairs T, rfl⟩
  have w22 : CallOk X "_law_total" false 1 (spD (gg X.K C) false 1 f_law_total) := ⟨_, FD 44, ["_law_pairs_here"], 10, T.g44, T.F44.kp, b44 T, b.room.mono (by decide), (fun z => nomatch z), ok_law_total T, rfl⟩
  have w23 : CallOk X "is_count" false 1 (spD (gg X.K C) false 1 f_is_count) := ⟨_, FD 24, ["value"], 2, T.g24, T.F24.kp, b24 T, b.room.mono (by decide), (fun z => nomatch z), ok_is_count T, rfl⟩
  have w24 : CallOk X "is_integer" false 1 (spD (gg X.K C) false 1 f_is_integer) := ⟨_, FD 0, ["value"], 1, T.g0, T.F0.kp, b0 T, b.room.mono (by decide), (fun z => nomatch z), ok_is_integer T, rfl⟩
  have w25 : CallOk X "is_share" false 1 (spD (gg X.K C) false 1 f_is_share) := ⟨_, FD 28, ["value"], 11, T.g28, T.F28.kp, b28 T, b.room.mono (by decide), (fun z => nomatch z), ok_is_share T, rfl⟩
  have w26 : CallOk X "is_number" false 1 (spD (gg X.K C) false 1 f_is_number) := ⟨_, FD 25, ["value"], 2, T.g25, T.F25.kp, b25 T, b.room.mono (by decide), (fun z => nomatch z), ok_is_number T, rfl⟩
  have q0 : SndS (gg X.K C) true X ((defBody s_law_right).getD 0 (.Pass ⟨0, 0, 0, 0⟩)) (sAsg 1 (dComp [2] (iRng (dCons (dCst (.int 6)) dNil)) (gNm 2) tYesD (dCallR f_law_raw 0 dNil))) := (Cok.asgL c0 (i := 1) (by decide +kernel) (by decide) (own := [("_law_turn", 2)]) (by decide +kernel) rfl rfl (Cok.irng1 c0 (by decide +kernel) z_range rfl (snd_cons snd_int snd_nil (noStar_ne rfl))) (fun _ _ _ _ _ => (Cok.gnm (c0.blk) (by decide +kernel))) (fun _ _ _ _ _ => (Cok.callR (c0.blk) w0.blk (by decide +kernel) rfl rfl (by decide +kernel) snd_nil)))
  have q1 : SndS (gg X.K C) true X ((defBody s_law_right).getD 1 (.Pass ⟨0, 0, 0, 0⟩)) (sExpr (dApp 1 (dTup (dCons (dBin oMult (dBin ixB (dItem 1 (dCst (.int 0))) (dCst (.int 0))) (dCst (.int 3))) (dCons (dBin oMult (dBin ixB (dItem 1 (dCst (.int 0))) (dCst (.int 1))) (dCst (.int 3))) dNil))))) := (snd_expr rfl (Cok.app c0 (by decide +kernel) rfl rfl (snd_tup (snd_cons (snd_bin (p_oMult c0 w2 w3 w4) (Cok.ix c0 rfl (Cok.item c0 (by decide +kernel) rfl snd_int) snd_int) snd_int) (snd_cons (snd_bin (p_oMult c0 w2 w3 w4) (Cok.ix c0 rfl (Cok.item c0 (by decide +kernel) rfl snd_int) snd_int) snd_int) snd_nil (noStar_ne rfl)) (noStar_ne rfl)))))
  have q2 : SndS (gg X.K C) true X ((defBody s_law_right).getD 2 (.Pass ⟨0, 0, 0, 0⟩)) (sExpr (dApp 1 (dTup (dCons (dCst (.int 0)) (dCons (dBin ixB (dItem 1 (dCst (.int 1))) (dCst (.int 1))) dNil))))) := (snd_expr rfl (Cok.app c0 (by decide +kernel) rfl rfl (snd_tup (snd_cons snd_int (snd_cons (Cok.ix c0 rfl (Cok.item c0 (by decide +kernel) rfl snd_int) snd_int) snd_nil (noStar_ne rfl)) (noStar_ne rfl)))))
  have q3 : SndS (gg X.K C) true X ((defBody s_law_right).getD 3 (.Pass ⟨0, 0, 0, 0⟩)) (sFor (iSeq (dVar 1)) (gNm 3) (sSeq (sIf (tNotD (tOf (dCallP f_law_one_right (dCons (dVar 3) dNil)))) (sSeq (sRet (dCst (.bl false)))
  sEnd) sEnd)
  sEnd)) := (Cok.for' c0 rfl (by decide) (Cok.iseq c0 (Cok.var c0 (by decide +kernel))) (Cok.gnm c0 (by decide +kernel)) (snd_seq (snd_if (snd_tnot (snd_tval rfl (Cok.callP c0 w5 (by decide +kernel) rfl rfl (snd_cons (Cok.var c0 (by decide +kernel)) snd_nil (noStar_ne rfl))))) (snd_seq (snd_ret snd_bl)
  snd_end) snd_end)
  snd_end))
  have q4 : SndS (gg X.K C) true X ((defBody s_law_right).getD 4 (.Pass ⟨0, 0, 0, 0⟩)) (sFor (iRng (dCons (dCst (.int 12)) dNil)) (gNm 2) (sSeq (sIf (tNotD (tOf (dCallP f_law_two_right (dCons (dCallR f_law_pick 0 (dCons (dVar 1) dNil)) (dCons (dCallR f_law_pick 0 (dCons (dVar 1) dNil)) (dCons (dBin oSub (dCallR f_law_draw 0 (dCons (dCst (.int 41)) dNil)) (dCst (.int 20))) dNil)))))) (sSeq (sRet (dCst (.bl false)))
  sEnd) sEnd)
  sEnd)) := (Cok.for' c0 rfl (by decide) (Cok.irng1 c0 (by decide +kernel) z_range rfl (snd_cons snd_int snd_nil (noStar_ne rfl))) (Cok.gnm c0 (by decide +kernel)) (snd_seq (snd_if (snd_tnot (snd_tval rfl (Cok.callP c0 w11 (by decide +kernel) rfl rfl (snd_cons (Cok.callR c0 w10 (by decide +kernel) rfl rfl (by decide +kernel) (snd_cons (Cok.var c0 (by decide +kernel)) snd_nil (noStar_ne rfl))) (snd_cons (Cok.callR c0 w10 (by decide +kernel) rfl rfl (by decide +kernel) (snd_cons (Cok.var c0 (by decide +kernel)) snd_nil (noStar_ne rfl))) (snd_cons (snd_bin (p_oSub c0 w2 w7 w8) (Cok.callR c0 w9 (by decide +kernel) rfl rfl (by decide +kernel) (snd_cons snd_int snd_nil (noStar_ne rfl))) snd_int) snd_nil (noStar_ne rfl)) (noStar_ne rfl)) (noStar_ne rfl))))) (snd_seq (snd_ret snd_bl)
  snd_end) snd_end)
  snd_end))
  have q5 : SndS (gg X.K C) true X ((defBody s_law_right).getD 5 (.Pass ⟨0, 0, 0, 0⟩)) (sAsg 4 (dComp [3] (iSeq (dVar 1)) (gNm 3) tYesD (dCallP f_law_low (dCons (dItem 3 (dCst (.int 0))) (dCons (dItem 3 (dCst (.int 1))) dNil))))) := (Cok.asgL c0 (i := 4) (by decide +kernel) (by decide) (own := [("_law_raw_here", 3)]) (by decide +kernel) rfl rfl (Cok.iseq c0 (Cok.var c0 (by decide +kernel))) (fun _ _ _ _ _ => (Cok.gnm (c0.blk) (by decide +kernel))) (fun _ _ _ _ _ => (Cok.callP (c0.blk) w12.blk (by decide +kernel) rfl rfl (snd_cons (Cok.item (c0.blk) (by decide +kernel) rfl snd_int) (snd_cons (Cok.item (c0.blk) (by decide +kernel) rfl snd_int) snd_nil (noStar_ne rfl)) (noStar_ne rfl)))))
  have q6 : SndS (gg X.K C) true X ((defBody s_law_right).getD 6 (.Pass ⟨0, 0, 0, 0⟩)) (sAsg 5 (dBin oAdd (dComp [3] (iSeq (dVar 1)) (gNm 3) tYesD (dMake 3 [] f_Ratio___init (dCons (dItem 3 (dCst (.int 0))) (dCons (dItem 3 (dCst (.int 1))) dNil)))) (dLst (dCons (dCst (.int 7)) dNil)))) := (Cok.asg c0 (by decide +kernel) rfl (by decide) (snd_bin (p_oAdd c0 w2 w14 w15) (Cok.lc c0 (own := [("_law_raw_here", 3)]) (by decide +kernel) rfl rfl (Cok.iseq c0 (Cok.var c0 (by decide +kernel))) (fun _ _ _ _ _ => (Cok.gnm (c0.blk) (by decide +kernel))) (fun _ _ _ _ _ => (Cok.make (c0.blk) w16.blk (by decide +kernel) rfl rfl (snd_cons (Cok.item (c0.blk) (by decide +kernel) rfl snd_int) (snd_cons (Cok.item (c0.blk) (by decide +kernel) rfl snd_int) snd_nil (noStar_ne rfl)) (noStar_ne rfl))))) (snd_lst (snd_cons snd_int snd_nil (noStar_ne rfl)))))
  have q7 : SndS (gg X.K C) true X ((defBody s_law_right).getD 7 (.Pass ⟨0, 0, 0, 0⟩)) (sAsg 6 (dLst (dCons (dCMeth 3 f_Ratio_total (dCons (dVar 5) dNil)) (dCons (dCMeth 3 f_Ratio_total (dCons (dBlt tupleB (dCons (dVar 5) dNil)) dNil)) (dCons (dCMeth 3 f_Ratio_total (dCons (dVar 5) dNil)) (dCons (dCMeth 3 f_Ratio_total (dCons (dLst dNil) dNil)) dNil)))))) := (Cok.asg c0 (by decide +kernel) rfl (by decide) (snd_lst (snd_cons (Cok.cmeth c0 w18 (by decide +kernel) w17 rfl rfl ⟨_, rfl⟩ (snd_cons (Cok.var c0 (by decide +kernel)) snd_nil (noStar_ne rfl))) (snd_cons (Cok.cmeth c0 w18 (by decide +kernel) w17 rfl rfl ⟨_, rfl⟩ (snd_cons (Cok.bltT c0 (snd_tuple c0.hK) (by decide +kernel) z_tuple (by decide +kernel) rfl (snd_cons (Cok.var c0 (by decide +kernel)) snd_nil (noStar_ne rfl))) snd_nil (noStar_ne rfl))) (snd_cons (Cok.cmethKw c0 w19 (by decide +kernel) w17 ⟨rfl, rfl, rfl, rfl⟩ ⟨_, rfl⟩ (snd_kcons (Cok.var c0 (by decide +kernel)) snd_knil)) (snd_cons (Cok.cmeth c0 w18 (by decide +kernel) w17 rfl rfl ⟨_, rfl⟩ (snd_cons (snd_lst snd_nil) snd_nil (noStar_ne rfl))) snd_nil (noStar_ne rfl)) (noStar_ne rfl)) (noStar_ne rfl)) (noStar_ne rfl))))
  have q8 : SndS (gg X.K C) true X ((defBody s_law_right).getD 8 (.Pass ⟨0, 0, 0, 0⟩)) (sIf (tOf (dBin oNotEq (dCallP f_law_pairs (dCons (dVar 6) dNil)) (dBin oAdd (dBin oMult (dLst (dCons (dCallP f_law_total (dCons (dBin oAdd (dVar 4) (dLst (dCons (dTup (dCons (dCst (.int 7)) (dCons (dCst (.int 1)) dNil))) dNil))) dNil)) dNil)) (dCst (.int 3))) (dLst (dCons (dTup (dCons (dCst (.int 0)) (dCons (dCst (.int 1)) dNil))) dNil))))) (sSeq (sRet (dCst (.bl false)))
  sEnd) sEnd) := (snd_if (snd_cmpT (p_oNotEq c0 w2 w20) rfl (Cok.callP c0 w21 (by decide +kernel) rfl rfl (snd_cons (Cok.var c0 (by decide +kernel)) snd_nil (noStar_ne rfl))) (snd_bin (p_oAdd c0 w2 w14 w15) (snd_bin (p_oMult c0 w2 w3 w4) (snd_lst (snd_cons (Cok.callP c0 w22 (by decide +kernel) rfl rfl (snd_cons (snd_bin (p_oAdd c0 w2 w14 w15) (Cok.var c0 (by decide +kernel)) (snd_lst (snd_cons (snd_tup (snd_cons snd_int (snd_cons snd_int snd_nil (noStar_ne rfl)) (noStar_ne rfl))) snd_nil (noStar_ne rfl)))) snd_nil (noStar_ne rfl))) snd_nil (noStar_ne rfl))) snd_int) (snd_lst (snd_cons (snd_tup (snd_cons snd_int (snd_cons snd_int snd_nil (noStar_ne rfl)) (noStar_ne rfl))) snd_nil (noStar_ne rfl))))) (snd_seq (snd_ret snd_bl)
  snd_end) snd_end)
  have q9 : SndS (gg X.K C) true X ((defBody s_law_right).getD 9 (.Pass ⟨0, 0, 0, 0⟩)) (sAsg 7 (dLst (dCons (dCst (.int 0)) (dCons (dCst (.int 1)) (dCons (dUn negB (dCst (.int 1))) (dCons (dCst (.int 5)) (dCons (dCst (.bl true)) (dCons (dCst (.bl false)) (dCons (dCst .non) (dCons (dCst (.str "1")) (dCons (dLst (dCons (dCst (.int 1)) dNil)) (dCons (dTup (dCons (dCst (.int 1)) (dCons (dCst (.int 2)) dNil))) (dCons (dBin powB (dCst (.int 10)) (dCst (.int 5))) dNil))))))))))))) := (Cok.asg c0 (by decide +kernel) rfl (by decide) (snd_lst (snd_cons snd_int (snd_cons snd_int (snd_cons (snd_un snd_neg snd_int) (snd_cons snd_int (snd_cons snd_bl (snd_cons snd_bl (snd_cons snd_non (snd_cons snd_str (snd_cons (snd_lst (snd_cons snd_int snd_nil (noStar_ne rfl))) (snd_cons (snd_tup (snd_cons snd_int (snd_cons snd_int snd_nil (noStar_ne rfl)) (noStar_ne rfl))) (snd_cons (snd_bin (snd_pow) snd_int snd_int) snd_nil (noStar_ne rfl)) (noStar_ne rfl)) (noStar_ne rfl)) (noStar_ne rfl)) (noStar_ne rfl)) (noStar_ne rfl)) (noStar_ne rfl)) (noStar_ne rfl)) (noStar_ne rfl)) (noStar_ne rfl)) (noStar_ne rfl))))
  have q10 : SndS (gg X.K C) true X ((defBody s_law_right).getD 10 (.Pass ⟨0, 0, 0, 0⟩)) (sAsg 6 (dComp [8] (iSeq (dVar 7)) (gNm 8) tYesD (dLst (dCons (dCallP f_is_number (dCons (dVar 8) dNil)) (dCons (dCallP f_is_share (dCons (dVar 8) dNil)) (dCons (dCallP f_is_integer (dCons (dVar 8) dNil)) (dCons (dCallP f_is_count (dCons (dVar 8) dNil)) dNil))))))) := (Cok.asgL c0 (i := 6) (by decide +kernel) (by decide) (own := [("_law_one", 8)]) (by decide +kernel) rfl rfl (Cok.iseq c0 (Cok.var c0 (by decide +kernel))) (fun _ _ _ _ _ => (Cok.gnm (c0.blk) (by decide +kernel))) (fun _ _ _ _ _ => (snd_lst (snd_cons (Cok.callP (c0.blk) w26.blk (by decide +kernel) rfl rfl (snd_cons (Cok.var (c0.blk) (by decide +kernel)) snd_nil (noStar_ne rfl))) (snd_cons (Cok.callP (c0.blk) w25.blk (by decide +kernel) rfl rfl (snd_cons (Cok.var (c0.blk) (by decide +kernel)) snd_nil (noStar_ne rfl))) (snd_cons (Cok.callP (c0.blk) w24.blk (by decide +kernel) rfl rfl (snd_cons (Cok.var (c0.blk) (by decide +kernel)) snd_nil (noStar_ne rfl))) (snd_cons (Cok.callP (c0.blk) w23.blk (by decide +kernel) rfl rfl (snd_cons (Cok.var (c0.blk) (by decide +kernel)) snd_nil (noStar_ne rfl))) snd_nil (noStar_ne rfl)) (noStar_ne rfl)) (noStar_ne rfl)) (noStar_ne rfl)))))
  have q11 : SndS (gg X.K C) true X ((defBody s_law_right).getD 11 (.Pass ⟨0, 0, 0, 0⟩)) (sAsg 9 (dLst (dCons (dLst (dCons (dCst (.bl true)) (dCons (dCst (.bl true)) (dCons (dCst (.bl true)) (dCons (dCst (.bl true)) dNil))))) (dCons (dLst (dCons (dCst (.bl true)) (dCons (dCst (.bl true)) (dCons (dCst (.bl true)) (dCons (dCst (.bl true)) dNil))))) (dCons (dLst (dCons (dCst (.bl true)) (dCons (dCst (.bl false)) (dCons (dCst (.bl true)) (dCons (dCst (.bl false)) dNil))))) (dCons (dLst (dCons (dCst (.bl true)) (dCons (dCst (.bl false)) (dCons (dCst (.bl true)) (dCons (dCst (.bl true)) dNil))))) dNil)))))) := (Cok.asg c0 (by decide +kernel) rfl (by decide) (snd_lst (snd_cons (snd_lst (snd_cons snd_bl (snd_cons snd_bl (snd_cons snd_bl (snd_cons snd_bl snd_nil (noStar_ne rfl)) (noStar_ne rfl)) (noStar_ne rfl)) (noStar_ne rfl))) (snd_cons (snd_lst (snd_cons snd_bl (snd_cons snd_bl (snd_cons snd_bl (snd_cons snd_bl snd_nil (noStar_ne rfl)) (noStar_ne rfl)) (noStar_ne rfl)) (noStar_ne rfl))) (snd_cons (snd_lst (snd_cons snd_bl (snd_cons snd_bl (snd_cons snd_bl (snd_cons snd_bl snd_nil (noStar_ne rfl)) (noStar_ne rfl)) (noStar_ne rfl)) (noStar_ne rfl))) (snd_cons (snd_lst (snd_cons snd_bl (snd_cons snd_bl (snd_cons snd_bl (snd_cons snd_bl snd_nil (noStar_ne rfl)) (noStar_ne rfl)) (noStar_ne rfl)) (noStar_ne rfl))) snd_nil (noStar_ne rfl)) (noStar_ne rfl)) (noStar_ne rfl)) (noStar_ne rfl))))
  have q12 : SndS (gg X.K C) true X ((defBody s_law_right).getD 12 (.Pass ⟨0, 0, 0, 0⟩)) (sRet (dBin oEq (dVar 6) (dBin oAdd (dBin oAdd (dVar 9) (dComp [2] (iRng (dCons (dCst (.int 6)) dNil)) (gNm 2) tYesD (dBin oMult (dLst (dCons (dCst (.bl false)) dNil)) (dCst (.int 4))))) (dLst (dCons (dLst (dCons (dCst (.bl true)) (dCons (dCst (.bl false)) (dCons (dCst (.bl true)) (dCons (dCst (.bl true)) dNil))))) dNil))))) := (snd_ret (snd_cmp (p_oEq c0 w2 w20) rfl (Cok.var c0 (by decide +kernel)) (snd_bin (p_oAdd c0 w2 w14 w15) (snd_bin (p_oAdd c0 w2 w14 w15) (Cok.var c0 (by decide +kernel)) (Cok.lc c0 (own := [("_law_turn", 2)]) (by decide +kernel) rfl rfl (Cok.irng1 c0 (by decide +kernel) z_range rfl (snd_cons snd_int snd_nil (noStar_ne rfl))) (fun _ _ _ _ _ => (Cok.gnm (c0.blk) (by decide +kernel))) (fun _ _ _ _ _ => (snd_bin (p_oMult (c0.blk) w2.blk w3.blk w4.blk) (snd_lst (snd_cons snd_bl snd_nil (noStar_ne rfl))) snd_int)))) (snd_lst (snd_cons (snd_lst (snd_cons snd_bl (snd_cons snd_bl (snd_cons snd_bl (snd_cons snd_bl snd_nil (noStar_ne rfl)) (noStar_ne rfl)) (noStar_ne rfl)) (noStar_ne rfl))) snd_nil (noStar_ne rfl))))))
  exact (snd_seq q0 (snd_seq q1 (snd_seq q2 (snd_seq q3 (snd_seq q4 (snd_seq q5 (snd_seq q6 (snd_seq q7 (snd_seq q8 (snd_seq q9 (snd_seq q10 (snd_seq q11 (snd_seq q12 snd_end)))))))))))))
theorem ok_law_pot (T : Txt K mg A Pp C FD) : FnD P w K mg base false 8 (A 46) (FD 46) ["_law_script", "_law_k"] (spD (gg K C) false 2 f_law_pot) := by
  refine fnD_of (N := ["_law_script", "_law_k", "_law_cell"]) (FunD.a' T.F46) ⟨rfl, rfl, rfl, by decide +kernel, rfl, by decide +kernel, by decide +kernel⟩ rfl (by decide) fun X b => ?_
  have hp := b.prog; have hw := b.w; have hK := b.K; have hm := b.mg; have hb := b.base; subst hp hw hK hm hb
  have c0 : Cok (gg X.K C) ["_law_script", "_law_k", "_law_cell"] (defScope s_law_pot) (fun _ => true) X := b.ctx rfl (by decide +kernel)
  have G := gok T
  have z_len := T.z_len
  have z_abs := T.z_abs
  have z_int := T.z_int
  have z_max := T.z_max
  have w1 : OpCls (gg X.K C) X 3 := ClsK.op T.k3 rfl
  have w2 : MOk (gg X.K C) X 3 "__add__" 2 false f_Ratio___add := ⟨⟨C 3, A 4, FD 4, ["self", "other"], 5, rfl, T.k3.cl, T.me4, b4 T, b.room.mono (by decide), ok_Ratio___add T, rfl⟩, (show ("__add__" : Str) ∉ (["own_top", "own_bottom"] : List Str) by decide +kernel)⟩
  have w3 : MOk (gg X.K C) X 3 "__radd__" 2 false f_Ratio___radd := ⟨⟨C 3, A 5, FD 5, ["self", "other"], 5, rfl, T.k3.cl, T.me5, b5 T, b.room.mono (by decide), ok_Ratio___radd T, rfl⟩, (show ("__radd__" : Str) ∉ (["own_top", "own_bottom"] : List Str) by decide +kernel)⟩
  have w5 : MOk (gg X.K C) X 3 "__mul__" 2 false f_Ratio___mul := ⟨⟨C 3, A 6, FD 6, ["self", "other"], 5, rfl, T.k3.cl, T.me6, b6 T, b.room.mono (by decide), ok_Ratio___mul T, rfl⟩, (show ("__mul__" : Str) ∉ (["own_top", "own_bottom"] : List Str) by decide +kernel)⟩
  have w6 : MOk (gg X.K C) X 3 "__rmul__" 2 false f_Ratio___rmul := ⟨⟨C 3, A 7, FD 7, ["self", "other"], 5, rfl, T.k3.cl, T.me7, b7 T, b.room.mono (by decide), ok_Ratio___rmul T, rfl⟩, (show ("__rmul__" : Str) ∉ (["own_top", "own_bottom"] : List Str) by decide +kernel)⟩
  have w8 : MOk (gg X.K C) X 3 "__sub__" 2 false f_Ratio___sub := ⟨⟨C 3, A 10, FD 10, ["self", "other"], 5, rfl, T.k3.cl, T.me10, b10 T, b.room.mono (by decide), ok_Ratio___sub T, rfl⟩, (show ("__sub__" : Str) ∉ (["own_top", "own_bottom"] : List Str) by decide +kernel)⟩
  have w9 : MOk (gg X.K C) X 3 "__rsub__" 2 false f_Ratio___rsub := ⟨⟨C 3, A 11, FD 11, ["self", "other"], 5, rfl, T.k3.cl, T.me11, b11 T, b.room.mono (by decide), ok_Ratio___rsub T, rfl⟩, (show ("__rsub__" : Str) ∉ (["own_top", "own_bottom"] : List Str) by decide +kernel)⟩
  exact (snd_seq (Cok.asg c0 (by decide +kernel) rfl (by decide) (snd_bin (p_oAdd c0 w1 w2 w3) (snd_bin (p_oMult c0 w1 w5 w6) snd_int (Cok.var c0 (by decide +kernel))) snd_int))
  (snd_seq (snd_if (snd_cmpT (snd_lt) rfl (Cok.var c0 (by decide +kernel)) (Cok.blt c0 (snd_len c0.hK) (by decide +kernel) z_len (by decide +kernel) rfl (snd_cons (Cok.var c0 (by decide +kernel)) snd_nil (noStar_ne rfl)))) (snd_seq (Cok.asg c0 (by decide +kernel) rfl (by decide) (Cok.blt c0 (snd_abs) (by decide +kernel) z_abs (by decide +kernel) rfl (snd_cons (Cok.item c0 (by decide +kernel) rfl (Cok.var c0 (by decide +kernel))) snd_nil (noStar_ne rfl))))
  snd_end) snd_end)
  (snd_seq (snd_ret (snd_lst (snd_cons (Cok.blt c0 (snd_max c0.calm) (by decide +kernel) z_max (by decide +kernel) rfl (snd_cons snd_int (snd_cons (snd_bin (p_oSub c0 w1 w8 w9) (Cok.var c0 (by decide +kernel)) (snd_bin (snd_pow) snd_int snd_int)) snd_nil (noStar_ne rfl)) (noStar_ne rfl))) (snd_cons (snd_bin (p_oAdd c0 w1 w2 w3) (snd_bin (snd_mod) (snd_bin (p_oMult c0 w1 w5 w6) (Cok.bltT c0 (snd_intf) (by decide +kernel) z_int (by decide +kernel) rfl (snd_cons (snd_bin (p_oAdd c0 w1 w2 w3) (snd_bin (snd_mod) (Cok.bltT c0 (snd_intf) (by decide +kernel) z_int (by decide +kernel) rfl (snd_cons (Cok.var c0 (by decide +kernel)) snd_nil (noStar_ne rfl))) snd_int) snd_int) snd_nil (noStar_ne rfl))) (snd_bin (snd_pow) (snd_bin (p_oAdd c0 w1 w2 w3) (snd_bin (p_oMult c0 w1 w5 w6) snd_int (Cok.var c0 (by decide +kernel))) snd_int) snd_int)) snd_int) snd_int) snd_nil (noStar_ne rfl)) (noStar_ne rfl))))
  snd_end)))
theorem ok_law (T : Txt K mg A Pp C FD) : FnD P w K mg base true 14 (A 47) (FD 47) ["_law_script"] (spD (gg K C) false 1 f_law) := by
  refine fnD_of (N := ["_law_script"]) (FunD.a' T.F47) ⟨rfl, rfl, rfl, by decide +kernel, rfl, by decide +kernel, by decide +kernel⟩ rfl (by decide) fun X b => ?_
  have hp := b.prog; have hw := b.w; have hK := b.K; have hm := b.mg; have hb := b.base; subst hp hw hK hm hb
  have c0 : Cok (gg X.K C) ["_law_script"] (defScope s_law) (fun _ => true) X := b.ctx rfl (by decide +kernel)
  have G := gok T
  have gu := b.gd rfl
  have w0 : CallOk X "_law_right" true 1 (spD (gg X.K C) true 1 f_law_right) := ⟨_, FD 45, ["_law_pot_here"], 13, T.g45, T.F45.kp, b45 T, b.room.mono (by decide), (fun _ => b.gd rfl), ok_law_right T, rfl⟩
  have w1 : CallOk X "_law_pot" false 2 (spD (gg X.K C) false 2 f_law_pot) := ⟨_, FD 46, ["_law_script", "_law_k"], 8, T.g46, T.F46.kp, b46 T, b.room.mono (by decide), (fun z => nomatch z), ok_law_pot T, rfl⟩
  exact (snd_seq (snd_ret (Cok.callT c0 w0 (by decide +kernel) rfl rfl (Cok.callP c0 w1 (by decide +kernel) rfl rfl (snd_cons (Cok.var c0 (by decide +kernel)) (snd_cons snd_int snd_nil (noStar_ne rfl)) (noStar_ne rfl))) snd_nil))
  snd_end)
end
end K11W

set_option maxRecDepth 100000
set_option linter.all false
/-! DVM: what the combinators do when applied (for simp), loops by induction. -/
namespace DV
open PySem L2
@[simp] theorem dVar_ap (i : Nat) (ρ : List D) : dVar i ρ = (match ρ[i]? with
  | some .und => none
  | some d => some (fz d, ρ.set i (fz d))
  | none => none) := rfl
@[simp] theorem dCst_ap (d : D) (ρ : List D) : dCst d ρ = (some (d, ρ)) := rfl
@[simp] theorem dNil_ap (ρ : List D) : dNil  ρ = (some ([], ρ)) := rfl
@[simp] theorem dCons_ap (f : Den) (r : Dens) (ρ : List D) : dCons f r ρ = (match f ρ with
  | some (d, ρ1) => match r ρ1 with
    | some (ds, ρ2) => some (d :: ds, ρ2)
    | none => none
  | none => none) := rfl
@[simp] theorem dTup_ap (r : Dens) (ρ : List D) : dTup r ρ = (match r ρ with
  | some (ds, ρ') => if ds.length ≤ 1000 then some (.tup (ds.map fz), ρ') else none
  | none => none) := rfl
@[simp] theorem dLst_ap (r : Dens) (ρ : List D) : dLst r ρ = (match r ρ with
  | some (ds, ρ') => if ds.length ≤ 1000 then some (.own ds, ρ') else none
  | none => none) := rfl
@[simp] theorem dCallP_ap (sem : Fn) (r : Dens) (ρ : List D) : dCallP sem r ρ = (match r ρ with
  | some (ds, ρ') => match sem (ds.map fz) with
    | some (d, _) => some (d, ρ')
    | none => none
  | none => none) := rfl
@[simp] theorem dCallR_ap (sem : Fn) (i : Nat) (r : Dens) (ρ : List D) : dCallR sem i r ρ = (if held ρ i = true then match r ρ with
  | some (ds, ρ') => if held ρ' i = true then match sem (ρ'.getD i .und :: ds.map fz) with
    | some (d, o) => some (d, ρ'.set i o)
    | none => none
    else none
  | none => none
  else none) := rfl
@[simp] theorem dCallT_ap (sem : Fn) (f : Den) (r : Dens) (ρ : List D) : dCallT sem f r ρ = (match f ρ with
  | some (d0, ρ1) => match r ρ1 with
    | some (ds, ρ') => match sem (d0 :: ds.map fz) with
      | some (d, _) => some (d, ρ')
      | none => none
    | none => none
  | none => none) := rfl
@[simp] theorem sEnd_ap (ρ : List D) : sEnd  ρ = (some (.nx ρ)) := rfl
@[simp] theorem sSeq_ap (f r : DenS) (ρ : List D) : sSeq f r ρ = (match f ρ with
  | some (.nx ρ') => r ρ'
  | o => o) := rfl
@[simp] theorem sRet_ap (f : Den) (ρ : List D) : sRet f ρ = (match f ρ with
  | some (d, ρ') => some (.rt d ρ')
  | none => none) := rfl
@[simp] theorem sAsg_ap (i : Nat) (f : Den) (ρ : List D) : sAsg i f ρ = (match f ρ with
  | some (d, ρ') => if i < ρ'.length then some (.nx (ρ'.set i d)) else none
  | none => none) := rfl
@[simp] theorem sIf_ap (c : DenT) (a b : DenS) (ρ : List D) : sIf c a b ρ = (match c ρ with
  | some (true, ρ') => a ρ'
  | some (false, ρ') => b ρ'
  | none => none) := rfl
@[simp] theorem sExpr_ap (f : Den) (ρ : List D) : sExpr f ρ = (match f ρ with
  | some (_, ρ') => some (.nx ρ')
  | none => none) := rfl
@[simp] theorem sNo_ap (ρ : List D) : sNo  ρ = (none) := rfl
@[simp] theorem dBin_ap (φ : D → D → Option D) (fa fb : Den) (ρ : List D) : dBin φ fa fb ρ = (match fa ρ with
  | some (da, ρ1) => match fb ρ1 with
    | some (db, ρ2) => match φ (fz da) (fz db) with
      | some d => some (d, ρ2)
      | none => none
    | none => none
  | none => none) := rfl
@[simp] theorem dBlt_ap (φ : List D → Option D) (r : Dens) (ρ : List D) : dBlt φ r ρ = (match r ρ with
  | some (ds, ρ') => match φ (ds.map fz) with
    | some d => some (d, ρ')
    | none => none
  | none => none) := rfl
@[simp] theorem tOf_ap (f : Den) (ρ : List D) : tOf f ρ = (match f ρ with
  | some (.bl b, ρ') => some (b, ρ')
  | _ => none) := rfl
@[simp] theorem tNotD_ap (f : DenT) (ρ : List D) : tNotD f ρ = (match f ρ with
  | some (b, ρ') => some (!b, ρ')
  | none => none) := rfl
@[simp] theorem tAndD_ap (f r : DenT) (ρ : List D) : tAndD f r ρ = (match f ρ with
  | some (true, ρ') => r ρ'
  | some (false, ρ') => some (false, ρ')
  | none => none) := rfl
@[simp] theorem tOrD_ap (f r : DenT) (ρ : List D) : tOrD f r ρ = (match f ρ with
  | some (true, ρ') => some (true, ρ')
  | some (false, ρ') => r ρ'
  | none => none) := rfl
@[simp] theorem dOf_ap (f : DenT) (ρ : List D) : dOf f ρ = (match f ρ with
  | some (b, ρ') => some (.bl b, ρ')
  | none => none) := rfl
@[simp] theorem dIf_ap (c : DenT) (a b : Den) (ρ : List D) : dIf c a b ρ = (match c ρ with
  | some (true, ρ') => a ρ'
  | some (false, ρ') => b ρ'
  | none => none) := rfl
@[simp] theorem dAnd_ap (f r : Den) (ρ : List D) : dAnd f r ρ = (match f ρ with
  | some (.bl true, ρ') => r ρ'
  | some (.bl false, ρ') => some (.bl false, ρ')
  | _ => none) := rfl
@[simp] theorem dOr_ap (f r : Den) (ρ : List D) : dOr f r ρ = (match f ρ with
  | some (.bl false, ρ') => r ρ'
  | some (.bl true, ρ') => some (.bl true, ρ')
  | _ => none) := rfl
@[simp] theorem dNot_ap (f : Den) (ρ : List D) : dNot f ρ = (match f ρ with
  | some (.bl b, ρ') => some (.bl (!b), ρ')
  | _ => none) := rfl
@[simp] theorem dChain_ap (φ ψ : D → D → Option D) (fa fb fc : Den) (ρ : List D) : dChain φ ψ fa fb fc ρ = (match fa ρ with
  | some (da, ρ1) => match fb ρ1 with
    | some (db, ρ2) => match φ (fz da) (fz db) with
      | some (.bl true) => match fc ρ2 with
        | some (dc, ρ3) => match ψ (fz db) (fz dc) with
          | some (.bl t) => some (.bl t, ρ3)
          | _ => none
        | none => none
      | some (.bl false) => some (.bl false, ρ2)
      | _ => none
    | none => none
  | none => none) := rfl
@[simp] theorem iSeq_ap (f : Den) (ρ : List D) : iSeq f ρ = (match f ρ with
  | some (d, ρ') => match itemsOf (fz d) with
    | some xs => some (xs, ρ')
    | none => none
  | none => none) := rfl
@[simp] theorem iRng_ap (r : Dens) (ρ : List D) : iRng r ρ = (match r ρ with
  | some ([.int j], ρ') => if -4611686018427387904 ≤ j ∧ j < 4611686018427387904 then some (rngD 0 j.toNat, ρ') else none
  | some ([.int i, .int j], ρ') => if (-4611686018427387904 ≤ i ∧ i < 4611686018427387904) ∧ -4611686018427387904 ≤ j ∧ j < 4611686018427387904 then some (rngD i (j - i).toNat, ρ') else none
  | _ => none) := rfl
@[simp] theorem gNm_ap (i : Nat) (d : D) (ρ : List D) : gNm i d ρ = (if i < ρ.length then some (ρ.set i d) else none) := rfl
@[simp] theorem gTp_ap (is : List Nat) (d : D) (ρ : List D) : gTp is d ρ = (match fz d with
  | .tup ds => gNms is ds ρ
  | _ => none) := rfl
@[simp] theorem sFor_ap (fi : Dens) (fg : DenG) (fb : DenS) (ρ : List D) : sFor fi fg fb ρ = (match fi ρ with
  | some (its, ρ') => forD fg fb its ρ'
  | none => none) := rfl
@[simp] theorem dComp_ap (own : List Nat) (fi : Dens) (fg : DenG) (ft : DenT) (fe : Den) (ρ : List D) : dComp own fi fg ft fe ρ = (match fi ρ with
  | some (its, ρ') => match compD own fg ft fe its [] (unset own ρ') with
    | some (acc, ρ2) => some (.own acc, ρ2)
    | none => none
  | none => none) := rfl
@[simp] theorem dItem_ap (i : Nat) (fj : Den) (ρ : List D) : dItem i fj ρ = (if held ρ i = true then match fj ρ with
  | some (.int j, ρ') => match ρ'[i]? with
    | some (.own xs) => match ixN xs.length j with
      | some k => match xs[k]? with
        | some d => some (fz d, ρ'.set i (.own (xs.set k (fz d))))
        | none => none
      | none => none
    | some d => match ixB d (.int j) with
      | some d' => some (d', ρ')
      | none => none
    | none => none
  | _ => none
  else none) := rfl
@[simp] theorem gItem_ap (i : Nat) (fj : Den) (d : D) (ρ : List D) : gItem i fj d ρ = (if held ρ i = true then match fj ρ with
  | some (.int j, ρ') => match ρ'[i]? with
    | some (.own xs) => match ixN xs.length j with
      | some k => some (ρ'.set i (.own (xs.set k d)))
      | none => none
    | _ => none
  | _ => none
  else none) := rfl
@[simp] theorem sAsgG_ap (fe : Den) (fg : DenG) (ρ : List D) : sAsgG fe fg ρ = (match fe ρ with
  | some (d, ρ') => match fg d ρ' with
    | some ρ2 => some (.nx ρ2)
    | none => none
  | none => none) := rfl
@[simp] theorem gTup_ap (fs : List DenG) (d : D) (ρ : List D) : gTup fs d ρ = (match fz d with
  | .tup ds => gTs fs ds ρ
  | _ => none) := rfl
@[simp] theorem sPar_ap (i j : Nat) (r : Dens) (ρ : List D) : sPar i j r ρ = (match r ρ with
  | some ([d1, d2], ρ') => if i < ρ'.length ∧ j < ρ'.length then some (.nx ((ρ'.set i d1).set j d2)) else none
  | _ => none) := rfl
@[simp] theorem sPar3_ap (i j l : Nat) (r : Dens) (ρ : List D) : sPar3 i j l r ρ = (match r ρ with
  | some ([d1, d2, d3], ρ') => if i < ρ'.length ∧ j < ρ'.length ∧ l < ρ'.length then some (.nx (((ρ'.set i d1).set j d2).set l d3)) else none
  | _ => none) := rfl
@[simp] theorem dApp_ap (i : Nat) (fe : Den) (ρ : List D) : dApp i fe ρ = (if isOwn ρ i = true then match fe ρ with
  | some (d, ρ') => match ρ'[i]? with
    | some (.own xs) => if xs.length < 100000 then some (.non, ρ'.set i (.own (xs ++ [d]))) else none
    | _ => none
  | none => none
  else none) := rfl
@[simp] theorem dExt_ap (i : Nat) (fe : Den) (ρ : List D) : dExt i fe ρ = (if isOwn ρ i = true then match fe ρ with
  | some (d, ρ') => match fz d, ρ'[i]? with
    | .lst zs, some (.own xs) => if xs.length + zs.length ≤ 100000 then some (.non, ρ'.set i (.own (xs ++ zs))) else none
    | _, _ => none
  | none => none
  else none) := rfl
@[simp] theorem dUn_ap (φ : D → Option D) (f : Den) (ρ : List D) : dUn φ f ρ = (match f ρ with
  | some (d, ρ') => match φ (fz d) with
    | some d' => some (d', ρ')
    | none => none
  | none => none) := rfl
@[simp] theorem pNo_ap (ρ : List D) : pNo  ρ = (some (none, ρ)) := rfl
@[simp] theorem pSome_ap (f : Den) (ρ : List D) : pSome f ρ = (match f ρ with
  | some (.int i, ρ') => some (some i, ρ')
  | _ => none) := rfl
@[simp] theorem dSlc_ap (f : Den) (lo hi : PartD) (ρ : List D) : dSlc f lo hi ρ = (match f ρ with
  | some (d, ρ1) => match lo ρ1 with
    | some (l, ρ2) => match hi ρ2 with
      | some (h, ρ3) => match slcB (fz d) l h with
        | some d' => some (d', ρ3)
        | none => none
      | none => none
    | none => none
  | none => none) := rfl
@[simp] theorem dJoin_ap (fs : List Den) (ρ : List D) : dJoin fs ρ = (match joinD fs Str.empty ρ with
  | some (s, ρ') => some (.str s, ρ')
  | none => none) := rfl
@[simp] theorem dFld_ap (c j : Nat) (f : Den) (ρ : List D) : dFld c j f ρ = (match f ρ with
  | some (d, ρ') => match fz d with
    | .ins c' xs => if c' = c then (match xs[j]? with
      | some x => some (x, ρ')
      | none => none) else none
    | _ => none
  | none => none) := rfl
@[simp] theorem dFldV_ap (i c j : Nat) (ρ : List D) : dFldV i c j ρ = (match ρ[i]? with
  | some (.obj c' xs) => if c' = c then (match xs[j]? with
    | some x => some (fz x, ρ.set i (.obj c (xs.set j (fz x))))
    | none => none) else none
  | some (.ins c' xs) => if c' = c then (match xs[j]? with
    | some x => some (x, ρ)
    | none => none) else none
  | _ => none) := rfl
@[simp] theorem dMeth_ap (c : Nat) (fn : Fn) (f : Den) (r : Dens) (ρ : List D) : dMeth c fn f r ρ = (match f ρ with
  | some (d, ρ1) => match fz d with
    | .ins c' xs => if c' = c then (match r ρ1 with
      | some (ds, ρ2) => match fn (.ins c xs :: ds.map fz) with
        | some (d', _) => some (d', ρ2)
        | none => none
      | none => none) else none
    | _ => none
  | none => none) := rfl
@[simp] theorem dCMeth_ap (c : Nat) (fn : Fn) (r : Dens) (ρ : List D) : dCMeth c fn r ρ = (match r ρ with
  | some (ds, ρ') => match fn (.cls c :: ds.map fz) with
    | some (d, _) => some (d, ρ')
    | none => none
  | none => none) := rfl
@[simp] theorem dMake_ap (c : Nat) (dd : List D) (fn : Fn) (r : Dens) (ρ : List D) : dMake c dd fn r ρ = (match r ρ with
  | some (ds, ρ') => match fn (.obj c [] :: (ds.map fz ++ dd)) with
    | some (.non, o) => some (o, ρ')
    | _ => none
  | none => none) := rfl
@[simp] theorem sFst_ap (i c j : Nat) (fe : Den) (ρ : List D) : sFst i c j fe ρ = (match fe ρ with
  | some (d, ρ') => match ρ'[i]? with
    | some (.obj c' xs) => if c' = c ∧ j ≤ xs.length then some (.nx (ρ'.set i (.obj c (if j < xs.length then xs.set j d else xs ++ [d])))) else none
    | _ => none
  | none => none) := rfl
@[simp] theorem rBoth_ap (r q : Dens) (ρ : List D) : rBoth r q ρ = (match r ρ with
  | some (ds, ρ1) => match q ρ1 with
    | some (es, ρ2) => some (ds ++ es, ρ2)
    | none => none
  | none => none) := rfl
@[simp] theorem tYesD_ap (ρ : List D) : tYesD  ρ = (some (true, ρ)) := rfl
end DV

set_option maxRecDepth 100000
set_option linter.all false
namespace DV
open PySem L2
@[simp] theorem fz_non : fz .non = .non := rfl
@[simp] theorem fz_und : fz .und = .und := rfl
@[simp] theorem fz_bl {b : Bool} : fz (.bl b) = .bl b := rfl
@[simp] theorem fz_int {i : Int} : fz (.int i) = .int i := rfl
@[simp] theorem fz_str {x : Str} : fz (.str x) = .str x := rfl
@[simp] theorem fz_ty {x : String} : fz (.ty x) = .ty x := rfl
@[simp] theorem fz_cls {c : Nat} : fz (.cls c) = .cls c := rfl
@[simp] theorem fz_tup {xs : List D} : fz (.tup xs) = .tup xs := rfl
@[simp] theorem fz_lst {xs : List D} : fz (.lst xs) = .lst xs := rfl
@[simp] theorem fz_con {xs : List D} : fz (.con xs) = .con xs := rfl
@[simp] theorem fz_ins {c : Nat} {xs : List D} : fz (.ins c xs) = .ins c xs := rfl
@[simp] theorem fz_own {xs : List D} : fz (.own xs) = .lst (xs.map fz) := by rw [← fzs_map]; rfl
@[simp] theorem fz_obj {c : Nat} {xs : List D} : fz (.obj c xs) = .ins c (xs.map fz) := by rw [← fzs_map]; rfl
@[simp] theorem addB_int {i j : Int} : addB (.int i) (.int j) = some (.int (i + j)) := rfl
@[simp] theorem addB_str {x y : Str} : addB (.str x) (.str y) = if x.length + y.length ≤ 100000 then some (.str (x ++ y)) else none := rfl
@[simp] theorem addB_lst {x y : List D} : addB (.lst x) (.lst y) = if x.length + y.length ≤ 100000 then some (.own (x ++ y)) else none := rfl
@[simp] theorem addB_tup {x y : List D} : addB (.tup x) (.tup y) = if x.length + y.length ≤ 100000 then some (.tup (x ++ y)) else none := rfl
@[simp] theorem subB_int {i j : Int} : subB (.int i) (.int j) = some (.int (i - j)) := rfl
@[simp] theorem negB_int {i : Int} : negB (.int i) = some (.int (-i)) := rfl
@[simp] theorem cmpB_int {p : Int → Int → Bool} {i j : Int} : cmpB p (.int i) (.int j) = some (.bl (p i j)) := rfl
@[simp] theorem ltB_int {i j : Int} : ltB (.int i) (.int j) = some (.bl (decide (i < j))) := rfl
@[simp] theorem modB_int {i j : Int} : modB (.int i) (.int j) = if j ≠ 0 then some (.int (i.fmod j)) else none := rfl
@[simp] theorem powB_int {i j : Int} : powB (.int i) (.int j) = if 0 ≤ j ∧ j ≤ 1000000 ∧ i.natAbs < 2 ^ 64 then some (.int (i ^ j.toNat)) else none := rfl
@[simp] theorem mulB_lst {x : List D} {k : Int} : mulB (.lst x) (.int k) = if 0 ≤ k ∧ k ≤ 1000 ∧ x.length ≤ 1000 then some (.own (List.replicate k.toNat x).flatten) else none := rfl
@[simp] theorem absB_int {i : Int} : absB [.int i] = some (.int (if i < 0 then -i else i)) := rfl
@[simp] theorem maxB_int {i j : Int} : maxB [.int i, .int j] = some (.int (if j > i then j else i)) := rfl
@[simp] theorem minB_int {i j : Int} : minB [.int i, .int j] = some (.int (if j < i then j else i)) := rfl
@[simp] theorem intB_int {i : Int} : intB [.int i] = some (.int i) := rfl
@[simp] theorem intB_bl {b : Bool} : intB [.bl b] = some (.int (if b then 1 else 0)) := rfl
@[simp] theorem lenB_lst {xs : List D} : lenB [.lst xs] = some (.int xs.length) := rfl
@[simp] theorem lenB_con {xs : List D} : lenB [.con xs] = some (.int xs.length) := rfl
@[simp] theorem lenB_tup {xs : List D} : lenB [.tup xs] = some (.int xs.length) := rfl
@[simp] theorem divmodB_int {i j : Int} : divmodB [.int i, .int j] = if 0 < j ∧ j < 1073741824 then some (.tup [.int (i / j), .int (i % j)]) else none := rfl
@[simp] theorem tupleB_lst {xs : List D} : tupleB [.lst xs] = some (.tup xs) := rfl
@[simp] theorem tupleB_tup {xs : List D} : tupleB [.tup xs] = some (.tup xs) := rfl
@[simp] theorem listB_lst {xs : List D} : listB [.lst xs] = some (.own xs) := rfl
@[simp] theorem listB_tup {xs : List D} : listB [.tup xs] = some (.own xs) := rfl
@[simp] theorem fmtB_str {y : Str} : fmtB (.str y) = if y.length ≤ 100000 then some (.str y) else none := rfl
@[simp] theorem fmtB_int {i : Int} : fmtB (.int i) = if i.natAbs.log2 < 1920 then some (.str (toString i : String)) else none := rfl
@[simp] theorem strB_int {i : Int} : strB [.int i] = if i.natAbs.log2 < 1920 then some (.str (toString i : String)) else none := rfl
@[simp] theorem strB_str {i : Str} : strB [.str i] = some (.str i) := rfl
@[simp] theorem itemsOf_lst {xs : List D} : itemsOf (.lst xs) = some xs := rfl
@[simp] theorem itemsOf_con {xs : List D} : itemsOf (.con xs) = some xs := rfl
@[simp] theorem itemsOf_tup {xs : List D} : itemsOf (.tup xs) = some xs := rfl
@[simp] theorem outD_f' {d : D} {ρ : List D} : outD false d ρ = some (d, .non) := rfl
@[simp] theorem isN_non : D.isN .non = true := rfl
@[simp] theorem isN_int {i : Int} : D.isN (.int i) = false := rfl
@[simp] theorem isN_bl {i : Bool} : D.isN (.bl i) = false := rfl
@[simp] theorem isN_str {i : Str} : D.isN (.str i) = false := rfl
@[simp] theorem isN_tup {i : List D} : D.isN (.tup i) = false := rfl
@[simp] theorem isN_lst {i : List D} : D.isN (.lst i) = false := rfl
@[simp] theorem isN_ins {c : Nat} {i : List D} : D.isN (.ins c i) = false := rfl
@[simp] theorem isNonB_non {b : Bool} {d : D} : isNonB b d .non = some (.bl (b != d.isN)) := by cases d <;> rfl
@[simp] theorem kd_int {i : Int} : kd (.int i) = some (.inl "int") := rfl
@[simp] theorem kd_bl {i : Bool} : kd (.bl i) = some (.inl "bool") := rfl
@[simp] theorem kd_str {i : Str} : kd (.str i) = some (.inl "str") := rfl
@[simp] theorem kd_non : kd .non = some (.inl "NoneType") := rfl
@[simp] theorem kd_lst {i : List D} : kd (.lst i) = some (.inl "list") := rfl
@[simp] theorem kd_con {i : List D} : kd (.con i) = some (.inl "list") := rfl
@[simp] theorem kd_tup {i : List D} : kd (.tup i) = some (.inl "tuple") := rfl
@[simp] theorem kd_ins {c : Nat} {i : List D} : kd (.ins c i) = some (.inr c) := rfl
@[simp] theorem isiB_ty {d : D} {n : String} : isiB [d, .ty n] = (isOne d (.ty n)).map .bl := by cases d <;> rfl
@[simp] theorem isiB_cls {d : D} {n : Nat} : isiB [d, .cls n] = (isOne d (.cls n)).map .bl := by cases d <;> rfl
@[simp] theorem isiB_tup {d : D} {cs : List D} : isiB [d, .tup cs] = if allCls d cs = true ∧ 0 < cs.length then (isAny d cs).map .bl else none := by cases d <;> rfl
theorem sWhile_f {c : DenT} {b : DenS} {ρ ρ1 : List D} (h : c ρ = some (false, ρ1)) : sWhile c b ρ = some (.nx ρ1) := by
  unfold sWhile; rw [whl]; simp only [h]
theorem sWhile_t {c : DenT} {b : DenS} {ρ ρ1 ρ2 : List D} (h : c ρ = some (true, ρ1)) (h2 : b ρ1 = some (.nx ρ2)) : sWhile c b ρ = sWhile c b ρ2 := by
  conv => lhs; unfold sWhile; rw [whl]; simp only [h, h2]
  rfl
theorem sWhile_r {c : DenT} {b : DenS} {ρ ρ1 ρ2 : List D} {d : D} (h : c ρ = some (true, ρ1)) (h2 : b ρ1 = some (.rt d ρ2)) : sWhile c b ρ = some (.rt d ρ2) := by
  unfold sWhile; rw [whl]; simp only [h, h2]
@[simp] theorem semOf_ap {N : Nat} {mu : Bool} {f : DenS} {ds : List D} : semOf N mu f ds = (match f (ds ++ List.replicate (N - ds.length) .und) with
  | some (.nx ρ) => outD mu .non ρ
  | some (.rt d ρ) => outD mu d ρ
  | _ => none) := rfl

/-! sizes -/
/-- below 2^n without its sign -/
def Sm (n : Nat) (i : Int) : Prop := i.natAbs < 2 ^ n
theorem Sm.mono {n m : Nat} {i : Int} (h : Sm n i) (k : n ≤ m) : Sm m i := Nat.lt_of_lt_of_le h (Nat.pow_le_pow_right (by decide) k)
theorem Sm.mul {n m : Nat} {i j : Int} (h : Sm n i) (k : Sm m j) : Sm (n + m) (i * j) := by
  unfold Sm at *
  rw [Int.natAbs_mul, Nat.pow_add]
  exact Nat.mul_lt_mul'' h k
theorem Sm.add {n m : Nat} {i j : Int} (h : Sm n i) (k : Sm m j) : Sm (max n m + 1) (i + j) := by
  have h := h.mono (Nat.le_max_left n m); have k := k.mono (Nat.le_max_right n m)
  unfold Sm at *
  rw [Nat.pow_succ]
  omega
theorem Sm.sub {n m : Nat} {i j : Int} (h : Sm n i) (k : Sm m j) : Sm (max n m + 1) (i - j) := by
  have h := h.mono (Nat.le_max_left n m); have k := k.mono (Nat.le_max_right n m)
  unfold Sm at *
  rw [Nat.pow_succ]
  omega
theorem Sm.neg {n : Nat} {i : Int} (h : Sm n i) : Sm n (-i) := by unfold Sm at *; omega
theorem Sm.log {n : Nat} {i : Int} (h : Sm n i) : i.natAbs.log2 ≤ n := by
  by_cases e : i.natAbs = 0
  · rw [e]; simp
  · exact Nat.le_of_lt_succ (Nat.lt_of_lt_of_le ((Nat.log2_lt e).mpr h) (Nat.le_succ n))
theorem Sm.of {n : Nat} {i : Int} (h : i.natAbs < 2 ^ n) : Sm n i := h
theorem Sm.le {n : Nat} {i j : Int} (h : Sm n i) (k : j.natAbs ≤ i.natAbs) : Sm n j := Nat.lt_of_le_of_lt k h
/-- a product within the model's size -/
def MuOk (i j : Int) : Prop := i.natAbs.log2 + j.natAbs.log2 < 1000000
instance {i j : Int} : Decidable (MuOk i j) := inferInstanceAs (Decidable (_ < _))
/-- a divisor within the model's size -/
def DvOk (j : Int) : Prop := j ≠ 0 ∧ j.natAbs.log2 < 9000
instance {j : Int} : Decidable (DvOk j) := inferInstanceAs (Decidable (_ ∧ _))
@[simp] theorem mulB_int {i j : Int} : mulB (.int i) (.int j) = if MuOk i j then some (.int (i * j)) else none := rfl
@[simp] theorem divB_int {i j : Int} : divB (.int i) (.int j) = if DvOk j then some (.int (i.fdiv j)) else none := rfl
theorem Sm.mulOk {i j : Int} {n m : Nat} (h : Sm n i) (k : Sm m j) (l : n + m < 1000000) : MuOk i j := by
  have h1 := h.log; have h2 := k.log
  unfold MuOk; omega
theorem Sm.divOk {j : Int} {m : Nat} (k : Sm m j) (hj : j ≠ 0) (l : m < 9000) : DvOk j := by
  have h2 := k.log
  exact ⟨hj, by omega⟩
end DV

set_option maxRecDepth 100000
set_option linter.all false
namespace DV
open PySem L2
@[simp] theorem ownO_int {c : Nat} {l r : Fn} {φ : D → D → Option D} {i j : Int} : ownO c l r φ (.int i) (.int j) = φ (.int i) (.int j) := rfl
@[simp] theorem ownO_str {c : Nat} {l r : Fn} {φ : D → D → Option D} {i : Str} {j : D} : ownO c l r φ (.str i) j = φ (.str i) j := rfl
@[simp] theorem ownO_lst {c : Nat} {l r : Fn} {φ : D → D → Option D} {i : List D} {j : D} : ownO c l r φ (.lst i) j = φ (.lst i) j := rfl
@[simp] theorem ownO_tup {c : Nat} {l r : Fn} {φ : D → D → Option D} {i : List D} {j : D} : ownO c l r φ (.tup i) j = φ (.tup i) j := rfl
@[simp] theorem ownO_ii {c : Nat} {l r : Fn} {φ : D → D → Option D} {i j : List D} : ownO c l r φ (.ins c i) (.ins c j) = (l [.ins c i, .ins c j]).map (·.1) := by simp [ownO]
@[simp] theorem ownO_in {c : Nat} {l r : Fn} {φ : D → D → Option D} {i : List D} {j : Int} : ownO c l r φ (.ins c i) (.int j) = (l [.ins c i, .int j]).map (·.1) := by simp [ownO]
@[simp] theorem ownO_ni {c : Nat} {l r : Fn} {φ : D → D → Option D} {i : List D} {j : Int} : ownO c l r φ (.int j) (.ins c i) = (r [.ins c i, .int j]).map (·.1) := by simp [ownO]
@[simp] theorem ownQ_int {c : Nat} {e : Fn} {φ : D → D → Option D} {i j : Int} : ownQ c e φ (.int i) (.int j) = φ (.int i) (.int j) := rfl
@[simp] theorem ownQ_tup {c : Nat} {e : Fn} {φ : D → D → Option D} {i : List D} {j : D} : ownQ c e φ (.tup i) j = φ (.tup i) j := rfl
@[simp] theorem ownQ_lst {c : Nat} {e : Fn} {φ : D → D → Option D} {i : List D} {j : D} : ownQ c e φ (.lst i) j = φ (.lst i) j := rfl
@[simp] theorem ownQ_str {c : Nat} {e : Fn} {φ : D → D → Option D} {i : Str} {j : D} : ownQ c e φ (.str i) j = φ (.str i) j := rfl
@[simp] theorem ownQ_bl {c : Nat} {e : Fn} {φ : D → D → Option D} {i : Bool} {j : D} : ownQ c e φ (.bl i) j = φ (.bl i) j := rfl
@[simp] theorem ownQ_ii {c : Nat} {e : Fn} {φ : D → D → Option D} {i j : List D} : ownQ c e φ (.ins c i) (.ins c j) = (match e [.ins c i, .ins c j] with
    | some (.bl t, _) => some (.bl t)
    | _ => none) := by simp [ownQ] <;> rfl
@[simp] theorem ownQ_in {c : Nat} {e : Fn} {φ : D → D → Option D} {i : List D} {j : Int} : ownQ c e φ (.ins c i) (.int j) = (match e [.ins c i, .int j] with
    | some (.bl t, _) => some (.bl t)
    | _ => none) := by simp [ownQ, bare] <;> rfl
@[simp] theorem ownQ_ni {c : Nat} {e : Fn} {φ : D → D → Option D} {i : List D} {j : Int} : ownQ c e φ (.int j) (.ins c i) = (match e [.ins c i, .int j] with
    | some (.bl t, _) => some (.bl t)
    | _ => none) := by simp [ownQ, bare] <;> rfl
@[simp] theorem ownN_int {c : Nat} {e : Fn} {φ : D → D → Option D} {i : Int} {j : D} : ownN c e φ (.int i) j = φ (.int i) j := by cases j <;> rfl
@[simp] theorem ownN_tup {c : Nat} {e : Fn} {φ : D → D → Option D} {i : List D} {j : D} : ownN c e φ (.tup i) j = φ (.tup i) j := rfl
@[simp] theorem ownN_lst {c : Nat} {e : Fn} {φ : D → D → Option D} {i : List D} {j : D} : ownN c e φ (.lst i) j = φ (.lst i) j := rfl
@[simp] theorem ownN_str {c : Nat} {e : Fn} {φ : D → D → Option D} {i : Str} {j : D} : ownN c e φ (.str i) j = φ (.str i) j := rfl
@[simp] theorem ownN_ii {c : Nat} {e : Fn} {φ : D → D → Option D} {i j : List D} : ownN c e φ (.ins c i) (.ins c j) = (match e [.ins c i, .ins c j] with
    | some (.bl t, _) => some (.bl (!t))
    | _ => none) := by simp [ownN] <;> rfl
@[simp] theorem ownS_ins {c : Nat} {e : Fn} {φ : List D → Option D} {i : List D} : ownS c e φ [.ins c i] = (match e [.ins c i] with
    | some (.str t, _) => some (.str t)
    | _ => none) := by simp [ownS] <;> rfl
@[simp] theorem ownS_int {c : Nat} {e : Fn} {φ : List D → Option D} {i : Int} : ownS c e φ [.int i] = φ [.int i] := rfl
@[simp] theorem ownS_lst {c : Nat} {e : Fn} {φ : List D → Option D} {i : List D} : ownS c e φ [.lst i] = φ [.lst i] := rfl
@[simp] theorem ownU_ins {c : Nat} {e : Fn} {φ : D → Option D} {i : List D} : ownU c e φ (.ins c i) = (e [.ins c i]).map (·.1) := by simp [ownU]
@[simp] theorem ownU_int {c : Nat} {e : Fn} {φ : D → Option D} {i : Int} : ownU c e φ (.int i) = φ (.int i) := rfl
/-! equality of plain data -/
@[simp] theorem eqB_int {n : Bool} {i j : Int} : eqB n (.int i) (.int j) = some (.bl (n != decide (i = j))) := by
  simp [eqB, toPy, PyData.eqv, SeqAt.shaped, PyData.canLay0, PyData.depth]; rfl
@[simp] theorem eqB_pair {n : Bool} {i j k l : Int} : eqB n (.tup [.int i, .int j]) (.tup [.int k, .int l]) = some (.bl (n != (decide (i = k) && decide (j = l)))) := by
  simp [eqB, toPy, toPys, PyData.eqv, PyData.eqvAll, SeqAt.shaped, PyData.canLay0, PyData.canLayAll0, PyData.depth, PyData.depthAll]; rfl
@[simp] theorem eqB_bl {n : Bool} {i j : Bool} : eqB n (.bl i) (.bl j) = some (.bl (n != (i == j))) := by
  simp [eqB, toPy, PyData.eqv, SeqAt.shaped, PyData.canLay0, PyData.depth]
/-- data that may be compared -/
def okD (d : D) : Bool := match toPy d with
  | some p => SeqAt.shaped p
  | none => false
theorem eqB_self {n : Bool} {d : D} (h : okD d = true) : eqB n d d = some (.bl (!n)) := by
  unfold okD at h
  split at h
  · rename_i p e
    have c : p.canLay0 = true := by have := h; simp [SeqAt.shaped] at this; exact this.1
    have := SeqAt.eqv_refl p c
    cases n <;> simp [eqB, e, h, this]
  · cases h
@[simp] theorem strOk_of (s : String) : PyData.strOk (Str.ofString s) = true := by
  rw [Str.ofString_eq_toList]
  unfold PyData.strOk
  simp only [List.all_toArray, List.all_map, List.all_eq_true]
  intro c _
  have h : c.toNat < 0xd800 ∨ (0xdfff < c.toNat ∧ c.toNat < 0x110000) := c.valid
  have : c.toNat < 0x110000 := by omega
  simpa using this
@[simp] theorem strOk_app (x y : Str) : PyData.strOk (x ++ y) = (PyData.strOk x && PyData.strOk y) := by
  show PyData.strOk (Str.append x y) = _
  unfold PyData.strOk Str.append
  simp
@[simp] theorem strOk_ite {c : Prop} [Decidable c] (x y : Str) (h : PyData.strOk x = true) (k : PyData.strOk y = true) : PyData.strOk (if c then x else y) = true := by split <;> assumption
@[simp] theorem eqB_str {n : Bool} {x : Str} (h : PyData.strOk x = true) : eqB n (.str x) (.str x) = some (.bl (!n)) := eqB_self (by simp [okD, toPy, SeqAt.shaped, PyData.canLay0, PyData.depth, h])
@[simp] theorem held_und {ρ : List D} {i : Nat} : held ρ i = (match ρ[i]? with
  | some .und => false
  | some _ => true
  | none => false) := rfl
@[simp] theorem ixB_tup {xs : List D} {i : Int} : ixB (.tup xs) (.int i) = atI xs i := rfl
@[simp] theorem ixB_lst {xs : List D} {i : Int} : ixB (.lst xs) (.int i) = atI xs i := rfl
@[simp] theorem ixB_con {xs : List D} {i : Int} : ixB (.con xs) (.int i) = atI xs i := rfl
theorem ixN_nat {n k : Nat} : ixN n (k : Int) = if k < n then some k else none := by unfold ixN; split <;> simp_all
theorem atI_nat {xs : List D} {k : Nat} : atI xs (k : Int) = xs[k]? := by
  unfold atI; rw [ixN_nat]; split
  · rfl
  · simp; omega
@[simp] theorem ixN_0 {n : Nat} : ixN n 0 = if 0 < n then some 0 else none := ixN_nat (k := 0)
@[simp] theorem ixN_1 {n : Nat} : ixN n 1 = if 1 < n then some 1 else none := ixN_nat (k := 1)
@[simp] theorem ixN_2 {n : Nat} : ixN n 2 = if 2 < n then some 2 else none := ixN_nat (k := 2)
@[simp] theorem ixN_3 {n : Nat} : ixN n 3 = if 3 < n then some 3 else none := ixN_nat (k := 3)
@[simp] theorem atI_0 {xs : List D} : atI xs 0 = xs[0]? := atI_nat (k := 0)
@[simp] theorem atI_1 {xs : List D} : atI xs 1 = xs[1]? := atI_nat (k := 1)
@[simp] theorem atI_2 {xs : List D} : atI xs 2 = xs[2]? := atI_nat (k := 2)
@[simp] theorem atI_3 {xs : List D} : atI xs 3 = xs[3]? := atI_nat (k := 3)
/-- plain data of small depth -/
def Plain (k : Nat) (d : D) : Prop := ∃ p, toPy d = some p ∧ p.canLay0 = true ∧ p.depth ≤ k
def Plains (k : Nat) (ds : List D) : Prop := ∃ p, toPys ds = some p ∧ PyData.canLayAll0 p = true ∧ PyData.depthAll p ≤ k
theorem Plain.mono {k m : Nat} {d : D} (h : Plain k d) (l : k ≤ m) : Plain m d := by obtain ⟨p, a, b, c⟩ := h; exact ⟨p, a, b, by omega⟩
theorem eqB_refl {n : Bool} {d : D} {k : Nat} (h : Plain k d) (l : k ≤ 64) : eqB n d d = some (.bl (!n)) := by
  obtain ⟨p, e, c, dp⟩ := h
  have sh : SeqAt.shaped p = true := by simp [SeqAt.shaped, c]; omega
  have := SeqAt.eqv_refl p c
  cases n <;> simp [eqB, e, sh, this]
theorem Plain.int {i : Int} {k : Nat} : Plain k (.int i) := ⟨.int i, rfl, by simp [PyData.canLay0], by simp [PyData.depth]⟩
theorem Plain.bl {b : Bool} {k : Nat} : Plain k (.bl b) := ⟨.bool b, rfl, by simp [PyData.canLay0], by simp [PyData.depth]⟩
theorem Plain.non {k : Nat} : Plain k .non := ⟨.none, rfl, by simp [PyData.canLay0], by simp [PyData.depth]⟩
theorem Plain.str {x : Str} {k : Nat} (h : PyData.strOk x = true) : Plain k (.str x) := ⟨.str x, rfl, by simp [PyData.canLay0, h], by simp [PyData.depth]⟩
theorem Plains.nil {k : Nat} : Plains k [] := ⟨[], rfl, by simp [PyData.canLayAll0], by simp [PyData.depthAll]⟩
theorem Plains.cons {k : Nat} {d : D} {ds : List D} (h : Plain k d) (r : Plains k ds) : Plains k (d :: ds) := by
  obtain ⟨p, a, b, c⟩ := h
  obtain ⟨q, a', b', c'⟩ := r
  exact ⟨p :: q, by simp [toPys, a, a'], by simp [PyData.canLayAll0, b, b'], by simp [PyData.depthAll]; omega⟩
theorem Plain.tup {k : Nat} {ds : List D} (h : Plains k ds) : Plain (k + 1) (.tup ds) := by
  obtain ⟨p, a, b, c⟩ := h
  exact ⟨.tuple p, by simp [toPy, a], by simp [PyData.canLay0, b], by simp [PyData.depth]; omega⟩
theorem Plain.lst {k : Nat} {ds : List D} (h : Plains k ds) : Plain (k + 1) (.lst ds) := by
  obtain ⟨p, a, b, c⟩ := h
  exact ⟨.list p, by simp [toPy, a], by simp [PyData.canLay0, b], by simp [PyData.depth]; omega⟩
@[simp] theorem dProp_eq {c : Nat} {fn : Fn} {f : Den} : dProp c fn f = dMeth c fn f dNil := rfl
/-! texts -/
theorem ofString_app (s t : String) : Str.ofString (s ++ t) = Str.ofString s ++ Str.ofString t := by
  rw [Str.ofString_eq_toList, Str.ofString_eq_toList, Str.ofString_eq_toList]
  show _ = Str.append _ _
  unfold Str.append
  simp
theorem str_nil_app (x : Str) : Str.empty ++ x = x := by
  show Str.append _ _ = _
  unfold Str.append Str.empty
  simp
theorem str_app_nil (x : Str) : x ++ Str.ofString "" = x := by
  show Str.append _ _ = _
  rw [Str.ofString_eq_toList]
  unfold Str.append
  simp
theorem str_app_assoc (x y z : Str) : x ++ y ++ z = x ++ (y ++ z) := by
  show Str.append (Str.append _ _) _ = Str.append _ (Str.append _ _)
  unfold Str.append
  simp
theorem str_app_length (x y : Str) : (x ++ y).length = x.length + y.length := by
  show (Str.append x y).length = _
  unfold Str.append Str.length
  simp
/-! loops by induction -/
/-- a comprehension whose element is a function of its item -/
theorem compD_map {own : List Nat} {fg : DenG} {ft : DenT} {fe : Den} {ρ : List D} (e : D → D) : ∀ (ds acc : List D), (∀ d ∈ ds, ∃ ρ1 ρ2 ρ3, fg d ρ = some ρ1 ∧ ft ρ1 = some (true, ρ2) ∧ fe ρ2 = some (e d, ρ3) ∧ unset own ρ3 = ρ) → acc.length + ds.length ≤ 100000 →
    compD own fg ft fe ds acc ρ = some (acc ++ ds.map e, ρ)
  | [], acc, _, _ => by simp [compD]
  | d :: ds, acc, h, hl => by
    obtain ⟨ρ1, ρ2, ρ3, h1, h2, h3, h4⟩ := h d (List.mem_cons_self ..)
    rw [List.length_cons] at hl
    have := compD_map (own := own) (fg := fg) (ft := ft) (fe := fe) e ds (acc ++ [e d]) (fun d hd => h d (List.mem_cons_of_mem _ hd)) (by simp; omega)
    simp only [compD, h1, h2, h3, h4, this]
    rw [if_pos (by omega)]
    simp
/-- a loop by what holds between its turns -/
theorem forD_rel {fg : DenG} {fb : DenS} (P : List D → List D → Prop) (step : ∀ d ds ρ, P (d :: ds) ρ → ∃ ρ1 ρ2, fg d ρ = some ρ1 ∧ (fb ρ1 = some (.nx ρ2) ∨ fb ρ1 = some (.ct ρ2)) ∧ P ds ρ2) :
    ∀ (ds ρ : List D), P ds ρ → ∃ ρ', forD fg fb ds ρ = some (.nx ρ') ∧ P [] ρ'
  | [], ρ, h => ⟨ρ, rfl, h⟩
  | d :: ds, ρ, h => by
    obtain ⟨ρ1, ρ2, h1, h2, h3⟩ := step d ds ρ h
    obtain ⟨ρ', h4, h5⟩ := forD_rel P step ds ρ2 h3
    refine ⟨ρ', ?_, h5⟩
    rcases h2 with h2 | h2 <;> simp only [forD, h1, h2, h4]
/-- a comprehension whose element changes the state -/
theorem compD_ex {own : List Nat} {fg : DenG} {ft : DenT} {fe : Den} (P : List D → Prop) (R : D → Prop) : ∀ (ds acc ρ : List D), (∀ d ∈ ds, ∀ ρ, P ρ → ∃ ρ1 ρ2 ρ3 e, fg d ρ = some ρ1 ∧ ft ρ1 = some (true, ρ2) ∧ fe ρ2 = some (e, ρ3) ∧ P (unset own ρ3) ∧ R e) → P ρ → acc.length + ds.length ≤ 100000 →
    ∃ es ρ', compD own fg ft fe ds acc ρ = some (acc ++ es, ρ') ∧ P ρ' ∧ es.length = ds.length ∧ ∀ e ∈ es, R e
  | [], acc, ρ, _, hp, _ => ⟨[], ρ, by simp [compD], hp, rfl, fun e he => by cases he⟩
  | d :: ds, acc, ρ, h, hp, hl => by
    obtain ⟨ρ1, ρ2, ρ3, e, h1, h2, h3, h4, h5⟩ := h d (List.mem_cons_self ..) ρ hp
    rw [List.length_cons] at hl
    obtain ⟨es, ρ', q1, q2, q3, q4⟩ := compD_ex (own := own) (fg := fg) (ft := ft) (fe := fe) P R ds (acc ++ [e]) (unset own ρ3) (fun d hd => h d (List.mem_cons_of_mem _ hd)) h4 (by simp; omega)
    refine ⟨e :: es, ρ', ?_, q2, by simp [q3], fun x hx => ?_⟩
    · simp only [compD, h1, h2, h3, q1]
      rw [if_pos (by omega)]
      simp
    · rcases List.mem_cons.mp hx with rfl | hx
      · exact h5
      · exact q4 x hx
/-- a block, statement by statement -/
theorem seq_ex {f r : DenS} {ρ : List D} {Q : Option Fl → Prop} (h : ∃ ρ', f ρ = some (.nx ρ') ∧ Q (r ρ')) : Q (sSeq f r ρ) := by
  obtain ⟨ρ', e, q⟩ := h
  rw [sSeq_ap, e]; exact q
@[simp] theorem unset_nil {ρ : List D} : unset [] ρ = ρ := rfl
@[simp] theorem unset_cons {i : Nat} {r : List Nat} {ρ : List D} : unset (i :: r) ρ = (unset r ρ).set i .und := rfl
end DV

set_option maxRecDepth 100000
set_option linter.all false
namespace K11M
open PySem L2 DV K11D
@[simp] theorem isint_int (i : Int) : f_is_integer [.int i] = some (.bl true, .non) := by
  simp [f_is_integer, d_is_integer, isOne, kinds]
@[simp] theorem told_int (i : Int) : f_told_pair [.int i] = some (.tup [.int i, .int 1], .non) := by
  simp [f_told_pair, d_told_pair, isOne, kinds]
@[simp] theorem told_rat (t b : Int) : f_told_pair [.ins 3 [.int t, .int b]] = some (.tup [.int t, .int b], .non) := by
  simp [f_told_pair, d_told_pair, isOne, kinds]
def gcdC (x y : Nat) : DenT := (tOf (dBin (cmpB fun i j => decide (j < i)) (dVar y) (dCst (.int 0))))
def gcdB (x y : Nat) : DenS := (sSeq (sPar x y (dCons (dVar y) (dCons (dBin modB (dBlt intB (dCons (dVar x) dNil)) (dVar y)) dNil)))
  sEnd)
theorem fmod_nat (a b : Nat) : (a : Int).fmod b = ((a % b : Nat) : Int) := by rw [Int.fmod_eq_emod_of_nonneg _ (by omega)]; simp
theorem gcd_loop (a b : Nat) : sWhile (gcdC 0 1) (gcdB 0 1) [.int a, .int b] = some (.nx [.int (Nat.gcd a b), .int 0]) := by
  induction b using Nat.strongRecOn generalizing a with
  | _ b ih =>
    by_cases h : b = 0
    · subst h
      rw [sWhile_f (ρ1 := [.int a, .int 0]) (by simp [gcdC])]
      simp
    · have hb : 0 < b := Nat.pos_of_ne_zero h
      rw [sWhile_t (ρ1 := [.int a, .int b]) (ρ2 := [.int b, .int (a % b : Nat)]) (by simp [gcdC, hb]) (by simp [gcdB, h, fmod_nat]), ih _ (Nat.mod_lt _ hb), Nat.gcd_comm a b, Nat.gcd_rec b a, Nat.gcd_comm]
theorem gcd_loop2 (p q : D) (a b : Nat) : sWhile (gcdC 2 3) (gcdB 2 3) [p, q, .int a, .int b] = some (.nx [p, q, .int (Nat.gcd a b), .int 0]) := by
  induction b using Nat.strongRecOn generalizing a with
  | _ b ih =>
    by_cases h : b = 0
    · subst h
      rw [sWhile_f (ρ1 := [p, q, .int a, .int 0]) (by simp [gcdC])]
      simp
    · have hb : 0 < b := Nat.pos_of_ne_zero h
      rw [sWhile_t (ρ1 := [p, q, .int a, .int b]) (ρ2 := [p, q, .int b, .int (a % b : Nat)]) (by simp [gcdC, hb]) (by simp [gcdB, h, fmod_nat]), ih _ (Nat.mod_lt _ hb), Nat.gcd_comm a b, Nat.gcd_rec b a, Nat.gcd_comm]
theorem abs_nat (i : Int) : (if i < 0 then -i else i) = (i.natAbs : Int) := by omega
@[simp] theorem common (a b : Int) : f_common_part [.int a, .int b] = some (.int (Int.gcd a b), .non) := by
  have h := gcd_loop a.natAbs b.natAbs
  unfold gcdC gcdB at h
  simp only [f_common_part, d_common_part, semOf_ap, sSeq_ap, sPar_ap, dCons_ap, dBlt_ap, dVar_ap]
  simp [abs_nat]
  rw [h]
  simp [Int.gcd]
/-- the part that is divided out -/
def cpart (t b : Int) : Int := if b < 0 then 0 - (Int.gcd t b : Int) else (Int.gcd t b : Int)
def lowT (t b : Int) : Int := t.fdiv (cpart t b)
def lowB (t b : Int) : Int := b.fdiv (cpart t b)
theorem cpart_ne {t b : Int} (h : b ≠ 0) : cpart t b ≠ 0 := by
  have := Int.gcd_ne_zero_right (a := t) h
  unfold cpart; split <;> omega
theorem cpart_sm {t b : Int} {n : Nat} (h : b ≠ 0) (k : Sm n b) : Sm n (cpart t b) := by
  have h1 : Int.gcd t b ≤ b.natAbs := Nat.le_of_dvd (by omega) (Int.gcd_dvd_natAbs_right ..)
  unfold Sm cpart at *
  split <;> omega
theorem cpart_ok {t b : Int} {n : Nat} (h : b ≠ 0) (k : Sm n b) (l : n < 9000) : DvOk (cpart t b) := (cpart_sm h k).divOk (cpart_ne h) l
abbrev rat (t b : Int) : D := .ins 3 [.int t, .int b]
theorem init_eq {t b : Int} {n : Nat} (h : b ≠ 0) (k : Sm n b) (l : n < 9000) : f_Ratio___init [.obj 3 [], .int t, .int b] = some (.non, .obj 3 [.int (lowT t b), .int (lowB t b)]) := by
  have hd := cpart_ok (t := t) h k l
  by_cases q : b < 0
  · have e : cpart t b = 0 - (Int.gcd t b : Int) := if_pos q
    unfold lowT lowB
    rw [e] at hd ⊢
    simp [f_Ratio___init, d_Ratio___init, h, q, outD] at hd ⊢
    simp [hd]
  · have e : cpart t b = (Int.gcd t b : Int) := if_neg q
    unfold lowT lowB
    rw [e] at hd ⊢
    simp [f_Ratio___init, d_Ratio___init, h, q, outD, hd]

theorem lowlaw_eq {t b : Int} {n : Nat} (h : b ≠ 0) (k : Sm n b) (l : n < 9000) : f_law_low [.int t, .int b] = some (.tup [.int (lowT t b), .int (lowB t b)], .non) := by
  have hd := cpart_ok (t := t) h k l
  have hl := gcd_loop2 (.int t) (.int b) t.natAbs b.natAbs
  unfold gcdC gcdB at hl
  by_cases q : b < 0
  · have e : cpart t b = 0 - (Int.gcd t b : Int) := if_pos q
    have q' : ¬ 0 < b := by omega
    unfold lowT lowB
    rw [e] at hd ⊢
    simp only [f_law_low, d_law_low, semOf_ap, sSeq_ap, sPar_ap, dCons_ap, dBlt_ap, dVar_ap]
    simp [abs_nat]
    rw [hl]
    simp [Int.gcd] at hd
    simp [Int.gcd, oSub, q', hd]
  · have e : cpart t b = (Int.gcd t b : Int) := if_neg q
    have q' : 0 < b := by omega
    unfold lowT lowB
    rw [e] at hd ⊢
    simp only [f_law_low, d_law_low, semOf_ap, sSeq_ap, sPar_ap, dCons_ap, dBlt_ap, dVar_ap]
    simp [abs_nat]
    rw [hl]
    simp [Int.gcd] at hd
    simp [Int.gcd, oSub, q', hd]
/-! lowest terms -/
theorem cpart_dvd_l {t b : Int} : cpart t b ∣ t := by
  unfold cpart; split
  · rw [Int.zero_sub, Int.neg_dvd]; exact Int.gcd_dvd_left ..
  · exact Int.gcd_dvd_left ..
theorem cpart_dvd_r {t b : Int} : cpart t b ∣ b := by
  unfold cpart; split
  · rw [Int.zero_sub, Int.neg_dvd]; exact Int.gcd_dvd_right ..
  · exact Int.gcd_dvd_right ..
theorem lowT_mul {t b : Int} : lowT t b * cpart t b = t := Int.fdiv_mul_cancel cpart_dvd_l
theorem lowB_mul {t b : Int} : lowB t b * cpart t b = b := Int.fdiv_mul_cancel cpart_dvd_r
theorem natAbs_le_of_mul {a c x : Int} (h : a * c = x) (hc : c ≠ 0) : a.natAbs ≤ x.natAbs := by
  rw [← h, Int.natAbs_mul]
  exact Nat.le_mul_of_pos_right _ (by omega)
theorem lowT_sm {t b : Int} {n : Nat} (h : b ≠ 0) (k : Sm n t) : Sm n (lowT t b) := k.le (natAbs_le_of_mul lowT_mul (cpart_ne h))
theorem lowB_sm {t b : Int} {n : Nat} (h : b ≠ 0) (k : Sm n b) : Sm n (lowB t b) := k.le (natAbs_le_of_mul lowB_mul (cpart_ne h))
theorem lowB_pos {t b : Int} (h : b ≠ 0) : 0 < lowB t b := by
  have e := lowB_mul (t := t) (b := b)
  have c := Int.gcd_ne_zero_right (a := t) h
  rcases Int.lt_trichotomy (lowB t b) 0 with q | q | q
  · exfalso
    by_cases hb : b < 0
    · have e2 : cpart t b = 0 - (Int.gcd t b : Int) := if_pos hb
      have : 0 < lowB t b * cpart t b := Int.mul_pos_of_neg_of_neg q (by omega)
      omega
    · have e2 : cpart t b = (Int.gcd t b : Int) := if_neg hb
      have : lowB t b * cpart t b < 0 := Int.mul_neg_of_neg_of_pos q (by omega)
      omega
  · rw [q, Int.zero_mul] at e; omega
  · exact q
theorem low_self {t b : Int} (h : 0 < b) (g : Int.gcd t b = 1) : lowT t b = t ∧ lowB t b = b := by
  have e : cpart t b = 1 := by unfold cpart; rw [if_neg (by omega), g]; rfl
  unfold lowT lowB
  rw [e]; simp
theorem low_gcd {t b : Int} (h : b ≠ 0) : Int.gcd (lowT t b) (lowB t b) = 1 := by
  have c : (cpart t b).natAbs = Int.gcd t b := by unfold cpart; split <;> omega
  have p : 0 < Int.gcd t b := Int.gcd_pos_of_ne_zero_right t h
  have e : Int.gcd (lowT t b * cpart t b) (lowB t b * cpart t b) = Int.gcd (lowT t b) (lowB t b) * (cpart t b).natAbs := Int.gcd_mul_right ..
  rw [lowT_mul, lowB_mul, c] at e
  have : Int.gcd (lowT t b) (lowB t b) * Int.gcd t b = 1 * Int.gcd t b := by omega
  exact Nat.eq_of_mul_eq_mul_right p this
/-- a fraction with a bottom above 0, of small parts -/
structure RS (n : Nat) (t b : Int) : Prop where
  st : Sm n t
  sb : Sm n b
  p : 0 < b
theorem RS.mono {n m : Nat} {t b : Int} (h : RS n t b) (k : n ≤ m) : RS m t b := ⟨h.st.mono k, h.sb.mono k, h.p⟩
theorem RS.low {n : Nat} {t b : Int} (h : b ≠ 0) (k : Sm n t) (k' : Sm n b) : RS n (lowT t b) (lowB t b) := ⟨lowT_sm h k, lowB_sm h k', lowB_pos h⟩
/-- a NUMBER and its parts -/
inductive Num : D → Int → Int → Prop
  | rat {t b} : Num (rat t b) t b
  | int {x} : Num (.int x) x 1
abbrev rlow (t b : Int) : D := .obj 3 [.int (lowT t b), .int (lowB t b)]
section
variable {t b t' b' x : Int} {n m : Nat} {d : D}
theorem add_sm (h : RS n t b) (k : RS m t' b') : Sm (n + m + 1) (t * b' + t' * b) := ((h.st.mul k.sb).add (k.st.mul h.sb)).mono (by omega)
theorem sub_sm (h : RS n t b) (k : RS m t' b') : Sm (n + m + 1) (t * b' - t' * b) := ((h.st.mul k.sb).sub (k.st.mul h.sb)).mono (by omega)
theorem tt_sm (h : RS n t b) (k : RS m t' b') : Sm (n + m + 1) (t * t') := (h.st.mul k.st).mono (by omega)
theorem tb_sm (h : RS n t b) (k : RS m t' b') : Sm (n + m + 1) (t * b') := (h.st.mul k.sb).mono (by omega)
theorem bt_sm (h : RS n t b) (k : RS m t' b') : Sm (n + m + 1) (b * t') := (h.sb.mul k.st).mono (by omega)
theorem bb_sm (h : RS n t b) (k : RS m t' b') : Sm (n + m + 1) (b * b') := (h.sb.mul k.sb).mono (by omega)
theorem bb_ne (h : RS n t b) (k : RS m t' b') : b * b' ≠ 0 := by have := Int.mul_pos h.p k.p; omega
theorem one_sm : Sm 1 1 := by unfold Sm; decide
theorem r_add (h : RS n t b) (k : RS m t' b') (q : Num d t' b') (l : n + m < 8000) : f_Ratio___add [rat t b, d] = some (rlow (t * b' + t' * b) (b * b'), .non) := by
  have hi := init_eq (t := t * b' + t' * b) (b := b * b') (bb_ne h k) (bb_sm h k) (by omega)
  have m1 : MuOk t b' := h.st.mulOk k.sb (by omega)
  have m2 : MuOk t' b := k.st.mulOk h.sb (by omega)
  have m3 : MuOk b b' := h.sb.mulOk k.sb (by omega)
  cases q <;> (try simp only [Int.mul_one, Int.one_mul] at *) <;> simp [f_Ratio___add, d_Ratio___add, gTs, m1, m2, m3, hi]
theorem r_radd (h : RS n t b) (k : RS m t' b') (q : Num d t' b') (l : n + m < 8000) : f_Ratio___radd [rat t b, d] = some (rlow (t * b' + t' * b) (b * b'), .non) := by
  have hi := init_eq (t := t * b' + t' * b) (b := b * b') (bb_ne h k) (bb_sm h k) (by omega)
  have m1 : MuOk t b' := h.st.mulOk k.sb (by omega)
  have m2 : MuOk t' b := k.st.mulOk h.sb (by omega)
  have m3 : MuOk b b' := h.sb.mulOk k.sb (by omega)
  cases q <;> (try simp only [Int.mul_one, Int.one_mul] at *) <;> simp [f_Ratio___radd, d_Ratio___radd, gTs, m1, m2, m3, hi]
theorem r_sub (h : RS n t b) (k : RS m t' b') (q : Num d t' b') (l : n + m < 8000) : f_Ratio___sub [rat t b, d] = some (rlow (t * b' - t' * b) (b * b'), .non) := by
  have hi := init_eq (t := t * b' - t' * b) (b := b * b') (bb_ne h k) (bb_sm h k) (by omega)
  have m1 : MuOk t b' := h.st.mulOk k.sb (by omega)
  have m2 : MuOk t' b := k.st.mulOk h.sb (by omega)
  have m3 : MuOk b b' := h.sb.mulOk k.sb (by omega)
  cases q <;> (try simp only [Int.mul_one, Int.one_mul] at *) <;> simp [f_Ratio___sub, d_Ratio___sub, gTs, m1, m2, m3, hi]
theorem r_rsub (h : RS n t b) (k : RS m t' b') (q : Num d t' b') (l : n + m < 8000) : f_Ratio___rsub [rat t b, d] = some (rlow (t' * b - t * b') (b * b'), .non) := by
  have hi := init_eq (t := t' * b - t * b') (b := b * b') (bb_ne h k) (bb_sm h k) (by omega)
  have m1 : MuOk t b' := h.st.mulOk k.sb (by omega)
  have m2 : MuOk t' b := k.st.mulOk h.sb (by omega)
  have m3 : MuOk b b' := h.sb.mulOk k.sb (by omega)
  cases q <;> (try simp only [Int.mul_one, Int.one_mul] at *) <;> simp [f_Ratio___rsub, d_Ratio___rsub, gTs, m1, m2, m3, hi]
theorem r_mul (h : RS n t b) (k : RS m t' b') (q : Num d t' b') (l : n + m < 8000) : f_Ratio___mul [rat t b, d] = some (rlow (t * t') (b * b'), .non) := by
  have hi := init_eq (t := t * t') (b := b * b') (bb_ne h k) (bb_sm h k) (by omega)
  have m1 : MuOk t t' := h.st.mulOk k.st (by omega)
  have m2 : MuOk b b' := h.sb.mulOk k.sb (by omega)
  cases q <;> (try simp only [Int.mul_one, Int.one_mul] at *) <;> simp [f_Ratio___mul, d_Ratio___mul, gTs, m1, m2, hi]
theorem r_rmul (h : RS n t b) (k : RS m t' b') (q : Num d t' b') (l : n + m < 8000) : f_Ratio___rmul [rat t b, d] = some (rlow (t * t') (b * b'), .non) := by
  have hi := init_eq (t := t * t') (b := b * b') (bb_ne h k) (bb_sm h k) (by omega)
  have m1 : MuOk t t' := h.st.mulOk k.st (by omega)
  have m2 : MuOk b b' := h.sb.mulOk k.sb (by omega)
  cases q <;> (try simp only [Int.mul_one, Int.one_mul] at *) <;> simp [f_Ratio___rmul, d_Ratio___rmul, gTs, m1, m2, hi]
theorem r_over (h : RS n t b) (k : RS m t' b') (q : Num d t' b') (hz : t' ≠ 0) (l : n + m < 8000) : f_Ratio_over [rat t b, d] = some (rlow (t * b') (b * t'), .non) := by
  have hi := init_eq (t := t * b') (b := b * t') (Int.mul_ne_zero (by have := h.p; omega) hz) (bt_sm h k) (by omega)
  have m1 : MuOk t b' := h.st.mulOk k.sb (by omega)
  have m2 : MuOk b t' := h.sb.mulOk k.st (by omega)
  cases q <;> (try simp only [Int.mul_one, Int.one_mul] at *) <;> simp [f_Ratio_over, d_Ratio_over, gTs, oEq, oMult, hz, m1, m2, hi]
theorem r_neg (h : RS n t b) (l : n < 8000) : f_Ratio___neg [rat t b] = some (rlow (0 - t) b, .non) := by
  have hi := init_eq (t := 0 - t) (b := b) (by have := h.p; omega) h.sb (by omega)
  simp only [Int.zero_sub] at *
  simp [f_Ratio___neg, d_Ratio___neg, hi]
theorem r_size (h : RS n t b) (l : n < 8000) : f_Ratio_size [rat t b] = some (rlow (if t < 0 then -t else t) b, .non) := by
  have hi := init_eq (t := if t < 0 then -t else t) (b := b) (by have := h.p; omega) h.sb (by omega)
  simp [f_Ratio_size, d_Ratio_size, hi]
theorem r_below (h : RS n t b) (k : RS m t' b') (q : Num d t' b') (l : n + m < 8000) : f_Ratio_is_below [rat t b, d] = some (.bl (decide (t * b' < t' * b)), .non) := by
  have m1 : MuOk t b' := h.st.mulOk k.sb (by omega)
  have m2 : MuOk t' b := k.st.mulOk h.sb (by omega)
  cases q <;> (try simp only [Int.mul_one, Int.one_mul] at *) <;> simp [f_Ratio_is_below, d_Ratio_is_below, gTs, oMult, m1, m2]
theorem r_most (h : RS n t b) (k : RS m t' b') (q : Num d t' b') (l : n + m < 8000) : f_Ratio_is_at_most [rat t b, d] = some (.bl (decide (t * b' ≤ t' * b)), .non) := by
  have m1 : MuOk t b' := h.st.mulOk k.sb (by omega)
  have m2 : MuOk t' b := k.st.mulOk h.sb (by omega)
  cases q <;> (try simp only [Int.mul_one, Int.one_mul] at *) <;> simp [f_Ratio_is_at_most, d_Ratio_is_at_most, gTs, oMult, m1, m2]
theorem r_eq_rat : f_Ratio___eq [rat t b, rat t' b'] = some (.bl (decide (t = t') && decide (b = b')), .non) := by
  by_cases e : t = t' <;> simp [f_Ratio___eq, d_Ratio___eq, isOne, e]
theorem r_eq_int : f_Ratio___eq [rat t b, .int x] = some (.bl false, .non) := by
  simp [f_Ratio___eq, d_Ratio___eq, isOne]
@[simp] theorem r_top : f_Ratio_top [.ins 3 [.int t, .int b]] = some (.int t, .non) := by simp [f_Ratio_top, d_Ratio_top]
@[simp] theorem r_bottom : f_Ratio_bottom [.ins 3 [.int t, .int b]] = some (.int b, .non) := by simp [f_Ratio_bottom, d_Ratio_bottom]
@[simp] theorem r_pair : f_law_pair [.ins 3 [.int t, .int b]] = some (.tup [.int t, .int b], .non) := by simp [f_law_pair, d_law_pair, isOne]
@[simp] theorem r_whole : f_Ratio_is_whole [.ins 3 [.int t, .int b]] = some (.bl (decide (b = 1)), .non) := by simp [f_Ratio_is_whole, d_Ratio_is_whole, oEq]
@[simp] theorem r_sign : f_Ratio_sign [.ins 3 [.int t, .int b]] = some (.int ((if 0 < t then 1 else 0) - (if t < 0 then 1 else 0)), .non) := by simp [f_Ratio_sign, d_Ratio_sign, oSub]
/-! the law's own -/
theorem w_sum (h : RS n t b) (k : RS m t' b') (l : n + m < 8000) : f_law_sum [.tup [.int t, .int b], .tup [.int t', .int b']] = some (.tup [.int (lowT (t * b' + t' * b) (b * b')), .int (lowB (t * b' + t' * b) (b * b'))], .non) := by
  have hi := lowlaw_eq (t := t * b' + t' * b) (b := b * b') (bb_ne h k) (bb_sm h k) (by omega)
  have m1 : MuOk t b' := h.st.mulOk k.sb (by omega)
  have m2 : MuOk t' b := k.st.mulOk h.sb (by omega)
  have m3 : MuOk b b' := h.sb.mulOk k.sb (by omega)
  simp [f_law_sum, d_law_sum, oAdd, oMult, m1, m2, m3, hi]
end
end K11M

set_option maxRecDepth 100000
set_option maxHeartbeats 4000000
set_option linter.all false
namespace K11M
open PySem L2 DV K11D
section
variable {t b t' b' x : Int} {n m : Nat} {d : D}
abbrev pr (t b : Int) : D := .tup [.int t, .int b]
abbrev plow (t b : Int) : D := pr (lowT t b) (lowB t b)
theorem w_by (h : RS n t b) (k : RS m t' b') (l : n + m < 8000) : f_law_by [pr t b, pr t' b'] = some (plow (t * t') (b * b'), .non) := by
  have hi := lowlaw_eq (t := t * t') (b := b * b') (bb_ne h k) (bb_sm h k) (by omega)
  have m1 : MuOk t t' := h.st.mulOk k.st (by omega)
  have m2 : MuOk b b' := h.sb.mulOk k.sb (by omega)
  simp [f_law_by, d_law_by, oAdd, oMult, m1, m2, hi]
theorem w_less (h : RS n t b) (k : RS m t' b') (l : n + m < 8000) : f_law_less [pr t b, pr t' b'] = some (plow (t * b' - t' * b) (b * b'), .non) := by
  have hi := w_sum h (⟨(k.st.neg), k.sb, k.p⟩ : RS m (-t') b') l
  have e : t * b' + (-t') * b = t * b' - t' * b := by rw [Int.neg_mul, Int.sub_eq_add_neg]
  rw [e] at hi
  simp [f_law_less, d_law_less, oSub, hi]
theorem w_over (h : RS n t b) (k : RS m t' b') (hz : t' ≠ 0) (l : n + m < 8000) : f_law_over [pr t b, pr t' b'] = some (plow (t * b') (b * t'), .non) := by
  have hi := lowlaw_eq (t := t * b') (b := b * t') (Int.mul_ne_zero (by have := h.p; omega) hz) (bt_sm h k) (by omega)
  have m1 : MuOk t b' := h.st.mulOk k.sb (by omega)
  have m2 : MuOk b t' := h.sb.mulOk k.st (by omega)
  simp [f_law_over, d_law_over, oMult, m1, m2, hi]
/-! texts -/
theorem str_int_nonneg (i : Int) (h : ¬ i < 0) : (Str.ofString "" : Str) ++ (toString i : String) = (toString i : String) := by
  rw [Str.ofString_eq_toList ""]
  exact str_nil_app _
theorem toString_neg (i : Int) (h : i < 0) : (toString i : String) = "-" ++ toString (-i) := by
  obtain ⟨k, rfl⟩ : ∃ k : Nat, i = Int.negSucc k := ⟨(-i - 1).toNat, by omega⟩
  rfl
theorem log_200 {i : Int} (h : Sm 150 i) : i.natAbs.log2 < 1920 := by have := h.log; omega
theorem strlen (i : Int) (h : Sm 150 i) : (Str.ofString (toString i)).length ≤ 200 := by
  rw [ofString_length]
  have := int_text_length_le (a := i) (k := 151) (by decide) (by have := h.log; omega)
  omega
theorem strlen2 (i : Int) (h : Sm 150 i) : (Str.ofString (toString i)).length ≤ 100000 := Nat.le_trans (strlen i h) (by decide)
@[simp] theorem len_e : Str.empty.length = 0 := rfl
@[simp] theorem len0 : (Str.ofString "").length = 0 := by rw [ofString_length]; rfl
@[simp] theorem len1 : (Str.ofString "-").length = 1 := by rw [ofString_length]; rfl
@[simp] theorem len2 : (Str.ofString "/").length = 1 := by rw [ofString_length]; rfl
@[simp] theorem len3 : (Str.ofString "Ratio(").length = 6 := by rw [ofString_length]; rfl
@[simp] theorem len4 : (Str.ofString ", ").length = 2 := by rw [ofString_length]; rfl
@[simp] theorem len5 : (Str.ofString ")").length = 1 := by rw [ofString_length]; rfl
theorem dig (h : Sm 150 x) : f_digits_of [.int x] = some (.str (toString x : String), .non) := by
  have big : ∀ y : Int, Sm 150 y → ¬ (1000000000000000000000000000000000000000000000000000000000000 ≤ y) := fun y q => by
    unfold Sm at q
    have : y.natAbs < 1000000000000000000000000000000000000000000000000000000000000 := Nat.lt_of_lt_of_le q (by decide)
    omega
  by_cases q : x < 0
  · have q' : ¬ 0 ≤ x := by omega
    have b1 := big _ h.neg
    have l1 := log_200 h
    have l2 := strlen2 _ h.neg
    have l5 := strlen2 _ h
    have l3 : (Str.ofString (toString (-x))).length ≤ 99000 := Nat.le_trans (strlen _ h.neg) (by decide)
    have l4 : 1 + (Str.ofString (toString (-x))).length ≤ 100000 := by omega
    have hA : Str.ofString "-" ++ Str.ofString (toString (-x)) = Str.ofString (toString x) := by rw [← ofString_app, toString_neg x q]
    simp only [Int.toString_eq_repr] at *
    simp only [f_digits_of, d_digits_of, semOf_ap, sSeq_ap, sPar_ap, dCons_ap, dIf_ap, tOf_ap, dBin_ap, dVar_ap, dCst_ap]
    simp [q, q']
    rw [sWhile_f (ρ1 := [.int x, .int (-x), .str (Str.ofString ""), .und, .und]) (by simp [b1])]
    simp [q, joinD, l1, l2, l4, l5, str_app_length, str_nil_app, str_app_nil, hA]
  · have q' : 0 ≤ x := by omega
    have b1 := big _ h
    have l1 := log_200 h
    have l2 := strlen2 _ h
    have l5 := l2
    have l3 := strlen _ h
    have hA := str_int_nonneg x q
    have l4 := l2
    simp only [Int.toString_eq_repr] at *
    simp only [f_digits_of, d_digits_of, semOf_ap, sSeq_ap, sPar_ap, dCons_ap, dIf_ap, tOf_ap, dBin_ap, dVar_ap, dCst_ap]
    simp [q, q']
    rw [sWhile_f (ρ1 := [.int x, .int x, .str (Str.ofString ""), .und, .und]) (by simp [b1])]
    simp [q, joinD, l1, l2, l4, l5, str_app_length, str_nil_app, str_app_nil, hA]
theorem r_str (h : Sm 150 t) (k : Sm 150 b) : f_Ratio___str [rat t b] = some (.str (if b = 1 then Str.ofString (toString t) else Str.ofString (toString t) ++ Str.ofString "/" ++ Str.ofString (toString b)), .non) := by
  have d1 := dig h
  have d2 := dig k
  have l1 := strlen t h
  have l2 := strlen b k
  have l3 := strlen2 t h
  have l4 : (Str.ofString (toString t)).length + 1 ≤ 100000 := by omega
  have l5 : (Str.ofString (toString t)).length + 1 + (Str.ofString (toString b)).length ≤ 100000 := by omega
  have l6 := strlen2 b k
  simp only [Int.toString_eq_repr] at *
  by_cases e : b = 1
  · subst e
    simp [f_Ratio___str, d_Ratio___str, d1, l3]
  · simp [f_Ratio___str, d_Ratio___str, d1, d2, l3, l4, l5, l6, e, joinD, str_app_length, str_nil_app]
theorem w_shown (h : Sm 150 t) (k : Sm 150 b) : f_law_shown [pr t b] = some (.str (if b = 1 then Str.ofString (toString t) else Str.ofString (toString t) ++ Str.ofString "/" ++ Str.ofString (toString b)), .non) := by
  have d1 := log_200 h
  have d2 := log_200 k
  have l1 := strlen t h
  have l2 := strlen b k
  have l4 : (Str.ofString (toString t)).length + 1 ≤ 100000 := by omega
  have l5 : (Str.ofString (toString t)).length + 1 + (Str.ofString (toString b)).length ≤ 100000 := by omega
  simp only [Int.toString_eq_repr] at *
  by_cases e : b = 1
  · subst e
    simp [f_law_shown, d_law_shown, oEq, oAdd, ostr, d1, d2]
  · simp [f_law_shown, d_law_shown, oEq, oAdd, ostr, d1, d2, l4, l5, e, str_app_length]
theorem r_repr (h : Sm 150 t) (k : Sm 150 b) : f_Ratio___repr [rat t b] = some (.str (Str.ofString "Ratio(" ++ Str.ofString (toString t) ++ Str.ofString ", " ++ Str.ofString (toString b) ++ Str.ofString ")"), .non) := by
  have d1 := dig h
  have d2 := dig k
  have l1 := strlen t h
  have l2 := strlen b k
  have l3 := strlen2 t h
  have l6 := strlen2 b k
  have a1 : 6 + (Str.ofString (toString t)).length ≤ 100000 := by omega
  have a2 : 6 + (Str.ofString (toString t)).length + 2 ≤ 100000 := by omega
  have a3 : 6 + (Str.ofString (toString t)).length + 2 + (Str.ofString (toString b)).length ≤ 100000 := by omega
  have a4 : 6 + (Str.ofString (toString t)).length + 2 + (Str.ofString (toString b)).length + 1 ≤ 100000 := by omega
  simp only [Int.toString_eq_repr] at *
  simp [f_Ratio___repr, d_Ratio___repr, d1, d2, l3, l6, a1, a2, a3, a4, joinD, str_app_length, str_nil_app]
end
end K11M

set_option maxRecDepth 100000
set_option maxHeartbeats 4000000
set_option linter.all false
namespace K11M
open PySem L2 DV K11D
section
variable {t b t' b' x : Int} {n m : Nat} {d : D}
@[simp] theorem isnum_rat : f_is_number [.ins 3 [.int t, .int b]] = some (.bl true, .non) := by
  have : f_is_integer [.ins 3 [.int t, .int b]] = some (.bl false, .non) := by simp [f_is_integer, d_is_integer, isOne, kinds]
  simp [f_is_number, d_is_number, isOne, this]
@[simp] theorem isint_rat : f_is_integer [.ins 3 [.int t, .int b]] = some (.bl false, .non) := by simp [f_is_integer, d_is_integer, isOne, kinds]
@[simp] theorem iscount_rat : f_is_count [.ins 3 [.int t, .int b]] = some (.bl false, .non) := by simp [f_is_count, d_is_count]
@[simp] theorem ratio_of_rat : f_ratio_of [.ins 3 [.int t, .int b]] = some (.ins 3 [.int t, .int b], .non) := by simp [f_ratio_of, d_ratio_of, isOne]
theorem isshare_rat (h : RS n t b) (l : n < 7000) : f_is_share [.ins 3 [.int t, .int b]] = some (.bl (decide (0 ≤ t ∧ t ≤ b)), .non) := by
  have e := r_most (d := .int 1) h (⟨one_sm, one_sm, by omega⟩ : RS 1 1 1) .int (by omega)
  simp only [Int.mul_one, Int.one_mul] at e
  rcases Int.lt_trichotomy t 0 with q | q | q
  · have q1 : ¬ 0 < t := by omega
    have q2 : ¬ 0 ≤ t := by omega
    simp [f_is_share, d_is_share, q, q1, q2, e]
  · subst q
    simp [f_is_share, d_is_share, e]
  · have q1 : ¬ t < 0 := by omega
    have q2 : 0 ≤ t := by omega
    simp [f_is_share, d_is_share, q, q1, q2, e]
/-- sizes of texts -/
structure Txts (u v : Int) : Prop where
  l1 : u.natAbs.log2 < 1920
  l2 : v.natAbs.log2 < 1920
  a1 : 6 + (Str.ofString u.repr).length ≤ 100000
  a2 : 6 + (Str.ofString u.repr).length + 2 ≤ 100000
  a3 : 6 + (Str.ofString u.repr).length + 2 + (Str.ofString v.repr).length ≤ 100000
  a4 : 6 + (Str.ofString u.repr).length + 2 + (Str.ofString v.repr).length + 1 ≤ 100000
theorem txts {u v : Int} (h : Sm 150 u) (k : Sm 150 v) : Txts u v := by
  have l1 := strlen u h
  have l2 := strlen v k
  simp only [Int.toString_eq_repr] at *
  exact ⟨log_200 h, log_200 k, by omega, by omega, by omega, by omega⟩
theorem repr_sb (i : Int) (b : Bool) (h : i = 0 ∨ i = 1 ∨ i = -1) : ∃ z, reprB [.lst [.int i, .bl b]] = some (.str z) ∧ PyData.strOk z = true := by
  have go : ∀ p : PyData, p.showable = true → p.depth ≤ 60 → p.hasDict = false → p.shown.length ≤ 100000 → PyData.strOk p.shown = true → ∀ d, toPy d = some p → ∃ z, reprB [d] = some (.str z) ∧ PyData.strOk z = true := by
    intro p h1 h2 h3 h4 h5 d e
    exact ⟨p.shown, by simp only [reprB, e, h1, h2, h3, h4, and_self, if_true], h5⟩
  have t : toPy (.lst [.int i, .bl b]) = some (.list [.int i, .bool b]) := by simp [toPy, toPys]
  rcases h with rfl | rfl | rfl <;> cases b <;> exact go _ (by decide +kernel) (by decide +kernel) (by decide +kernel) (by decide +kernel) (by decide +kernel) _ t
theorem law_one (h : b ≠ 0) (k : Sm 140 t) (k' : Sm 140 b) : ∃ o, f_law_one_right [pr t b] = some (.bl true, o) := by
  have i1 := init_eq (t := t) h k' (by omega)
  have i2 := lowlaw_eq (t := t) h k' (by omega)
  have rs := RS.low (t := t) h k k'
  have g := low_gcd (t := t) h
  generalize lowT t b = u at *
  generalize lowB t b = v at *
  have s1 := r_str (rs.st.mono (by omega)) (rs.sb.mono (by omega))
  have s2 := w_shown (rs.st.mono (by omega)) (rs.sb.mono (by omega))
  have s3 := r_repr (rs.st.mono (by omega)) (rs.sb.mono (by omega))
  obtain ⟨l1, l2, a1, a2, a3, a4⟩ := txts (rs.st.mono (by omega)) (rs.sb.mono (by omega))
  simp only [f_law_one_right, d_law_one_right, Int.toString_eq_repr] at *
  have sg : ∃ i : Int, (i = 0 ∨ i = 1 ∨ i = -1) ∧ ((if 0 < u then 1 else 0) - (if u < 0 then 1 else 0) : Int) = i ∧ (u = 0 ∧ i = 0 ∨ 0 < u ∧ i = 1 ∨ u < 0 ∧ i = -1) := by
    rcases Int.lt_trichotomy u 0 with q | q | q
    · exact ⟨-1, by omega, by rw [if_neg (by omega), if_pos q]; rfl, by omega⟩
    · exact ⟨0, by omega, by rw [if_neg (by omega), if_neg (by omega)]; rfl, by omega⟩
    · exact ⟨1, by omega, by rw [if_pos q, if_neg (by omega)]; rfl, by omega⟩
  obtain ⟨i, hi, e1, e2⟩ := sg
  obtain ⟨z, hz, hs⟩ := repr_sb i (decide (v = 1)) hi
  have sz := r_size rs (by omega)
  have ng := r_neg rs (by omega)
  have rsb := r_rsub (t' := 0) (b' := 1) (m := 1) (d := .int 0) rs ⟨by unfold Sm; decide, one_sm, by omega⟩ .int (by omega)
  have sh := isshare_rat rs (by omega)
  have vv := (low_self rs.p g)
  have vn : lowT (0 - u) v = 0 - u ∧ lowB (0 - u) v = v := low_self rs.p (by rw [Int.zero_sub, Int.neg_gcd]; exact g)
  have va : lowT (if u < 0 then -u else u) v = (if u < 0 then -u else u) ∧ lowB (if u < 0 then -u else u) v = v := low_self rs.p (by split; rw [Int.neg_gcd]; exact g; exact g)
  simp only [Int.zero_mul, Int.mul_one, vn, va] at sz ng rsb
  simp only [Int.zero_sub] at *
  have q0 : decide (u = 0) = decide (i = 0) := by rw [decide_eq_decide]; omega
  have q1 : decide (0 < u) = decide (i = 1) := by rw [decide_eq_decide]; omega
  have q2 : decide (0 ≤ u) = decide (i ≠ -1) := by rw [decide_eq_decide]; omega
  have okb : ∀ x : Bool, okD (.lst [.bl true, .bl x, .bl false, .bl false]) = true := fun x => by cases x <;> decide +kernel
  have e3 : (i = 0 ∨ i = 1 ∨ i = -1) := by omega
  rcases e3 with rfl | rfl | rfl <;>
  simp [i1, i2, oNotEq, oAdd, oEq, oSub, oNeg, ostr, orepr, s1, s2, s3, l1, l2, a1, a2, a3, a4, str_app_length, hz, hs, sz, ng, rsb, sh, e1, q0, q1, q2, eqB_self, okb, vn.1, vn.2, va.1, va.2]
end
end K11M

set_option maxRecDepth 100000
set_option maxHeartbeats 4000000
set_option linter.all false
namespace K11M
open PySem L2 DV K11D
section
variable {t b t' b' x : Int} {n m : Nat} {d : D}
theorem w_pairs (xs : List (Int × Int)) (h : xs.length ≤ 1000) : f_law_pairs [.lst (xs.map fun p => rat p.1 p.2)] = some (.own (xs.map fun p => pr p.1 p.2), .non) := by
  have := compD_map (own := [1]) (fg := gNm 1) (ft := tYesD) (fe := dCallP f_law_pair (dCons (dVar 1) dNil)) (ρ := [.lst (xs.map fun p => rat p.1 p.2), .und])
    (fun d => match d with
      | .ins _ [.int a, .int b] => pr a b
      | _ => .non) (xs.map fun p => rat p.1 p.2) [] (fun d hd => by
      obtain ⟨p, _, rfl⟩ := List.mem_map.mp hd
      exact ⟨[.lst (xs.map fun p => rat p.1 p.2), rat p.1 p.2], [.lst (xs.map fun p => rat p.1 p.2), rat p.1 p.2], [.lst (xs.map fun p => rat p.1 p.2), rat p.1 p.2], by simp, by simp, by simp, by simp⟩) (by simp; omega)
  simp [f_law_pairs, d_law_pairs, isOne, kinds, this]
theorem okp (xs : List (Int × Int)) : okD (.lst (xs.map fun p => pr p.1 p.2)) = true := by
  have : ∀ xs : List (Int × Int), Plains 10 (xs.map fun p => pr p.1 p.2) := by
    intro xs
    induction xs with
    | nil => exact .nil
    | cons p xs ih => exact .cons ((Plain.tup (k := 1) (.cons .int (.cons .int .nil))).mono (by omega)) ih
  obtain ⟨p, e, c, dp⟩ := Plain.lst (this xs)
  simp [okD, e, SeqAt.shaped, c]
  omega
theorem law_two (h : b ≠ 0) (k1 : Sm 140 t) (k2 : Sm 140 b) (h' : b' ≠ 0) (k3 : Sm 140 t') (k4 : Sm 140 b') (kx : Sm 10 x) : ∃ o, f_law_two_right [pr t b, pr t' b', .int x] = some (.bl true, o) := by
  have i1 := init_eq (t := t) h k2 (by omega)
  have i2 := lowlaw_eq (t := t) h k2 (by omega)
  have i3 := init_eq (t := t') h' k4 (by omega)
  have i4 := lowlaw_eq (t := t') h' k4 (by omega)
  have r1 := RS.low (t := t) h k1 k2
  have r2 := RS.low (t := t') h' k3 k4
  have rx : RS 10 x 1 := ⟨kx, one_sm.mono (by omega), by omega⟩
  generalize lowT t b = u at *
  generalize lowB t b = v at *
  generalize lowT t' b' = u' at *
  generalize lowB t' b' = v' at *
  have a1 := r_add r1 r2 .rat (by omega)
  have a2 := r_sub r1 r2 .rat (by omega)
  have a3 := r_mul r1 r2 .rat (by omega)
  have a4 := r_add r1 rx .int (by omega)
  have a5 := r_radd r1 rx .int (by omega)
  have a6 := r_mul r1 rx .int (by omega)
  have a7 := r_rmul r1 rx .int (by omega)
  have a8 := r_rsub r1 rx .int (by omega)
  have c1 := w_sum r1 r2 (by omega)
  have c2 := w_less r1 r2 (by omega)
  have c3 := w_by r1 r2 (by omega)
  have c4 := w_sum r1 rx (by omega)
  have c5 := w_by r1 rx (by omega)
  have c6 := w_less rx r1 (by omega)
  have b1 := r_below r1 r2 .rat (by omega)
  have b2 := r_below r2 r1 .rat (by omega)
  have b3 := r_most r1 r2 .rat (by omega)
  have b4 := r_below r1 rx .int (by omega)
  have b5 := r_most r1 rx .int (by omega)
  have e1 := r_eq_rat (t := u) (b := v) (t' := u') (b' := v')
  have e2 := r_eq_int (t := u) (b := v) (x := x)
  have m1 : MuOk u v' := r1.st.mulOk r2.sb (by omega)
  have m2 : MuOk u' v := r2.st.mulOk r1.sb (by omega)
  have m3 : MuOk x v := rx.st.mulOk r1.sb (by omega)
  simp only [Int.mul_one, Int.one_mul] at a4 a5 a6 a7 a8 c4 c5 c6 b4 b5
  have wp := w_pairs [(lowT (u * v' + u' * v) (v * v'), lowB (u * v' + u' * v) (v * v')), (lowT (u * v' - u' * v) (v * v'), lowB (u * v' - u' * v) (v * v')), (lowT (u * u') (v * v'), lowB (u * u') (v * v')), (lowT (u + x * v) v, lowB (u + x * v) v), (lowT (u + x * v) v, lowB (u + x * v) v), (lowT (u * x) v, lowB (u * x) v), (lowT (u * x) v, lowB (u * x) v), (lowT (x * v - u) v, lowB (x * v - u) v)] (by simp)
  have op := okp [(lowT (u * v' + u' * v) (v * v'), lowB (u * v' + u' * v) (v * v')), (lowT (u * v' - u' * v) (v * v'), lowB (u * v' - u' * v) (v * v')), (lowT (u * u') (v * v'), lowB (u * u') (v * v')), (lowT (u + x * v) v, lowB (u + x * v) v), (lowT (u + x * v) v, lowB (u + x * v) v), (lowT (u * x) v, lowB (u * x) v), (lowT (u * x) v, lowB (u * x) v), (lowT (x * v - u) v, lowB (x * v - u) v)]
  have ok4 : ∀ a b c d : Bool, okD (.lst [.bl a, .bl b, .bl c, .bl d]) = true := by decide +kernel
  have ok5 : ∀ a b c d e : Bool, okD (.lst [.bl a, .bl b, .bl c, .bl d, .bl e]) = true := by decide +kernel
  simp only [List.map_cons, List.map_nil] at wp op
  have nn : (!decide (u' * v < u * v')) = decide (u * v' ≤ u' * v) := by rw [← decide_not, decide_eq_decide]; omega
  by_cases z : u' = 0
  · have zz : decide (u' = 0) = true := decide_eq_true z
    simp [f_law_two_right, d_law_two_right, i1, i2, i3, i4, oNotEq, oAdd, oEq, oSub, oMult, a1, a2, a3, a4, a5, a6, a7, a8, c1, c2, c3, c4, c5, c6, b1, b2, b3, b4, b5, e1, e2, m1, m2, m3, wp, op, isOwn, eqB_self, ok4, ok5, nn, zz]
  · have o1 := r_over r1 r2 .rat z (by omega)
    have o2 := w_over r1 r2 z (by omega)
    have op2 := okp [(lowT (u * v') (v * u'), lowB (u * v') (v * u')), (lowT (u * v') (v * u'), lowB (u * v') (v * u'))]
    simp only [List.map_cons, List.map_nil] at op2
    simp [f_law_two_right, d_law_two_right, i1, i2, i3, i4, oNotEq, oAdd, oEq, oSub, oMult, a1, a2, a3, a4, a5, a6, a7, a8, c1, c2, c3, c4, c5, c6, b1, b2, b3, b4, b5, e1, e2, m1, m2, m3, wp, op, isOwn, eqB_self, ok4, ok5, nn, z, o1, o2, op2]
end
end K11M

set_option maxRecDepth 100000
set_option maxHeartbeats 4000000
set_option linter.all false
namespace K11M
open PySem L2 DV K11D
section
variable {t b t' b' x : Int} {n m : Nat} {d : D}
/-- a pot: what is left of the cell, and the mixed number -/
def PotD (p : D) : Prop := ∃ a b : Int, p = .own [.int a, .int b] ∧ 0 ≤ a ∧ 0 ≤ b ∧ b < 2147483648
theorem fmod_bd (x y : Int) (h : 0 < y) : 0 ≤ x.fmod y ∧ x.fmod y < y := ⟨Int.fmod_nonneg_of_pos x h, Int.fmod_lt_of_pos x h⟩
theorem sm_of {k : Int} {n : Nat} (h : 0 ≤ k) (l : k < 2 ^ n) : Sm n k := by
  unfold Sm
  have : (k.natAbs : Int) < ((2 ^ n : Nat) : Int) := by rw [Int.natAbs_of_nonneg h]; simpa using l
  exact Int.ofNat_lt.mp this
theorem draw_spec {p : D} (h : PotD p) {k : Int} (hk : 0 < k) (hk2 : k < 1073741824) : ∃ (i : Int) (p' : D), f_law_draw [p, .int k] = some (.int i, p') ∧ PotD p' ∧ 0 ≤ i ∧ i < k := by
  obtain ⟨a, b, rfl, ha, hb, hb2⟩ := h
  by_cases q : 0 < a
  · refine ⟨a % k, .own [.int (a / k), .int b], ?_, ⟨a / k, b, rfl, Int.ediv_nonneg ha (by omega), hb, hb2⟩, Int.emod_nonneg _ (by omega), Int.emod_lt_of_pos _ hk⟩
    simp [f_law_draw, d_law_draw, q, hk, hk2, gTs, outD]
  · have k1 := fmod_bd (b * 48271 + 11490) 2147483587 (by decide)
    have m1 : MuOk b 48271 := (sm_of (n := 31) hb (by omega)).mulOk (m := 31) (sm_of (by decide) (by decide)) (by decide)
    have m2 : MuOk ((b * 48271 + 11490).fmod 2147483587) ((b * 48271 + 11490).fmod 2147483587) := (sm_of (n := 31) k1.1 (by omega)).mulOk (sm_of (n := 31) k1.1 (by omega)) (by decide)
    have d1 : DvOk 11 := by decide
    have kk : k ≠ 0 := by omega
    generalize e : (b * 48271 + 11490).fmod 2147483587 = c at *
    refine ⟨(((c * c).fmod 2147483549).fdiv 11).fmod k, .own [.int a, .int c], ?_, ⟨a, c, rfl, ha, k1.1, by omega⟩, fmod_bd _ _ hk⟩
    simp [f_law_draw, d_law_draw, q, oAdd, oMult, m1, m2, d1, kk, outD, e]
theorem pick_spec {p : D} (h : PotD p) (xs : List D) (h0 : 0 < xs.length) (h1 : xs.length < 1000000) : ∃ (x : D) (p' : D), x ∈ xs ∧ f_law_pick [p, .lst xs] = some (x, p') ∧ PotD p' := by
  obtain ⟨i, p', e, hp, i0, i1⟩ := draw_spec h (k := xs.length) (by omega) (by omega)
  obtain ⟨j, rfl⟩ := Int.eq_ofNat_of_zero_le i0
  have hj : j < xs.length := by omega
  refine ⟨xs[j], p', List.getElem_mem .., ?_, hp⟩
  obtain ⟨a, b, rfl, _⟩ := h
  obtain ⟨a', b', rfl, _⟩ := hp
  simp [f_law_pick, d_law_pick, e, DV.atI_nat, hj, outD]
theorem sm_abs {k : Int} {n : Nat} (h : -(2 ^ n) < k) (l : k < 2 ^ n) : Sm n k := by
  unfold Sm
  have h2 : ((2 ^ n : Nat) : Int) = (2 : Int) ^ n := by simp
  have : (k.natAbs : Int) < ((2 ^ n : Nat) : Int) := by omega
  exact Int.ofNat_lt.mp this
theorem pick_common {p : D} (h : PotD p) : ∃ (c : Int) (p' : D), f_law_pick [p, .lst [.int 1, .int 6, .int 35, .int 1000000000]] = some (.int c, p') ∧ PotD p' ∧ 0 < c ∧ Sm 30 c := by
  obtain ⟨x, p', hx, e, hp⟩ := pick_spec h [.int 1, .int 6, .int 35, .int 1000000000] (by simp) (by simp)
  have : ∃ c : Int, x = .int c ∧ 0 < c ∧ c < 2 ^ 30 := by
    simp only [List.mem_cons, List.not_mem_nil, or_false] at hx
    rcases hx with rfl | rfl | rfl | rfl <;> exact ⟨_, rfl, by decide, by decide⟩
  obtain ⟨c, rfl, h1, h2⟩ := this
  exact ⟨c, p', e, hp, h1, sm_of (by omega) h2⟩
theorem pick_sign {p : D} (h : PotD p) : ∃ (c : Int) (p' : D), f_law_pick [p, .lst [.int 1, .int (-1)]] = some (.int c, p') ∧ PotD p' ∧ c ≠ 0 ∧ Sm 1 c := by
  obtain ⟨x, p', hx, e, hp⟩ := pick_spec h [.int 1, .int (-1)] (by simp) (by simp)
  have : ∃ c : Int, x = .int c ∧ c ≠ 0 ∧ Sm 1 c := by
    simp only [List.mem_cons, List.not_mem_nil, or_false] at hx
    rcases hx with rfl | rfl <;> exact ⟨_, rfl, by decide, by unfold Sm; decide⟩
  obtain ⟨c, rfl, h1, h2⟩ := this
  exact ⟨c, p', e, hp, h1, h2⟩
theorem raw_spec {p : D} (h : PotD p) : ∃ (t b : Int) (p' : D), f_law_raw [p] = some (pr t b, p') ∧ PotD p' ∧ b ≠ 0 ∧ Sm 130 t ∧ Sm 130 b := by
  obtain ⟨i1, p1, e1, h1, a1, b1⟩ := draw_spec h (k := 25) (by decide) (by decide)
  obtain ⟨i2, p2, e2, h2, a2, b2⟩ := draw_spec h1 (k := 12) (by decide) (by decide)
  obtain ⟨i3, p3, e3, h3, a3, b3⟩ := draw_spec h2 (k := 3) (by decide) (by decide)
  obtain ⟨c0, c1, rfl, _⟩ := h
  obtain ⟨c2, c3, rfl, _⟩ := h1
  obtain ⟨c4, c5, rfl, _⟩ := h2
  have s1 : Sm 5 (i1 - 12) := sm_abs (by omega) (by omega)
  have s2 : Sm 5 (1 + i2) := sm_abs (by omega) (by omega)
  by_cases q : i3 = 0
  · subst q
    obtain ⟨i4, p4, e4, h4, a4, b4⟩ := draw_spec h3 (k := 9) (by decide) (by decide)
    obtain ⟨i5, p5, e5, h5, a5, b5⟩ := draw_spec h4 (k := 9) (by decide) (by decide)
    obtain ⟨c, p6, e6, h6, z6, k6⟩ := pick_common h5
    obtain ⟨s, p7, e7, h7, z7, k7⟩ := pick_sign h6
    obtain ⟨c6, c7, rfl, _⟩ := h3
    obtain ⟨c8, c9, rfl, _⟩ := h4
    obtain ⟨c10, c11, rfl, _⟩ := h5
    obtain ⟨c12, c13, rfl, _⟩ := h6
    obtain ⟨c14, c15, rfl, _⟩ := id h7
    have kA : Sm 80 (1004207356863602508537649 : Int) := sm_of (by decide) (by decide)
    have kB : Sm 67 (100000000000000000000 : Int) := sm_of (by decide) (by decide)
    have m1 : MuOk (i1 - 12) 1004207356863602508537649 := s1.mulOk kA (by decide)
    have m2 : MuOk (1 + i2) 100000000000000000000 := s2.mulOk kB (by decide)
    have t1 : Sm 90 ((i1 - 12) * 1004207356863602508537649 + i4) := ((s1.mul kA).add (sm_of (n := 5) a4 (by omega))).mono (by decide)
    have t2 : Sm 90 ((1 + i2) * 100000000000000000000 + i5 + 1) := (((s2.mul kB).add (sm_of (n := 5) a5 (by omega))).add one_sm).mono (by decide)
    have t3 : 0 < (1 + i2) * 100000000000000000000 + i5 + 1 := by omega
    generalize eu : (i1 - 12) * 1004207356863602508537649 + i4 = u at *
    generalize ev : (1 + i2) * 100000000000000000000 + i5 + 1 = v at *
    have n1 : MuOk u c := t1.mulOk k6 (by decide)
    have n2 : MuOk (u * c) s := (t1.mul k6).mulOk k7 (by decide)
    have n3 : MuOk v c := t2.mulOk k6 (by decide)
    have n4 : MuOk (v * c) s := (t2.mul k6).mulOk k7 (by decide)
    refine ⟨u * c * s, v * c * s, _, ?_, h7, Int.mul_ne_zero (Int.mul_ne_zero (by omega) (by omega)) z7, ((t1.mul k6).mul k7).mono (by decide), ((t2.mul k6).mul k7).mono (by decide)⟩
    simp [f_law_raw, d_law_raw, e1, e2, e3, e4, e5, e6, e7, oAdd, oMult, oSub, oEq, m1, m2, n1, n2, n3, n4, outD, eu, ev]
  · obtain ⟨c, p6, e6, h6, z6, k6⟩ := pick_common h3
    obtain ⟨s, p7, e7, h7, z7, k7⟩ := pick_sign h6
    obtain ⟨c6, c7, rfl, _⟩ := h3
    obtain ⟨c8, c9, rfl, _⟩ := h6
    obtain ⟨c10, c11, rfl, _⟩ := id h7
    have m1 : MuOk (i1 - 12) c := s1.mulOk k6 (by decide)
    have m2 : MuOk ((i1 - 12) * c) s := (s1.mul k6).mulOk k7 (by decide)
    have m3 : MuOk (1 + i2) c := s2.mulOk k6 (by decide)
    have m4 : MuOk ((1 + i2) * c) s := (s2.mul k6).mulOk k7 (by decide)
    refine ⟨(i1 - 12) * c * s, (1 + i2) * c * s, _, ?_, h7, Int.mul_ne_zero (Int.mul_ne_zero (by omega) (by omega)) z7, ((s1.mul k6).mul k7).mono (by decide), ((s2.mul k6).mul k7).mono (by decide)⟩
    simp [f_law_raw, d_law_raw, e1, e2, e3, e6, e7, oAdd, oMult, oSub, oEq, q, m1, m2, m3, m4, outD]
end
end K11M

set_option maxRecDepth 100000
set_option maxHeartbeats 4000000
set_option linter.all false
namespace K11M
open PySem L2 DV K11D
section
variable {t b t' b' x : Int} {n m : Nat} {d : D}
/-- one more to a sum -/
def tstep (a p : Int × Int) : Int × Int := (lowT (a.1 * p.2 + p.1 * a.2) (a.2 * p.2), lowB (a.1 * p.2 + p.1 * a.2) (a.2 * p.2))
def tot (ps : List (Int × Int)) : Int × Int := ps.foldl tstep (0, 1)
theorem tstep_rs {a p : Int × Int} (h : RS n a.1 a.2) (k : RS 140 p.1 p.2) : RS (n + 141) (tstep a p).1 (tstep a p).2 := RS.low (bb_ne h k) ((add_sm h k).mono (by omega)) ((bb_sm h k).mono (by omega))
def totB : DenS := (sSeq (sAsg 1 (dBin oAdd (dVar 1) (dVar 2))) sEnd)
def totB2 : DenS := (sSeq (sAsg 1 (dCallP f_law_sum (dCons (dVar 1) (dCons (dVar 2) dNil)))) sEnd)
theorem tot_loop : ∀ (ps : List (Int × Int)) (a : Int × Int) (n : Nat) (L x2 : D), RS n a.1 a.2 → n + 141 * ps.length < 7000 → (∀ p ∈ ps, RS 140 p.1 p.2) →
    ∃ x2', forD (gNm 2) totB (ps.map fun p => rat p.1 p.2) [L, .obj 3 [.int a.1, .int a.2], x2] = some (.nx [L, .obj 3 [.int (ps.foldl tstep a).1, .int (ps.foldl tstep a).2], x2'])
  | [], a, n, L, x2, _, _, _ => ⟨x2, rfl⟩
  | p :: ps, a, n, L, x2, h, hl, hp => by
    have hp1 := hp p (List.mem_cons_self ..)
    rw [List.length_cons] at hl
    have e := r_add h hp1 .rat (by omega)
    obtain ⟨x2', ih⟩ := tot_loop ps (tstep a p) (n + 141) L (rat p.1 p.2) (tstep_rs h hp1) (by omega) (fun q hq => hp q (List.mem_cons_of_mem _ hq))
    refine ⟨x2', ?_⟩
    simp only [tstep] at ih
    simp [forD, totB, oAdd, e, tstep]
    exact ih
theorem tot_loop2 : ∀ (ps : List (Int × Int)) (a : Int × Int) (n : Nat) (L x2 : D), RS n a.1 a.2 → n + 141 * ps.length < 7000 → (∀ p ∈ ps, RS 140 p.1 p.2) →
    ∃ x2', forD (gNm 2) totB2 (ps.map fun p => pr p.1 p.2) [L, pr a.1 a.2, x2] = some (.nx [L, pr (ps.foldl tstep a).1 (ps.foldl tstep a).2, x2'])
  | [], a, n, L, x2, _, _, _ => ⟨x2, rfl⟩
  | p :: ps, a, n, L, x2, h, hl, hp => by
    have hp1 := hp p (List.mem_cons_self ..)
    rw [List.length_cons] at hl
    have e := w_sum h hp1 (by omega)
    obtain ⟨x2', ih⟩ := tot_loop2 ps (tstep a p) (n + 141) L (pr p.1 p.2) (tstep_rs h hp1) (by omega) (fun q hq => hp q (List.mem_cons_of_mem _ hq))
    refine ⟨x2', ?_⟩
    simp only [tstep] at ih
    simp [forD, totB2, e, tstep]
    exact ih
theorem zero_rs : RS 1 0 1 := ⟨by unfold Sm; decide, one_sm, by omega⟩
theorem low_01 : lowT 0 1 = 0 ∧ lowB 0 1 = 1 := low_self (by omega) (by decide)
theorem total_of (ps : List (Int × Int)) (hl : ps.length < 40) (hp : ∀ p ∈ ps, RS 140 p.1 p.2) : f_total_of [.lst (ps.map fun p => rat p.1 p.2)] = some (rat (tot ps).1 (tot ps).2, .non) := by
  have hi := init_eq (t := 0) (b := 1) (n := 1) (by omega) one_sm (by omega)
  rw [low_01.1, low_01.2] at hi
  obtain ⟨x2', e⟩ := tot_loop ps (0, 1) 1 (.lst (ps.map fun p => rat p.1 p.2)) .und zero_rs (by omega) hp
  unfold totB at e
  simp only at e
  simp [f_total_of, d_total_of, hi]
  rw [e]
  simp [tot]
theorem law_total (ps : List (Int × Int)) (hl : ps.length < 40) (hp : ∀ p ∈ ps, RS 140 p.1 p.2) : f_law_total [.lst (ps.map fun p => pr p.1 p.2)] = some (pr (tot ps).1 (tot ps).2, .non) := by
  obtain ⟨x2', e⟩ := tot_loop2 ps (0, 1) 1 (.lst (ps.map fun p => pr p.1 p.2)) .und zero_rs (by omega) hp
  unfold totB2 at e
  simp only at e
  simp [f_law_total, d_law_total]
  rw [e]
  simp [tot]
theorem want_rat : f_want_number [rat t b] = some (rat t b, .non) := by simp [f_want_number, d_want_number]
theorem isnum_int : f_is_number [.int x] = some (.bl true, .non) := by simp [f_is_number, d_is_number]
theorem want_int (h : Sm 100 x) : f_want_number [.int x] = some (rlow x 1, .non) := by
  have hi := init_eq (t := x) (b := 1) (n := 1) (by omega) one_sm (by omega)
  simp [f_want_number, d_want_number, isnum_int, f_ratio_of, d_ratio_of, isOne, hi]
theorem r_total (ps : List (Int × Int)) (hl : ps.length < 30) (hp : ∀ p ∈ ps, RS 140 p.1 p.2) (c : D) (x : D) (hx : x = .lst ((ps.map fun p => rat p.1 p.2) ++ [.int 7]) ∨ x = .tup ((ps.map fun p => rat p.1 p.2) ++ [.int 7])) :
    f_Ratio_total [.cls 3, x] = some (rat (tot (ps ++ [(7, 1)])).1 (tot (ps ++ [(7, 1)])).2, .non) := by
  have w7 := want_int (x := 7) (by unfold Sm; decide)
  have e7 : lowT 7 1 = 7 ∧ lowB 7 1 = 1 := low_self (by omega) (by decide)
  have q := total_of (ps ++ [(7, 1)]) (by simp; omega) (fun p hp' => by
    rcases List.mem_append.mp hp' with h | h
    · exact hp p h
    · have : p = (7, 1) := by simpa using h
      subst this
      exact ⟨by unfold Sm; decide, by unfold Sm; decide, by omega⟩)
  have cm := compD_map (own := [2]) (fg := gNm 2) (ft := tYesD) (fe := dCallP f_want_number (dCons (dVar 2) dNil)) (ρ := [.cls 3, x, .und])
    (fun d => match d with
      | .int x => rlow x 1
      | d => d) ((ps.map fun p => rat p.1 p.2) ++ [.int 7]) [] (fun d hd => by
      rcases List.mem_append.mp hd with h | h
      · obtain ⟨p, _, rfl⟩ := List.mem_map.mp h
        exact ⟨[.cls 3, x, rat p.1 p.2], [.cls 3, x, rat p.1 p.2], [.cls 3, x, rat p.1 p.2], by simp, by simp, by simp [want_rat], by simp⟩
      · have : d = .int 7 := by simpa using h
        subst this
        exact ⟨[.cls 3, x, .int 7], [.cls 3, x, .int 7], [.cls 3, x, .int 7], by simp, by simp, by simp [w7], by simp⟩) (by simp; omega)
  rw [List.map_append, List.map_map] at cm
  have hm : (ps.map ((fun d => match d with
      | D.int x => rlow x 1
      | d => d) ∘ fun p => rat p.1 p.2)) = ps.map fun p => rat p.1 p.2 := List.map_congr_left fun p _ => rfl
  rw [hm] at cm
  rcases hx with rfl | rfl <;>
    (simp at cm q
     simp [f_Ratio_total, d_Ratio_total, f_is_list, d_is_list, isOne, kinds, allCls, isAny, cm, e7.1, e7.2, Function.comp_def]
     rw [q])
theorem r_total0 : f_Ratio_total [.cls 3, .lst []] = some (rat 0 1, .non) := by
  have := total_of [] (by simp) (by simp)
  simp [tot] at this
  simp [f_Ratio_total, d_Ratio_total, f_is_list, d_is_list, isOne, kinds, allCls, isAny, compD, this]
end
end K11M

set_option maxRecDepth 100000
set_option maxHeartbeats 4000000
set_option linter.all false
namespace K11M
open PySem L2 DV K11D
section
variable {t b t' b' x : Int} {n m : Nat} {d : D}
theorem pot_end (c : Int) (hc : 0 ≤ c) : PotD (.own [.int (if c - 1000000000000000000 > 0 then c - 1000000000000000000 else 0), .int (((c.fmod 2147483549 + 53) * 27).fmod 2147483477 + 1)]) := by
  have := fmod_bd ((c.fmod 2147483549 + 53) * 27) 2147483477 (by decide)
  refine ⟨_, _, rfl, ?_, by omega, by omega⟩
  split <;> omega
theorem pot_spec (ns : List Int) : ∃ p, f_law_pot [.con (ns.map D.int), .int 0] = some (p, .non) ∧ PotD p := by
  have m1 : MuOk 67 0 := by decide
  have m2 : MuOk 2 0 := by decide
  have fm : ∀ c : Int, 0 ≤ c.fmod 2147483549 ∧ c.fmod 2147483549 < 2147483549 := fun c => fmod_bd c _ (by decide)
  have m3 : ∀ c : Int, MuOk (c.fmod 2147483549 + 53) 27 := fun c => (sm_of (n := 32) (by have := fm c; omega) (by have := fm c; omega)).mulOk (m := 5) (sm_of (by decide) (by decide)) (by decide)
  cases ns with
  | nil =>
    refine ⟨_, ?_, pot_end 53 (by decide)⟩
    have m4 : MuOk 106 27 := by decide
    simp [f_law_pot, d_law_pot, oAdd, oMult, oSub, m1, m2, m4]
  | cons i ns =>
    refine ⟨_, ?_, pot_end (if i < 0 then -i else i) (by split <;> omega)⟩
    have := m3 (if i < 0 then -i else i)
    simp [f_law_pot, d_law_pot, oAdd, oMult, oSub, m1, m2, this]
/-- the values that are asked -/
def vals : List D := [.int 0, .int 1, .int (-1), .int 5, .bl true, .bl false, .non, .str "1", .own [.int 1], .tup [.int 1, .int 2], .int 100000]
def told : List D := [.own [.bl true, .bl true, .bl true, .bl true], .own [.bl true, .bl true, .bl true, .bl true], .own [.bl true, .bl false, .bl true, .bl false], .own [.bl true, .bl false, .bl true, .bl true], .own [.bl false, .bl false, .bl false, .bl false], .own [.bl false, .bl false, .bl false, .bl false], .own [.bl false, .bl false, .bl false, .bl false], .own [.bl false, .bl false, .bl false, .bl false], .own [.bl false, .bl false, .bl false, .bl false], .own [.bl false, .bl false, .bl false, .bl false], .own [.bl true, .bl false, .bl true, .bl true]]
def due : List D := [.own [.bl true, .bl true, .bl true, .bl true], .own [.bl true, .bl true, .bl true, .bl true], .own [.bl true, .bl false, .bl true, .bl false], .own [.bl true, .bl false, .bl true, .bl true]]
theorem v_int {x : Int} (h : Sm 100 x) : f_is_number [.int x] = some (.bl true, .non) ∧ f_is_share [.int x] = some (.bl (decide (0 ≤ x ∧ x ≤ 1)), .non) ∧ f_is_count [.int x] = some (.bl (decide (0 ≤ x)), .non) := by
  have hi := init_eq (t := x) (b := 1) (n := 1) (by omega) one_sm (by omega)
  have e := low_self (t := x) (b := 1) (by omega) (by simp)
  rw [e.1, e.2] at hi
  have hr : f_ratio_of [.int x] = some (.obj 3 [.int x, .int 1], .non) := by simp [f_ratio_of, d_ratio_of, isOne, hi]
  have e := r_most (t := x) (b := 1) (d := .int 1) (⟨h, (one_sm).mono (by omega), by omega⟩ : RS 100 x 1) (⟨one_sm, one_sm, by omega⟩ : RS 1 1 1) .int (by omega)
  simp only [Int.mul_one, Int.one_mul] at e
  refine ⟨isnum_int, ?_, by simp [f_is_count, d_is_count]⟩
  rcases Int.lt_trichotomy x 0 with q | q | q
  · have q1 : ¬ 0 < x := by omega
    have q2 : ¬ 0 ≤ x := by omega
    simp [f_is_share, d_is_share, isnum_int, hr, q, q1, q2, e]
  · subst q
    simp [f_is_share, d_is_share, isnum_int, hr, e]
  · have q1 : ¬ x < 0 := by omega
    have q2 : 0 ≤ x := by omega
    simp [f_is_share, d_is_share, isnum_int, hr, q, q1, q2, e]
theorem v_bt : f_is_number [(.bl true)] = some (.bl false, .non) ∧ f_is_share [(.bl true)] = some (.bl false, .non) ∧ f_is_integer [(.bl true)] = some (.bl false, .non) ∧ f_is_count [(.bl true)] = some (.bl false, .non) := by
  have h1 : f_is_integer [(.bl true)] = some (.bl false, .non) := by simp [f_is_integer, d_is_integer, isOne, kinds]
  have h2 : f_is_number [(.bl true)] = some (.bl false, .non) := by simp [f_is_number, d_is_number, isOne, h1]
  exact ⟨h2, by simp [f_is_share, d_is_share, h2], h1, by simp [f_is_count, d_is_count, h1]⟩
theorem v_bf : f_is_number [(.bl false)] = some (.bl false, .non) ∧ f_is_share [(.bl false)] = some (.bl false, .non) ∧ f_is_integer [(.bl false)] = some (.bl false, .non) ∧ f_is_count [(.bl false)] = some (.bl false, .non) := by
  have h1 : f_is_integer [(.bl false)] = some (.bl false, .non) := by simp [f_is_integer, d_is_integer, isOne, kinds]
  have h2 : f_is_number [(.bl false)] = some (.bl false, .non) := by simp [f_is_number, d_is_number, isOne, h1]
  exact ⟨h2, by simp [f_is_share, d_is_share, h2], h1, by simp [f_is_count, d_is_count, h1]⟩
theorem v_non : f_is_number [.non] = some (.bl false, .non) ∧ f_is_share [.non] = some (.bl false, .non) ∧ f_is_integer [.non] = some (.bl false, .non) ∧ f_is_count [.non] = some (.bl false, .non) := by
  have h1 : f_is_integer [.non] = some (.bl false, .non) := by simp [f_is_integer, d_is_integer, isOne, kinds]
  have h2 : f_is_number [.non] = some (.bl false, .non) := by simp [f_is_number, d_is_number, isOne, h1]
  exact ⟨h2, by simp [f_is_share, d_is_share, h2], h1, by simp [f_is_count, d_is_count, h1]⟩
theorem v_str : f_is_number [(.str "1")] = some (.bl false, .non) ∧ f_is_share [(.str "1")] = some (.bl false, .non) ∧ f_is_integer [(.str "1")] = some (.bl false, .non) ∧ f_is_count [(.str "1")] = some (.bl false, .non) := by
  have h1 : f_is_integer [(.str "1")] = some (.bl false, .non) := by simp [f_is_integer, d_is_integer, isOne, kinds]
  have h2 : f_is_number [(.str "1")] = some (.bl false, .non) := by simp [f_is_number, d_is_number, isOne, h1]
  exact ⟨h2, by simp [f_is_share, d_is_share, h2], h1, by simp [f_is_count, d_is_count, h1]⟩
theorem v_lst : f_is_number [(.lst [.int 1])] = some (.bl false, .non) ∧ f_is_share [(.lst [.int 1])] = some (.bl false, .non) ∧ f_is_integer [(.lst [.int 1])] = some (.bl false, .non) ∧ f_is_count [(.lst [.int 1])] = some (.bl false, .non) := by
  have h1 : f_is_integer [(.lst [.int 1])] = some (.bl false, .non) := by simp [f_is_integer, d_is_integer, isOne, kinds]
  have h2 : f_is_number [(.lst [.int 1])] = some (.bl false, .non) := by simp [f_is_number, d_is_number, isOne, h1]
  exact ⟨h2, by simp [f_is_share, d_is_share, h2], h1, by simp [f_is_count, d_is_count, h1]⟩
theorem v_tup : f_is_number [(.tup [.int 1, .int 2])] = some (.bl false, .non) ∧ f_is_share [(.tup [.int 1, .int 2])] = some (.bl false, .non) ∧ f_is_integer [(.tup [.int 1, .int 2])] = some (.bl false, .non) ∧ f_is_count [(.tup [.int 1, .int 2])] = some (.bl false, .non) := by
  have h1 : f_is_integer [(.tup [.int 1, .int 2])] = some (.bl false, .non) := by simp [f_is_integer, d_is_integer, isOne, kinds]
  have h2 : f_is_number [(.tup [.int 1, .int 2])] = some (.bl false, .non) := by simp [f_is_number, d_is_number, isOne, h1]
  exact ⟨h2, by simp [f_is_share, d_is_share, h2], h1, by simp [f_is_count, d_is_count, h1]⟩
/-- a drawn fraction, its parts small -/
def RawD (e : D) : Prop := ∃ t b : Int, e = pr t b ∧ b ≠ 0 ∧ Sm 130 t ∧ Sm 130 b
abbrev und8 : List D := [.und, .und, .und, .und, .und, .und, .und, .und]
theorem six {es : List D} (h : es.length = 6) : ∃ a b c d e f, es = [a, b, c, d, e, f] := by
  match es, h with
  | [a, b, c, d, e, f], _ => exact ⟨a, b, c, d, e, f, rfl⟩
theorem law_right {p : D} (hp : PotD p) : ∃ o, f_law_right [p] = some (.bl true, o) := by
  suffices ∃ o ρ', d_law_right (p :: .und :: und8) = some (.rt (.bl true) (o :: ρ')) ∧ o ≠ .und by
    obtain ⟨o, ρ', e, ho⟩ := this
    refine ⟨o, ?_⟩
    simp only [f_law_right, semOf_ap]
    have : ([p] ++ List.replicate (10 - [p].length) .und) = p :: .und :: und8 := rfl
    rw [this, e]
    cases o <;> first | exact absurd rfl ho | rfl
  unfold d_law_right
  refine seq_ex (Q := fun x => ∃ o ρ', x = some (.rt (.bl true) (o :: ρ')) ∧ o ≠ .und) ?_
  -- the six fractions
  obtain ⟨es, ρ1, e1, ⟨p1, rfl, hp1⟩, l1, r1⟩ := compD_ex (own := [2]) (fg := gNm 2) (ft := tYesD) (fe := dCallR f_law_raw 0 dNil) (fun ρ => ∃ p, ρ = p :: .und :: und8 ∧ PotD p) RawD (rngD 0 6) [] (p :: .und :: und8)
    (fun d hd ρ hρ => by
      obtain ⟨p0, rfl, h0⟩ := hρ
      obtain ⟨t, b, p', e, h', k1, k2, k3⟩ := raw_spec h0
      obtain ⟨i, _, rfl⟩ := List.mem_map.mp hd
      obtain ⟨a0, b0, rfl, _⟩ := h0
      exact ⟨_, _, _, pr t b, by simp; rfl, by simp; rfl, by simp [e]; rfl, ⟨p', by simp, h'⟩, t, b, rfl, k1, k2, k3⟩) ⟨p, rfl, hp⟩ (by decide)
  obtain ⟨d0, d1, d2, d3, d4, d5, rfl⟩ := six (by simpa [rngD] using l1)
  obtain ⟨t0, b0, rfl, z0, u0, v0⟩ := r1 d0 (by simp)
  obtain ⟨t1, b1, rfl, z1, u1, v1⟩ := r1 d1 (by simp)
  obtain ⟨t2, b2, rfl, z2, u2, v2⟩ := r1 d2 (by simp)
  obtain ⟨t3, b3, rfl, z3, u3, v3⟩ := r1 d3 (by simp)
  obtain ⟨t4, b4, rfl, z4, u4, v4⟩ := r1 d4 (by simp)
  obtain ⟨t5, b5, rfl, z5, u5, v5⟩ := r1 d5 (by simp)
  refine ⟨p1 :: .own [pr t0 b0, pr t1 b1, pr t2 b2, pr t3 b3, pr t4 b4, pr t5 b5] :: und8, by simp [e1], ?_⟩
  have m1 : MuOk t0 3 := u0.mulOk (m := 3) (by unfold Sm; decide) (by decide)
  have m2 : MuOk b0 3 := v0.mulOk (m := 3) (by unfold Sm; decide) (by decide)
  refine seq_ex (Q := fun x => ∃ o ρ', x = some (.rt (.bl true) (o :: ρ')) ∧ o ≠ .und) ?_
  refine ⟨p1 :: .own [pr t0 b0, pr t1 b1, pr t2 b2, pr t3 b3, pr t4 b4, pr t5 b5, pr (t0 * 3) (b0 * 3)] :: und8, by simp [isOwn, oMult, m1, m2], ?_⟩
  refine seq_ex (Q := fun x => ∃ o ρ', x = some (.rt (.bl true) (o :: ρ')) ∧ o ≠ .und) ?_
  refine ⟨p1 :: .own [pr t0 b0, pr t1 b1, pr t2 b2, pr t3 b3, pr t4 b4, pr t5 b5, pr (t0 * 3) (b0 * 3), pr 0 b1] :: und8, by simp [isOwn], ?_⟩
  have all : ∃ rs : List (Int × Int), [pr t0 b0, pr t1 b1, pr t2 b2, pr t3 b3, pr t4 b4, pr t5 b5, pr (t0 * 3) (b0 * 3), pr 0 b1] = rs.map (fun p => pr p.1 p.2) ∧ rs.length = 8 ∧ ∀ p ∈ rs, p.2 ≠ 0 ∧ Sm 140 p.1 ∧ Sm 140 p.2 := by
    refine ⟨[(t0, b0), (t1, b1), (t2, b2), (t3, b3), (t4, b4), (t5, b5), (t0 * 3, b0 * 3), (0, b1)], rfl, rfl, ?_⟩
    have t3' : Sm 140 (t0 * 3) := (u0.mul (m := 3) (by unfold Sm; decide)).mono (by decide)
    have b3' : Sm 140 (b0 * 3) := (v0.mul (m := 3) (by unfold Sm; decide)).mono (by decide)
    have z3' : b0 * 3 ≠ 0 := by omega
    have s0 : Sm 140 0 := (show Sm 1 0 by unfold Sm; decide).mono (by decide)
    intro p hp
    simp only [List.mem_cons, List.not_mem_nil, or_false] at hp
    rcases hp with rfl | rfl | rfl | rfl | rfl | rfl | rfl | rfl
    · exact ⟨z0, u0.mono (by decide), v0.mono (by decide)⟩
    · exact ⟨z1, u1.mono (by decide), v1.mono (by decide)⟩
    · exact ⟨z2, u2.mono (by decide), v2.mono (by decide)⟩
    · exact ⟨z3, u3.mono (by decide), v3.mono (by decide)⟩
    · exact ⟨z4, u4.mono (by decide), v4.mono (by decide)⟩
    · exact ⟨z5, u5.mono (by decide), v5.mono (by decide)⟩
    · exact ⟨z3', t3', b3'⟩
    · exact ⟨z1, s0, v1.mono (by decide)⟩
  obtain ⟨rs, er, lr, hr⟩ := all
  rw [er]
  clear er r1 e1
  generalize eR : rs.map (fun p => pr p.1 p.2) = R at *
  have hR : ∀ d ∈ R, ∃ t b : Int, d = pr t b ∧ b ≠ 0 ∧ Sm 140 t ∧ Sm 140 b := fun d hd => by
    rw [← eR] at hd
    obtain ⟨p, hp, rfl⟩ := List.mem_map.mp hd
    exact ⟨p.1, p.2, rfl, hr p hp⟩
  have lR : R.length = 8 := by rw [← eR]; simpa using lr
  have fR : R.map fz = R := by rw [← eR, List.map_map]; exact List.map_congr_left fun p _ => rfl
  -- each by itself
  refine seq_ex (Q := fun x => ∃ o ρ', x = some (.rt (.bl true) (o :: ρ')) ∧ o ≠ .und) ?_
  obtain ⟨ρ2, e2, _, x3, rfl⟩ := forD_rel (fg := gNm 3) (fb := (sSeq (sIf (tNotD (tOf (dCallP f_law_one_right (dCons (dVar 3) dNil)))) (sSeq (sRet (dCst (.bl false)))
  sEnd) sEnd)
  sEnd)) (fun ds ρ => (∀ d ∈ ds, d ∈ R) ∧ ∃ x3, ρ = [p1, .lst R, .und, x3, .und, .und, .und, .und, .und, .und]) (fun d ds ρ h => by
      obtain ⟨h1, x3, rfl⟩ := h
      obtain ⟨t, b, rfl, k0, k1, k2⟩ := hR d (h1 _ (List.mem_cons_self ..))
      obtain ⟨o, eo⟩ := law_one k0 k1 k2
      obtain ⟨c0, c1, rfl, _⟩ := hp1
      exact ⟨_, _, by simp; rfl, .inl (by simp [eo]; rfl), fun d hd => h1 d (List.mem_cons_of_mem _ hd), _, rfl⟩) R [p1, .lst R, .und, .und, .und, .und, .und, .und, .und, .und] ⟨fun _ h => h, _, rfl⟩
  refine ⟨_, by simp [fR]; exact e2, ?_⟩
  -- by twos
  refine seq_ex (Q := fun x => ∃ o ρ', x = some (.rt (.bl true) (o :: ρ')) ∧ o ≠ .und) ?_
  obtain ⟨ρ3, e3, p3, x2, rfl, hp3⟩ := forD_rel (fg := gNm 2) (fb := (sSeq (sIf (tNotD (tOf (dCallP f_law_two_right (dCons (dCallR f_law_pick 0 (dCons (dVar 1) dNil)) (dCons (dCallR f_law_pick 0 (dCons (dVar 1) dNil)) (dCons (dBin oSub (dCallR f_law_draw 0 (dCons (dCst (.int 41)) dNil)) (dCst (.int 20))) dNil)))))) (sSeq (sRet (dCst (.bl false)))
  sEnd) sEnd)
  sEnd)) (fun ds ρ => ∃ p x2, ρ = [p, .lst R, x2, x3, .und, .und, .und, .und, .und, .und] ∧ PotD p) (fun d ds ρ h => by
      obtain ⟨p, x2, rfl, h0⟩ := h
      obtain ⟨y1, q1, w1, f1, g1⟩ := pick_spec h0 R (by omega) (by omega)
      obtain ⟨y2, q2, w2, f2, g2⟩ := pick_spec g1 R (by omega) (by omega)
      obtain ⟨i, q3, f3, g3, i0, i1⟩ := draw_spec g2 (k := 41) (by decide) (by decide)
      obtain ⟨t, b, rfl, k0, k1, k2⟩ := hR y1 w1
      obtain ⟨t', b', rfl, k0', k1', k2'⟩ := hR y2 w2
      obtain ⟨o, eo⟩ := law_two (x := i - 20) k0 k1 k2 k0' k1' k2' (sm_abs (by omega) (by omega))
      obtain ⟨c0, c1, rfl, _⟩ := h0
      obtain ⟨c2, c3, rfl, _⟩ := g1
      obtain ⟨c4, c5, rfl, _⟩ := g2
      obtain ⟨c6, c7, rfl, _⟩ := id g3
      exact ⟨_, _, by simp; rfl, .inl (by simp [f1, f2, f3, oSub, eo]; rfl), _, _, rfl, g3⟩) (rngD 0 12) [p1, .lst R, .und, x3, .und, .und, .und, .und, .und, .und] ⟨p1, .und, rfl, hp1⟩
  refine ⟨_, by simp; exact e3, ?_⟩
  obtain ⟨c0, c1, rfl, _⟩ := hp3
  generalize eps : rs.map (fun p => (lowT p.1 p.2, lowB p.1 p.2)) = ps
  have hps : ∀ p ∈ ps, RS 140 p.1 p.2 := fun p hp => by
    rw [← eps] at hp
    obtain ⟨q, hq, rfl⟩ := List.mem_map.mp hp
    obtain ⟨k0, k1, k2⟩ := hr q hq
    exact RS.low k0 k1 k2
  have lps : ps.length = 8 := by rw [← eps]; simpa using lr
  -- sums of them all
  refine seq_ex (Q := fun x => ∃ o ρ', x = some (.rt (.bl true) (o :: ρ')) ∧ o ≠ .und) ?_
  have g4 := compD_map (own := [3]) (fg := gNm 3) (ft := tYesD) (fe := dCallP f_law_low (dCons (dItem 3 (dCst (.int 0))) (dCons (dItem 3 (dCst (.int 1))) dNil)))
    (ρ := [.own [.int c0, .int c1], .lst R, x2, .und, .und, .und, .und, .und, .und, .und]) (fun d => match d with
      | .tup [.int t, .int b] => plow t b
      | d => d) R [] (fun d hd => by
      obtain ⟨t, b, rfl, k0, k1, k2⟩ := hR d hd
      have e := lowlaw_eq (t := t) k0 k2 (by omega)
      exact ⟨_, _, _, by simp; rfl, by simp; rfl, by simp [e]; rfl, by simp⟩) (by simp; omega)
  have g4' : R.map (fun d => match d with
      | .tup [.int t, .int b] => plow t b
      | d => d) = ps.map fun p => pr p.1 p.2 := by
    rw [← eR, ← eps, List.map_map, List.map_map]
    exact List.map_congr_left fun p _ => rfl
  rw [g4'] at g4
  refine ⟨[.own [.int c0, .int c1], .lst R, x2, .und, .own (ps.map fun p => pr p.1 p.2), .und, .und, .und, .und, .und], by simp [g4], ?_⟩
  refine seq_ex (Q := fun x => ∃ o ρ', x = some (.rt (.bl true) (o :: ρ')) ∧ o ≠ .und) ?_
  have g5 := compD_map (own := [3]) (fg := gNm 3) (ft := tYesD) (fe := dMake 3 [] f_Ratio___init (dCons (dItem 3 (dCst (.int 0))) (dCons (dItem 3 (dCst (.int 1))) dNil)))
    (ρ := [.own [.int c0, .int c1], .lst R, x2, .und, .own (ps.map fun p => pr p.1 p.2), .und, .und, .und, .und, .und]) (fun d => match d with
      | .tup [.int t, .int b] => rlow t b
      | d => d) R [] (fun d hd => by
      obtain ⟨t, b, rfl, k0, k1, k2⟩ := hR d hd
      have e := init_eq (t := t) k0 k2 (by omega)
      exact ⟨_, _, _, by simp; rfl, by simp; rfl, by simp [e]; rfl, by simp⟩) (by simp; omega)
  have g5' : (R.map (fun d => match d with
      | .tup [.int t, .int b] => rlow t b
      | d => d)).map fz = ps.map fun p => rat p.1 p.2 := by
    rw [← eR, ← eps, List.map_map, List.map_map, List.map_map]
    exact List.map_congr_left fun p _ => rfl
  generalize eG : R.map (fun d => match d with
      | .tup [.int t, .int b] => rlow t b
      | d => d) = GG at *
  have lG : GG.length = 8 := by rw [← eG]; simpa using lR
  refine ⟨[.own [.int c0, .int c1], .lst R, x2, .und, .own (ps.map fun p => pr p.1 p.2), .own ((ps.map fun p => rat p.1 p.2) ++ [.int 7]), .und, .und, .und, .und], by simp [g5, g5', lps, oAdd], ?_⟩
  refine seq_ex (Q := fun x => ∃ o ρ', x = some (.rt (.bl true) (o :: ρ')) ∧ o ≠ .und) ?_
  have T1 := r_total ps (by omega) hps .non _ (.inl rfl)
  have T2 := r_total ps (by omega) hps .non _ (.inr rfl)
  have T3 := law_total (ps ++ [(7, 1)]) (by simp; omega) (fun p hp' => by
    rcases List.mem_append.mp hp' with h | h
    · exact hps p h
    · have : p = (7, 1) := by simpa using h
      subst this
      exact ⟨by unfold Sm; decide, by unfold Sm; decide, by omega⟩)
  generalize tot (ps ++ [(7, 1)]) = tt at *
  have fP : (ps.map fun p => pr p.1 p.2).map fz = ps.map fun p => pr p.1 p.2 := by rw [List.map_map]; exact List.map_congr_left fun p _ => rfl
  have fG : (ps.map fun p => rat p.1 p.2).map fz = ps.map fun p => rat p.1 p.2 := by rw [List.map_map]; exact List.map_congr_left fun p _ => rfl
  generalize eG2 : (ps.map fun p => rat p.1 p.2) = G2 at *
  rw [List.map_append] at T3
  generalize eP2 : (ps.map fun p => pr p.1 p.2) = P2 at *
  have lP2 : P2.length = 8 := by rw [← eP2]; simpa using lps
  refine ⟨[.own [.int c0, .int c1], .lst R, x2, .und, .own P2, .lst (G2 ++ [.int 7]), .own [rat tt.1 tt.2, rat tt.1 tt.2, rat tt.1 tt.2, rat 0 1], .und, .und, .und], by simp [T1, T2, r_total0, fG], ?_⟩
  refine seq_ex (Q := fun x => ∃ o ρ', x = some (.rt (.bl true) (o :: ρ')) ∧ o ≠ .und) ?_
  have wp := w_pairs [tt, tt, tt, (0, 1)] (by simp)
  have op := okp [tt, tt, tt, (0, 1)]
  simp only [List.map_cons, List.map_nil] at wp op T3
  refine ⟨[.own [.int c0, .int c1], .lst R, x2, .und, .lst P2, .lst (G2 ++ [.int 7]), .lst [rat tt.1 tt.2, rat tt.1 tt.2, rat tt.1 tt.2, rat 0 1], .und, .und, .und], by simp [wp, fP, lP2, oAdd, oMult, oNotEq, T3, op, eqB_self], ?_⟩
  -- what is what
  have w0 := v_int (x := 0) (by unfold Sm; decide)
  have w1 := v_int (x := 1) (by unfold Sm; decide)
  have w2 := v_int (x := -1) (by unfold Sm; decide)
  have w5 := v_int (x := 5) (by unfold Sm; decide)
  have wM := v_int (x := 100000) (by unfold Sm; decide)
  clear wp op T1 T2 T3 g4 g4' g5 g5' eR hR
  refine seq_ex (Q := fun x => ∃ o ρ', x = some (.rt (.bl true) (o :: ρ')) ∧ o ≠ .und) ?_
  refine ⟨[.own [.int c0, .int c1], .lst R, x2, .und, .lst P2, .lst (G2 ++ [.int 7]), .lst [rat tt.1 tt.2, rat tt.1 tt.2, rat tt.1 tt.2, rat 0 1], .own vals, .und, .und], by simp [vals], ?_⟩
  refine seq_ex (Q := fun x => ∃ o ρ', x = some (.rt (.bl true) (o :: ρ')) ∧ o ≠ .und) ?_
  refine ⟨[.own [.int c0, .int c1], .lst R, x2, .und, .lst P2, .lst (G2 ++ [.int 7]), .own told, .lst (vals.map fz), .und, .und], by simp [vals, told, compD, w0.1, w0.2.1, w0.2.2, w1.1, w1.2.1, w1.2.2, w2.1, w2.2.1, w2.2.2, w5.1, w5.2.1, w5.2.2, wM.1, wM.2.1, wM.2.2, v_bt.1, v_bt.2.1, v_bt.2.2.1, v_bt.2.2.2, v_bf.1, v_bf.2.1, v_bf.2.2.1, v_bf.2.2.2, v_non.1, v_non.2.1, v_non.2.2.1, v_non.2.2.2, v_str.1, v_str.2.1, v_str.2.2.1, v_str.2.2.2, v_lst.1, v_lst.2.1, v_lst.2.2.1, v_lst.2.2.2, v_tup.1, v_tup.2.1, v_tup.2.2.1, v_tup.2.2.2], ?_⟩
  refine seq_ex (Q := fun x => ∃ o ρ', x = some (.rt (.bl true) (o :: ρ')) ∧ o ≠ .und) ?_
  refine ⟨[.own [.int c0, .int c1], .lst R, x2, .und, .lst P2, .lst (G2 ++ [.int 7]), .own told, .lst (vals.map fz), .und, .own due], by simp [due], ?_⟩
  have eqv : eqB false (.lst (told.map fz)) (.lst (told.map fz)) = some (.bl true) := eqB_self (by decide +kernel)
  refine ⟨.own [.int c0, .int c1], [.lst R, .und, .und, .lst P2, .lst (G2 ++ [.int 7]), .lst (told.map fz), .lst (vals.map fz), .und, .lst (due.map fz)], ?_, by simp⟩
  clear e2 e3
  simp [told] at eqv
  simp [compD, oMult, oAdd, oEq, due, told, rngD, List.range, List.range.loop, eqv]
theorem law_sem (ns : List Int) : ∃ o, f_law [.con (ns.map D.int)] = some (.bl true, o) := by
  obtain ⟨p, e, hp⟩ := pot_spec ns
  obtain ⟨o, e2⟩ := law_right hp
  simp [f_law, d_law, e, e2]
end
end K11M

set_option Elab.async false
set_option maxRecDepth 100000
set_option maxHeartbeats 0
set_option linter.all false
/-! printed by gene.py: the end -/
namespace K11WE
open PySem L2 DV K11D K11W PySem.Spec PyProof.Rows
def fn : List DefX := [⟨.gl "is_integer", "is_integer", "is_integer", s_is_integer, []⟩, ⟨.gl "told_pair", "told_pair", "told_pair", s_told_pair, []⟩, ⟨.gl "common_part", "common_part", "common_part", s_common_part, []⟩, ⟨.me "Ratio" "__init__", "__init__", "Ratio.__init__", s_Ratio___init, [.int 1]⟩, ⟨.me "Ratio" "__add__", "__add__", "Ratio.__add__", s_Ratio___add, []⟩, ⟨.me "Ratio" "__radd__", "__radd__", "Ratio.__radd__", s_Ratio___radd, []⟩, ⟨.me "Ratio" "__mul__", "__mul__", "Ratio.__mul__", s_Ratio___mul, []⟩, ⟨.me "Ratio" "__rmul__", "__rmul__", "Ratio.__rmul__", s_Ratio___rmul, []⟩, ⟨.gl "_law_draw", "_law_draw", "_law_draw", s_law_draw, []⟩, ⟨.gl "_law_pick", "_law_pick", "_law_pick", s_law_pick, []⟩, ⟨.me "Ratio" "__sub__", "__sub__", "Ratio.__sub__", s_Ratio___sub, []⟩, ⟨.me "Ratio" "__rsub__", "__rsub__", "Ratio.__rsub__", s_Ratio___rsub, []⟩, ⟨.me "Ratio" "__eq__", "__eq__", "Ratio.__eq__", s_Ratio___eq, []⟩, ⟨.gl "_law_raw", "_law_raw", "_law_raw", s_law_raw, []⟩, ⟨.gl "_law_low", "_law_low", "_law_low", s_law_low, []⟩, ⟨.pr "Ratio" "bottom", "bottom", "Ratio.bottom", s_Ratio_bottom, []⟩, ⟨.pr "Ratio" "top", "top", "Ratio.top", s_Ratio_top, []⟩, ⟨.gl "_law_pair", "_law_pair", "_law_pair", s_law_pair, []⟩, ⟨.gl "digits_of", "digits_of", "digits_of", s_digits_of, []⟩, ⟨.me "Ratio" "__str__", "__str__", "Ratio.__str__", s_Ratio___str, []⟩, ⟨.gl "_law_shown", "_law_shown", "_law_shown", s_law_shown, []⟩, ⟨.pr "Ratio" "is_whole", "is_whole", "Ratio.is_whole", s_Ratio_is_whole, []⟩, ⟨.pr "Ratio" "sign", "sign", "Ratio.sign", s_Ratio_sign, []⟩, ⟨.me "Ratio" "size", "size", "Ratio.size", s_Ratio_size, []⟩, ⟨.gl "is_count", "is_count", "is_count", s_is_count, []⟩, ⟨.gl "is_number", "is_number", "is_number", s_is_number, []⟩, ⟨.gl "ratio_of", "ratio_of", "ratio_of", s_ratio_of, []⟩, ⟨.me "Ratio" "is_at_most", "is_at_most", "Ratio.is_at_most", s_Ratio_is_at_most, []⟩, ⟨.gl "is_share", "is_share", "is_share", s_is_share, []⟩, ⟨.me "Ratio" "__repr__", "__repr__", "Ratio.__repr__", s_Ratio___repr, []⟩, ⟨.me "Ratio" "__neg__", "__neg__", "Ratio.__neg__", s_Ratio___neg, []⟩, ⟨.gl "_law_one_right", "_law_one_right", "_law_one_right", s_law_one_right, []⟩, ⟨.gl "_law_sum", "_law_sum", "_law_sum", s_law_sum, []⟩, ⟨.gl "_law_by", "_law_by", "_law_by", s_law_by, []⟩, ⟨.gl "_law_less", "_law_less", "_law_less", s_law_less, []⟩, ⟨.gl "_law_pairs", "_law_pairs", "_law_pairs", s_law_pairs, []⟩, ⟨.me "Ratio" "over", "over", "Ratio.over", s_Ratio_over, []⟩, ⟨.gl "_law_over", "_law_over", "_law_over", s_law_over, []⟩, ⟨.me "Ratio" "is_below", "is_below", "Ratio.is_below", s_Ratio_is_below, []⟩, ⟨.gl "_law_two_right", "_law_two_right", "_law_two_right", s_law_two_right, []⟩, ⟨.gl "is_list", "is_list", "is_list", s_is_list, []⟩, ⟨.gl "total_of", "total_of", "total_of", s_total_of, []⟩, ⟨.gl "want_number", "want_number", "want_number", s_want_number, []⟩, ⟨.cm "Ratio" "total", "total", "Ratio.total", s_Ratio_total, []⟩, ⟨.gl "_law_total", "_law_total", "_law_total", s_law_total, []⟩, ⟨.gl "_law_right", "_law_right", "_law_right", s_law_right, []⟩, ⟨.gl "_law_pot", "_law_pot", "_law_pot", s_law_pot, []⟩, ⟨.gl "law", "law", "law", s_law, []⟩]
def fx : List Fak := [.glo "is_integer", .glo "told_pair", .glo "common_part", .meth "Ratio" "__init__", .meth "Ratio" "__add__", .meth "Ratio" "__radd__", .meth "Ratio" "__mul__", .meth "Ratio" "__rmul__", .glo "_law_draw", .glo "_law_pick", .meth "Ratio" "__sub__", .meth "Ratio" "__rsub__", .meth "Ratio" "__eq__", .glo "_law_raw", .glo "_law_low", .prop "Ratio" "bottom", .prop "Ratio" "top", .glo "_law_pair", .glo "digits_of", .meth "Ratio" "__str__", .glo "_law_shown", .prop "Ratio" "is_whole", .prop "Ratio" "sign", .meth "Ratio" "size", .glo "is_count", .glo "is_number", .glo "ratio_of", .meth "Ratio" "is_at_most", .glo "is_share", .meth "Ratio" "__repr__", .meth "Ratio" "__neg__", .glo "_law_one_right", .glo "_law_sum", .glo "_law_by", .glo "_law_less", .glo "_law_pairs", .meth "Ratio" "over", .glo "_law_over", .meth "Ratio" "is_below", .glo "_law_two_right", .glo "is_list", .glo "total_of", .glo "want_number", .cmet "Ratio" "total", .glo "_law_total", .glo "_law_right", .glo "_law_pot", .glo "law", .cls "Ratio", .glo "Ratio", .noat "Ratio" "own_top", .noat "Ratio" "own_bottom", .crd "Ratio", .mkr "Ratio", .int "PART" 1000000000000000000000000000000000000000000000000000000000000, .free "isinstance", .free "int", .free "bool", .free "abs", .free "divmod", .free "len", .free "str", .free "repr", .free "list", .free "tuple", .free "range", .free "max"]
/-- where each stands -/
def adA (K : PySem.W.Frag) (i : Nat) : Addr := match fn[i]? with | some d => d.at_.ad K | none => 0
def adP (K : PySem.W.Frag) (i : Nat) : Addr := if i = 15 then rcA K "Ratio" "bottom" else if i = 16 then rcA K "Ratio" "top" else if i = 21 then rcA K "Ratio" "is_whole" else if i = 22 then rcA K "Ratio" "sign" else if i = 43 then rcA K "Ratio" "total" else 0
def adC (K : PySem.W.Frag) (i : Nat) : Addr := if i = 3 then He.ga K "Ratio" else 0
theorem txt {K : PySem.W.Frag} {h : Heap} {mg : Str → Option Value} (X : K.In h) (G : h.Ns mainGlobals mg) (c : SayX fx fn K) : ∃ FD : Nat → FuncData, Txt K mg (adA K) (adP K) (adC K) FD := by
  refine ⟨fun i => (c.fun_ i).choose, ?_⟩
  have hF := fun i => (c.fun_ i).choose_spec
  exact ⟨hF 0 _ rfl, He.glo_ok X G (c.fact 0 (f := .glo "is_integer") rfl), hF 1 _ rfl, He.glo_ok X G (c.fact 1 (f := .glo "told_pair") rfl), hF 2 _ rfl, He.glo_ok X G (c.fact 2 (f := .glo "common_part") rfl), hF 3 _ rfl, He.meth_ok (c.fact 3 (f := .meth "Ratio" "__init__") rfl), hF 4 _ rfl, He.meth_ok (c.fact 4 (f := .meth "Ratio" "__add__") rfl), hF 5 _ rfl, He.meth_ok (c.fact 5 (f := .meth "Ratio" "__radd__") rfl), hF 6 _ rfl, He.meth_ok (c.fact 6 (f := .meth "Ratio" "__mul__") rfl), hF 7 _ rfl, He.meth_ok (c.fact 7 (f := .meth "Ratio" "__rmul__") rfl), hF 8 _ rfl, He.glo_ok X G (c.fact 8 (f := .glo "_law_draw") rfl), hF 9 _ rfl, He.glo_ok X G (c.fact 9 (f := .glo "_law_pick") rfl), hF 10 _ rfl, He.meth_ok (c.fact 10 (f := .meth "Ratio" "__sub__") rfl), hF 11 _ rfl, He.meth_ok (c.fact 11 (f := .meth "Ratio" "__rsub__") rfl), hF 12 _ rfl, He.meth_ok (c.fact 12 (f := .meth "Ratio" "__eq__") rfl), hF 13 _ rfl, He.glo_ok X G (c.fact 13 (f := .glo "_law_raw") rfl), hF 14 _ rfl, He.glo_ok X G (c.fact 14 (f := .glo "_law_low") rfl), hF 15 _ rfl, prop_ok (c.fact 15 (f := .prop "Ratio" "bottom") rfl), hF 16 _ rfl, prop_ok (c.fact 16 (f := .prop "Ratio" "top") rfl), hF 17 _ rfl, He.glo_ok X G (c.fact 17 (f := .glo "_law_pair") rfl), hF 18 _ rfl, He.glo_ok X G (c.fact 18 (f := .glo "digits_of") rfl), hF 19 _ rfl, He.meth_ok (c.fact 19 (f := .meth "Ratio" "__str__") rfl), hF 20 _ rfl, He.glo_ok X G (c.fact 20 (f := .glo "_law_shown") rfl), hF 21 _ rfl, prop_ok (c.fact 21 (f := .prop "Ratio" "is_whole") rfl), hF 22 _ rfl, prop_ok (c.fact 22 (f := .prop "Ratio" "sign") rfl), hF 23 _ rfl, He.meth_ok (c.fact 23 (f := .meth "Ratio" "size") rfl), hF 24 _ rfl, He.glo_ok X G (c.fact 24 (f := .glo "is_count") rfl), hF 25 _ rfl, He.glo_ok X G (c.fact 25 (f := .glo "is_number") rfl), hF 26 _ rfl, He.glo_ok X G (c.fact 26 (f := .glo "ratio_of") rfl), hF 27 _ rfl, He.meth_ok (c.fact 27 (f := .meth "Ratio" "is_at_most") rfl), hF 28 _ rfl, He.glo_ok X G (c.fact 28 (f := .glo "is_share") rfl), hF 29 _ rfl, He.meth_ok (c.fact 29 (f := .meth "Ratio" "__repr__") rfl), hF 30 _ rfl, He.meth_ok (c.fact 30 (f := .meth "Ratio" "__neg__") rfl), hF 31 _ rfl, He.glo_ok X G (c.fact 31 (f := .glo "_law_one_right") rfl), hF 32 _ rfl, He.glo_ok X G (c.fact 32 (f := .glo "_law_sum") rfl), hF 33 _ rfl, He.glo_ok X G (c.fact 33 (f := .glo "_law_by") rfl), hF 34 _ rfl, He.glo_ok X G (c.fact 34 (f := .glo "_law_less") rfl), hF 35 _ rfl, He.glo_ok X G (c.fact 35 (f := .glo "_law_pairs") rfl), hF 36 _ rfl, He.meth_ok (c.fact 36 (f := .meth "Ratio" "over") rfl), hF 37 _ rfl, He.glo_ok X G (c.fact 37 (f := .glo "_law_over") rfl), hF 38 _ rfl, He.meth_ok (c.fact 38 (f := .meth "Ratio" "is_below") rfl), hF 39 _ rfl, He.glo_ok X G (c.fact 39 (f := .glo "_law_two_right") rfl), hF 40 _ rfl, He.glo_ok X G (c.fact 40 (f := .glo "is_list") rfl), hF 41 _ rfl, He.glo_ok X G (c.fact 41 (f := .glo "total_of") rfl), hF 42 _ rfl, He.glo_ok X G (c.fact 42 (f := .glo "want_number") rfl), hF 43 _ rfl, cmet_ok (c.fact 43 (f := .cmet "Ratio" "total") rfl), hF 44 _ rfl, He.glo_ok X G (c.fact 44 (f := .glo "_law_total") rfl), hF 45 _ rfl, He.glo_ok X G (c.fact 45 (f := .glo "_law_right") rfl), hF 46 _ rfl, He.glo_ok X G (c.fact 46 (f := .glo "_law_pot") rfl), hF 47 _ rfl, He.glo_ok X G (c.fact 47 (f := .glo "law") rfl), clsB_ok (c.fact 48 (f := .cls "Ratio") rfl), He.glo_ok X G (c.fact 49 (f := .glo "Ratio") rfl), He.noat_ok (c.fact 50 (f := .noat "Ratio" "own_top") rfl), He.noat_ok (c.fact 51 (f := .noat "Ratio" "own_bottom") rfl), crd_ok (c.fact 52 (f := .crd "Ratio") rfl), He.mkr_ok (c.fact 53 (f := .mkr "Ratio") rfl), He.int_ok X G (c.fact 54 (f := .int "PART" 1000000000000000000000000000000000000000000000000000000000000) rfl), He.free_ok X G (c.fact 55 (f := .free "isinstance") rfl), He.free_ok X G (c.fact 56 (f := .free "int") rfl), He.free_ok X G (c.fact 57 (f := .free "bool") rfl), He.free_ok X G (c.fact 58 (f := .free "abs") rfl), He.free_ok X G (c.fact 59 (f := .free "divmod") rfl), He.free_ok X G (c.fact 60 (f := .free "len") rfl), He.free_ok X G (c.fact 61 (f := .free "str") rfl), He.free_ok X G (c.fact 62 (f := .free "repr") rfl), He.free_ok X G (c.fact 63 (f := .free "list") rfl), He.free_ok X G (c.fact 64 (f := .free "tuple") rfl), He.free_ok X G (c.fact 65 (f := .free "range") rfl), He.free_ok X G (c.fact 66 (f := .free "max") rfl)⟩
abbrev R : PySem.W.OpenRow := PySem.W.OpenLaw.row PySem.Challenge.rw_onecrest_k11_ratios_reckoned
abbrev hk : PySem.W.Hook := hkX 9 fx fn
def ob (s : PySem.W.SharedT) : He.AlD := lookX 9 fx fn (HandSHeadRun.getT s)
def names : List Str := ["CrestError", "InvalidNumber", "DividedByZero", "is_integer", "is_count", "is_list", "PART", "digits_of", "common_part", "Ratio", "told_pair", "is_number", "ratio_of", "want_number", "is_share", "total_of", "_law_pot", "_law_draw", "_law_pick", "_law_low", "_law_sum", "_law_by", "_law_less", "_law_over", "_law_total", "_law_pair", "_law_pairs", "_law_shown", "_law_raw", "_law_one_right", "_law_two_right", "_law_right"]
theorem run (w : World) : HandSHeadRun.RunEq R (PySem.W.view R.prog [36]) hk ob 100000 names w := by
  intro os
  kernel_rfl
def lawLevel : Nat := 14
theorem facts {P : Program} {w : World} {K : PySem.W.Frag} {h : Heap} {mg : Str → Option Value} {f : Addr} (X : K.In h) (c : SayX fx fn K) (G : h.Ns mainGlobals mg) (hfa : mg ("law" : Str) = some (.ref f)) :
    ∃ (fd : FuncData) (g : DV.G), g.K = K ∧ (∀ (s : Shared) (u : Value), BindsTo s fd ⟨[u], []⟩ [("_law_script", u)]) ∧ ∀ base : Heap, K.In base → base.Ns mainGlobals mg → FnD P w K mg base true 14 f fd ["_law_script"] (spD g false 1 f_law) := by
  obtain ⟨FD, T⟩ := txt X G c
  have q := hfa.symm.trans T.g47
  cases q
  exact ⟨FD 47, gg K (adC K), rfl, fun s v => FunD.bindsA (ps := ["_law_script"]) T.F47 (fun _ _ _ _ _ _ us hl => match us, hl with | [_], _ => rfl) s [v] rfl, fun base _ _ => ok_law T⟩
end K11WE

open PySem PySem.W PySem.Calls PyProof.Rows
theorem PySem.Challenge.cw_onecrest_k11_ratios_reckoned_holds : PySem.Challenge.rw_onecrest_k11_ratios_reckoned.Holds := by
  w_on; o_law
  refine HandSHeadRun.head_any (r := OpenLaw.row PySem.Challenge.rw_onecrest_k11_ratios_reckoned) (q := view (OpenLaw.row PySem.Challenge.rw_onecrest_k11_ratios_reckoned).prog [36]) (H := K11WE.hk) (ob := K11WE.ob) (M := 100000) (loose := K11WE.names) (d := HandSHeadRun.topDef (OpenLaw.row PySem.Challenge.rw_onecrest_k11_ratios_reckoned).prog 36) (kwd := []) (fun s => DV.lookX_eq)
    (by kernel_rfl) (fun s => by kernel_rfl) K11WE.run (by kernel_rfl) (by kernel_rfl) (by kernel_rfl) (by rfl) (by first | assumption | decide +kernel) (by decide +kernel) ⟨rfl, rfl, rfl, rfl, rfl, by decide +kernel⟩ ?hw ?hc
  case hw => w_witness2
  case hc =>
    refine DV.walk_X (l := PySem.Challenge.rw_onecrest_k11_ratios_reckoned) (n := 63) (k := K11WE.lawLevel) (x := "_law_script") (sem := K11D.f_law) rfl (by decide) (by kernel_rfl) ⟨rfl, by decide, by decide⟩ ?F (fun ns _ => K11M.law_sem ns)
    intro w mg fa h K X c G hmg
    have hm : mg ("law" : PySem.Str) = some (.ref fa) := by
      have q : (HandSHeadRun.topDef (OpenLaw.row PySem.Challenge.rw_onecrest_k11_ratios_reckoned).prog 36).name = ("law" : PySem.Str) := by kernel_rfl
      rw [← q]
      exact hmg
    exact K11WE.facts X c G hm
