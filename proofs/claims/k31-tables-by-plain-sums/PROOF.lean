import PyProof.Rows.All
import Wide.All
import OpenK.AllK
import Wide.FinOn
import HandS.Base
import HandS.Call
import HandS.List
import HandS.Comp
import HandS.Ends
import HandS.Words
import HandS.Wide
import HandS.IsInst
import HandS.Style
import HandS.FStr
import HandS.RaiseMore
import HandS.TupAny
import PyProof.StrOps2
import HandS.Iter
import HandS.Codes
import KE.KOpsOwn
import KE.KCallOwn
import PyProof.InstNe
import PyProof.TwoTypes
import HandS.Property
import HandS.ClsMeth
import HandS.MakeKwOnly
import HandS.Defaults
import HandS.MakeKw
import KE.KStateDown
import HandS.Head2
import HandS.HeadHook2
import HandS.Zip
import HandS.OwnEq
import HandS.Dict
import PySem.Challenge.RW_onecrest_k31_tables_by_plain_sums
set_option Elab.async false
set_option maxRecDepth 100000
set_option maxHeartbeats 4000000
/-! DV1: deep values D, how they stand in a heap (Rep), states (St1), freezing. -/
namespace DV
open PySem L2

inductive D where
  | und | non | bl (b : Bool) | int (i : Int) | str (x : Str) | ty (n : String) | cls (c : Nat)
  | tup (xs : List D) | lst (xs : List D) | con (xs : List D) | own (xs : List D)
  | ins (c : Nat) (ds : List D)
  | obj (c : Nat) (ds : List D)
  | dic (ks : List Key) (xs : List D) | odc (ks : List Key) (xs : List D)
  | dit (ks : List (List Key)) (xs : List D) | odt (ks : List (List Key)) (xs : List D)

mutual
/-- own lists become plain ones -/
def fz : D → D
  | .own xs => .lst (fzs xs)
  | .obj c xs => .ins c (fzs xs)
  | .odc ks xs => .dic ks (fzs xs)
  | .odt ks xs => .dit ks (fzs xs)
  | .dic ks xs => .dic ks xs
  | .dit ks xs => .dit ks xs
  | .und => .und
  | .non => .non
  | .bl b => .bl b
  | .int i => .int i
  | .str x => .str x
  | .ty n => .ty n
  | .cls c => .cls c
  | .tup xs => .tup xs
  | .lst xs => .lst xs
  | .con xs => .con xs
  | .ins c xs => .ins c xs
def fzs : List D → List D
  | [] => []
  | d :: r => fz d :: fzs r
end
theorem fzs_map : ∀ xs : List D, fzs xs = xs.map fz
  | [] => rfl
  | d :: r => by rw [fzs, fzs_map r, List.map_cons]

/-- what the representation leans on: the written part, the classes of the text by name -/
structure G where
  K : PySem.W.Frag
  cls : Nat → Option Addr
  flds : Nat → List Str

/-- a tuple: tracked, or of the written part -/
def TpAt (K : PySem.W.Frag) (H : Hp) (a : Addr) (xs : List V) : Prop :=
  H a = some (.tup xs) ∨ ∃ (o : Obj) (its : Array Value) (n : Nat), K.lookup a = some o ∧ o.cls = .type "tuple" ∧ o.data = .seq its n ∧ its.size ≤ sizeLine ∧ Vals xs its.toList
theorem TpAt.sq {K : PySem.W.Frag} {H : Hp} {a : Addr} {xs : List V} (h : TpAt K H a xs) : SqT K H a xs := h.elim (fun h => SqT.of h) .inr
theorem TpAt.same {K : PySem.W.Frag} {H H' : Hp} {a : Addr} {xs : List V} (e : Same H H') (h : TpAt K H a xs) : TpAt K H' a xs := h.elim (fun h => .inl (e _ _ h)) .inr

mutual
inductive Rep (g : G) (I H : Hp) : D → V → List Addr → Prop
  | non : Rep g I H .non .non []
  | bl {b} : Rep g I H (.bl b) (.bl b) []
  | int {i} : Rep g I H (.int i) (.int i) []
  | str {x} : Rep g I H (.str x) (.str x) []
  | ty {n} : Rep g I H (.ty n) (.ty n) []
  | cls {c C} : g.cls c = some C → Rep g I H (.cls c) (.ref C) []
  | tup {a ds vs} : TpAt g.K I a vs → Reps g I H ds vs [] → Rep g I H (.tup ds) (.ref a) []
  | lst {a ds vs} : I a = some (.lst vs) → Reps g I H ds vs [] → Rep g I H (.lst ds) (.ref a) []
  | con {a ds vs} : SqL g.K I a vs → Reps g I H ds vs [] → Rep g I H (.con ds) (.ref a) []
  | own {a ds vs f} : H a = some (.lst vs) → Reps g I H ds vs f → Rep g I H (.own ds) (.ref a) (a :: f)
  | ins {c C a dx ds vs} : g.cls c = some C → I a = some (.ins C dx ((g.flds c).zip vs)) → Reps g I H ds vs [] → Rep g I H (.ins c ds) (.ref a) []
  | obj {c C a dx ds vs f} : g.cls c = some C → H a = some (.ins C dx ((g.flds c).zip vs)) → H dx = some (.own a) → ds.length ≤ (g.flds c).length → Reps g I H ds vs f → Rep g I H (.obj c ds) (.ref a) (a :: dx :: f)
  | dic {a ks ds vs} : I a = some (.dK (ks.zip vs)) → ks.length = vs.length → Reps g I H ds vs [] → Rep g I H (.dic ks ds) (.ref a) []
  | odc {a ks ds vs f} : H a = some (.dK (ks.zip vs)) → ks.length = vs.length → Reps g I H ds vs f → Rep g I H (.odc ks ds) (.ref a) (a :: f)
  | dit {a ks ds vs} : I a = some (.dT (ks.zip vs)) → ks.length = vs.length → Reps g I H ds vs [] → Rep g I H (.dit ks ds) (.ref a) []
  | odt {a ks ds vs f} : H a = some (.dT (ks.zip vs)) → ks.length = vs.length → Reps g I H ds vs f → Rep g I H (.odt ks ds) (.ref a) (a :: f)
inductive Reps (g : G) (I H : Hp) : List D → List V → List Addr → Prop
  | nil : Reps g I H [] [] []
  | cons {d v ds vs f1 f2} : Rep g I H d v f1 → Reps g I H ds vs f2 → Reps g I H (d :: ds) (v :: vs) (f1 ++ f2)
end

inductive Slots (g : G) (I H : Hp) : List D → St → List Addr → Prop
  | nil : Slots g I H [] [] []
  | und {ov ρ σ F} : Slots g I H ρ σ F → Slots g I H (.und :: ρ) (ov :: σ) F
  | cons {d v ρ σ f F} : Rep g I H d v f → Slots g I H ρ σ F → Slots g I H (d :: ρ) (some v :: σ) (f ++ F)

theorem same_seqT {K : PySem.W.Frag} {H H' : Hp} {a : Addr} {xs : List V} (e : Same H H') (h : SqT K H a xs) : SqT K H' a xs := by
  rcases h with (h | ⟨o, h⟩) | h
  · exact .inl (.inl (e _ _ h))
  · exact .inl (.inr ⟨o, e _ _ h⟩)
  · exact .inr h

section
variable {g : G} {I I' H H' : Hp}

mutual
theorem Rep.mono (si : Same I I') : ∀ {d : D} {v : V} {f : List Addr}, Rep g I H d v f → (∀ b ∈ f, H' b = H b) → Rep g I' H' d v f
  | _, _, _, .non, _ => .non
  | _, _, _, .bl, _ => .bl
  | _, _, _, .int, _ => .int
  | _, _, _, .str, _ => .str
  | _, _, _, .ty, _ => .ty
  | _, _, _, .cls c, _ => .cls c
  | _, _, _, .tup h r, k => .tup (TpAt.same si h) (Reps.mono si r (fun b hb => by cases hb))
  | _, _, _, .lst h r, k => .lst (si _ _ h) (Reps.mono si r (fun b hb => by cases hb))
  | _, _, _, .con h r, k => .con (Same.seq si h) (Reps.mono si r (fun b hb => by cases hb))
  | _, _, _, .own h r, k => .own ((k _ (List.mem_cons_self ..)).trans h) (Reps.mono si r fun b hb => k b (List.mem_cons_of_mem _ hb))
  | _, _, _, .ins c h r, k => .ins c (si _ _ h) (Reps.mono si r (fun b hb => by cases hb))
  | _, _, _, .obj c h h2 l r, k => .obj c ((k _ (by simp)).trans h) ((k _ (by simp)).trans h2) l (Reps.mono si r fun b hb => k b (by simp [hb]))
  | _, _, _, .dic h l r, k => .dic (si _ _ h) l (Reps.mono si r (fun b hb => by cases hb))
  | _, _, _, .dit h l r, k => .dit (si _ _ h) l (Reps.mono si r (fun b hb => by cases hb))
  | _, _, _, .odc h l r, k => .odc ((k _ (List.mem_cons_self ..)).trans h) l (Reps.mono si r fun b hb => k b (List.mem_cons_of_mem _ hb))
  | _, _, _, .odt h l r, k => .odt ((k _ (List.mem_cons_self ..)).trans h) l (Reps.mono si r fun b hb => k b (List.mem_cons_of_mem _ hb))
theorem Reps.mono (si : Same I I') : ∀ {ds : List D} {vs : List V} {f : List Addr}, Reps g I H ds vs f → (∀ b ∈ f, H' b = H b) → Reps g I' H' ds vs f
  | _, _, _, .nil, _ => .nil
  | _, _, _, .cons h r, k => .cons (Rep.mono si h fun b hb => k b (List.mem_append_left _ hb)) (Reps.mono si r fun b hb => k b (List.mem_append_right _ hb))
end

theorem Slots.mono (si : Same I I') : ∀ {ρ : List D} {σ : St} {f : List Addr}, Slots g I H ρ σ f → (∀ b ∈ f, H' b = H b) → Slots g I' H' ρ σ f
  | _, _, _, .nil, _ => .nil
  | _, _, _, .und r, k => .und (Slots.mono si r k)
  | _, _, _, .cons h r, k => .cons (h.mono si fun b hb => k b (List.mem_append_left _ hb)) (Slots.mono si r fun b hb => k b (List.mem_append_right _ hb))

mutual
/-- the addresses of own parts stand in the heap -/
theorem Rep.there : ∀ {d : D} {v : V} {f : List Addr}, Rep g I H d v f → ∀ b ∈ f, ∃ o, H b = some o
  | _, _, _, .own h r, b, hb => by
    rcases List.mem_cons.mp hb with rfl | hb
    · exact ⟨_, h⟩
    · exact Reps.there r b hb
  | _, _, _, .non, b, hb => by cases hb
  | _, _, _, .bl, b, hb => by cases hb
  | _, _, _, .int, b, hb => by cases hb
  | _, _, _, .str, b, hb => by cases hb
  | _, _, _, .ty, b, hb => by cases hb
  | _, _, _, .cls _, b, hb => by cases hb
  | _, _, _, .tup _ _, b, hb => by cases hb
  | _, _, _, .lst _ _, b, hb => by cases hb
  | _, _, _, .con _ _, b, hb => by cases hb
  | _, _, _, .ins _ _ _, b, hb => by cases hb
  | _, _, _, .obj _ h h2 _ r, b, hb => by
    rcases List.mem_cons.mp hb with rfl | hb
    · exact ⟨_, h⟩
    · rcases List.mem_cons.mp hb with rfl | hb
      · exact ⟨_, h2⟩
      · exact Reps.there r b hb
  | _, _, _, .dic _ _ _, b, hb => by cases hb
  | _, _, _, .dit _ _ _, b, hb => by cases hb
  | _, _, _, .odc h _ r, b, hb => by
    rcases List.mem_cons.mp hb with rfl | hb
    · exact ⟨_, h⟩
    · exact Reps.there r b hb
  | _, _, _, .odt h _ r, b, hb => by
    rcases List.mem_cons.mp hb with rfl | hb
    · exact ⟨_, h⟩
    · exact Reps.there r b hb
theorem Reps.there : ∀ {ds : List D} {vs : List V} {f : List Addr}, Reps g I H ds vs f → ∀ b ∈ f, ∃ o, H b = some o
  | _, _, _, .nil, b, hb => by cases hb
  | _, _, _, .cons h r, b, hb => (List.mem_append.mp hb).elim (Rep.there h b) (Reps.there r b)
end
theorem Slots.there : ∀ {ρ : List D} {σ : St} {f : List Addr}, Slots g I H ρ σ f → ∀ b ∈ f, ∃ o, H b = some o
  | _, _, _, .nil, b, hb => by cases hb
  | _, _, _, .und r, b, hb => Slots.there r b hb
  | _, _, _, .cons h r, b, hb => (List.mem_append.mp hb).elim (h.there b) (Slots.there r b)

mutual
/-- freezing: the own parts are taken into the fixed part -/
theorem Rep.fz (si : Same I I') : ∀ {d : D} {v : V} {f : List Addr}, Rep g I H d v f → (∀ b ∈ f, I' b = H b) → Rep g I' H' (fz d) v []
  | _, _, _, .non, _ => by unfold DV.fz; exact .non
  | _, _, _, .bl, _ => by unfold DV.fz; exact .bl
  | _, _, _, .int, _ => by unfold DV.fz; exact .int
  | _, _, _, .str, _ => by unfold DV.fz; exact .str
  | _, _, _, .ty, _ => by unfold DV.fz; exact .ty
  | _, _, _, .cls c, _ => by unfold DV.fz; exact .cls c
  | _, _, _, .tup h r, k => by unfold DV.fz; exact .tup (TpAt.same si h) (Reps.mono si r (fun b hb => by cases hb))
  | _, _, _, .lst h r, k => by unfold DV.fz; exact .lst (si _ _ h) (Reps.mono si r (fun b hb => by cases hb))
  | _, _, _, .con h r, k => by unfold DV.fz; exact .con (Same.seq si h) (Reps.mono si r (fun b hb => by cases hb))
  | _, _, _, .own h r, k => by
    unfold DV.fz
    rw [fzs_map]
    exact .lst ((k _ (List.mem_cons_self ..)).trans h) (Reps.fz si r fun b hb => k b (List.mem_cons_of_mem _ hb))
  | _, _, _, .ins c h r, k => by unfold DV.fz; exact .ins c (si _ _ h) (Reps.mono si r (fun b hb => by cases hb))
  | _, _, _, .obj c h h2 l r, k => by
    unfold DV.fz
    rw [fzs_map]
    exact .ins c ((k _ (by simp)).trans h) (Reps.fz si r fun b hb => k b (by simp [hb]))
  | _, _, _, .dic h l r, k => by unfold DV.fz; exact .dic (si _ _ h) l (Reps.mono si r (fun b hb => by cases hb))
  | _, _, _, .dit h l r, k => by unfold DV.fz; exact .dit (si _ _ h) l (Reps.mono si r (fun b hb => by cases hb))
  | _, _, _, .odc h l r, k => by
    unfold DV.fz
    rw [fzs_map]
    exact .dic ((k _ (List.mem_cons_self ..)).trans h) l (Reps.fz si r fun b hb => k b (List.mem_cons_of_mem _ hb))
  | _, _, _, .odt h l r, k => by
    unfold DV.fz
    rw [fzs_map]
    exact .dit ((k _ (List.mem_cons_self ..)).trans h) l (Reps.fz si r fun b hb => k b (List.mem_cons_of_mem _ hb))
theorem Reps.fz (si : Same I I') : ∀ {ds : List D} {vs : List V} {f : List Addr}, Reps g I H ds vs f → (∀ b ∈ f, I' b = H b) → Reps g I' H' (ds.map DV.fz) vs []
  | _, _, _, .nil, _ => .nil
  | _, _, _, .cons h r, k => .cons (f1 := []) (f2 := []) (Rep.fz si h fun b hb => k b (List.mem_append_left _ hb)) (Reps.fz si r fun b hb => k b (List.mem_append_right _ hb))
end

theorem Reps.length : ∀ {ds : List D} {vs : List V} {f : List Addr}, Reps g I H ds vs f → ds.length = vs.length
  | _, _, _, .nil => rfl
  | _, _, _, .cons _ r => by simp [Reps.length r]
theorem Slots.length : ∀ {ρ : List D} {σ : St} {f : List Addr}, Slots g I H ρ σ f → ρ.length = σ.length
  | _, _, _, .nil => rfl
  | _, _, _, .und r => by simp [Slots.length r]
  | _, _, _, .cons _ r => by simp [Slots.length r]

theorem Reps.append : ∀ {ds : List D} {vs : List V} {f : List Addr} {ds' : List D} {vs' : List V} {f' : List Addr}, Reps g I H ds vs f → Reps g I H ds' vs' f' → Reps g I H (ds ++ ds') (vs ++ vs') (f ++ f')
  | _, _, _, _, _, _, .nil, h => h
  | _, _, _, _, _, _, .cons h r, h' => by rw [List.append_assoc]; exact .cons h (Reps.append r h')
theorem Reps.split : ∀ {ds : List D} {ds' : List D} {ws : List V} {F : List Addr}, Reps g I H (ds ++ ds') ws F →
    ∃ vs vs' f f', ws = vs ++ vs' ∧ F = f ++ f' ∧ Reps g I H ds vs f ∧ Reps g I H ds' vs' f'
  | [], ds', ws, F, h => ⟨[], ws, [], F, rfl, rfl, .nil, h⟩
  | d :: ds, ds', _, _, .cons h r => by
    obtain ⟨vs, vs', f, f', rfl, rfl, h1, h2⟩ := Reps.split r
    exact ⟨_ :: vs, vs', _ ++ f, f', rfl, (List.append_assoc ..).symm, .cons h h1, h2⟩
theorem Reps.one {d : D} {v : V} {f : List Addr} (h : Rep g I H d v f) : Reps g I H [d] [v] f := by
  have := Reps.cons h (Reps.nil (g := g) (I := I) (H := H))
  rwa [List.append_nil] at this
theorem Reps.one_inv {d : D} {vs : List V} {f : List Addr} (h : Reps g I H [d] vs f) : ∃ v, vs = [v] ∧ Rep g I H d v f := by
  cases h with
  | cons h r => cases r; exact ⟨_, rfl, by rw [List.append_nil]; exact h⟩
/-- the parts of two lists whose values' ends are told -/
theorem Reps.split' {ds ds' : List D} {vs vs' : List V} {F : List Addr} (h : Reps g I H (ds ++ ds') (vs ++ vs') F) (hl : ds'.length = vs'.length) :
    ∃ f f', F = f ++ f' ∧ Reps g I H ds vs f ∧ Reps g I H ds' vs' f' := by
  obtain ⟨ws, ws', f, f', e, rfl, h1, h2⟩ := Reps.split h
  have e2 : vs'.length = ws'.length := by rw [← hl]; exact h2.length
  obtain ⟨rfl, rfl⟩ := List.append_inj' e e2
  exact ⟨f, f', rfl, h1, h2⟩

theorem Slots.at : ∀ {ρ : List D} {σ : St} {F : List Addr} {i : Nat} {d : D}, Slots g I H ρ σ F → ρ[i]? = some d → d ≠ .und →
    ∃ v A f B, σ[i]? = some (some v) ∧ F = A ++ (f ++ B) ∧ Rep g I H d v f ∧ ∀ {I' H' : Hp} {d' : D} {v' : V} {f' : List Addr}, Same I I' → (∀ b ∈ A ++ B, H' b = H b) → Rep g I' H' d' v' f' → Slots g I' H' (ρ.set i d') (σ.set i (some v')) (A ++ (f' ++ B))
  | _, _, _, 0, d, .und r, e, n => by
    have e1 : D.und = d := by simpa using e
    exact absurd e1.symm n
  | _, _, _, 0, d, .cons (v := v) (f := f) (F := F) h r, e, n => by
    have e1 := Option.some.inj (show some _ = some d from e)
    subst e1
    exact ⟨v, [], f, F, rfl, rfl, h, fun si k h' => by rw [List.nil_append]; exact .cons h' (r.mono si k)⟩
  | _, _, _, i + 1, d, .und r, e, n => by
    obtain ⟨v, A, f, B, e1, rfl, h, k⟩ := Slots.at (i := i) (d := d) r (by simpa using e) n
    exact ⟨v, A, f, B, by simpa using e1, rfl, h, fun si q h' => .und (k si q h')⟩
  | _, _, _, i + 1, d, .cons (v := w) (f := fa) h0 r, e, n => by
    obtain ⟨v, A, f, B, e1, rfl, h, k⟩ := Slots.at (i := i) (d := d) r (by simpa using e) n
    refine ⟨v, fa ++ A, f, B, by simpa using e1, (List.append_assoc ..).symm, h, fun si q h' => ?_⟩
    have := Slots.cons (h0.mono si fun b hb => q b (by simp [hb])) (k si (fun b hb => q b (by simp only [List.append_assoc, List.mem_append] at hb ⊢; exact .inr hb)) h')
    rw [List.append_assoc]
    exact this
/-- a slot given a new value; what it held is let go -/
theorem Slots.put : ∀ {ρ : List D} {σ : St} {F : List Addr} (i : Nat), i < ρ.length → Slots g I H ρ σ F →
    ∃ A f B, F = A ++ (f ++ B) ∧ ∀ {I' H' : Hp} {d' : D} {v' : V} {f' : List Addr}, Same I I' → (∀ b ∈ A ++ B, H' b = H b) → Rep g I' H' d' v' f' → Slots g I' H' (ρ.set i d') (σ.set i (some v')) (A ++ (f' ++ B))
  | _, _, F, 0, _, .und r => ⟨[], [], F, rfl, fun si k h => by rw [List.nil_append]; exact Slots.cons h (r.mono si k)⟩
  | _, _, _, 0, _, .cons (f := f) (F := F) h r => ⟨[], f, F, rfl, fun si k h => by rw [List.nil_append]; exact Slots.cons h (r.mono si k)⟩
  | _, _, _, i + 1, l, .und r => by
    obtain ⟨A, f, B, rfl, k⟩ := Slots.put i (by simpa using l) r
    exact ⟨A, f, B, rfl, fun si q h => .und (k si q h)⟩
  | _, _, _, i + 1, l, .cons (f := fa) h0 r => by
    obtain ⟨A, f, B, rfl, k⟩ := Slots.put i (by simpa using l) r
    refine ⟨fa ++ A, f, B, (List.append_assoc ..).symm, fun si q h => ?_⟩
    rw [List.append_assoc]
    exact .cons (h0.mono si fun b hb => q b (by simp [hb])) (k si (fun b hb => q b (by simp only [List.append_assoc, List.mem_append] at hb ⊢; exact .inr hb)) h)
  | _, _, _, 0, l, .nil => absurd l (by simp)
  | _, _, _, i + 1, l, .nil => absurd l (by simp)
end
end DV

set_option Elab.async false
set_option maxRecDepth 100000
set_option maxHeartbeats 4000000
/-! DV2: states, what an expression is worth on deep values (SndE), names, constants, displays. -/
namespace DV
open PySem L2

/-- the entry of a def: what stood, what is handed in to be changed -/
structure Bs where
  I0 : Hp
  H0 : Hp
  F0 : List Addr

/-- I: what is fixed (a part of H); ρ over the slots σ; ts over the values vs that are in work -/
structure StP (g : G) (B : Bs) (I H : Hp) (ρ : List D) (σ : St) (ts : List D) (vs : List V) : Prop where
  reps : ∃ F1 F2, Slots g I H ρ σ F1 ∧ Reps g I H ts vs F2 ∧ (F1 ++ F2).Nodup ∧ (∀ b ∈ F1 ++ F2, I b = none) ∧ ∀ b ∈ F1 ++ F2, B.H0 b ≠ none → b ∈ B.F0
  same : Same I H
  keep : Same B.I0 I
  frH : ∀ b o, B.H0 b = some o → b ∉ B.F0 → H b = some o
  frI : ∀ b, B.H0 b ≠ none → b ∉ B.F0 → B.I0 b = none → I b = none
  dom : ∀ b, B.H0 b ≠ none → H b ≠ none

section
variable {g : G} {B : Bs} {I I' H H' : Hp} {ρ ρ' : List D} {σ σ' : St} {ts ts' ds : List D} {vs vs' ws : List V}

theorem StP.step (h : StP g B I H ρ σ ts vs) {F : List Addr} (hF : ∀ b ∈ F, B.H0 b ≠ none → b ∈ B.F0) (si : Same I I') (sh : Same I' H')
    (kh : ∀ b o, H b = some o → b ∉ F → H' b = some o) (kd : ∀ b, b ∈ F → H b ≠ none → H' b ≠ none) (ki : ∀ b, I b = none → H b ≠ none → b ∉ F → I' b = none)
    (new : ∃ F1 F2, Slots g I' H' ρ' σ' F1 ∧ Reps g I' H' ts' vs' F2 ∧ (F1 ++ F2).Nodup ∧ ∀ b ∈ F1 ++ F2, I' b = none ∧ (b ∈ F ∨ H b = none)) : StP g B I' H' ρ' σ' ts' vs' := by
  obtain ⟨F1, F2, h1, h2, nd, of⟩ := new
  refine ⟨⟨F1, F2, h1, h2, nd, fun b hb => (of b hb).1, fun b hb z => ?_⟩, sh, fun b o e => si b o (h.keep b o e), fun b o e n => ?_, fun b z n e => ?_, fun b z => ?_⟩
  · rcases (of b hb).2 with q | q
    · exact hF b q z
    · exact absurd q (h.dom b z)
  · exact kh b o (h.frH b o e n) fun q => n (hF b q (by rw [e]; simp))
  · exact ki b (h.frI b z n e) (h.dom b z) fun q => n (hF b q z)
  · by_cases q : b ∈ F
    · exact kd b q (h.dom b z)
    · have := h.dom b z
      cases e : H b with
      | none => exact absurd e this
      | some o => rw [kh b o e q]; simp

theorem Same.updN {H : Hp} {p : Addr} {o : HO} (n : H p = none) : Same H (upd H p o) := fun b u e => by rw [upd_ne (ne_of_none e n)]; exact e
/-- what is fixed, with the parts at f taken in -/
def tk (I H : Hp) (f : List Addr) : Hp := fun b => if b ∈ f then H b else I b
theorem tk_in {f : List Addr} {b : Addr} (h : b ∈ f) : tk I H f b = H b := if_pos h
theorem tk_out {f : List Addr} {b : Addr} (h : b ∉ f) : tk I H f b = I b := if_neg h
theorem tk_same {f : List Addr} (n : ∀ b ∈ f, I b = none) : Same I (tk I H f) := fun b o e => by
  by_cases q : b ∈ f
  · rw [n b q] at e; cases e
  · rw [tk_out q]; exact e
theorem tk_sub {f : List Addr} (s : Same I H) : Same (tk I H f) H := fun b o e => by
  by_cases q : b ∈ f
  · rw [tk_in q] at e; exact e
  · rw [tk_out q] at e; exact s b o e

/-- a fixed value more -/
theorem StP.push {d : D} {v : V} (h : StP g B I H ρ σ ts vs) (r : Rep g I H d v []) : StP g B I H ρ σ (ts ++ [d]) (vs ++ [v]) := by
  obtain ⟨F1, F2, h1, h2, nd, of, hF⟩ := h.reps
  exact h.step hF (Same.refl _) h.same (fun _ _ e _ => e) (fun _ _ z => z) (fun _ z _ _ => z) ⟨F1, F2, h1, by simpa using h2.append (Reps.one r), nd, fun b hb => ⟨of b hb, .inl hb⟩⟩
/-- the last values are let go -/
theorem StP.pop (h : StP g B I H ρ σ (ts ++ ds) (vs ++ ws)) (hl : ds.length = ws.length) : StP g B I H ρ σ ts vs := by
  obtain ⟨F1, F2, h1, h2, nd, of, hF⟩ := h.reps
  obtain ⟨f, f', rfl, r1, r2⟩ := h2.split' hl
  refine h.step hF (Same.refl _) h.same (fun _ _ e _ => e) (fun _ _ z => z) (fun _ z _ _ => z) ⟨F1, f, h1, r1, ?_, fun b hb => ⟨of b ?_, .inl ?_⟩⟩
  · grind
  · grind
  · grind
/-- the last values are frozen -/
theorem StP.fzTop (h : StP g B I H ρ σ (ts ++ ds) (vs ++ ws)) (hl : ds.length = ws.length) : ∃ I', Same I I' ∧ StP g B I' H ρ σ (ts ++ ds.map fz) (vs ++ ws) ∧ Reps g I' H (ds.map fz) ws [] := by
  obtain ⟨F1, F2, h1, h2, nd, of, hF⟩ := h.reps
  obtain ⟨f, f', rfl, r1, r2⟩ := h2.split' hl
  have n' : ∀ b ∈ f', I b = none := fun b hb => of b (by grind)
  have si := tk_same (H := H) n'
  have rr : Reps g (tk I H f') H (ds.map fz) ws [] := r2.fz si fun b hb => tk_in hb
  refine ⟨tk I H f', si, h.step hF si (tk_sub h.same) (fun _ _ e _ => e) (fun _ _ z => z) (fun b z _ n => ?_) ⟨F1, f, h1.mono si fun _ _ => rfl, ?_, ?_, fun b hb => ?_⟩, rr⟩
  · rw [tk_out (by grind)]; exact z
  · simpa using (r1.mono si fun _ _ => rfl).append rr
  · grind
  · have : b ∉ f' := by grind
    rw [tk_out this]
    exact ⟨of b (by grind), .inl (by grind)⟩
/-- a new fixed object -/
theorem StP.laidI {p : Addr} {o : HO} (h : StP g B I H ρ σ ts vs) (n : H p = none) : StP g B (upd I p o) (upd H p o) ρ σ ts vs := by
  obtain ⟨F1, F2, h1, h2, nd, of, hF⟩ := h.reps
  have nI : I p = none := h.same.free n
  have np : ∀ b ∈ F1 ++ F2, b ≠ p := fun b hb z => by
    subst z
    rcases List.mem_append.mp hb with q | q
    · obtain ⟨o, e⟩ := h1.there b q; rw [n] at e; cases e
    · obtain ⟨o, e⟩ := h2.there b q; rw [n] at e; cases e
  refine h.step hF (Same.updN nI) ?_ (fun b u e _ => Same.updN n b u e) (fun b q z => by rw [upd_ne (np b q)]; exact z) (fun b z w _ => ?_) ⟨F1, F2, h1.mono (Same.updN nI) fun b hb => upd_ne (np b (by grind)), h2.mono (Same.updN nI) fun b hb => upd_ne (np b (by grind)), nd, fun b hb => ⟨by rw [upd_ne (np b hb)]; exact of b hb, .inl hb⟩⟩
  · intro b u e
    by_cases q : b = p
    · subst q; rw [upd_same] at e ⊢; exact e
    · rw [upd_ne q] at e ⊢; exact h.same b u e
  · rw [upd_ne (fun z => by subst z; exact w n)]; exact z
/-- a new list, made of the last values -/
theorem StP.laidL {p : Addr} (h : StP g B I H ρ σ (ts ++ ds) (vs ++ ws)) (hl : ds.length = ws.length) (n : H p = none) : StP g B I (upd H p (.lst ws)) ρ σ (ts ++ [.own ds]) (vs ++ [.ref p]) := by
  obtain ⟨F1, F2, h1, h2, nd, of, hF⟩ := h.reps
  obtain ⟨f, f', rfl, r1, r2⟩ := h2.split' hl
  have nI : I p = none := h.same.free n
  have np : ∀ b ∈ F1 ++ (f ++ f'), b ≠ p := fun b hb z => by
    subst z
    rcases List.mem_append.mp hb with q | q
    · obtain ⟨o, e⟩ := h1.there b q; rw [n] at e; cases e
    · obtain ⟨o, e⟩ := h2.there b q; rw [n] at e; cases e
  have kk : ∀ b ∈ F1 ++ (f ++ f'), upd H p (.lst ws) b = H b := fun b hb => upd_ne (np b hb)
  refine h.step hF (Same.refl _) (fun b u e => Same.updN n b u (h.same b u e)) (fun b u e _ => Same.updN n b u e) (fun b q z => by rw [kk b q]; exact z) (fun _ z _ _ => z) ⟨F1, f ++ (p :: f'), h1.mono (Same.refl _) fun b hb => kk b (by grind), ?_, ?_, fun b hb => ?_⟩
  · exact (r1.mono (Same.refl _) fun b hb => kk b (by grind)).append (Reps.one (.own upd_same (r2.mono (Same.refl _) fun b hb => kk b (by grind))))
  · have : p ∉ F1 ++ (f ++ f') := fun z => np p z rfl
    grind
  · by_cases q : b = p
    · subst q; exact ⟨nI, .inr n⟩
    · have : b ∈ F1 ++ (f ++ f') := by grind
      exact ⟨of b this, .inl this⟩
end

/-! ### expressions -/
/-- the weakest reading of an expression, of arguments -/
structure mx (X : Cx) (e : Expr) (σ : L2.St) (H : Hp) (Q : VK) : Prop where
  run : ∀ (pins : List (Addr × Obj)) (s : Shared), Inv X pins σ H s → wpAny (model X.prog X.w) X.A (eval e X.env) (EP X pins σ Q) X.xe s
theorem pe_mx {X : Cx} {e : Expr} : PE X e (mx X e) := ⟨fun pins s _ _ _ I h => h.run pins s I⟩
theorem mx_of {X : Cx} {e : Expr} {t : TE} (h : PE X e t) {σ : St} {H : Hp} {Q : VK} (k : t σ H Q) : mx X e σ H Q := ⟨fun pins s I => h.run pins s σ H Q I k⟩
structure mxA (X : Cx) (es : List Expr) (σ : L2.St) (H : Hp) (Q : List V → Hp → Prop) : Prop where
  run : ∀ (pos : Pos) (pins : List (Addr × Obj)) (s : Shared), Inv X pins σ H s → wpAny (model X.prog X.w) X.A (spliced (backTo pos (starEach es X.env))) (AP X pins σ Q) X.xe s
theorem pa_mx {X : Cx} {es : List Expr} : PA X es (mxA X es) := ⟨fun pos pins s _ _ _ I h => h.run pos pins s I⟩
theorem mxA_of {X : Cx} {es : List Expr} {t : TA} (h : PA X es t) {σ : St} {H : Hp} {Q : List V → Hp → Prop} (k : t σ H Q) : mxA X es σ H Q := ⟨fun pos pins s I => h.run pos pins s σ H Q I k⟩
structure mxT (X : Cx) (e : Expr) (σ : L2.St) (H : Hp) (Q : Bool → Hp → Prop) : Prop where
  run : ∀ (pins : List (Addr × Obj)) (s : Shared), Inv X pins σ H s → wpAny (model X.prog X.w) X.A (isTrue e X.env (eval e X.env)) (TP X pins σ Q) X.xe s
theorem pt_mx {X : Cx} {e : Expr} : PT X e (mxT X e) := ⟨fun pins s _ _ _ I h => h.run pins s I⟩
theorem mxT_of {X : Cx} {e : Expr} {t : TT} (h : PT X e t) {σ : St} {H : Hp} {Q : Bool → Hp → Prop} (k : t σ H Q) : mxT X e σ H Q := ⟨fun pins s I => h.run pins s σ H Q I k⟩

/-- what an expression does on deep values -/
abbrev Den := List D → Option (D × List D)
abbrev Dens := List D → Option (List D × List D)
abbrev DenT := List D → Option (Bool × List D)

/-- e does f -/
def SndE (g : G) (X : Cx) (e : Expr) (f : Den) : Prop :=
  ∀ (B : Bs) (I H : Hp) (ρ : List D) (σ : St) (ts : List D) (vs : List V) (d : D) (ρ' : List D) (Q : VK), StP g B I H ρ σ ts vs → f ρ = some (d, ρ') →
    (∀ I' H' v, StP g B I' H' ρ' σ (ts ++ [d]) (vs ++ [v]) → Q v H') → mx X e σ H Q
def SndL (g : G) (X : Cx) (es : List Expr) (f : Dens) : Prop :=
  ∀ (B : Bs) (I H : Hp) (ρ : List D) (σ : St) (ts : List D) (vs : List V) (ds : List D) (ρ' : List D) (Q : List V → Hp → Prop), StP g B I H ρ σ ts vs → f ρ = some (ds, ρ') →
    (∀ I' H' ws, StP g B I' H' ρ' σ (ts ++ ds) (vs ++ ws) → ds.length = ws.length → ws.length = es.length → Q ws H') → mxA X es σ H Q
def SndT (g : G) (X : Cx) (e : Expr) (f : DenT) : Prop :=
  ∀ (B : Bs) (I H : Hp) (ρ : List D) (σ : St) (ts : List D) (vs : List V) (b : Bool) (ρ' : List D) (Q : Bool → Hp → Prop), StP g B I H ρ σ ts vs → f ρ = some (b, ρ') →
    (∀ I' H', StP g B I' H' ρ' σ ts vs → Q b H') → mxT X e σ H Q

def dVar (i : Nat) : Den := fun ρ => match ρ[i]? with
  | some .und => none
  | some d => some (fz d, ρ.set i (fz d))
  | none => none
def dCst (d : D) : Den := fun ρ => some (d, ρ)
def dNil : Dens := fun ρ => some ([], ρ)
def dCons (f : Den) (r : Dens) : Dens := fun ρ => match f ρ with
  | some (d, ρ1) => match r ρ1 with
    | some (ds, ρ2) => some (d :: ds, ρ2)
    | none => none
  | none => none
def dTup (r : Dens) : Den := fun ρ => match r ρ with
  | some (ds, ρ') => if ds.length ≤ 1000 then some (.tup (ds.map fz), ρ') else none
  | none => none
def dLst (r : Dens) : Den := fun ρ => match r ρ with
  | some (ds, ρ') => if ds.length ≤ 1000 then some (.own ds, ρ') else none
  | none => none

section
variable {g : G} {X : Cx} {pos : Pos} {B : Bs} {I H : Hp} {ρ : List D} {σ : St} {ts : List D} {vs : List V} {x : Str} {p : Pos}

/-- a slot's value is taken; the slot is frozen -/
theorem StP.var {i : Nat} {d : D} (h : StP g B I H ρ σ ts vs) (e : ρ[i]? = some d) (n : d ≠ .und) :
    ∃ v I', σ[i]? = some (some v) ∧ Rep g I' H (fz d) v [] ∧ StP g B I' H (ρ.set i (fz d)) σ ts vs := by
  obtain ⟨F1, F2, h1, h2, nd, of, hF⟩ := h.reps
  obtain ⟨v, A, f, C, es, rfl, r, k⟩ := h1.at e n
  have n' : ∀ b ∈ f, I b = none := fun b hb => of b (by grind)
  have si := tk_same (H := H) n'
  have rr : Rep g (tk I H f) H (fz d) v [] := r.fz si fun b hb => tk_in hb
  have hσ : σ.set i (some v) = σ := List.ext_getElem? fun j => by
    by_cases q : i = j
    · subst q
      rw [List.getElem?_set_self (List.getElem?_eq_some_iff.mp es).1, es]
    · rw [List.getElem?_set_ne q]
  have k1 := k si (fun _ _ => rfl) rr
  rw [hσ] at k1
  refine ⟨v, tk I H f, es, rr, h.step hF si (tk_sub h.same) (fun _ _ e _ => e) (fun _ _ z => z) (fun b z _ n => ?_) ⟨_, F2, k1, h2.mono si fun _ _ => rfl, ?_, fun b hb => ?_⟩⟩
  · rw [tk_out (by grind)]; exact z
  · grind
  · have : b ∉ f := by grind
    rw [tk_out this]
    exact ⟨of b (by grind), .inl (by grind)⟩

theorem snd_var {i : Nat} (hN : X.N[i]? = some x) (hv : Vis X.env.scope x) (hd : (x == ("__debug__" : Str)) = false) (hcd : (x == ("__classdict__" : Str)) = false) : SndE g X (.Name x pos) (dVar i) := by
  intro B I H ρ σ ts vs d ρ' Q h e k
  unfold dVar at e
  cases q : ρ[i]? with
  | none => rw [q] at e; cases e
  | some d0 =>
    have n : d0 ≠ .und := fun z => by subst z; rw [q] at e; cases e
    have e' : some (fz d0, ρ.set i (fz d0)) = some (d, ρ') := by rw [q] at e; cases d0 <;> first | exact absurd rfl n | exact e
    cases e'
    obtain ⟨v, I', es, r, h'⟩ := h.var q n
    exact mx_of (pe_var hN hv hd hcd) ⟨v, es, k I' H v (h'.push r)⟩
theorem snd_int {i : Int} {j : Nat} : SndE g X (.Constant (.int i) j pos) (dCst (.int i)) := by
  intro B I H ρ σ ts vs d ρ' Q h e k
  cases e
  exact mx_of pe_int (k I H _ (h.push .int))
theorem snd_bl {b : Bool} {j : Nat} : SndE g X (.Constant (.bool b) j pos) (dCst (.bl b)) := by
  intro B I H ρ σ ts vs d ρ' Q h e k
  cases e
  exact mx_of pe_bl (k I H _ (h.push .bl))
theorem snd_non {j : Nat} : SndE g X (.Constant .none j pos) (dCst .non) := by
  intro B I H ρ σ ts vs d ρ' Q h e k
  cases e
  exact mx_of pe_non (k I H _ (h.push .non))
theorem snd_str {z : Str} {j : Nat} : SndE g X (.Constant (.str z) j pos) (dCst (.str z)) := by
  intro B I H ρ σ ts vs d ρ' Q h e k
  cases e
  exact mx_of pe_str (k I H _ (h.push .str))
/-- a module's number -/
theorem snd_globI {i : Int} {t : Tok} (hg : Gl X x) (hm : X.mg x = some (.int i t)) (hd : (x == ("__debug__" : Str)) = false) : SndE g X (.Name x pos) (dCst (.int i)) := by
  intro B I H ρ σ ts vs d ρ' Q h e k
  cases e
  exact mx_of (pe_glob (v := .int i) hg hm ⟨t, rfl⟩ hd) (k I H _ (h.push .int))
theorem snd_nil : SndL g X [] dNil := by
  intro B I H ρ σ ts vs ds ρ' Q h e k
  cases e
  exact mxA_of pa_nil (k I H [] (by simpa using h) rfl rfl)
theorem starOk {e : Expr} {es : List Expr} {env : Env} (h : ∀ v p, e ≠ .Starred v p) : starEach (e :: es) env = (false, eval e env) :: starEach es env := by
  cases e <;> first | rfl | exact absurd rfl (h _ _)
theorem snd_cons {e : Expr} {es : List Expr} {f : Den} {r : Dens} (he : SndE g X e f) (hr : SndL g X es r) (hs : ∀ v p, e ≠ .Starred v p) : SndL g X (e :: es) (dCons f r) := by
  intro B I H ρ σ ts vs ds ρ' Q h q k
  unfold dCons at q
  cases q1 : f ρ with
  | none => rw [q1] at q; cases q
  | some a =>
    obtain ⟨d, ρ1⟩ := a
    rw [q1] at q
    dsimp only at q
    cases q2 : r ρ1 with
    | none => rw [q2] at q; cases q
    | some a =>
      obtain ⟨dr, ρ2⟩ := a
      rw [q2] at q
      cases q
      refine mxA_of (pa_cons (es := es) pe_mx pa_mx (starOk hs)) ?_
      refine he B I H ρ σ ts vs d ρ1 _ h q1 fun I1 H1 v h1 => ?_
      refine hr B I1 H1 ρ1 σ _ _ dr _ _ h1 q2 fun I2 H2 ws h2 hl hn => ?_
      exact k I2 H2 (v :: ws) (by simpa using h2) (by simp [hl]) (by simp [hn])
theorem line1000 {n : Nat} (h : n ≤ 1000) : n ≤ sizeLine := Nat.le_of_lt (small1000 h)
theorem snd_tup {es : List Expr} {r : Dens} {k0 : Nat} (hr : SndL g X es r) : SndE g X (.Tuple es k0 pos) (dTup r) := by
  intro B I H ρ σ ts vs d ρ' Q h q k
  unfold dTup at q
  cases q1 : r ρ with
  | none => rw [q1] at q; cases q
  | some a =>
    obtain ⟨ds, ρ1⟩ := a
    rw [q1] at q
    dsimp only at q
    split at q
    · rename_i hl
      cases q
      refine mx_of (pe_tup pa_mx) ?_
      refine hr B I H ρ σ ts vs ds _ _ h q1 fun I1 H1 ws h1 hw _ => ?_
      refine ⟨line1000 (hw ▸ hl), fun p hp => ?_⟩
      obtain ⟨I2, si, h2, rr⟩ := h1.fzTop hw
      have h3 := (h2.pop (by simpa using hw)).laidI (p := p) (o := .tup ws) hp
      refine k (upd I2 p (.tup ws)) _ _ (h3.push (.tup (.inl upd_same) (rr.mono (Same.updN (h2.same.free hp)) (fun b hb => by cases hb))))
    · cases q
theorem snd_lst {es : List Expr} {r : Dens} (hr : SndL g X es r) : SndE g X (.List es pos) (dLst r) := by
  intro B I H ρ σ ts vs d ρ' Q h q k
  unfold dLst at q
  cases q1 : r ρ with
  | none => rw [q1] at q; cases q
  | some a =>
    obtain ⟨ds, ρ1⟩ := a
    rw [q1] at q
    dsimp only at q
    split at q
    · rename_i hl
      cases q
      refine mx_of (pe_lst pa_mx) ?_
      refine hr B I H ρ σ ts vs ds _ _ h q1 fun I1 H1 ws h1 hw _ => ?_
      exact ⟨line1000 (hw ▸ hl), fun p hp => k I1 _ _ (h1.laidL hw hp)⟩
    · cases q
end
end DV

set_option Elab.async false
set_option maxRecDepth 100000
set_option maxHeartbeats 4000000
/-! DV3: defs on deep values: their promise (spD), calls, bodies. -/
namespace DV
open PySem L2 PySem.Spec PyProof.Rows

/-- a def on deep values: its answer, and what its first argument is behind it (where that one is changed) -/
abbrev Fn := List D → Option (D × D)

/-- the promise; mu: the first argument may be changed -/
def spD (g : G) (mu : Bool) (n : Nat) (sem : Fn) : Sp := fun vs H Q _ =>
  vs.length = n ∧ ∃ I ds F d o, Same I H ∧ Reps g I H ds vs F ∧ F.Nodup ∧ (∀ b ∈ F, I b = none) ∧ sem ds = some (d, o) ∧
    ∀ I' H' v f1 f2, Same I I' → Same I' H' → Rep g I' H' d v f1 → (mu = true → ∃ v0, vs.head? = some v0 ∧ Rep g I' H' o v0 f2) → (mu = false → f2 = []) → (f1 ++ f2).Nodup →
      (∀ b ∈ f1 ++ f2, I' b = none ∧ (b ∈ F ∨ H b = none)) → (∀ b u, H b = some u → b ∉ F → H' b = some u) → (∀ b, I b = none → H b ≠ none → b ∉ F → I' b = none) → (∀ b, H b ≠ none → H' b ≠ none) → Q v H'

/-- as FnOk, for surroundings where (if gd) nothing is being shown -/
structure FnD (P : Program) (w : World) (K : PySem.W.Frag) (mg : Str → Option Value) (base : Heap) (gd : Bool) (k : Nat) (f : Addr) (fd : FuncData) (ps : List Str) (sp : Sp) : Prop where
  len : ∀ vs H Q E, sp vs H Q E → vs.length = ps.length
  run : ∀ (A : Around) (outer : List Env) (s : Shared) (H : Hp) (args : Args) (us : List Value) (vs : List V) (Q : VK) (E : XK), Room k A → (gd = true → A.guards = some []) → Env0 P w K mg base A outer s H →
    BindsTo s fd args (ps.zip us) → Vals vs us → sp vs H Q E → codeAny (model P w) A (.call (.ref f) args) (CR CX0 outer P w H s Q E) s
theorem FnD.of {P : Program} {w : World} {K : PySem.W.Frag} {mg : Str → Option Value} {base : Heap} {gd : Bool} {k : Nat} {f : Addr} {fd : FuncData} {ps : List Str} {sp : Sp} (F : FnOk P w K mg base CX0 k f fd ps sp) : FnD P w K mg base gd k f fd ps sp :=
  ⟨F.len, fun A outer s H args us vs Q E hr _ => F.run A outer s H args us vs Q E hr⟩
theorem FnD.ok {P : Program} {w : World} {K : PySem.W.Frag} {mg : Str → Option Value} {base : Heap} {k : Nat} {f : Addr} {fd : FuncData} {ps : List Str} {sp : Sp} (F : FnD P w K mg base false k f fd ps sp) : FnOk P w K mg base CX0 k f fd ps sp :=
  ⟨F.len, fun A outer s H args us vs Q E hr => F.run A outer s H args us vs Q E hr (fun z => nomatch z)⟩

/-- how a caller knows a def of the text -/
structure CallOk (X : Cx) (x : Str) (gd : Bool) (n : Nat) (sp : Sp) : Prop where
  ex : ∃ (f : Addr) (fd : FuncData) (ps : List Str) (k : Nat), X.mg x = some (.ref f) ∧ PySem.W.keepIn X.K (.ref f) = true ∧ Binds X.K fd ps [] ∧ Room k X.A ∧ (gd = true → X.A.guards = some []) ∧
    FnD X.prog X.w X.K X.mg X.base gd k f fd ps sp ∧ ps.length = n

section
variable {X : Cx} {x : Str} {p pos : Pos} {e : Expr} {es : List Expr} {gd : Bool} {n : Nat} {sp : Sp}
theorem CallOk.run (C : CallOk X x gd n sp) (hg : Gl X x) (hd : (x == ("__debug__" : Str)) = false) (hs : ∀ v p, e ≠ .Starred v p) (hp : ∀ v p, Expr.Starred v p ∉ es) {σ : L2.St} {H : Hp} {Q : VK}
    (h : mxA X (e :: es) σ H fun vs H1 => sp vs H1 Q E0) : mx X (.Call (.Name x p) (e :: es) [] pos) σ H Q := by
  obtain ⟨f, fd, ps, k, hm, hk, hb, hr, hgd, F, hn⟩ := C.ex
  refine ⟨fun pins s I => ?_⟩
  have h1 : starEach (e :: es) X.env = (false, eval e X.env) :: starEach es X.env := starOk hs
  have h2 : ∀ l : List Expr, (∀ v p, Expr.Starred v p ∉ l) → ∀ q, (backTo q (starEach l X.env)).any (·.1) = false := by
    intro l
    induction l with
    | nil => intro _ q; rfl
    | cons a r ih =>
      intro hl q
      have ha : ∀ v p, a ≠ .Starred v p := fun v p z => hl v p (by rw [z]; exact List.mem_cons_self ..)
      have hr' : ∀ v p, Expr.Starred v p ∉ r := fun v p z => hl v p (List.mem_cons_of_mem _ z)
      rw [starOk ha]
      cases r with
      | nil => rfl
      | cons b r =>
        have := ih hr' q
        rw [starOk (fun v p z => hr' v p (by rw [z]; exact List.mem_cons_self ..))] at this ⊢
        exact this
  refine wpAny_Call_Name_kw (ld_glob I hg hm ?_ hd)
  refine PySem.W.callWith_K (h₀ := X.base) I.ok.mod.kin hk (thn (h.run pos pins s I) fun us s1 ⟨vs, H1, I1, r, q⟩ => ⟨I1.kIn, ?_⟩) h1 (h2 es hp pos)
  have hl : (us ++ []).length = ps.length := by rw [List.append_nil, ← r.length]; exact F.len _ _ _ _ q
  have bt := hb s1 us I1.kIn hl
  rw [List.append_nil] at bt
  refine wpAny_call (codeAny_mono (F.run X.A X.stack s1 H1 ⟨us, []⟩ us vs Q E0 hr hgd I1.env0 bt r q) fun r s' hq => ?_)
  cases r with
  | error e => exact hq.elim
  | ok fl =>
    cases fl with
    | ret u => exact I1.after hq
    | next => exact False.elim hq
    | brk => exact False.elim hq
    | cont => exact False.elim hq
end

def dCallP (sem : Fn) (r : Dens) : Den := fun ρ => match r ρ with
  | some (ds, ρ') => match sem (ds.map fz) with
    | some (d, _) => some (d, ρ')
    | none => none
  | none => none
def held (ρ : List D) (i : Nat) : Bool := match ρ[i]? with
  | some .und => false
  | some _ => true
  | none => false
theorem held_some {ρ : List D} {i : Nat} (h : held ρ i = true) : ∃ d, ρ[i]? = some d ∧ d ≠ .und := by
  unfold held at h
  split at h
  · cases h
  · rename_i d n e
    exact ⟨d, e, n⟩
  · cases h
def dCallR (sem : Fn) (i : Nat) (r : Dens) : Den := fun ρ => if held ρ i = true then match r ρ with
  | some (ds, ρ') => if held ρ' i = true then match sem (ρ'.getD i .und :: ds.map fz) with
    | some (d, o) => some (d, ρ'.set i o)
    | none => none
    else none
  | none => none
  else none
/-- the first argument is a value just made -/
def dCallT (sem : Fn) (f : Den) (r : Dens) : Den := fun ρ => match f ρ with
  | some (d0, ρ1) => match r ρ1 with
    | some (ds, ρ') => match sem (d0 :: ds.map fz) with
      | some (d, _) => some (d, ρ')
      | none => none
    | none => none
  | none => none

section
variable {g : G} {X : Cx} {pos p : Pos} {B : Bs} {I I' H H' : Hp} {ρ : List D} {σ : L2.St} {ts : List D} {vs : List V} {x : Str} {e : Expr} {es : List Expr} {gd : Bool} {n : Nat} {sem : Fn} {mu : Bool} {ds : List D} {ws : List V} {d o : D}

theorem noneOf {H : Hp} {b : Addr} (h : ∃ o, H b = some o) : H b ≠ none := by obtain ⟨o, e⟩ := h; rw [e]; simp

/-- frozen arguments -/
theorem StP.callP {Q : VK} (h : StP g B I H ρ σ (ts ++ ds) (vs ++ ws)) (hl : ds.length = ws.length) (hs : sem (ds.map fz) = some (d, o)) (hn : ws.length = n)
    (k : ∀ I' H' v, StP g B I' H' ρ σ (ts ++ [d]) (vs ++ [v]) → Q v H') : spD g false n sem ws H Q E0 := by
  obtain ⟨I2, si, h2, rr⟩ := h.fzTop hl
  refine ⟨hn, I2, ds.map fz, [], d, o, h2.same, rr, List.nodup_nil, (fun b hb => by cases hb), hs, fun I' H' v f1 f2 si' sh' r _ e2 nd off kh ki kd => ?_⟩
  obtain rfl := e2 rfl
  obtain ⟨F1, F2, s1, s2, nd0, of0, hF⟩ := (h2.pop (by simpa using hl)).reps
  have th : ∀ b ∈ F1 ++ F2, ∃ u, H b = some u := fun b hb => (List.mem_append.mp hb).elim (s1.there b) (s2.there b)
  have kk : ∀ b ∈ F1 ++ F2, H' b = H b := fun b hb => by obtain ⟨u, e⟩ := th b hb; rw [e, kh b u e (by simp)]
  refine k I' H' v (h2.step hF si' sh' (fun b u e _ => kh b u e (by simp)) (fun b hb _ => by rw [kk b hb]; obtain ⟨u, e⟩ := th b hb; rw [e]; simp) (fun b z z' _ => ki b z z' (by simp)) ⟨F1, F2 ++ f1, s1.mono si' fun b hb => kk b (by grind), (s2.mono si' fun b hb => kk b (by grind)).append (Reps.one r), ?_, fun b hb => ?_⟩)
  · have : ∀ b ∈ f1, b ∉ F1 ++ F2 := fun b hb z => by
      have h3 := (off b (by simp [hb])).2
      obtain ⟨u, e⟩ := th b z
      rcases h3 with q | q
      · cases q
      · rw [q] at e; cases e
    rw [List.append_nil] at nd
    grind
  · by_cases q : b ∈ F1 ++ F2
    · exact ⟨ki b (of0 b q) (by obtain ⟨u, e⟩ := th b q; rw [e]; simp) (by simp), .inl q⟩
    · have : b ∈ f1 := by grind
      have h3 := off b (by simp [this])
      exact ⟨h3.1, .inr (by rcases h3.2 with z | z; cases z; exact z)⟩
/-- the first argument a value just made -/
theorem StP.callT {Q : VK} {d0 : D} {v0 : V} (h : StP g B I H ρ σ (ts ++ d0 :: ds) (vs ++ v0 :: ws)) (hl : ds.length = ws.length) (hs : sem (d0 :: ds.map fz) = some (d, o)) (hn : ws.length + 1 = n)
    (k : ∀ I' H' v, StP g B I' H' ρ σ (ts ++ [d]) (vs ++ [v]) → Q v H') : spD g mu n sem (v0 :: ws) H Q E0 := by
  have h' : StP g B I H ρ σ ((ts ++ [d0]) ++ ds) ((vs ++ [v0]) ++ ws) := by simpa using h
  obtain ⟨I2, si, h2, rr⟩ := h'.fzTop hl
  obtain ⟨F1, F2, s1, s2, nd0, of0, hF⟩ := (h2.pop (by simpa using hl)).reps
  obtain ⟨fa, f0, rfl, r1, r0⟩ := s2.split' rfl
  obtain ⟨w0, ew, r0⟩ := r0.one_inv
  cases ew
  have th : ∀ b ∈ F1 ++ (fa ++ f0), ∃ u, H b = some u := fun b hb => (List.mem_append.mp hb).elim (s1.there b) (s2.there b)
  refine ⟨by simpa using hn, I2, d0 :: ds.map fz, f0, d, o, h2.same, by simpa using Reps.cons r0 rr, by grind, fun b hb => of0 b (by grind), hs, fun I' H' v f1 f2 si' sh' r _ _ nd off kh ki kd => ?_⟩
  have kk : ∀ b ∈ F1 ++ fa, H' b = H b := fun b hb => by
    obtain ⟨u, e⟩ := th b (by grind)
    rw [e, kh b u e (by grind)]
  refine k I' H' v (h2.step hF si' sh' (fun b u e q => kh b u e (by grind)) (fun b hb z => kd b z) (fun b z z' q => ki b z z' (by grind)) ⟨F1, fa ++ f1, s1.mono si' fun b hb => kk b (by grind), (r1.mono si' fun b hb => kk b (by grind)).append (Reps.one r), ?_, fun b hb => ?_⟩)
  · have : ∀ b ∈ f1, b ∉ F1 ++ fa := fun b hb z => by
      have h3 := (off b (by simp [hb])).2
      obtain ⟨u, e⟩ := th b (by grind)
      rcases h3 with q | q
      · grind
      · rw [q] at e; cases e
    grind
  · by_cases q : b ∈ F1 ++ fa
    · exact ⟨ki b (of0 b (by grind)) (by obtain ⟨u, e⟩ := th b (by grind); rw [e]; simp) (by grind), .inl (by grind)⟩
    · have : b ∈ f1 := by grind
      have h3 := off b (by simp [this])
      exact ⟨h3.1, by rcases h3.2 with z | z; exact .inl (by grind); exact .inr z⟩
/-- the first argument what a slot holds -/
theorem StP.callR {Q : VK} {i : Nat} {d0 : D} (h : StP g B I H ρ σ (ts ++ ds) (vs ++ ws)) (hl : ds.length = ws.length) (hi : ρ[i]? = some d0) (hu : d0 ≠ .und) (hs : sem (d0 :: ds.map fz) = some (d, o)) (hn : ws.length + 1 = n)
    (k : ∀ I' H' v, StP g B I' H' (ρ.set i o) σ (ts ++ [d]) (vs ++ [v]) → Q v H') : ∃ v0, σ[i]? = some (some v0) ∧ spD g true n sem (v0 :: ws) H Q E0 := by
  obtain ⟨I2, si, h2, rr⟩ := h.fzTop hl
  obtain ⟨F1, F2, s1, s2, nd0, of0, hF⟩ := (h2.pop (by simpa using hl)).reps
  obtain ⟨v0, A, f, C, es, rfl, r0, put⟩ := s1.at hi hu
  have hσ : σ.set i (some v0) = σ := List.ext_getElem? fun j => by
    by_cases q : i = j
    · subst q
      rw [List.getElem?_set_self (List.getElem?_eq_some_iff.mp es).1, es]
    · rw [List.getElem?_set_ne q]
  have th : ∀ b ∈ (A ++ (f ++ C)) ++ F2, ∃ u, H b = some u := fun b hb => (List.mem_append.mp hb).elim (s1.there b) (s2.there b)
  refine ⟨v0, es, by simpa using hn, I2, d0 :: ds.map fz, f, d, o, h2.same, by simpa using Reps.cons r0 rr, by grind, fun b hb => of0 b (by grind), hs, fun I' H' v f1 f2 si' sh' r ro _ nd off kh ki kd => ?_⟩
  obtain ⟨w0, ew, ro⟩ := ro rfl
  cases ew
  have kk : ∀ b ∈ (A ++ C) ++ F2, H' b = H b := fun b hb => by
    obtain ⟨u, e⟩ := th b (by grind)
    rw [e, kh b u e (by grind)]
  have s1' := put si' (fun b hb => kk b (by grind)) ro
  rw [hσ] at s1'
  refine k I' H' v (h2.step hF si' sh' (fun b u e q => kh b u e (by grind)) (fun b hb z => kd b z) (fun b z z' q => ki b z z' (by grind)) ⟨A ++ (f2 ++ C), F2 ++ f1, s1', (s2.mono si' fun b hb => kk b (by grind)).append (Reps.one r), ?_, fun b hb => ?_⟩)
  · have : ∀ b ∈ f1 ++ f2, b ∉ (A ++ C) ++ F2 := fun b hb z => by
      have h3 := (off b hb).2
      obtain ⟨u, e⟩ := th b (by grind)
      rcases h3 with q | q
      · grind
      · rw [q] at e; cases e
    have n1 : f1.Nodup := by grind
    have n2 : f2.Nodup := by grind
    have n12 : ∀ b ∈ f1, b ∉ f2 := by grind
    have d1 : ∀ b ∈ f1, b ∉ (A ++ C) ++ F2 := fun b hb => this b (by simp [hb])
    have d2 : ∀ b ∈ f2, b ∉ (A ++ C) ++ F2 := fun b hb => this b (by simp [hb])
    clear this k put off
    simp only [List.nodup_append, List.mem_append] at *
    grind
  · by_cases q : b ∈ (A ++ C) ++ F2
    · exact ⟨ki b (of0 b (by grind)) (by obtain ⟨u, e⟩ := th b (by grind); rw [e]; simp) (by grind), .inl (by grind)⟩
    · have h3 := off b (by grind)
      exact ⟨h3.1, by rcases h3.2 with z | z; exact .inl (by grind); exact .inr z⟩
end
end DV

set_option Elab.async false
set_option maxRecDepth 100000
set_option maxHeartbeats 4000000
/-! DV4: statements, bodies. -/
namespace DV
open PySem L2 PySem.Spec PyProof.Rows
set_option linter.all false

/-- how a block ends -/
inductive Fl where
  | nx (ρ : List D) | rt (d : D) (ρ : List D) | bk (ρ : List D) | ct (ρ : List D)
abbrev DenS := List D → Option Fl

structure mxS (X : Cx) (st : Stmt) (D : Ends) (σ : L2.St) (H : Hp) : Prop where
  run : ∀ (pins : List (Addr × Obj)) (s : Shared), Inv X pins σ H s → wpAny (model X.prog X.w) X.A (exec st X.env) (SP X pins D) X.xe s
theorem ps_mx {X : Cx} {st : Stmt} : PS X st (mxS X st) := ⟨fun pins s _ _ _ I h => h.run pins s I⟩
theorem mxS_of {X : Cx} {st : Stmt} {t : TS} (h : PS X st t) {E : Ends} {σ : L2.St} {H : Hp} (k : t E σ H) : mxS X st E σ H := ⟨fun pins s I => h.run pins s σ H E I k⟩
structure mxB (X : Cx) (st : List Stmt) (D : Ends) (σ : L2.St) (H : Hp) : Prop where
  run : ∀ (pins : List (Addr × Obj)) (s : Shared), Inv X pins σ H s → wpAny (model X.prog X.w) X.A (execs st X.env) (SP X pins D) X.xe s
theorem pss_mx {X : Cx} {st : List Stmt} : PSs X st (mxB X st) := ⟨fun pins s _ _ _ I h => h.run pins s I⟩
theorem mxB_of {X : Cx} {st : List Stmt} {t : TS} (h : PSs X st t) {E : Ends} {σ : L2.St} {H : Hp} (k : t E σ H) : mxB X st E σ H := ⟨fun pins s I => h.run pins s σ H E I k⟩

/-- the first slot stays (where it is the argument that may be changed) -/
def Fx (fx : Bool) (σ σ' : L2.St) : Prop := fx = true → σ'[0]? = σ[0]?
theorem Fx.refl {fx : Bool} {σ : L2.St} : Fx fx σ σ := fun _ => rfl
theorem Fx.trans {fx : Bool} {a b c : L2.St} (h : Fx fx a b) (k : Fx fx b c) : Fx fx a c := fun z => (k z).trans (h z)
theorem Fx.set {fx : Bool} {σ : L2.St} {i : Nat} {v : Option V} (h : fx = true → i ≠ 0) : Fx fx σ (σ.set i v) := fun z => by
  rw [List.getElem?_set_ne (h z)]

/-- what is wanted behind a block that ends so -/
def Post (g : G) (B : Bs) (fx : Bool) (σ : L2.St) (ts : List D) (vs : List V) (E : Ends) : Fl → Prop
  | .nx ρ => ∀ I H σ', StP g B I H ρ σ' ts vs → Fx fx σ σ' → E.nx σ' H
  | .rt d ρ => ∀ I H σ' v, StP g B I H ρ σ' (ts ++ [d]) (vs ++ [v]) → Fx fx σ σ' → E.rt v H
  | .bk ρ => ∀ I H σ', StP g B I H ρ σ' ts vs → Fx fx σ σ' → E.bk σ' H
  | .ct ρ => ∀ I H σ', StP g B I H ρ σ' ts vs → Fx fx σ σ' → E.ct σ' H
theorem Post.fx {g : G} {B : Bs} {fx : Bool} {σ σ1 : L2.St} {ts : List D} {vs : List V} {E : Ends} {fl : Fl} (h : Post g B fx σ ts vs E fl) (k : Fx fx σ σ1) : Post g B fx σ1 ts vs E fl := by
  cases fl with
  | nx ρ => exact fun I H σ' a b => h I H σ' a (k.trans b)
  | rt d ρ => exact fun I H σ' v a b => h I H σ' v a (k.trans b)
  | bk ρ => exact fun I H σ' a b => h I H σ' a (k.trans b)
  | ct ρ => exact fun I H σ' a b => h I H σ' a (k.trans b)

def SndS (g : G) (fx : Bool) (X : Cx) (st : Stmt) (f : DenS) : Prop :=
  ∀ (B : Bs) (I H : Hp) (ρ : List D) (σ : L2.St) (ts : List D) (vs : List V) (fl : Fl) (E : Ends), StP g B I H ρ σ ts vs → f ρ = some fl → Post g B fx σ ts vs E fl → mxS X st E σ H
def SndB (g : G) (fx : Bool) (X : Cx) (st : List Stmt) (f : DenS) : Prop :=
  ∀ (B : Bs) (I H : Hp) (ρ : List D) (σ : L2.St) (ts : List D) (vs : List V) (fl : Fl) (E : Ends), StP g B I H ρ σ ts vs → f ρ = some fl → Post g B fx σ ts vs E fl → mxB X st E σ H

def sEnd : DenS := fun ρ => some (.nx ρ)
def sSeq (f r : DenS) : DenS := fun ρ => match f ρ with
  | some (.nx ρ') => r ρ'
  | o => o
def sRet (f : Den) : DenS := fun ρ => match f ρ with
  | some (d, ρ') => some (.rt d ρ')
  | none => none
def sAsg (i : Nat) (f : Den) : DenS := fun ρ => match f ρ with
  | some (d, ρ') => if i < ρ'.length then some (.nx (ρ'.set i d)) else none
  | none => none
def sIf (c : DenT) (a b : DenS) : DenS := fun ρ => match c ρ with
  | some (true, ρ') => a ρ'
  | some (false, ρ') => b ρ'
  | none => none
def sExpr (f : Den) : DenS := fun ρ => match f ρ with
  | some (_, ρ') => some (.nx ρ')
  | none => none
/-- a statement that is not come to -/
def sNo : DenS := fun _ => none

section
variable {g : G} {fx : Bool} {X : Cx} {st : Stmt} {rest : List Stmt} {f r : DenS} {pos : Pos} {e : Expr} {fe : Den}

theorem snd_end : SndB g fx X [] sEnd := by
  intro B I H ρ σ ts vs fl E h q k
  cases q
  exact mxB_of pss_nil (k I H σ h .refl)
theorem snd_seq (h1 : SndS g fx X st f) (h2 : SndB g fx X rest r) : SndB g fx X (st :: rest) (sSeq f r) := by
  intro B I H ρ σ ts vs fl E h q k
  refine mxB_of (pss_cons ps_mx pss_mx) ?_
  unfold sSeq at q
  cases q1 : f ρ with
  | none => rw [q1] at q; cases q
  | some fl1 =>
    refine h1 B I H ρ σ ts vs fl1 _ h q1 ?_
    cases fl1 with
    | nx ρ' =>
      rw [q1] at q
      exact fun I' H' σ' h' fxx => h2 B I' H' ρ' σ' ts vs fl E h' q (k.fx fxx)
    | rt d ρ' => rw [q1] at q; cases q; exact k
    | bk ρ' => rw [q1] at q; cases q; exact k
    | ct ρ' => rw [q1] at q; cases q; exact k
theorem snd_pass : SndS g fx X (.Pass pos) sEnd := by
  intro B I H ρ σ ts vs fl E h q k
  cases q
  exact mxS_of ps_pass (k I H σ h .refl)
theorem snd_no : SndS g fx X st sNo := by
  intro B I H ρ σ ts vs fl E h q k
  cases q
theorem snd_break : SndS g fx X (.Break pos) (fun ρ => some (.bk ρ)) := by
  intro B I H ρ σ ts vs fl E h q k
  cases q
  exact mxS_of ps_break (k I H σ h .refl)
theorem snd_continue : SndS g fx X (.Continue pos) (fun ρ => some (.ct ρ)) := by
  intro B I H ρ σ ts vs fl E h q k
  cases q
  exact mxS_of ps_continue (k I H σ h .refl)
theorem snd_ret (he : SndE g X e fe) : SndS g fx X (.Return (some e) pos) (sRet fe) := by
  intro B I H ρ σ ts vs fl E h q k
  unfold sRet at q
  cases q1 : fe ρ with
  | none => rw [q1] at q; cases q
  | some a =>
    obtain ⟨d, ρ'⟩ := a
    rw [q1] at q; cases q
    exact mxS_of (ps_ret pe_mx) (he B I H ρ σ ts vs d ρ' _ h q1 fun I' H' v h' => k I' H' σ v h' .refl)
theorem snd_retN : SndS g fx X (.Return none pos) (fun ρ => some (.rt .non ρ)) := by
  intro B I H ρ σ ts vs fl E h q k
  cases q
  exact mxS_of ps_retN (k I H σ _ (h.push .non) .refl)

/-- a slot is given the last value -/
theorem StP.setTop {B : Bs} {I H : Hp} {ρ : List D} {σ : L2.St} {ts : List D} {vs : List V} {d : D} {v : V} {i : Nat} (h : StP g B I H ρ σ (ts ++ [d]) (vs ++ [v])) (hi : i < ρ.length) : StP g B I H (ρ.set i d) (σ.set i (some v)) ts vs := by
  obtain ⟨F1, F2, s1, s2, nd, of, hF⟩ := h.reps
  obtain ⟨fa, fd, rfl, r1, r2⟩ := s2.split' rfl
  obtain ⟨w, ew, r2⟩ := r2.one_inv
  cases ew
  obtain ⟨A, f, C, rfl, put⟩ := s1.put i hi
  refine h.step hF (Same.refl _) h.same (fun _ _ e _ => e) (fun _ _ z => z) (fun _ z _ _ => z) ⟨_, fa, put (Same.refl _) (fun _ _ => rfl) r2, r1, ?_, fun b hb => ⟨of b (by grind), .inl (by grind)⟩⟩
  simp only [List.nodup_append, List.mem_append] at *
  grind
theorem swaps_no {t : Option Expr} {l : Nat} {env : Env} (h : ∀ a b c d, e ≠ .ListComp a b c d) (h2 : ∀ a b c d, e ≠ .SetComp a b c d) (h3 : ∀ a b c d q, e ≠ .DictComp a b c d q) : swapsWith e t l env = pure false := by
  cases e <;> first | rfl | exact absurd rfl (h _ _ _ _) | exact absurd rfl (h2 _ _ _ _) | exact absurd rfl (h3 _ _ _ _ _)
/-- no comprehension -/
def noComp : Expr → Bool
  | .ListComp _ _ _ _ | .SetComp _ _ _ _ | .DictComp _ _ _ _ _ => false
  | _ => true
theorem swaps_noC {t : Option Expr} {l : Nat} {env : Env} (h : noComp e = true) : swapsWith e t l env = pure false := by
  cases e <;> first | rfl | cases h
theorem snd_asg {i : Nat} {x : Str} {pos' : Pos} (hN : X.N.Nodup) (hi : X.N[i]? = some x) (hx : Loc X.env.scope x) (hf : X.fn x = true ∨ X.env.scope.names.lookup x = some .local) (hc : noComp e = true) (h0 : fx = true → i ≠ 0) (he : SndE g X e fe) :
    SndS g fx X (.Assign [.Name x pos'] e pos) (sAsg i fe) := by
  intro B I H ρ σ ts vs fl E h q k
  unfold sAsg at q
  cases q1 : fe ρ with
  | none => rw [q1] at q; cases q
  | some a =>
    obtain ⟨d, ρ'⟩ := a
    rw [q1] at q
    dsimp only at q
    split at q
    · rename_i hl
      cases q
      exact mxS_of (ps_set hN hi hx pe_mx (swaps_noC hc) hf) (he B I H ρ σ ts vs d ρ' _ h q1 fun I' H' v h' => k I' H' _ (h'.setTop hl) (.set h0))
    · cases q
theorem snd_if {c : Expr} {a b : List Stmt} {fc : DenT} {fa fb : DenS} (hc : SndT g X c fc) (ha : SndB g fx X a fa) (hb : SndB g fx X b fb) : SndS g fx X (.If c a b pos) (sIf fc fa fb) := by
  intro B I H ρ σ ts vs fl E h q k
  unfold sIf at q
  cases q1 : fc ρ with
  | none => rw [q1] at q; cases q
  | some z =>
    obtain ⟨t, ρ'⟩ := z
    rw [q1] at q
    refine mxS_of (ps_if pt_mx pss_mx pss_mx) (hc B I H ρ σ ts vs t ρ' _ h q1 fun I' H' h' => ?_)
    cases t with
    | true => exact iteT (ha B I' H' ρ' σ ts vs fl E h' q k)
    | false => exact iteF (hb B I' H' ρ' σ ts vs fl E h' q k)
theorem snd_expr (hc : noComp e = true) (he : SndE g X e fe) : SndS g fx X (.Expr e pos) (sExpr fe) := by
  intro B I H ρ σ ts vs fl E h q k
  unfold sExpr at q
  cases q1 : fe ρ with
  | none => rw [q1] at q; cases q
  | some a =>
    obtain ⟨d, ρ'⟩ := a
    rw [q1] at q; cases q
    exact mxS_of (ps_expr pe_mx (swaps_noC hc)) (he B I H ρ σ ts vs d ρ' _ h q1 fun I' H' v h' => k I' H' σ (h'.pop (by simp)) .refl)
end

/-! ### a def by its body -/
/-- a def's answer, and its first argument behind it -/
def outD (mu : Bool) (d : D) (ρ : List D) : Option (D × D) := if mu = true then (match ρ with
  | [] => none
  | .und :: _ => none
  | o :: _ => some (d, o)) else some (d, .non)
theorem outD_t {d d' o : D} {ρ : List D} (h : outD true d ρ = some (d', o)) : d' = d ∧ ρ[0]? = some o ∧ o ≠ .und := by
  unfold outD at h
  rw [if_pos rfl] at h
  split at h
  · cases h
  · cases h
  · rename_i n
    cases h
    exact ⟨rfl, rfl, fun z => n (by rw [z])⟩
theorem outD_f {d d' o : D} {ρ : List D} (h : outD false d ρ = some (d', o)) : d' = d := by
  unfold outD at h
  rw [if_neg (by decide)] at h
  cases h
  rfl
/-- what a body of N names does as a def -/
def semOf (N : Nat) (mu : Bool) (f : DenS) : Fn := fun ds => match f (ds ++ List.replicate (N - ds.length) .und) with
  | some (.nx ρ) => outD mu .non ρ
  | some (.rt d ρ) => outD mu d ρ
  | _ => none

section
variable {g : G}
theorem Slots.start {I H : Hp} {ds : List D} {vs : List V} {F : List Addr} (h : Reps g I H ds vs F) (n : Nat) : Slots g I H (ds ++ List.replicate n .und) (vs.map some ++ List.replicate n none) F := by
  induction ds generalizing vs F with
  | nil =>
    cases h
    induction n with
    | zero => exact .nil
    | succ n ih => exact .und ih
  | cons d ds ih =>
    cases h with
    | cons r1 r2 => exact .cons r1 (ih r2)
/-- at a body's entry -/
theorem StP.start {I H : Hp} {ds : List D} {vs : List V} {F : List Addr} (h : Reps g I H ds vs F) (nd : F.Nodup) (of : ∀ b ∈ F, I b = none) (sm : Same I H) (N : List Str) (hn : vs.length ≤ N.length) : StP g ⟨I, H, F⟩ I H (ds ++ List.replicate (N.length - ds.length) .und) (L2.start N vs) [] [] := by
  have e := h.length
  refine ⟨⟨F, [], ?_, .nil, by simpa using nd, fun b hb => of b (by simpa using hb), fun b hb _ => by simpa using hb⟩, sm, Same.refl _, fun b o e _ => e, fun b _ _ z => z, fun b z => z⟩
  unfold L2.start
  rw [e]
  exact Slots.start h _
/-- the body's ends lead to the promise -/
theorem post_fn {mu : Bool} {N : List Str} {I H : Hp} {ds : List D} {vs : List V} {F : List Addr} {d o : D} {fl : Fl} {f : DenS} {Q : VK} (hr : Reps g I H ds vs F) (hl : vs.length ≤ N.length) (hm : mu = true → 0 < vs.length)
    (hs : semOf N.length mu f ds = some (d, o)) (hf : f (ds ++ List.replicate (N.length - ds.length) .und) = some fl)
    (k : ∀ I' H' v f1 f2, Same I I' → Same I' H' → Rep g I' H' d v f1 → (mu = true → ∃ v0, vs.head? = some v0 ∧ Rep g I' H' o v0 f2) → (mu = false → f2 = []) → (f1 ++ f2).Nodup →
      (∀ b ∈ f1 ++ f2, I' b = none ∧ (b ∈ F ∨ H b = none)) → (∀ b u, H b = some u → b ∉ F → H' b = some u) → (∀ b, I b = none → H b ≠ none → b ∉ F → I' b = none) → (∀ b, H b ≠ none → H' b ≠ none) → Q v H') :
    Post g ⟨I, H, F⟩ mu (start N vs) [] [] { nx := fun _ H' => Q .non H', rt := Q } fl := by
  have s0 : ∀ v0, vs.head? = some v0 → (start N vs)[0]? = some (some v0) := fun v0 e => by
    cases vs with
    | nil => cases e
    | cons a r => cases e; rfl
  have fin : ∀ (I' H' : Hp) (ρ : List D) (σ' : L2.St) (v : V), StP g ⟨I, H, F⟩ I' H' ρ σ' [d] [v] → Fx mu (start N vs) σ' → (mu = true → ρ[0]? = some o ∧ o ≠ .und) → Q v H' := by
    intro I' H' ρ σ' v h fxx ho
    obtain ⟨F1, F2, s1, s2, nd, of, hF⟩ := h.reps
    obtain ⟨w, ew, r⟩ := s2.one_inv
    cases ew
    have sub : ∀ b ∈ F1 ++ F2, b ∈ F ∨ H b = none := fun b hb => by
      by_cases z : H b = none
      · exact .inr z
      · exact .inl (hF b hb z)
    cases hmu : mu with
    | false =>
      exact k I' H' v F2 [] h.keep h.same r (fun z => by rw [hmu] at z; cases z) (fun _ => rfl) (by grind) (fun b hb => ⟨of b (by grind), sub b (by grind)⟩) h.frH (fun b z z' q => h.frI b z' q z) h.dom
    | true =>
      have ho := ho hmu
      have hv := hm hmu
      obtain ⟨v0, hv0⟩ : ∃ v0, vs.head? = some v0 := by cases vs with | nil => simp at hv | cons a r => exact ⟨a, rfl⟩
      have e0 : σ'[0]? = some (some v0) := (fxx hmu).trans (s0 v0 hv0)
      obtain ⟨v1, A, fo, C, es, rfl, ro, _⟩ := s1.at ho.1 ho.2
      rw [e0] at es
      cases es
      exact k I' H' v F2 fo h.keep h.same r (fun _ => ⟨v0, hv0, ro⟩) (fun z => by rw [hmu] at z; cases z) (by grind) (fun b hb => ⟨of b (by grind), sub b (by grind)⟩) h.frH (fun b z z' q => h.frI b z' q z) h.dom
  unfold semOf at hs
  rw [hf] at hs
  have both : ∀ (d' : D) (ρ : List D), outD mu d' ρ = some (d, o) → d' = d ∧ (mu = true → ρ[0]? = some o ∧ o ≠ .und) := fun d' ρ e => by
    cases mu with
    | true => obtain ⟨a, b, c⟩ := outD_t e; exact ⟨a.symm, fun _ => ⟨b, c⟩⟩
    | false => exact ⟨(outD_f e).symm, fun z => by cases z⟩
  cases fl with
  | nx ρ =>
    intro I' H' σ' h fxx
    obtain ⟨e1, e2⟩ := both _ _ hs
    subst e1
    exact fin I' H' ρ σ' .non (h.push .non) fxx e2
  | rt d' ρ =>
    intro I' H' σ' v h fxx
    obtain ⟨e1, e2⟩ := both _ _ hs
    subst e1
    exact fin I' H' ρ σ' v h fxx e2
  | bk ρ => cases hs
  | ct ρ => cases hs
end

/-- a def's body running -/
structure Body (P : Program) (w : World) (K : PySem.W.Frag) (mg : Str → Option Value) (base : Heap) (N : List Str) (sc : Scope) (gd : Bool) (k : Nat) (X : Cx) : Prop where
  prog : X.prog = P
  w : X.w = w
  K : X.K = K
  mg : X.mg = mg
  base : X.base = base
  N : X.N = N
  sc : X.env.scope = sc
  calm : X.calm = true
  fn : ∀ x, X.fn x = true
  room : Room k X.A
  gd : gd = true → X.A.guards = some []
  nx : X.xe = fun _ _ => False

/-- a def as it stands behind the top, its defaults whatever -/
structure FunA (K : PySem.W.Frag) (x qual : Str) (params : Arguments) (body : List Stmt) (scope : Scope) (f : Addr) (fd : FuncData) : Prop where
  ex : ∃ (oc : Value) (od : Option Addr) (dV kV doc pm : Value) (an : Option Addr) (cdv ct : Value) (osl : Array (Option Value)),
    fd = PySem.W.fnOf x qual params body scope dV kV doc pm an cdv ct ∧ K.lookup f = some ⟨oc, od, .func fd, osl⟩ ∧ PySem.W.codeIn K cdv qual = true
theorem fnD_of {g : G} {P : Program} {w : World} {K : PySem.W.Frag} {mg : Str → Option Value} {base : Heap} {gd mu : Bool} {k n : Nat} {f : Addr} {fd : FuncData} {N ps : List Str} {x qual : Str} {params : Arguments} {body : List Stmt} {scope : Scope} {den : DenS}
    (F : FunA K x qual params body scope f fd) (S : FnScope N ps scope) (hn : ps.length = n) (hm : mu = true → 0 < n)
    (hb : ∀ X : Cx, Body P w K mg base N scope gd k X → SndB g mu X body den) : FnD P w K mg base gd (k + 1) f fd ps (spD g mu n (semOf N.length mu den)) := by
  obtain ⟨oc, od, dV, kV, doc, pm, an, cdv, ct, osl, hfd, lk, hcd⟩ := F.ex
  have long : ∀ (vs : List V) H Q E, spD g mu n (semOf N.length mu den) vs H Q E → vs.length = ps.length := fun vs H Q E h => h.1.trans hn.symm
  refine ⟨long, fun A outer s H args us vs Q E room hgd e0 bt rv h => ?_⟩
  have hl := long _ _ _ _ h
  obtain ⟨_, I, ds, Fp, d, o, sm, rr, nd, of, hs, post⟩ := h
  have keepB : ∀ b u, base.get? b = some u → s.heap.get? b = some u := fun b u e => (e0.bs b u e).1
  have kin := e0.mod.kin.keeps keepB
  subst hfd
  have kinds : ∀ y ∈ ps.zip us, scope.names.lookup y.1 = some .local ∨ (scope.names.lookup y.1 = some .cell ∧ ((cellsFrom (s.heap.objs.size + 1) scope.names []).lookup y.1).isSome = true) := by
    rintro ⟨z, v⟩ hz
    have hz' := S.par z (List.of_mem_zip hz).1
    exact hz'.elim .inl fun q => .inr ⟨q, PySem.W.cellsFrom_some _ _ _ (.inl q)⟩
  refine codeAny_call_function room.depth (kin _ _ lk) rfl S.co S.gen rfl (PySem.W.codeRec_of kin hcd) (bt _ _ _ _ (wpAny_newFunctionEnv_cells S.kind kinds fun env he s1 inC => ?_))
  subst he
  refine ⟨(e0.mod.nolimit.keeps keepB).keeps inC.toInCall.keep, codeAny_func ?_⟩
  let X0 := cxOf CX0 P w K mg base N qual scope f cdv A outer s H E
  have inv : Inv X0 [] (L2.start N vs) H s1 := inv_start S room.hd e0 hl rv inC
  have bd : Body P w K mg base N scope gd k X0.nox := ⟨rfl, rfl, rfl, rfl, rfl, rfl, rfl, rfl, fun _ => rfl, room.deeper _, fun z => hgd z, rfl⟩
  have lenN : vs.length ≤ N.length := by
    have q := congrArg List.length S.pre
    rw [List.length_take] at q
    omega
  cases hf : den (ds ++ List.replicate (N.length - ds.length) .und) with
  | none => unfold semOf at hs; rw [hf] at hs; cases hs
  | some fl =>
    have st0 := StP.start rr nd of sm N lenN
    have pst : Post g ⟨I, H, Fp⟩ mu (L2.start N vs) [] [] { nx := fun _ H' => Q .non H', rt := Q } fl :=
      post_fn rr lenN (fun z => by have := hm z; omega) hs hf post
    have run := hb X0.nox bd ⟨I, H, Fp⟩ I H _ _ [] [] fl _ st0 hf pst
    refine wpAny_mono (run.run [] s1 (inv.wish _)) (fun r s' hr => ?_) fun e s' hr => hr.elim
    have done : ∀ {σ' : L2.St} {H' : Hp} {v : V} {u : Value}, Inv X0.nox [] σ' H' s' → RelV v u → Q v H' → CE outer P w H s Q u s' :=
      fun {σ' H' v u} J rel q => ⟨v, H', J.unwish.os, J.unwish.bare, J.unwish.base, J.unwish.hok, rel, q⟩
    cases r with
    | ret u => obtain ⟨v, σ', H', J, rel, q⟩ := hr; exact done J rel q
    | next => obtain ⟨σ', H', J, q⟩ := hr; exact done (v := V.non) (u := Value.none) J rfl q
    | brk => obtain ⟨_, _, _, q⟩ := hr; exact q.elim
    | cont => obtain ⟨_, _, _, q⟩ := hr; exact q.elim
end DV

set_option Elab.async false
set_option maxRecDepth 100000
set_option maxHeartbeats 4000000
set_option linter.all false
/-! DV5: operators, comparisons, calls of built-ins on deep values. -/
namespace DV
open PySem L2 PySem.Spec PyProof.Rows

/-! ### by values -/
def rO (X : Cx) (f : Value → Value → Sem Value) : R2 := fun x y H Q => ∀ (pins : List (Addr × Obj)) (s : Shared) (σ : L2.St) (v u : Value), Inv X pins σ H s → RelV x v → RelV y u → wpAny (model X.prog X.w) X.A (f v u) (EP X pins σ Q) X.xe s
theorem opO {X : Cx} {f : Value → Value → Sem Value} : OpR X f (rO X f) := fun pins s σ H x y v u Q I rx ry h => h pins s σ v u I rx ry
theorem rO_of {X : Cx} {f : Value → Value → Sem Value} {r : R2} (h : OpR X f r) {x y : V} {H : Hp} {Q : VK} (k : r x y H Q) : rO X f x y H Q := fun pins s σ v u I rx ry => h pins s σ H x y v u Q I rx ry k
def rC (X : Cx) (f : Value) : List V → Hp → VK → Prop := fun xs H Q => ∀ (pins : List (Addr × Obj)) (s : Shared) (σ : L2.St) (us : List Value), Inv X pins σ H s → Vals xs us → wpAny (model X.prog X.w) X.A (call f us) (EP X pins σ Q) X.xe s
theorem opC {X : Cx} {f : Value} : CallR X f (rC X f) := fun pins s σ H xs us Q I r h => h pins s σ us I r
theorem rC_of {X : Cx} {f : Value} {r : List V → Hp → VK → Prop} (h : CallR X f r) {xs : List V} {H : Hp} {Q : VK} (k : r xs H Q) : rC X f xs H Q := fun pins s σ us I rx => h pins s σ H xs us Q I rx k

/-- an operation on fixed values -/
def SndOp (g : G) (X : Cx) (f : Value → Value → Sem Value) (φ : D → D → Option D) : Prop :=
  ∀ (B : Bs) (I H : Hp) (ρ : List D) (σ : L2.St) (ts : List D) (vs : List V) (da db : D) (x y : V) (d : D) (Q : VK), StP g B I H ρ σ ts vs → Rep g I H da x [] → Rep g I H db y [] → φ da db = some d →
    (∀ I' H' v, StP g B I' H' ρ σ (ts ++ [d]) (vs ++ [v]) → Q v H') → rO X f x y H Q
def SndC (g : G) (X : Cx) (f : Value) (φ : List D → Option D) : Prop :=
  ∀ (B : Bs) (I H : Hp) (ρ : List D) (σ : L2.St) (ts : List D) (vs : List V) (ds : List D) (xs : List V) (d : D) (Q : VK), StP g B I H ρ σ ts vs → Reps g I H ds xs [] → φ ds = some d →
    (∀ I' H' v, StP g B I' H' ρ σ (ts ++ [d]) (vs ++ [v]) → Q v H') → rC X f xs H Q

def dBin (φ : D → D → Option D) (fa fb : Den) : Den := fun ρ => match fa ρ with
  | some (da, ρ1) => match fb ρ1 with
    | some (db, ρ2) => match φ (fz da) (fz db) with
      | some d => some (d, ρ2)
      | none => none
    | none => none
  | none => none
def dBlt (φ : List D → Option D) (r : Dens) : Den := fun ρ => match r ρ with
  | some (ds, ρ') => match φ (ds.map fz) with
    | some d => some (d, ρ')
    | none => none
  | none => none

section
variable {g : G} {X : Cx} {B : Bs} {I I' H H' : Hp} {ρ : List D} {σ : L2.St} {ts ds : List D} {vs ws us : List V} {d : D} {v : V} {f : List Addr} {a b e : Expr} {fa fb : Den} {pos : Pos} {φ : D → D → Option D} {xs : List D}

/-! inversions -/
theorem Rep.int_i {i : Int} (h : Rep g I H (.int i) v f) : v = .int i ∧ f = [] := by cases h; exact ⟨rfl, rfl⟩
theorem Rep.bl_i {i : Bool} (h : Rep g I H (.bl i) v f) : v = .bl i ∧ f = [] := by cases h; exact ⟨rfl, rfl⟩
theorem Rep.str_i {i : Str} (h : Rep g I H (.str i) v f) : v = .str i ∧ f = [] := by cases h; exact ⟨rfl, rfl⟩
theorem Rep.non_i (h : Rep g I H .non v f) : v = .non ∧ f = [] := by cases h; exact ⟨rfl, rfl⟩
theorem Rep.lst_i (h : Rep g I H (.lst xs) v f) : ∃ a us, v = .ref a ∧ f = [] ∧ I a = some (.lst us) ∧ Reps g I H xs us [] := by cases h with | lst h r => exact ⟨_, _, rfl, rfl, h, r⟩
theorem Rep.tup_i (h : Rep g I H (.tup xs) v f) : ∃ a us, v = .ref a ∧ f = [] ∧ TpAt g.K I a us ∧ Reps g I H xs us [] := by cases h with | tup h r => exact ⟨_, _, rfl, rfl, h, r⟩
theorem Rep.con_i (h : Rep g I H (.con xs) v f) : ∃ a us, v = .ref a ∧ f = [] ∧ SqL g.K I a us ∧ Reps g I H xs us [] := by cases h with | con h r => exact ⟨_, _, rfl, rfl, h, r⟩
theorem Rep.ins_i {c : Nat} (h : Rep g I H (.ins c xs) v f) : ∃ C a dx us, v = .ref a ∧ f = [] ∧ g.cls c = some C ∧ I a = some (.ins C dx ((g.flds c).zip us)) ∧ Reps g I H xs us [] := by cases h with | ins c h r => exact ⟨_, _, _, _, rfl, rfl, c, h, r⟩
theorem Reps.two {d1 d2 : D} (h : Reps g I H [d1, d2] ws []) : ∃ v1 v2, ws = [v1, v2] ∧ Rep g I H d1 v1 [] ∧ Rep g I H d2 v2 [] := by
  cases hw : (([] : List Addr)) with
  | nil =>
    obtain ⟨vs, vs', f1, f2, rfl, e, h1, h2⟩ := Reps.split (ds := [d1]) (ds' := [d2]) h
    obtain ⟨v1, rfl, r1⟩ := h1.one_inv
    obtain ⟨v2, rfl, r2⟩ := h2.one_inv
    obtain ⟨rfl, rfl⟩ := List.append_eq_nil_iff.mp e.symm
    exact ⟨v1, v2, rfl, r1, r2⟩
  | cons a r => cases hw
theorem Reps.ones {d1 : D} (h : Reps g I H [d1] ws []) : ∃ v1, ws = [v1] ∧ Rep g I H d1 v1 [] := h.one_inv

/-- a new list of fixed values -/
theorem StP.newL {p : Addr} (h : StP g B I H ρ σ ts vs) (n : H p = none) (r : Reps g I H xs us []) : StP g B I (upd H p (.lst us)) ρ σ (ts ++ [.own xs]) (vs ++ [.ref p]) := by
  obtain ⟨F1, F2, h1, h2, nd, of, hF⟩ := h.reps
  have h3 : StP g B I H ρ σ (ts ++ xs) (vs ++ us) := h.step hF (Same.refl _) h.same (fun _ _ e _ => e) (fun _ _ z => z) (fun _ z _ _ => z) ⟨F1, F2, h1, by simpa using h2.append r, nd, fun b hb => ⟨of b hb, .inl hb⟩⟩
  exact h3.laidL r.length n
/-- a new tuple of fixed values -/
theorem StP.newT {p : Addr} (h : StP g B I H ρ σ ts vs) (n : H p = none) (r : Reps g I H xs us []) : StP g B (upd I p (.tup us)) (upd H p (.tup us)) ρ σ (ts ++ [.tup xs]) (vs ++ [.ref p]) :=
  (h.laidI n).push (.tup (.inl upd_same) (r.mono (Same.updN (h.same.free n)) (fun b hb => by cases hb)))

theorem snd_bin {op : Operator} (ho : SndOp g X (binaryOp op) φ) (ha : SndE g X a fa) (hb : SndE g X b fb) : SndE g X (.BinOp a op b pos) (dBin φ fa fb) := by
  intro B I H ρ σ ts vs d ρ' Q h q k
  unfold dBin at q
  cases q1 : fa ρ with
  | none => rw [q1] at q; cases q
  | some z =>
    obtain ⟨da, ρ1⟩ := z
    rw [q1] at q
    dsimp only at q
    cases q2 : fb ρ1 with
    | none => rw [q2] at q; cases q
    | some z =>
      obtain ⟨db, ρ2⟩ := z
      rw [q2] at q
      dsimp only at q
      cases q3 : φ (fz da) (fz db) with
      | none => rw [q3] at q; cases q
      | some d0 =>
        rw [q3] at q; cases q
        refine mx_of (pe_op opO pe_mx pe_mx) ?_
        refine ha B I H ρ σ ts vs da ρ1 _ h q1 fun I1 H1 x h1 => ?_
        refine hb B I1 H1 ρ1 σ _ _ db _ _ h1 q2 fun I2 H2 y h2 => ?_
        have h2' : StP g B I2 H2 ρ' σ (ts ++ [da, db]) (vs ++ [x, y]) := by simpa using h2
        obtain ⟨I3, si, h3, rr⟩ := h2'.fzTop rfl
        obtain ⟨v1, v2, e, r1, r2⟩ := Reps.two rr
        cases e
        exact ho B I3 H2 ρ' σ ts vs _ _ x y d Q (h3.pop rfl) r1 r2 q3 k
/-- where the right side is no set display -/
def noSet : Expr → Bool
  | .Set _ _ _ => false
  | _ => true
theorem marks_no {op : CmpOp} (h : noSet b = true) : behindInMarks op b = false := by
  cases b <;> first | rfl | cases h
theorem snd_cmp {op : CmpOp} (ho : SndOp g X (compareOp op) φ) (hs : noSet b = true) (ha : SndE g X a fa) (hb : SndE g X b fb) : SndE g X (.Compare a [op] [b] pos) (dBin φ fa fb) := by
  intro B I H ρ σ ts vs d ρ' Q h q k
  unfold dBin at q
  cases q1 : fa ρ with
  | none => rw [q1] at q; cases q
  | some z =>
    obtain ⟨da, ρ1⟩ := z
    rw [q1] at q
    dsimp only at q
    cases q2 : fb ρ1 with
    | none => rw [q2] at q; cases q
    | some z =>
      obtain ⟨db, ρ2⟩ := z
      rw [q2] at q
      dsimp only at q
      cases q3 : φ (fz da) (fz db) with
      | none => rw [q3] at q; cases q
      | some d0 =>
        rw [q3] at q; cases q
        refine mx_of (pe_cmpR opO pe_mx pe_mx (marks_no hs)) ?_
        refine ha B I H ρ σ ts vs da ρ1 _ h q1 fun I1 H1 x h1 => ?_
        refine hb B I1 H1 ρ1 σ _ _ db _ _ h1 q2 fun I2 H2 y h2 => ?_
        have h2' : StP g B I2 H2 ρ' σ (ts ++ [da, db]) (vs ++ [x, y]) := by simpa using h2
        obtain ⟨I3, si, h3, rr⟩ := h2'.fzTop rfl
        obtain ⟨v1, v2, e, r1, r2⟩ := Reps.two rr
        cases e
        exact ho B I3 H2 ρ' σ ts vs _ _ x y d Q (h3.pop rfl) r1 r2 q3 k
/-- as a test: the answer a truth -/
def tOf (f : Den) : DenT := fun ρ => match f ρ with
  | some (.bl b, ρ') => some (b, ρ')
  | _ => none
theorem tOf_some {f : Den} {ρ ρ' : List D} {b : Bool} (h : tOf f ρ = some (b, ρ')) : f ρ = some (.bl b, ρ') := by
  unfold tOf at h
  split at h
  · cases h; assumption
  · cases h
theorem StP.topBl {t : Bool} (h : StP g B I H ρ σ (ts ++ [.bl t]) (vs ++ [v])) : v = .bl t ∧ StP g B I H ρ σ ts vs := by
  obtain ⟨F1, F2, h1, h2, _⟩ := h.reps
  obtain ⟨f, f', _, _, r2⟩ := h2.split' rfl
  obtain ⟨w, ew, r⟩ := r2.one_inv
  cases ew
  exact ⟨r.bl_i.1, h.pop rfl⟩
theorem snd_cmpT {op : CmpOp} (ho : SndOp g X (compareOp op) φ) (hs : noSet b = true) (ha : SndE g X a fa) (hb : SndE g X b fb) : SndT g X (.Compare a [op] [b] pos) (tOf (dBin φ fa fb)) := by
  intro B I H ρ σ ts vs t ρ' Q h q k
  refine ⟨fun pins s Iv => ?_⟩
  refine wpAny_isTrue_Compare1 ?_ (marks_no hs)
  -- the comparison as a value, unfolded
  unfold dBin at q
  have e2 := tOf_some q
  cases q1 : fa ρ with
  | none => rw [q1] at e2; cases e2
  | some z =>
    obtain ⟨da, ρ1⟩ := z
    rw [q1] at e2
    dsimp only at e2
    cases q2 : fb ρ1 with
    | none => rw [q2] at e2; cases e2
    | some z =>
      obtain ⟨db, ρ2⟩ := z
      rw [q2] at e2
      dsimp only at e2
      cases q3 : φ (fz da) (fz db) with
      | none => rw [q3] at e2; cases e2
      | some d0 =>
        rw [q3] at e2; cases e2
        refine binT pe_mx pe_mx Iv (R := fun x y H2 => rO X (compareOp op) x y H2 fun v H' => ∃ c, v = .bl c ∧ Q c H') ?_ ?_
        · refine ha B I H ρ σ ts vs da ρ1 _ h q1 fun I1 H1 x h1 => ?_
          refine hb B I1 H1 ρ1 σ _ _ db _ _ h1 q2 fun I2 H2 y h2 => ?_
          have h2' : StP g B I2 H2 ρ' σ (ts ++ [da, db]) (vs ++ [x, y]) := by simpa using h2
          obtain ⟨I3, si, h3, rr⟩ := h2'.fzTop rfl
          obtain ⟨v1, v2, e, r1, r2⟩ := Reps.two rr
          cases e
          exact ho B I3 H2 ρ' σ ts vs _ _ x y _ _ (h3.pop rfl) r1 r2 q3 (fun I' H' v h' => ⟨t, h'.topBl.1, k I' H' h'.topBl.2⟩)
        · intro v u s2 x y H2 I2 rx ry r
          refine thn (r pins s2 σ v u I2 rx ry) fun c s3 ⟨z, H3, I3, rz, c', ez, qq⟩ => ?_
          subst ez
          cases rz
          exact wpAny_truthy_bool ⟨H3, I3, qq⟩
end
end DV

set_option Elab.async false
set_option maxRecDepth 100000
set_option maxHeartbeats 4000000
set_option linter.all false
/-! DV6: the operators on deep values. -/
namespace DV
open PySem L2 PySem.Spec PyProof.Rows

def addB : D → D → Option D
  | .int i, .int j => some (.int (i + j))
  | .str x, .str y => if x.length + y.length ≤ 100000 then some (.str (x ++ y)) else none
  | .lst xs, .lst ys => if xs.length + ys.length ≤ 100000 then some (.own (xs ++ ys)) else none
  | .tup xs, .tup ys => if xs.length + ys.length ≤ 100000 then some (.tup (xs ++ ys)) else none
  | _, _ => none
def subB : D → D → Option D
  | .int i, .int j => some (.int (i - j))
  | _, _ => none
/-- x * n, a text -/
def repS (x : Str) (n : Int) : Str := if n < 1 then Str.empty else if (n == 1 || x.length == 0) = true then x else ⟨(List.replicate n.toNat x.cps).foldl (· ++ ·) #[]⟩
def mulB : D → D → Option D
  | .int i, .int j => if i.natAbs.log2 + j.natAbs.log2 < 1000000 then some (.int (i * j)) else none
  | .lst xs, .int k => if 0 ≤ k ∧ k ≤ 1000 ∧ xs.length ≤ 1000 then some (.own (List.replicate k.toNat xs).flatten) else none
  | .str x, .int k => if 0 ≤ k ∧ k ≤ 1000 ∧ x.length ≤ 1000 then some (.str (repS x k)) else none
  | _, _ => none
def divB : D → D → Option D
  | .int i, .int j => if j ≠ 0 ∧ j.natAbs.log2 < 9000 then some (.int (i.fdiv j)) else none
  | _, _ => none
def modB : D → D → Option D
  | .int i, .int j => if j ≠ 0 then some (.int (i.fmod j)) else none
  | _, _ => none
def powB : D → D → Option D
  | .int i, .int j => if 0 ≤ j ∧ j ≤ 1000000 ∧ i.natAbs < 2 ^ 64 then some (.int (i ^ j.toNat)) else none
  | _, _ => none
def cmpB (p : Int → Int → Bool) : D → D → Option D
  | .int i, .int j => some (.bl (p i j))
  | _, _ => none
def ltB : D → D → Option D
  | .int i, .int j => some (.bl (decide (i < j)))
  | .str x, .str y => some (.bl (decide (x.cps.toList < y.cps.toList)))
  | _, _ => none
def D.isN : D → Bool
  | .non => true
  | _ => false
def isNonB (neg : Bool) : D → D → Option D
  | d, .non => some (.bl (neg != d.isN))
  | .bl a, .bl b => some (.bl (neg != decide (a = b)))
  | _, _ => none

mutual
/-- plain data -/
def toPy : D → Option PyData
  | .non => some .none
  | .bl b => some (.bool b)
  | .int i => some (.int i)
  | .str x => some (.str x)
  | .lst xs => (toPys xs).map .list
  | .tup xs => (toPys xs).map .tuple
  | .con xs => (toPys xs).map .list
  | _ => none
def toPys : List D → Option (List PyData)
  | [] => some []
  | d :: r => match toPy d, toPys r with
    | some p, some ps => some (p :: ps)
    | _, _ => none
end
def eqB (neg : Bool) (a b : D) : Option D := match toPy a, toPy b with
  | some p, some q => if SeqAt.shaped p = true ∧ SeqAt.shaped q = true then some (.bl (neg != PyData.eqv p q)) else none
  | _, _ => none

section
variable {g : G} {X : Cx} {B : Bs} {I I' H H' : Hp} {ρ : List D} {σ : L2.St} {ts ds : List D} {vs ws us : List V} {d : D} {v : V} {f : List Addr} {a b e : Expr} {fa fb : Den} {pos : Pos}

theorem line100 {n : Nat} (h : n ≤ 100000) : n ≤ sizeLine := by rw [sizeLine_eq]; omega
theorem Reps.app0 {ds ds' : List D} (h : Reps g I H ds vs []) (k : Reps g I H ds' ws []) : Reps g I H (ds ++ ds') (vs ++ ws) [] := by simpa using h.append k
theorem Reps.rep0 {ds : List D} (h : Reps g I H ds vs []) : ∀ k : Nat, Reps g I H (List.replicate k ds).flatten (List.replicate k vs).flatten []
  | 0 => .nil
  | k + 1 => by
    rw [List.replicate_succ, List.replicate_succ, List.flatten_cons, List.flatten_cons]
    exact h.app0 (Reps.rep0 h k)

theorem snd_add (hK : X.K = g.K) : SndOp g X (binaryOp .Add) addB := by
  intro B I H ρ σ ts vs da db x y d Q h r1 r2 e k
  unfold addB at e
  split at e
  · cases e
    obtain ⟨rfl, _⟩ := r1.int_i
    obtain ⟨rfl, _⟩ := r2.int_i
    exact rO_of op_add ⟨_, _, rfl, rfl, k I H _ (h.push .int)⟩
  · split at e <;> cases e
    rename_i hl
    obtain ⟨rfl, _⟩ := r1.str_i
    obtain ⟨rfl, _⟩ := r2.str_i
    exact rO_of op_add_str ⟨_, _, rfl, rfl, line100 hl, k I H _ (h.push .str)⟩
  · split at e <;> cases e
    rename_i hl
    obtain ⟨p, us, rfl, _, h1, q1⟩ := r1.lst_i
    obtain ⟨p', us', rfl, _, h2, q2⟩ := r2.lst_i
    exact rO_of op_cat ⟨p, p', us, us', rfl, rfl, h.same _ _ h1, h.same _ _ h2, line100 (by rw [← q1.length, ← q2.length]; exact hl), fun l hl => k I _ _ (h.newL hl (q1.app0 q2))⟩
  · split at e <;> cases e
    rename_i xs ys hl
    obtain ⟨p, us, rfl, _, h1, q1⟩ := r1.tup_i
    obtain ⟨p', us', rfl, _, h2, q2⟩ := r2.tup_i
    refine rO_of op_catA ⟨p, p', us, us', rfl, rfl, hK ▸ (h1.same h.same).sq, hK ▸ (h2.same h.same).sq, line100 (by rw [← q1.length, ← q2.length]; exact hl), fun z => ?_, fun _ z => ?_, fun _ _ l hl => k _ _ _ (h.newT hl (q1.app0 q2))⟩
    · subst z
      cases q1
      exact k I H _ (h.push r2)
    · subst z
      cases q2
      rw [List.append_nil] at k
      exact k I H _ (h.push r1)
  · cases e
theorem snd_sub : SndOp g X (binaryOp .Sub) subB := by
  intro B I H ρ σ ts vs da db x y d Q h r1 r2 e k
  unfold subB at e
  split at e <;> cases e
  obtain ⟨rfl, _⟩ := r1.int_i
  obtain ⟨rfl, _⟩ := r2.int_i
  exact rO_of op_sub ⟨_, _, rfl, rfl, k I H _ (h.push .int)⟩
theorem rep_size (n : Nat) (a : Array Nat) : ∀ acc : Array Nat, ((List.replicate n a).foldl (· ++ ·) acc).size = acc.size + n * a.size := by
  induction n with
  | zero => intro acc; simp
  | succ n ih => intro acc; rw [List.replicate_succ, List.foldl_cons, ih, Array.size_append, Nat.succ_mul]; omega
theorem op_rpS {X : Cx} : OpR X (binaryOp .Mult) (fun x y H Q => ∃ (s : Str) (n : Int), x = .str s ∧ y = .int n ∧ 0 ≤ n ∧ n ≤ 1000 ∧ s.length ≤ 1000 ∧ Q (.str (repS s n)) H) := by
  intro pins s σ H x y v u Q I rx ry h
  obtain ⟨x, n, rfl, rfl, h0, h1, h2, q⟩ := h
  obtain ⟨t, rfl⟩ := rx
  obtain ⟨t', rfl⟩ := ry
  have hm : x.length * n.toNat ≤ 1000000 := Nat.mul_le_mul h2 (by omega : n.toNat ≤ 1000)
  refine PySem.P.mul_str (by rw [decide_eq_false (by omega), decide_eq_false (by omega)]; rfl) (fun z1 _ => ?_) (fun _ _ => ?_) ?_
  · have : (1000 : Int) ≤ (2 ^ 63 - 1) / n := by
      rw [Int.le_ediv_iff_mul_le (by omega)]
      omega
    omega
  · unfold PySem.Builtin.Str.tooLong
    rw [decide_eq_false (by rw [sizeLine_eq]; omega)]
  · unfold repS at q
    split
    · rename_i w
      rw [if_pos w] at q
      exact ⟨by decide, .str Str.empty, H, I.tok _, ⟨_, rfl⟩, q⟩
    · rename_i w
      rw [if_neg w] at q
      split
      · rename_i w2
        rw [if_pos w2] at q
        exact ⟨.str x, H, I, ⟨_, rfl⟩, q⟩
      · rename_i w2
        rw [if_neg w2] at q
        refine ⟨?_, .str _, H, I.tok _, ⟨_, rfl⟩, q⟩
        have : (Str.length ⟨(List.replicate n.toNat x.cps).foldl (· ++ ·) #[]⟩) = n.toNat * x.length := by
          show ((List.replicate n.toNat x.cps).foldl (· ++ ·) #[]).size = _
          rw [rep_size]; simp [Str.length]
        first
          | (rw [this, sizeLine_eq, Nat.mul_comm]; omega)
          | (show PySem.Builtin.Str.tooLong _ = false; unfold PySem.Builtin.Str.tooLong; rw [this, decide_eq_false (by rw [sizeLine_eq, Nat.mul_comm]; omega)])
theorem snd_mul : SndOp g X (binaryOp .Mult) mulB := by
  intro B I H ρ σ ts vs da db x y d Q h r1 r2 e k
  unfold mulB at e
  split at e
  · split at e <;> cases e
    rename_i hl
    obtain ⟨rfl, _⟩ := r1.int_i
    obtain ⟨rfl, _⟩ := r2.int_i
    exact rO_of op_mulW ⟨_, _, rfl, rfl, hl, k I H _ (h.push .int)⟩
  · rename_i xs k0
    split at e <;> cases e
    rename_i hl
    obtain ⟨p, us, rfl, _, h1, q1⟩ := r1.lst_i
    obtain ⟨rfl, _⟩ := r2.int_i
    refine rO_of op_rep ⟨p, _, us, rfl, rfl, h.same _ _ h1, by omega, by omega, ?_, fun l hl => k I _ _ (h.newL hl (q1.rep0 _))⟩
    have e1 := q1.length
    have a1 : us.length ≤ 1000 := by omega
    have a2 : k0.toNat ≤ 1000 := by omega
    have a3 := Nat.mul_le_mul a1 a2
    rw [sizeLine_eq]
    omega
  · split at e <;> cases e
    rename_i hl
    obtain ⟨rfl, _⟩ := r1.str_i
    obtain ⟨rfl, _⟩ := r2.int_i
    exact rO_of op_rpS ⟨_, _, rfl, rfl, hl.1, hl.2.1, hl.2.2, k I H _ (h.push .str)⟩
  · cases e
theorem snd_div : SndOp g X (binaryOp .FloorDiv) divB := by
  intro B I H ρ σ ts vs da db x y d Q h r1 r2 e k
  unfold divB at e
  split at e
  · split at e <;> cases e
    rename_i hl
    obtain ⟨rfl, _⟩ := r1.int_i
    obtain ⟨rfl, _⟩ := r2.int_i
    have op : OpR X (binaryOp .FloorDiv) (rI (fun _ j => j ≠ 0 ∧ j.natAbs.log2 < 9000) fun i j => .int (i.fdiv j)) := opI fun _ _ _ _ _ _ _ hc q => floordiv_int hc.1 q (.inl (PyProof.noPylong_of_log2 hc.2))
    exact rO_of op ⟨_, _, rfl, rfl, hl, k I H _ (h.push .int)⟩
  · cases e
theorem snd_mod : SndOp g X (binaryOp .Mod) modB := by
  intro B I H ρ σ ts vs da db x y d Q h r1 r2 e k
  unfold modB at e
  split at e
  · split at e <;> cases e
    rename_i hl
    obtain ⟨rfl, _⟩ := r1.int_i
    obtain ⟨rfl, _⟩ := r2.int_i
    exact rO_of op_modN ⟨_, _, rfl, rfl, hl, k I H _ (h.push .int)⟩
  · cases e
theorem snd_pow : SndOp g X (binaryOp .Pow) powB := by
  intro B I H ρ σ ts vs da db x y d Q h r1 r2 e k
  unfold powB at e
  split at e
  · split at e <;> cases e
    rename_i hl
    obtain ⟨rfl, _⟩ := r1.int_i
    obtain ⟨rfl, _⟩ := r2.int_i
    exact rO_of op_pow ⟨_, _, rfl, rfl, hl, k I H _ (h.push .int)⟩
  · cases e
theorem snd_cmpI {f : Value → Value → Sem Value} {p : Int → Int → Bool} (ho : OpR X f (rI0 fun i j => .bl (p i j))) : SndOp g X f (cmpB p) := by
  intro B I H ρ σ ts vs da db x y d Q h r1 r2 e k
  unfold cmpB at e
  split at e <;> cases e
  obtain ⟨rfl, _⟩ := r1.int_i
  obtain ⟨rfl, _⟩ := r2.int_i
  exact rO_of ho ⟨_, _, rfl, rfl, k I H _ (h.push .bl)⟩
theorem snd_le : SndOp g X (compareOp .LtE) (cmpB fun i j => decide (i ≤ j)) := snd_cmpI op_le
theorem snd_gt : SndOp g X (compareOp .Gt) (cmpB fun i j => decide (j < i)) := snd_cmpI op_gt
theorem snd_ge : SndOp g X (compareOp .GtE) (cmpB fun i j => decide (j ≤ i)) := snd_cmpI op_ge
theorem snd_lt : SndOp g X (compareOp .Lt) ltB := by
  intro B I H ρ σ ts vs da db x y d Q h r1 r2 e k
  unfold ltB at e
  split at e <;> cases e
  · obtain ⟨rfl, _⟩ := r1.int_i
    obtain ⟨rfl, _⟩ := r2.int_i
    exact rO_of op_lt ⟨_, _, rfl, rfl, k I H _ (h.push .bl)⟩
  · obtain ⟨rfl, _⟩ := r1.str_i
    obtain ⟨rfl, _⟩ := r2.str_i
    exact rO_of op_lt_str ⟨_, _, rfl, rfl, k I H _ (h.push .bl)⟩
theorem Rep.non_iff (r : Rep g I H d v []) : decide (v = .non) = d.isN := by
  cases r <;> rfl
theorem Rep.bl' {p q : Bool} (h : p = q) : Rep g I H (.bl p) (.bl q) [] := by subst h; exact .bl
theorem snd_isN : SndOp g X (compareOp .Is) (isNonB false) := by
  intro B I H ρ σ ts vs da db x y d Q h r1 r2 e k
  unfold isNonB at e
  split at e <;> cases e
  · obtain ⟨rfl, _⟩ := r2.non_i
    refine rO_of op_isN ⟨rfl, ?_⟩
    rw [r1.non_iff]
    exact k I H _ (h.push (Rep.bl' (by simp)))
  · obtain ⟨rfl, _⟩ := r1.bl_i
    obtain ⟨rfl, _⟩ := r2.bl_i
    exact rO_of op_isBl ⟨_, _, rfl, rfl, k I H _ (h.push (Rep.bl' (by simp)))⟩
theorem snd_notN : SndOp g X (compareOp .IsNot) (isNonB true) := by
  intro B I H ρ σ ts vs da db x y d Q h r1 r2 e k
  unfold isNonB at e
  split at e <;> cases e
  · obtain ⟨rfl, _⟩ := r2.non_i
    refine rO_of op_notN ⟨rfl, ?_⟩
    rw [r1.non_iff]
    exact k I H _ (h.push (Rep.bl' (by simp)))
  · obtain ⟨rfl, _⟩ := r1.bl_i
    obtain ⟨rfl, _⟩ := r2.bl_i
    exact rO_of op_notBl ⟨_, _, rfl, rfl, k I H _ (h.push (Rep.bl' (by simp)))⟩

mutual
theorem Rep.dp (s : Same I H) : ∀ {d : D} {v : V} {f : List Addr} {p : PyData}, Rep g I H d v f → toPy d = some p → Dp g.K H v p
  | _, _, _, _, .non, e => by simp only [toPy] at e; cases e; exact .non
  | _, _, _, _, .bl, e => by simp only [toPy] at e; cases e; exact .bl _
  | _, _, _, _, .int, e => by simp only [toPy] at e; cases e; exact .int _
  | _, _, _, _, .str, e => by simp only [toPy] at e; cases e; exact .str _
  | _, _, _, _, .lst h r, e => by
    simp only [toPy, Option.map_eq_some_iff] at e
    obtain ⟨ps, e, rfl⟩ := e
    exact .lst (SqL.of (s _ _ h)) (Reps.dp s r e)
  | _, _, _, _, .con h r, e => by
    simp only [toPy, Option.map_eq_some_iff] at e
    obtain ⟨ps, e, rfl⟩ := e
    exact .lst (Same.seq s h) (Reps.dp s r e)
  | _, _, _, _, .tup h r, e => by
    simp only [toPy, Option.map_eq_some_iff] at e
    obtain ⟨ps, e, rfl⟩ := e
    exact .tup (h.same s).sq (Reps.dp s r e)
  | _, _, _, _, .ty, e => by simp only [toPy] at e; cases e
  | _, _, _, _, .cls _, e => by simp only [toPy] at e; cases e
  | _, _, _, _, .own _ _, e => by simp only [toPy] at e; cases e
  | _, _, _, _, .ins _ _ _, e => by simp only [toPy] at e; cases e
theorem Reps.dp (s : Same I H) : ∀ {ds : List D} {vs : List V} {f : List Addr} {ps : List PyData}, Reps g I H ds vs f → toPys ds = some ps → DpAll g.K H vs ps
  | _, _, _, _, .nil, e => by simp only [toPys] at e; cases e; exact .nil
  | _, _, _, _, .cons h r, e => by
    simp only [toPys] at e
    split at e
    · cases e
      rename_i p ps e1 e2
      exact .cons (Rep.dp s h e1) (Reps.dp s r e2)
    · cases e
end
theorem snd_eq (hK : X.K = g.K) (hu : X.A.units + 64 < cLine) : SndOp g X (compareOp .Eq) (eqB false) := by
  intro B I H ρ σ ts vs da db x y d Q h r1 r2 e k
  unfold eqB at e
  split at e
  · split at e <;> cases e
    rename_i p q e1 e2 hl
    refine rO_of (op_eqD hu) ⟨p, q, hK ▸ r1.dp h.same e1, hK ▸ r2.dp h.same e2, hl.1, hl.2, k I H _ (h.push (Rep.bl' (by simp)))⟩
  · cases e
theorem snd_ne (hK : X.K = g.K) (hu : X.A.units + 64 < cLine) : SndOp g X (compareOp .NotEq) (eqB true) := by
  intro B I H ρ σ ts vs da db x y d Q h r1 r2 e k
  unfold eqB at e
  split at e
  · split at e <;> cases e
    rename_i p q e1 e2 hl
    refine rO_of (op_neD hu) ⟨p, q, hK ▸ r1.dp h.same e1, hK ▸ r2.dp h.same e2, hl.1, hl.2, k I H _ (h.push (Rep.bl' (by simp)))⟩
  · cases e
end
end DV

set_option Elab.async false
set_option maxRecDepth 100000
set_option maxHeartbeats 4000000
set_option linter.all false
/-! DV7: tests, and, or, not; calls of defs as expressions; calls of built-ins. -/
namespace DV
open PySem L2 PySem.Spec PyProof.Rows

def tNotD (f : DenT) : DenT := fun ρ => match f ρ with
  | some (b, ρ') => some (!b, ρ')
  | none => none
def tAndD (f r : DenT) : DenT := fun ρ => match f ρ with
  | some (true, ρ') => r ρ'
  | some (false, ρ') => some (false, ρ')
  | none => none
def tOrD (f r : DenT) : DenT := fun ρ => match f ρ with
  | some (true, ρ') => some (true, ρ')
  | some (false, ρ') => r ρ'
  | none => none
/-- a truth as a value -/
def dOf (f : DenT) : Den := fun ρ => match f ρ with
  | some (b, ρ') => some (.bl b, ρ')
  | none => none
def dIf (c : DenT) (a b : Den) : Den := fun ρ => match c ρ with
  | some (true, ρ') => a ρ'
  | some (false, ρ') => b ρ'
  | none => none
/-- expressions whose test is the truth of their value -/
def plainT : Expr → Bool
  | .UnaryOp .Not _ _ | .BoolOp _ _ _ | .IfExp _ _ _ _ | .Compare _ _ _ _ => false
  | _ => true

section
variable {g : G} {X : Cx} {B : Bs} {I I' H H' : Hp} {ρ : List D} {σ : L2.St} {ts ds : List D} {vs ws us : List V} {d : D} {v : V} {f : List Addr} {a b e c : Expr} {fa fb fe : Den} {ft fu : DenT} {pos : Pos} {rest : List Expr}

theorem plain_test (h : plainT e = true) (env : Env) (whole : PySem.Sem Value) : isTrue e env whole = (do let v ← whole; standAt e.pos; holding [v] (truthy v)) := by
  cases e with
  | UnaryOp op x p => cases op <;> first | rfl | cases h
  | BoolOp _ _ _ => cases h
  | IfExp _ _ _ _ => cases h
  | Compare _ _ _ _ => cases h
  | _ => rfl
theorem snd_tval (hp : plainT e = true) (he : SndE g X e fe) : SndT g X e (tOf fe) := by
  intro B I H ρ σ ts vs t ρ' Q h q k
  exact mxT_of (pt_val pe_mx (plain_test hp _)) (he B I H ρ σ ts vs _ ρ' _ h (tOf_some q) fun I' H' v h' => ⟨t, h'.topBl.1, k I' H' h'.topBl.2⟩)
theorem snd_tnot (he : SndT g X e ft) : SndT g X (.UnaryOp .Not e pos) (tNotD ft) := by
  intro B I H ρ σ ts vs t ρ' Q h q k
  unfold tNotD at q
  cases q1 : ft ρ with
  | none => rw [q1] at q; cases q
  | some z =>
    obtain ⟨b, ρ1⟩ := z
    rw [q1] at q; cases q
    exact mxT_of (pt_not pt_mx) (he B I H ρ σ ts vs b _ _ h q1 k)
/-- a test whatever its whole is -/
def SndW (g : G) (X : Cx) (e : Expr) (f : DenT) : Prop :=
  ∀ (B : Bs) (I H : Hp) (ρ : List D) (σ : L2.St) (ts : List D) (vs : List V) (b : Bool) (ρ' : List D) (Q : Bool → Hp → Prop), StP g B I H ρ σ ts vs → f ρ = some (b, ρ') →
    (∀ I' H', StP g B I' H' ρ' σ ts vs → Q b H') → ∀ (whole : PySem.Sem Value) (pins : List (Addr × Obj)) (s : Shared), Inv X pins σ H s → wpAny (model X.prog X.w) X.A (isTrue e X.env whole) (TP X pins σ Q) X.xe s
def mxW (X : Cx) (e : Expr) : TT := fun σ H Q => ∀ (whole : PySem.Sem Value) (pins : List (Addr × Obj)) (s : Shared), Inv X pins σ H s → wpAny (model X.prog X.w) X.A (isTrue e X.env whole) (TP X pins σ Q) X.xe s
theorem pw_mx : PW X e (mxW X e) := ⟨fun w pins s _ _ _ I h => h w pins s I⟩
theorem SndW.t (h : SndW g X e ft) : SndT g X e ft := fun B I H ρ σ ts vs b ρ' Q hs q k => ⟨fun pins s Iv => h B I H ρ σ ts vs b ρ' Q hs q k _ pins s Iv⟩
theorem snd_and1 (h : SndT g X a ft) : SndW g X (.BoolOp .And [a] pos) ft := fun B I H ρ σ ts vs b ρ' Q hs q k w pins s Iv =>
  (pw_and1 pt_mx).run w pins s σ H Q Iv (h B I H ρ σ ts vs b ρ' Q hs q k)
theorem snd_or1 (h : SndT g X a ft) : SndW g X (.BoolOp .Or [a] pos) ft := fun B I H ρ σ ts vs b ρ' Q hs q k w pins s Iv =>
  (pw_or1 pt_mx).run w pins s σ H Q Iv (h B I H ρ σ ts vs b ρ' Q hs q k)
theorem snd_andc (h : SndT g X a ft) (h2 : SndW g X (.BoolOp .And (b :: rest) pos) fu) : SndW g X (.BoolOp .And (a :: b :: rest) pos) (tAndD ft fu) := by
  intro B I H ρ σ ts vs t ρ' Q hs q k w pins s Iv
  unfold tAndD at q
  refine (pw_and pt_mx pw_mx).run w pins s σ H Q Iv ?_
  cases q1 : ft ρ with
  | none => rw [q1] at q; cases q
  | some z =>
    obtain ⟨c, ρ1⟩ := z
    rw [q1] at q
    refine h B I H ρ σ ts vs c ρ1 _ hs q1 fun I1 H1 h1 => ?_
    cases c with
    | true => exact iteT (fun w pins s Iv => h2 B I1 H1 ρ1 σ ts vs t ρ' Q h1 q k w pins s Iv)
    | false => cases q; exact iteF (k I1 H1 h1)
theorem snd_orc (h : SndT g X a ft) (h2 : SndW g X (.BoolOp .Or (b :: rest) pos) fu) : SndW g X (.BoolOp .Or (a :: b :: rest) pos) (tOrD ft fu) := by
  intro B I H ρ σ ts vs t ρ' Q hs q k w pins s Iv
  unfold tOrD at q
  refine (pw_or pt_mx pw_mx).run w pins s σ H Q Iv ?_
  cases q1 : ft ρ with
  | none => rw [q1] at q; cases q
  | some z =>
    obtain ⟨c, ρ1⟩ := z
    rw [q1] at q
    refine h B I H ρ σ ts vs c ρ1 _ hs q1 fun I1 H1 h1 => ?_
    cases c with
    | false => exact iteF (fun w pins s Iv => h2 B I1 H1 ρ1 σ ts vs t ρ' Q h1 q k w pins s Iv)
    | true => cases q; exact iteT (k I1 H1 h1)
/-! as values: truths on both sides -/
theorem snd_vone {op : BoolOp} (h : SndE g X a fe) : SndE g X (.BoolOp op [a] pos) fe := fun B I H ρ σ ts vs d ρ' Q hs q k => mx_of (pe_one pe_mx) (h B I H ρ σ ts vs d ρ' Q hs q k)
def dAnd (f r : Den) : Den := fun ρ => match f ρ with
  | some (.bl true, ρ') => r ρ'
  | some (.bl false, ρ') => some (.bl false, ρ')
  | _ => none
def dOr (f r : Den) : Den := fun ρ => match f ρ with
  | some (.bl false, ρ') => r ρ'
  | some (.bl true, ρ') => some (.bl true, ρ')
  | _ => none
def dNot (f : Den) : Den := fun ρ => match f ρ with
  | some (.bl b, ρ') => some (.bl (!b), ρ')
  | _ => none
theorem snd_vand (h : SndE g X a fa) (h2 : SndE g X (.BoolOp .And (b :: rest) pos) fb) : SndE g X (.BoolOp .And (a :: b :: rest) pos) (dAnd fa fb) := by
  intro B I H ρ σ ts vs d ρ' Q hs q k
  unfold dAnd at q
  refine mx_of (pe_and pe_mx pe_mx) ?_
  split at q
  · rename_i ρ1 q1
    refine h B I H ρ σ ts vs _ ρ1 _ hs q1 fun I1 H1 v h1 => ⟨true, h1.topBl.1, iteT (h2 B I1 H1 ρ1 σ ts vs d ρ' Q h1.topBl.2 q k)⟩
  · rename_i ρ1 q1
    cases q
    refine h B I H ρ σ ts vs _ ρ' _ hs q1 fun I1 H1 v h1 => ⟨false, h1.topBl.1, iteF (k I1 H1 _ (h1.topBl.2.push .bl))⟩
  · cases q
theorem snd_vor (h : SndE g X a fa) (h2 : SndE g X (.BoolOp .Or (b :: rest) pos) fb) : SndE g X (.BoolOp .Or (a :: b :: rest) pos) (dOr fa fb) := by
  intro B I H ρ σ ts vs d ρ' Q hs q k
  unfold dOr at q
  refine mx_of (pe_or pe_mx pe_mx) ?_
  split at q
  · rename_i ρ1 q1
    refine h B I H ρ σ ts vs _ ρ1 _ hs q1 fun I1 H1 v h1 => ⟨false, h1.topBl.1, iteF (h2 B I1 H1 ρ1 σ ts vs d ρ' Q h1.topBl.2 q k)⟩
  · rename_i ρ1 q1
    cases q
    refine h B I H ρ σ ts vs _ ρ' _ hs q1 fun I1 H1 v h1 => ⟨true, h1.topBl.1, iteT (k I1 H1 _ (h1.topBl.2.push .bl))⟩
  · cases q
theorem snd_vnot (h : SndE g X a fa) : SndE g X (.UnaryOp .Not a pos) (dNot fa) := by
  intro B I H ρ σ ts vs d ρ' Q hs q k
  unfold dNot at q
  split at q
  · rename_i t ρ1 q1
    cases q
    exact mx_of (pe_not pe_mx) (h B I H ρ σ ts vs _ ρ' _ hs q1 fun I1 H1 v h1 => ⟨t, h1.topBl.1, k I1 H1 _ (h1.topBl.2.push .bl)⟩)
  · cases q
theorem snd_vif (hc : SndT g X c ft) (ha : SndE g X a fa) (hb : SndE g X b fb) : SndE g X (.IfExp c a b pos) (dIf ft fa fb) := by
  intro B I H ρ σ ts vs d ρ' Q hs q k
  unfold dIf at q
  refine mx_of (pe_ifExp pt_mx pe_mx pe_mx) ?_
  split at q
  · rename_i ρ1 q1
    exact hc B I H ρ σ ts vs _ ρ1 _ hs q1 fun I1 H1 h1 => iteT (ha B I1 H1 ρ1 σ ts vs d ρ' Q h1 q k)
  · rename_i ρ1 q1
    exact hc B I H ρ σ ts vs _ ρ1 _ hs q1 fun I1 H1 h1 => iteF (hb B I1 H1 ρ1 σ ts vs d ρ' Q h1 q k)
  · cases q
theorem snd_tif {fv fw : DenT} (hc : SndT g X c ft) (ha : SndT g X a fv) (hb : SndT g X b fw) : SndT g X (.IfExp c a b pos) (fun ρ => match ft ρ with | some (true, ρ') => fv ρ' | some (false, ρ') => fw ρ' | none => none) := by
  intro B I H ρ σ ts vs t ρ' Q hs q k
  refine ⟨fun pins s Iv => ?_⟩
  dsimp only at q
  have e : isTrue (.IfExp c a b pos) X.env (eval (.IfExp c a b pos) X.env) = (do if ← isTrue c X.env (eval c X.env) then isTrue a X.env (eval a X.env) else isTrue b X.env (eval b X.env)) := rfl
  rw [e]
  refine wpAny_bind ?_
  split at q
  · rename_i ρ1 q1
    refine thn ((hc B I H ρ σ ts vs _ ρ1 (fun t' H' => t' = true ∧ mxT X a σ H' Q) hs q1 fun I1 H1 h1 => ⟨rfl, ha B I1 H1 ρ1 σ ts vs t ρ' Q h1 q k⟩).run pins s Iv) fun r s1 ⟨H1, I1, er, m⟩ => ?_
    subst er
    exact m.run pins s1 I1
  · rename_i ρ1 q1
    refine thn ((hc B I H ρ σ ts vs _ ρ1 (fun t' H' => t' = false ∧ mxT X b σ H' Q) hs q1 fun I1 H1 h1 => ⟨rfl, hb B I1 H1 ρ1 σ ts vs t ρ' Q h1 q k⟩).run pins s Iv) fun r s1 ⟨H1, I1, er, m⟩ => ?_
    subst er
    exact m.run pins s1 I1
  · cases q
/-- a < b < c: b asked once -/
def dChain (φ ψ : D → D → Option D) (fa fb fc : Den) : Den := fun ρ => match fa ρ with
  | some (da, ρ1) => match fb ρ1 with
    | some (db, ρ2) => match φ (fz da) (fz db) with
      | some (.bl true) => match fc ρ2 with
        | some (dc, ρ3) => match ψ (fz db) (fz dc) with
          | some (.bl t) => some (.bl t, ρ3)
          | _ => none
        | none => none
      | some (.bl false) => some (.bl false, ρ2)
      | _ => none
    | none => none
  | none => none
end

/-! ### calls of defs -/
/-- no star among the arguments -/
def noStar : Expr → Bool
  | .Starred _ _ => false
  | _ => true
def noStars (es : List Expr) : Bool := es.all noStar
section
variable {g : G} {X : Cx} {x : Str} {p pos : Pos} {e : Expr} {es : List Expr} {gd : Bool} {n : Nat} {fn : Fn} {r : Dens} {fe : Den}
theorem noStar_ne (h : noStar e = true) : ∀ v p, e ≠ .Starred v p := fun v p z => by subst z; cases h
theorem noStars_ne (h : noStars es = true) : ∀ v p, Expr.Starred v p ∉ es := fun v p z => by
  have := List.all_eq_true.mp h _ z
  cases this
theorem snd_callP (C : CallOk X x gd n (spD g false n fn)) (hg : Gl X x) (hd : (x == ("__debug__" : Str)) = false) (hs : noStars (e :: es) = true) (hn : (e :: es).length = n) (hr : SndL g X (e :: es) r) : SndE g X (.Call (.Name x p) (e :: es) [] pos) (dCallP fn r) := by
  intro B I H ρ σ ts vs d ρ' Q h q k
  unfold dCallP at q
  cases q1 : r ρ with
  | none => rw [q1] at q; cases q
  | some z =>
    obtain ⟨ds, ρ1⟩ := z
    rw [q1] at q
    dsimp only at q
    cases q2 : fn (ds.map fz) with
    | none => rw [q2] at q; cases q
    | some z =>
      obtain ⟨d0, o⟩ := z
      rw [q2] at q; cases q
      have hs' : noStar e = true ∧ noStars es = true := by simpa [noStars] using hs
      exact C.run hg hd (noStar_ne hs'.1) (noStars_ne hs'.2) (hr B I H ρ σ ts vs ds _ _ h q1 fun I1 H1 ws h1 hl hw => h1.callP hl q2 (hw.trans hn) k)
theorem snd_callT (C : CallOk X x gd n (spD g true n fn)) (hg : Gl X x) (hd : (x == ("__debug__" : Str)) = false) (hs : noStars (e :: es) = true) (hn : (e :: es).length = n) (he : SndE g X e fe) (hr : SndL g X es r) : SndE g X (.Call (.Name x p) (e :: es) [] pos) (dCallT fn fe r) := by
  intro B I H ρ σ ts vs d ρ' Q h q k
  unfold dCallT at q
  cases q0 : fe ρ with
  | none => rw [q0] at q; cases q
  | some z =>
    obtain ⟨d0, ρ0⟩ := z
    rw [q0] at q
    dsimp only at q
    cases q1 : r ρ0 with
    | none => rw [q1] at q; cases q
    | some z =>
      obtain ⟨ds, ρ1⟩ := z
      rw [q1] at q
      dsimp only at q
      cases q2 : fn (d0 :: ds.map fz) with
      | none => rw [q2] at q; cases q
      | some z =>
        obtain ⟨d1, o⟩ := z
        rw [q2] at q; cases q
        have hs' : noStar e = true ∧ noStars es = true := by simpa [noStars] using hs
        have key : SndL g X (e :: es) (dCons fe r) := snd_cons he hr (noStar_ne hs'.1)
        refine C.run hg hd (noStar_ne hs'.1) (noStars_ne hs'.2) (key B I H ρ σ ts vs (d0 :: ds) _ _ h (by unfold dCons; rw [q0]; dsimp only; rw [q1]) fun I1 H1 ws h1 hl hw => ?_)
        cases ws with
        | nil => cases hl
        | cons v0 ws => exact h1.callT (by simpa using hl) q2 (by simpa using hw.trans hn) k
/-- the first argument the name in slot i -/
theorem snd_callR {i : Nat} {y : Str} {p' : Pos} (C : CallOk X x gd n (spD g true n fn)) (hg : Gl X x) (hd : (x == ("__debug__" : Str)) = false) (hs : noStars es = true) (hn : es.length + 1 = n)
    (hN : X.N[i]? = some y) (hv : Vis X.env.scope y) (hyd : (y == ("__debug__" : Str)) = false) (hcd : (y == ("__classdict__" : Str)) = false) (hr : SndL g X es r) : SndE g X (.Call (.Name x p) (.Name y p' :: es) [] pos) (dCallR fn i r) := by
  intro B I H ρ σ ts vs d ρ' Q h q k
  unfold dCallR at q
  split at q
  · rename_i h0
    cases q1 : r ρ with
    | none => rw [q1] at q; cases q
    | some z =>
      obtain ⟨ds, ρ1⟩ := z
      rw [q1] at q
      dsimp only at q
      split at q
      · rename_i h1'
        obtain ⟨d0, q0, hu⟩ := held_some h1'
        have eg : ρ1.getD i .und = d0 := by rw [List.getD_eq_getElem?_getD, q0]; rfl
        rw [eg] at q
        cases q2 : fn (d0 :: ds.map fz) with
        | none => rw [q2] at q; cases q
        | some z =>
          obtain ⟨d1, o⟩ := z
          rw [q2] at q; cases q
          refine C.run hg hd (noStar_ne rfl) (noStars_ne hs) ?_
          obtain ⟨dz, ez, hz⟩ := held_some h0
          obtain ⟨v0, _, e0, _⟩ := h.var ez hz
          refine mxA_of (pa_cons (es := es) (pe_var hN hv hyd hcd) pa_mx rfl) ⟨v0, e0, ?_⟩
          refine hr B I H ρ σ ts vs ds ρ1 _ h q1 fun I1 H1 ws h1 hl hw => ?_
          obtain ⟨v1, e1, sp⟩ := h1.callR (n := n) hl q0 hu q2 (by omega) k
          rw [e0] at e1
          cases e1
          exact sp
      · cases q
  · cases q
end
end DV

set_option Elab.async false
set_option maxRecDepth 100000
set_option maxHeartbeats 4000000
set_option linter.all false
/-! DV8: calls of built-ins on deep values. -/
namespace DV
open PySem L2 PySem.Spec PyProof.Rows

def kinds : List String := ["NoneType", "bool", "int", "str", "list", "tuple", "dict"]
/-- what isinstance asks of an own class -/
structure ClsFacts (g : G) (c : Nat) (C : Addr) : Prop where
  cl : Cls g.K C
  ha : PySem.W.findIn g.K (.ref C) "__class__" = some (some (.builtin "object.__class__"))
  hn : PySem.W.specialIn g.K (.builtin "object.__class__") "__get__" = some (some (.builtin "getset_descriptor.__get__"))
  htk : PySem.W.takesIn g.K (.builtin "object.__class__") = some true
  hm : PySem.W.mroIn g.K C (.type "object") = some true
  bt : ∀ n ∈ kinds, PySem.W.kitOne g.K (.type n) (.ref C) = some false
  tb : ∀ n ∈ kinds, PySem.W.kitOne g.K (.ref C) (.type n) = some false
structure GOk (g : G) : Prop where
  cls : ∀ c C, g.cls c = some C → ClsFacts g c C
  apart : ∀ c c' C C', g.cls c = some C → g.cls c' = some C' → c ≠ c' → PySem.W.kitOne g.K (.ref C) (.ref C') = some false

/-- the built-in type of a value -/
def tyS : D → Option String
  | .non => some "NoneType"
  | .bl _ => some "bool"
  | .int _ => some "int"
  | .str _ => some "str"
  | .lst _ | .con _ => some "list"
  | .tup _ => some "tuple"
  | .dic _ _ => some "dict"
  | _ => none
/-- a built-in type, or an own class -/
def kd : D → Option (Sum String Nat)
  | .ins c _ => some (.inr c)
  | d => (tyS d).map .inl
def isOne (d c : D) : Option Bool := match kd d, c with
  | some (.inl t), .ty n => if n ∈ kinds then some (t == n || (t == "bool" && n == "int")) else none
  | some (.inr _), .ty n => if n ∈ kinds then some false else none
  | some (.inl _), .cls _ => some false
  | some (.inr c'), .cls c => some (decide (c' = c))
  | _, _ => none
/-- every class asked is a class -/
def allCls (d : D) (cs : List D) : Bool := cs.all fun c => (isOne d c).isSome
def isAny (d : D) : List D → Option Bool
  | [] => some false
  | c :: r => match isOne d c with
    | some true => some true
    | some false => isAny d r
    | none => none
def isiB : List D → Option D
  | [d, .tup cs] => if allCls d cs = true ∧ 0 < cs.length then (isAny d cs).map .bl else none
  | [d, c] => (isOne d c).map .bl
  | _ => none
def absB : List D → Option D
  | [.int i] => some (.int (if i < 0 then -i else i))
  | _ => none
def maxB : List D → Option D
  | [.int i, .int j] => some (.int (if j > i then j else i))
  | _ => none
def minB : List D → Option D
  | [.int i, .int j] => some (.int (if j < i then j else i))
  | _ => none
def intB : List D → Option D
  | [.int i] => some (.int i)
  | [.bl b] => some (.int (if b then 1 else 0))
  | _ => none
def lenB : List D → Option D
  | [.str x] => if x.length ≤ 100000 then some (.int x.length) else none
  | [.lst xs] => some (.int xs.length)
  | [.con xs] => some (.int xs.length)
  | [.tup xs] => some (.int xs.length)
  | _ => none
def divmodB : List D → Option D
  | [.int i, .int j] => if 0 < j ∧ j < 1073741824 then some (.tup [.int (i / j), .int (i % j)]) else none
  | _ => none
def tupleB : List D → Option D
  | [.lst xs] => some (.tup xs)
  | [.con xs] => some (.tup xs)
  | [.tup xs] => some (.tup xs)
  | _ => none
def listB : List D → Option D
  | [.lst xs] => some (.own xs)
  | [.con xs] => some (.own xs)
  | [.tup xs] => some (.own xs)
  | _ => none
def strB : List D → Option D
  | [.int i] => if i.natAbs.log2 < 1920 then some (.str (toString i : String)) else none
  | [.str x] => some (.str x)
  | _ => none
def reprB : List D → Option D
  | [d] => match toPy d with
    | some p => if p.showable = true ∧ p.depth ≤ 60 ∧ p.hasDict = false ∧ p.shown.length ≤ 100000 then some (.str p.shown) else none
    | none => none
  | _ => none
def boolsOf : List D → Option (List Bool)
  | [] => some []
  | .bl b :: r => (boolsOf r).map (b :: ·)
  | _ => none
def allB : List D → Option D
  | [.lst xs] => (boolsOf xs).map fun bs => .bl (bs.all id)
  | _ => none
def anyB : List D → Option D
  | [.lst xs] => (boolsOf xs).map fun bs => .bl (bs.any id)
  | _ => none
def intsOf : List D → Option (List Int)
  | [] => some []
  | .int b :: r => (intsOf r).map (b :: ·)
  | _ => none
def sumB : List D → Option D
  | [.lst xs] => (intsOf xs).map fun bs => .int bs.sum
  | [.tup xs] => none
  | _ => none

section
variable {g : G} {X : Cx} {B : Bs} {I I' H H' : Hp} {ρ : List D} {σ : L2.St} {ts ds : List D} {vs ws us : List V} {d : D} {v : V} {f : List Addr} {x : Str} {id T : String} {φ : List D → Option D} {e : Expr} {es : List Expr} {r : Dens} {p pos : Pos}

theorem stars_any (h : noStars es = true) : (backTo pos (starEach es X.env)).any (·.1) = false := by
  have : ∀ l : List Expr, noStars l = true → (starEach l X.env).any (·.1) = false := by
    intro l
    induction l with
    | nil => intro _; rfl
    | cons a r ih =>
      intro hl
      have hl' : noStar a = true ∧ noStars r = true := by simpa [noStars] using hl
      rw [starOk (noStar_ne hl'.1), List.any_cons, ih hl'.2]
      rfl
  unfold backTo
  rw [List.any_map]
  exact this es h
theorem snd_blt (hc : SndC g X (.builtin id) φ) (hg : Gl X x) (hm : X.mg x = none) (hv : bootBuiltins x = some (.builtin id)) (hn : x ≠ "__name__") (hd : (x == ("__debug__" : Str)) = false) (hs : noStars (e :: es) = true) (hr : SndL g X (e :: es) r) :
    SndE g X (.Call (.Name x p) (e :: es) [] pos) (dBlt φ r) := by
  intro B I H ρ σ ts vs d ρ' Q h q k
  unfold dBlt at q
  have hs' : noStar e = true ∧ noStars es = true := by simpa [noStars] using hs
  cases q1 : r ρ with
  | none => rw [q1] at q; cases q
  | some z =>
    obtain ⟨ds, ρ1⟩ := z
    rw [q1] at q
    dsimp only at q
    cases q2 : φ (ds.map fz) with
    | none => rw [q2] at q; cases q
    | some d0 =>
      rw [q2] at q; cases q
      refine mx_of (pe_callB opC hg hm hv pa_mx hn hd (starOk (noStar_ne hs'.1)) (stars_any hs'.2)) ?_
      refine hr B I H ρ σ ts vs ds _ _ h q1 fun I1 H1 ws h1 hl _ => ?_
      obtain ⟨I2, si, h2, rr⟩ := h1.fzTop hl
      exact hc B I2 H1 _ σ ts vs _ ws d Q (h2.pop (by simpa using hl)) rr q2 k
theorem snd_bltT (hc : SndC g X (.type T) φ) (hg : Gl X x) (hm : X.mg x = none) (hv : bootBuiltins x = some (.type T)) (hn : x ≠ "__name__") (hd : (x == ("__debug__" : Str)) = false) (hs : noStars (e :: es) = true) (hr : SndL g X (e :: es) r) :
    SndE g X (.Call (.Name x p) (e :: es) [] pos) (dBlt φ r) := by
  intro B I H ρ σ ts vs d ρ' Q h q k
  unfold dBlt at q
  have hs' : noStar e = true ∧ noStars es = true := by simpa [noStars] using hs
  cases q1 : r ρ with
  | none => rw [q1] at q; cases q
  | some z =>
    obtain ⟨ds, ρ1⟩ := z
    rw [q1] at q
    dsimp only at q
    cases q2 : φ (ds.map fz) with
    | none => rw [q2] at q; cases q
    | some d0 =>
      rw [q2] at q; cases q
      refine mx_of (pe_callTy opC hg hm hv pa_mx hn hd (starOk (noStar_ne hs'.1)) (stars_any hs'.2)) ?_
      refine hr B I H ρ σ ts vs ds _ _ h q1 fun I1 H1 ws h1 hl _ => ?_
      obtain ⟨I2, si, h2, rr⟩ := h1.fzTop hl
      exact hc B I2 H1 _ σ ts vs _ ws d Q (h2.pop (by simpa using hl)) rr q2 k

theorem kit_tt : ∀ t ∈ kinds, ∀ n ∈ kinds, kitB t n = some (t == n || (t == "bool" && n == "int")) := by decide +kernel
theorem Rep.tyx (s : Same I H) {t : String} (h : Rep g I H d v []) (e : tyS d = some t) : TyX g.K H v (.type t) ∧ t ∈ kinds := by
  cases h with
  | non => cases e; exact ⟨.base .non, by decide⟩
  | bl => cases e; exact ⟨.base (.bl _), by decide⟩
  | int => cases e; exact ⟨.base (.int _), by decide⟩
  | str => cases e; exact ⟨.base (.str _), by decide⟩
  | lst h r => cases e; exact ⟨.base (.lst (s _ _ h)), by decide⟩
  | con h r =>
    cases e
    refine ⟨?_, by decide⟩
    rcases h with (h | ⟨o, h⟩) | ⟨o, its, n, h, c, _⟩
    · exact .base (.lst (s _ _ h))
    · exact .base (.frz (s _ _ h))
    · exact .kList h c
  | tup h r =>
    cases e
    refine ⟨?_, by decide⟩
    rcases h with h | ⟨o, its, n, h, c, _⟩
    · exact .base (.tup (s _ _ h))
    · exact .kTuple h c
  | dic h l r => cases e; exact ⟨.base (.dK (s _ _ h)), by decide⟩
  | _ => cases e
theorem Rep.kdl (s : Same I H) {t : String} (h : Rep g I H d v []) (e : kd d = some (.inl t)) : TyX g.K H v (.type t) ∧ t ∈ kinds := by
  have : tyS d = some t := by
    unfold kd at e
    split at e
    · cases e
    · simpa using e
  exact h.tyx s this
theorem Rep.kdr (G : GOk g) (s : Same I H) {c : Nat} (h : Rep g I H d v []) (e : kd d = some (.inr c)) : ∃ C, g.cls c = some C ∧ TyX g.K H v (.ref C) := by
  cases h with
  | ins hc h r =>
    cases e
    obtain F := G.cls _ _ hc
    exact ⟨_, hc, .base (.ins (s _ _ h) F.cl F.ha F.hn F.htk F.hm)⟩
  | _ => simp [kd, tyS] at e
theorem isOne_ok (G : GOk g) (s : Same I H) {c : D} {cv : V} {b : Bool} {t u : Value} (hd : Rep g I H d v []) (hc : Rep g I H c cv []) (e : isOne d c = some b) : ∃ t u, ClsV cv u ∧ TyX g.K H v t ∧ PySem.W.kitOne g.K t u = some b := by
  unfold isOne at e
  split at e
  · rename_i t n e1
    split at e <;> cases e
    rename_i hn
    cases hc
    obtain ⟨ty, ht⟩ := hd.kdl s e1
    exact ⟨_, _, .ty n, ty, kit_ty (kit_tt t ht n hn)⟩
  · rename_i c n e1
    split at e <;> cases e
    rename_i hn
    cases hc
    obtain ⟨C, h1, ty⟩ := hd.kdr G s e1
    exact ⟨_, _, .ty n, ty, (G.cls _ _ h1).tb n hn⟩
  · rename_i t c e1
    cases e
    cases hc with
    | cls hcc =>
      obtain ⟨ty, ht⟩ := hd.kdl s e1
      exact ⟨_, _, .own _, ty, (G.cls _ _ hcc).bt t ht⟩
  · rename_i c' c e1
    cases e
    cases hc with
    | cls hcc =>
      obtain ⟨C, h1, ty⟩ := hd.kdr G s e1
      refine ⟨_, _, .own _, ty, ?_⟩
      by_cases z : c' = c
      · subst z
        rw [h1] at hcc
        cases hcc
        rw [decide_eq_true rfl]
        unfold PySem.W.kitOne
        simp
      · rw [decide_eq_false z]
        exact G.apart _ _ _ _ h1 hcc z
  · cases e
/-- one kind of value: the same type for all classes asked -/
theorem kd_ty (G : GOk g) (s : Same I H) (hd : Rep g I H d v []) {k : Sum String Nat} (e : kd d = some k) : ∃ t, TyX g.K H v t ∧ ∀ c cv b, Rep g I H c cv [] → isOne d c = some b → ∃ u, ClsV cv u ∧ PySem.W.kitOne g.K t u = some b := by
  cases k with
  | inl t =>
    obtain ⟨ty, ht⟩ := hd.kdl s e
    refine ⟨_, ty, fun c cv b hc q => ?_⟩
    unfold isOne at q
    rw [e] at q
    cases hc with
    | ty =>
      dsimp only at q
      split at q <;> cases q
      rename_i hn
      exact ⟨_, .ty _, kit_ty (kit_tt t ht _ hn)⟩
    | cls hcc => cases q; exact ⟨_, .own _, (G.cls _ _ hcc).bt t ht⟩
    | _ => cases q
  | inr c0 =>
    obtain ⟨C, h1, ty⟩ := hd.kdr G s e
    refine ⟨_, ty, fun c cv b hc q => ?_⟩
    unfold isOne at q
    rw [e] at q
    cases hc with
    | ty =>
      dsimp only at q
      split at q <;> cases q
      rename_i hn
      exact ⟨_, .ty _, (G.cls _ _ h1).tb _ hn⟩
    | cls hcc =>
      cases q
      refine ⟨_, .own _, ?_⟩
      rename_i c C2
      by_cases z : c0 = c
      · subst z
        rw [h1] at hcc
        cases hcc
        rw [decide_eq_true rfl]
        unfold PySem.W.kitOne
        simp
      · rw [decide_eq_false z]
        exact G.apart _ _ _ _ h1 hcc z
    | _ => cases q
theorem isAny_kd : ∀ {cs : List D} {b : Bool}, isAny d cs = some b → cs ≠ [] → ∃ k, kd d = some k
  | [], _, _, n => absurd rfl n
  | c :: r, b, e, _ => by
    unfold isAny at e
    cases q : kd d with
    | some k => exact ⟨k, rfl⟩
    | none =>
      have : isOne d c = none := by unfold isOne; rw [q]
      rw [this] at e
      cases e
theorem isAny_ok {t : Value} (hk : ∀ c cv b, Rep g I H c cv [] → isOne d c = some b → ∃ u, ClsV cv u ∧ PySem.W.kitOne g.K t u = some b) : ∀ {cs : List D} {ws : List V} {b : Bool}, Reps g I H cs ws [] → isAny d cs = some b → (∀ c ∈ cs, ∃ b, isOne d c = some b) → ∃ us, Paired ClsV ws us ∧ PySem.W.kitAny g.K t us = some b
  | [], ws, b, r, e, _ => by
    cases r
    cases e
    exact ⟨[], .nil, rfl⟩
  | c :: cs, ws, b, r, e, all => by
    obtain ⟨vs, vs', f1, f2, rfl, ef, h1, h2⟩ := Reps.split (ds := [c]) (ds' := cs) r
    obtain ⟨rfl, rfl⟩ := List.append_eq_nil_iff.mp ef.symm
    obtain ⟨v1, rfl, r1⟩ := h1.one_inv
    unfold isAny at e
    obtain ⟨b1, q1⟩ := all c (List.mem_cons_self ..)
    obtain ⟨u, cu, ku⟩ := hk c v1 b1 r1 q1
    rw [q1] at e
    cases b1 with
    | true =>
      cases e
      -- the others are classes too
      have rest : ∀ {cs : List D} {ws : List V}, Reps g I H cs ws [] → (∀ c ∈ cs, ∃ b, isOne d c = some b) → ∃ us, Paired ClsV ws us := by
        intro cs
        induction cs with
        | nil => intro ws r _; cases r; exact ⟨[], .nil⟩
        | cons c cs ih =>
          intro ws r all
          obtain ⟨vs, vs', f1, f2, rfl, ef, h1, h2⟩ := Reps.split (ds := [c]) (ds' := cs) r
          obtain ⟨rfl, rfl⟩ := List.append_eq_nil_iff.mp ef.symm
          obtain ⟨v2, rfl, r2⟩ := h1.one_inv
          obtain ⟨b2, q2⟩ := all c (List.mem_cons_self ..)
          obtain ⟨u2, cu2, _⟩ := hk c v2 b2 r2 q2
          obtain ⟨us, p⟩ := ih h2 fun c hc => all c (List.mem_cons_of_mem _ hc)
          exact ⟨u2 :: us, .cons cu2 p⟩
      obtain ⟨us, p⟩ := rest h2 fun c hc => all c (List.mem_cons_of_mem _ hc)
      exact ⟨u :: us, .cons cu p, kitAny_cons ku (fun z => nomatch z) fun _ => rfl⟩
    | false =>
      obtain ⟨us, p, q⟩ := isAny_ok hk h2 e fun c hc => all c (List.mem_cons_of_mem _ hc)
      exact ⟨u :: us, .cons cu p, kitAny_cons ku (fun _ => q) fun z => nomatch z⟩

theorem allCls_of {cs : List D} (h : allCls d cs = true) : ∀ c ∈ cs, ∃ b, isOne d c = some b := fun c hc => Option.isSome_iff_exists.mp (List.all_eq_true.mp h c hc)
theorem snd_isi (G : GOk g) (hK : X.K = g.K) : SndC g X (.builtin "isinstance") isiB := by
  intro B I H ρ σ ts vs ds xs d Q h r e k
  unfold isiB at e
  split at e
  · rename_i da cs
    split at e
    · rename_i hc
      obtain ⟨v1, v2, rfl, r1, r2⟩ := Reps.two r
      obtain ⟨b, e1, rfl⟩ := Option.map_eq_some_iff.mp e
      obtain ⟨kk, hk⟩ := isAny_kd e1 (fun z => by subst z; exact absurd hc.2 (by decide))
      obtain ⟨t, ty, ok⟩ := kd_ty G h.same r1 hk
      obtain ⟨p, us, rfl, _, tp, q⟩ := r2.tup_i
      obtain ⟨ws, pw, ka⟩ := isAny_ok ok q e1 (allCls_of hc.1)
      rcases tp with tp | ⟨o, its, n, lk, oc, od, oz, ov⟩
      · exact rC_of call_isiT ⟨_, _, _, _, _, _, rfl, h.same _ _ tp, pw, hK ▸ ty, hK ▸ ka, k I H _ (h.push .bl)⟩
      · have ew := ClsV.all pw ov
        obtain ⟨oc', odd, odt, osl⟩ := o
        simp only at oc od
        subst oc od
        refine rC_of call_isiK ⟨_, _, odd, ws, n, osl, _, _, rfl, ?_, hK ▸ ty, hK ▸ ka, k I H _ (h.push .bl)⟩
        rw [hK, lk, ← ew]
    · cases e
  · rename_i da c _
    obtain ⟨v1, v2, rfl, r1, r2⟩ := Reps.two r
    obtain ⟨b, e1, rfl⟩ := Option.map_eq_some_iff.mp e
    obtain ⟨t, u, cu, ty, ko⟩ := isOne_ok (t := .none) (u := .none) G h.same r1 r2 e1
    exact rC_of call_isi ⟨_, _, _, _, _, rfl, cu, hK ▸ ty, hK ▸ ko, k I H _ (h.push .bl)⟩
  · cases e
theorem snd_abs : SndC g X (.builtin "abs") absB := by
  intro B I H ρ σ ts vs ds xs d Q h r e k
  unfold absB at e
  split at e <;> cases e
  obtain ⟨v1, rfl, r1⟩ := r.ones
  obtain ⟨rfl, _⟩ := r1.int_i
  exact rC_of call_abs ⟨_, rfl, k I H _ (h.push .int)⟩
theorem snd_max (hc : X.calm = true) : SndC g X (.builtin "max") maxB := by
  intro B I H ρ σ ts vs ds xs d Q h r e k
  unfold maxB at e
  split at e <;> cases e
  obtain ⟨v1, v2, rfl, r1, r2⟩ := r.two
  obtain ⟨rfl, _⟩ := r1.int_i
  obtain ⟨rfl, _⟩ := r2.int_i
  exact rC_of (call_max2 hc) ⟨_, _, rfl, k I H _ (h.push .int)⟩
theorem snd_min (hc : X.calm = true) : SndC g X (.builtin "min") minB := by
  intro B I H ρ σ ts vs ds xs d Q h r e k
  unfold minB at e
  split at e <;> cases e
  obtain ⟨v1, v2, rfl, r1, r2⟩ := r.two
  obtain ⟨rfl, _⟩ := r1.int_i
  obtain ⟨rfl, _⟩ := r2.int_i
  exact rC_of (call_min2 hc) ⟨_, _, rfl, k I H _ (h.push .int)⟩
theorem snd_intf : SndC g X (.type "int") intB := by
  intro B I H ρ σ ts vs ds xs d Q h r e k
  unfold intB at e
  split at e <;> cases e
  · obtain ⟨v1, rfl, r1⟩ := r.ones
    obtain ⟨rfl, _⟩ := r1.int_i
    exact rC_of call_int1 (.inl ⟨_, rfl, k I H _ (h.push .int)⟩)
  · obtain ⟨v1, rfl, r1⟩ := r.ones
    obtain ⟨rfl, _⟩ := r1.bl_i
    exact rC_of call_int1 (.inr ⟨_, rfl, k I H _ (h.push .int)⟩)
theorem snd_len (hK : X.K = g.K) : SndC g X (.builtin "len") lenB := by
  intro B I H ρ σ ts vs ds xs d Q h r e k
  unfold lenB at e
  split at e
  · split at e <;> cases e
    rename_i hl
    obtain ⟨v1, rfl, r1⟩ := r.ones
    obtain ⟨rfl, _⟩ := r1.str_i
    exact rC_of call_len_str ⟨_, rfl, line100 hl, k I H _ (h.push .int)⟩
  · cases e
    obtain ⟨v1, rfl, r1⟩ := r.ones
    obtain ⟨p, us, rfl, _, hp, q⟩ := r1.lst_i
    refine rC_of call_len_seq ⟨_, us, rfl, .inl (SqL.of (h.same _ _ hp)), ?_⟩
    rw [← q.length]
    exact k I H _ (h.push .int)
  · cases e
    obtain ⟨v1, rfl, r1⟩ := r.ones
    obtain ⟨p, us, rfl, _, hp, q⟩ := r1.con_i
    refine rC_of call_len_seq ⟨_, us, rfl, .inl (hK ▸ h.same.seq hp), ?_⟩
    rw [← q.length]
    exact k I H _ (h.push .int)
  · cases e
    obtain ⟨v1, rfl, r1⟩ := r.ones
    obtain ⟨p, us, rfl, _, hp, q⟩ := r1.tup_i
    refine rC_of call_len_seq ⟨_, us, rfl, .inr (hK ▸ (hp.same h.same).sq), ?_⟩
    rw [← q.length]
    exact k I H _ (h.push .int)
  · cases e
theorem snd_divmod : SndC g X (.builtin "divmod") divmodB := by
  intro B I H ρ σ ts vs ds xs d Q h r e k
  unfold divmodB at e
  split at e
  · split at e <;> cases e
    rename_i hl
    obtain ⟨v1, v2, rfl, r1, r2⟩ := r.two
    obtain ⟨rfl, _⟩ := r1.int_i
    obtain ⟨rfl, _⟩ := r2.int_i
    exact rC_of call_divmod ⟨_, _, rfl, hl, fun p hp => k _ _ _ (h.newT hp (by simpa using Reps.cons .int (Reps.one .int)))⟩
  · cases e
theorem snd_tuple (hK : X.K = g.K) : SndC g X (.type "tuple") tupleB := by
  intro B I H ρ σ ts vs ds xs d Q h r e k
  unfold tupleB at e
  split at e <;> cases e
  · obtain ⟨v1, rfl, r1⟩ := r.ones
    obtain ⟨p, us, rfl, _, hp, q⟩ := r1.lst_i
    exact rC_of call_tuple_of ⟨p, us, rfl, .inl ⟨SqL.of (h.same _ _ hp), fun l hl => k _ _ _ (h.newT hl q)⟩⟩
  · obtain ⟨v1, rfl, r1⟩ := r.ones
    obtain ⟨p, us, rfl, _, hp, q⟩ := r1.con_i
    exact rC_of call_tuple_of ⟨p, us, rfl, .inl ⟨hK ▸ h.same.seq hp, fun l hl => k _ _ _ (h.newT hl q)⟩⟩
  · obtain ⟨v1, rfl, r1⟩ := r.ones
    obtain ⟨p, us, rfl, _, hp, q⟩ := r1.tup_i
    exact rC_of call_tuple_of ⟨p, us, rfl, .inr ⟨hK ▸ (hp.same h.same).sq, k I H _ (h.push (.tup hp q))⟩⟩
theorem snd_list (hK : X.K = g.K) : SndC g X (.type "list") listB := by
  intro B I H ρ σ ts vs ds xs d Q h r e k
  unfold listB at e
  split at e <;> cases e
  · obtain ⟨v1, rfl, r1⟩ := r.ones
    obtain ⟨p, us, rfl, _, hp, q⟩ := r1.lst_i
    exact rC_of call_list_of ⟨p, us, rfl, .inl (SqL.of (h.same _ _ hp)), fun l hl => k _ _ _ (h.newL hl q)⟩
  · obtain ⟨v1, rfl, r1⟩ := r.ones
    obtain ⟨p, us, rfl, _, hp, q⟩ := r1.con_i
    exact rC_of call_list_of ⟨p, us, rfl, .inl (hK ▸ h.same.seq hp), fun l hl => k _ _ _ (h.newL hl q)⟩
  · obtain ⟨v1, rfl, r1⟩ := r.ones
    obtain ⟨p, us, rfl, _, hp, q⟩ := r1.tup_i
    exact rC_of call_list_of ⟨p, us, rfl, .inr (hK ▸ (hp.same h.same).sq), fun l hl => k _ _ _ (h.newL hl q)⟩
theorem snd_strf : SndC g X (.type "str") strB := by
  intro B I H ρ σ ts vs ds xs d Q h r e k
  unfold strB at e
  split at e
  · split at e <;> cases e
    rename_i hl
    obtain ⟨v1, rfl, r1⟩ := r.ones
    obtain ⟨rfl, _⟩ := r1.int_i
    exact rC_of call_str_int ⟨_, rfl, hl, k I H _ (h.push .str)⟩
  · cases e
    obtain ⟨v1, rfl, r1⟩ := r.ones
    obtain ⟨rfl, _⟩ := r1.str_i
    exact rC_of SkE.call_str_str ⟨_, rfl, k I H _ (h.push .str)⟩
  · cases e
theorem boolsOf_reps : ∀ {xs : List D} {us : List V} {bs : List Bool} {f : List Addr}, Reps g I H xs us f → boolsOf xs = some bs → us = bs.map V.bl
  | [], us, bs, f, r, e => by cases r; cases e; rfl
  | d :: xs, us, bs, f, r, e => by
    cases r with
    | cons r1 r2 =>
      unfold boolsOf at e
      split at e
      · rename_i e0; cases e0
      · rename_i b r0 e0
        cases e0
        obtain ⟨bs, e1, rfl⟩ := Option.map_eq_some_iff.mp e
        rw [boolsOf_reps r2 e1, r1.bl_i.1]
        rfl
      · cases e
theorem intsOf_reps : ∀ {xs : List D} {us : List V} {bs : List Int} {f : List Addr}, Reps g I H xs us f → intsOf xs = some bs → us = bs.map V.int
  | [], us, bs, f, r, e => by cases r; cases e; rfl
  | d :: xs, us, bs, f, r, e => by
    cases r with
    | cons r1 r2 =>
      unfold intsOf at e
      split at e
      · rename_i e0; cases e0
      · rename_i b r0 e0
        cases e0
        obtain ⟨bs, e1, rfl⟩ := Option.map_eq_some_iff.mp e
        rw [intsOf_reps r2 e1, r1.int_i.1]
        rfl
      · cases e
theorem snd_all (hc : X.calm = true) : SndC g X (.builtin "all") allB := by
  intro B I H ρ σ ts vs ds xs d Q h r e k
  unfold allB at e
  split at e
  · obtain ⟨bs, e1, rfl⟩ := Option.map_eq_some_iff.mp e
    obtain ⟨v1, rfl, r1⟩ := r.ones
    obtain ⟨p, us, rfl, _, hp, q⟩ := r1.lst_i
    refine rC_of (cr_all hc) ⟨p, bs, rfl, SqL.of ?_, k I H _ (h.push .bl)⟩
    rw [← boolsOf_reps q e1]
    exact h.same _ _ hp
  · cases e
theorem snd_any (hc : X.calm = true) : SndC g X (.builtin "any") anyB := by
  intro B I H ρ σ ts vs ds xs d Q h r e k
  unfold anyB at e
  split at e
  · obtain ⟨bs, e1, rfl⟩ := Option.map_eq_some_iff.mp e
    obtain ⟨v1, rfl, r1⟩ := r.ones
    obtain ⟨p, us, rfl, _, hp, q⟩ := r1.lst_i
    refine rC_of (cr_any hc) ⟨p, bs, rfl, SqL.of ?_, k I H _ (h.push .bl)⟩
    rw [← boolsOf_reps q e1]
    exact h.same _ _ hp
  · cases e
theorem snd_sum (hc : X.calm = true) : SndC g X (.builtin "sum") sumB := by
  intro B I H ρ σ ts vs ds xs d Q h r e k
  unfold sumB at e
  split at e
  · obtain ⟨bs, e1, rfl⟩ := Option.map_eq_some_iff.mp e
    obtain ⟨v1, rfl, r1⟩ := r.ones
    obtain ⟨p, us, rfl, _, hp, q⟩ := r1.lst_i
    refine rC_of (cr_sum hc) ⟨p, bs, rfl, SqL.of ?_, k I H _ (h.push .int)⟩
    rw [← intsOf_reps q e1]
    exact h.same _ _ hp
  · cases e
  · cases e
/-- repr of plain data -/
theorem snd_repr (hK : X.K = g.K) (hg : X.A.guards = some []) (hu : X.A.units + 64 < cLine) : SndC g X (.builtin "repr") reprB := by
  intro B I H ρ σ ts vs ds xs d Q h r e k
  unfold reprB at e
  split at e
  · rename_i da
    split at e
    · rename_i p ep
      split at e <;> cases e
      rename_i hc
      obtain ⟨v1, rfl, r1⟩ := r.ones
      have dp := r1.dp h.same ep
      intro pins s σ' us Iv rv
      obtain ⟨u, rfl, ru⟩ := vals1 rv
      obtain ⟨as, rd⟩ := Dp.reads Iv p v1 u (hK ▸ dp) ru
      have fin : ∀ (s' : Shared) (tk : Tok), Inv X pins σ' H s' → EP X pins σ' Q (.str p.shown tk) s' := fun s' tk J => ⟨.str _, H, J, ⟨_, rfl⟩, k I H _ (h.push .str)⟩
      have hl : p.shown.length ≤ sizeLine := line100 hc.2.2.2
      have ref : ∀ a, u = .ref a → wpAny (model X.prog X.w) X.A (call (.builtin "repr") [u]) (EP X pins σ' Q) X.xe s := fun a ea => by
        subst ea
        exact repr_of_reads' rd hc.1 (fun z => by rw [hc.2.2.1] at z; cases z) hg (by omega) (fun _ _ e => e) (fun h' u tk hk => fin _ u (Iv.kept (t' := tk) hk)) hl
      cases rd with
      | none => exact PySem.P.repr_of_none (fin _ _ (Iv.tok _))
      | bool b => exact PySem.P.repr_of_bool (fin _ _ (Iv.tok _))
      | int i t => exact PySem.P.repr_of_int (by simpa [PyData.showable] using hc.1) (fin _ _ (Iv.tok _))
      | str x t => exact PySem.P.repr_of_str (fin _ _ (Iv.tok _)) hl
      | _ => exact ref _ rfl
    · cases e
  · cases e
end
end DV

set_option Elab.async false
set_option maxRecDepth 100000
set_option maxHeartbeats 4000000
set_option linter.all false
/-! DV9: subscripts, slices, chains, f-strings, loops. -/
namespace DV
open PySem L2 PySem.Spec PyProof.Rows

/-- an item by its place -/
def ixB : D → D → Option D
  | .lst xs, .int i => atI xs i
  | .con xs, .int i => atI xs i
  | .tup xs, .int i => atI xs i
  | .str x, .int i => if x.length ≤ 100000 then (atI x.cps.toList i).map fun c => .str ⟨#[c]⟩ else none
  | _, _ => none
/-- subscripts that are no slice -/
def noSlice : Expr → Bool
  | .Slice _ _ _ _ => false
  | _ => true
def cutD (xs : List D) (lo hi : Option Int) : List D := (xs.drop (HT.sIx xs.length 0 lo)).take (HT.sIx xs.length xs.length hi - HT.sIx xs.length 0 lo)
section
variable {g : G} {X : Cx} {B : Bs} {I I' H H' : Hp} {ρ : List D} {σ : L2.St} {ts ds xs : List D} {vs ws us : List V} {d : D} {v : V} {f : List Addr} {a b e c : Expr} {fa fb fe fc : Den} {pos : Pos}

theorem Reps.get : ∀ {ds : List D} {vs : List V} {i : Nat} {d : D}, Reps g I H ds vs [] → ds[i]? = some d → ∃ v, vs[i]? = some v ∧ Rep g I H d v []
  | [], vs, i, d, r, e => by simp at e
  | d0 :: ds, vs, i, d, r, e => by
    obtain ⟨ws, ws', f1, f2, rfl, ef, h1, h2⟩ := Reps.split (ds := [d0]) (ds' := ds) r
    obtain ⟨rfl, rfl⟩ := List.append_eq_nil_iff.mp ef.symm
    obtain ⟨v1, rfl, r1⟩ := h1.one_inv
    cases i with
    | zero => simp at e; subst e; exact ⟨v1, rfl, r1⟩
    | succ i =>
      obtain ⟨v, e1, r⟩ := Reps.get (i := i) h2 (by simpa using e)
      exact ⟨v, by simpa using e1, r⟩
theorem Reps.atI {i : Int} (r : Reps g I H ds vs []) (e : L2.atI ds i = some d) : ∃ v, L2.atI vs i = some v ∧ Rep g I H d v [] := by
  unfold L2.atI at e ⊢
  rw [r.length] at e
  cases q : ixN vs.length i with
  | none => rw [q] at e; cases e
  | some j =>
    rw [q] at e
    obtain ⟨v, h1, h2⟩ := r.get (i := j) (by simpa using e)
    exact ⟨v, by simpa using h1, h2⟩
theorem plain_ix (h : noSlice b = true) : PlainIx b := by
  intro o i
  cases b <;> first | rfl | cases h
def rX (X : Cx) : R2 := fun x y H Q => ∀ (pins : List (Addr × Obj)) (s : Shared) (σ : L2.St) (v u : Value), Inv X pins σ H s → RelV x v → RelV y u → wpAny (model X.prog X.w) X.A (getItem v u) (EP X pins σ Q) X.xe s
theorem snd_ix (hK : X.K = g.K) (hs : noSlice b = true) (ha : SndE g X a fa) (hb : SndE g X b fb) : SndE g X (.Subscript a b pos) (dBin ixB fa fb) := by
  intro B I H ρ σ ts vs d ρ' Q h q k
  unfold dBin at q
  cases q1 : fa ρ with
  | none => rw [q1] at q; cases q
  | some z =>
    obtain ⟨da, ρ1⟩ := z
    rw [q1] at q
    dsimp only at q
    cases q2 : fb ρ1 with
    | none => rw [q2] at q; cases q
    | some z =>
      obtain ⟨db, ρ2⟩ := z
      rw [q2] at q
      dsimp only at q
      cases q3 : ixB (fz da) (fz db) with
      | none => rw [q3] at q; cases q
      | some d0 =>
        rw [q3] at q; cases q
        refine mx_of (pe_ix ix_seq pe_mx pe_mx (plain_ix hs)) ?_
        refine ha B I H ρ σ ts vs da ρ1 _ h q1 fun I1 H1 x h1 => ?_
        refine hb B I1 H1 ρ1 σ _ _ db _ _ h1 q2 fun I2 H2 y h2 => ?_
        have h2' : StP g B I2 H2 ρ' σ (ts ++ [da, db]) (vs ++ [x, y]) := by simpa using h2
        obtain ⟨I3, si, h3, rr⟩ := h2'.fzTop rfl
        obtain ⟨v1, v2, e, r1, r2⟩ := Reps.two rr
        cases e
        have h4 := h3.pop rfl
        revert r1 r2 q3
        generalize fz da = ea
        generalize fz db = eb
        intro q3 r1 r2
        unfold ixB at q3
        split at q3
        · obtain ⟨p, us, rfl, _, hp, q⟩ := r1.lst_i
          obtain ⟨rfl, _⟩ := r2.int_i
          obtain ⟨v, ev, rv⟩ := q.atI q3
          exact .inl ⟨p, us, _, v, rfl, rfl, SqL.of (h4.same _ _ hp), ev, k _ _ _ (h4.push rv)⟩
        · obtain ⟨p, us, rfl, _, hp, q⟩ := r1.con_i
          obtain ⟨rfl, _⟩ := r2.int_i
          obtain ⟨v, ev, rv⟩ := q.atI q3
          exact .inl ⟨p, us, _, v, rfl, rfl, hK ▸ h4.same.seq hp, ev, k _ _ _ (h4.push rv)⟩
        · obtain ⟨p, us, rfl, _, hp, q⟩ := r1.tup_i
          obtain ⟨rfl, _⟩ := r2.int_i
          obtain ⟨v, ev, rv⟩ := q.atI q3
          exact .inr (.inl ⟨p, us, _, v, rfl, rfl, hK ▸ (hp.same h4.same).sq, ev, k _ _ _ (h4.push rv)⟩)
        · split at q3
          · rename_i hl
            obtain ⟨rfl, _⟩ := r1.str_i
            obtain ⟨rfl, _⟩ := r2.int_i
            obtain ⟨c, ec, rfl⟩ := Option.map_eq_some_iff.mp q3
            exact .inr (.inr ⟨_, _, c, rfl, rfl, line100 hl, ec, k _ _ _ (h4.push .str)⟩)
          · cases q3
        · cases q3
end
end DV

set_option Elab.async false
set_option maxRecDepth 100000
set_option maxHeartbeats 4000000
set_option linter.all false
/-! DV10: what is walked; for, while. -/
namespace DV
open PySem L2 PySem.Spec PyProof.Rows

/-- the iterator J gives its, one by one, while the values dk, vk are held -/
def ItOk (g : G) (J : It) (its dk : List D) (vk : List V) : Prop :=
  ∀ (B : Bs) (I H : Hp) (ρ : List D) (σ : L2.St) (ts : List D) (vs : List V) (i : Nat), StP g B I H ρ σ (ts ++ dk) (vs ++ vk) →
    (∀ d, its[i]? = some d → J.go i H ∧ ∀ x H', J.yld i H x H' → ∃ I', StP g B I' H' ρ σ ((ts ++ dk) ++ [d]) ((vs ++ vk) ++ [x])) ∧ (its.length ≤ i → J.stop i H)
structure mxI (X : Cx) (tg iter : Expr) (σ : L2.St) (H : Hp) (R : It → Hp → Prop) : Prop where
  run : ∀ (pins : List (Addr × Obj)) (s : Shared), Inv X pins σ H s →
  wpAny (model X.prog X.w) X.A (eval iter X.env) (fun v s1 => wpAny (model X.prog X.w) X.A (pyIter v) (PIE X pins σ tg R) X.xe s1) X.xe s
theorem pi_mx {X : Cx} {tg iter : Expr} : PI X tg iter (mxI X tg iter) := ⟨fun pins s σ H R I h => h.run pins s I⟩
theorem mxI_of {X : Cx} {tg iter : Expr} {wi : TI} (h : PI X tg iter wi) {σ : L2.St} {H : Hp} {R : It → Hp → Prop} (k : wi σ H R) : mxI X tg iter σ H R := ⟨fun pins s I => h.run pins s σ H R I k⟩
def SndI (g : G) (X : Cx) (tg iter : Expr) (f : Dens) : Prop :=
  ∀ (B : Bs) (I H : Hp) (ρ : List D) (σ : L2.St) (ts : List D) (vs : List V) (its ρ' : List D) (R : It → Hp → Prop), StP g B I H ρ σ ts vs → f ρ = some (its, ρ') →
    (∀ I' H' J dk vk, StP g B I' H' ρ' σ (ts ++ dk) (vs ++ vk) → dk.length = vk.length → ItOk g J its dk vk → R J H') → mxI X tg iter σ H R

/-- the items of a list or tuple -/
def itemsOf : D → Option (List D)
  | .lst xs => some xs
  | .con xs => some xs
  | .tup xs => some xs
  | _ => none
def iSeq (f : Den) : Dens := fun ρ => match f ρ with
  | some (d, ρ') => match itemsOf (fz d) with
    | some xs => some (xs, ρ')
    | none => none
  | none => none
def rngD (lo : Int) (n : Nat) : List D := (List.range n).map fun (i : Nat) => D.int (lo + (i : Int))
def iRng (r : Dens) : Dens := fun ρ => match r ρ with
  | some ([.int j], ρ') => if -4611686018427387904 ≤ j ∧ j < 4611686018427387904 then some (rngD 0 j.toNat, ρ') else none
  | some ([.int i, .int j], ρ') => if (-4611686018427387904 ≤ i ∧ i < 4611686018427387904) ∧ -4611686018427387904 ≤ j ∧ j < 4611686018427387904 then some (rngD i (j - i).toNat, ρ') else none
  | _ => none

section
variable {g : G} {X : Cx} {B : Bs} {I I' H H' : Hp} {ρ : List D} {σ : L2.St} {ts ds xs : List D} {vs ws us : List V} {d : D} {v : V} {f : List Addr} {a b e c tg iter : Expr} {fe : Den} {pos p : Pos} {r : Dens}

theorem StP.topRep (h : StP g B I H ρ σ (ts ++ [d]) (vs ++ [v])) : ∃ f, Rep g I H d v f := by
  obtain ⟨F1, F2, h1, h2, _⟩ := h.reps
  obtain ⟨f, f', _, _, r2⟩ := h2.split' rfl
  obtain ⟨w, ew, r⟩ := r2.one_inv
  cases ew
  exact ⟨_, r⟩
theorem itOk_lst {a : Addr} : ItOk g (Itl g.K a) xs [.lst xs] [.ref a] := by
  intro B I H ρ σ ts vs i h
  obtain ⟨f, r⟩ := h.topRep
  obtain ⟨p, us, e, _, hp, q⟩ := r.lst_i
  cases e
  have sq : SqL g.K H a us := SqL.of (h.same _ _ hp)
  refine ⟨fun d e => ?_, fun hl => ⟨us, sq, by rw [← q.length]; exact hl⟩⟩
  obtain ⟨v, ev, rv⟩ := q.get e
  exact ⟨⟨us, v, sq, ev⟩, fun x H' ⟨eh, hx⟩ => by
    have := hx us sq
    rw [ev] at this
    cases this
    subst eh
    exact ⟨I, h.push rv⟩⟩
theorem itOk_con {a : Addr} : ItOk g (Itl g.K a) xs [.con xs] [.ref a] := by
  intro B I H ρ σ ts vs i h
  obtain ⟨f, r⟩ := h.topRep
  obtain ⟨p, us, e, _, hp, q⟩ := r.con_i
  cases e
  have sq : SqL g.K H a us := h.same.seq hp
  refine ⟨fun d e => ?_, fun hl => ⟨us, sq, by rw [← q.length]; exact hl⟩⟩
  obtain ⟨v, ev, rv⟩ := q.get e
  exact ⟨⟨us, v, sq, ev⟩, fun x H' ⟨eh, hx⟩ => by
    have := hx us sq
    rw [ev] at this
    cases this
    subst eh
    exact ⟨I, h.push rv⟩⟩
theorem itOk_tup {a : Addr} : ItOk g (Itt g.K a) xs [.tup xs] [.ref a] := by
  intro B I H ρ σ ts vs i h
  obtain ⟨f, r⟩ := h.topRep
  obtain ⟨p, us, e, _, hp, q⟩ := r.tup_i
  cases e
  have sq : SqT g.K H a us := (hp.same h.same).sq
  refine ⟨fun d e => ?_, fun hl => ⟨us, sq, by rw [← q.length]; exact hl⟩⟩
  obtain ⟨v, ev, rv⟩ := q.get e
  exact ⟨⟨us, v, sq, ev⟩, fun x H' ⟨eh, hx⟩ => by
    have := hx us sq
    rw [ev] at this
    cases this
    subst eh
    exact ⟨I, h.push rv⟩⟩
theorem itOk_rng {lo : Int} {n : Nat} : ItOk g (Itr lo n) (rngD lo n) [] [] := by
  intro B I H ρ σ ts vs i h
  refine ⟨fun d e => ?_, fun hl => show n ≤ i by simpa [rngD] using hl⟩
  unfold rngD at e
  rw [List.getElem?_map] at e
  obtain ⟨j, ej, rfl⟩ := Option.map_eq_some_iff.mp e
  have hi : i < n := by
    have := (List.getElem?_eq_some_iff.mp ej).1
    simpa using this
  have : j = i := by
    rw [List.getElem?_range hi] at ej
    exact (Option.some.inj ej).symm
  subst this
  exact ⟨hi, fun x H' ⟨eh, ex⟩ => by subst eh ex; exact ⟨I, h.push .int⟩⟩

theorem snd_iseq (hK : X.K = g.K) (he : SndE g X iter fe) : SndI g X tg iter (iSeq fe) := by
  intro B I H ρ σ ts vs its ρ' R h q k
  unfold iSeq at q
  cases q1 : fe ρ with
  | none => rw [q1] at q; cases q
  | some z =>
    obtain ⟨d, ρ1⟩ := z
    rw [q1] at q
    dsimp only at q
    cases q2 : itemsOf (fz d) with
    | none => rw [q2] at q; cases q
    | some ys =>
      rw [q2] at q; cases q
      have key : ∀ I1 H1 x, StP g B I1 H1 ρ' σ (ts ++ [d]) (vs ++ [x]) → ∃ I2, StP g B I2 H1 ρ' σ (ts ++ [fz d]) (vs ++ [x]) := fun I1 H1 x h1 => by
        obtain ⟨I2, _, h2, _⟩ := h1.fzTop (ds := [d]) (ws := [x]) rfl
        exact ⟨I2, h2⟩
      unfold itemsOf at q2
      split at q2 <;> cases q2
      · rename_i ed
        refine mxI_of (pi_list pe_mx) (he B I H ρ σ ts vs d _ _ h q1 fun I1 H1 x h1 => ?_)
        obtain ⟨I2, h2⟩ := key I1 H1 x h1
        rw [ed] at h2
        obtain ⟨f, r⟩ := h2.topRep
        obtain ⟨p, us, rfl, _, hp, q⟩ := r.lst_i
        exact ⟨p, rfl, ⟨us, SqL.of (h2.same _ _ hp)⟩, k I2 H1 _ [.lst its] [.ref p] h2 rfl (hK ▸ itOk_lst)⟩
      · rename_i ed
        refine mxI_of (pi_list pe_mx) (he B I H ρ σ ts vs d _ _ h q1 fun I1 H1 x h1 => ?_)
        obtain ⟨I2, h2⟩ := key I1 H1 x h1
        rw [ed] at h2
        obtain ⟨f, r⟩ := h2.topRep
        obtain ⟨p, us, rfl, _, hp, q⟩ := r.con_i
        exact ⟨p, rfl, ⟨us, hK ▸ h2.same.seq hp⟩, k I2 H1 _ [.con its] [.ref p] h2 rfl (hK ▸ itOk_con)⟩
      · rename_i ed
        refine mxI_of (pi_tup pe_mx) (he B I H ρ σ ts vs d _ _ h q1 fun I1 H1 x h1 => ?_)
        obtain ⟨I2, h2⟩ := key I1 H1 x h1
        rw [ed] at h2
        obtain ⟨f, r⟩ := h2.topRep
        obtain ⟨p, us, rfl, _, hp, q⟩ := r.tup_i
        exact ⟨p, rfl, ⟨us, hK ▸ (hp.same h2.same).sq⟩, k I2 H1 _ [.tup its] [.ref p] h2 rfl (hK ▸ itOk_tup)⟩
theorem StP.topInts {i : Int} (h : StP g B I H ρ σ (ts ++ [.int i]) (vs ++ ws)) (hl : ws.length = 1) : ws = [.int i] ∧ StP g B I H ρ σ ts vs := by
  cases ws with
  | nil => cases hl
  | cons w r =>
    cases r with
    | cons _ _ => simp at hl
    | nil =>
      obtain ⟨f, r⟩ := h.topRep
      exact ⟨by rw [r.int_i.1], h.pop rfl⟩
theorem snd_irng1 (hg : Gl X "range") (hm : X.mg "range" = none) (hs : noStar a = true) (hr : SndL g X [a] r) : SndI g X tg (.Call (.Name "range" p) [a] [] pos) (iRng r) := by
  intro B I H ρ σ ts vs its ρ' R h q k
  unfold iRng at q
  split at q
  · rename_i j ρ1 q1
    split at q <;> cases q
    rename_i hl
    refine mxI_of (pi_range1 hg hm pa_mx (starOk (noStar_ne hs))) (hr B I H ρ σ ts vs _ _ _ h q1 fun I1 H1 ws h1 hw hn => ?_)
    obtain ⟨rfl, h2⟩ := h1.topInts hn
    exact ⟨j, rfl, by have := hl.1; omega, by have := hl.2; omega, k I1 H1 _ [] [] (by simpa using h2) rfl itOk_rng⟩
  · rename_i i j ρ1 q1
    split at q <;> cases q
    exact mxI_of (pi_range1 hg hm pa_mx (starOk (noStar_ne hs))) (hr B I H ρ σ ts vs _ _ _ h q1 fun I1 H1 ws h1 hw hn => absurd (hw.trans hn) (by simp))
  · cases q
theorem snd_irng2 (hg : Gl X "range") (hm : X.mg "range" = none) (hs : noStars [a, b] = true) (hr : SndL g X [a, b] r) : SndI g X tg (.Call (.Name "range" p) [a, b] [] pos) (iRng r) := by
  have hs' : noStar a = true ∧ noStar b = true := by simpa [noStars] using hs
  have s1 : starEach [a, b] X.env = [(false, eval a X.env), (false, eval b X.env)] := by rw [starOk (noStar_ne hs'.1), starOk (noStar_ne hs'.2)]; rfl
  have s2 : starEach [b] X.env = [(false, eval b X.env)] := by rw [starOk (noStar_ne hs'.2)]; rfl
  intro B I H ρ σ ts vs its ρ' R h q k
  unfold iRng at q
  split at q
  · rename_i j ρ1 q1
    split at q <;> cases q
    exact mxI_of (pi_range2 hg hm pa_mx s1 s2) (hr B I H ρ σ ts vs _ _ _ h q1 fun I1 H1 ws h1 hw hn => absurd (hw.trans hn) (by simp))
  · rename_i i j ρ1 q1
    split at q <;> cases q
    rename_i hl
    refine mxI_of (pi_range2 hg hm pa_mx s1 s2) (hr B I H ρ σ ts vs _ _ _ h q1 fun I1 H1 ws h1 hw hn => ?_)
    obtain ⟨F1, F2, _, r2, _⟩ := h1.reps
    obtain ⟨f, f', _, _, r3⟩ := r2.split' hw
    match ws, hn with
    | [w1, w2], _ =>
      cases r3 with
      | cons ra rb =>
        cases rb with
        | cons rb rc =>
          rw [ra.int_i.1, rb.int_i.1]
          obtain ⟨⟨l1, l2⟩, l3, l4⟩ := hl
          exact ⟨i, j, rfl, by omega, k I1 H1 _ [] [] (by simpa using h1.pop rfl) rfl itOk_rng⟩
  · cases q
end

/-! ### targets -/
/-- what a target does with a value -/
abbrev DenG := D → List D → Option (List D)
structure mxG (X : Cx) (tg : Expr) (v : V) (σ : L2.St) (H : Hp) (Q : L2.St → Hp → Prop) : Prop where
  run : ∀ (pins : List (Addr × Obj)) (s : Shared) (u : Value), Inv X pins σ H s → RelV v u → wpAny (model X.prog X.w) X.A (assign tg X.env u) (fun _ s' => ∃ σ' H', Inv X pins σ' H' s' ∧ Q σ' H') X.xe s
theorem pg_mx {X : Cx} {tg : Expr} : PG X tg (mxG X tg) := ⟨fun pins s σ H v u Q I r h => h.run pins s u I r⟩
theorem mxG_of {X : Cx} {tg : Expr} {t : TG} (h : PG X tg t) {v : V} {σ : L2.St} {H : Hp} {Q : L2.St → Hp → Prop} (k : t v σ H Q) : mxG X tg v σ H Q := ⟨fun pins s u I r => h.run pins s σ H v u Q I r k⟩
/-- only the slots of sl are changed -/
def Ch (sl : List Nat) (σ σ' : L2.St) : Prop := σ'.length = σ.length ∧ ∀ j, j ∉ sl → σ'[j]? = σ[j]?
theorem Ch.refl {sl : List Nat} {σ : L2.St} : Ch sl σ σ := ⟨rfl, fun _ _ => rfl⟩
theorem Ch.trans {sl : List Nat} {a b c : L2.St} (h : Ch sl a b) (k : Ch sl b c) : Ch sl a c := ⟨k.1.trans h.1, fun j n => (k.2 j n).trans (h.2 j n)⟩
theorem Ch.set {sl : List Nat} {σ : L2.St} {i : Nat} {v : Option V} (h : i ∈ sl) : Ch sl σ (σ.set i v) := ⟨List.length_set .., fun j n => List.getElem?_set_ne fun z => n (by rw [← z]; exact h)⟩
theorem Ch.fx {fx : Bool} {sl : List Nat} {a b : L2.St} (h : Ch sl a b) (n : fx = true → 0 ∉ sl) : Fx fx a b := fun z => h.2 0 (n z)
theorem Ch.mono {sl sl' : List Nat} {a b : L2.St} (h : Ch sl a b) (k : ∀ i ∈ sl, i ∈ sl') : Ch sl' a b := ⟨h.1, fun j n => h.2 j fun z => n (k j z)⟩
theorem wipe_at {σ : L2.St} {j : Nat} : ∀ l : List Nat, (wipe σ l)[j]? = if j ∈ l ∧ j < σ.length then some none else σ[j]?
  | [] => by simp [wipe]
  | i :: r => by
    unfold wipe
    by_cases e : i = j
    · subst e
      by_cases q : i < σ.length
      · rw [List.getElem?_set_self (by rw [wipe_length]; exact q), if_pos ⟨List.mem_cons_self .., q⟩]
      · have h1 : ((wipe σ r).set i none)[i]? = none := List.getElem?_eq_none (by rw [List.length_set, wipe_length]; omega)
        rw [h1, if_neg (fun z => q z.2), List.getElem?_eq_none (by omega)]
    · rw [List.getElem?_set_ne e, wipe_at r]
      have : (j ∈ i :: r ∧ j < σ.length) ↔ (j ∈ r ∧ j < σ.length) := by
        constructor
        · rintro ⟨h, h2⟩
          rcases List.mem_cons.mp h with z | z
          · exact absurd z.symm e
          · exact ⟨z, h2⟩
        · rintro ⟨h, h2⟩
          exact ⟨List.mem_cons_of_mem _ h, h2⟩
      simp only [this]
theorem Ch.wipe {own : List Nat} {a b : L2.St} (h : Ch own a b) : L2.wipe b own = L2.wipe a own := by
  refine List.ext_getElem? fun j => ?_
  rw [wipe_at, wipe_at, h.1]
  by_cases q : j ∈ own
  · by_cases z : j < a.length
    · rw [if_pos ⟨q, z⟩, if_pos ⟨q, z⟩]
    · rw [if_neg (fun w => z w.2), if_neg (fun w => z w.2), List.getElem?_eq_none (by rw [h.1]; omega), List.getElem?_eq_none (by omega)]
  · rw [if_neg (fun w => q w.1), if_neg (fun w => q w.1), h.2 j q]

/-- the target tg stores f's, at the slots of sl -/
def SndG (g : G) (X : Cx) (tg : Expr) (sl : List Nat) (f : DenG) : Prop :=
  ∀ (B : Bs) (I H : Hp) (ρ : List D) (σ : L2.St) (ts : List D) (vs : List V) (d : D) (v : V) (ρ' : List D) (Q : L2.St → Hp → Prop), StP g B I H ρ σ (ts ++ [d]) (vs ++ [v]) → f d ρ = some ρ' →
    (∀ I' H' σ', StP g B I' H' ρ' σ' ts vs → Ch sl σ σ' → Q σ' H') → mxG X tg v σ H Q
def gNm (i : Nat) : DenG := fun d ρ => if i < ρ.length then some (ρ.set i d) else none
/-- (a, b, ..): names -/
def gNms : List Nat → List D → List D → Option (List D)
  | [], [], ρ => some ρ
  | i :: is, d :: ds, ρ => if i < ρ.length then gNms is ds (ρ.set i d) else none
  | _, _, _ => none
def gTp (is : List Nat) : DenG := fun d ρ => match fz d with
  | .tup ds => gNms is ds ρ
  | _ => none

section
variable {g : G} {fx : Bool} {X : Cx} {tg iter : Expr} {pos : Pos} {x : Str} {body : List Stmt} {fb : DenS} {fi : Dens} {fg : DenG} {es : List Expr}
theorem snd_gnm {i : Nat} (hN : X.N.Nodup) (hi : X.N[i]? = some x) (hx : Loc X.env.scope x) (hf : X.fn x = true ∨ X.env.scope.names.lookup x = some .local) : SndG g X (.Name x pos) [i] (gNm i) := by
  intro B I H ρ σ ts vs d v ρ' Q h q k
  unfold gNm at q
  split at q <;> cases q
  rename_i hl
  exact mxG_of (pg_name hN hi hx hf) (k I H _ (h.setTop hl) (.set (by simp)))
/-- names one by one -/
structure GName (X : Cx) (e : Expr) (i : Nat) : Prop where
  ex : ∃ x pos, e = .Name x pos ∧ X.N[i]? = some x ∧ Loc X.env.scope x ∧ (X.fn x = true ∨ X.env.scope.names.lookup x = some .local)
structure mxGs (X : Cx) (ts : List Expr) (vs : List V) (σ : L2.St) (H : Hp) (Q : L2.St → Hp → Prop) : Prop where
  run : ∀ (pins : List (Addr × Obj)) (s : Shared) (us : List Value), Inv X pins σ H s → Vals vs us → wpAny (model X.prog X.w) X.A (assignInOrder ((assignEach ts X.env).map (·.2)) us) (fun _ s' => ∃ σ' H', Inv X pins σ' H' s' ∧ Q σ' H') X.xe s
theorem pgs_mx {es : List Expr} : PGs X es (mxGs X es) := ⟨fun pins s σ H vs us Q I r h => h.run pins s us I r⟩
theorem mxGs_of {t : TGs} (h : PGs X es t) {vs : List V} {σ : L2.St} {H : Hp} {Q : L2.St → Hp → Prop} (k : t vs σ H Q) : mxGs X es vs σ H Q := ⟨fun pins s us I r => h.run pins s σ H vs us Q I r k⟩
theorem eachNames : ∀ {es : List Expr} {is : List Nat}, Paired (GName X) es is → ((assignEach es X.env).map (·.2)).length = es.length ∧ (assignEach es X.env).findIdx? (·.1) = none
  | _, _, .nil => ⟨rfl, rfl⟩
  | _, _, .cons (l₁ := es) (a := e) h r => by
    obtain ⟨x, pos, rfl, _⟩ := h.ex
    obtain ⟨h1, h2⟩ := eachNames r
    have e1 : assignEach (.Name x pos :: es) X.env = (false, assign (.Name x pos) X.env) :: assignEach es X.env := rfl
    rw [e1]
    refine ⟨by rw [List.map_cons, List.length_cons, h1, List.length_cons], ?_⟩
    rw [List.findIdx?_cons, h2]
    rfl
theorem snd_gnms (hN : X.N.Nodup) : ∀ {es : List Expr} {is : List Nat}, Paired (GName X) es is → ∀ (B : Bs) (I H : Hp) (ρ : List D) (σ : L2.St) (ts : List D) (vs : List V) (ds : List D) (ws : List V) (ρ' : List D) (Q : L2.St → Hp → Prop), StP g B I H ρ σ ts vs → Reps g I H ds ws [] → gNms is ds ρ = some ρ' →
    (∀ I' H' σ', StP g B I' H' ρ' σ' ts vs → Ch is σ σ' → Q σ' H') → mxGs X es ws σ H Q
  | _, _, .nil, B, I, H, ρ, σ, ts, vs, ds, ws, ρ', Q, h, r, q, k => by
    cases ds with
    | cons d ds => cases q
    | nil =>
      cases q
      cases r
      exact mxGs_of pgs_nil ⟨rfl, k I H σ h .refl⟩
  | _, _, .cons (l₁ := es) (l₂ := is) (b := i) h r, B, I, H, ρ, σ, ts, vs, ds, ws, ρ', Q, hs, rr, q, k => by
    obtain ⟨x, pos, rfl, hi, hx, hf⟩ := h.ex
    cases ds with
    | nil => cases q
    | cons d ds =>
      obtain ⟨w1, ws', f1, f2, rfl, ef, h1, h2⟩ := Reps.split (ds := [d]) (ds' := ds) rr
      obtain ⟨rfl, rfl⟩ := List.append_eq_nil_iff.mp ef.symm
      obtain ⟨v1, rfl, r1⟩ := h1.one_inv
      unfold gNms at q
      split at q
      · rename_i hl
        refine mxGs_of (pgs_cons (pg_name hN hi hx hf) pgs_mx rfl) ⟨v1, ws', rfl, ?_⟩
        refine snd_gnms hN r B I H _ _ ts vs ds ws' ρ' Q ((hs.push r1).setTop hl) h2 q fun I' H' σ' h' c => ?_
        exact k I' H' σ' h' ((Ch.set (List.mem_cons_self ..)).trans (c.mono fun j hj => List.mem_cons_of_mem _ hj))
      · cases q
theorem snd_gtp {is : List Nat} {k0 : Nat} (hK : X.K = g.K) (hc : X.calm = true) (hN : X.N.Nodup) (hp : Paired (GName X) es is) : SndG g X (.Tuple es k0 pos) is (gTp is) := by
  intro B I H ρ σ ts vs d v ρ' Q h q k
  unfold gTp at q
  cases ed : fz d with
  | tup ds =>
    rw [ed] at q
    dsimp only at q
    obtain ⟨en, ei⟩ := eachNames (X := X) hp
    refine mxG_of (pg_tup (n := es.length) hc pgs_mx (by simpa using en) ei) ?_
    obtain ⟨I2, _, h2, rr⟩ := h.fzTop (ds := [d]) (ws := [v]) rfl
    rw [List.map_cons, List.map_nil, ed] at rr h2
    obtain ⟨w, ew, r⟩ := rr.one_inv
    cases ew
    obtain ⟨p, us, rfl, _, tp, qq⟩ := r.tup_i
    have lens : ∀ {is : List Nat} {ds ρ ρ' : List D}, gNms is ds ρ = some ρ' → ds.length = is.length := by
      intro is
      induction is with
      | nil => intro ds ρ ρ' e; cases ds with | nil => rfl | cons _ _ => cases e
      | cons i is ih =>
        intro ds ρ ρ' e
        cases ds with
        | nil => cases e
        | cons d ds =>
          unfold gNms at e
          split at e
          · rw [List.length_cons, ih e, List.length_cons]
          · cases e
    have h3 := h2.pop (ds := [.tup ds]) (ws := [.ref p]) rfl
    have el : es.length = is.length := Paired.length hp
    exact ⟨p, us, rfl, hK ▸ (tp.same h3.same).sq, by rw [← qq.length, lens q, el], snd_gnms hN hp B I2 H ρ σ ts vs ds us ρ' Q h3 qq q k⟩
  | _ => rw [ed] at q; cases q

/-- over its items -/
def forD (fg : DenG) (fb : DenS) : List D → List D → Option Fl
  | [], ρ => some (.nx ρ)
  | d :: ds, ρ => match fg d ρ with
    | some ρ1 => match fb ρ1 with
      | some (.nx ρ2) => forD fg fb ds ρ2
      | some (.ct ρ2) => forD fg fb ds ρ2
      | some (.bk ρ2) => some (.nx ρ2)
      | some (.rt d ρ2) => some (.rt d ρ2)
      | none => none
    | none => none
def sFor (fi : Dens) (fg : DenG) (fb : DenS) : DenS := fun ρ => match fi ρ with
  | some (its, ρ') => forD fg fb its ρ'
  | none => none
theorem StP.popMid {B : Bs} {I H : Hp} {ρ : List D} {σ : L2.St} {ts dk : List D} {vs vk : List V} {d : D} {v : V} (h : StP g B I H ρ σ ((ts ++ dk) ++ [d]) ((vs ++ vk) ++ [v])) (hl : dk.length = vk.length) : StP g B I H ρ σ (ts ++ [d]) (vs ++ [v]) := by
  obtain ⟨F1, F2, s1, s2, nd, of, hF⟩ := h.reps
  obtain ⟨fa, fd, rfl, r1, r2⟩ := s2.split' rfl
  obtain ⟨f0, fk, rfl, q1, q2⟩ := r1.split' hl
  exact h.step hF (Same.refl _) h.same (fun _ _ e _ => e) (fun _ _ z => z) (fun _ z _ _ => z) ⟨F1, f0 ++ fd, s1, q1.append r2, by grind, fun b hb => ⟨of b (by grind), .inl (by grind)⟩⟩
theorem folded_no {x : Value} {env : Env} (h : noSet iter = true) : foldedSetIterable iter env x = pure x := by
  cases iter <;> first | rfl | cases h
theorem snd_for {sl : List Nat} (hnx : X.xe = fun _ _ => False) (hc : X.calm = true) (hs : noSet iter = true) (hi : SndI g X tg iter fi) (hg : SndG g X tg sl fg) (h0 : fx = true → 0 ∉ sl) (hb : SndB g fx X body fb) : SndS g fx X (.For tg iter body [] pos) (sFor fi fg fb) := by
  intro B I H ρ σ ts vs fl E h q k
  unfold sFor at q
  cases q1 : fi ρ with
  | none => rw [q1] at q; cases q
  | some z =>
    obtain ⟨its, ρ1⟩ := z
    rw [q1] at q
    dsimp only at q
    refine mxS_of (ps_for (by rw [hnx]; exact PassesOwn.never) hc pi_mx pg_mx pss_mx (fun x => folded_no hs)) ?_
    refine hi B I H ρ σ ts vs its ρ1 _ h q1 fun I1 H1 J dk vk h1 hl ok => ?_
    refine ⟨fun i m σ' H' => m = its.length - i ∧ i ≤ its.length ∧ ∃ I' ρ', StP g B I' H' ρ' σ' (ts ++ dk) (vs ++ vk) ∧ forD fg fb (its.drop i) ρ' = some fl ∧ Fx fx σ σ', ⟨its.length, by simp, Nat.zero_le _, I1, ρ1, h1, q, .refl⟩, ?_⟩
    rintro i m σ' H' ⟨rfl, hi', I', ρ', h', q', fxx⟩
    obtain ⟨it1, it2⟩ := ok B I' H' ρ' σ' ts vs i h'
    by_cases hlt : i < its.length
    · right
      obtain ⟨go, yl⟩ := it1 _ (List.getElem?_eq_getElem hlt)
      refine ⟨go, fun σ2 H2 => ∃ I2 ρ2, StP g B I2 H2 ρ2 σ2 (ts ++ dk) (vs ++ vk) ∧ forD fg fb (its.drop (i + 1)) ρ2 = some fl ∧ Fx fx σ σ2, fun σ2 H2 ⟨I2, ρ2, a, b, c⟩ => ⟨its.length - (i + 1), by omega, rfl, hlt, I2, ρ2, a, b, c⟩, fun x H2 y => ?_⟩
      obtain ⟨I2, h2⟩ := yl x H2 y
      rw [List.drop_eq_getElem_cons hlt] at q'
      unfold forD at q'
      cases e1 : fg its[i] ρ' with
      | none => rw [e1] at q'; cases q'
      | some ρ2 =>
        rw [e1] at q'
        dsimp only at q'
        refine hg B I2 H2 ρ' σ' (ts ++ dk) (vs ++ vk) _ x ρ2 _ h2 e1 fun I3 H3 σ3 h3 ch => ?_
        have fx3 : Fx fx σ σ3 := fxx.trans (ch.fx h0)
        cases e2 : fb ρ2 with
        | none => rw [e2] at q'; cases q'
        | some fl1 =>
          rw [e2] at q'
          refine hb B I3 H3 ρ2 σ3 (ts ++ dk) (vs ++ vk) fl1 _ h3 e2 ?_
          cases fl1 with
          | nx ρ3 => exact fun I4 H4 σ4 h4 f4 => ⟨I4, ρ3, h4, q', fx3.trans f4⟩
          | ct ρ3 => exact fun I4 H4 σ4 h4 f4 => ⟨I4, ρ3, h4, q', fx3.trans f4⟩
          | bk ρ3 => cases q'; exact fun I4 H4 σ4 h4 f4 => k I4 H4 σ4 (h4.pop hl) (fx3.trans f4)
          | rt d ρ3 => cases q'; exact fun I4 H4 σ4 v h4 f4 => k I4 H4 σ4 v (h4.popMid hl) (fx3.trans f4)
    · left
      have e : i = its.length := by omega
      refine ⟨it2 (by omega), ?_⟩
      rw [e, List.drop_length] at q'
      cases q'
      exact k I' H' σ' (h'.pop hl) fxx
end
end DV

set_option Elab.async false
set_option maxRecDepth 100000
set_option maxHeartbeats 4000000
set_option linter.all false
/-! DV11: while, comprehensions, unpacking, stores into lists, methods of lists. -/
namespace DV
open PySem L2 PySem.Spec PyProof.Rows

/-- turn after turn, until it ends -/
def whl {S R : Type} (f : S → Option (S ⊕ R)) (s : S) : Option R := match f s with
  | none => none
  | some (.inr r) => some r
  | some (.inl s') => whl f s'
partial_fixpoint

/-- it ends within n turns -/
inductive Ends2 {S R : Type} (f : S → Option (S ⊕ R)) (r : R) : Nat → S → Prop
  | done {s} : f s = some (.inr r) → Ends2 f r 0 s
  | turn {s s' n} : f s = some (.inl s') → Ends2 f r n s' → Ends2 f r (n + 1) s
theorem whl_ends {S R : Type} {f : S → Option (S ⊕ R)} : ∀ {s : S} {r : R}, whl f s = some r → ∃ n, Ends2 f r n s := by
  intro s r
  refine whl.partial_correctness f (motive := fun s r => ∃ n, Ends2 f r n s) ?_ s r
  intro w ih s r h
  split at h
  · cases h
  · cases h
    rename_i e
    exact ⟨0, .done e⟩
  · rename_i s' e
    obtain ⟨n, k⟩ := ih _ _ h
    exact ⟨n + 1, .turn e k⟩

/-- a while loop -/
def sWhile (fc : DenT) (fb : DenS) : DenS := whl fun ρ => match fc ρ with
  | some (true, ρ1) => match fb ρ1 with
    | some (.nx ρ2) => some (.inl ρ2)
    | some (.ct ρ2) => some (.inl ρ2)
    | some (.bk ρ2) => some (.inr (.nx ρ2))
    | some (.rt d ρ2) => some (.inr (.rt d ρ2))
    | none => none
  | some (false, ρ1) => some (.inr (.nx ρ1))
  | none => none

section
variable {g : G} {fx : Bool} {X : Cx} {tg iter elt c : Expr} {pos : Pos} {x : Str} {body : List Stmt} {fb : DenS} {fi : Dens} {fg : DenG} {fc : DenT} {es : List Expr}
theorem snd_while (hnx : X.xe = fun _ _ => False) (hc : SndT g X c fc) (hb : SndB g fx X body fb) : SndS g fx X (.While c body [] pos) (sWhile fc fb) := by
  intro B I H ρ σ ts vs fl E h q k
  obtain ⟨n, en⟩ := whl_ends (show whl _ ρ = some fl from q)
  refine mxS_of (ps_while (by rw [hnx]; exact PassesOwn.never) pt_mx pss_mx) ?_
  refine ⟨fun m σ' H' => ∃ I' ρ', StP g B I' H' ρ' σ' ts vs ∧ Ends2 _ fl m ρ' ∧ Fx fx σ σ', ⟨n, I, ρ, h, en, .refl⟩, ?_⟩
  rintro m σ' H' ⟨I', ρ', h', e', fxx⟩
  cases e' with
  | done e =>
    split at e
    · rename_i ρ1 q1
      refine hc B I' H' ρ' σ' ts vs true ρ1 _ h' q1 fun I2 H2 h2 => iteT ?_
      refine ⟨fun _ _ => False, fun _ _ z => z.elim, ?_⟩
      split at e <;> cases e
      · rename_i ρ2 q2
        exact hb B I2 H2 ρ1 σ' ts vs _ _ h2 q2 fun I3 H3 σ3 h3 f3 => k I3 H3 σ3 h3 (fxx.trans f3)
      · rename_i d ρ2 q2
        exact hb B I2 H2 ρ1 σ' ts vs _ _ h2 q2 fun I3 H3 σ3 v h3 f3 => k I3 H3 σ3 v h3 (fxx.trans f3)
    · rename_i ρ1 q1
      cases e
      exact hc B I' H' ρ' σ' ts vs false ρ1 _ h' q1 fun I2 H2 h2 => iteF (k I2 H2 σ' h2 fxx)
    · cases e
  | turn e e2 =>
    rename_i ρn m'
    split at e
    · rename_i ρ1 q1
      refine hc B I' H' ρ' σ' ts vs true ρ1 _ h' q1 fun I2 H2 h2 => iteT ?_
      refine ⟨fun σ2 H2 => ∃ I2 ρ2, StP g B I2 H2 ρ2 σ2 ts vs ∧ Ends2 _ fl m' ρ2 ∧ Fx fx σ σ2, fun σ2 H2 ⟨I2, ρ2, a, b, c⟩ => ⟨m', Nat.lt_succ_self _, I2, ρ2, a, b, c⟩, ?_⟩
      split at e <;> cases e
      · rename_i q2
        exact hb B I2 H2 ρ1 σ' ts vs _ _ h2 q2 fun I3 H3 σ3 h3 f3 => ⟨I3, ρn, h3, e2, fxx.trans f3⟩
      · rename_i q2
        exact hb B I2 H2 ρ1 σ' ts vs _ _ h2 q2 fun I3 H3 σ3 h3 f3 => ⟨I3, ρn, h3, e2, fxx.trans f3⟩
    · cases e
    · cases e

end

/-! ### comprehensions -/
def unset : List Nat → List D → List D
  | [], ρ => ρ
  | i :: r, ρ => (unset r ρ).set i .und
theorem unset_len {ρ : List D} : ∀ l : List Nat, (unset l ρ).length = ρ.length
  | [] => rfl
  | i :: r => by unfold unset; rw [List.length_set, unset_len r]
theorem unset_at {ρ : List D} {j : Nat} : ∀ {l : List Nat}, j ∈ l → j < ρ.length → (unset l ρ)[j]? = some .und
  | [], h, _ => by cases h
  | i :: r, h, l => by
    unfold unset
    by_cases e : i = j
    · subst e
      exact List.getElem?_set_self (by rw [unset_len]; exact l)
    · rw [List.getElem?_set_ne e]
      exact unset_at ((List.mem_cons.mp h).resolve_left fun z => e z.symm) l
section
variable {g : G} {B : Bs} {I I' H H' : Hp} {ρ : List D} {σ σ' : L2.St} {ts : List D} {vs : List V} {F : List Addr}
theorem Slots.unset1 : ∀ {ρ : List D} {σ : L2.St} {F : List Addr} (i : Nat), Slots g I H ρ σ F → ∃ F', F'.Sublist F ∧ Slots g I H (ρ.set i .und) σ F'
  | _, _, _, i, .nil => ⟨[], .slnil, by simpa using Slots.nil⟩
  | _, _, F, 0, .und r => ⟨F, .refl _, .und r⟩
  | _, _, _, 0, .cons (f := f) (F := F) h r => ⟨F, List.sublist_append_right _ _, .und r⟩
  | _, _, _, i + 1, .und r => by
    obtain ⟨F', s, k⟩ := Slots.unset1 i r
    exact ⟨F', s, .und k⟩
  | _, _, _, i + 1, .cons (f := f) h r => by
    obtain ⟨F', s, k⟩ := Slots.unset1 i r
    exact ⟨f ++ F', List.Sublist.append (.refl _) s, .cons h k⟩
theorem Slots.unset (h : Slots g I H ρ σ F) : ∀ l : List Nat, ∃ F', F'.Sublist F ∧ Slots g I H (DV.unset l ρ) σ F'
  | [] => ⟨F, .refl _, h⟩
  | i :: r => by
    obtain ⟨F1, s1, k1⟩ := Slots.unset h r
    obtain ⟨F2, s2, k2⟩ := k1.unset1 i
    exact ⟨F2, s2.trans s1, k2⟩
theorem Slots.other : ∀ {ρ : List D} {σ σ' : L2.St} {F : List Addr}, Slots g I H ρ σ F → σ'.length = σ.length → (∀ j : Nat, ρ[j]? = some D.und ∨ σ'[j]? = σ[j]?) → Slots g I H ρ σ' F
  | _, _, σ', _, .nil, l, _ => by cases σ' with | nil => exact .nil | cons _ _ => cases l
  | _, _, σ', _, .und r, l, k => by
    cases σ' with
    | nil => cases l
    | cons a t => exact .und (Slots.other r (by simpa using l) fun j => by simpa using k (j + 1))
  | _, _, σ', _, .cons (d := d) h r, l, k => by
    cases σ' with
    | nil => cases l
    | cons a t =>
      rename_i v0 _ _ _ _
      have e : a = some v0 := by
        rcases k 0 with z | z
        · have z' : d = .und := by simpa using z
          subst z'
          cases h
        · simpa using z
      rw [e]
      exact .cons h (Slots.other r (by simpa using l) fun j => by simpa using k (j + 1))
theorem StP.unset (h : StP g B I H ρ σ ts vs) {own : List Nat} (c : Ch own σ σ') : StP g B I H (DV.unset own ρ) σ' ts vs := by
  obtain ⟨F1, F2, s1, s2, nd, of, hF⟩ := h.reps
  obtain ⟨F', sb, k⟩ := s1.unset own
  have el := s1.length
  have k' : Slots g I H (DV.unset own ρ) σ' F' := k.other c.1 fun j => by
    by_cases q : j ∈ own
    · by_cases l : j < ρ.length
      · exact .inl (unset_at q l)
      · exact .inr (by rw [List.getElem?_eq_none (by rw [c.1]; omega), List.getElem?_eq_none (by omega)])
    · exact .inr (c.2 j q)
  have sub : ∀ b ∈ F', b ∈ F1 := fun b hb => sb.subset hb
  refine h.step hF (Same.refl _) h.same (fun _ _ e _ => e) (fun _ _ z => z) (fun _ z _ _ => z) ⟨F', F2, k', s2, ?_, fun b hb => ⟨of b ?_, .inl ?_⟩⟩
  · have n1 : F'.Nodup := (List.nodup_append.mp nd).1.sublist sb
    have n2 := (List.nodup_append.mp nd).2.1
    have n3 := (List.nodup_append.mp nd).2.2
    exact List.nodup_append.mpr ⟨n1, n2, fun a ha b hb => n3 a (sub a ha) b hb⟩
  · rcases List.mem_append.mp hb with z | z
    · exact List.mem_append_left _ (sub b z)
    · exact List.mem_append_right _ z
  · rcases List.mem_append.mp hb with z | z
    · exact List.mem_append_left _ (sub b z)
    · exact List.mem_append_right _ z
/-- the last value goes into the list ahead of it -/
theorem StP.appTop {acc : List D} {e : D} {p : Addr} {y : V} (h : StP g B I H ρ σ ((ts ++ [.own acc]) ++ [e]) ((vs ++ [.ref p]) ++ [y])) : ∃ us, H p = some (.lst us) ∧ us.length = acc.length ∧ StP g B I (upd H p (.lst (us ++ [y]))) ρ σ (ts ++ [.own (acc ++ [e])]) (vs ++ [.ref p]) := by
  obtain ⟨F1, F2, s1, s2, nd, of, hF⟩ := h.reps
  obtain ⟨fa, fe, rfl, r1, r2⟩ := s2.split' rfl
  obtain ⟨w, ew, re⟩ := r2.one_inv
  cases ew
  obtain ⟨f0, fo, rfl, q1, q2⟩ := r1.split' rfl
  obtain ⟨w, ew, ro⟩ := q2.one_inv
  cases ew
  cases ro with
  | own hp ri =>
    rename_i us f
    have np : p ∉ F1 ++ f0 ++ f ++ fe := by grind
    have kk : ∀ b, b ∈ F1 ++ f0 ++ f ++ fe → upd H p (.lst (us ++ [y])) b = H b := fun b hb => upd_ne (fun z => np (by rw [← z]; exact hb))
    have nI : I p = none := of p (by simp)
    refine ⟨us, hp, ri.length.symm, h.step hF (Same.refl _) (fun b u e => ?_) (fun b u e q => ?_) (fun b q z => ?_) (fun _ z _ _ => z) ⟨F1, f0 ++ (p :: (f ++ fe)), s1.mono (Same.refl _) fun b hb => kk b (by grind), ?_, ?_, fun b hb => ⟨of b (by grind), .inl (by grind)⟩⟩⟩
    · rw [upd_ne (fun z => by subst z; rw [nI] at e; cases e)]
      exact h.same b u e
    · rw [upd_ne (fun z => q (by subst z; simp))]
      exact e
    · by_cases w : b = p
      · subst w; rw [upd_same]; simp
      · rw [upd_ne w]; exact z
    · exact (q1.mono (Same.refl _) fun b hb => kk b (by grind)).append (Reps.one (.own upd_same ((ri.mono (Same.refl _) fun b hb => kk b (by grind)).append (Reps.one (re.mono (Same.refl _) fun b hb => kk b (by grind))))))
    · grind
end

/-- the items made, one by one -/
def compD (own : List Nat) (fg : DenG) (ft : DenT) (fe : Den) : List D → List D → List D → Option (List D × List D)
  | [], acc, ρ => some (acc, ρ)
  | d :: ds, acc, ρ => match fg d ρ with
    | some ρ1 => match ft ρ1 with
      | some (true, ρ2) => match fe ρ2 with
        | some (e, ρ3) => if acc.length < 100000 then compD own fg ft fe ds (acc ++ [e]) (unset own ρ3) else none
        | none => none
      | some (false, ρ2) => compD own fg ft fe ds acc (unset own ρ2)
      | none => none
    | none => none
def dComp (own : List Nat) (fi : Dens) (fg : DenG) (ft : DenT) (fe : Den) : Den := fun ρ => match fi ρ with
  | some (its, ρ') => match compD own fg ft fe its [] (unset own ρ') with
    | some (acc, ρ2) => some (.own acc, ρ2)
    | none => none
  | none => none

theorem unset_out {ρ : List D} {j : Nat} : ∀ {l : List Nat}, j ∉ l → (unset l ρ)[j]? = ρ[j]?
  | [], _ => rfl
  | i :: r, h => by
    unfold unset
    rw [List.getElem?_set_ne (fun z => h (by rw [z]; exact List.mem_cons_self ..))]
    exact unset_out fun z => h (List.mem_cons_of_mem _ z)
theorem unset_twice {ρ : List D} {l : List Nat} : unset l (unset l ρ) = unset l ρ := by
  refine List.ext_getElem? fun j => ?_
  by_cases h : j ∈ l
  · by_cases k : j < ρ.length
    · rw [unset_at h (by rw [unset_len]; exact k), unset_at h k]
    · rw [List.getElem?_eq_none (by rw [unset_len, unset_len]; omega), List.getElem?_eq_none (by rw [unset_len]; omega)]
  · rw [unset_out h]
theorem Ch.symm {sl : List Nat} {a b : L2.St} (h : Ch sl a b) : Ch sl b a := ⟨h.1.symm, fun j n => (h.2 j n).symm⟩
theorem Ch.wiped {sl : List Nat} {a : L2.St} : Ch sl a (L2.wipe a sl) := ⟨L2.wipe_length a sl, fun j n => by rw [wipe_at, if_neg (fun z => n z.1)]⟩

/-- a block of X -/
abbrev Blk (X : Cx) (scope : Scope) (s : Shared) (H : Hp) (C : Addr) (cl : List (Str × Addr)) (fp : List Addr) : Cx := X.blk s H scope (compEnvC scope cl C X.env) fp
section
variable {g : G} {X : Cx} {tg iter elt : Expr} {ifs : List Expr} {scope : Scope} {pos : Pos} {fi : Dens} {fg : DenG} {ft : DenT} {fe : Den} {own : List (Str × Nat)} {ow : List Nat}
/-- what is asked of a comprehension's parts, in each block; tests: none, or one -/
structure BlkSnd (g : G) (X : Cx) (scope : Scope) (tg elt : Expr) (ifs : List Expr) (own : List Nat) (fg : DenG) (ft : DenT) (fe : Den) : Prop where
  tgt : ∀ s H C cl fp, SndG g (Blk X scope s H C cl fp) tg own fg
  ifs : (ifs = [] ∧ ft = fun ρ => some (true, ρ)) ∨ ∃ c, ifs = [c] ∧ ∀ s H C cl fp, SndT g (Blk X scope s H C cl fp) c ft
  elt : ∀ s H C cl fp, SndE g (Blk X scope s H C cl fp) elt fe

theorem StP.swap {B : Bs} {I H : Hp} {ρ : List D} {σ : L2.St} {ts d1 d2 d3 : List D} {vs w1 w2 w3 : List V} (h : StP g B I H ρ σ (((ts ++ d1) ++ d2) ++ d3) (((vs ++ w1) ++ w2) ++ w3)) (e1 : d1.length = w1.length) (e2 : d2.length = w2.length) (e3 : d3.length = w3.length) :
    StP g B I H ρ σ (((ts ++ d2) ++ d1) ++ d3) (((vs ++ w2) ++ w1) ++ w3) := by
  obtain ⟨F1, F2, s1, s2, nd, of, hF⟩ := h.reps
  obtain ⟨fa, f3, rfl, r1, r3⟩ := s2.split' e3
  obtain ⟨fb, f2, rfl, r1, r2⟩ := r1.split' e2
  obtain ⟨f0, f1, rfl, r0, r1⟩ := r1.split' e1
  refine h.step hF (Same.refl _) h.same (fun _ _ e _ => e) (fun _ _ z => z) (fun _ z _ _ => z) ⟨F1, ((f0 ++ f2) ++ f1) ++ f3, s1, ((r0.append r2).append r1).append r3, ?_, fun b hb => ⟨of b (by grind), .inl (by grind)⟩⟩
  simp only [List.nodup_append, List.mem_append] at *
  grind

theorem comp_core (b : BlkSnd g X scope tg elt ifs ow fg ft fe) (hi : SndI g X tg iter fi) {B : Bs} {I H : Hp} {ρ : List D} {σ : L2.St} {ts : List D} {vs : List V} {d : D} {ρ' : List D} {Q : VK} (h : StP g B I H ρ σ ts vs)
    (q : dComp ow fi fg ft fe ρ = some (d, ρ')) (k : ∀ I' H' v, StP g B I' H' ρ' σ (ts ++ [d]) (vs ++ [v]) → Q v H') :
    ∃ (g' : TG) (tt : TT) (te : TE), (∀ s H C cl fp, PG (Blk X scope s H C cl fp) tg g') ∧ (∀ s H C cl fp, PTs (Blk X scope s H C cl fp) ifs tt) ∧ (∀ s H C cl fp, PE (Blk X scope s H C cl fp) elt te) ∧ tLc (mxI X tg iter) g' tt te ow σ H Q := by
  have hT : ∃ tt : TT, (∀ s H C cl fp, PTs (Blk X scope s H C cl fp) ifs tt) ∧ ∀ (B : Bs) (I H : Hp) (ρ : List D) (σ : L2.St) (ts : List D) (vs : List V) (b : Bool) (ρ' : List D) (Q : Bool → Hp → Prop), StP g B I H ρ σ ts vs → ft ρ = some (b, ρ') →
      (∀ I' H', StP g B I' H' ρ' σ ts vs → Q b H') → tt σ H Q := by
    rcases b.ifs with ⟨rfl, rfl⟩ | ⟨c, rfl, hc⟩
    · exact ⟨tYes, fun _ _ _ _ _ => pts_nil, fun B I H ρ σ ts vs t ρ' Q h q k => by cases q; exact k I H h⟩
    · exact ⟨fun σ H Q => ∀ s H0 C cl fp, mxT (Blk X scope s H0 C cl fp) c σ H Q, fun s H C cl fp => pts_one ⟨fun pins s' σ H' Q' Iv h => (h s H C cl fp).run pins s' Iv⟩, fun B I H ρ σ ts vs t ρ' Q h q k s H0 C cl fp => hc s H0 C cl fp B I H ρ σ ts vs t ρ' Q h q k⟩
  obtain ⟨tt, ht, tok⟩ := hT
  refine ⟨fun v σ H Q => ∀ s H0 C cl fp, mxG (Blk X scope s H0 C cl fp) tg v σ H Q, tt, fun σ H Q => ∀ s H0 C cl fp, mx (Blk X scope s H0 C cl fp) elt σ H Q, fun s H C cl fp => ⟨fun pins s' σ H' v u Q' Iv r h => (h s H C cl fp).run pins s' u Iv r⟩, ht, fun s H C cl fp => ⟨fun pins s' σ H' Q' Iv h => (h s H C cl fp).run pins s' Iv⟩, ?_⟩
  unfold dComp at q
  cases q1 : fi ρ with
  | none => rw [q1] at q; cases q
  | some z =>
    obtain ⟨its, ρ1⟩ := z
    rw [q1] at q
    dsimp only at q
    cases q2 : compD ow fg ft fe its [] (unset ow ρ1) with
    | none => rw [q2] at q; cases q
    | some z =>
      obtain ⟨acc, ρ2⟩ := z
      rw [q2] at q; cases q
      refine hi B I H ρ σ ts vs its ρ1 _ h q1 fun I1 H1 J dk vk h1 hlk ok => ?_
      intro p hp
      have h1' : StP g B I1 H1 (unset ow ρ1) σ (ts ++ dk) (vs ++ vk) := h1.unset .refl
      refine ⟨fun i m H' => m = its.length - i ∧ i ≤ its.length ∧ ∃ I' ρ3 acc', StP g B I' H' ρ3 σ ((ts ++ dk) ++ [.own acc']) ((vs ++ vk) ++ [.ref p]) ∧ compD ow fg ft fe (its.drop i) acc' ρ3 = some (acc, ρ') ∧ unset ow ρ3 = ρ3, ⟨its.length, by simp, Nat.zero_le _, I1, _, [], ?_, q2, unset_twice⟩, ?_⟩
      · have := h1'.newL (xs := []) (us := []) hp .nil
        simpa using this
      · rintro i m H' ⟨rfl, hi', I', ρ3, acc', h', q', un⟩
        -- the iterator, with the new list beside what it holds
        have hw : StP g B I' H' ρ3 σ ((ts ++ [.own acc']) ++ dk) ((vs ++ [.ref p]) ++ vk) := by
          have z := StP.swap (ts := ts) (d1 := dk) (d2 := [.own acc']) (d3 := []) (vs := vs) (w1 := vk) (w2 := [.ref p]) (w3 := []) (by rw [List.append_nil, List.append_nil]; exact h') hlk rfl rfl
          rw [List.append_nil, List.append_nil] at z
          exact z
        obtain ⟨it1, it2⟩ := ok B I' H' ρ3 σ (ts ++ [.own acc']) (vs ++ [.ref p]) i hw
        by_cases hlt : i < its.length
        · right
          obtain ⟨go, yl⟩ := it1 _ (List.getElem?_eq_getElem hlt)
          refine ⟨go, fun H2 => ∃ I2 ρ4 acc2, StP g B I2 H2 ρ4 σ ((ts ++ dk) ++ [.own acc2]) ((vs ++ vk) ++ [.ref p]) ∧ compD ow fg ft fe (its.drop (i + 1)) acc2 ρ4 = some (acc, ρ') ∧ unset ow ρ4 = ρ4, fun H2 ⟨I2, ρ4, acc2, a, b, c⟩ => ⟨its.length - (i + 1), by omega, rfl, hlt, I2, ρ4, acc2, a, b, c⟩, fun x H2 y => ?_⟩
          obtain ⟨I2, h2⟩ := yl x H2 y
          have h2' : StP g B I2 H2 ρ3 σ (((ts ++ dk) ++ [.own acc']) ++ [its[i]]) (((vs ++ vk) ++ [.ref p]) ++ [x]) := StP.swap h2 rfl hlk rfl
          have h3 : StP g B I2 H2 ρ3 (L2.wipe σ ow) (((ts ++ dk) ++ [.own acc']) ++ [its[i]]) (((vs ++ vk) ++ [.ref p]) ++ [x]) := by
            have := h2'.unset (own := ow) Ch.wiped
            rwa [un] at this
          rw [List.drop_eq_getElem_cons hlt] at q'
          unfold compD at q'
          intro s0 H0 C cl fp
          cases e1 : fg its[i] ρ3 with
          | none => rw [e1] at q'; cases q'
          | some ρ4 =>
            rw [e1] at q'
            dsimp only at q'
            refine b.tgt s0 H0 C cl fp B I2 H2 ρ3 _ _ _ _ x ρ4 _ h3 e1 fun I4 H4 σ4 h4 c4 => ?_
            have back : Ch ow σ4 σ := (Ch.wiped.trans c4).symm
            refine ⟨c4.wipe.trans (Ch.wipe Ch.wiped), ?_⟩
            cases e2 : ft ρ4 with
            | none => rw [e2] at q'; cases q'
            | some z =>
              obtain ⟨t, ρ5⟩ := z
              rw [e2] at q'
              refine tok B I4 H4 ρ4 σ4 _ _ t ρ5 _ h4 e2 fun I5 H5 h5 => ?_
              cases t with
              | true =>
                dsimp only at q'
                refine iteT fun s0 H0 C cl fp => ?_
                cases e3 : fe ρ5 with
                | none => rw [e3] at q'; cases q'
                | some z =>
                  obtain ⟨e, ρ6⟩ := z
                  rw [e3] at q'
                  dsimp only at q'
                  split at q'
                  · rename_i hl
                    refine b.elt s0 H0 C cl fp B I5 H5 ρ5 σ4 _ _ e ρ6 _ h5 e3 fun I6 H6 v h6 => ?_
                    obtain ⟨us, hp6, ul, h7⟩ := h6.appTop
                    refine ⟨us, hp6, Nat.lt_of_lt_of_le (by omega : us.length < 100000) (line100 (Nat.le_refl _)), I6, unset ow ρ6, acc' ++ [e], h7.unset back, q', unset_twice⟩
                  · cases q'
              | false => exact iteF ⟨I5, unset ow ρ5, acc', h5.unset back, q', unset_twice⟩
        · left
          have e : i = its.length := by omega
          refine ⟨it2 (by omega), ?_⟩
          rw [e, List.drop_length] at q'
          cases q'
          exact k I' H' _ (h'.popMid hlk)
end
end DV

set_option Elab.async false
set_option maxRecDepth 100000
set_option maxHeartbeats 4000000
set_option linter.all false
/-! DV12: comprehensions as values; lists in slots: items read and stored, methods; unpacking; chains; slices; f-strings. -/
namespace DV
open PySem L2 PySem.Spec PyProof.Rows

section
variable {g : G} {X : Cx} {tg iter elt e : Expr} {ifs : List Expr} {scope : Scope} {pos pos' : Pos} {fi : Dens} {fg : DenG} {ft : DenT} {fe : Den} {own : List (Str × Nat)} {fx : Bool} {x : Str}
theorem snd_lc (hc : X.calm = true) (hN : X.N.Nodup) (hi : SndI g X tg iter fi) (ok : BlkOk X.N X.env.scope scope own) (b : BlkSnd g X scope tg elt ifs (own.map (·.2)) fg ft fe) (hs : noSet iter = true) :
    SndE g X (.ListComp elt [⟨tg, iter, ifs, 0⟩] scope pos) (dComp (own.map (·.2)) fi fg ft fe) := by
  intro B I H ρ σ ts vs d ρ' Q h q k
  obtain ⟨g', tt, te, h1, h2, h3, c⟩ := comp_core b hi h q k
  exact mx_of (pe_lc hc hN pi_mx ok h1 h2 h3 (fun x => folded_no hs)) c
theorem snd_asg' {i : Nat} (hN : X.N.Nodup) (hi : X.N[i]? = some x) (hx : Loc X.env.scope x) (hf : X.fn x = true ∨ X.env.scope.names.lookup x = some .local) (hc : swapsWith e (some (.Name x pos')) pos.line X.env = pure false) (h0 : fx = true → i ≠ 0) (he : SndE g X e fe) :
    SndS g fx X (.Assign [.Name x pos'] e pos) (sAsg i fe) := by
  intro B I H ρ σ ts vs fl E h q k
  unfold sAsg at q
  cases q1 : fe ρ with
  | none => rw [q1] at q; cases q
  | some a =>
    obtain ⟨d, ρ'⟩ := a
    rw [q1] at q
    dsimp only at q
    split at q
    · rename_i hl
      cases q
      exact mxS_of (ps_set hN hi hx pe_mx hc hf) (he B I H ρ σ ts vs d ρ' _ h q1 fun I' H' v h' => k I' H' _ (h'.setTop hl) (.set h0))
    · cases q
/-- does a new list go to the name ahead of the block's end -/
def swL (sc scope : Scope) (x : Str) (p v : Pos) : Bool := (if sc.kind.isAnnotationScope then .function else sc.kind) == ScopeKind.function && sc.names.lookup x == some .local && p.line == v.line && !(scope.names.any fun (n, k) => n == x && (k == .local || k == .cell))
theorem swL_eq {gs : List Comprehension} {l : Nat} : swapsWith (.ListComp elt gs scope pos) (some (.Name x pos')) l X.env = pure (swL X.env.scope scope x pos' pos) := rfl
theorem snd_asgL {i : Nat} {lpos : Pos} (hc : X.calm = true) (hN : X.N.Nodup) (hi : X.N[i]? = some x) (hx : Loc X.env.scope x) (hf : X.fn x = true ∨ X.env.scope.names.lookup x = some .local) (h0 : fx = true → i ≠ 0)
    (hI : SndI g X tg iter fi) (ok : BlkOk X.N X.env.scope scope own) (b : BlkSnd g X scope tg elt ifs (own.map (·.2)) fg ft fe) (hs : noSet iter = true) :
    SndS g fx X (.Assign [.Name x pos'] (.ListComp elt [⟨tg, iter, ifs, 0⟩] scope lpos) pos) (sAsg i (dComp (own.map (·.2)) fi fg ft fe)) := by
  cases sw : swL X.env.scope scope x pos' lpos with
  | false => exact snd_asg' hN hi hx hf (by rw [swL_eq, sw]) h0 (snd_lc hc hN hI ok b hs)
  | true =>
    have hl : X.env.scope.names.lookup x = some .local := by
      unfold swL at sw
      simp only [Bool.and_eq_true, beq_iff_eq] at sw
      exact sw.1.1.2
    intro B I H ρ σ ts vs fl E h q k
    unfold sAsg at q
    cases q1 : dComp (own.map (·.2)) fi fg ft fe ρ with
    | none => rw [q1] at q; cases q
    | some a =>
      obtain ⟨d, ρ'⟩ := a
      rw [q1] at q
      dsimp only at q
      split at q
      · rename_i hlen
        cases q
        obtain ⟨g', tt, te, h1, h2, h3, c⟩ := comp_core (Q := fun v H' => E.nx (σ.set i (some v)) H') b hI h q1 fun I' H' v h' => k I' H' _ (h'.setTop hlen) (.set h0)
        exact mxS_of (ps_setLc hc hN hi hl (by rw [swL_eq, sw]) pi_mx ok h1 h2 h3 (fun x => folded_no hs)) c
      · cases q
end

/-! ### a list in a slot -/
theorem set_same {α : Type} {l : List α} {i : Nat} {a : α} (h : l[i]? = some a) : l.set i a = l := List.ext_getElem? fun j => by
  by_cases q : i = j
  · subst q
    rw [List.getElem?_set_self (List.getElem?_eq_some_iff.mp h).1, h]
  · rw [List.getElem?_set_ne q]
section
variable {g : G} {B : Bs} {I I' H H' : Hp} {ρ : List D} {σ : L2.St} {ts ds xs zs : List D} {vs us : List V} {F : List Addr} {d : D} {v : V} {i j : Nat}
theorem Reps.item : ∀ {ds : List D} {us : List V} {F : List Addr} {i : Nat} {d : D}, Reps g I H ds us F → ds[i]? = some d →
    ∃ v A f C, us[i]? = some v ∧ F = A ++ (f ++ C) ∧ Rep g I H d v f ∧ ∀ {I' H' : Hp} {d' : D} {v' : V} {f' : List Addr}, Same I I' → (∀ b ∈ A ++ C, H' b = H b) → Rep g I' H' d' v' f' → Reps g I' H' (ds.set i d') (us.set i v') (A ++ (f' ++ C))
  | _, _, _, i, _, .nil, e => by simp at e
  | _, _, _, 0, _, .cons (f1 := f1) (f2 := f2) h r, e => by
    have e1 := Option.some.inj (show some _ = some _ from e)
    subst e1
    exact ⟨_, [], f1, f2, rfl, rfl, h, fun si k h' => by rw [List.nil_append]; exact .cons h' (r.mono si k)⟩
  | _, _, _, i + 1, _, .cons (f1 := f1) h0 r, e => by
    obtain ⟨v, A, f, C, e1, rfl, h, k⟩ := Reps.item (i := i) r (by simpa using e)
    refine ⟨v, f1 ++ A, f, C, by simpa using e1, (List.append_assoc ..).symm, h, fun si q h' => ?_⟩
    rw [List.append_assoc]
    exact .cons (h0.mono si fun b hb => q b (by simp [hb])) (k si (fun b hb => q b (by simp only [List.append_assoc, List.mem_append] at hb ⊢; exact .inr hb)) h')
/-- an item is read; it is frozen, the list not -/
theorem StP.ownRead (h : StP g B I H ρ σ ts vs) (e : ρ[i]? = some (.own xs)) (ej : xs[j]? = some d) :
    ∃ p us v I', σ[i]? = some (some (.ref p)) ∧ H p = some (.lst us) ∧ us.length = xs.length ∧ us[j]? = some v ∧ StP g B I' H (ρ.set i (.own (xs.set j (fz d)))) σ (ts ++ [fz d]) (vs ++ [v]) := by
  obtain ⟨F1, F2, h1, h2, nd, of, hF⟩ := h.reps
  obtain ⟨w, A, f, C, es, rfl, r, k⟩ := h1.at e (by simp)
  cases r with
  | own hp ri =>
    rename_i p us f0
    obtain ⟨v, A0, f1, C0, ev, rfl, rd, k0⟩ := ri.item ej
    have n' : ∀ b ∈ f1, I b = none := fun b hb => of b (by grind)
    have si := tk_same (H := H) n'
    have rr : Rep g (tk I H f1) H (fz d) v [] := rd.fz si fun b hb => tk_in hb
    have k3 := k0 si (fun _ _ => rfl) rr
    rw [set_same ev] at k3
    have k1 := k si (fun _ _ => rfl) (.own hp k3)
    rw [set_same es] at k1
    have k2 := (h2.mono (H' := H) si fun _ _ => rfl).append (Reps.one rr)
    refine ⟨p, us, v, tk I H f1, es, hp, ri.length.symm, ev, h.step hF si (tk_sub h.same) (fun _ _ e _ => e) (fun _ _ z => z) (fun b z _ n => ?_) ⟨_, _, k1, k2, ?_, fun b hb => ?_⟩⟩
    · rw [tk_out (by grind)]; exact z
    · clear k k0 k1 k2 k3
      simp only [List.nodup_append, List.mem_append, List.nodup_cons, List.mem_cons, List.nil_append, List.append_nil] at *
      grind
    · have hb' : b ∉ f1 := by
        clear k k0 k1 k2 k3
        simp only [List.nodup_append, List.mem_append, List.nodup_cons, List.mem_cons, List.nil_append, List.append_nil] at *
        grind
      rw [tk_out hb']
      exact ⟨of b (by grind), .inl (by grind)⟩
theorem ne_upd {H : Hp} {p b : Addr} {o : HO} (h : b ≠ p) : upd H p o b = H b := upd_ne h
theorem StP.ownAt (h : StP g B I H ρ σ ts vs) (e : ρ[i]? = some (.own xs)) : ∃ p xv, σ[i]? = some (some (.ref p)) ∧ H p = some (.lst xv) ∧ xv.length = xs.length := by
  obtain ⟨F1, F2, h1, h2, nd, of, hF⟩ := h.reps
  obtain ⟨w, A, f, C, es, rfl, r, _⟩ := h1.at e (by simp)
  cases r with
  | own hp ri => exact ⟨_, _, es, hp, ri.length.symm⟩
theorem StP.ownSet (h : StP g B I H ρ σ (ts ++ [d]) (vs ++ [v])) (e : ρ[i]? = some (.own xs)) (hj : j < xs.length) :
    ∃ p xv, σ[i]? = some (some (.ref p)) ∧ H p = some (.lst xv) ∧ xv.length = xs.length ∧ StP g B I (upd H p (.lst (xv.set j v))) (ρ.set i (.own (xs.set j d))) σ ts vs := by
  obtain ⟨F1, F2, h1, h2, nd, of, hF⟩ := h.reps
  obtain ⟨fa, fd, rfl, r1, r2⟩ := h2.split' rfl
  obtain ⟨w, ew, rd⟩ := r2.one_inv
  cases ew
  obtain ⟨w, A, f, C, es, rfl, r, k⟩ := h1.at e (by simp)
  cases r with
  | own hp ri =>
    rename_i p xv f0
    obtain ⟨v1, A0, f1, C0, ev, rfl, _, k0⟩ := ri.item (List.getElem?_eq_getElem hj)
    have np : p ∉ (A ++ C) ++ (A0 ++ C0) ++ (fa ++ fd) := by
      clear k k0
      simp only [List.nodup_append, List.mem_append, List.nodup_cons, List.mem_cons] at *
      grind
    have kk : ∀ b, b ∈ (A ++ C) ++ (A0 ++ C0) ++ (fa ++ fd) → upd H p (.lst (xv.set j v)) b = H b := fun b hb => upd_ne (fun z => np (by rw [← z]; exact hb))
    have nI : I p = none := of p (by simp)
    have rl := ri.length
    have k1 := k (Same.refl _) (fun b hb => kk b (by grind)) (.own upd_same (k0 (Same.refl _) (fun b hb => kk b (by grind)) (rd.mono (Same.refl _) fun b hb => kk b (by grind))))
    rw [set_same es] at k1
    refine ⟨p, xv, es, hp, rl.symm, h.step hF (Same.refl _) (fun b u e => ?_) (fun b u e q => ?_) (fun b q z => ?_) (fun _ z _ _ => z) ⟨_, fa, k1, r1.mono (Same.refl _) fun b hb => kk b (by grind), ?_, fun b hb => ⟨of b (by grind), .inl (by grind)⟩⟩⟩
    · rw [upd_ne (fun z => by subst z; rw [nI] at e; cases e)]
      exact h.same b u e
    · rw [upd_ne (fun z => q (by subst z; simp))]
      exact e
    · by_cases w : b = p
      · subst w; rw [upd_same]; simp
      · rw [upd_ne w]; exact z
    · clear k k0 k1 kk
      simp only [List.nodup_append, List.mem_append, List.nodup_cons, List.mem_cons] at *
      grind
theorem StP.ownApp (h : StP g B I H ρ σ (ts ++ ds) (vs ++ us)) (hl : ds.length = us.length) (e : ρ[i]? = some (.own xs)) :
    ∃ p xv, σ[i]? = some (some (.ref p)) ∧ H p = some (.lst xv) ∧ xv.length = xs.length ∧ StP g B I (upd H p (.lst (xv ++ us))) (ρ.set i (.own (xs ++ ds))) σ ts vs := by
  obtain ⟨F1, F2, h1, h2, nd, of, hF⟩ := h.reps
  obtain ⟨fa, fd, rfl, r1, r2⟩ := h2.split' hl
  obtain ⟨w, A, f, C, es, rfl, r, k⟩ := h1.at e (by simp)
  cases r with
  | own hp ri =>
    rename_i p xv f0
    have np : p ∉ (A ++ C) ++ f0 ++ (fa ++ fd) := by
      clear k
      simp only [List.nodup_append, List.mem_append, List.nodup_cons, List.mem_cons] at *
      grind
    have kk : ∀ b, b ∈ (A ++ C) ++ f0 ++ (fa ++ fd) → upd H p (.lst (xv ++ us)) b = H b := fun b hb => upd_ne (fun z => np (by rw [← z]; exact hb))
    have nI : I p = none := of p (by simp)
    have rl := ri.length
    have k1 := k (Same.refl _) (fun b hb => kk b (by grind)) (.own upd_same ((ri.mono (Same.refl _) fun b hb => kk b (by grind)).append (r2.mono (Same.refl _) fun b hb => kk b (by grind))))
    rw [set_same es] at k1
    refine ⟨p, xv, es, hp, rl.symm, h.step hF (Same.refl _) (fun b u e => ?_) (fun b u e q => ?_) (fun b q z => ?_) (fun _ z _ _ => z) ⟨_, fa, k1, r1.mono (Same.refl _) fun b hb => kk b (by grind), ?_, fun b hb => ⟨of b (by grind), .inl (by grind)⟩⟩⟩
    · rw [upd_ne (fun z => by subst z; rw [nI] at e; cases e)]
      exact h.same b u e
    · rw [upd_ne (fun z => q (by subst z; simp))]
      exact e
    · by_cases w : b = p
      · subst w; rw [upd_same]; simp
      · rw [upd_ne w]; exact z
    · clear k k1 kk
      simp only [List.nodup_append, List.mem_append, List.nodup_cons, List.mem_cons] at *
      grind
end
end DV

set_option Elab.async false
set_option maxRecDepth 100000
set_option maxHeartbeats 4000000
set_option linter.all false
/-! DV13: items, stores, unpacking, methods of lists, chains, slices, f-strings. -/
namespace DV
open PySem L2 PySem.Spec PyProof.Rows

theorem fz_fz (d : D) : fz (fz d) = fz d := by
  cases d <;> simp [fz]
/-- an item of what slot i holds; a list there stays as it is -/
def dItem (i : Nat) (fj : Den) : Den := fun ρ => if held ρ i = true then match fj ρ with
  | some (.int j, ρ') => match ρ'[i]? with
    | some (.own xs) => match ixN xs.length j with
      | some k => match xs[k]? with
        | some d => some (fz d, ρ'.set i (.own (xs.set k (fz d))))
        | none => none
      | none => none
    | some d => match ixB d (.int j) with
      | some d' => some (d', ρ')
      | none => none
    | none => none
  | _ => none
  else none
def gItem (i : Nat) (fj : Den) : DenG := fun d ρ => if held ρ i = true then match fj ρ with
  | some (.int j, ρ') => match ρ'[i]? with
    | some (.own xs) => match ixN xs.length j with
      | some k => some (ρ'.set i (.own (xs.set k d)))
      | none => none
    | _ => none
  | _ => none
  else none
/-- target = value -/
def sAsgG (fe : Den) (fg : DenG) : DenS := fun ρ => match fe ρ with
  | some (d, ρ') => match fg d ρ' with
    | some ρ2 => some (.nx ρ2)
    | none => none
  | none => none
def gTs : List DenG → List D → List D → Option (List D)
  | [], [], ρ => some ρ
  | f :: fs, d :: ds, ρ => match f d ρ with
    | some ρ1 => gTs fs ds ρ1
    | none => none
  | _, _, _ => none
def gTup (fs : List DenG) : DenG := fun d ρ => match fz d with
  | .tup ds => gTs fs ds ρ
  | _ => none
def sPar (i j : Nat) (r : Dens) : DenS := fun ρ => match r ρ with
  | some ([d1, d2], ρ') => if i < ρ'.length ∧ j < ρ'.length then some (.nx ((ρ'.set i d1).set j d2)) else none
  | _ => none
def sPar3 (i j l : Nat) (r : Dens) : DenS := fun ρ => match r ρ with
  | some ([d1, d2, d3], ρ') => if i < ρ'.length ∧ j < ρ'.length ∧ l < ρ'.length then some (.nx (((ρ'.set i d1).set j d2).set l d3)) else none
  | _ => none
def isOwn (ρ : List D) (i : Nat) : Bool := match ρ[i]? with
  | some (.own _) => true
  | _ => false
/-- xs.append(e), xs in slot i -/
def dApp (i : Nat) (fe : Den) : Den := fun ρ => if isOwn ρ i = true then match fe ρ with
  | some (d, ρ') => match ρ'[i]? with
    | some (.own xs) => if xs.length < 100000 then some (.non, ρ'.set i (.own (xs ++ [d]))) else none
    | _ => none
  | none => none
  else none
def dExt (i : Nat) (fe : Den) : Den := fun ρ => if isOwn ρ i = true then match fe ρ with
  | some (d, ρ') => match fz d, ρ'[i]? with
    | .lst zs, some (.own xs) => if xs.length + zs.length ≤ 100000 then some (.non, ρ'.set i (.own (xs ++ zs))) else none
    | _, _ => none
  | none => none
  else none
def negB : D → Option D
  | .int i => some (.int (-i))
  | _ => none
def dUn (φ : D → Option D) (f : Den) : Den := fun ρ => match f ρ with
  | some (d, ρ') => match φ (fz d) with
    | some d' => some (d', ρ')
    | none => none
  | none => none

section
variable {g : G} {X : Cx} {B : Bs} {I I' H H' : Hp} {ρ : List D} {σ : L2.St} {ts ds xs : List D} {vs ws us : List V} {d : D} {v : V} {f : List Addr} {a b c e tg : Expr} {fa fb fc fe fj : Den} {pos p pos' : Pos} {x : Str} {i : Nat} {fx : Bool} {fg : DenG} {sl : List Nat} {r : Dens} {es : List Expr}

theorem ixB_ok {x y : V} {j : D} {Q : VK} (hK : X.K = g.K) (h4 : StP g B I H ρ σ ts vs) (r1 : Rep g I H d x []) (r2 : Rep g I H j y []) {d' : D} (q3 : ixB d j = some d') (k : ∀ v, StP g B I H ρ σ (ts ++ [d']) (vs ++ [v]) → Q v H) : rIx X.K x y H Q := by
  unfold ixB at q3
  split at q3
  · obtain ⟨p, us, rfl, _, hp, q⟩ := r1.lst_i
    obtain ⟨rfl, _⟩ := r2.int_i
    obtain ⟨v, ev, rv⟩ := q.atI q3
    exact .inl ⟨p, us, _, v, rfl, rfl, SqL.of (h4.same _ _ hp), ev, k _ (h4.push rv)⟩
  · obtain ⟨p, us, rfl, _, hp, q⟩ := r1.con_i
    obtain ⟨rfl, _⟩ := r2.int_i
    obtain ⟨v, ev, rv⟩ := q.atI q3
    exact .inl ⟨p, us, _, v, rfl, rfl, hK ▸ h4.same.seq hp, ev, k _ (h4.push rv)⟩
  · obtain ⟨p, us, rfl, _, hp, q⟩ := r1.tup_i
    obtain ⟨rfl, _⟩ := r2.int_i
    obtain ⟨v, ev, rv⟩ := q.atI q3
    exact .inr (.inl ⟨p, us, _, v, rfl, rfl, hK ▸ (hp.same h4.same).sq, ev, k _ (h4.push rv)⟩)
  · split at q3
    · rename_i hl
      obtain ⟨rfl, _⟩ := r1.str_i
      obtain ⟨rfl, _⟩ := r2.int_i
      obtain ⟨c, ec, rfl⟩ := Option.map_eq_some_iff.mp q3
      exact .inr (.inr ⟨_, _, c, rfl, rfl, line100 hl, ec, k _ (h4.push .str)⟩)
    · cases q3
  · cases q3
theorem StP.topInt {j : Int} (h : StP g B I H ρ σ (ts ++ [.int j]) (vs ++ [v])) : v = .int j ∧ StP g B I H ρ σ ts vs := by
  obtain ⟨f, r⟩ := h.topRep
  exact ⟨r.int_i.1, h.pop rfl⟩
theorem snd_item (hK : X.K = g.K) (hN : X.N[i]? = some x) (hv : Vis X.env.scope x) (hd : (x == ("__debug__" : Str)) = false) (hcd : (x == ("__classdict__" : Str)) = false) (hs : noSlice b = true) (hb : SndE g X b fj) :
    SndE g X (.Subscript (.Name x p) b pos) (dItem i fj) := by
  intro B I H ρ σ ts vs d ρ' Q h q k
  unfold dItem at q
  split at q
  · rename_i h0
    obtain ⟨dz, ez, hz⟩ := held_some h0
    obtain ⟨v0, _, e0, _⟩ := h.var ez hz
    refine mx_of (pe_ix ix_seq (pe_var hN hv hd hcd) pe_mx (plain_ix hs)) ⟨v0, e0, ?_⟩
    split at q
    · rename_i j ρ1 q1
      refine hb B I H ρ σ ts vs _ ρ1 _ h q1 fun I1 H1 y h1 => ?_
      obtain ⟨rfl, h2⟩ := h1.topInt
      split at q
      · rename_i xs e1
        split at q
        · rename_i k0 e2
          split at q
          · rename_i d0 e3
            cases q
            obtain ⟨p, us, v, I2, es, hp, hl, ev, h3⟩ := h2.ownRead e1 e3
            rw [e0] at es
            cases es
            refine .inl ⟨p, us, j, v, rfl, rfl, SqL.of hp, ?_, k I2 H1 v h3⟩
            unfold L2.atI
            rw [hl, e2]
            exact ev
          · cases q
        · cases q
      · rename_i d1 hno e1
        split at q
        · rename_i d2 e2
          cases q
          have hu : d1 ≠ .und := fun z => by subst z; cases e2
          have hf : fz d1 = d1 := by
            cases d1 <;> first | (simp only [fz]; done) | exact absurd e2 (by simp [ixB])
          obtain ⟨v, I2, es, rr, h3⟩ := h2.var e1 hu
          rw [e0] at es
          cases es
          rw [hf] at rr h3
          rw [set_same e1] at h3
          exact ixB_ok hK h3 rr .int e2 fun v h => k _ _ v h
        · cases q
      · cases q
    · cases q
  · cases q
theorem snd_gitem (hN : X.N[i]? = some x) (hv : Vis X.env.scope x) (hd : (x == ("__debug__" : Str)) = false) (hcd : (x == ("__classdict__" : Str)) = false) (hs : noSlice b = true) (hb : SndE g X b fj) :
    SndG g X (.Subscript (.Name x p) b pos) [] (gItem i fj) := by
  intro B I H ρ σ ts vs d v ρ' Q h q k
  unfold gItem at q
  split at q
  · rename_i h0
    obtain ⟨dz, ez, hz⟩ := held_some h0
    obtain ⟨v0, _, e0, _⟩ := h.var ez hz
    refine mxG_of (pg_sub (pe_var hN hv hd hcd) pe_mx set_list (by intro v; cases b <;> first | rfl | cases hs)) ⟨v0, e0, ?_⟩
    split at q
    · rename_i j ρ1 q1
      refine hb B I H ρ σ _ _ _ ρ1 _ h q1 fun I1 H1 y h1 => ?_
      obtain ⟨rfl, h2⟩ := h1.topInt
      split at q
      · rename_i xs e1
        split at q
        · rename_i k0 e2
          cases q
          obtain ⟨p, us, es, hp, hl, h3⟩ := h2.ownSet e1 (ixN_seq e2).2.1
          rw [e0] at es
          cases es
          exact ⟨p, us, j, k0, rfl, rfl, hp, by rw [hl]; exact e2, k I1 _ σ h3 .refl⟩
        · cases q
      · cases q
    · cases q
  · cases q
theorem snd_asgG (he : SndE g X e fe) (hg : SndG g X tg sl fg) (h0 : fx = true → 0 ∉ sl) (hs : swapsWithSole [tg] e pos.line X.env = pure false) (hw : swappedStores [tg] e X.env = pure none) (h1 : (assignEach [tg] X.env).map (·.2) = [assign tg X.env]) :
    SndS g fx X (.Assign [tg] e pos) (sAsgG fe fg) := by
  intro B I H ρ σ ts vs fl E h q k
  unfold sAsgG at q
  cases q1 : fe ρ with
  | none => rw [q1] at q; cases q
  | some z =>
    obtain ⟨d, ρ1⟩ := z
    rw [q1] at q
    dsimp only at q
    cases q2 : fg d ρ1 with
    | none => rw [q2] at q; cases q
    | some ρ2 =>
      rw [q2] at q; cases q
      refine mxS_of (ps_asg pe_mx pg_mx hs hw h1) (he B I H ρ σ ts vs d ρ1 _ h q1 fun I1 H1 v h1 => ?_)
      exact hg B I1 H1 ρ1 σ ts vs d v ρ2 _ h1 q2 fun I2 H2 σ2 h2 c => k I2 H2 σ2 h2 (c.fx h0)
/-- targets -/
inductive GTs (g : G) (X : Cx) : List Expr → List Nat → List DenG → Prop
  | nil : GTs g X [] [] []
  | cons {e : Expr} {es : List Expr} {sl sls : List Nat} {f : DenG} {fs : List DenG} : SndG g X e sl f → noStar e = true → GTs g X es sls fs → GTs g X (e :: es) (sl ++ sls) (f :: fs)
theorem assignOk {env : Env} (h : noStar e = true) : assignEach (e :: es) env = (false, assign e env) :: assignEach es env := by
  cases e <;> first | rfl | cases h
theorem GTs.names {sl : List Nat} {fs : List DenG} (h : GTs g X es sl fs) : (assignEach es X.env).length = es.length ∧ (assignEach es X.env).findIdx? (·.1) = none ∧ fs.length = es.length := by
  induction h with
  | nil => exact ⟨rfl, rfl, rfl⟩
  | cons h n r ih =>
    rw [assignOk n]
    refine ⟨by rw [List.length_cons, ih.1, List.length_cons], ?_, by rw [List.length_cons, List.length_cons, ih.2.2]⟩
    rw [List.findIdx?_cons, ih.2.1]
    rfl
theorem snd_gts {sl : List Nat} {fs : List DenG} (hg : GTs g X es sl fs) : ∀ (B : Bs) (I H : Hp) (ρ : List D) (σ : L2.St) (ts : List D) (vs : List V) (ds : List D) (ws : List V) (ρ' : List D) (Q : L2.St → Hp → Prop), StP g B I H ρ σ (ts ++ ds) (vs ++ ws) → ds.length = ws.length → gTs fs ds ρ = some ρ' →
    (∀ I' H' σ', StP g B I' H' ρ' σ' ts vs → Ch sl σ σ' → Q σ' H') → mxGs X es ws σ H Q := by
  induction hg with
  | nil =>
    intro B I H ρ σ ts vs ds ws ρ' Q h hl q k
    cases ds with
    | cons d ds => cases q
    | nil =>
      cases q
      cases ws with
      | cons _ _ => cases hl
      | nil => exact mxGs_of pgs_nil ⟨rfl, k I H σ (by simpa using h) .refl⟩
  | cons hg n r ih =>
    rename_i e es sl sls f fs
    intro B I H ρ σ ts vs ds ws ρ' Q h hl q k
    cases ds with
    | nil => cases q
    | cons d ds =>
      cases ws with
      | nil => cases hl
      | cons w ws =>
        unfold gTs at q
        cases q1 : f d ρ with
        | none => rw [q1] at q; cases q
        | some ρ1 =>
          rw [q1] at q
          dsimp only at q
          have hl' : ds.length = ws.length := by simpa using hl
          have hq := StP.swap (g := g) (ts := ts) (d1 := [d]) (d2 := ds) (d3 := []) (vs := vs) (w1 := [w]) (w2 := ws) (w3 := []) (by simpa using h) rfl hl' rfl
          rw [List.append_nil, List.append_nil] at hq
          refine mxGs_of (pgs_cons pg_mx pgs_mx (by rw [assignOk n]; rfl)) ⟨w, ws, rfl, ?_⟩
          refine hg B I H ρ σ (ts ++ ds) (vs ++ ws) d w ρ1 _ hq q1 fun I1 H1 σ1 h1 c1 => ?_
          exact ih B I1 H1 ρ1 σ1 ts vs ds ws ρ' Q h1 hl' q fun I2 H2 σ2 h2 c2 => k I2 H2 σ2 h2 ((c1.mono fun i hi => List.mem_append_left _ hi).trans (c2.mono fun i hi => List.mem_append_right _ hi))
theorem gTs_len : ∀ {fs : List DenG} {ds ρ ρ' : List D}, gTs fs ds ρ = some ρ' → ds.length = fs.length
  | [], [], _, _, _ => rfl
  | f :: fs, d :: ds, ρ, ρ', e => by
    unfold gTs at e
    split at e
    · rw [List.length_cons, List.length_cons, gTs_len e]
    · cases e
  | [], d :: ds, ρ, ρ', e => by cases e
  | f :: fs, [], ρ, ρ', e => by cases e
theorem snd_gtup {sl : List Nat} {fs : List DenG} {k0 : Nat} (hK : X.K = g.K) (hc : X.calm = true) (hp : GTs g X es sl fs) : SndG g X (.Tuple es k0 pos) sl (gTup fs) := by
  intro B I H ρ σ ts vs d v ρ' Q h q k
  unfold gTup at q
  split at q
  · rename_i ds ed
    obtain ⟨en, ei, el⟩ := hp.names
    refine mxG_of (pg_tup (n := es.length) hc pgs_mx en ei) ?_
    obtain ⟨I2, _, h2, rr⟩ := h.fzTop (ds := [d]) (ws := [v]) rfl
    rw [List.map_cons, List.map_nil, ed] at rr h2
    obtain ⟨w, ew, r⟩ := rr.one_inv
    cases ew
    obtain ⟨p, us, rfl, _, tp, qq⟩ := r.tup_i
    have h3 := h2.pop (ds := [.tup ds]) (ws := [.ref p]) rfl
    have h4 : StP g B I2 H ρ σ (ts ++ ds) (vs ++ us) := by
      obtain ⟨F1, F2, s1, s2, nd, of, hF⟩ := h3.reps
      exact h3.step hF (Same.refl _) h3.same (fun _ _ e _ => e) (fun _ _ z => z) (fun _ z _ _ => z) ⟨F1, F2, s1, by simpa using s2.append qq, nd, fun b hb => ⟨of b hb, .inl hb⟩⟩
    exact ⟨p, us, rfl, hK ▸ (tp.same h3.same).sq, by rw [← qq.length, gTs_len q, el], snd_gts hp B I2 H ρ σ ts vs ds us ρ' Q h4 qq.length q k⟩
  · cases q
theorem snd_par {j : Nat} {y : Str} {px py pt : Pos} {kt k2 : Nat} {pt2 : Pos} (hc : X.calm = true) (hN : X.N.Nodup) (hi : X.N[i]? = some x) (hj : X.N[j]? = some y) (hij : i ≠ j)
    (hx : X.env.scope.names.lookup x = some .local) (hy : X.env.scope.names.lookup y = some .local) (hr : SndL g X [a, b] r)
    (hw : swappedStores [.Tuple [.Name x px, .Name y py] kt pt] (.Tuple [a, b] k2 pt2) X.env = pure (some [x, y])) (h0 : fx = true → i ≠ 0 ∧ j ≠ 0) :
    SndS g fx X (.Assign [.Tuple [.Name x px, .Name y py] kt pt] (.Tuple [a, b] k2 pt2) pos) (sPar i j r) := by
  intro B I H ρ σ ts vs fl E h q k
  unfold sPar at q
  split at q
  · rename_i d1 d2 ρ1 q1
    split at q
    · rename_i hl
      cases q
      refine mxS_of (ps_par hc hN hi hj hij hx hy pa_mx hw) (hr B I H ρ σ ts vs _ ρ1 _ h q1 fun I1 H1 ws h1 hw hn => ?_)
      match ws, hn with
      | [v, w], _ =>
        refine ⟨v, w, rfl, ?_⟩
        have h2 : StP g B I1 H1 (ρ1.set j d2) (σ.set j (some w)) (ts ++ [d1]) (vs ++ [v]) := StP.setTop (by simpa using h1) hl.2
        have h3 := h2.setTop (i := i) (by rw [List.length_set]; exact hl.1)
        rw [List.set_comm _ _ (Ne.symm hij), List.set_comm _ _ (Ne.symm hij)] at h3
        refine k I1 H1 _ h3 fun z => ?_
        rw [List.getElem?_set_ne (h0 z).2, List.getElem?_set_ne (h0 z).1]
    · cases q
  · cases q
theorem snd_par3 {j l : Nat} {y z : Str} {px py pz pt : Pos} {kt k2 : Nat} {pt2 : Pos} (hc : X.calm = true) (hN : X.N.Nodup) (hi : X.N[i]? = some x) (hj : X.N[j]? = some y) (hl : X.N[l]? = some z) (hij : i ≠ j) (hil : i ≠ l) (hjl : j ≠ l)
    (hx : X.env.scope.names.lookup x = some .local) (hy : X.env.scope.names.lookup y = some .local) (hz : X.env.scope.names.lookup z = some .local) (hr : SndL g X [a, b, c] r)
    (hw : swappedStores [.Tuple [.Name x px, .Name y py, .Name z pz] kt pt] (.Tuple [a, b, c] k2 pt2) X.env = pure (some [x, y, z])) (h0 : fx = true → i ≠ 0 ∧ j ≠ 0 ∧ l ≠ 0) :
    SndS g fx X (.Assign [.Tuple [.Name x px, .Name y py, .Name z pz] kt pt] (.Tuple [a, b, c] k2 pt2) pos) (sPar3 i j l r) := by
  intro B I H ρ σ ts vs fl E h q k
  unfold sPar3 at q
  split at q
  · rename_i d1 d2 d3 ρ1 q1
    split at q
    · rename_i hl3
      cases q
      refine mxS_of (ps_par3 hc hN hi hj hl hij hil hjl hx hy hz pa_mx hw) (hr B I H ρ σ ts vs _ ρ1 _ h q1 fun I1 H1 ws h1 hw hn => ?_)
      match ws, hn with
      | [u, v, w], _ =>
        refine ⟨u, v, w, rfl, ?_⟩
        have h2 : StP g B I1 H1 (ρ1.set l d3) (σ.set l (some w)) ((ts ++ [d1]) ++ [d2]) ((vs ++ [u]) ++ [v]) := StP.setTop (by simpa using h1) hl3.2.2
        have h3 := h2.setTop (i := j) (by rw [List.length_set]; exact hl3.2.1)
        have h4 := h3.setTop (i := i) (by rw [List.length_set, List.length_set]; exact hl3.1)
        rw [List.set_comm _ _ (Ne.symm hjl), List.set_comm _ _ (Ne.symm hil), List.set_comm _ _ (Ne.symm hij), List.set_comm _ _ (Ne.symm hjl), List.set_comm _ _ (Ne.symm hil), List.set_comm _ _ (Ne.symm hij)] at h4
        refine k I1 H1 _ h4 fun z => ?_
        rw [List.getElem?_set_ne (h0 z).2.2, List.getElem?_set_ne (h0 z).2.1, List.getElem?_set_ne (h0 z).1]
    · cases q
  · cases q
end
end DV

set_option Elab.async false
set_option maxRecDepth 100000
set_option maxHeartbeats 4000000
set_option linter.all false
/-! DV14: methods of lists, one-sided operators, chains, slices, f-strings. -/
namespace DV
open PySem L2 PySem.Spec PyProof.Rows

abbrev PartD := List D → Option (Option Int × List D)
def pNo : PartD := fun ρ => some (none, ρ)
def pSome (f : Den) : PartD := fun ρ => match f ρ with
  | some (.int i, ρ') => some (some i, ρ')
  | _ => none
/-- a[lo:hi] -/
def slcB (d : D) (lo hi : Option Int) : Option D := match d with
  | .lst xs => if xs.length ≤ 100000 then some (.own (cutD xs lo hi)) else none
  | .con xs => if xs.length ≤ 100000 then some (.own (cutD xs lo hi)) else none
  | .tup xs => if xs.length ≤ 100000 then some (.tup (cutD xs lo hi)) else none
  | .str x => if x.length ≤ 100000 then some (.str (cutS x lo hi)) else none
  | _ => none
def dSlc (f : Den) (lo hi : PartD) : Den := fun ρ => match f ρ with
  | some (d, ρ1) => match lo ρ1 with
    | some (l, ρ2) => match hi ρ2 with
      | some (h, ρ3) => match slcB (fz d) l h with
        | some d' => some (d', ρ3)
        | none => none
      | none => none
    | none => none
  | none => none
def fmtB : D → Option D
  | .str y => if y.length ≤ 100000 then some (.str y) else none
  | .int i => if i.natAbs.log2 < 1920 then some (.str (toString i : String)) else none
  | _ => none
def joinD : List Den → Str → List D → Option (Str × List D)
  | [], acc, ρ => some (acc, ρ)
  | f :: fs, acc, ρ => match f ρ with
    | some (.str y, ρ1) => if (acc ++ y).length ≤ 100000 then joinD fs (acc ++ y) ρ1 else none
    | _ => none
def dJoin (fs : List Den) : Den := fun ρ => match joinD fs Str.empty ρ with
  | some (s, ρ') => some (.str s, ρ')
  | none => none

structure mxO (X : Cx) (e : Option Expr) (σ : L2.St) (H : Hp) (Q : Option Int → Hp → Prop) : Prop where
  run : ∀ (pins : List (Addr × Obj)) (s : Shared), Inv X pins σ H s → wpAny (model X.prog X.w) X.A (evalPart e X.env) (fun u s' => ∃ o H', Inv X pins σ H' s' ∧ IsPart u o ∧ Q o H') X.xe s
theorem po_mx {X : Cx} {e : Option Expr} : PO X e (mxO X e) := ⟨fun pins s _ _ _ I h => h.run pins s I⟩
theorem mxO_of {X : Cx} {e : Option Expr} {t : TO} (h : PO X e t) {σ : L2.St} {H : Hp} {Q : Option Int → Hp → Prop} (k : t σ H Q) : mxO X e σ H Q := ⟨fun pins s I => h.run pins s σ H Q I k⟩
def SndP (g : G) (X : Cx) (e : Option Expr) (f : PartD) : Prop :=
  ∀ (B : Bs) (I H : Hp) (ρ : List D) (σ : L2.St) (ts : List D) (vs : List V) (o : Option Int) (ρ' : List D) (Q : Option Int → Hp → Prop), StP g B I H ρ σ ts vs → f ρ = some (o, ρ') →
    (∀ I' H', StP g B I' H' ρ' σ ts vs → Q o H') → mxO X e σ H Q

section
variable {g : G} {X : Cx} {B : Bs} {I I' H H' : Hp} {ρ : List D} {σ : L2.St} {ts ds xs : List D} {vs ws us : List V} {d : D} {v : V} {f : List Addr} {a b c e tg : Expr} {fa fb fc fe fj : Den} {pos p pos' apos p2 : Pos} {x : Str} {i : Nat} {fx : Bool} {es : List Expr} {lo hi : Option Expr} {fl fh : PartD}

theorem few1 (h : noStar e = true) : ((backTo pos (starEach [e] X.env)).all (fun x => !x.1) && (backToKw pos (keywordEach [] X.env)).all (fun x => x.1.isSome)
      && decide (([e] : List Expr).length + ([] : List Keyword).length + (if ([] : List Keyword).isEmpty then 0 else 1) < 30)) = true := by
  rw [starOk (noStar_ne h)]
  rfl
theorem isOwn_some {ρ : List D} {i : Nat} (h : isOwn ρ i = true) : ∃ xs, ρ[i]? = some (.own xs) := by
  unfold isOwn at h
  split at h
  · exact ⟨_, by assumption⟩
  · cases h
theorem snd_app (hN : X.N[i]? = some x) (hv : Vis X.env.scope x) (hd : (x == ("__debug__" : Str)) = false) (hcd : (x == ("__classdict__" : Str)) = false) (hs : noStar e = true) (hl : (apos.endLine == pos.line) = true) (he : SndE g X e fe) :
    SndE g X (.Call (.Attribute (.Name x p) "append" apos) [e] [] pos) (dApp i fe) := by
  intro B I H ρ σ ts vs d ρ' Q h q k
  unfold dApp at q
  split at q
  · rename_i h0
    obtain ⟨xs0, e0⟩ := isOwn_some h0
    obtain ⟨p0, xv0, es0, hp0, _⟩ := h.ownAt e0
    refine mx_of (pe_bm PySem.F.plainAttrs_list PySem.F.slot_list_append PySem.F.type_list_append (r := rAppend) (fun pins s σ H x xs v us Q I rx rs q => mt_append pins s σ H x xs v us Q I rx rs q) (pe_var hN hv hd hcd) (pa_cons pe_mx pa_nil (starOk (noStar_ne hs))) rfl (few1 hs) hl (starOk (noStar_ne hs)) rfl) ?_
    refine ⟨.ref p0, es0, .inl ⟨rfl, _, SqL.of hp0⟩, ?_⟩
    cases q1 : fe ρ with
    | none => rw [q1] at q; cases q
    | some z =>
      obtain ⟨d1, ρ1⟩ := z
      rw [q1] at q
      dsimp only at q
      refine he B I H ρ σ ts vs d1 ρ1 _ h q1 fun I1 H1 y h1 => ?_
      split at q
      · rename_i xs e1
        split at q
        · rename_i hl
          cases q
          obtain ⟨p1, xv, es1, hp1, hl1, h2⟩ := StP.ownApp (ds := [d1]) (us := [y]) h1 rfl e1
          rw [es0] at es1
          cases es1
          exact ⟨p0, xv, y, rfl, rfl, hp1, Nat.lt_of_lt_of_le (by omega : xv.length < 100000) (line100 (Nat.le_refl _)), k I1 _ _ (h2.push .non)⟩
        · cases q
      · cases q
  · cases q
theorem snd_ext (hN : X.N[i]? = some x) (hv : Vis X.env.scope x) (hd : (x == ("__debug__" : Str)) = false) (hcd : (x == ("__classdict__" : Str)) = false) (hs : noStar e = true) (hl : (apos.endLine == pos.line) = true) (he : SndE g X e fe) :
    SndE g X (.Call (.Attribute (.Name x p) "extend" apos) [e] [] pos) (dExt i fe) := by
  intro B I H ρ σ ts vs d ρ' Q h q k
  unfold dExt at q
  split at q
  · rename_i h0
    obtain ⟨xs0, e0⟩ := isOwn_some h0
    obtain ⟨p0, xv0, es0, hp0, _⟩ := h.ownAt e0
    refine mx_of (pe_bm PySem.F.plainAttrs_list PySem.F.slot_list_extend PySem.F.type_list_extend (r := rExtend) (fun pins s σ H x xs v us Q I rx rs q => mt_extend pins s σ H x xs v us Q I rx rs q) (pe_var hN hv hd hcd) (pa_cons pe_mx pa_nil (starOk (noStar_ne hs))) rfl (few1 hs) hl (starOk (noStar_ne hs)) rfl) ?_
    refine ⟨.ref p0, es0, .inl ⟨rfl, _, SqL.of hp0⟩, ?_⟩
    cases q1 : fe ρ with
    | none => rw [q1] at q; cases q
    | some z =>
      obtain ⟨d1, ρ1⟩ := z
      rw [q1] at q
      dsimp only at q
      refine he B I H ρ σ ts vs d1 ρ1 _ h q1 fun I1 H1 y h1 => ?_
      split at q
      · rename_i zs xs ed e1
        split at q
        · rename_i hl
          cases q
          obtain ⟨I2, _, h2, rr⟩ := h1.fzTop (ds := [d1]) (ws := [y]) rfl
          rw [List.map_cons, List.map_nil, ed] at rr h2
          obtain ⟨w, ew, r⟩ := rr.one_inv
          cases ew
          obtain ⟨pb, us, rfl, _, hb, qq⟩ := r.lst_i
          have h3 := h2.pop (ds := [.lst zs]) (ws := [.ref pb]) rfl
          have hB := h3.same _ _ hb
          have h4 : StP g B I2 H1 ρ1 σ (ts ++ zs) (vs ++ us) := by
            obtain ⟨F1, F2, s1, s2, nd, of, hF⟩ := h3.reps
            exact h3.step hF (Same.refl _) h3.same (fun _ _ e _ => e) (fun _ _ z => z) (fun _ z _ _ => z) ⟨F1, F2, s1, by simpa using s2.append qq, nd, fun b hb => ⟨of b hb, .inl hb⟩⟩
          obtain ⟨p1, xv, es1, hp1, hl1, h5⟩ := h4.ownApp qq.length e1
          rw [es0] at es1
          cases es1
          exact ⟨p0, pb, xv, us, rfl, rfl, hp1, hB, line100 (by rw [hl1, ← qq.length]; exact hl), k I2 _ _ (h5.push .non)⟩
        · cases q
      · cases q
  · cases q

/-! ### one-sided operators -/
def rU1 (X : Cx) (f : Value → Sem Value) : V → Hp → VK → Prop := fun x H Q => ∀ (pins : List (Addr × Obj)) (s : Shared) (σ : L2.St) (v : Value), Inv X pins σ H s → RelV x v → wpAny (model X.prog X.w) X.A (f v) (EP X pins σ Q) X.xe s
theorem unO {f : Value → Sem Value} : UnR X f (rU1 X f) := fun pins s σ H x v Q I rx h => h pins s σ v I rx
theorem rU1_of {f : Value → Sem Value} {r : V → Hp → VK → Prop} (h : UnR X f r) {x : V} {H : Hp} {Q : VK} (k : r x H Q) : rU1 X f x H Q := fun pins s σ v I rx => h pins s σ H x v Q I rx k
def SndU (g : G) (X : Cx) (f : Value → Sem Value) (φ : D → Option D) : Prop :=
  ∀ (B : Bs) (I H : Hp) (ρ : List D) (σ : L2.St) (ts : List D) (vs : List V) (da : D) (x : V) (d : D) (Q : VK), StP g B I H ρ σ ts vs → Rep g I H da x [] → φ da = some d →
    (∀ I' H' v, StP g B I' H' ρ σ (ts ++ [d]) (vs ++ [v]) → Q v H') → rU1 X f x H Q
theorem snd_un {op : UnaryOp} {φ : D → Option D} (ho : SndU g X (unaryOp op) φ) (ha : SndE g X a fa) : SndE g X (.UnaryOp op a pos) (dUn φ fa) := by
  intro B I H ρ σ ts vs d ρ' Q h q k
  unfold dUn at q
  cases q1 : fa ρ with
  | none => rw [q1] at q; cases q
  | some z =>
    obtain ⟨da, ρ1⟩ := z
    rw [q1] at q
    dsimp only at q
    cases q2 : φ (fz da) with
    | none => rw [q2] at q; cases q
    | some d0 =>
      rw [q2] at q; cases q
      refine mx_of (pe_un unO pe_mx) (ha B I H ρ σ ts vs da _ _ h q1 fun I1 H1 x h1 => ?_)
      obtain ⟨I2, _, h2, rr⟩ := h1.fzTop (ds := [da]) (ws := [x]) rfl
      obtain ⟨w, ew, r⟩ := rr.one_inv
      cases ew
      exact ho B I2 H1 _ σ ts vs _ x d Q (h2.pop rfl) r q2 k
theorem snd_neg : SndU g X (unaryOp .USub) negB := by
  intro B I H ρ σ ts vs da x d Q h r e k
  unfold negB at e
  split at e <;> cases e
  obtain ⟨rfl, _⟩ := r.int_i
  exact rU1_of un_neg ⟨_, rfl, k I H _ (h.push .int)⟩

/-! ### chains -/
theorem chain_core {φ ψ : D → D → Option D} {op op' : CmpOp} (ho : SndOp g X (compareOp op) φ) (ho' : SndOp g X (compareOp op') ψ) (ha : SndE g X a fa) (hb : SndE g X b fb) (hc : SndE g X c fc)
    {Q : VK} (h : StP g B I H ρ σ ts vs) {ρ' : List D} {t : Bool} (q : dChain φ ψ fa fb fc ρ = some (.bl t, ρ')) (k : ∀ I' H', StP g B I' H' ρ' σ ts vs → Q (.bl t) H') :
    tChain (rO X (compareOp op)) (rO X (compareOp op')) (mx X a) (mx X b) (mx X c) σ H Q := by
  unfold dChain at q
  cases q1 : fa ρ with
  | none => rw [q1] at q; cases q
  | some z =>
    obtain ⟨da, ρ1⟩ := z
    rw [q1] at q
    dsimp only at q
    cases q2 : fb ρ1 with
    | none => rw [q2] at q; cases q
    | some z =>
      obtain ⟨db, ρ2⟩ := z
      rw [q2] at q
      dsimp only at q
      refine ha B I H ρ σ ts vs da ρ1 _ h q1 fun I1 H1 x h1 => ?_
      refine hb B I1 H1 ρ1 σ _ _ db _ _ h1 q2 fun I2 H2 y h2 => ?_
      have h2' : StP g B I2 H2 ρ2 σ (ts ++ [da, db]) (vs ++ [x, y]) := by simpa using h2
      obtain ⟨I3, si, h3, rr⟩ := h2'.fzTop rfl
      obtain ⟨v1, v2, e, r1, r2⟩ := Reps.two rr
      cases e
      cases q3 : φ (fz da) (fz db) with
      | none => rw [q3] at q; cases q
      | some d0 =>
        rw [q3] at q
        refine ho B I3 H2 ρ2 σ _ _ _ _ x y d0 _ h3 r1 r2 q3 fun I4 H4 w h4 => ?_
        split at q
        · rename_i heq
          cases heq
          obtain ⟨rfl, h5⟩ := h4.topBl
          refine ⟨true, rfl, iteT ?_⟩
          cases q4 : fc ρ2 with
          | none => rw [q4] at q; cases q
          | some z =>
            obtain ⟨dc, ρ3⟩ := z
            rw [q4] at q
            dsimp only at q
            refine hc B I4 H4 ρ2 σ _ _ dc ρ3 _ h5 q4 fun I6 H6 u h6 => ?_
            have h6' : StP g B I6 H6 ρ3 σ ((ts ++ [fz da]) ++ [fz db, dc]) ((vs ++ [x]) ++ [y, u]) := by simpa using h6
            obtain ⟨I7, _, h7, rr7⟩ := h6'.fzTop rfl
            obtain ⟨v1, v2, e, r1, r2⟩ := Reps.two rr7
            cases e
            rw [fz_fz] at r1
            cases q5 : ψ (fz db) (fz dc) with
            | none => rw [q5] at q; cases q
            | some d5 =>
              rw [q5] at q
              refine ho' B I7 H6 ρ3 σ ts vs _ _ y u d5 _ ((h7.pop rfl).pop rfl) r1 r2 q5 fun I8 H8 w8 h8 => ?_
              split at q
              · rename_i heq
                cases heq
                cases q
                obtain ⟨rfl, h9⟩ := h8.topBl
                exact k I8 H8 h9
              · cases q
        · rename_i heq
          cases heq
          cases q
          obtain ⟨rfl, h5⟩ := h4.topBl
          exact ⟨false, rfl, iteF (k I4 H4 (h5.pop rfl))⟩
        · cases q
theorem dChain_bl {φ ψ : D → D → Option D} {ρ' : List D} (q : dChain φ ψ fa fb fc ρ = some (d, ρ')) : ∃ t, d = .bl t := by
  unfold dChain at q
  split at q <;> try cases q
  split at q <;> try cases q
  split at q <;> try cases q
  · split at q <;> try cases q
    split at q <;> try cases q
    exact ⟨_, rfl⟩
  · exact ⟨_, rfl⟩
theorem snd_chain {φ ψ : D → D → Option D} {op op' : CmpOp} (ho : SndOp g X (compareOp op) φ) (ho' : SndOp g X (compareOp op') ψ) (hm : lastMarks [op, op'] [b, c] = false) (ha : SndE g X a fa) (hb : SndE g X b fb) (hc : SndE g X c fc) :
    SndE g X (.Compare a [op, op'] [b, c] pos) (dChain φ ψ fa fb fc) := by
  intro B I H ρ σ ts vs d ρ' Q h q k
  obtain ⟨t, rfl⟩ := dChain_bl q
  exact mx_of (pe_chain opO opO pe_mx pe_mx pe_mx hm) (chain_core ho ho' ha hb hc h q fun I1 H1 h1 => k I1 H1 _ (h1.push .bl))
theorem snd_chainT {φ ψ : D → D → Option D} {op op' : CmpOp} (ho : SndOp g X (compareOp op) φ) (ho' : SndOp g X (compareOp op') ψ) (hm : lastMarks [op, op'] [b, c] = false) (ha : SndE g X a fa) (hb : SndE g X b fb) (hc : SndE g X c fc) :
    SndT g X (.Compare a [op, op'] [b, c] pos) (tOf (dChain φ ψ fa fb fc)) := by
  intro B I H ρ σ ts vs t ρ' Q h q k
  exact mxT_of (pt_chain opO opO pe_mx pe_mx pe_mx hm) (chain_core ho ho' ha hb hc h (tOf_some q) fun I1 H1 h1 => ⟨t, rfl, k I1 H1 h1⟩)

/-! ### slices -/
theorem snd_pno : SndP g X none pNo := by
  intro B I H ρ σ ts vs o ρ' Q h q k
  cases q
  exact mxO_of po_none (k I H h)
theorem snd_psome (he : SndE g X e fe) : SndP g X (some e) (pSome fe) := by
  intro B I H ρ σ ts vs o ρ' Q h q k
  unfold pSome at q
  split at q <;> cases q
  rename_i j q1
  exact mxO_of (po_some pe_mx) (he B I H ρ σ ts vs _ _ _ h q1 fun I1 H1 v h1 => ⟨j, h1.topInt.1, k I1 H1 h1.topInt.2⟩)
theorem Reps.cut {lo hi : Option Int} (r : Reps g I H ds vs []) : Reps g I H (cutD ds lo hi) (cutV vs lo hi) [] := by
  unfold cutD cutV
  rw [r.length]
  have dropR : ∀ {ds : List D} {vs : List V} (n : Nat), Reps g I H ds vs [] → Reps g I H (ds.drop n) (vs.drop n) [] := by
    intro ds vs n r
    rw [← List.take_append_drop n ds, ← List.take_append_drop n vs] at r
    obtain ⟨f, f', e, r1, r2⟩ := r.split' (by rw [List.length_drop, List.length_drop]; have := r.length; rw [List.take_append_drop, List.take_append_drop] at this; omega)
    obtain ⟨rfl, rfl⟩ := List.append_eq_nil_iff.mp e.symm
    exact r2
  have takeR : ∀ {ds : List D} {vs : List V} (n : Nat), Reps g I H ds vs [] → Reps g I H (ds.take n) (vs.take n) [] := by
    intro ds vs n r
    rw [← List.take_append_drop n ds, ← List.take_append_drop n vs] at r
    obtain ⟨f, f', e, r1, r2⟩ := r.split' (by rw [List.length_drop, List.length_drop]; have := r.length; rw [List.take_append_drop, List.take_append_drop] at this; omega)
    obtain ⟨rfl, rfl⟩ := List.append_eq_nil_iff.mp e.symm
    exact r1
  exact takeR _ (dropR _ r)
theorem cut_whole {α : Type} {xs : List α} {a b : Nat} (h : a = 0 ∧ b = xs.length) : (xs.drop a).take (b - a) = xs := by
  obtain ⟨rfl, rfl⟩ := h
  simp
theorem slcB_ok {x : V} {d' : D} {l u : Option Int} {Q : VK} (hK : X.K = g.K) (h : StP g B I H ρ σ ts vs) (r : Rep g I H d x []) (q : slcB d l u = some d') (k : ∀ I' H' v, StP g B I' H' ρ σ (ts ++ [d']) (vs ++ [v]) → Q v H') :
    (rSlL X.K x l u H Q ∨ rSlA X.K x l u H Q) ∨ rSlS x l u H Q := by
  unfold slcB at q
  split at q
  · split at q <;> cases q
    obtain ⟨p, us, rfl, _, hp, rr⟩ := r.lst_i
    exact .inl (.inl ⟨p, us, rfl, SqL.of (h.same _ _ hp), fun p' hp' => k I _ _ (h.newL hp' rr.cut)⟩)
  · split at q <;> cases q
    obtain ⟨p, us, rfl, _, hp, rr⟩ := r.con_i
    exact .inl (.inl ⟨p, us, rfl, hK ▸ h.same.seq hp, fun p' hp' => k I _ _ (h.newL hp' rr.cut)⟩)
  · split at q <;> cases q
    rename_i xs hl
    obtain ⟨p, us, rfl, _, hp, rr⟩ := r.tup_i
    refine .inl (.inr ⟨p, us, rfl, hK ▸ (hp.same h.same).sq, fun hw => ?_, fun _ p' hp' => k _ _ _ (h.newT hp' rr.cut)⟩)
    have e : cutD xs l u = xs := by
      unfold cutD
      exact cut_whole (by rw [rr.length]; exact hw)
    rw [e] at k
    exact k I H _ (h.push r)
  · split at q <;> cases q
    rename_i hl
    obtain ⟨rfl, _⟩ := r.str_i
    exact .inr ⟨_, rfl, line100 hl, k I H _ (h.push .str)⟩
  · cases q
theorem snd_slc (hK : X.K = g.K) (he : SndE g X e fe) (hl : SndP g X lo fl) (hu : SndP g X hi fh) : SndE g X (.Subscript e (.Slice lo hi none p2) pos) (dSlc fe fl fh) := by
  intro B I H ρ σ ts vs d ρ' Q h q k
  unfold dSlc at q
  cases q1 : fe ρ with
  | none => rw [q1] at q; cases q
  | some z =>
    obtain ⟨da, ρ1⟩ := z
    rw [q1] at q
    dsimp only at q
    cases q2 : fl ρ1 with
    | none => rw [q2] at q; cases q
    | some z =>
      obtain ⟨l, ρ2⟩ := z
      rw [q2] at q
      dsimp only at q
      cases q3 : fh ρ2 with
      | none => rw [q3] at q; cases q
      | some z =>
        obtain ⟨u, ρ3⟩ := z
        rw [q3] at q
        dsimp only at q
        cases q4 : slcB (fz da) l u with
        | none => rw [q4] at q; cases q
        | some d0 =>
          rw [q4] at q; cases q
          refine mx_of (pe_slice ((sl_list.or sl_tupA).or sl_str) pe_mx po_mx po_mx) ?_
          refine he B I H ρ σ ts vs da ρ1 _ h q1 fun I1 H1 x h1 => ?_
          refine hl B I1 H1 ρ1 σ _ _ l ρ2 _ h1 q2 fun I2 H2 h2 => ?_
          refine hu B I2 H2 ρ2 σ _ _ u _ _ h2 q3 fun I3 H3 h3 => ?_
          obtain ⟨I4, _, h4, rr⟩ := h3.fzTop (ds := [da]) (ws := [x]) rfl
          obtain ⟨w, ew, r⟩ := rr.one_inv
          cases ew
          exact slcB_ok hK (h4.pop rfl) r q4 k

/-! ### f-strings -/
theorem snd_fmt (he : SndE g X e fe) : SndE g X (.FormattedValue e (-1) none pos) (dUn fmtB fe) := by
  intro B I H ρ σ ts vs d ρ' Q h q k
  unfold dUn at q
  cases q1 : fe ρ with
  | none => rw [q1] at q; cases q
  | some z =>
    obtain ⟨da, ρ1⟩ := z
    rw [q1] at q
    dsimp only at q
    cases q2 : fmtB (fz da) with
    | none => rw [q2] at q; cases q
    | some d0 =>
      rw [q2] at q; cases q
      refine mx_of (pe_fmt pe_mx) (he B I H ρ σ ts vs da _ _ h q1 fun I1 H1 x h1 => ?_)
      obtain ⟨I2, _, h2, rr⟩ := h1.fzTop (ds := [da]) (ws := [x]) rfl
      obtain ⟨w, ew, r⟩ := rr.one_inv
      cases ew
      have h3 := h2.pop (ds := [fz da]) (ws := [x]) rfl
      revert r q2
      generalize fz da = dd
      intro q2 r
      unfold fmtB at q2
      split at q2
      · split at q2 <;> cases q2
        rename_i hl
        obtain ⟨rfl, _⟩ := r.str_i
        exact .inl ⟨_, rfl, line100 hl, k I2 H1 _ (h3.push .str)⟩
      · split at q2 <;> cases q2
        rename_i hl
        obtain ⟨rfl, _⟩ := r.int_i
        exact .inr ⟨_, rfl, hl, k I2 H1 _ (h3.push .str)⟩
      · cases q2
inductive SndJ (g : G) (X : Cx) : List Expr → List Den → Prop
  | nil : SndJ g X [] []
  | cons {e : Expr} {es : List Expr} {f : Den} {fs : List Den} : SndE g X e f → SndJ g X es fs → SndJ g X (e :: es) (f :: fs)
theorem StP.topStr {y : Str} (h : StP g B I H ρ σ (ts ++ [.str y]) (vs ++ [v])) : v = .str y ∧ StP g B I H ρ σ ts vs := by
  obtain ⟨f, r⟩ := h.topRep
  exact ⟨r.str_i.1, h.pop rfl⟩
def mxJ (X : Cx) (es : List Expr) : List TE := es.map (mx X)
theorem pj_mx : ∀ es : List Expr, PJ X es (mxJ X es)
  | [] => .nil
  | _ :: es => .cons pe_mx (pj_mx es)
theorem join_core {fs : List Den} (hj : SndJ g X es fs) : ∀ (acc : Str) (I H : Hp) (ρ ρ' : List D) (out : Str) (Q : Str → Hp → Prop), StP g B I H ρ σ ts vs → joinD fs acc ρ = some (out, ρ') → (∀ I' H', StP g B I' H' ρ' σ ts vs → Q out H') → tJs (mxJ X es) acc σ H Q := by
  induction hj with
  | nil =>
    intro acc I H ρ ρ' out Q h q k
    cases q
    exact k I H h
  | cons he r ih =>
    intro acc I H ρ ρ' out Q h q k
    unfold joinD at q
    split at q
    · rename_i y ρ1 q1
      split at q
      · rename_i hl
        refine he B I H ρ σ ts vs _ ρ1 _ h q1 fun I1 H1 v h1 => ⟨y, h1.topStr.1, line100 hl, ?_⟩
        exact ih (acc ++ y) I1 H1 ρ1 ρ' out Q h1.topStr.2 q k
      · cases q
    · cases q
theorem snd_join {v1 v2 : Expr} {fs : List Den} (hj : SndJ g X (v1 :: v2 :: es) fs) : SndE g X (.JoinedStr (v1 :: v2 :: es) pos) (dJoin fs) := by
  intro B I H ρ σ ts vs d ρ' Q h q k
  unfold dJoin at q
  cases q1 : joinD fs Str.empty ρ with
  | none => rw [q1] at q; cases q
  | some z =>
    obtain ⟨out, ρ1⟩ := z
    rw [q1] at q; cases q
    exact mx_of (pe_joined (pj_mx _)) (join_core hj Str.empty I H ρ _ out _ h q1 fun I1 H1 h1 => k I1 H1 _ (h1.push .str))
theorem snd_join1 (he : SndE g X e fe) : SndE g X (.JoinedStr [e] pos) fe := by
  intro B I H ρ σ ts vs d ρ' Q h q k
  exact mx_of (pe_joined1 pe_mx) (he B I H ρ σ ts vs d ρ' Q h q k)
end
end DV

set_option Elab.async false
set_option maxRecDepth 100000
set_option maxHeartbeats 4000000
set_option linter.all false
/-! DV15: operators, comparisons, str, repr of instances, by the fragment. -/
namespace DV
open PySem L2 PySem.Spec PyProof.Rows

section
variable {prog : Program} {w : World} {M : Model} {A : Around} {E : Value → Shared → Prop} {s : Shared} {K : PySem.W.Frag} {x y C f : Addr} {ox oy : Obj} {od od2 : Option Obj} {i : Int} {t : Tok} {b : Value}
/-- both of one class -/
theorem bin_same {op : Operator} {Q : Value → Shared → Prop} (X : K.In s.heap) (I : PySem.W.InstAt s.heap x ox C od) (J : PySem.W.InstAt s.heap y oy C od2) (hc : PySem.W.selfFirst K C = true)
    (hs : PySem.W.findIn K (.ref C) (PySem.dunder op.info.2) = some (some (.ref f))) (hf : PySem.W.isFn K (.ref f) = true)
    (h : wpAny (model prog w) A (call (.ref f) [.ref x, .ref y]) (PySem.W.CmpBack Q) E s) : wpAny (model prog w) A (binaryOp op (.ref x) (.ref y)) Q E s := by
  obtain ⟨cd, rest, hcd, hm⟩ := PySem.W.ksp_first hc
  rcases hi : op.info with ⟨sym, nm'⟩
  rw [hi] at hs
  dsimp only at hs
  have one := PySem.W.ksp_try X I hs hf h
  obtain ⟨hh, g, d, tt, os⟩ := s
  have L1 : PySem.W.Looks (model prog w) hh (typeOf (.ref x)) (.ref C) := I.type
  have L2 : PySem.W.Looks (model prog w) hh (typeOf (.ref y)) (.ref C) := J.type
  have L3 : PySem.W.Looks (model prog w) hh (fillsNumberSlot (.ref C) nm') true := PySem.W.fills_K X hcd hm hs
  simp only [binaryOp, hi]
  refine wpAny_holding (wpAny_bind ?_)
  unfold binaryOp1
  refine wpAny_bind (L1.at (wpAny_bind (L2.at (wpAny_bind (L3.at ?_)))))
  simp only [beq_self_eq_true, if_true, Bool.and_false, Bool.false_eq_true, if_false]
  refine wpAny_bind (wpAny_pure ?_)
  ksp_lk
  refine wpAny_mono one (fun r s' hr' => ?_) fun _ _ e => e
  obtain ⟨v, rfl, hq⟩ := hr'
  ksp_lk
  exact hq

theorem int_decl_add (hd : oy.data = .plain) : Meets (Builtin.«int.__add__» ⟨[.int i t, .ref y], []⟩) (fun _ R s => s.heap.get? y = some oy ∧ R (.ok (.ret Value.notImplemented)) s) :=
  .of_wp fun prog w A R s h => by obtain ⟨hp, g, d, tk, os⟩ := s; obtain ⟨hl, h⟩ := h; obtain ⟨c, dd, da, sl⟩ := oy; cases hd; wp_walk; exact ⟨_, rfl, h⟩
theorem int_decl_sub (hd : oy.data = .plain) : Meets (Builtin.«int.__sub__» ⟨[.int i t, .ref y], []⟩) (fun _ R s => s.heap.get? y = some oy ∧ R (.ok (.ret Value.notImplemented)) s) :=
  .of_wp fun prog w A R s h => by obtain ⟨hp, g, d, tk, os⟩ := s; obtain ⟨hl, h⟩ := h; obtain ⟨c, dd, da, sl⟩ := oy; cases hd; wp_walk; exact ⟨_, rfl, h⟩
theorem int_decl_mul (hd : oy.data = .plain) : Meets (Builtin.«int.__mul__» ⟨[.int i t, .ref y], []⟩) (fun _ R s => s.heap.get? y = some oy ∧ R (.ok (.ret Value.notImplemented)) s) :=
  .of_wp fun prog w A R s h => by obtain ⟨hp, g, d, tk, os⟩ := s; obtain ⟨hl, h⟩ := h; obtain ⟨c, dd, da, sl⟩ := oy; cases hd; wp_walk; exact ⟨_, rfl, h⟩
theorem int_decl_eq (hd : oy.data = .plain) : Meets (Builtin.«int.__eq__» ⟨[.int i t, .ref y], []⟩) (fun _ R s => s.heap.get? y = some oy ∧ R (.ok (.ret Value.notImplemented)) s) :=
  .of_wp fun prog w A R s h => by obtain ⟨hp, g, d, tk, os⟩ := s; obtain ⟨hl, h⟩ := h; obtain ⟨c, dd, da, sl⟩ := oy; cases hd; wp_walk; exact ⟨_, rfl, h⟩
theorem int_decl_ne (hd : oy.data = .plain) : Meets (Builtin.«int.__ne__» ⟨[.int i t, .ref y], []⟩) (fun _ R s => s.heap.get? y = some oy ∧ R (.ok (.ret Value.notImplemented)) s) :=
  .of_wp fun prog w A R s h => by obtain ⟨hp, g, d, tk, os⟩ := s; obtain ⟨hl, h⟩ := h; obtain ⟨c, dd, da, sl⟩ := oy; cases hd; wp_walk; exact ⟨_, rfl, h⟩
/-- an int on the left, the instance's reflected one -/
theorem bin_refl {op : Operator} {idl : String} {Bi : Builtin} {Q : Value → Shared → Prop} (X : K.In s.heap) (J : PySem.W.InstAt s.heap y oy C od) (hc : PySem.W.selfFirst K C = true)
    (hfT : fillsNumberSlot (.type "int") op.info.2 = pure true) (hl : Slot "int" (PySem.dunder op.info.2) idl) (he : entryFor table idl = some Bi) (ha : argsOk idl ⟨[.int i t, .ref y], []⟩)
    (hm : Meets (Bi ⟨[.int i t, .ref y], []⟩) (fun _ R s => s.heap.get? y = some oy ∧ R (.ok (.ret Value.notImplemented)) s))
    (hs : PySem.W.findIn K (.ref C) (PySem.dunder op.info.2) = some (some (.ref f))) {fr : Addr} (hr : PySem.W.findIn K (.ref C) (dunderR op.info.2) = some (some (.ref fr))) (hf : PySem.W.isFn K (.ref fr) = true)
    (hsub : PySem.W.subIn K (.ref C) (.type "int") = some false)
    (h : wpAny (model prog w) A (call (.ref fr) [.ref y, .int i t]) (PySem.W.CmpBack Q) E s) : wpAny (model prog w) A (binaryOp op (.int i t) (.ref y)) Q E s := by
  obtain ⟨cd, rest, hcd, hmro⟩ := PySem.W.ksp_first hc
  rcases hi : op.info with ⟨sym, nm'⟩
  rw [hi] at hs hr hfT hl
  dsimp only at hs hr hfT hl
  have one := PySem.W.ksp_try X J hr hf h
  have dec : wpAny (model prog w) A (tryMethod (.int i t) (PySem.dunder nm') (.ref y)) (fun r s' => r = none ∧ s' = s) E s :=
    wpAny_tryMethod_declines (typeIs_int s i t) hl (call_meets hl (typeIs_int s i t) he ha hm ⟨J.at_, rfl, rfl, rfl⟩)
  obtain ⟨hh, g, d, tt, os⟩ := s
  have L1 : PySem.W.Looks (model prog w) hh (typeOf (.int i t)) (.type "int") := PySem.W.Looks.of_pure rfl
  have L2 : PySem.W.Looks (model prog w) hh (typeOf (.ref y)) (.ref C) := J.type
  have L3 : PySem.W.Looks (model prog w) hh (fillsNumberSlot (.ref C) nm') true := PySem.W.fills_K X hcd hmro hs
  have L4 : PySem.W.Looks (model prog w) hh (fillsNumberSlot (.type "int") nm') true := PySem.W.Looks.of_pure hfT
  have L5 : PySem.W.Looks (model prog w) hh (isSubtype (.ref C) (.type "int")) false := PySem.W.looks_subIn X hsub
  have L7 : PySem.W.Looks (model prog w) hh (numberSlotInPython (.type "int") nm') false := PySem.W.Looks.of_pure rfl
  have hne : (Value.type "int" == Value.ref C) = false := Bool.eq_false_iff.mpr fun q => by cases beq_iff_eq.mp q
  simp only [binaryOp, hi]
  refine wpAny_holding (wpAny_bind ?_)
  unfold binaryOp1
  refine wpAny_bind (L1.at (wpAny_bind (L2.at (wpAny_bind (L4.at ?_)))))
  simp only [hne, Bool.false_eq_true, if_false]
  ksp_lk
  refine wpAny_mono dec (fun r s' hr' => ?_) fun _ _ e => e
  obtain ⟨rfl, rfl⟩ := hr'
  ksp_lk
  refine wpAny_mono one (fun r s' hr' => ?_) fun _ _ e => e
  obtain ⟨v, rfl, hq⟩ := hr'
  ksp_lk
  exact hq

/-- x == b by the instance's own __eq__ (and the other comparisons) -/
theorem cmp_own {op : CmpOp} {tb : Value} {Q : Value → Shared → Prop} (hu : A.units < cLine) (X : K.In s.heap) (I : PySem.W.InstAt s.heap x ox C od) (hb : PySem.W.Looks (model prog w) s.heap (typeOf b) tb) (hn : PySem.W.notFirst K C tb = true)
    (hs : PySem.W.findIn K (.ref C) (cmpInfo op).2.1 = some (some (.ref f))) (hf : PySem.W.isFn K (.ref f) = true)
    (h : wpAny (model prog w) A (call (.ref f) [.ref x, b]) (fun v s' => ∃ t, v = .bool t ∧ Q v s') E s) : wpAny (model prog w) A (richCompare op (.ref x) b) Q E s := by
  have one : wpAny (model prog w) A (tryCompare (.ref x) (cmpInfo op).2.1 b) (fun r s' => ∃ v, r = some v ∧ Q v s') E s := by
    unfold tryCompare
    refine wpAny_bind (PySem.W.ifBound_K X I hs hf (thn h fun v s' ⟨t, e, q⟩ => ?_))
    subst e
    exact wpAny_pure ⟨_, rfl, q⟩
  unfold richCompare
  simp only [oneThing_ref]
  refine wpAny_holding (wpAny_bind (wpAny_cRoomFor hu (wpAny_bind (I.type.here (wpAny_bind (hb.here ?_))))))
  have fin : ∀ r : Option Value, ∀ s' : Shared, (∃ v, r = some v ∧ Q v s') → ∃ v, r = some v ∧ Q v s' := fun _ _ z => z
  split
  · rename_i q
    have e : PySem.W.subIn K tb (.ref C) = some false := (Bool.or_eq_true_iff.mp hn).elim (fun e => by rw [beq_iff_eq.mp e] at q; simp at q) fun e => beq_iff_eq.mp e
    refine wpAny_bind ((PySem.W.looks_subIn X e).here ?_)
    simp only [Bool.false_eq_true, if_false]
    refine wpAny_bind (thn one fun r s' ⟨v, e, q⟩ => ?_)
    subst e
    exact wpAny_pure q
  · refine wpAny_bind (wpAny_pure ?_)
    simp only [Bool.false_eq_true, if_false]
    refine wpAny_bind (thn one fun r s' ⟨v, e, q⟩ => ?_)
    subst e
    exact wpAny_pure q
theorem ne_entry {Q : Fin → Shared → Prop} (hu : A.units < cLine) (X : K.In s.heap) (I : PySem.W.InstAt s.heap x ox C od) (hs : PySem.W.findIn K (.ref C) "__eq__" = some (some (.ref f))) (hf : PySem.W.isFn K (.ref f) = true)
    (h : wpAny (model prog w) A (call (.ref f) [.ref x, b]) (fun v s' => ∃ t, v = .bool t ∧ Q (.done (.ret (.bool (!t)))) s') E s) : wpAny (model prog w) A (Builtin.«object.__ne__» ⟨[.ref x, b], []⟩) Q E s := by
  have one : wpAny (model prog w) A (callSpecialIfBound? (.ref x) "__eq__" [b]) (fun r s' => ∃ t, r = some (.bool t) ∧ Q (.done (.ret (.bool (!t)))) s') E s :=
    PySem.W.ifBound_K X I hs hf (thn h fun v s' ⟨t, e, q⟩ => ⟨t, by rw [e], q⟩)
  unfold Builtin.«object.__ne__»
  repeat (first
    | with_reducible refine wpAny_cRoomFor hu ?_
    | (refine wpAny_bind (m := callSpecialIfBound? (.ref x) (Str.ofString "__eq__") [b]) (thn one fun r s' hr => by
        obtain ⟨t, rfl, hq⟩ := hr
        repeat (first | exact hq | exact wpAny_pure hq | exact wpAny_truthy_bool hq | (refine wpAny_bind (m := truthy (.bool _)) (wpAny_truthy_bool ?_)) | wp_step)))
    | wp_step)
/-- x != b where __ne__ is object's and __eq__ the instance's own -/
theorem ne_own {tb : Value} {Q : Value → Shared → Prop} (hu : A.units + 1 < cLine) (X : K.In s.heap) (I : PySem.W.InstAt s.heap x ox C od) (hb : PySem.W.Looks (model prog w) s.heap (typeOf b) tb) (hn : PySem.W.notFirst K C tb = true)
    (hne : PySem.W.findIn K (.ref C) "__ne__" = some (some (.builtin "object.__ne__"))) (hob : PySem.W.subIn K (.ref C) (.type "object") = some true)
    (hs : PySem.W.findIn K (.ref C) "__eq__" = some (some (.ref f))) (hf : PySem.W.isFn K (.ref f) = true)
    (h : wpAny (model prog w) A.in1 (call (.ref f) [.ref x, b]) (fun v s' => ∃ t, v = .bool t ∧ Q (.bool (!t)) s') E s) : wpAny (model prog w) A (richCompare .NotEq (.ref x) b) Q E s := by
  have S : Slot "object" "__ne__" "object.__ne__" := PySem.F.slot_object_ne
  have hcall : wpAny (model prog w) A (call (.builtin "object.__ne__") [.ref x, b]) (fun v s' => ∃ t, v = .bool t ∧ Q v s') E s := by
    refine wpAny_call (codeAny_call_builtin S.plain PySem.F.entry_object_ne ?_)
    refine PySem.W.check_slot PySem.F.cmpKind_ne PySem.F.cmpSplit_ne (I.type.andThen (PySem.W.looks_subIn X hob)) (PySem.F.args_object_ne_2 _ _) ?_
    refine ne_entry (A := A.in1) hu X I hs hf (thn h fun v s' ⟨t, e, q⟩ => ⟨t, e, ?_⟩)
    exact ⟨!t, rfl, q⟩
  have one : wpAny (model prog w) A (tryCompare (.ref x) "__ne__" b) (fun r s' => ∃ v, r = some v ∧ Q v s') E s := by
    unfold tryCompare
    simp only [callSpecialIfBound?, bindSpecialIfBound?]
    refine wpAny_bind (wpAny_holding (wpAny_bind (wpAny_bind (wpAny_bind (I.type.here ((PySem.W.looks_findIn X hne).here ?_))))))
    simp only [S.bind]
    refine wpAny_bind (wpAny_askSetting (wpAny_ite ?_))
    have fin : wpAny (model prog w) A (call (.builtin "object.__ne__") ([.ref x] ++ [b]) >>= fun v => pure (some v)) (fun r s' => wpAny (model prog w) A (match r with | some .notImplemented | none => pure none | some v => pure (some v)) (fun r s' => ∃ v, r = some v ∧ Q v s') E s') E s :=
      wpAny_bind (thn hcall fun v s' ⟨t, e, q⟩ => wpAny_pure (by subst e; exact wpAny_pure ⟨_, rfl, q⟩))
    split
    · exact wpAny_bind (wpAny_pure (wpAny_pure (by exact fin)))
    · exact wpAny_tryCatch (wpAny_bind (wpAny_pure (wpAny_pure (by exact fin))))
  unfold richCompare
  simp only [oneThing_ref]
  refine wpAny_holding (wpAny_bind (wpAny_cRoomFor (Nat.lt_of_succ_lt hu) (wpAny_bind (I.type.here (wpAny_bind (hb.here ?_))))))
  split
  · rename_i q
    have e : PySem.W.subIn K tb (.ref C) = some false := (Bool.or_eq_true_iff.mp hn).elim (fun e => by rw [beq_iff_eq.mp e] at q; simp at q) fun e => beq_iff_eq.mp e
    refine wpAny_bind ((PySem.W.looks_subIn X e).here ?_)
    simp only [Bool.false_eq_true, if_false]
    refine wpAny_bind (thn one fun r s' ⟨v, e, q⟩ => ?_)
    subst e
    exact wpAny_pure q
  · refine wpAny_bind (wpAny_pure ?_)
    simp only [Bool.false_eq_true, if_false]
    refine wpAny_bind (thn one fun r s' ⟨v, e, q⟩ => ?_)
    subst e
    exact wpAny_pure q
/-- i == y, the instance's __eq__ asked behind int's -/
theorem eq_refl {fe : Addr} {Q : Value → Shared → Prop} (hu : A.units < cLine) (X : K.In s.heap) (J : PySem.W.InstAt s.heap y oy C od) (hd : oy.data = .plain)
    (hs : PySem.W.findIn K (.ref C) "__eq__" = some (some (.ref fe))) (hf : PySem.W.isFn K (.ref fe) = true) (hsub : PySem.W.subIn K (.ref C) (.type "int") = some false)
    (h : wpAny (model prog w) A (call (.ref fe) [.ref y, .int i t]) (fun v s' => ∃ t, v = .bool t ∧ Q v s') E s) : wpAny (model prog w) A (richCompare .Eq (.int i t) (.ref y)) Q E s := by
  have dec : wpAny (model prog w) A (tryCompare (.int i t) "__eq__" (.ref y)) (fun r s' => r = none ∧ s' = s) E s := by
    unfold tryCompare
    refine wpAny_bind (wpAny_callSpecialIfBound?_slot (typeIs_int s i t) PySem.F.slot_int_eq (call_meets PySem.F.slot_int_eq (typeIs_int s i t) PySem.F.entry_int_eq (PySem.F.args_int_eq_2 _ _) (int_decl_eq hd) ⟨J.at_, wpAny_pure ⟨rfl, rfl⟩⟩))
  have one : wpAny (model prog w) A (tryCompare (.ref y) "__eq__" (.int i t)) (fun r s' => ∃ v, r = some v ∧ Q v s') E s := by
    unfold tryCompare
    refine wpAny_bind (PySem.W.ifBound_K X J hs hf (thn h fun v s' ⟨t, e, q⟩ => ?_))
    subst e
    exact wpAny_pure ⟨_, rfl, q⟩
  unfold richCompare
  refine wpAny_holding (wpAny_bind (wpAny_cRoomFor hu ?_))
  have eo : oneThing? .Eq (.int i t) (.ref y) = none := rfl
  rw [eo]
  dsimp only
  refine wpAny_bind ((PySem.W.Looks.of_pure (r := Value.type "int") rfl).here (wpAny_bind (J.type.here ?_)))
  have hne : (Value.type "int" != Value.ref C) = true := by simp
  rw [hne, if_pos rfl]
  refine wpAny_bind ((PySem.W.looks_subIn X hsub).here ?_)
  simp only [Bool.false_eq_true, if_false, Bool.not_false, if_true]
  refine wpAny_bind (thn dec fun r s' ⟨e, e'⟩ => ?_)
  subst e e'
  refine wpAny_bind (thn one fun r s' ⟨v, e, q⟩ => ?_)
  subst e
  exact wpAny_pure q
theorem neg_own {Q : Value → Shared → Prop} (X : K.In s.heap) (I : PySem.W.InstAt s.heap x ox C od) (hs : PySem.W.findIn K (.ref C) "__neg__" = some (some (.ref f))) (hf : PySem.W.isFn K (.ref f) = true)
    (h : wpAny (model prog w) A (call (.ref f) [.ref x]) Q E s) : wpAny (model prog w) A (unaryOp .USub (.ref x)) Q E s := by
  unfold unaryOp
  exact wpAny_holding (wpAny_bind (PySem.W.special_fn X I hs (beq_iff_eq.mp hf) (thn h fun v s' q => wpAny_pure q)))
theorem repr_ownK {Q : Value → Shared → Prop} (hu : A.in1.units < cLine) (X : K.In s.heap) (I : PySem.W.InstAt s.heap x ox C od) (hs : PySem.W.findIn K (.ref C) "__repr__" = some (some (.ref f))) (hf : PySem.W.isFn K (.ref f) = true)
    (h : wpAny (model prog w) A.in1 (call (.ref f) [.ref x]) (fun r s' => ∃ m tk, r = .str m tk ∧ Q (.str m tk) s') E s) : wpAny (model prog w) A (call (.builtin "repr") [.ref x]) Q E s := by
  refine Calls.call_function_entry PySem.F.kind_repr PySem.F.plain_repr PySem.F.entry_repr (PySem.F.args_repr1 _) ?_
  unfold Builtin.«repr»
  refine wpAny_bind (m := oneArg "repr" _) (wpAny_pure (wpAny_bind (wpAny_cRoomFor hu ?_)))
  refine wpAny_bind (m := specialOf (.ref x) (Str.ofString "__repr__")) (wpAny_bind (I.type.here ((PySem.W.looks_findIn X hs).here ?_)))
  rw [if_neg (by simp)]
  refine wpAny_bind (m := callSpecialIfBound? (.ref x) (Str.ofString "__repr__") _) (PySem.W.ifBound_K X I hs hf (thn h fun r s' hr => ?_))
  obtain ⟨m, tk, rfl, hq⟩ := hr
  refine wpAny_bind (wpAny_isInstance (typeIs_str _ _ _) isSubtype_str_str ?_)
  first
    | exact wpAny_pure ⟨_, rfl, hq⟩
    | (simp only [if_true]; exact wpAny_pure ⟨_, rfl, hq⟩)
end
end DV

set_option Elab.async false
set_option maxRecDepth 100000
set_option maxHeartbeats 4000000
set_option linter.all false
/-! DV16: classes on deep values: fields, properties, methods, creation. -/
namespace DV
open PySem L2 PySem.Spec PyProof.Rows

theorem zip_at {f : Str} {v : V} : ∀ {ns : List Str} {vs : List V} {i : Nat}, ns.Nodup → ns[i]? = some f → vs[i]? = some v → (ns.zip vs).lookup f = some v
  | [], _, _, _, e, _ => by simp at e
  | _ :: _, [], _, _, _, e => by simp at e
  | n :: ns, w :: vs, 0, _, e1, e2 => by
    have e1' : n = f := by simpa using e1
    have e2' : w = v := by simpa using e2
    subst e1' e2'
    rw [List.zip_cons_cons, List.lookup_cons_self]
  | n :: ns, w :: vs, i + 1, nd, e1, e2 => by
    have e1' : ns[i]? = some f := by simpa using e1
    have ne : (f == n) = false := by
      rw [beq_eq_false_iff_ne]
      rintro rfl
      exact (List.nodup_cons.mp nd).1 (List.mem_of_getElem? e1')
    rw [List.zip_cons_cons, List.lookup_cons, ne]
    exact zip_at (List.nodup_cons.mp nd).2 e1' (by simpa using e2)
theorem zip_no {f : Str} : ∀ {ns : List Str} {vs : List V}, f ∉ ns → (ns.zip vs).lookup f = none
  | [], _, _ => rfl
  | _ :: _, [], _ => rfl
  | n :: ns, w :: vs, h => by
    have ne : (f == n) = false := by
      rw [beq_eq_false_iff_ne]
      rintro rfl
      exact h (List.mem_cons_self ..)
    rw [List.zip_cons_cons, List.lookup_cons, ne]
    exact zip_no fun z => h (List.mem_cons_of_mem _ z)
theorem zip_put {f : Str} {y : V} : ∀ {ns : List Str} {vs : List V} {j : Nat}, ns.Nodup → ns[j]? = some f → j ≤ vs.length → putF f y (ns.zip vs) = ns.zip (if j < vs.length then vs.set j y else vs ++ [y])
  | [], _, _, _, e, _ => by simp at e
  | n :: ns, [], j, nd, e, l => by
    have hj : j = 0 := by simpa using l
    subst hj
    have e' : n = f := by simpa using e
    subst e'
    rw [if_neg (by simp), List.zip_nil_right, List.nil_append, List.zip_cons_cons, List.zip_nil_right]
    rfl
  | n :: ns, w :: vs, 0, nd, e, l => by
    have e' : n = f := by simpa using e
    subst e'
    rw [if_pos (by simp), List.zip_cons_cons, List.set_cons_zero, List.zip_cons_cons]
    show (if n = n then _ else _) = _
    rw [if_pos rfl]
  | n :: ns, w :: vs, j + 1, nd, e, l => by
    have e' : ns[j]? = some f := by simpa using e
    have ne : ¬ n = f := by
      rintro rfl
      exact (List.nodup_cons.mp nd).1 (List.mem_of_getElem? e')
    have ih := zip_put (y := y) (vs := vs) (List.nodup_cons.mp nd).2 e' (by simpa using l)
    rw [List.zip_cons_cons]
    show (if n = f then _ else (n, w) :: putF f y (ns.zip vs)) = _
    rw [if_neg ne, ih]
    by_cases q : j < vs.length
    · rw [if_pos q, if_pos (by simpa using q), List.set_cons_succ, List.zip_cons_cons]
    · rw [if_neg q, if_neg (by simpa using q), List.cons_append, List.zip_cons_cons]

/-! ### what a body knows of classes -/
/-- instances of c have the field f at place j -/
structure FldOk (g : G) (X : Cx) (c : Nat) (f : Str) (j : Nat) : Prop where
  at_ : (g.flds c)[j]? = some f
  nd : (g.flds c).Nodup
  sz : (g.flds c).length < 1000
  cls : ∀ C, g.cls c = some C → Cls X.K C ∧ NoAttr X.K C f
structure MOk (g : G) (X : Cx) (c : Nat) (name : Str) (n : Nat) (mu : Bool) (fn : Fn) : Prop where
  ex : ∃ (C f : Addr) (fd : FuncData) (ps : List Str) (k : Nat), g.cls c = some C ∧ Cls X.K C ∧ Meth X.K C name f ∧ Binds X.K fd ps [] ∧ Room (k + 2) X.A ∧
    FnD X.prog X.w X.K X.mg X.base false k f fd ps (spD g mu n fn) ∧ ps.length = n
  no : name ∉ g.flds c
structure POk (g : G) (X : Cx) (c : Nat) (name : Str) (fn : Fn) : Prop where
  ex : ∃ (C p f : Addr) (fd : FuncData) (ps : List Str) (k : Nat), g.cls c = some C ∧ Cls X.K C ∧ PropOf X.K C name p f ∧ Binds X.K fd ps [] ∧ Room (k + 2) X.A ∧
    FnD X.prog X.w X.K X.mg X.base false k f fd ps (spD g false 1 fn) ∧ ps.length = 1
structure CMOk (g : G) (X : Cx) (c : Nat) (name : Str) (n : Nat) (fn : Fn) : Prop where
  ex : ∃ (C p f : Addr) (mc : Value) (fd : FuncData) (ps : List Str) (k : Nat), g.cls c = some C ∧ ClX.CRead X.K C mc ∧ ClX.CMet X.K C mc name p f ∧ Binds X.K fd ps [] ∧ Room (k + 2) X.A ∧
    FnD X.prog X.w X.K X.mg X.base false k f fd ps (spD g false n fn) ∧ ps.length = n
/-- x(..) makes instances of c; dd: the defaults that fill up -/
structure MkOk (g : G) (X : Cx) (c : Nat) (x : Str) (n : Nat) (dd : List D) (fn : Fn) : Prop where
  ex : ∃ (C f : Addr) (fd : FuncData) (ps : List Str) (k : Nat) (dvs : List V) (ds : List Value), g.cls c = some C ∧ X.mg x = some (.ref C) ∧ Mk X.K C f ∧ Binds X.K fd ps ds ∧ Vals dvs ds ∧ (∀ I H, Reps g I H dd dvs []) ∧ Room (k + 2) X.A ∧
    FnD X.prog X.w X.K X.mg X.base false k f fd ps (spD g true n fn) ∧ ps.length = n

/-! ### what they do -/
def dFld (c j : Nat) (f : Den) : Den := fun ρ => match f ρ with
  | some (d, ρ') => match fz d with
    | .ins c' xs => if c' = c then (match xs[j]? with
      | some x => some (x, ρ')
      | none => none) else none
    | _ => none
  | none => none
/-- of the object in slot i, which stays as it is -/
def dFldV (i c j : Nat) : Den := fun ρ => match ρ[i]? with
  | some (.obj c' xs) => if c' = c then (match xs[j]? with
    | some x => some (fz x, ρ.set i (.obj c (xs.set j (fz x))))
    | none => none) else none
  | some (.ins c' xs) => if c' = c then (match xs[j]? with
    | some x => some (x, ρ)
    | none => none) else none
  | _ => none
def dMeth (c : Nat) (fn : Fn) (f : Den) (r : Dens) : Den := fun ρ => match f ρ with
  | some (d, ρ1) => match fz d with
    | .ins c' xs => if c' = c then (match r ρ1 with
      | some (ds, ρ2) => match fn (.ins c xs :: ds.map fz) with
        | some (d', _) => some (d', ρ2)
        | none => none
      | none => none) else none
    | _ => none
  | none => none
def dProp (c : Nat) (fn : Fn) (f : Den) : Den := dMeth c fn f dNil
def dCMeth (c : Nat) (fn : Fn) (r : Dens) : Den := fun ρ => match r ρ with
  | some (ds, ρ') => match fn (.cls c :: ds.map fz) with
    | some (d, _) => some (d, ρ')
    | none => none
  | none => none
def dMake (c : Nat) (dd : List D) (fn : Fn) (r : Dens) : Den := fun ρ => match r ρ with
  | some (ds, ρ') => match fn (.obj c [] :: (ds.map fz ++ dd)) with
    | some (.non, o) => some (o, ρ')
    | _ => none
  | none => none
/-- self.f = e, self in slot i -/
def sFst (i c j : Nat) (fe : Den) : DenS := fun ρ => match fe ρ with
  | some (d, ρ') => match ρ'[i]? with
    | some (.obj c' xs) => if c' = c ∧ j ≤ xs.length then some (.nx (ρ'.set i (.obj c (if j < xs.length then xs.set j d else xs ++ [d])))) else none
    | _ => none
  | none => none

section
variable {g : G} {X : Cx} {B : Bs} {I I' H H' : Hp} {ρ : List D} {σ : L2.St} {ts ds xs : List D} {vs ws us : List V} {d o : D} {v : V} {c j n k i : Nat} {fn sem : Fn} {e a : Expr} {es : List Expr} {fe : Den} {r : Dens} {m f x : Str} {pos apos p : Pos} {fx : Bool}

/-! ### steps -/
theorem StP.objAt (h : StP g B I H ρ σ ts vs) (e : ρ[i]? = some (.obj c xs)) : ∃ C a dx us, σ[i]? = some (some (.ref a)) ∧ g.cls c = some C ∧ H a = some (.ins C dx ((g.flds c).zip us)) ∧ us.length = xs.length := by
  obtain ⟨F1, F2, h1, h2, nd, of, hF⟩ := h.reps
  obtain ⟨w, A, f, Z, es, rfl, r, _⟩ := h1.at e (by simp)
  cases r with
  | obj hc hp hd hl ri => exact ⟨_, _, _, _, es, hc, hp, ri.length.symm⟩
/-- a field is read; it is frozen, the object not -/
theorem StP.objRead (h : StP g B I H ρ σ ts vs) (e : ρ[i]? = some (.obj c xs)) (ej : xs[j]? = some d) :
    ∃ C a dx us v I', σ[i]? = some (some (.ref a)) ∧ g.cls c = some C ∧ H a = some (.ins C dx ((g.flds c).zip us)) ∧ us[j]? = some v ∧ StP g B I' H (ρ.set i (.obj c (xs.set j (fz d)))) σ (ts ++ [fz d]) (vs ++ [v]) := by
  obtain ⟨F1, F2, h1, h2, nd, of, hF⟩ := h.reps
  obtain ⟨w, A, f, Z, es, rfl, r, k⟩ := h1.at e (by simp)
  cases r with
  | obj hc hp hd hl ri =>
    rename_i C a dx us f0
    obtain ⟨v, A0, f1, C0, ev, rfl, rd, k0⟩ := ri.item ej
    have n' : ∀ b ∈ f1, I b = none := fun b hb => of b (by grind)
    have si := tk_same (H := H) n'
    have rr : Rep g (tk I H f1) H (fz d) v [] := rd.fz si fun b hb => tk_in hb
    have k3 := k0 si (fun _ _ => rfl) rr
    rw [set_same ev] at k3
    have k1 := k si (fun _ _ => rfl) (.obj hc hp hd (by rw [List.length_set]; exact hl) k3)
    rw [set_same es] at k1
    have k2 := (h2.mono (H' := H) si fun _ _ => rfl).append (Reps.one rr)
    refine ⟨C, a, dx, us, v, tk I H f1, es, hc, hp, ev, h.step hF si (tk_sub h.same) (fun _ _ e _ => e) (fun _ _ z => z) (fun b z _ n => ?_) ⟨_, _, k1, k2, ?_, fun b hb => ?_⟩⟩
    · rw [tk_out (by grind)]; exact z
    · clear k k0 k1 k2 k3
      simp only [List.nodup_append, List.mem_append, List.nodup_cons, List.mem_cons, List.nil_append, List.append_nil] at *
      grind
    · have hb' : b ∉ f1 := by
        clear k k0 k1 k2 k3
        simp only [List.nodup_append, List.mem_append, List.nodup_cons, List.mem_cons, List.nil_append, List.append_nil] at *
        grind
      rw [tk_out hb']
      exact ⟨of b (by grind), .inl (by grind)⟩
/-- a field is stored -/
theorem StP.objSet (h : StP g B I H ρ σ (ts ++ [d]) (vs ++ [v])) (e : ρ[i]? = some (.obj c xs)) (hj : j ≤ xs.length) (hz : j < (g.flds c).length) :
    ∃ C a dx us, σ[i]? = some (some (.ref a)) ∧ g.cls c = some C ∧ H a = some (.ins C dx ((g.flds c).zip us)) ∧ us.length = xs.length ∧
      StP g B I (upd H a (.ins C dx ((g.flds c).zip (if j < us.length then us.set j v else us ++ [v])))) (ρ.set i (.obj c (if j < xs.length then xs.set j d else xs ++ [d]))) σ ts vs := by
  obtain ⟨F1, F2, h1, h2, nd, of, hF⟩ := h.reps
  obtain ⟨fa, fd, rfl, r1, r2⟩ := h2.split' rfl
  obtain ⟨w, ew, rd⟩ := r2.one_inv
  cases ew
  obtain ⟨w, A, f, Z, es, rfl, r, k⟩ := h1.at e (by simp)
  cases r with
  | obj hc hp hd hl ri =>
    rename_i C a dx us f0
    have ul := ri.length
    -- the new items
    have items : ∃ f', (∀ b ∈ f', b ∈ f0 ++ fd) ∧ ((f0 ++ fd).Nodup → f'.Nodup) ∧ ∀ {H' : Hp}, (∀ b ∈ f0 ++ fd, H' b = H b) → Reps g I H' (if j < xs.length then xs.set j d else xs ++ [d]) (if j < us.length then us.set j v else us ++ [v]) f' := by
      by_cases q : j < xs.length
      · obtain ⟨v1, A0, f1, C0, ev, rfl, _, k0⟩ := ri.item (List.getElem?_eq_getElem q)
        refine ⟨A0 ++ (fd ++ C0), fun b hb => by grind, fun z => by clear k k0; simp only [List.nodup_append, List.mem_append] at *; grind, fun {H'} hb => ?_⟩
        rw [if_pos q, if_pos (by omega)]
        exact k0 (Same.refl _) (fun b hb' => hb b (by grind)) (rd.mono (Same.refl _) fun b hb' => hb b (by grind))
      · refine ⟨f0 ++ fd, fun b hb => hb, fun z => z, fun {H'} hb => ?_⟩
        rw [if_neg q, if_neg (by omega)]
        exact (ri.mono (Same.refl _) fun b hb' => hb b (by grind)).append (Reps.one (rd.mono (Same.refl _) fun b hb' => hb b (by grind)))
    obtain ⟨f', sub, ndp, mk⟩ := items
    have np : a ∉ (A ++ Z) ++ (dx :: f0) ++ (fa ++ fd) := by
      clear k mk
      simp only [List.nodup_append, List.mem_append, List.nodup_cons, List.mem_cons] at *
      grind
    have kk : ∀ b, b ∈ (A ++ Z) ++ (dx :: f0) ++ (fa ++ fd) → upd H a (.ins C dx ((g.flds c).zip (if j < us.length then us.set j v else us ++ [v]))) b = H b := fun b hb => upd_ne (fun z => np (by rw [← z]; exact hb))
    have nI : I a = none := of a (by simp)
    have len' : (if j < xs.length then xs.set j d else xs ++ [d]).length ≤ (g.flds c).length := by
      split
      · rw [List.length_set]; exact hl
      · rw [List.length_append, List.length_singleton]; omega
    have k1 := k (Same.refl _) (fun b hb => kk b (by grind)) (.obj hc upd_same ((kk dx (by simp)).trans hd) len' (mk fun b hb => kk b (by grind)))
    rw [set_same es] at k1
    refine ⟨C, a, dx, us, es, hc, hp, ul.symm, h.step hF (Same.refl _) (fun b u e => ?_) (fun b u e q => ?_) (fun b q z => ?_) (fun _ z _ _ => z) ⟨_, fa, k1, r1.mono (Same.refl _) fun b hb => kk b (by grind), ?_, fun b hb => ⟨of b (by grind), .inl (by grind)⟩⟩⟩
    · rw [upd_ne (fun z => by subst z; rw [nI] at e; cases e)]
      exact h.same b u e
    · rw [upd_ne (fun z => q (by subst z; simp))]
      exact e
    · by_cases w : b = a
      · subst w; rw [upd_same]; simp
      · rw [upd_ne w]; exact z
    · have n1 : (f0 ++ fd).Nodup := by
        clear k mk kk k1
        simp only [List.nodup_append, List.mem_append, List.nodup_cons, List.mem_cons] at *
        grind
      have n2 := ndp n1
      clear k mk kk k1 ndp
      simp only [List.nodup_append, List.mem_append, List.nodup_cons, List.mem_cons] at *
      grind
/-- a new object of class c, its __init__ run -/
theorem StP.callM {Q : VK} {dd : List D} {dvs : List V} {C x dx : Addr} (h : StP g B I H ρ σ (ts ++ ds) (vs ++ ws)) (hl : ds.length = ws.length) (hc : g.cls c = some C) (hs : sem (.obj c [] :: (ds.map fz ++ dd)) = some (.non, o)) (rd : ∀ I H, Reps g I H dd dvs []) (hn : (ws ++ dvs).length + 1 = n)
    (k : ∀ I' H' v, StP g B I' H' ρ σ (ts ++ [o]) (vs ++ [v]) → Q v H') (nx : H x = none) (ndx : H dx = none) (ne : dx ≠ x) :
    spD g true n sem (.ref x :: (ws ++ dvs)) (upd (upd H dx (.own x)) x (.ins C dx [])) (fun v H2 => v = .non ∧ Q (.ref x) H2) E0 := by
  obtain ⟨I2, si, h2, rr⟩ := h.fzTop hl
  obtain ⟨F1, F2, s1, s2, nd0, of0, hF⟩ := (h2.pop (by simpa using hl)).reps
  have th : ∀ b ∈ F1 ++ F2, ∃ u, H b = some u := fun b hb => (List.mem_append.mp hb).elim (s1.there b) (s2.there b)
  have nIx : I2 x = none := h2.same.free nx
  have nId : I2 dx = none := h2.same.free ndx
  have hx : upd (upd H dx (.own x)) x (.ins C dx []) x = some (.ins C dx []) := upd_same
  have hd : upd (upd H dx (.own x)) x (.ins C dx []) dx = some (.own x) := by rw [upd_ne ne, upd_same]
  have ho : ∀ b, b ≠ x → b ≠ dx → upd (upd H dx (.own x)) x (.ins C dx []) b = H b := fun b h1 h2 => by rw [upd_ne h1, upd_ne h2]
  have sm : Same I2 (upd (upd H dx (.own x)) x (.ins C dx [])) := fun b u e => by
    rw [ho b (fun z => by subst z; rw [nIx] at e; cases e) (fun z => by subst z; rw [nId] at e; cases e)]
    exact h2.same b u e
  refine ⟨by simpa using hn, I2, .obj c [] :: (ds.map fz ++ dd), [x, dx], .non, o, sm, ?_, by simp [Ne.symm ne], fun b hb => ?_, hs, fun I' H' v f1 f2 si' sh' r ro _ nd off kh ki kd => ?_⟩
  · have r1 : Rep g I2 (upd (upd H dx (.own x)) x (.ins C dx [])) (.obj c []) (.ref x) (x :: dx :: []) := .obj hc (vs := []) (by rw [List.zip_nil_right]; exact hx) hd (Nat.zero_le _) .nil
    have r2 := Reps.cons r1 ((rr.mono (Same.refl _) (H' := upd (upd H dx (.own x)) x (.ins C dx [])) fun b hb => by cases hb).append (rd I2 _))
    simpa using r2
  · rcases List.mem_cons.mp hb with rfl | hb
    · exact nIx
    · rcases List.mem_cons.mp hb with rfl | hb
      · exact nId
      · cases hb
  · obtain ⟨rfl, rfl⟩ := r.non_i
    refine ⟨rfl, ?_⟩
    obtain ⟨w0, ew, ro⟩ := ro rfl
    cases ew
    have nb : ∀ b ∈ F1 ++ F2, b ≠ x ∧ b ≠ dx := fun b hb => by
      obtain ⟨u, e⟩ := th b hb
      exact ⟨fun z => (by subst z; rw [nx] at e; cases e), fun z => (by subst z; rw [ndx] at e; cases e)⟩
    have kk : ∀ b ∈ F1 ++ F2, H' b = H b := fun b hb => by
      obtain ⟨u, e⟩ := th b hb
      rw [e]
      exact kh b u (by rw [ho b (nb b hb).1 (nb b hb).2]; exact e) (by simp [(nb b hb).1, (nb b hb).2])
    refine k I' H' (.ref x) (h2.step hF si' sh' (fun b u e q => ?_) (fun b hb z => by rw [kk b hb]; exact z) (fun b z z' q => ?_) ⟨F1, F2 ++ f2, s1.mono si' fun b hb => kk b (by grind), (s2.mono si' fun b hb => kk b (by grind)).append (Reps.one ro), ?_, fun b hb => ?_⟩)
    · have b1 : b ≠ x := fun z => by subst z; rw [nx] at e; cases e
      have b2 : b ≠ dx := fun z => by subst z; rw [ndx] at e; cases e
      exact kh b u (by rw [ho b b1 b2]; exact e) (by simp [b1, b2])
    · have b1 : b ≠ x := fun w => by subst w; exact z' nx
      have b2 : b ≠ dx := fun w => by subst w; exact z' ndx
      exact ki b z (by rw [ho b b1 b2]; exact z') (by simp [b1, b2])
    · have : ∀ b ∈ f2, b ∉ F1 ++ F2 := fun b hb z => by
        have h3 := (off b (by simp [hb])).2
        obtain ⟨u, e⟩ := th b z
        rcases h3 with q | q
        · have := nb b z
          simp at q
          grind
        · rw [ho b (nb b z).1 (nb b z).2, e] at q; cases q
      have nd' : f2.Nodup := by simpa using nd
      clear off k kk ro
      simp only [List.nodup_append, List.mem_append] at *
      grind
    · by_cases q : b ∈ F1 ++ F2
      · refine ⟨ki b (of0 b q) ?_ (by simp [(nb b q).1, (nb b q).2]), .inl q⟩
        obtain ⟨u, e⟩ := th b q
        rw [ho b (nb b q).1 (nb b q).2, e]
        simp
      · have h3 := off b (by grind)
        refine ⟨h3.1, .inr ?_⟩
        rcases h3.2 with z | z
        · have : b = x ∨ b = dx := by simpa using z
          rcases this with rfl | rfl
          · exact nx
          · exact ndx
        · by_cases b1 : b = x
          · subst b1; exact nx
          · by_cases b2 : b = dx
            · subst b2; exact ndx
            · rw [ho b b1 b2] at z; exact z
end
end DV

set_option Elab.async false
set_option maxRecDepth 100000
set_option maxHeartbeats 4000000
set_option linter.all false
/-! DV17: classes on deep values: the rules. -/
namespace DV
open PySem L2 PySem.Spec PyProof.Rows

/-- the form of a call of a method -/
def MForm (env : Env) (o : Expr) (m : Str) (apos pos : Pos) (args : List Expr) : Prop := ∃ pl : Sem Bool, eval (.Call (.Attribute o m apos) args [] pos) env = (do
      let ov ← eval o env
      standAt apos.atName
      let (f, first) ← holding [ov] (getMethod ov m pl)
      callWith pos f first (backTo pos (starEach args env)) (backToKw pos (keywordEach [] env)))

section
variable {g : G} {X : Cx} {B : Bs} {I I' H H' : Hp} {ρ : List D} {σ : L2.St} {ts ds xs : List D} {vs ws us : List V} {d o : D} {v : V} {c j n k i : Nat} {fn sem : Fn} {e a : Expr} {es : List Expr} {fe : Den} {r : Dens} {m f x : Str} {pos apos p : Pos} {fx : Bool} {dd : List D}

theorem stars_plain (h : noStars es = true) : (backTo pos (starEach es X.env)).any (·.1) = false := stars_any h

theorem snd_fld (F : FldOk g X c f j) (hb : attributeBase e f X.env (eval e X.env) = eval e X.env) (he : SndE g X e fe) : SndE g X (.Attribute e f pos) (dFld c j fe) := by
  intro B I H ρ σ ts vs d ρ' Q h q k
  unfold dFld at q
  cases q1 : fe ρ with
  | none => rw [q1] at q; cases q
  | some z =>
    obtain ⟨da, ρ1⟩ := z
    rw [q1] at q
    dsimp only at q
    split at q
    · rename_i c' xs ed
      split at q
      · rename_i hc
        subst hc
        split at q
        · rename_i x ex
          cases q
          refine mx_of (pe_fld pe_mx hb) (he B I H ρ σ ts vs da _ _ h q1 fun I1 H1 y h1 => ?_)
          obtain ⟨I2, _, h2, rr⟩ := h1.fzTop (ds := [da]) (ws := [y]) rfl
          rw [List.map_cons, List.map_nil, ed] at rr
          obtain ⟨w, ew, r⟩ := rr.one_inv
          cases ew
          obtain ⟨C, a, dx, us, rfl, _, hC, hI, ri⟩ := r.ins_i
          have h3 := h2.pop (ds := [fz da]) (ws := [V.ref a]) rfl
          obtain ⟨v, ev, rv⟩ := ri.get ex
          exact ⟨a, C, dx, _, v, rfl, h3.same _ _ hI, (F.cls C hC).1, (F.cls C hC).2, zip_at F.nd F.at_ ev, k I2 H1 v (h3.push rv)⟩
        · cases q
      · cases q
    · cases q
  
theorem snd_fldV (F : FldOk g X c f j) (hb : attributeBase (.Name x p) f X.env (eval (.Name x p) X.env) = eval (.Name x p) X.env) (hN : X.N[i]? = some x) (hv : Vis X.env.scope x) (hd : (x == ("__debug__" : Str)) = false) (hcd : (x == ("__classdict__" : Str)) = false) :
    SndE g X (.Attribute (.Name x p) f pos) (dFldV i c j) := by
  intro B I H ρ σ ts vs d ρ' Q h q k
  unfold dFldV at q
  refine mx_of (pe_fld (pe_var hN hv hd hcd) hb) ?_
  split at q
  · rename_i c' xs e
    split at q
    · rename_i hc
      subst hc
      split at q
      · rename_i y ey
        cases q
        obtain ⟨C, a, dx, us, v, I2, es, hC, hI, ev, h2⟩ := h.objRead e ey
        exact ⟨_, es, a, C, dx, _, v, rfl, hI, (F.cls C hC).1, (F.cls C hC).2, zip_at F.nd F.at_ ev, k I2 H v h2⟩
      · cases q
    · cases q
  · rename_i c' xs e
    split at q
    · rename_i hc
      subst hc
      split at q
      · rename_i y ey
        cases q
        obtain ⟨w, I2, es, r, h2⟩ := h.var e (by simp)
        obtain ⟨C, a, dx, us, rfl, _, hC, hI, ri⟩ := r.ins_i
        obtain ⟨v, ev, rv⟩ := ri.get ey
        have h3 : StP g B I2 H ρ σ ts vs := by
          have e2 : ρ.set i (fz (.ins c' xs)) = ρ := set_same e
          rwa [e2] at h2
        exact ⟨_, es, a, C, dx, _, v, rfl, h3.same _ _ hI, (F.cls C hC).1, (F.cls C hC).2, zip_at F.nd F.at_ ev, k I2 H v (h3.push rv)⟩
      · cases q
    · cases q
  · cases q
theorem snd_fst (F : FldOk g X c f j) (hs : swapsWith e (some (.Attribute (.Name x p) f apos)) pos.line X.env = pure false) (hN : X.N[i]? = some x) (hv : Vis X.env.scope x) (hd : (x == ("__debug__" : Str)) = false) (hcd : (x == ("__classdict__" : Str)) = false) (he : SndE g X e fe) :
    SndS g fx X (.Assign [.Attribute (.Name x p) f apos] e pos) (sFst i c j fe) := by
  intro B I H ρ σ ts vs fl E h q k
  unfold sFst at q
  cases q1 : fe ρ with
  | none => rw [q1] at q; cases q
  | some z =>
    obtain ⟨d, ρ1⟩ := z
    rw [q1] at q
    dsimp only at q
    refine mxS_of (ps_fld (pe_var hN hv hd hcd) pe_mx hs) (he B I H ρ σ ts vs d ρ1 _ h q1 fun I1 H1 y h1 => ?_)
    split at q
    · rename_i c' xs e1
      split at q
      · rename_i hc
        obtain ⟨rfl, hj⟩ := hc
        cases q
        obtain ⟨C, a, dx, us, es, hC, hI, ul, h2⟩ := h1.objSet e1 hj (List.getElem?_eq_some_iff.mp F.at_).1
        refine ⟨_, es, a, C, dx, _, rfl, hI, (F.cls C hC).1, (F.cls C hC).2, ?_, ?_⟩
        · have := F.sz
          rw [List.length_zip]
          omega
        · rw [zip_put F.nd F.at_ (by omega)]
          exact k I1 _ σ h2 .refl
      · cases q
    · cases q
theorem snd_globC {C : Addr} (hg : Gl X x) (hm : X.mg x = some (.ref C)) (hd : (x == ("__debug__" : Str)) = false) (hc : g.cls c = some C) : SndE g X (.Name x pos) (dCst (.cls c)) := by
  intro B I H ρ σ ts vs d ρ' Q h q k
  cases q
  exact mx_of (pe_glob (v := .ref C) hg hm rfl hd) (k I H _ (h.push (.cls hc)))
/-- a built-in type's name -/
theorem snd_meth (M : MOk g X c m n false fn) (hs : noStars (e :: es) = true) (hn : (e :: es).length + 1 = n) (ht : MForm X.env a m apos pos (e :: es)) (ha : SndE g X a fe) (hr : SndL g X (e :: es) r) :
    SndE g X (.Call (.Attribute a m apos) (e :: es) [] pos) (dMeth c fn fe r) := by
  intro B I H ρ σ ts vs d ρ' Q h q k
  obtain ⟨C, fa, fd, ps, kk, hC, cl, me, bi, ro, F, hps⟩ := M.ex
  obtain ⟨pl, ht⟩ := ht
  have hs' : noStar e = true ∧ noStars es = true := by simpa [noStars] using hs
  unfold dMeth at q
  cases q1 : fe ρ with
  | none => rw [q1] at q; cases q
  | some z =>
    obtain ⟨da, ρ1⟩ := z
    rw [q1] at q
    dsimp only at q
    split at q
    · rename_i c' xs ed
      split at q
      · rename_i hc
        subst hc
        cases q2 : r ρ1 with
        | none => rw [q2] at q; cases q
        | some z =>
          obtain ⟨ds, ρ2⟩ := z
          rw [q2] at q
          dsimp only at q
          cases q3 : fn (.ins c' xs :: ds.map fz) with
          | none => rw [q3] at q; cases q
          | some z =>
            obtain ⟨d', o⟩ := z
            rw [q3] at q; cases q
            refine mx_of (pe_meth (pl := pl) (E := E0) pe_mx cl me F.ok (ro.mono (by omega)) bi .nil pass0 pa_mx (starOk (noStar_ne hs'.1)) (stars_any hs'.2) ht) (ha B I H ρ σ ts vs da ρ1 _ h q1 fun I1 H1 y h1 => ?_)
            obtain ⟨I2, _, h2, rr⟩ := h1.fzTop (ds := [da]) (ws := [y]) rfl
            rw [List.map_cons, List.map_nil, ed] at rr h2
            obtain ⟨w, ew, r1⟩ := rr.one_inv
            cases ew
            obtain ⟨C', a', dx, us, rfl, _, hC', hI, ri⟩ := r1.ins_i
            rw [hC] at hC'
            cases hC'
            refine ⟨a', dx, _, rfl, h2.same _ _ hI, zip_no M.no, ?_⟩
            refine hr B I2 H1 ρ1 σ _ _ ds _ _ h2 q2 fun I3 H3 ws h3 hl hw => ?_
            rw [List.append_nil]
            refine StP.callP (ds := .ins c' xs :: ds) (ws := .ref a' :: ws) (by simpa using h3) (by simp [hl]) q3 ?_ k
            rw [List.length_cons, hw]
            exact hn
      · cases q
    · cases q
theorem snd_meth0 (M : MOk g X c m 1 false fn) (ht : MForm X.env a m apos pos []) (ha : SndE g X a fe) : SndE g X (.Call (.Attribute a m apos) [] [] pos) (dMeth c fn fe dNil) := by
  intro B I H ρ σ ts vs d ρ' Q h q k
  obtain ⟨C, fa, fd, ps, kk, hC, cl, me, bi, ro, F, hps⟩ := M.ex
  obtain ⟨pl, ht⟩ := ht
  unfold dMeth dNil at q
  cases q1 : fe ρ with
  | none => rw [q1] at q; cases q
  | some z =>
    obtain ⟨da, ρ1⟩ := z
    rw [q1] at q
    dsimp only at q
    split at q
    · rename_i c' xs ed
      split at q
      · rename_i hc
        subst hc
        cases q3 : fn [.ins c' xs] with
        | none => rw [List.map_nil, q3] at q; cases q
        | some z =>
          obtain ⟨d', o⟩ := z
          rw [List.map_nil, q3] at q; cases q
          refine mx_of (pe_meth0 (pl := pl) (E := E0) pe_mx cl me F.ok (ro.mono (by omega)) bi .nil pass0 ht) (ha B I H ρ σ ts vs da _ _ h q1 fun I1 H1 y h1 => ?_)
          obtain ⟨I2, _, h2, rr⟩ := h1.fzTop (ds := [da]) (ws := [y]) rfl
          rw [List.map_cons, List.map_nil, ed] at rr h2
          obtain ⟨w, ew, r1⟩ := rr.one_inv
          cases ew
          obtain ⟨C', a', dx, us, rfl, _, hC', hI, ri⟩ := r1.ins_i
          rw [hC] at hC'
          cases hC'
          exact ⟨a', dx, _, rfl, h2.same _ _ hI, zip_no M.no, StP.callP (ds := [.ins c' xs]) (ws := [.ref a']) h2 rfl q3 rfl k⟩
      · cases q
    · cases q
theorem snd_prop (P : POk g X c f fn) (hb : attributeBase a f X.env (eval a X.env) = eval a X.env) (ha : SndE g X a fe) : SndE g X (.Attribute a f pos) (dProp c fn fe) := by
  intro B I H ρ σ ts vs d ρ' Q h q k
  obtain ⟨C, p, fa, fd, ps, kk, hC, cl, pr, bi, ro, F, hps⟩ := P.ex
  unfold dProp dMeth dNil at q
  cases q1 : fe ρ with
  | none => rw [q1] at q; cases q
  | some z =>
    obtain ⟨da, ρ1⟩ := z
    rw [q1] at q
    dsimp only at q
    split at q
    · rename_i c' xs ed
      split at q
      · rename_i hc
        subst hc
        cases q3 : fn [.ins c' xs] with
        | none => rw [List.map_nil, q3] at q; cases q
        | some z =>
          obtain ⟨d', o⟩ := z
          rw [List.map_nil, q3] at q; cases q
          refine mx_of (pe_prop (E := E0) pe_mx cl pr F.ok (ro.mono (by omega)) bi .nil pass0 hb) (ha B I H ρ σ ts vs da _ _ h q1 fun I1 H1 y h1 => ?_)
          obtain ⟨I2, _, h2, rr⟩ := h1.fzTop (ds := [da]) (ws := [y]) rfl
          rw [List.map_cons, List.map_nil, ed] at rr h2
          obtain ⟨w, ew, r1⟩ := rr.one_inv
          cases ew
          obtain ⟨C', a', dx, us, rfl, _, hC', hI, ri⟩ := r1.ins_i
          rw [hC] at hC'
          cases hC'
          exact ⟨a', dx, _, rfl, h2.same _ _ hI, StP.callP (ds := [.ins c' xs]) (ws := [.ref a']) h2 rfl q3 rfl k⟩
      · cases q
    · cases q
theorem snd_cmeth (M : CMOk g X c m n fn) (hg : Gl X x) (hm : ∀ C, g.cls c = some C → X.mg x = some (.ref C)) (hd : (x == ("__debug__" : Str)) = false) (hs : noStars (e :: es) = true) (hn : (e :: es).length + 1 = n) (ht : MForm X.env (.Name x p) m apos pos (e :: es)) (hr : SndL g X (e :: es) r) :
    SndE g X (.Call (.Attribute (.Name x p) m apos) (e :: es) [] pos) (dCMeth c fn r) := by
  intro B I H ρ σ ts vs d ρ' Q h q k
  obtain ⟨C, p, fa, mc, fd, ps, kk, hC, cr, cm, bi, ro, F, hps⟩ := M.ex
  obtain ⟨pl, ht⟩ := ht
  have hs' : noStar e = true ∧ noStars es = true := by simpa [noStars] using hs
  unfold dCMeth at q
  cases q2 : r ρ with
  | none => rw [q2] at q; cases q
  | some z =>
    obtain ⟨ds, ρ2⟩ := z
    rw [q2] at q
    dsimp only at q
    cases q3 : fn (.cls c :: ds.map fz) with
    | none => rw [q3] at q; cases q
    | some z =>
      obtain ⟨d', o⟩ := z
      rw [q3] at q; cases q
      refine mx_of (ClX.pe_cmeth (pl := pl) (E := E0) (pe_glob (v := .ref C) hg (hm C hC) rfl hd) cr cm (F.ok.raw bi .nil) (ro.mono (by omega)) pass0 pa_mx (starOk (noStar_ne hs'.1)) (stars_any hs'.2) ht) ⟨rfl, ?_⟩
      refine hr B I H ρ σ _ _ ds _ _ (h.push (.cls hC)) q2 fun I3 H3 ws h3 hl hw => ?_
      show spD g false n fn ((.ref C :: ws) ++ []) H3 Q E0
      rw [List.append_nil]
      refine StP.callP (ds := .cls c :: ds) (ws := .ref C :: ws) (by simpa using h3) (by simp [hl]) q3 ?_ k
      rw [List.length_cons, hw]
      exact hn
theorem snd_make (M : MkOk g X c x n dd fn) (hg : Gl X x) (hd : (x == ("__debug__" : Str)) = false) (hs : noStars (e :: es) = true) (hn : (e :: es).length + dd.length + 1 = n) (hr : SndL g X (e :: es) r) :
    SndE g X (.Call (.Name x p) (e :: es) [] pos) (dMake c dd fn r) := by
  intro B I H ρ σ ts vs d ρ' Q h q k
  obtain ⟨C, fa, fd, ps, kk, dvs, dvals, hC, hm, mk, bi, dv, rd, ro, F, hps⟩ := M.ex
  have hs' : noStar e = true ∧ noStars es = true := by simpa [noStars] using hs
  unfold dMake at q
  cases q2 : r ρ with
  | none => rw [q2] at q; cases q
  | some z =>
    obtain ⟨ds, ρ2⟩ := z
    rw [q2] at q
    dsimp only at q
    split at q
    · rename_i o q3
      cases q
      refine mx_of (pe_make (E := E0) mk F.ok (ro.mono (by omega)) hg hm bi dv pass0 pa_mx hd (starOk (noStar_ne hs'.1)) (stars_any hs'.2)) ?_
      refine hr B I H ρ σ _ _ ds _ _ h q2 fun I3 H3 ws h3 hl hw => ?_
      intro y dx ny ndx ne
      have e1 := (rd I H).length
      exact h3.callM hl hC q3 rd (by rw [List.length_append, hw, ← e1]; exact hn) k ny ndx ne
    · cases q
theorem snd_make0 (M : MkOk g X c x n dd fn) (hg : Gl X x) (hd : (x == ("__debug__" : Str)) = false) (hn : dd.length + 1 = n) :
    SndE g X (.Call (.Name x p) [] [] pos) (dMake c dd fn dNil) := by
  intro B I H ρ σ ts vs d ρ' Q h q k
  obtain ⟨C, fa, fd, ps, kk, dvs, dvals, hC, hm, mk, bi, dv, rd, ro, F, hps⟩ := M.ex
  unfold dMake dNil at q
  dsimp only at q
  split at q
  · rename_i o q3
    cases q
    refine mx_of (pe_make0 (E := E0) mk F.ok (ro.mono (by omega)) hg hm bi dv pass0 hd) ?_
    intro y dx ny ndx ne
    have e1 := (rd I H).length
    exact StP.callM (ds := []) (ws := []) (by simpa using h) rfl hC q3 rd (by rw [List.nil_append, ← e1]; exact hn) k ny ndx ne
  · cases q
end
end DV

set_option Elab.async false
set_option maxRecDepth 100000
set_option maxHeartbeats 4000000
set_option linter.all false
/-! DV18: operators, comparisons, str, repr of instances on deep values. -/
namespace DV
open PySem L2 PySem.Spec PyProof.Rows

/-- what the operators ask of a class -/
structure OpCls (g : G) (X : Cx) (c : Nat) : Prop where
  ex : ∃ C, g.cls c = some C ∧ PySem.W.selfFirst X.K C = true ∧ PySem.W.subIn X.K (.ref C) (.type "int") = some false ∧ PySem.W.subIn X.K (.ref C) (.type "object") = some true ∧
    PySem.W.findIn X.K (.ref C) "__ne__" = some (some (.builtin "object.__ne__")) ∧ ∀ T ∈ kinds, PySem.W.subIn X.K (.type T) (.ref C) = some false

/-- l, r: the class's op and reflected op; φ: what else the operator does -/
def ownO (c : Nat) (l r : Fn) (φ : D → D → Option D) : D → D → Option D
  | .ins c' xs, .int i => if c' = c then (l [.ins c xs, .int i]).map (·.1) else φ (.ins c' xs) (.int i)
  | .ins c' xs, .ins c2 ys => if c' = c ∧ c2 = c then (l [.ins c xs, .ins c ys]).map (·.1) else φ (.ins c' xs) (.ins c2 ys)
  | .int i, .ins c' ys => if c' = c then (r [.ins c ys, .int i]).map (·.1) else φ (.int i) (.ins c' ys)
  | a, b => φ a b
/-- plain values that are no object -/
def bare : D → Bool
  | .int _ | .bl _ | .str _ | .non => true
  | _ => false
def ownQ (c : Nat) (e : Fn) (φ : D → D → Option D) : D → D → Option D
  | .ins c' xs, .ins c2 ys => if c' = c ∧ c2 = c then (match e [.ins c xs, .ins c ys] with
    | some (.bl t, _) => some (.bl t)
    | _ => none) else φ (.ins c' xs) (.ins c2 ys)
  | .int i, .ins c' ys => if c' = c then (match e [.ins c ys, .int i] with
    | some (.bl t, _) => some (.bl t)
    | _ => none) else φ (.int i) (.ins c' ys)
  | .ins c' xs, b => if c' = c ∧ bare b = true then (match e [.ins c xs, b] with
    | some (.bl t, _) => some (.bl t)
    | _ => none) else φ (.ins c' xs) b
  | a, b => φ a b
def ownN (c : Nat) (e : Fn) (φ : D → D → Option D) : D → D → Option D
  | .ins c' xs, .ins c2 ys => if c' = c ∧ c2 = c then (match e [.ins c xs, .ins c ys] with
    | some (.bl t, _) => some (.bl (!t))
    | _ => none) else φ (.ins c' xs) (.ins c2 ys)
  | .ins c' xs, b => if c' = c ∧ bare b = true then (match e [.ins c xs, b] with
    | some (.bl t, _) => some (.bl (!t))
    | _ => none) else φ (.ins c' xs) b
  | a, b => φ a b
def ownS (c : Nat) (s : Fn) (φ : List D → Option D) : List D → Option D
  | [.ins c' xs] => if c' = c then (match s [.ins c xs] with
    | some (.str y, _) => some (.str y)
    | _ => none) else φ [.ins c' xs]
  | ds => φ ds
def ownU (c : Nat) (s : Fn) (φ : D → Option D) : D → Option D
  | .ins c' xs => if c' = c then (s [.ins c xs]).map (·.1) else φ (.ins c' xs)
  | d => φ d

section
variable {g : G} {X : Cx} {B : Bs} {I I' H H' : Hp} {ρ : List D} {σ : L2.St} {ts ds xs : List D} {vs ws us : List V} {d o : D} {v : V} {c j n k i : Nat} {fn l r sem : Fn} {gd : Bool}

theorem run_at {A' : Around} {pins : List (Addr × Obj)} {s : Shared} {us vals : List Value} {vs dvs : List V} {Q : VK} {E' : Value → Shared → Prop} {f : Addr} {fd : FuncData} {ps : List Str} {sp : Sp} (F : FnD X.prog X.w X.K X.mg X.base gd k f fd ps sp) (hr : Room k A') (hgd : gd = true → A'.guards = some [])
    (e0 : Env0 X.prog X.w X.K X.mg X.base A' X.stack s H) (hb : Binds X.K fd ps vals) (hd : Vals dvs vals) (I : Inv X pins σ H s) (r : Vals vs us) (h : sp (vs ++ dvs) H Q E0) : wpAny (model X.prog X.w) A' (call (.ref f) us) (EP X pins σ Q) E' s := by
  have r2 := r.append hd
  have hl : (us ++ vals).length = ps.length := by rw [← r2.length]; exact F.len _ _ _ _ h
  refine wpAny_call (codeAny_mono (F.run A' X.stack s H ⟨us, []⟩ (us ++ vals) (vs ++ dvs) Q E0 hr hgd e0 (hb s us I.kIn hl) r2 h) fun r s' hq => ?_)
  cases r with
  | error e => exact hq.elim
  | ok fl =>
    cases fl with
    | ret u => exact I.after hq
    | next => exact False.elim hq
    | brk => exact False.elim hq
    | cont => exact False.elim hq
theorem inst_at {pins : List (Addr × Obj)} {s : Shared} {a C dx : Addr} {fs : List (Str × V)} (I : Inv X pins σ H s) (e : H a = some (.ins C dx fs)) : ∃ od, PySem.W.InstAt s.heap a (PySem.W.instObj C dx) C (some od) := by
  obtain ⟨mA, O, _⟩ := ins_get I.hok e
  obtain ⟨od, J, _⟩ := O.look
  exact ⟨od, J⟩
theorem cmpBack {Q : Value → Shared → Prop} {x : V} {u : Value} {s : Shared} (r : RelV x u) (q : Q u s) : PySem.W.CmpBack Q u s := by
  cases x with
  | non => cases (show u = Value.none from r); exact q
  | bl b => cases (show u = Value.bool b from r); exact q
  | int i => obtain ⟨t, rfl⟩ := r; exact q
  | str y => obtain ⟨t, rfl⟩ := r; exact q
  | ref a => cases (show u = Value.ref a from r); exact q
  | _ => cases u <;> first | exact q | (obtain ⟨_, z⟩ := r; cases z) | cases r
theorem map1 {α β : Type} {z : Option (α × β)} {y : α} (h : z.map (·.1) = some y) : ∃ b, z = some (y, b) := by
  cases z with
  | none => cases h
  | some p => obtain ⟨a, b⟩ := p; cases h; exact ⟨b, rfl⟩

theorem snd_own {op : Operator} {φ : D → D → Option D} {idl : String} {Bi : Builtin} (hφ : SndOp g X (binaryOp op) φ) (O : OpCls g X c) (hl : MOk g X c (PySem.dunder op.info.2) 2 false l) (hr : MOk g X c (dunderR op.info.2) 2 false r)
    (hfT : fillsNumberSlot (.type "int") op.info.2 = pure true) (hsl : Slot "int" (PySem.dunder op.info.2) idl) (he : entryFor table idl = some Bi) (ha : ∀ a b : Value, argsOk idl ⟨[a, b], []⟩)
    (hm : ∀ (i : Int) (t : Tok) (y : Addr) (oy : Obj), oy.data = .plain → Meets (Bi ⟨[.int i t, .ref y], []⟩) (fun _ R s => s.heap.get? y = some oy ∧ R (.ok (.ret Value.notImplemented)) s))
    {fo ro : Option Value} (h1 : PySem.W.findIn X.K (.type "int") (PySem.dunder op.info.2) = some fo) (h2 : PySem.W.findIn X.K (.type "int") (dunderR op.info.2) = some ro) : SndOp g X (binaryOp op) (ownO c l r φ) := by
  obtain ⟨C, hC, sf, si, so, _, sub⟩ := O.ex
  obtain ⟨C1, f1, fd1, ps1, k1, hC1, cl1, me1, bi1, ro1, F1, hp1⟩ := hl.ex
  obtain ⟨C2, f2, fd2, ps2, k2, hC2, cl2, me2, bi2, ro2, F2, hp2⟩ := hr.ex
  rw [hC] at hC1 hC2
  cases hC1
  cases hC2
  intro B I H ρ σ ts vs da db x y d Q h r1 r2 e k
  unfold ownO at e
  split at e
  · rename_i c' xs i
    split at e
    · rename_i hc
      subst hc
      obtain ⟨o', e⟩ := map1 e
      obtain ⟨C', a, dx, us, rfl, _, hC', hI, ri⟩ := r1.ins_i
      rw [hC] at hC'
      cases hC'
      obtain ⟨rfl, _⟩ := r2.int_i
      intro pins s σ' v u Iv rx ry
      obtain rfl : v = Value.ref a := rx
      obtain ⟨t, rfl⟩ := ry
      obtain ⟨od, J⟩ := inst_at Iv (h.same _ _ hI)
      obtain ⟨mm, Fr0⟩ := Iv.fr
      refine PySem.W.ksp_binT Fr0 Iv.ok.mod.kin J (T := "int") rfl sf me1.at_ me1.fn me2.at_ (.inr ⟨_, rfl⟩) h1 h2 (sub "int" (by decide)) ?_
      have h5 : StP g B I H ρ σ (ts ++ [.ins c' xs, .int i]) (vs ++ [.ref a, .int i]) := by simpa using (h.push r1).push r2
      have run := run_at (gd := false) (E' := X.xe) (vs := [.ref a, .int i]) (dvs := []) (Q := Q) F1 (ro1.mono (by omega)) (fun z => nomatch z) Iv.env0 bi1 .nil Iv (.cons rfl (.cons ⟨t, rfl⟩ .nil)) (StP.callP (ds := [.ins c' xs, .int i]) h5 rfl e rfl k)
      exact thn run fun u' s' ⟨z, H', I', rz, q⟩ => cmpBack rz ⟨z, H', I', rz, q⟩
    · exact hφ B I H ρ σ ts vs _ _ x y d Q h r1 r2 e k
  · rename_i c' xs c2 ys
    split at e
    · rename_i hc
      obtain ⟨rfl, rfl⟩ := hc
      obtain ⟨o', e⟩ := map1 e
      obtain ⟨C', a, dx, us, rfl, _, hC', hI, ri⟩ := r1.ins_i
      rw [hC] at hC'
      cases hC'
      obtain ⟨C', b, dy, us2, rfl, _, hC', hI2, ri2⟩ := r2.ins_i
      rw [hC] at hC'
      cases hC'
      intro pins s σ' v u Iv rx ry
      obtain rfl : v = Value.ref a := rx
      obtain rfl : u = Value.ref b := ry
      obtain ⟨od, J⟩ := inst_at Iv (h.same _ _ hI)
      obtain ⟨od2, J2⟩ := inst_at Iv (h.same _ _ hI2)
      refine bin_same Iv.kIn J J2 sf me1.at_ me1.fn ?_
      have h5 : StP g B I H ρ σ (ts ++ [.ins c2 xs, .ins c2 ys]) (vs ++ [.ref a, .ref b]) := by simpa using (h.push r1).push r2
      have run := run_at (gd := false) (E' := X.xe) (vs := [.ref a, .ref b]) (dvs := []) (Q := Q) F1 (ro1.mono (by omega)) (fun z => nomatch z) Iv.env0 bi1 .nil Iv (.cons rfl (.cons rfl .nil)) (StP.callP (ds := [.ins c2 xs, .ins c2 ys]) h5 rfl e rfl k)
      exact thn run fun u' s' ⟨z, H', I', rz, q⟩ => cmpBack rz ⟨z, H', I', rz, q⟩
    · exact hφ B I H ρ σ ts vs _ _ x y d Q h r1 r2 e k
  · rename_i i c' ys
    split at e
    · rename_i hc
      subst hc
      obtain ⟨o', e⟩ := map1 e
      obtain ⟨C', b, dy, us, rfl, _, hC', hI, ri⟩ := r2.ins_i
      rw [hC] at hC'
      cases hC'
      obtain ⟨rfl, _⟩ := r1.int_i
      intro pins s σ' v u Iv rx ry
      obtain rfl : u = Value.ref b := ry
      obtain ⟨t, rfl⟩ := rx
      obtain ⟨od, J⟩ := inst_at Iv (h.same _ _ hI)
      refine bin_refl Iv.kIn J sf hfT hsl he (ha _ _) (hm _ _ _ _ rfl) me1.at_ me2.at_ me2.fn si ?_
      have h5 : StP g B I H ρ σ (ts ++ [.ins c' ys, .int i]) (vs ++ [.ref b, .int i]) := by simpa using (h.push r2).push r1
      have run := run_at (gd := false) (E' := X.xe) (vs := [.ref b, .int i]) (dvs := []) (Q := Q) F2 (ro2.mono (by omega)) (fun z => nomatch z) Iv.env0 bi2 .nil Iv (.cons rfl (.cons ⟨t, rfl⟩ .nil)) (StP.callP (ds := [.ins c' ys, .int i]) h5 rfl e rfl k)
      exact thn run fun u' s' ⟨z, H', I', rz, q⟩ => cmpBack rz ⟨z, H', I', rz, q⟩
    · exact hφ B I H ρ σ ts vs _ _ x y d Q h r1 r2 e k
  · exact hφ B I H ρ σ ts vs _ _ x y d Q h r1 r2 e k

theorem instS : ∀ {d : D} {x : V}, bare d = true → Rep g I H d x [] → ∃ T, T ∈ kinds ∧ ∀ u, RelV x u → typeOf u = pure (.type T)
  | .int _, _, _, r => ⟨"int", by decide, fun u ru => by obtain ⟨rfl, _⟩ := r.int_i; obtain ⟨t, rfl⟩ := ru; rfl⟩
  | .bl _, _, _, r => ⟨"bool", by decide, fun u ru => by obtain ⟨rfl, _⟩ := r.bl_i; cases (show u = Value.bool _ from ru); rfl⟩
  | .str _, _, _, r => ⟨"str", by decide, fun u ru => by obtain ⟨rfl, _⟩ := r.str_i; obtain ⟨t, rfl⟩ := ru; rfl⟩
  | .non, _, _, r => ⟨"NoneType", by decide, fun u ru => by obtain ⟨rfl, _⟩ := r.non_i; cases (show u = Value.none from ru); rfl⟩
/-- the call of the instance's comparison -/
theorem call_cmp {A' : Around} {E' : Value → Shared → Prop} {a b : D} {x y : V} {fa : Addr} {pins : List (Addr × Obj)} {s : Shared} {v u : Value} {t : Bool} {o : D} {Q' : Value → Shared → Prop} {fd : FuncData} {ps : List Str} (F : FnD X.prog X.w X.K X.mg X.base false k fa fd ps (spD g false 2 fn)) (bi : Binds X.K fd ps []) (hr : Room k A')
    (h : StP g B I H ρ σ ts vs) (r1 : Rep g I H a x []) (r2 : Rep g I H b y []) {σ' : L2.St} (Iv : Inv X pins σ' H s) (e0 : Env0 X.prog X.w X.K X.mg X.base A' X.stack s H) (rx : RelV x v) (ry : RelV y u) (fa_ : fz a = a) (fb_ : fz b = b) (e : fn [a, b] = some (.bl t, o))
    (k' : ∀ I' H' s', StP g B I' H' ρ σ ts vs → Inv X pins σ' H' s' → Q' (.bool t) s') : wpAny (model X.prog X.w) A' (call (.ref fa) [v, u]) (fun w' s' => ∃ t', w' = .bool t' ∧ t' = t ∧ Q' w' s') E' s := by
  have h5 : StP g B I H ρ σ (ts ++ [a, b]) (vs ++ [x, y]) := by simpa using (h.push r1).push r2
  have run := run_at (gd := false) (E' := E') (vs := [x, y]) (dvs := []) (Q := fun z H' => z = .bl t ∧ ∃ I', StP g B I' H' ρ σ ts vs) F hr (fun z => nomatch z) e0 bi .nil Iv (.cons rx (.cons ry .nil))
    (StP.callP (ds := [a, b]) h5 rfl (by rw [List.map_cons, List.map_cons, List.map_nil, fa_, fb_]; exact e) rfl fun I' H' v h' => ⟨h'.topBl.1, I', h'.topBl.2⟩)
  refine thn run fun u' s' ⟨z, H', I', rz, ez, I2, h2⟩ => ?_
  subst ez
  cases (show u' = Value.bool t from rz)
  exact ⟨t, rfl, rfl, k' I2 H' s' h2 I'⟩
theorem mat {z : Option (D × D)} {d : D} {w : Bool → D} (h : (match z with | some (.bl t, _) => some (w t) | _ => none) = some d) : ∃ t o, z = some (.bl t, o) ∧ d = w t := by
  split at h
  · cases h; exact ⟨_, _, rfl, rfl⟩
  · cases h
theorem eqop (a b : Value) : compareOp .Eq a b = richCompare .Eq a b := by unfold compareOp; rfl
theorem neop (a b : Value) : compareOp .NotEq a b = richCompare .NotEq a b := by unfold compareOp; rfl
theorem snd_ownQ {φ : D → D → Option D} (hφ : SndOp g X (compareOp .Eq) φ) (O : OpCls g X c) (hl : MOk g X c "__eq__" 2 false l) : SndOp g X (compareOp .Eq) (ownQ c l φ) := by
  obtain ⟨C, hC, sf, si, so, _, sub⟩ := O.ex
  obtain ⟨C1, f1, fd1, ps1, k1, hC1, cl1, me1, bi1, ro1, F1, hp1⟩ := hl.ex
  rw [hC] at hC1
  cases hC1
  have hu : X.A.units < cLine := ro1.units0
  intro B I H ρ σ ts vs da db x y d Q h r1 r2 e k
  unfold ownQ at e
  split at e
  · rename_i c' xs c2 ys
    split at e
    · rename_i hc
      obtain ⟨rfl, rfl⟩ := hc
      obtain ⟨t, o, e1, rfl⟩ := mat (w := D.bl) e
      obtain ⟨C', a, dx, us, rfl, _, hC', hI, ri⟩ := r1.ins_i
      rw [hC] at hC'
      cases hC'
      obtain ⟨C', b, dy, us2, rfl, _, hC', hI2, ri2⟩ := r2.ins_i
      rw [hC] at hC'
      cases hC'
      intro pins s σ' v u Iv rx ry
      obtain rfl : v = Value.ref a := rx
      obtain rfl : u = Value.ref b := ry
      obtain ⟨od, J⟩ := inst_at Iv (h.same _ _ hI)
      obtain ⟨od2, J2⟩ := inst_at Iv (h.same _ _ hI2)
      rw [eqop]
      refine cmp_own hu Iv.kIn J J2.type (by unfold PySem.W.notFirst; simp) me1.at_ me1.fn ?_
      refine thn (call_cmp (Q' := EP X pins σ' Q) F1 bi1 (ro1.mono (by omega)) h r1 r2 Iv Iv.env0 rfl rfl rfl rfl e1 fun I' H' s' h' I2 => ⟨.bl t, H', I2, rfl, k I' H' _ (h'.push .bl)⟩) fun w' s' ⟨t', e2, _, q⟩ => ⟨t', e2, q⟩
    · exact hφ B I H ρ σ ts vs _ _ x y d Q h r1 r2 e k
  · rename_i i c' ys
    split at e
    · rename_i hc
      subst hc
      obtain ⟨t, o, e1, rfl⟩ := mat (w := D.bl) e
      obtain ⟨C', b, dy, us, rfl, _, hC', hI, ri⟩ := r2.ins_i
      rw [hC] at hC'
      cases hC'
      obtain ⟨rfl, _⟩ := r1.int_i
      intro pins s σ' v u Iv rx ry
      obtain rfl : u = Value.ref b := ry
      obtain ⟨tk, rfl⟩ := rx
      obtain ⟨od, J⟩ := inst_at Iv (h.same _ _ hI)
      rw [eqop]
      refine eq_refl hu Iv.kIn J rfl me1.at_ me1.fn si ?_
      refine thn (call_cmp (Q' := EP X pins σ' Q) F1 bi1 (ro1.mono (by omega)) h r2 .int Iv Iv.env0 rfl ⟨tk, rfl⟩ rfl rfl e1 fun I' H' s' h' I2 => ⟨.bl t, H', I2, rfl, k I' H' _ (h'.push .bl)⟩) fun w' s' ⟨t', e2, _, q⟩ => ⟨t', e2, q⟩
    · exact hφ B I H ρ σ ts vs _ _ x y d Q h r1 r2 e k
  · rename_i c' xs _
    split at e
    · rename_i hc
      obtain ⟨rfl, hb⟩ := hc
      obtain ⟨t, o, e1, rfl⟩ := mat (w := D.bl) e
      obtain ⟨C', a, dx, us, rfl, _, hC', hI, ri⟩ := r1.ins_i
      rw [hC] at hC'
      cases hC'
      obtain ⟨T, hT, ty⟩ := instS hb r2
      intro pins s σ' v u Iv rx ry
      obtain rfl : v = Value.ref a := rx
      obtain ⟨od, J⟩ := inst_at Iv (h.same _ _ hI)
      rw [eqop]
      refine cmp_own hu Iv.kIn J (PySem.W.Looks.of_pure (ty u ry)) (by unfold PySem.W.notFirst; rw [sub T hT]; simp) me1.at_ me1.fn ?_
      refine thn (call_cmp (Q' := EP X pins σ' Q) F1 bi1 (ro1.mono (by omega)) h r1 r2 Iv Iv.env0 rfl ry rfl (by revert hb; cases db <;> first | (intro _; rfl) | (intro z; cases z)) e1 fun I' H' s' h' I2 => ⟨.bl t, H', I2, rfl, k I' H' _ (h'.push .bl)⟩) fun w' s' ⟨t', e2, _, q⟩ => ⟨t', e2, q⟩
    · exact hφ B I H ρ σ ts vs _ _ x y d Q h r1 r2 e k
  · exact hφ B I H ρ σ ts vs _ _ x y d Q h r1 r2 e k
theorem snd_ownN {φ : D → D → Option D} (hφ : SndOp g X (compareOp .NotEq) φ) (O : OpCls g X c) (hl : MOk g X c "__eq__" 2 false l) : SndOp g X (compareOp .NotEq) (ownN c l φ) := by
  obtain ⟨C, hC, sf, si, so, hne, sub⟩ := O.ex
  obtain ⟨C1, f1, fd1, ps1, k1, hC1, cl1, me1, bi1, ro1, F1, hp1⟩ := hl.ex
  rw [hC] at hC1
  cases hC1
  have hu : X.A.units + 1 < cLine := by have := ro1.un; omega
  intro B I H ρ σ ts vs da db x y d Q h r1 r2 e k
  unfold ownN at e
  split at e
  · rename_i c' xs c2 ys
    split at e
    · rename_i hc
      obtain ⟨rfl, rfl⟩ := hc
      obtain ⟨t, o, e1, rfl⟩ := mat (w := fun t => D.bl (!t)) e
      obtain ⟨C', a, dx, us, rfl, _, hC', hI, ri⟩ := r1.ins_i
      rw [hC] at hC'
      cases hC'
      obtain ⟨C', b, dy, us2, rfl, _, hC', hI2, ri2⟩ := r2.ins_i
      rw [hC] at hC'
      cases hC'
      intro pins s σ' v u Iv rx ry
      obtain rfl : v = Value.ref a := rx
      obtain rfl : u = Value.ref b := ry
      obtain ⟨od, J⟩ := inst_at Iv (h.same _ _ hI)
      obtain ⟨od2, J2⟩ := inst_at Iv (h.same _ _ hI2)
      rw [neop]
      refine ne_own hu Iv.kIn J J2.type (by unfold PySem.W.notFirst; simp) hne so me1.at_ me1.fn ?_
      refine thn (call_cmp (Q' := fun _ s' => EP X pins σ' Q (.bool (!t)) s') F1 bi1 (Room.in1 (ro1.mono (by omega))) h r1 r2 Iv Iv.env0.in1 rfl rfl rfl rfl e1 fun I' H' s' h' I2 => ⟨.bl (!t), H', I2, rfl, k I' H' _ (h'.push .bl)⟩) fun w' s' ⟨t', e2, e3, q⟩ => ⟨t', e2, by rw [e3]; exact q⟩
    · exact hφ B I H ρ σ ts vs _ _ x y d Q h r1 r2 e k
  · rename_i c' xs _
    split at e
    · rename_i hc
      obtain ⟨rfl, hb⟩ := hc
      obtain ⟨t, o, e1, rfl⟩ := mat (w := fun t => D.bl (!t)) e
      obtain ⟨C', a, dx, us, rfl, _, hC', hI, ri⟩ := r1.ins_i
      rw [hC] at hC'
      cases hC'
      obtain ⟨T, hT, ty⟩ := instS hb r2
      intro pins s σ' v u Iv rx ry
      obtain rfl : v = Value.ref a := rx
      obtain ⟨od, J⟩ := inst_at Iv (h.same _ _ hI)
      rw [neop]
      refine ne_own hu Iv.kIn J (PySem.W.Looks.of_pure (ty u ry)) (by unfold PySem.W.notFirst; rw [sub T hT]; simp) hne so me1.at_ me1.fn ?_
      refine thn (call_cmp (Q' := fun _ s' => EP X pins σ' Q (.bool (!t)) s') F1 bi1 (Room.in1 (ro1.mono (by omega))) h r1 r2 Iv Iv.env0.in1 rfl ry rfl (by revert hb; cases db <;> first | (intro _; rfl) | (intro z; cases z)) e1 fun I' H' s' h' I2 => ⟨.bl (!t), H', I2, rfl, k I' H' _ (h'.push .bl)⟩) fun w' s' ⟨t', e2, e3, q⟩ => ⟨t', e2, by rw [e3]; exact q⟩
    · exact hφ B I H ρ σ ts vs _ _ x y d Q h r1 r2 e k
  · exact hφ B I H ρ σ ts vs _ _ x y d Q h r1 r2 e k
theorem snd_ownU {φ : D → Option D} (hφ : SndU g X (unaryOp .USub) φ) (hl : MOk g X c "__neg__" 1 false l) : SndU g X (unaryOp .USub) (ownU c l φ) := by
  obtain ⟨C, f1, fd1, ps1, k1, hC, cl1, me1, bi1, ro1, F1, hp1⟩ := hl.ex
  intro B I H ρ σ ts vs da x d Q h r1 e k
  unfold ownU at e
  split at e
  · rename_i c' xs
    split at e
    · rename_i hc
      subst hc
      obtain ⟨o', e⟩ := map1 e
      obtain ⟨C', a, dx, us, rfl, _, hC', hI, ri⟩ := r1.ins_i
      rw [hC] at hC'
      cases hC'
      intro pins s σ' v Iv rx
      obtain rfl : v = Value.ref a := rx
      obtain ⟨od, J⟩ := inst_at Iv (h.same _ _ hI)
      refine neg_own Iv.kIn J me1.at_ me1.fn ?_
      have h5 : StP g B I H ρ σ (ts ++ [.ins c' xs]) (vs ++ [.ref a]) := h.push r1
      exact run_at (gd := false) (E' := X.xe) (vs := [.ref a]) (dvs := []) (Q := Q) F1 (ro1.mono (by omega)) (fun z => nomatch z) Iv.env0 bi1 .nil Iv (.cons rfl .nil) (StP.callP (ds := [.ins c' xs]) h5 rfl e rfl k)
    · exact hφ B I H ρ σ ts vs _ x d Q h r1 e k
  · exact hφ B I H ρ σ ts vs _ x d Q h r1 e k
theorem matS {z : Option (D × D)} {d : D} (h : (match z with | some (.str t, _) => some (.str t) | _ => none) = some d) : ∃ t o, z = some (.str t, o) ∧ d = .str t := by
  split at h
  · cases h; exact ⟨_, _, rfl, rfl⟩
  · cases h
theorem call_str {A' : Around} {E' : Value → Shared → Prop} {a : D} {x : V} {fa : Addr} {pins : List (Addr × Obj)} {s : Shared} {v : Value} {t : Str} {o : D} {Q : VK} {fd : FuncData} {ps : List Str} (F : FnD X.prog X.w X.K X.mg X.base false k fa fd ps (spD g false 1 fn)) (bi : Binds X.K fd ps []) (hr : Room k A')
    (h : StP g B I H ρ σ ts vs) (r1 : Rep g I H a x []) {σ' : L2.St} (Iv : Inv X pins σ' H s) (e0 : Env0 X.prog X.w X.K X.mg X.base A' X.stack s H) (rx : RelV x v) (fa_ : fz a = a) (e : fn [a] = some (.str t, o))
    (k' : ∀ I' H', StP g B I' H' ρ σ ts vs → Q (.str t) H') : wpAny (model X.prog X.w) A' (call (.ref fa) [v]) (fun w' s' => ∃ tk, w' = .str t tk ∧ EP X pins σ' Q w' s') E' s := by
  have h5 : StP g B I H ρ σ (ts ++ [a]) (vs ++ [x]) := h.push r1
  have run := run_at (gd := false) (E' := E') (vs := [x]) (dvs := []) (Q := fun z H' => z = .str t ∧ ∃ I', StP g B I' H' ρ σ ts vs) F hr (fun z => nomatch z) e0 bi .nil Iv (.cons rx .nil)
    (StP.callP (ds := [a]) h5 rfl (by rw [List.map_cons, List.map_nil, fa_]; exact e) rfl fun I' H' v h' => ⟨h'.topStr.1, I', h'.topStr.2⟩)
  refine thn run fun u' s' ⟨z, H', I', rz, ez, I2, h2⟩ => ?_
  subst ez
  obtain ⟨tk, rfl⟩ := rz
  exact ⟨tk, rfl, .str t, H', I', ⟨tk, rfl⟩, k' I2 H' h2⟩
theorem snd_ownStr {φ : List D → Option D} (hφ : SndC g X (.type "str") φ) (hl : MOk g X c "__str__" 1 false l) : SndC g X (.type "str") (ownS c l φ) := by
  obtain ⟨C, f1, fd1, ps1, k1, hC, cl1, me1, bi1, ro1, F1, hp1⟩ := hl.ex
  intro B I H ρ σ ts vs ds xs d Q h rr e k
  unfold ownS at e
  split at e
  · rename_i c' ys
    split at e
    · rename_i hc
      subst hc
      obtain ⟨t, o, e1, rfl⟩ := matS e
      obtain ⟨x, rfl, r1⟩ := rr.ones
      obtain ⟨C', a, dx, us, rfl, _, hC', hI, ri⟩ := r1.ins_i
      rw [hC] at hC'
      cases hC'
      intro pins s σ' us Iv rx
      obtain ⟨u, rfl, ru⟩ : ∃ u, us = [u] ∧ RelV (.ref a) u := by
        cases rx with
        | cons p q => cases q; exact ⟨_, rfl, p⟩
      obtain rfl : u = Value.ref a := ru
      obtain ⟨od, J⟩ := inst_at Iv (h.same _ _ hI)
      refine PySem.W.kso_call (by have := ro1.un; show X.A.units + 1 + 1 < _; omega) Iv.kIn J me1.at_ me1.fn ?_
      refine thn (call_str (Q := Q) F1 bi1 (Room.in1 (Room.in1 ro1)) h r1 Iv Iv.env0.in1.in1 rfl rfl e1 fun I' H' h' => k I' H' _ (h'.push .str)) fun w' s' ⟨tk, e2, q⟩ => ?_
      subst e2
      exact q
    · exact hφ B I H ρ σ ts vs _ xs d Q h rr e k
  · exact hφ B I H ρ σ ts vs _ xs d Q h rr e k
theorem snd_ownRepr {φ : List D → Option D} (hφ : SndC g X (.builtin "repr") φ) (hl : MOk g X c "__repr__" 1 false l) : SndC g X (.builtin "repr") (ownS c l φ) := by
  obtain ⟨C, f1, fd1, ps1, k1, hC, cl1, me1, bi1, ro1, F1, hp1⟩ := hl.ex
  intro B I H ρ σ ts vs ds xs d Q h rr e k
  unfold ownS at e
  split at e
  · rename_i c' ys
    split at e
    · rename_i hc
      subst hc
      obtain ⟨t, o, e1, rfl⟩ := matS e
      obtain ⟨x, rfl, r1⟩ := rr.ones
      obtain ⟨C', a, dx, us, rfl, _, hC', hI, ri⟩ := r1.ins_i
      rw [hC] at hC'
      cases hC'
      intro pins s σ' us Iv rx
      obtain ⟨u, rfl, ru⟩ : ∃ u, us = [u] ∧ RelV (.ref a) u := by
        cases rx with
        | cons p q => cases q; exact ⟨_, rfl, p⟩
      obtain rfl : u = Value.ref a := ru
      obtain ⟨od, J⟩ := inst_at Iv (h.same _ _ hI)
      refine repr_ownK (by have := ro1.un; show X.A.units + 1 < _; omega) Iv.kIn J me1.at_ me1.fn ?_
      refine thn (call_str (Q := Q) F1 bi1 (Room.in1 (ro1.mono (by omega))) h r1 Iv Iv.env0.in1 rfl rfl e1 fun I' H' h' => k I' H' _ (h'.push .str)) fun w' s' ⟨tk, e2, q⟩ => ⟨t, tk, e2, by subst e2; exact q⟩
    · exact hφ B I H ρ σ ts vs _ xs d Q h rr e k
  · exact hφ B I H ρ σ ts vs _ xs d Q h rr e k
end
end DV

set_option Elab.async false
set_option maxRecDepth 100000
set_option maxHeartbeats 4000000
set_option linter.all false
/-! DV19: calls with keywords (all that is wanted is given, in the parameters' order). -/
namespace DV
open PySem L2 PySem.Spec PyProof.Rows

/-- n values and keywords ks, in the parameters' order -/
structure KwB (K : PySem.W.Frag) (fd : FuncData) (ps : List Str) (n : Nat) (ks : List Str) : Prop where
  to : ∀ (s : Shared) (us ws : List Value), K.In s.heap → us.length = n → ws.length = ks.length → BindsTo s fd ⟨us, ks.zip ws⟩ (ps.zip (us ++ ws))
structure mxK (X : Cx) (kws : List Keyword) (σ : L2.St) (H : Hp) (Q : List V → Hp → Prop) : Prop where
  run : ∀ (pos : Pos) (pins : List (Addr × Obj)) (s : Shared), Inv X pins σ H s → wpAny (model X.prog X.w) X.A (evalAll ((backToKw pos (keywordEach kws X.env)).map (·.2))) (AP X pins σ Q) X.xe s
theorem pk_mx {X : Cx} {kws : List Keyword} : PK X kws (mxK X kws) := ⟨fun pos pins s _ _ _ I h => h.run pos pins s I⟩
theorem mxK_of {X : Cx} {kws : List Keyword} {t : TA} (h : PK X kws t) {σ : L2.St} {H : Hp} {Q : List V → Hp → Prop} (k : t σ H Q) : mxK X kws σ H Q := ⟨fun pos pins s I => h.run pos pins s σ H Q I k⟩
def SndK (g : G) (X : Cx) (kws : List Keyword) (f : Dens) : Prop :=
  ∀ (B : Bs) (I H : Hp) (ρ : List D) (σ : L2.St) (ts : List D) (vs : List V) (ds : List D) (ρ' : List D) (Q : List V → Hp → Prop), StP g B I H ρ σ ts vs → f ρ = some (ds, ρ') →
    (∀ I' H' ws, StP g B I' H' ρ' σ (ts ++ ds) (vs ++ ws) → ds.length = ws.length → ws.length = kws.length → Q ws H') → mxK X kws σ H Q
def rBoth (r q : Dens) : Dens := fun ρ => match r ρ with
  | some (ds, ρ1) => match q ρ1 with
    | some (es, ρ2) => some (ds ++ es, ρ2)
    | none => none
  | none => none
/-- the form of keywords: names ks -/
structure KwF (env : Env) (pos : Pos) (kws : List Keyword) (ks : List Str) : Prop where
  all : (backToKw pos (keywordEach kws env)).all (·.1.isSome) = true
  names : (backToKw pos (keywordEach kws env)).filterMap (·.1) = ks
  no : (backToKw pos (keywordEach kws env)).any (·.1.isNone) = false
  len : kws.length = ks.length
def MFormK (env : Env) (o : Expr) (m : Str) (apos pos : Pos) (args : List Expr) (kws : List Keyword) : Prop := ∃ pl : Sem Bool, eval (.Call (.Attribute o m apos) args kws pos) env = (do
      let ov ← eval o env
      standAt apos.atName
      let (f, first) ← holding [ov] (getMethod ov m pl)
      callWith pos f first (backTo pos (starEach args env)) (backToKw pos (keywordEach kws env)))

section
variable {g : G} {X : Cx} {B : Bs} {I I' H H' : Hp} {ρ : List D} {σ : L2.St} {ts ds xs : List D} {vs ws us : List V} {d o : D} {v : V} {c j n k i : Nat} {fn : Fn} {e a : Expr} {es : List Expr} {fe : Den} {r rk : Dens} {m f x : Str} {pos apos p kpos : Pos} {kws : List Keyword} {ks : List Str} {gd : Bool} {nm : Option Str}
theorem snd_knil : SndK g X [] dNil := by
  intro B I H ρ σ ts vs ds ρ' Q h q k
  cases q
  exact mxK_of pk_nil (k I H [] (by simpa using h) rfl rfl)
theorem snd_kcons (he : SndE g X e fe) (hr : SndK g X kws r) : SndK g X (⟨nm, e, kpos⟩ :: kws) (dCons fe r) := by
  intro B I H ρ σ ts vs ds ρ' Q h q k
  unfold dCons at q
  cases q1 : fe ρ with
  | none => rw [q1] at q; cases q
  | some a =>
    obtain ⟨d, ρ1⟩ := a
    rw [q1] at q
    dsimp only at q
    cases q2 : r ρ1 with
    | none => rw [q2] at q; cases q
    | some a =>
      obtain ⟨dr, ρ2⟩ := a
      rw [q2] at q
      cases q
      refine mxK_of (pk_cons pe_mx pk_mx) ?_
      refine he B I H ρ σ ts vs d ρ1 _ h q1 fun I1 H1 v h1 => ?_
      refine hr B I1 H1 ρ1 σ _ _ dr _ _ h1 q2 fun I2 H2 ws h2 hl hn => ?_
      exact k I2 H2 (v :: ws) (by simpa using h2) (by simp [hl]) (by simp [hn])
/-- arguments, then keywords -/
def argK (X : Cx) (es : List Expr) (kws : List Keyword) (σ : L2.St) (H : Hp) (R : List V → List V → Hp → Prop) : Prop := match es with
  | [] => mxK X kws σ H (R [])
  | e :: es => mxA X (e :: es) σ H fun vs H1 => mxK X kws σ H1 (R vs)
theorem cw_mx {f : Value} {first : List Value} {pins : List (Addr × Obj)} {s : Shared} {Q : VK} (hk : PySem.W.keepIn X.K f = true) (hs : noStars es = true) (F : KwF X.env pos kws ks) (I : Inv X pins σ H s)
    (h : argK X es kws σ H fun vs zs H2 => ∀ (us ws : List Value) (s2 : Shared), Inv X pins σ H2 s2 → Vals vs us → Vals zs ws → wpAny (model X.prog X.w) X.A (call f (first ++ us) (ks.zip ws)) (EP X pins σ Q) X.xe s2) :
    wpAny (model X.prog X.w) X.A (callWith pos f first (backTo pos (starEach es X.env)) (backToKw pos (keywordEach kws X.env))) (EP X pins σ Q) X.xe s := by
  cases es with
  | nil =>
    refine PySem.W.callWith_KW0 (h₀ := X.base) I.ok.mod.kin hk F.all ?_ (by rw [F.no]; rfl)
    refine thn ((show mxK X kws σ H _ from h).run pos pins s I) fun ws s2 ⟨zs, H2, I2, rz, q2⟩ => ⟨I2.kIn, ?_⟩
    rw [F.names]
    exact q2 [] ws s2 I2 .nil rz
  | cons e es =>
    have hs' : noStar e = true ∧ noStars es = true := by simpa [noStars] using hs
    refine PySem.W.callWith_KW (h₀ := X.base) I.ok.mod.kin hk F.all (thn ((show mxA X (e :: es) σ H _ from h).run pos pins s I) fun us s1 ⟨vs, H1, I1, r, q⟩ => ?_) (by rw [stars_any hs, F.no]; rfl) (starOk (noStar_ne hs'.1))
    refine thn (q.run pos pins s1 I1) fun ws s2 ⟨zs, H2, I2, rz, q2⟩ => ⟨I2.kIn, ?_⟩
    rw [F.names]
    exact q2 us ws s2 I2 r rz
def SndA (g : G) (X : Cx) (es : List Expr) (kws : List Keyword) (f : Dens) : Prop :=
  ∀ (B : Bs) (I H : Hp) (ρ : List D) (σ : L2.St) (ts : List D) (vs : List V) (ds : List D) (ρ' : List D) (R : List V → List V → Hp → Prop), StP g B I H ρ σ ts vs → f ρ = some (ds, ρ') →
    (∀ I' H' ws zs, StP g B I' H' ρ' σ (ts ++ ds) (vs ++ (ws ++ zs)) → ds.length = (ws ++ zs).length → ws.length = es.length → zs.length = kws.length → R ws zs H') → argK X es kws σ H R
theorem snd_a0 (hk : SndK g X kws rk) : SndA g X [] kws rk := by
  intro B I H ρ σ ts vs ds ρ' R h q k
  exact hk B I H ρ σ ts vs ds ρ' _ h q fun I' H' ws h' hl hn => k I' H' [] ws h' hl rfl hn
theorem snd_a1 (hr : SndL g X (e :: es) r) (hk : SndK g X kws rk) : SndA g X (e :: es) kws (rBoth r rk) := by
  intro B I H ρ σ ts vs ds ρ' R h q k
  unfold rBoth at q
  cases q1 : r ρ with
  | none => rw [q1] at q; cases q
  | some a =>
    obtain ⟨d1, ρ1⟩ := a
    rw [q1] at q
    dsimp only at q
    cases q2 : rk ρ1 with
    | none => rw [q2] at q; cases q
    | some a =>
      obtain ⟨d2, ρ2⟩ := a
      rw [q2] at q
      cases q
      refine hr B I H ρ σ ts vs d1 ρ1 _ h q1 fun I1 H1 ws h1 hl1 hn1 => ?_
      refine hk B I1 H1 ρ1 σ _ _ d2 _ _ h1 q2 fun I2 H2 zs h2 hl2 hn2 => ?_
      exact k I2 H2 ws zs (by simpa using h2) (by simp [hl1, hl2]) hn1 hn2

/-! ### the callees -/
structure CallKOk (X : Cx) (x : Str) (gd : Bool) (n : Nat) (ks : List Str) (sp : Sp) : Prop where
  ex : ∃ (f : Addr) (fd : FuncData) (ps : List Str) (k : Nat), X.mg x = some (.ref f) ∧ PySem.W.keepIn X.K (.ref f) = true ∧ KwB X.K fd ps n ks ∧ Room k X.A ∧ (gd = true → X.A.guards = some []) ∧ FnD X.prog X.w X.K X.mg X.base gd k f fd ps sp
structure MKOk (g : G) (X : Cx) (c : Nat) (name : Str) (n : Nat) (ks : List Str) (fn : Fn) : Prop where
  ex : ∃ (C f : Addr) (fd : FuncData) (ps : List Str) (k : Nat), g.cls c = some C ∧ Cls X.K C ∧ Meth X.K C name f ∧ KwB X.K fd ps (n + 1) ks ∧ Room (k + 2) X.A ∧
    FnD X.prog X.w X.K X.mg X.base false k f fd ps (spD g false (n + 1 + ks.length) fn)
  no : name ∉ g.flds c
structure CMKOk (g : G) (X : Cx) (c : Nat) (name : Str) (n : Nat) (ks : List Str) (fn : Fn) : Prop where
  ex : ∃ (C p f : Addr) (mc : Value) (fd : FuncData) (ps : List Str) (k : Nat), g.cls c = some C ∧ ClX.CRead X.K C mc ∧ ClX.CMet X.K C mc name p f ∧ KwB X.K fd ps (n + 1) ks ∧ Room (k + 2) X.A ∧
    FnD X.prog X.w X.K X.mg X.base false k f fd ps (spD g false (n + 1 + ks.length) fn)
structure MkKOk (g : G) (X : Cx) (c : Nat) (x : Str) (n : Nat) (ks : List Str) (fn : Fn) : Prop where
  ex : ∃ (C f : Addr) (fd : FuncData) (ps : List Str) (k : Nat), g.cls c = some C ∧ X.mg x = some (.ref C) ∧ Mk X.K C f ∧ KwB X.K fd ps (n + 1) ks ∧ Room (k + 2) X.A ∧
    FnD X.prog X.w X.K X.mg X.base false k f fd ps (spD g true (n + 1 + ks.length) fn)

theorem run_atK {A' : Around} {pins : List (Addr × Obj)} {s : Shared} {us wsv : List Value} {vs zs : List V} {Q : VK} {E' : Value → Shared → Prop} {f : Addr} {fd : FuncData} {ps : List Str} {sp : Sp} (F : FnD X.prog X.w X.K X.mg X.base gd k f fd ps sp) (hr : Room k A') (hgd : gd = true → A'.guards = some [])
    (e0 : Env0 X.prog X.w X.K X.mg X.base A' X.stack s H) (hb : KwB X.K fd ps n ks) (I : Inv X pins σ H s) (r : Vals vs us) (rz : Vals zs wsv) (l1 : vs.length = n) (l2 : zs.length = ks.length) (h : sp (vs ++ zs) H Q E0) :
    wpAny (model X.prog X.w) A' (call (.ref f) us (ks.zip wsv)) (EP X pins σ Q) E' s := by
  refine wpAny_call (codeAny_mono (F.run A' X.stack s H ⟨us, ks.zip wsv⟩ (us ++ wsv) (vs ++ zs) Q E0 hr hgd e0 (hb.to s us wsv I.kIn (r.length.symm.trans l1) (rz.length.symm.trans l2)) (r.append rz) h) fun r s' hq => ?_)
  cases r with
  | error e => exact hq.elim
  | ok fl =>
    cases fl with
    | ret u => exact I.after hq
    | next => exact False.elim hq
    | brk => exact False.elim hq
    | cont => exact False.elim hq
theorem snd_callKw (C : CallKOk X x gd n ks (spD g false (n + ks.length) fn)) (hg : Gl X x) (hd : (x == ("__debug__" : Str)) = false) (hs : noStars es = true) (hn : es.length = n) (F : KwF X.env pos kws ks) (hr : SndA g X es kws r) :
    SndE g X (.Call (.Name x p) es kws pos) (dCallP fn r) := by
  intro B I H ρ σ ts vs d ρ' Q h q k
  refine ⟨fun pins s Iv => ?_⟩
  obtain ⟨f, fd, ps, kk, hm, hk, hb, ro, hgd, Fn⟩ := C.ex
  unfold dCallP at q
  cases q1 : r ρ with
  | none => rw [q1] at q; cases q
  | some z =>
    obtain ⟨ds, ρ1⟩ := z
    rw [q1] at q
    dsimp only at q
    cases q2 : fn (ds.map fz) with
    | none => rw [q2] at q; cases q
    | some z =>
      obtain ⟨d0, o⟩ := z
      rw [q2] at q; cases q
      refine wpAny_Call_Name_kw (ld_glob Iv hg hm ?_ hd)
      refine cw_mx (first := []) hk hs F Iv (hr B I H ρ σ ts vs ds _ _ h q1 fun I1 H1 ws zs h1 hl hw hz => ?_)
      intro us wsv s2 I2 rv rz
      exact run_atK (A' := X.A) (E' := X.xe) Fn ro hgd I2.env0 hb I2 rv rz (hw.trans hn) (hz.trans F.len) (h1.callP hl q2 (by rw [List.length_append, hw, hz, hn, F.len]) k)
theorem snd_methKw (M : MKOk g X c m n ks fn) (hs : noStars es = true) (hn : es.length = n) (F : KwF X.env pos kws ks) (ht : MFormK X.env a m apos pos es kws) (ha : SndE g X a fe) (hr : SndA g X es kws r) :
    SndE g X (.Call (.Attribute a m apos) es kws pos) (dMeth c fn fe r) := by
  intro B I H ρ σ ts vs d ρ' Q h q k
  refine ⟨fun pins s Iv => ?_⟩
  obtain ⟨C, fa, fd, ps, kk, hC, cl, me, hb, ro, Fn⟩ := M.ex
  obtain ⟨pl, ht⟩ := ht
  unfold dMeth at q
  cases q1 : fe ρ with
  | none => rw [q1] at q; cases q
  | some z =>
    obtain ⟨da, ρ1⟩ := z
    rw [q1] at q
    dsimp only at q
    split at q
    · rename_i c' xs ed
      split at q
      · rename_i hc
        subst hc
        cases q2 : r ρ1 with
        | none => rw [q2] at q; cases q
        | some z =>
          obtain ⟨ds, ρ2⟩ := z
          rw [q2] at q
          dsimp only at q
          cases q3 : fn (.ins c' xs :: ds.map fz) with
          | none => rw [q3] at q; cases q
          | some z =>
            obtain ⟨d', o⟩ := z
            rw [q3] at q; cases q
            refine PySem.W.methodCall_KW (pl := pl) (thn ((ha B I H ρ σ ts vs da ρ1 (fun x H1 => ∃ I2, StP g B I2 H1 ρ1 σ (ts ++ [.ins c' xs]) (vs ++ [x]) ∧ Rep g I2 H1 (.ins c' xs) x []) h q1 fun I1 H1 y h1 => ?_).run pins s Iv) fun u s1 ⟨x, H1, Iv1, rx, I2, h2, r1⟩ => ?_) ht
            · obtain ⟨I2, _, h2, rr⟩ := h1.fzTop (ds := [da]) (ws := [y]) rfl
              rw [List.map_cons, List.map_nil, ed] at rr h2
              obtain ⟨w, ew, r1⟩ := rr.one_inv
              cases ew
              exact ⟨I2, h2, r1⟩
            · obtain ⟨C', a', dx, us, rfl, _, hC', hI, ri⟩ := r1.ins_i
              rw [hC] at hC'
              cases hC'
              obtain rfl : u = Value.ref a' := rx
              refine getmeth_ok Iv1 (h2.same _ _ hI) cl me (zip_no M.no) ?_
              refine cw_mx (first := [.ref a']) me.kp hs F Iv1 (hr B I2 H1 ρ1 σ _ _ ds _ _ h2 q2 fun I3 H3 ws zs h3 hl hw hz => ?_)
              intro us wsv s2 Iv2 rv rz
              refine run_atK (A' := X.A) (E' := X.xe) (vs := .ref a' :: ws) (us := .ref a' :: us) Fn (ro.mono (by omega)) (fun z => nomatch z) Iv2.env0 hb Iv2 (.cons rfl rv) rz (by rw [List.length_cons, hw, hn]) (hz.trans F.len) ?_
              refine StP.callP (ds := .ins c' xs :: ds) (ws := .ref a' :: (ws ++ zs)) (by simpa using h3) (by simpa using hl) q3 ?_ k
              rw [List.length_cons, List.length_append, hw, hz, hn, F.len]
              omega
      · cases q
    · cases q
theorem snd_cmethKw0 (M : CMKOk g X c m 0 ks fn) (hg : Gl X x) (hm : ∀ C, g.cls c = some C → X.mg x = some (.ref C)) (hd : (x == ("__debug__" : Str)) = false) (F : KwF X.env pos kws ks) (ht : MFormK X.env (.Name x p) m apos pos [] kws) (hr : SndK g X kws r) :
    SndE g X (.Call (.Attribute (.Name x p) m apos) [] kws pos) (dCMeth c fn r) := by
  intro B I H ρ σ ts vs d ρ' Q h q k
  refine ⟨fun pins s Iv => ?_⟩
  obtain ⟨C, pp, fa, mc, fd, ps, kk, hC, cr, cm, hb, ro, Fn⟩ := M.ex
  obtain ⟨pl, ht⟩ := ht
  unfold dCMeth at q
  cases q2 : r ρ with
  | none => rw [q2] at q; cases q
  | some z =>
    obtain ⟨ds, ρ2⟩ := z
    rw [q2] at q
    dsimp only at q
    cases q3 : fn (.cls c :: ds.map fz) with
    | none => rw [q3] at q; cases q
    | some z =>
      obtain ⟨d', o⟩ := z
      rw [q3] at q; cases q
      refine PySem.W.methodCall_KW (pl := pl) (thn ((pe_glob (pos := p) (v := .ref C) hg (hm C hC) rfl hd).run pins s σ H (fun x H1 => x = .ref C ∧ H1 = H) Iv ⟨rfl, rfl⟩) fun u s1 ⟨x, H1, Iv1, rx, ex, eH⟩ => ?_) ht
      subst ex eH
      obtain rfl : u = Value.ref C := rx
      refine ClX.getmethcm_ok Iv1 cr cm fun s2 I2 => ?_
      refine PySem.W.callWith_of (P := PySem.W.MethP X.K s1.heap.objs.size fa (.ref C)) (by rw [F.no]; rfl) (PySem.W.keeps_M cm.fi) (PyProof.Rows.evalArgs_kw2_nil F.all ?_)
      refine thn ((hr B I _ ρ σ _ _ ds _ (fun zs H2 => zs.length = ks.length ∧ spD g false (0 + 1 + ks.length) fn (.ref C :: zs) H2 Q E0) (h.push (.cls hC)) q2 fun I3 H3 ws h3 hl hw => ?_).run pos _ s2 I2) fun ws s3 ⟨zs, H2, I3, rz, lz, q5⟩ => ?_
      · refine ⟨hw.trans F.len, StP.callP (ds := .cls c :: ds) (ws := .ref C :: ws) (by simpa using h3) (by simp [hl]) q3 ?_ k⟩
        rw [List.length_cons, hw, F.len]
        omega
      · refine ⟨⟨ClX.pin_at I3, I3.kIn⟩, ?_⟩
        rw [F.names]
        refine thn (Q := EP X ((s1.heap.objs.size, PySem.W.methodObj (.ref fa) (.ref C)) :: pins) σ Q) (wpAny_call (PySem.W.method_call (ClX.pin_at I3) ?_)) fun _ _ y => ClX.unpinE y
        refine codeAny_mono (Fn.run X.A X.stack s3 H2 ⟨[.ref C], ks.zip ws⟩ ([.ref C] ++ ws) ([.ref C] ++ zs) Q E0 (ro.mono (by omega)) (fun z => nomatch z) I3.env0 (hb.to s3 [.ref C] ws I3.kIn rfl (rz.length.symm.trans lz)) (.cons rfl rz) q5) fun r s' hq => ?_
        cases r with
        | error e => exact hq.elim
        | ok fl =>
          cases fl with
          | ret u => exact I3.after hq
          | next => exact False.elim hq
          | brk => exact False.elim hq
          | cont => exact False.elim hq
theorem snd_makeKw (M : MkKOk g X c x n ks fn) (hg : Gl X x) (hd : (x == ("__debug__" : Str)) = false) (hs : noStars es = true) (hn : es.length = n) (F : KwF X.env pos kws ks) (hr : SndA g X es kws r) :
    SndE g X (.Call (.Name x p) es kws pos) (dMake c [] fn r) := by
  intro B I H ρ σ ts vs d ρ' Q h q k
  refine ⟨fun pins s Iv => ?_⟩
  obtain ⟨C, fa, fd, ps, kk, hC, hm, mk, hb, ro, Fn⟩ := M.ex
  unfold dMake at q
  cases q2 : r ρ with
  | none => rw [q2] at q; cases q
  | some z =>
    obtain ⟨ds, ρ2⟩ := z
    rw [q2] at q
    dsimp only at q
    split at q
    · rename_i o q3
      cases q
      refine wpAny_Call_Name_kw (ld_glob Iv hg hm ?_ hd)
      refine cw_mx (first := []) mk.kp hs F Iv (hr B I H ρ σ ts vs ds _ _ h q2 fun I1 H1 ws zs h1 hl hw hz => ?_)
      intro us wsv s2 I2 rv rz
      have kb : KBn X.K fd ps (n + 1) ks (fun us ws => us ++ ws) (fun vs zs => vs ++ zs) := ⟨fun s us ws X l1 l2 => hb.to s us ws X l1 l2, fun r rz => r.append rz⟩
      refine run_makeK (E := E0) (CX := CX0) (k := kk) mk Fn.ok (ro.mono (by omega)) kb pass0 I2 rv rz (hw.trans hn) (hz.trans F.len) fun y dx ny ndx ne => ?_
      have rd : ∀ I H, Reps g I H [] [] [] := fun _ _ => .nil
      have e := StP.callM (n := n + 1 + ks.length) h1 hl hC q3 rd (by rw [List.append_nil, List.length_append, hw, hz, hn, F.len]; omega) k ny ndx ne
      rw [List.append_nil] at e
      exact e
    · cases q
end
end DV

set_option Elab.async false
set_option maxRecDepth 100000
set_option maxHeartbeats 4000000
set_option linter.all false
/-! DV20: facts of the text: classes, defs; the head. -/
namespace DV
open PySem L2 PySem.Spec PyProof.Rows

/-- what the written part says of a class -/
structure ClsK (K : PySem.W.Frag) (C : Addr) : Prop where
  pg : PySem.W.plainGet K C Str.empty = true
  hd : PySem.W.hasDictIn K C = true
  po : PySem.W.plainOver K C = true
  sa : PySem.W.findIn K (.ref C) "__setattr__" = some (some (.builtin "object.__setattr__"))
  ha : PySem.W.findIn K (.ref C) "__class__" = some (some (.builtin "object.__class__"))
  hn : PySem.W.specialIn K (.builtin "object.__class__") "__get__" = some (some (.builtin "getset_descriptor.__get__"))
  tk : PySem.W.takesIn K (.builtin "object.__class__") = some true
  ob : PySem.W.mroIn K C (.type "object") = some true
  ic : PySem.W.isClsIn K C = true
  ty : PySem.W.typeIn K (.ref C) = some (.type "type")
  sf : PySem.W.selfFirst K C = true
  ne : PySem.W.findIn K (.ref C) "__ne__" = some (some (.builtin "object.__ne__"))
  u0 : PySem.W.mroIn K C (.type "NoneType") = some false
  u1 : PySem.W.mroIn K C (.type "bool") = some false
  u2 : PySem.W.mroIn K C (.type "int") = some false
  u3 : PySem.W.mroIn K C (.type "str") = some false
  u4 : PySem.W.mroIn K C (.type "list") = some false
  u5 : PySem.W.mroIn K C (.type "tuple") = some false
  u6 : PySem.W.mroIn K C (.type "dict") = some false
theorem ClsK.cl {K : PySem.W.Frag} {C : Addr} (c : ClsK K C) : Cls K C := ⟨c.pg, c.hd, c.po, c.sa⟩
theorem sub_ty {K : PySem.W.Frag} {C : Addr} : ∀ T ∈ kinds, PySem.W.subIn K (.type T) (.ref C) = some false := by
  intro T hT
  have go : ∀ T ∈ kinds, (fastBuiltinMro T).isSome = true ∧ ((fastBuiltinMro T).getD []).all (fun v => match v with | .type _ => true | _ => false) = true := by decide +kernel
  obtain ⟨h1, h2⟩ := go T hT
  cases q : fastBuiltinMro T with
  | none => rw [q] at h1; cases h1
  | some l =>
    rw [q] at h2
    show (fastBuiltinMro T).map (·.contains (.ref C)) = some false
    rw [q, Option.map_some]
    have : l.contains (.ref C) = false := by
      rw [← Bool.not_eq_true, List.contains_iff_mem]
      intro hm
      have := List.all_eq_true.mp h2 _ hm
      cases this
    rw [this]
theorem ClsK.un {K : PySem.W.Frag} {C : Addr} (c : ClsK K C) : ∀ T ∈ kinds, PySem.W.mroIn K C (.type T) = some false := by
  intro T hT
  simp only [kinds, List.mem_cons, List.not_mem_nil, or_false] at hT
  rcases hT with rfl | rfl | rfl | rfl | rfl | rfl | rfl
  · exact c.u0
  · exact c.u1
  · exact c.u2
  · exact c.u3
  · exact c.u4
  · exact c.u5
  · exact c.u6
theorem kinds_meta : ∀ T ∈ kinds, PySem.W.kitMeta T = true := by decide +kernel
theorem ClsK.facts {g : G} {c : Nat} {C : Addr} (k : ClsK g.K C) : ClsFacts g c C where
  cl := k.cl
  ha := k.ha
  hn := k.hn
  htk := k.tk
  hm := k.ob
  bt := fun n hn => by
    unfold PySem.W.kitOne PySem.W.kitCls
    rw [if_neg (by simp)]
    dsimp only
    rw [if_pos (by
      have h1 : (PySem.W.clsIn g.K C).isSome = true := k.ic
      rw [h1, k.ty]
      rfl)]
    exact sub_ty n hn
  tb := fun n hn => by
    unfold PySem.W.kitOne PySem.W.kitCls
    rw [if_neg (by simp)]
    dsimp only
    rw [if_pos (kinds_meta n hn)]
    exact k.un n hn
theorem ClsK.op {g : G} {X : Cx} {c : Nat} {C : Addr} (k : ClsK X.K C) (hc : g.cls c = some C) : OpCls g X c :=
  ⟨C, hc, k.sf, k.u2, k.ob, k.ne, fun T hT => sub_ty T hT⟩

section
variable {g : G} {X : Cx} {x : Str} {pos : Pos}
theorem snd_ty {n : String} (hg : Gl X x) (hm : X.mg x = none) (hv : bootBuiltins x = some (.type n)) (hn : x ≠ "__name__") (hd : (x == ("__debug__" : Str)) = false) : SndE g X (.Name x pos) (dCst (.ty n)) := by
  intro B I H ρ σ ts vs d ρ' Q h q k
  cases q
  exact mx_of (pe_bltn (v := .ty n) hg hm hv rfl hn hd) (k I H _ (h.push .ty))
end

/-- THE HEAD, for a def that is shown where nothing else is being shown -/
theorem head_call {P : Program} {w : World} {K : PySem.W.Frag} {mg mb : Str → Option Value} {k : Nat} {fa a : Addr} {fd : FuncData} {x : Str} {sp : Sp} {s₁ : Shared} {vs : List Value} {ns : List Int}
    (KX : K.In s₁.heap) (hns : s₁.heap.Ns mainGlobals mg) (hb : s₁.heap.Ns builtinsNs mb) (hbb : ∀ x : Str, x ≠ "__name__" → mb x = bootBuiltins x) (hlim : s₁.heap.NoLimit) (hg : s₁.gens = #[])
    (ha : s₁.heap.get? a = some { cls := .type "list", data := .seq vs.toArray }) (hi : IntsAre vs ns) (hl : ns.length ≤ sizeLine) (hr : Room k callerA)
    (F : ∀ base : Heap, K.In base → base.Ns mainGlobals mg → FnD P w K mg base true k fa fd [x] sp) (hbind : ∀ (s : Shared) (u : Value), BindsTo s fd ⟨[u], []⟩ [(x, u)])
    (hsp : ∀ H : Hp, Only H → SqL K H a (ns.map V.int) → sp [.ref a] H (fun v _ => v = .bl true) E0) :
    codeAny (model P w) callerA (.call (.ref fa) ⟨[.ref a], []⟩) (fun r s' => r = .ok (.ret (.bool true)) ∧ OldK s₁.heap s'.heap ∧ s'.os = s₁.os ∧ AllBare s'.gens) s₁ := by
  have rv := vals_ints hi
  have vl := hi.length
  -- over a heap that knows of nothing, but (it may be) of the script
  have go : ∀ H : Hp, Only H → SqL K H a (ns.map V.int) → HOk P w H s₁.heap → (∀ b, b ≠ a → H b = none) → (H a ≠ none → K.lookup a = none) →
      codeAny (model P w) callerA (.call (.ref fa) ⟨[.ref a], []⟩) (fun r s' => r = .ok (.ret (.bool true)) ∧ OldK s₁.heap s'.heap ∧ s'.os = s₁.os ∧ AllBare s'.gens) s₁ := by
    intro H only sq ok off offK
    have kept : ∀ {b : Addr} {o : Obj}, s₁.heap.get? b = some o → H b = none → (hidT s₁.heap H).get? b = some o := fun e n => hidT_get e n
    have dictOff : ∀ {b : Addr} {o : Obj} {es : Array DictEntry} {ep : Nat}, s₁.heap.get? b = some o → o.data = .dict es ep → H b = none := fun {b o es ep} e d => by
      by_cases q : b = a
      · rw [q, ha] at e
        cases e
        cases (show Data.seq vs.toArray _ = Data.dict es ep from d)
      · exact off b q
    have names : ∀ {b : Addr} {m : Str → Option Value}, s₁.heap.Ns b m → (hidT s₁.heap H).Ns b m := fun {b m} z => by
      obtain ⟨o, es, ep, e, d, r⟩ := z
      exact ⟨o, es, ep, kept e (dictOff e d), d, r⟩
    have part : K.In (hidT s₁.heap H) := fun b o e => kept (KX b o e) (by
      by_cases q : b = a
      · cases z : H b with
        | none => rfl
        | some u =>
          subst q
          rw [offK (by rw [z]; simp)] at e
          cases e
      · exact off b q)
    have lim : (hidT s₁.heap H).NoLimit := by
      obtain ⟨mc, z1, z2⟩ := hlim
      exact ⟨mc, names z1, z2⟩
    have e0 : Env0 P w K mg (hidT s₁.heap H) callerA [] s₁ H := ⟨rfl, ⟨part, names hns, ⟨mb, names hb, hbb⟩, lim⟩, fun b o e => of_hidT e, Nat.le_of_eq (hidT_size _ _), trivial, fun b hb => (nomatch (show b ∈ ([] : List Addr) from hb)), ok, .of_eq hg⟩
    refine codeAny_mono ((F _ part (names hns)).run callerA [] s₁ H ⟨[.ref a], []⟩ [.ref a] [.ref a] _ E0 hr (fun _ => rfl) e0 (hbind s₁ (.ref a)) (.cons rfl .nil) (hsp H only sq)) fun r s' h => ?_
    match r, h with
    | .error e, h => exact h.elim
    | .ok .next, h => exact False.elim h
    | .ok .brk, h => exact False.elim h
    | .ok .cont, h => exact False.elim h
    | .ok (.ret u), h =>
      obtain ⟨v, H', os, bare, un, ok', rel, q⟩ := h
      cases (show v = .bl true from q)
      cases (show u = Value.bool true from rel)
      refine ⟨rfl, OldK.of_keep fun b o e => ?_, os, bare⟩
      rcases only b with z | ⟨ob, xs, z⟩
      · exact un.keep b o e z (fun z => (nomatch (show b ∈ ([] : List Addr) from z))) (by simp)
      · obtain ⟨e1, _⟩ := ok b _ z
        obtain ⟨e2, _⟩ := ok' b _ (un.frzs b ob _ z)
        rw [e] at e1
        cases e1
        exact e2
  cases hk : K.lookup a with
  | some o =>
    have e := KX a o hk
    rw [ha] at e
    cases e
    exact go (fun _ => none) (fun _ => .inl rfl) (.inr ⟨_, vs.toArray, _, hk, rfl, rfl, rfl, by rw [List.size_toArray, vl]; exact hl, by simpa using rv⟩) (fun b u z => by cases (show (none : Option HO) = some u from z)) (fun _ _ => rfl) fun z => absurd rfl z
  | none =>
    refine go (fun b => if b = a then some (.frz { cls := .type "list", data := .seq vs.toArray } (.lst (ns.map V.int))) else none) (fun b => ?_) (.inl (.inr ⟨{ cls := .type "list", data := .seq vs.toArray }, if_pos rfl⟩)) (fun b u z => ?_) (fun b q => if_neg q) fun _ => hk
    · by_cases q : b = a
      · exact .inr ⟨_, _, if_pos q⟩
      · exact .inl (if_neg q)
    · by_cases q : b = a
      · have z' := (if_pos q).symm.trans z
        cases z'
        subst q
        exact ⟨ha, by rw [List.length_map]; exact hl, vs, _, rv, ha⟩
      · have z' := (if_neg q).symm.trans z
        cases z'

theorem reps_ints {g : G} {I H : Hp} : ∀ ns : List Int, Reps g I H (ns.map D.int) (ns.map V.int) []
  | [] => .nil
  | n :: ns => .cons (f1 := []) (f2 := []) .int (reps_ints ns)
/-- the goal that k_head leaves, from what the law's def does on deep values -/
theorem walk_D {l : PySem.W.OpenLaw} {n k : Nat} {q : Program} {loose : List Str} {XP : (Str → Option Value) → Heap → Prop} {YP : World → Heap → Prop} {d : DefRec} {K : Params → PySem.W.Frag} {x : Str} {sem : Fn}
    (hn : l.most = some n) (hn2 : n ≤ sizeLine) (hdf : d.params.defaults = []) (hr : Room k callerA) (hY : ∀ (w : World) (h : Heap), YP w h → (K w.params).In h)
    (F : ∀ (w : World) (mg : Str → Option Value) (fa : Addr) (h : Heap), (K w.params).In h → h.Ns mainGlobals mg → mg d.name = some (.ref fa) →
      ∃ (fd : FuncData) (g : G), g.K = K w.params ∧ (∀ (s : Shared) (u : Value), BindsTo s fd ⟨[u], []⟩ [(x, u)]) ∧
        ∀ base : Heap, (K w.params).In base → base.Ns mainGlobals mg → FnD l.prog w (K w.params) mg base true k fa fd [x] (spD g false 1 sem))
    (hsem : ∀ ns : List Int, ns.length ≤ n → ∃ o, sem [.con (ns.map D.int)] = some (.bl true, o)) :
    PySem.W.WalkO q loose XP YP l.row.toRowW d [] (fun f vs => PySem.call f vs) := by
  refine Att.attach_call hn hdf fun w s₀ s₁ mg mb fa o pm cd doc a vs ns Gr Y ho hd hcd hmg hobj hints hlen hg => ?_
  have KX := hY w _ Y
  obtain ⟨fd, g, hK, hb, hF⟩ := F w mg fa _ KX Gr.T.g hmg
  obtain ⟨o', e⟩ := hsem ns hlen
  refine head_call KX Gr.T.g Gr.T.b Gr.T.builtins Gr.T.nolimit hg hobj hints (Nat.le_trans hlen hn2) hr hF hb fun H only sq => ?_
  refine ⟨rfl, H, [.con (ns.map D.int)], [], .bl true, o', Same.refl _, Reps.one (.con (hK ▸ sq) (reps_ints ns)), List.nodup_nil, fun b hb => (by cases hb), e, fun I' H' v f1 f2 _ _ r _ _ _ _ _ _ _ => r.bl_i.1⟩
end DV

set_option Elab.async false
set_option maxRecDepth 100000
set_option maxHeartbeats 4000000
set_option linter.all false
/-! DV21: the rules again, each from what a body knows (Cok), with checks that are run. -/
namespace DV
open PySem L2 PySem.Spec PyProof.Rows

structure Cok (g : G) (N : List Str) (sc : Scope) (fc : Str → Bool) (X : Cx) : Prop where
  hK : X.K = g.K
  hN : X.N = N
  nd : N.Nodup
  hs : X.env.scope = sc
  calm : X.calm = true
  nx : X.xe = fun _ _ => False
  fn : ∀ x, fc x = true → X.fn x = true
  un : X.A.units + 64 < cLine
theorem Body.ctx {P : Program} {w : World} {K : PySem.W.Frag} {mg : Str → Option Value} {base : Heap} {N : List Str} {sc : Scope} {gd : Bool} {k : Nat} {X : Cx} {g : G} (b : Body P w K mg base N sc gd k X) (hK : K = g.K) (nd : N.Nodup) : Cok g N sc (fun _ => true) X :=
  ⟨b.K.trans hK, b.N, nd, b.sc, b.calm, b.nx, fun x _ => b.fn x, b.room.units⟩
/-- a block's scope: what is free in it and a cell around it is a cell -/
def rlS (scope sc : Scope) : Scope := { scope with names := scope.names.map fun (n, k) => if (k == .free && sc.kind == .function && sc.names.lookup n == some .cell) then (n, .cell) else (n, k) }
section
variable {g : G} {N : List Str} {sc scope : Scope} {fc : Str → Bool} {X : Cx} {s : Shared} {H : Hp} {C : Addr} {cl : List (Str × Addr)} {fp : List Addr} {x : Str} {gd : Bool} {n c0 : Nat} {sp : Sp} {fn : Fn} {ks : List Str} {dd : List D} {mu : Bool}
theorem Cok.blk (c : Cok g N sc fc X) : Cok g N (rlS scope sc) (fun x => scope.names.lookup x == some .cell) (Blk X scope s H C cl fp) :=
  ⟨c.hK, c.hN, c.nd, by rw [← c.hs]; rfl, c.calm, rfl, fun x h => h, c.un⟩
theorem CallOk.blk (k : CallOk X x gd n sp) : CallOk (Blk X scope s H C cl fp) x gd n sp := ⟨k.ex⟩
theorem CallKOk.blk (k : CallKOk X x gd n ks sp) : CallKOk (Blk X scope s H C cl fp) x gd n ks sp := ⟨k.ex⟩
theorem FldOk.blk {j : Nat} (k : FldOk g X c0 x j) : FldOk g (Blk X scope s H C cl fp) c0 x j := ⟨k.at_, k.nd, k.sz, k.cls⟩
theorem MOk.blk (k : MOk g X c0 x n mu fn) : MOk g (Blk X scope s H C cl fp) c0 x n mu fn := ⟨k.ex, k.no⟩
theorem MKOk.blk (k : MKOk g X c0 x n ks fn) : MKOk g (Blk X scope s H C cl fp) c0 x n ks fn := ⟨k.ex, k.no⟩
theorem POk.blk (k : POk g X c0 x fn) : POk g (Blk X scope s H C cl fp) c0 x fn := ⟨k.ex⟩
theorem CMOk.blk (k : CMOk g X c0 x n fn) : CMOk g (Blk X scope s H C cl fp) c0 x n fn := ⟨k.ex⟩
theorem CMKOk.blk (k : CMKOk g X c0 x n ks fn) : CMKOk g (Blk X scope s H C cl fp) c0 x n ks fn := ⟨k.ex⟩
theorem MkOk.blk (k : MkOk g X c0 x n dd fn) : MkOk g (Blk X scope s H C cl fp) c0 x n dd fn := ⟨k.ex⟩
theorem MkKOk.blk (k : MkKOk g X c0 x n ks fn) : MkKOk g (Blk X scope s H C cl fp) c0 x n ks fn := ⟨k.ex⟩
theorem OpCls.blk (k : OpCls g X c0) : OpCls g (Blk X scope s H C cl fp) c0 := ⟨k.ex⟩
end

/-! ### checks -/
def visB (sc : Scope) (x : Str) : Bool := match sc.names.lookup x with
  | some .local => true
  | some .cell => true
  | some .free => true
  | _ => false
def okV (N : List Str) (sc : Scope) (i : Nat) (x : Str) : Bool := decide (N[i]? = some x) && visB sc x && !(x == ("__debug__" : Str)) && !(x == ("__classdict__" : Str))
def okL (N : List Str) (sc : Scope) (fc : Str → Bool) (i : Nat) (x : Str) : Bool := decide (N[i]? = some x) && (match sc.names.lookup x with
  | some .local => true
  | some .cell => fc x
  | _ => false)
def okG (sc : Scope) (x : Str) : Bool := (match sc.names.lookup x with
  | some .globalImplicit => true
  | _ => false) && !(x == ("__debug__" : Str)) && !(x == ("__name__" : Str))
def okLL (N : List Str) (sc : Scope) (i : Nat) (x : Str) : Bool := decide (N[i]? = some x) && (match sc.names.lookup x with
  | some .local => true
  | _ => false)
section
variable {g : G} {N : List Str} {sc scope : Scope} {fc : Str → Bool} {X : Cx} {x y z m f : Str} {i j l n c0 : Nat} {p pos pos' apos lpos p2 px py pz pt kpos : Pos} {a b e tg iter elt c' : Expr} {es : List Expr} {fa fb fe fj : Den} {ft fu : DenT} {r rk : Dens} {fx gd : Bool} {fn : Fn} {dd : List D} {ks : List Str} {kws : List Keyword} {sl : List Nat} {fg : DenG} {fi : Dens} {body : List Stmt} {gb : DenS}
theorem visB_of (h : visB sc x = true) : Vis sc x := by
  unfold visB at h
  split at h
  · exact .inl (by assumption)
  · exact .inr (.inl (by assumption))
  · exact .inr (.inr (by assumption))
  · cases h
structure VarOk (X : Cx) (i : Nat) (x : Str) : Prop where
  N : X.N[i]? = some x
  v : Vis X.env.scope x
  d : (x == ("__debug__" : Str)) = false
  cd : (x == ("__classdict__" : Str)) = false
theorem Cok.vok (c : Cok g N sc fc X) (h : okV N sc i x = true) : VarOk X i x := by
  unfold okV at h
  simp only [Bool.and_eq_true, decide_eq_true_eq, Bool.not_eq_true'] at h
  exact ⟨by rw [c.hN]; exact h.1.1.1, by rw [c.hs]; exact visB_of h.1.1.2, h.1.2, h.2⟩
structure LocOk (X : Cx) (i : Nat) (x : Str) : Prop where
  N : X.N[i]? = some x
  l : L2.Loc X.env.scope x
  f : X.fn x = true ∨ X.env.scope.names.lookup x = some .local
theorem Cok.lok (c : Cok g N sc fc X) (h : okL N sc fc i x = true) : LocOk X i x := by
  unfold okL at h
  simp only [Bool.and_eq_true, decide_eq_true_eq] at h
  obtain ⟨h1, h2⟩ := h
  split at h2
  · rename_i e
    exact ⟨by rw [c.hN]; exact h1, by rw [c.hs]; exact .inl e, by rw [c.hs]; exact .inr e⟩
  · rename_i e
    exact ⟨by rw [c.hN]; exact h1, by rw [c.hs]; exact .inr e, .inl (c.fn x h2)⟩
  · cases h2
structure GlbOk (X : Cx) (x : Str) : Prop where
  g : Gl X x
  d : (x == ("__debug__" : Str)) = false
  n : x ≠ "__name__"
theorem Cok.gok (c : Cok g N sc fc X) (h : okG sc x = true) : GlbOk X x := by
  unfold okG at h
  simp only [Bool.and_eq_true, Bool.not_eq_true'] at h
  refine ⟨?_, h.1.2, fun z => by rw [z] at h; exact absurd h.2 (by simp)⟩
  show X.env.scope.names.lookup x = some .globalImplicit
  rw [c.hs]
  have h1 := h.1.1
  split at h1
  · assumption
  · cases h1
theorem Cok.llk (c : Cok g N sc fc X) (h : okLL N sc i x = true) : X.N[i]? = some x ∧ X.env.scope.names.lookup x = some .local := by
  unfold okLL at h
  simp only [Bool.and_eq_true, decide_eq_true_eq] at h
  refine ⟨by rw [c.hN]; exact h.1, ?_⟩
  rw [c.hs]
  have h1 := h.2
  split at h1
  · assumption
  · cases h1
theorem Cok.nodup (c : Cok g N sc fc X) : X.N.Nodup := by rw [c.hN]; exact c.nd

/-! ### expressions -/
theorem Cok.var (c : Cok g N sc fc X) (h : okV N sc i x = true) : SndE g X (.Name x p) (dVar i) := let v := c.vok h; snd_var v.N v.v v.d v.cd
theorem Cok.item (c : Cok g N sc fc X) (h : okV N sc i x = true) (hs : noSlice b = true) (hb : SndE g X b fj) : SndE g X (.Subscript (.Name x p) b pos) (dItem i fj) := let v := c.vok h; snd_item c.hK v.N v.v v.d v.cd hs hb
theorem Cok.ix (c : Cok g N sc fc X) (hs : noSlice b = true) (ha : SndE g X a fa) (hb : SndE g X b fb) : SndE g X (.Subscript a b pos) (dBin ixB fa fb) := snd_ix c.hK hs ha hb
theorem Cok.app (c : Cok g N sc fc X) (h : okV N sc i x = true) (hs : noStar e = true) (hl : (apos.endLine == pos.line) = true) (he : SndE g X e fe) : SndE g X (.Call (.Attribute (.Name x p) "append" apos) [e] [] pos) (dApp i fe) := let v := c.vok h; snd_app v.N v.v v.d v.cd hs hl he
theorem Cok.ext (c : Cok g N sc fc X) (h : okV N sc i x = true) (hs : noStar e = true) (hl : (apos.endLine == pos.line) = true) (he : SndE g X e fe) : SndE g X (.Call (.Attribute (.Name x p) "extend" apos) [e] [] pos) (dExt i fe) := let v := c.vok h; snd_ext v.N v.v v.d v.cd hs hl he
theorem Cok.gint (c : Cok g N sc fc X) (h : okG sc x = true) {k : Int} {t : Tok} (hm : X.mg x = some (.int k t)) : SndE g X (.Name x pos) (dCst (.int k)) := let v := c.gok h; snd_globI v.g hm v.d
theorem Cok.gcls (c : Cok g N sc fc X) (h : okG sc x = true) {C : Addr} (hm : X.mg x = some (.ref C)) (hc : g.cls c0 = some C) : SndE g X (.Name x pos) (dCst (.cls c0)) := let v := c.gok h; snd_globC v.g hm v.d hc
theorem Cok.ty (c : Cok g N sc fc X) (h : okG sc x = true) {t : String} (hm : X.mg x = none) (hv : bootBuiltins x = some (.type t)) : SndE g X (.Name x pos) (dCst (.ty t)) := let v := c.gok h; snd_ty v.g hm hv v.n v.d
theorem Cok.callP (c : Cok g N sc fc X) (C : CallOk X x gd n (spD g false n fn)) (h : okG sc x = true) (hs : noStars (e :: es) = true) (hn : (e :: es).length = n) (hr : SndL g X (e :: es) r) : SndE g X (.Call (.Name x p) (e :: es) [] pos) (dCallP fn r) := let v := c.gok h; snd_callP C v.g v.d hs hn hr
theorem Cok.callT (c : Cok g N sc fc X) (C : CallOk X x gd n (spD g true n fn)) (h : okG sc x = true) (hs : noStars (e :: es) = true) (hn : (e :: es).length = n) (he : SndE g X e fe) (hr : SndL g X es r) : SndE g X (.Call (.Name x p) (e :: es) [] pos) (dCallT fn fe r) := let v := c.gok h; snd_callT C v.g v.d hs hn he hr
theorem Cok.callR (c : Cok g N sc fc X) (C : CallOk X x gd n (spD g true n fn)) (h : okG sc x = true) (hs : noStars es = true) (hn : es.length + 1 = n) (hy : okV N sc i y = true) (hr : SndL g X es r) : SndE g X (.Call (.Name x p) (.Name y p2 :: es) [] pos) (dCallR fn i r) := let v := c.gok h; let w := c.vok hy; snd_callR C v.g v.d hs hn w.N w.v w.d w.cd hr
theorem Cok.callKw (c : Cok g N sc fc X) (C : CallKOk X x gd n ks (spD g false (n + ks.length) fn)) (h : okG sc x = true) (hs : noStars es = true) (hn : es.length = n) (F : KwF X.env pos kws ks) (hr : SndA g X es kws r) : SndE g X (.Call (.Name x p) es kws pos) (dCallP fn r) := let v := c.gok h; snd_callKw C v.g v.d hs hn F hr
theorem Cok.make (c : Cok g N sc fc X) (M : MkOk g X c0 x n dd fn) (h : okG sc x = true) (hs : noStars (e :: es) = true) (hn : (e :: es).length + dd.length + 1 = n) (hr : SndL g X (e :: es) r) : SndE g X (.Call (.Name x p) (e :: es) [] pos) (dMake c0 dd fn r) := let v := c.gok h; snd_make M v.g v.d hs hn hr
theorem Cok.make0 (c : Cok g N sc fc X) (M : MkOk g X c0 x n dd fn) (h : okG sc x = true) (hn : dd.length + 1 = n) : SndE g X (.Call (.Name x p) [] [] pos) (dMake c0 dd fn dNil) := let v := c.gok h; snd_make0 M v.g v.d hn
theorem Cok.makeKw (c : Cok g N sc fc X) (M : MkKOk g X c0 x n ks fn) (h : okG sc x = true) (hs : noStars es = true) (hn : es.length = n) (F : KwF X.env pos kws ks) (hr : SndA g X es kws r) : SndE g X (.Call (.Name x p) es kws pos) (dMake c0 [] fn r) := let v := c.gok h; snd_makeKw M v.g v.d hs hn F hr
theorem Cok.cmeth (c : Cok g N sc fc X) (M : CMOk g X c0 m n fn) (h : okG sc x = true) (hm : ∀ C, g.cls c0 = some C → X.mg x = some (.ref C)) (hs : noStars (e :: es) = true) (hn : (e :: es).length + 1 = n) (ht : MForm X.env (.Name x p) m apos pos (e :: es)) (hr : SndL g X (e :: es) r) : SndE g X (.Call (.Attribute (.Name x p) m apos) (e :: es) [] pos) (dCMeth c0 fn r) := let v := c.gok h; snd_cmeth M v.g hm v.d hs hn ht hr
theorem Cok.cmethKw (c : Cok g N sc fc X) (M : CMKOk g X c0 m 0 ks fn) (h : okG sc x = true) (hm : ∀ C, g.cls c0 = some C → X.mg x = some (.ref C)) (F : KwF X.env pos kws ks) (ht : MFormK X.env (.Name x p) m apos pos [] kws) (hr : SndK g X kws r) : SndE g X (.Call (.Attribute (.Name x p) m apos) [] kws pos) (dCMeth c0 fn r) := let v := c.gok h; snd_cmethKw0 M v.g hm v.d F ht hr
theorem Cok.fldV (c : Cok g N sc fc X) (F : FldOk g X c0 f j) (h : okV N sc i x = true) (hb : attributeBase (.Name x p) f X.env (eval (.Name x p) X.env) = eval (.Name x p) X.env) : SndE g X (.Attribute (.Name x p) f pos) (dFldV i c0 j) := let v := c.vok h; snd_fldV F hb v.N v.v v.d v.cd
theorem Cok.blt (c : Cok g N sc fc X) {φ : List D → Option D} {id : String} (hc : SndC g X (.builtin id) φ) (h : okG sc x = true) (hm : X.mg x = none) (hv : bootBuiltins x = some (.builtin id)) (hs : noStars (e :: es) = true) (hr : SndL g X (e :: es) r) : SndE g X (.Call (.Name x p) (e :: es) [] pos) (dBlt φ r) := let v := c.gok h; snd_blt hc v.g hm hv v.n v.d hs hr
theorem Cok.bltT (c : Cok g N sc fc X) {φ : List D → Option D} {T : String} (hc : SndC g X (.type T) φ) (h : okG sc x = true) (hm : X.mg x = none) (hv : bootBuiltins x = some (.type T)) (hs : noStars (e :: es) = true) (hr : SndL g X (e :: es) r) : SndE g X (.Call (.Name x p) (e :: es) [] pos) (dBlt φ r) := let v := c.gok h; snd_bltT hc v.g hm hv v.n v.d hs hr
theorem Cok.slc (c : Cok g N sc fc X) {lo hi : Option Expr} {fl fh : PartD} (he : SndE g X e fe) (hl : SndP g X lo fl) (hu : SndP g X hi fh) : SndE g X (.Subscript e (.Slice lo hi none p2) pos) (dSlc fe fl fh) := snd_slc c.hK he hl hu
/-- no test -/
def tYesD : DenT := fun ρ => some (true, ρ)
theorem Cok.lc (c : Cok g N sc fc X) {own : List (Str × Nat)} {ow : List Nat} (ok : blkC N sc scope own = true) (ho : own.map (·.2) = ow) (hs : noSet iter = true) (hi : SndI g X tg iter fi)
    (tgt : ∀ s H C cl fp, SndG g (Blk X scope s H C cl fp) tg ow fg) (el : ∀ s H C cl fp, SndE g (Blk X scope s H C cl fp) elt fe) : SndE g X (.ListComp elt [⟨tg, iter, [], 0⟩] scope pos) (dComp ow fi fg tYesD fe) := by
  subst ho
  exact snd_lc c.calm c.nodup hi (by rw [c.hN, c.hs]; exact blkOk_by ok) ⟨tgt, .inl ⟨rfl, rfl⟩, el⟩ hs
theorem Cok.lcIf (c : Cok g N sc fc X) {own : List (Str × Nat)} {ow : List Nat} (ok : blkC N sc scope own = true) (ho : own.map (·.2) = ow) (hs : noSet iter = true) (hi : SndI g X tg iter fi)
    (tgt : ∀ s H C cl fp, SndG g (Blk X scope s H C cl fp) tg ow fg) (tst : ∀ s H C cl fp, SndT g (Blk X scope s H C cl fp) c' ft) (el : ∀ s H C cl fp, SndE g (Blk X scope s H C cl fp) elt fe) : SndE g X (.ListComp elt [⟨tg, iter, [c'], 0⟩] scope pos) (dComp ow fi fg ft fe) := by
  subst ho
  exact snd_lc c.calm c.nodup hi (by rw [c.hN, c.hs]; exact blkOk_by ok) ⟨tgt, .inr ⟨c', rfl, tst⟩, el⟩ hs
theorem Cok.iseq (c : Cok g N sc fc X) (he : SndE g X iter fe) : SndI g X tg iter (iSeq fe) := snd_iseq c.hK he
theorem Cok.irng1 (c : Cok g N sc fc X) (h : okG sc "range" = true) (hm : X.mg "range" = none) (hs : noStar a = true) (hr : SndL g X [a] r) : SndI g X tg (.Call (.Name "range" p) [a] [] pos) (iRng r) := snd_irng1 (c.gok h).g hm hs hr
theorem Cok.irng2 (c : Cok g N sc fc X) (h : okG sc "range" = true) (hm : X.mg "range" = none) (hs : noStars [a, b] = true) (hr : SndL g X [a, b] r) : SndI g X tg (.Call (.Name "range" p) [a, b] [] pos) (iRng r) := snd_irng2 (c.gok h).g hm hs hr
/-! ### targets, statements -/
theorem Cok.gnm (c : Cok g N sc fc X) (h : okL N sc fc i x = true) : SndG g X (.Name x pos) [i] (gNm i) := let v := c.lok h; snd_gnm c.nodup v.N v.l v.f
theorem Cok.gitem (c : Cok g N sc fc X) (h : okV N sc i x = true) (hs : noSlice b = true) (hb : SndE g X b fj) : SndG g X (.Subscript (.Name x p) b pos) [] (gItem i fj) := let v := c.vok h; snd_gitem v.N v.v v.d v.cd hs hb
theorem Cok.gtup (c : Cok g N sc fc X) {fs : List DenG} {k0 : Nat} (hp : GTs g X es sl fs) : SndG g X (.Tuple es k0 pos) sl (gTup fs) := snd_gtup c.hK c.calm hp
theorem Cok.asg (c : Cok g N sc fc X) (h : okL N sc fc i x = true) (hc : noComp e = true) (h0 : fx = true → i ≠ 0) (he : SndE g X e fe) : SndS g fx X (.Assign [.Name x pos'] e pos) (sAsg i fe) := let v := c.lok h; snd_asg c.nodup v.N v.l v.f hc h0 he
theorem Cok.asgL (c : Cok g N sc fc X) {own : List (Str × Nat)} {ow : List Nat} (h : okL N sc fc i x = true) (h0 : fx = true → i ≠ 0) (ok : blkC N sc scope own = true) (ho : own.map (·.2) = ow) (hs : noSet iter = true) (hi : SndI g X tg iter fi)
    (tgt : ∀ s H C cl fp, SndG g (Blk X scope s H C cl fp) tg ow fg) (el : ∀ s H C cl fp, SndE g (Blk X scope s H C cl fp) elt fe) : SndS g fx X (.Assign [.Name x pos'] (.ListComp elt [⟨tg, iter, [], 0⟩] scope lpos) pos) (sAsg i (dComp ow fi fg tYesD fe)) := by
  subst ho
  have v := c.lok h
  exact snd_asgL c.calm c.nodup v.N v.l v.f h0 hi (by rw [c.hN, c.hs]; exact blkOk_by ok) ⟨tgt, .inl ⟨rfl, rfl⟩, el⟩ hs
theorem Cok.asgLIf (c : Cok g N sc fc X) {own : List (Str × Nat)} {ow : List Nat} (h : okL N sc fc i x = true) (h0 : fx = true → i ≠ 0) (ok : blkC N sc scope own = true) (ho : own.map (·.2) = ow) (hs : noSet iter = true) (hi : SndI g X tg iter fi)
    (tgt : ∀ s H C cl fp, SndG g (Blk X scope s H C cl fp) tg ow fg) (tst : ∀ s H C cl fp, SndT g (Blk X scope s H C cl fp) c' ft) (el : ∀ s H C cl fp, SndE g (Blk X scope s H C cl fp) elt fe) : SndS g fx X (.Assign [.Name x pos'] (.ListComp elt [⟨tg, iter, [c'], 0⟩] scope lpos) pos) (sAsg i (dComp ow fi fg ft fe)) := by
  subst ho
  have v := c.lok h
  exact snd_asgL c.calm c.nodup v.N v.l v.f h0 hi (by rw [c.hN, c.hs]; exact blkOk_by ok) ⟨tgt, .inr ⟨c', rfl, tst⟩, el⟩ hs
theorem Cok.asgT (c : Cok g N sc fc X) (he : SndE g X e fe) (hg : SndG g X tg sl fg) (h0 : fx = true → 0 ∉ sl) (hs : swapsWithSole [tg] e pos.line X.env = pure false) (hw : swappedStores [tg] e X.env = pure none) (h1 : (assignEach [tg] X.env).map (·.2) = [assign tg X.env]) : SndS g fx X (.Assign [tg] e pos) (sAsgG fe fg) := snd_asgG he hg h0 hs hw h1
theorem Cok.par (c : Cok g N sc fc X) {kt k2 : Nat} {pt2 : Pos} (hi : okLL N sc i x = true) (hj : okLL N sc j y = true) (hij : i ≠ j) (h0 : fx = true → i ≠ 0 ∧ j ≠ 0)
    (hw : ∀ env : Env, env.scope = sc → swappedStores [.Tuple [.Name x px, .Name y py] kt pt] (.Tuple [a, b] k2 pt2) env = pure (some [x, y])) (hr : SndL g X [a, b] r) :
    SndS g fx X (.Assign [.Tuple [.Name x px, .Name y py] kt pt] (.Tuple [a, b] k2 pt2) pos) (sPar i j r) := let v := c.llk hi; let w := c.llk hj; snd_par c.calm c.nodup v.1 w.1 hij v.2 w.2 hr (hw _ c.hs) h0
theorem Cok.par3 (c : Cok g N sc fc X) {kt k2 : Nat} {pt2 : Pos} (hi : okLL N sc i x = true) (hj : okLL N sc j y = true) (hl : okLL N sc l z = true) (hij : i ≠ j) (hil : i ≠ l) (hjl : j ≠ l) (h0 : fx = true → i ≠ 0 ∧ j ≠ 0 ∧ l ≠ 0)
    (hw : ∀ env : Env, env.scope = sc → swappedStores [.Tuple [.Name x px, .Name y py, .Name z pz] kt pt] (.Tuple [a, b, c'] k2 pt2) env = pure (some [x, y, z])) (hr : SndL g X [a, b, c'] r) :
    SndS g fx X (.Assign [.Tuple [.Name x px, .Name y py, .Name z pz] kt pt] (.Tuple [a, b, c'] k2 pt2) pos) (sPar3 i j l r) := let v := c.llk hi; let w := c.llk hj; let u := c.llk hl; snd_par3 c.calm c.nodup v.1 w.1 u.1 hij hil hjl v.2 w.2 u.2 hr (hw _ c.hs) h0
theorem Cok.fst (c : Cok g N sc fc X) (F : FldOk g X c0 f j) (h : okV N sc i x = true) (hs : swapsWith e (some (.Attribute (.Name x p) f apos)) pos.line X.env = pure false) (he : SndE g X e fe) : SndS g fx X (.Assign [.Attribute (.Name x p) f apos] e pos) (sFst i c0 j fe) := let v := c.vok h; snd_fst F hs v.N v.v v.d v.cd he
theorem Cok.for' (c : Cok g N sc fc X) (hs : noSet iter = true) (h0 : fx = true → 0 ∉ sl) (hi : SndI g X tg iter fi) (hg : SndG g X tg sl fg) (hb : SndB g fx X body gb) : SndS g fx X (.For tg iter body [] pos) (sFor fi fg gb) := snd_for c.nx c.calm hs hi hg h0 hb
theorem Cok.whl (c : Cok g N sc fc X) (hc : SndT g X a ft) (hb : SndB g fx X body gb) : SndS g fx X (.While a body [] pos) (sWhile ft gb) := snd_while c.nx hc hb
end
end DV

set_option Elab.async false
set_option maxRecDepth 100000
set_option maxHeartbeats 4000000
set_option linter.all false
/-! DV22: defs by their places: bindings. -/
namespace DV
open PySem L2 PySem.Spec PyProof.Rows
section
variable {K : PySem.W.Frag} {x qual : Str} {params : Arguments} {body : List Stmt} {scope : Scope} {dvs : List V} {kws : List (Str × V)} {f : Addr} {fd : FuncData} {ps ks : List Str} {n : Nat}
theorem FunD.a' (F : L2.FunD K x qual params body scope dvs kws f fd) : FunA K x qual params body scope f fd := by
  obtain ⟨oc, od, dV, kV, doc, pm, an, cdv, ct, osl, e, lk, hcd, _⟩ := F.ex
  exact ⟨oc, od, dV, kV, doc, pm, an, cdv, ct, osl, e, lk, hcd⟩
theorem FunD.kwN (F : L2.FunD K x qual params body scope [] kws f fd) (h : ∀ (kV doc pm : Value) (an : Option Addr) (cdv ct : Value) (us ws : List Value), us.length = n → ws.length = ks.length →
    bindArgs (PySem.W.fnOf x qual params body scope .none kV doc pm an cdv ct) ⟨us, ks.zip ws⟩ = pure (ps.zip (us ++ ws))) : KwB K fd ps n ks := by
  obtain ⟨oc, od, dV, kV, doc, pm, an, cdv, ct, osl, rfl, lk, hcd, hD, hK⟩ := F.ex
  rcases hD with ⟨_, rfl⟩ | ⟨e, _⟩
  · exact ⟨fun s us ws _ l1 l2 => .of_eq (h kV doc pm an cdv ct us ws l1 l2)⟩
  · exact absurd rfl e
theorem FunD.kwD (F : L2.FunD K x qual params body scope dvs kws f fd) (hd : dvs ≠ []) (h : ∀ (T : Addr) (kV doc pm : Value) (an : Option Addr) (cdv ct : Value) (us its ws : List Value), us.length = n → its.length = dvs.length → ws.length = ks.length →
      ∃ k, bindArgs (PySem.W.fnOf x qual params body scope (.ref T) kV doc pm an cdv ct) ⟨us, ks.zip ws⟩ = seqItems? (.ref T) >>= k ∧ k (some its.toArray) = pure (ps.zip (us ++ ws))) : KwB K fd ps n ks := by
  obtain ⟨its, kb⟩ := L2.FunD.kbindsD F n ks (fun us _ ws => us ++ ws) hd (fun r _ rz => r.append rz) h
  exact ⟨fun s us ws X l1 l2 => kb.to s us ws X l1 l2⟩
end
end DV

set_option Elab.async false
set_option maxRecDepth 100000
set_option maxHeartbeats 4000000
set_option linter.all false
/-! DV23: the text's facts, looked at behind the top by one run. -/
namespace DV
open PySem L2 PySem.Spec PyProof.Rows
/-- where a def stands: a module's name, a method, a property, a classmethod -/
inductive At where
  | gl (x : Str) | me (c m : Str) | pr (c m : Str) | cm (c m : Str)
/-- the record of a property, a classmethod -/
def rcA (K : PySem.W.Frag) (c m : Str) : Addr := match PySem.W.findIn K (.ref (He.ga K c)) m with
  | some (some (.ref p)) => p
  | _ => 0
def rcG (K : PySem.W.Frag) (T : String) (p : Addr) : Addr := match PySem.W.recIn K p T with
  | some (.ref q :: _) => q
  | _ => 0
def At.ad (K : PySem.W.Frag) : At → Addr
  | .gl x => He.ga K x
  | .me c m => He.ma K (He.ga K c) m
  | .pr c m => rcG K "property" (rcA K c m)
  | .cm c m => rcG K "classmethod" (rcA K c m)
structure DefX where
  at_ : At
  name : Str
  qual : Str
  st : Stmt
  dfl : List He.Dv := []
def wh (K : PySem.W.Frag) (a : Addr) : He.FnW := match K.lookup a with
  | some o => match o.data with
    | .func z => some (z.name, z.qualname, z.params, z.body, z.scope, z.globals, z.closure, z.builtins)
    | _ => none
  | none => none
def DefX.due (d : DefX) : He.FnW := some (d.name, d.qual, defArgs d.st, .stmts (defBody d.st), defScope d.st, mainGlobals, [], builtinsNs)
def DefX.dvs (K : PySem.W.Frag) (d : DefX) : List V := d.dfl.map (He.Dv.v K)
def DefX.ok (K : PySem.W.Frag) (d : DefX) : Bool := PySem.W.keepIn K (.ref (d.at_.ad K)) && (match K.lookup (d.at_.ad K) with
  | some o => match o.data with
    | .func z => PySem.W.codeIn K z.code d.qual && (He.dflB K z.defaults (d.dvs K) && He.kwdB K z.kwdefaults [])
    | _ => false
  | none => false)
theorem DefX.funD {K : PySem.W.Frag} {d : DefX} (e : wh K (d.at_.ad K) = d.due) (c : d.ok K = true) : ∃ fd, FunD K d.name d.qual (defArgs d.st) (defBody d.st) (defScope d.st) (d.dvs K) [] (d.at_.ad K) fd := by
  obtain ⟨kp, c2⟩ := He.ba c
  unfold wh at e
  cases q : K.lookup (d.at_.ad K) with
  | none => rw [q] at c2; cases c2
  | some o =>
    obtain ⟨oc, od, dt, sl⟩ := o
    rw [q] at e c2
    cases dt with
    | func z =>
      obtain ⟨x1, x2, x3, x4, x5, x6, x7, x8, x9, x10, x11, x12, x13, x14, x15⟩ := z
      have e' : (some (x1, x2, x3, x4, x5, x6, x7, x15) : He.FnW) = d.due := e
      simp only [DefX.due, Option.some.injEq, Prod.mk.injEq] at e'
      obtain ⟨r1, r2, r3, r4, r5, r6, r7, r8⟩ := e'
      subst r1 r2 r3 r4 r5 r6 r7 r8
      obtain ⟨k1, k2⟩ := He.ba (show (PySem.W.codeIn K x13 d.qual && (He.dflB K x8 (d.dvs K) && He.kwdB K x9 [])) = true from c2)
      obtain ⟨k3, k4⟩ := He.ba k2
      refine ⟨_, ⟨oc, od, x8, x9, x10, x11, x12, x13, x14, sl, rfl, q, k1, He.dflB_ok k3, He.kwdB_ok k4⟩, kp⟩
    | _ => cases c2
/-! ### facts -/
inductive Fak where
  | glo (x : Str) | free (x : Str) | int (x : Str) (i : Int) | str (x z : Str) | cls (x : Str) | noat (c f : Str) | meth (c m : Str) | mkr (c : Str) | prop (c m : Str) | cmet (c m : Str) | crd (c : Str)
def tyT (K : PySem.W.Frag) (C : Addr) (b : Bool) (n : String) : Bool := decide (PySem.W.mroIn K C (.type n) = some b)
def clsB (K : PySem.W.Frag) (C : Addr) : Bool :=
  PySem.W.plainGet K C Str.empty && (PySem.W.hasDictIn K C && (PySem.W.plainOver K C && (He.eqO (PySem.W.findIn K (.ref C) "__setattr__") (some (some (.builtin "object.__setattr__"))) &&
  (He.eqO (PySem.W.findIn K (.ref C) "__class__") (some (some (.builtin "object.__class__"))) && (He.eqO (PySem.W.specialIn K (.builtin "object.__class__") "__get__") (some (some (.builtin "getset_descriptor.__get__"))) &&
  (decide (PySem.W.takesIn K (.builtin "object.__class__") = some true) && (tyT K C true "object" && (PySem.W.isClsIn K C && (decide (PySem.W.typeIn K (.ref C) = some (.type "type")) && (PySem.W.selfFirst K C &&
  (He.eqO (PySem.W.findIn K (.ref C) "__ne__") (some (some (.builtin "object.__ne__"))) && kinds.all fun n => tyT K C false n)))))))))))
theorem clsB_ok {K : PySem.W.Frag} {C : Addr} (h : clsB K C = true) : ClsK K C := by
  obtain ⟨c1, h⟩ := He.ba h
  obtain ⟨c2, h⟩ := He.ba h
  obtain ⟨c3, h⟩ := He.ba h
  obtain ⟨c4, h⟩ := He.ba h
  obtain ⟨c5, h⟩ := He.ba h
  obtain ⟨c6, h⟩ := He.ba h
  obtain ⟨c7, h⟩ := He.ba h
  obtain ⟨c8, h⟩ := He.ba h
  obtain ⟨c9, h⟩ := He.ba h
  obtain ⟨c10, h⟩ := He.ba h
  obtain ⟨c11, h⟩ := He.ba h
  obtain ⟨c12, h⟩ := He.ba h
  have u : ∀ n ∈ kinds, PySem.W.mroIn K C (.type n) = some false := fun n hn => of_decide_eq_true (List.all_eq_true.mp h n hn)
  exact ⟨c1, c2, c3, He.eqO_ok c4, He.eqO_ok c5, He.eqO_ok c6, of_decide_eq_true c7, of_decide_eq_true c8, c9, of_decide_eq_true c10, c11, He.eqO_ok c12,
    u _ (by decide), u _ (by decide), u _ (by decide), u _ (by decide), u _ (by decide), u _ (by decide), u _ (by decide)⟩
def cgB (K : PySem.W.Frag) (c m : Str) : Bool := match PySem.W.findCls K (.ref (He.ga K c)) (.type "type") m with
  | some (.get (.builtin b) (.ref p) .none (.ref C)) => decide (b = "classmethod.__get__") && (decide (p = rcA K c m) && decide (C = He.ga K c))
  | _ => false
def rcB (K : PySem.W.Frag) (T : String) (c m : Str) : Bool := match PySem.W.recIn K (rcA K c m) T with
  | some (.ref _ :: _) => true
  | _ => false
theorem rcB_ok {K : PySem.W.Frag} {T : String} {c m : Str} (h : rcB K T c m = true) : ∃ rest, PySem.W.recIn K (rcA K c m) T = some (.ref (rcG K T (rcA K c m)) :: rest) := by
  unfold rcB at h
  split at h
  · rename_i q rest e
    exact ⟨rest, by unfold rcG; rw [e]⟩
  · cases h
def Fak.ok (K : PySem.W.Frag) : Fak → Bool
  | .glo x => (He.Fa.glo x).ok K
  | .free x => (He.Fa.free x).ok K
  | .int x i => (He.Fa.int x i).ok K
  | .str x z => (He.Fa.str x z).ok K
  | .cls x => clsB K (He.ga K x)
  | .noat c f => (He.Fa.noat c f).ok K
  | .meth c m => (He.Fa.meth c m).ok K
  | .mkr c => (He.Fa.mkr c).ok K
  | .prop c m => He.eqO (PySem.W.findIn K (.ref (He.ga K c)) m) (some (some (.ref (rcA K c m)))) && (He.eqO (PySem.W.specialIn K (.ref (rcA K c m)) "__get__") (some (some (.builtin "property.__get__"))) &&
      (decide (PySem.W.takesIn K (.ref (rcA K c m)) = some true) && rcB K "property" c m))
  | .cmet c m => cgB K c m && (rcB K "classmethod" c m && PySem.W.fnIn K (rcG K "classmethod" (rcA K c m)))
  | .crd c => PySem.W.readsIn K (He.ga K c) (.type "type") && He.eqO (PySem.W.specialIn K (.ref (He.ga K c)) "__getattribute__") (some (some (.builtin "type.__getattribute__")))
section
variable {K : PySem.W.Frag} {h : Heap} {mg : Str → Option Value}
theorem prop_ok {c m : Str} (z : (Fak.prop c m).ok K = true) : PropOf K (He.ga K c) m (rcA K c m) (At.ad K (.pr c m)) := by
  obtain ⟨c1, z⟩ := He.ba z
  obtain ⟨c2, z⟩ := He.ba z
  obtain ⟨c3, z⟩ := He.ba z
  exact ⟨He.eqO_ok c1, He.eqO_ok c2, of_decide_eq_true c3, rcB_ok z⟩
theorem cmet_ok {c m : Str} (z : (Fak.cmet c m).ok K = true) : ClX.CMet K (He.ga K c) (.type "type") m (rcA K c m) (At.ad K (.cm c m)) := by
  obtain ⟨c1, z⟩ := He.ba z
  obtain ⟨c2, c3⟩ := He.ba z
  refine ⟨?_, rcB_ok c2, c3⟩
  unfold cgB at c1
  split at c1
  · rename_i b p C e
    obtain ⟨d1, d2⟩ := He.ba c1
    obtain ⟨d2, d3⟩ := He.ba d2
    rw [e, of_decide_eq_true d1, of_decide_eq_true d2, of_decide_eq_true d3]
  · cases c1
theorem crd_ok {c : Str} (z : (Fak.crd c).ok K = true) : ClX.CRead K (He.ga K c) (.type "type") := by
  obtain ⟨c1, c2⟩ := He.ba z
  exact ⟨c1, He.eqO_ok c2⟩
end
/-! ### the look -/
def reachX (g : Addr → Option Obj) (n : Nat) : List Addr := PySem.cStatics :: He.asD g n
def obsX (fx : List Fak) (fn : List DefX) (K : PySem.W.Frag) : He.AlD := ((fx.all fun f => f.ok K) && fn.all fun d => d.ok K, fn.map fun d => wh K (d.at_.ad K))
def lookX (n : Nat) (fx : List Fak) (fn : List DefX) (g : Addr → Option Obj) : He.AlD := obsX fx fn (He.frG g (reachX g n))
def SayX (fx : List Fak) (fn : List DefX) (K : PySem.W.Frag) : Prop := obsX fx fn K = (true, fn.map DefX.due)
def hkX (n : Nat) (fx : List Fak) (fn : List DefX) : PySem.W.Hook where
  α := He.AlD
  obs := fun s => lookX n fx fn s.heap.get?
  val := fun _ => (true, fn.map DefX.due)
  says := fun _ h => ∃ K : PySem.W.Frag, K.In h ∧ SayX fx fn K
  of := fun _ _ e => ⟨_, He.frG_in, e⟩
  keeps := fun _ _ _ z k => z.elim fun K z => ⟨K, PySem.W.Frag.In.keeps z.1 k, z.2⟩
theorem lookX_eq {n : Nat} {fx : List Fak} {fn : List DefX} {s : PySem.W.SharedT} : lookX n fx fn (HandSHeadRun.getT s) = (hkX n fx fn).obs s.abs := by
  have e : HandSHeadRun.getT s = s.abs.heap.get? := funext fun a => HandSHeadRun.getT_eq s a
  rw [e]; rfl
theorem SayX.fact {fx : List Fak} {fn : List DefX} {K : PySem.W.Frag} (c : SayX fx fn K) (i : Nat) {f : Fak} (h : fx[i]? = some f) : f.ok K = true :=
  List.all_eq_true.mp (He.ba (congrArg Prod.fst c)).1 f (List.mem_of_getElem? h)
theorem SayX.fun_ {fx : List Fak} {fn : List DefX} {K : PySem.W.Frag} (c : SayX fx fn K) (i : Nat) : ∃ fd : FuncData, ∀ d : DefX, fn[i]? = some d → FunD K d.name d.qual (defArgs d.st) (defBody d.st) (defScope d.st) (d.dvs K) [] (d.at_.ad K) fd := by
  cases h : fn[i]? with
  | none => exact ⟨default, fun d e => by cases e⟩
  | some d0 =>
    have c2 := List.all_eq_true.mp (He.ba (congrArg Prod.fst c)).2 d0 (List.mem_of_getElem? h)
    have e : (fn.map fun d => wh K (d.at_.ad K))[i]? = (fn.map DefX.due)[i]? := congrArg (fun z : He.AlD => z.2[i]?) c
    rw [List.getElem?_map, List.getElem?_map, h] at e
    obtain ⟨fd, F⟩ := DefX.funD (Option.some.inj e) c2
    exact ⟨fd, fun d q => by cases q; exact F⟩
/-- the end: from the look behind the top -/
theorem walk_X {l : PySem.W.OpenLaw} {n k m : Nat} {q : Program} {loose : List Str} {XP : (Str → Option Value) → Heap → Prop} {d : DefRec} {x : Str} {sem : Fn} {fx : List Fak} {fn : List DefX}
    (hn : l.most = some n) (hn2 : n ≤ sizeLine) (hdf : d.params.defaults = []) (hr : Room k callerA)
    (F : ∀ (w : World) (mg : Str → Option Value) (fa : Addr) (h : Heap) (K : PySem.W.Frag), K.In h → SayX fx fn K → h.Ns mainGlobals mg → mg d.name = some (.ref fa) →
      ∃ (fd : FuncData) (g : G), g.K = K ∧ (∀ (s : Shared) (u : Value), BindsTo s fd ⟨[u], []⟩ [(x, u)]) ∧
        ∀ base : Heap, K.In base → base.Ns mainGlobals mg → FnD l.prog w K mg base true k fa fd [x] (spD g false 1 sem))
    (hsem : ∀ ns : List Int, ns.length ≤ n → ∃ o, sem [.con (ns.map D.int)] = some (.bl true, o)) :
    PySem.W.WalkO q loose XP (hkX m fx fn).says l.row.toRowW d [] (fun f vs => PySem.call f vs) := by
  refine Att.attach_call hn hdf fun w s₀ s₁ mg mb fa o pm cd doc a vs ns Gr Y ho hd hcd hmg hobj hints hlen hg => ?_
  obtain ⟨K, KX, say⟩ := Y
  obtain ⟨fd, g, hK, hb, hF⟩ := F w mg fa _ K KX say Gr.T.g hmg
  obtain ⟨o', e⟩ := hsem ns hlen
  refine head_call KX Gr.T.g Gr.T.b Gr.T.builtins Gr.T.nolimit hg hobj hints (Nat.le_trans hlen hn2) hr hF hb fun H only sq => ?_
  refine ⟨rfl, H, [.con (ns.map D.int)], [], .bl true, o', Same.refl _, Reps.one (.con (hK ▸ sq) (reps_ints ns)), List.nodup_nil, fun b hb => (by cases hb), e, fun I' H' v f1 f2 _ _ r _ _ _ _ _ _ _ => r.bl_i.1⟩
end DV

set_option Elab.async false
set_option maxRecDepth 100000
set_option maxHeartbeats 4000000
set_option linter.all false
/-! DV24: enumerate, zip. -/
namespace DV
open PySem L2 PySem.Spec PyProof.Rows
/-- (0, x), (1, y), .. -/
def enumD (xs : List D) : List D := xs.mapIdx fun i d => .tup [.int (i : Int), d]
def zipD (xs ys : List D) : List D := (xs.zip ys).map fun p => .tup [p.1, p.2]
def lstOf : D → Option (List D)
  | .lst xs => some xs
  | .con xs => some xs
  | _ => none
def iEnm (r : Dens) : Dens := fun ρ => match r ρ with
  | some ([d], ρ') => match lstOf (fz d) with
    | some xs => some (enumD xs, ρ')
    | none => none
  | _ => none
def iZp (r : Dens) : Dens := fun ρ => match r ρ with
  | some ([d, e], ρ') => match fz d, fz e with
    | .tup xs, .tup ys => some (zipD xs ys, ρ')
    | d', e' => match lstOf d', lstOf e' with
      | some xs, some ys => some (zipD xs ys, ρ')
      | _, _ => none
  | _ => none
section
variable {g : G} {X : Cx} {B : Bs} {I I' H H' : Hp} {ρ : List D} {σ : L2.St} {ts ds xs ys : List D} {vs ws us : List V} {d d2 : D} {v : V} {f : List Addr} {a b e c tg iter : Expr} {pos p tpos : Pos} {r : Dens} {elts : List Expr} {kk : Nat}
theorem lst_rep {v : V} (h : lstOf d = some xs) (r : Rep g I H d v f) (si : Same I H) : ∃ p us, v = .ref p ∧ SqL g.K H p us ∧ Reps g I H xs us [] := by
  cases d with
  | lst ys =>
    cases h
    obtain ⟨p, us, e, _, hp, q⟩ := r.lst_i
    exact ⟨p, us, e, SqL.of (si _ _ hp), q⟩
  | con ys =>
    cases h
    obtain ⟨p, us, e, _, hp, q⟩ := r.con_i
    exact ⟨p, us, e, si.seq hp, q⟩
  | _ => cases h
theorem itOk_enm {p : Addr} (hd : lstOf d = some xs) : ItOk g (Ite g.K p) (enumD xs) [d] [.ref p] := by
  intro B I H ρ σ ts vs i h
  obtain ⟨f, r⟩ := h.topRep
  obtain ⟨p', us, e, sq, q⟩ := lst_rep hd r h.same
  cases e
  refine ⟨fun d' e => ?_, fun hl => ⟨us, sq, by rw [← q.length]; simpa [enumD] using hl⟩⟩
  unfold enumD at e
  rw [List.getElem?_mapIdx] at e
  obtain ⟨x, ex, rfl⟩ := Option.map_eq_some_iff.mp e
  obtain ⟨v, ev, rv⟩ := q.get ex
  refine ⟨⟨us, v, sq, ev⟩, fun z H' y => ?_⟩
  obtain ⟨T, w, rfl, hT, rfl, hw⟩ := y
  have := hw us sq
  rw [ev] at this
  cases this
  have h2 := h.laidI (p := T) (o := .tup [.int (i : Int), v]) hT
  have nI := h.same.free hT
  exact ⟨_, h2.push (.tup (.inl upd_same) (.cons (f1 := []) (f2 := []) .int (Reps.one (rv.mono (Same.updN nI) fun b hb => by cases hb))))⟩
theorem itOk_zl {p1 p2 : Addr} (hd : lstOf d = some xs) (he : lstOf d2 = some ys) : ItOk g (Itz g.K p1 p2) (zipD xs ys) [d, d2] [.ref p1, .ref p2] := by
  intro B I H ρ σ ts vs i h
  have h1 : StP g B I H ρ σ ((ts ++ [d]) ++ [d2]) ((vs ++ [.ref p1]) ++ [.ref p2]) := by simpa using h
  obtain ⟨_, r2⟩ := h1.topRep
  obtain ⟨_, r1⟩ := (h1.pop (ds := [d2]) (ws := [.ref p2]) rfl).topRep
  obtain ⟨p', us, e, sq, q⟩ := lst_rep hd r1 h.same
  cases e
  obtain ⟨p', us2, e, sq2, q2⟩ := lst_rep he r2 h.same
  cases e
  refine ⟨fun d' e => ?_, fun hl => ⟨us, us2, sq, sq2, ?_⟩⟩
  · unfold zipD at e
    rw [List.getElem?_map] at e
    obtain ⟨x, ex, rfl⟩ := Option.map_eq_some_iff.mp e
    obtain ⟨e1, e2⟩ := List.getElem?_zip_eq_some.mp ex
    obtain ⟨v, ev, rv⟩ := q.get e1
    obtain ⟨v2, ev2, rv2⟩ := q2.get e2
    refine ⟨⟨us, us2, v, v2, sq, sq2, ev, ev2⟩, fun z H' y => ?_⟩
    obtain ⟨T, w, w2, rfl, hT, rfl, hw, hw2⟩ := y
    have := hw us sq
    rw [ev] at this
    cases this
    have := hw2 us2 sq2
    rw [ev2] at this
    cases this
    have nI := h.same.free hT
    have go := (h.laidI (p := T) (o := .tup [v, v2]) hT).push (.tup (ds := [x.1, x.2]) (.inl upd_same) (.cons (f1 := []) (f2 := []) (rv.mono (Same.updN nI) fun b hb => by cases hb) (Reps.one (rv2.mono (Same.updN nI) fun b hb => by cases hb))))
    exact ⟨_, go⟩
  · have l1 := q.length; have l2 := q2.length
    simp [zipD] at hl
    omega
theorem itOk_zt {p1 p2 : Addr} : ItOk g (RZ.ItzT g.K p1 p2) (zipD xs ys) [.tup xs, .tup ys] [.ref p1, .ref p2] := by
  intro B I H ρ σ ts vs i h
  have h1 : StP g B I H ρ σ ((ts ++ [.tup xs]) ++ [.tup ys]) ((vs ++ [.ref p1]) ++ [.ref p2]) := by simpa using h
  obtain ⟨_, r2⟩ := h1.topRep
  obtain ⟨_, r1⟩ := (h1.pop (ds := [.tup ys]) (ws := [.ref p2]) rfl).topRep
  obtain ⟨p', us, e, _, tp, q⟩ := r1.tup_i
  cases e
  obtain ⟨p', us2, e, _, tp2, q2⟩ := r2.tup_i
  cases e
  have sq : SqT g.K H p1 us := (tp.same h.same).sq
  have sq2 : SqT g.K H p2 us2 := (tp2.same h.same).sq
  refine ⟨fun d' e => ?_, fun hl => ⟨us, us2, sq, sq2, ?_⟩⟩
  · unfold zipD at e
    rw [List.getElem?_map] at e
    obtain ⟨x, ex, rfl⟩ := Option.map_eq_some_iff.mp e
    obtain ⟨e1, e2⟩ := List.getElem?_zip_eq_some.mp ex
    obtain ⟨v, ev, rv⟩ := q.get e1
    obtain ⟨v2, ev2, rv2⟩ := q2.get e2
    refine ⟨⟨us, us2, v, v2, sq, sq2, ev, ev2⟩, fun z H' y => ?_⟩
    obtain ⟨T, w, w2, rfl, hT, rfl, hw, hw2⟩ := y
    have := hw us sq
    rw [ev] at this
    cases this
    have := hw2 us2 sq2
    rw [ev2] at this
    cases this
    have nI := h.same.free hT
    have go := (h.laidI (p := T) (o := .tup [v, v2]) hT).push (.tup (ds := [x.1, x.2]) (.inl upd_same) (.cons (f1 := []) (f2 := []) (rv.mono (Same.updN nI) fun b hb => by cases hb) (Reps.one (rv2.mono (Same.updN nI) fun b hb => by cases hb))))
    exact ⟨_, go⟩
  · have l1 := q.length; have l2 := q2.length
    simp [zipD] at hl
    omega
theorem StP.fzTop1 (h : StP g B I H ρ σ (ts ++ [d]) (vs ++ ws)) (hl : 1 = ws.length) : ∃ v I', ws = [v] ∧ StP g B I' H ρ σ (ts ++ [fz d]) (vs ++ [v]) ∧ Rep g I' H (fz d) v [] := by
  obtain ⟨I2, _, h2, rr⟩ := h.fzTop (ds := [d]) (by simpa using hl)
  obtain ⟨v, rfl, r⟩ := rr.one_inv
  exact ⟨v, I2, rfl, h2, r⟩
theorem snd_ienm (hK : X.K = g.K) (hg : Gl X "enumerate") (hm : X.mg "enumerate" = none) (hs : noStar a = true) (hr : SndL g X [a] r) : SndI g X (.Tuple elts kk tpos) (.Call (.Name "enumerate" p) [a] [] pos) (iEnm r) := by
  intro B I H ρ σ ts vs its ρ' R h q k
  unfold iEnm at q
  split at q
  · rename_i d ρ1 q1
    split at q <;> cases q
    rename_i xs q2
    refine mxI_of (pi_enum hg hm pa_mx (starOk (noStar_ne hs))) (hr B I H ρ σ ts vs _ _ _ h q1 fun I1 H1 ws h1 hw hn => ?_)
    obtain ⟨v, I2, rfl, h2, r2⟩ := h1.fzTop1 hw
    obtain ⟨p', us, rfl, sq, _⟩ := lst_rep q2 r2 h2.same
    exact ⟨p', us, rfl, hK ▸ sq, k I2 H1 _ [fz d] [.ref p'] h2 rfl (hK ▸ itOk_enm q2)⟩
  · cases q
theorem snd_izp (hK : X.K = g.K) (hg : Gl X "zip") (hm : X.mg "zip" = none) (hs : noStars [a, b] = true) (hr : SndL g X [a, b] r) : SndI g X (.Tuple elts kk tpos) (.Call (.Name "zip" p) [a, b] [] pos) (iZp r) := by
  have hs' : noStar a = true ∧ noStar b = true := by simpa [noStars] using hs
  have s1 : starEach [a, b] X.env = (false, eval a X.env) :: starEach [b] X.env := starOk (noStar_ne hs'.1)
  have s2 : (backTo pos (starEach [b] X.env)).any (·.1) = false := by rw [starOk (noStar_ne hs'.2)]; rfl
  intro B I H ρ σ ts vs its ρ' R h q k
  unfold iZp at q
  split at q
  · rename_i d e ρ1 q1
    refine mxI_of (RZ.pi_zipA hg hm pa_mx s1 s2) ?_
    have fin : ρ1 = ρ' → (∀ I2 H1 p1 p2, StP g B I2 H1 ρ' σ (ts ++ [fz d, fz e]) (vs ++ [.ref p1, .ref p2]) → Rep g I2 H1 (fz d) (.ref p1) [] → Rep g I2 H1 (fz e) (.ref p2) [] →
        ∃ xs ys, (SqL X.K H1 p1 xs ∧ SqL X.K H1 p2 ys ∧ R (Itz X.K p1 p2) H1) ∨ (SqT X.K H1 p1 xs ∧ SqT X.K H1 p2 ys ∧ R (RZ.ItzT X.K p1 p2) H1)) → (∀ I2 H1 v, Rep g I2 H1 (fz d) v [] → ∃ p, v = .ref p) → (∀ I2 H1 v, Rep g I2 H1 (fz e) v [] → ∃ p, v = .ref p) →
        RZ.iZipA X.K (mxA X [a, b]) σ H R := fun er go g1 g2 => by
      subst er
      refine hr B I H ρ σ ts vs _ _ _ h q1 fun I1 H1 ws h1 hw hn => ?_
      obtain ⟨I2, _, h2, rr⟩ := h1.fzTop hw
      match ws, hn with
      | [w1, w2], _ =>
        rw [List.map_cons, List.map_cons, List.map_nil] at rr h2
        obtain ⟨f1, f2, ef, rd, re⟩ := Reps.split' (ds := [fz d]) (ds' := [fz e]) (vs := [w1]) (vs' := [w2]) rr rfl
        obtain ⟨rfl, rfl⟩ := List.append_eq_nil_iff.mp ef.symm
        obtain ⟨_, z, rd⟩ := rd.one_inv
        cases z
        obtain ⟨_, z, re⟩ := re.one_inv
        cases z
        obtain ⟨p1, rfl⟩ := g1 _ _ _ rd
        obtain ⟨p2, rfl⟩ := g2 _ _ _ re
        obtain ⟨xs, ys, z⟩ := go I2 H1 p1 p2 h2 rd re
        exact ⟨p1, p2, xs, ys, rfl, z⟩
    split at q
    · rename_i xs ys e1 e2
      cases q
      refine fin rfl (fun I2 H1 p1 p2 h2 rd re => ?_) (fun I2 H1 v r => ?_) (fun I2 H1 v r => ?_)
      · rw [e1] at rd; rw [e2] at re
        obtain ⟨_, us, z, _, tp, _⟩ := rd.tup_i
        cases z
        obtain ⟨_, us2, z, _, tp2, _⟩ := re.tup_i
        cases z
        refine ⟨us, us2, .inr ⟨hK ▸ (tp.same h2.same).sq, hK ▸ (tp2.same h2.same).sq, ?_⟩⟩
        rw [e1, e2] at h2
        exact k I2 H1 _ _ _ h2 rfl (hK ▸ itOk_zt)
      · rw [e1] at r; obtain ⟨p, _, z, _⟩ := r.tup_i; exact ⟨p, z⟩
      · rw [e2] at r; obtain ⟨p, _, z, _⟩ := r.tup_i; exact ⟨p, z⟩
    · split at q
      · rename_i xs ys e1 e2
        cases q
        have ob : ∀ {d : D} {xs : List D} {I2 H1 : Hp} {v : V}, lstOf d = some xs → Rep g I2 H1 d v [] → ∃ p, v = .ref p := fun {d xs I2 H1 v} e r => by
          cases d with
          | lst ys => obtain ⟨p, _, z, _⟩ := r.lst_i; exact ⟨p, z⟩
          | con ys => obtain ⟨p, _, z, _⟩ := r.con_i; exact ⟨p, z⟩
          | _ => cases e
        refine fin rfl (fun I2 H1 p1 p2 h2 rd re => ?_) (fun I2 H1 v r => ob e1 r) (fun I2 H1 v r => ob e2 r)
        obtain ⟨_, us, z, sq, _⟩ := lst_rep e1 rd h2.same
        cases z
        obtain ⟨_, us2, z, sq2, _⟩ := lst_rep e2 re h2.same
        cases z
        exact ⟨us, us2, .inl ⟨hK ▸ sq, hK ▸ sq2, k I2 H1 _ _ _ h2 rfl (hK ▸ itOk_zl e1 e2)⟩⟩
      · cases q
  · cases q
variable {N : List Str} {sc : Scope} {fc : Str → Bool}
theorem Cok.ienm (c : Cok g N sc fc X) (h : okG sc "enumerate" = true) (hm : X.mg "enumerate" = none) (hs : noStar a = true) (hr : SndL g X [a] r) : SndI g X (.Tuple elts kk tpos) (.Call (.Name "enumerate" p) [a] [] pos) (iEnm r) := snd_ienm c.hK (c.gok h).g hm hs hr
theorem Cok.izp (c : Cok g N sc fc X) (h : okG sc "zip" = true) (hm : X.mg "zip" = none) (hs : noStars [a, b] = true) (hr : SndL g X [a, b] r) : SndI g X (.Tuple elts kk tpos) (.Call (.Name "zip" p) [a, b] [] pos) (iZp r) := snd_izp c.hK (c.gok h).g hm hs hr
end
end DV

set_option Elab.async false
set_option maxRecDepth 100000
set_option maxHeartbeats 4000000
set_option linter.all false
/-! DV25: repr of lists and tuples that hold instances. -/
namespace DV
open PySem L2 PySem.Spec PyProof.Rows
mutual
/-- how deep lists and tuples stand in it -/
def dpt : D → Nat
  | .lst xs => dpts xs + 1
  | .tup xs => dpts xs + 1
  | _ => 0
def dpts : List D → Nat
  | [] => 0
  | d :: r => max (dpt d) (dpts r)
end
mutual
/-- lists, tuples, instances, plain values -/
def shB : D → Bool
  | .lst xs => shBs xs
  | .tup xs => shBs xs
  | .non => true
  | .bl _ => true
  | .int _ => true
  | .str _ => true
  | .ins _ _ => true
  | _ => false
def shBs : List D → Bool
  | [] => true
  | d :: r => shB d && shBs r
end
mutual
/-- its text; c: a class with its own repr -/
def shD (c : Nat) (l : Fn) : D → Option Str
  | .non => some (Str.ofString "None")
  | .bl b => some (if b then Str.ofString "True" else Str.ofString "False")
  | .int i => if i.natAbs.log2 < 1920 then some (Str.ofString (toString i)) else none
  | .str x => if (reprText x).length ≤ 100000 then some (reprText x) else none
  | .lst xs => (shDs c l xs).map listText
  | .tup xs => (shDs c l xs).map tupleText
  | .ins c' xs => if c' = c then (match l [.ins c xs] with
    | some (.str y, _) => some y
    | _ => none) else none
  | _ => none
def shDs (c : Nat) (l : Fn) : List D → Option (List Str)
  | [] => some []
  | d :: r => match shD c l d, shDs c l r with
    | some t, some ts => some (t :: ts)
    | _, _ => none
end
section
variable {g : G} {X : Cx} {B : Bs} {I I1 I2 I' H H1 H2 H' : Hp} {ρ : List D} {σ : L2.St} {ts ds xs ys : List D} {vs ws us : List V} {d d2 : D} {v : V} {a : Addr} {c : Nat} {l : Fn}
theorem two_kinds {s : Shared} {pins : List (Addr × Obj)} {us ws : List V} (Iv : Inv X pins σ H s) (h1 : H a = some (.lst us)) (h2 : SqT X.K H a ws) : False := by
  obtain ⟨its, n, _, e, _⟩ := Iv.lst h1
  obtain ⟨its', _, ⟨o, e', hc, _⟩, _⟩ := Iv.tuple h2
  rw [e] at e'
  cases e'
  exact absurd hc (by intro z; injection z with z; exact absurd z (by decide))
theorem ins_lst {s : Shared} {pins : List (Addr × Obj)} {us : List V} {C dx : Addr} {fs : List (Str × V)} (Iv : Inv X pins σ H s) (h1 : H a = some (.lst us)) (h2 : H a = some (.ins C dx fs)) : False := by
  rw [h1] at h2; cases h2
theorem ins_tup {s : Shared} {pins : List (Addr × Obj)} {ws : List V} {C dx : Addr} {fs : List (Str × V)} (Iv : Inv X pins σ H s) (h1 : SqT X.K H a ws) (h2 : H a = some (.ins C dx fs)) : False := by
  obtain ⟨od, J⟩ := inst_at Iv h2
  obtain ⟨its', _, ⟨o, e', hc, _⟩, _⟩ := Iv.tuple h1
  have e := J.at_
  rw [e] at e'
  cases e'
  have hc2 := J.cls
  rw [hc] at hc2
  cases hc2
theorem Reps.un1 {d : D} {ds : List D} {vs : List V} (h : Reps g I H (d :: ds) vs []) : ∃ v ws, vs = v :: ws ∧ Rep g I H d v [] ∧ Reps g I H ds ws [] := by
  obtain ⟨w1, w2, f1, f2, rfl, e, r1, r2⟩ := Reps.split (ds := [d]) (ds' := ds) h
  obtain ⟨rfl, rfl⟩ := List.append_eq_nil_iff.mp e.symm
  obtain ⟨v, rfl, q1⟩ := r1.one_inv
  exact ⟨v, w2, rfl, q1, r2⟩
mutual
/-- the depth hangs on the object alone -/
theorem dpt_eq {s : Shared} {pins : List (Addr × Obj)} (hK : X.K = g.K) (Iv : Inv X pins σ H s) (s1 : Same I1 H) (s2 : Same I2 H) : ∀ {d d2 : D} {v : V}, shB d = true → shB d2 = true → Rep g I1 H d v [] → Rep g I2 H d2 v [] → dpt d = dpt d2
  | .lst xs, d2, v, h1, h2, r1, r2 => by
    obtain ⟨p, us, rfl, _, e1, q1⟩ := r1.lst_i
    cases r2 with
    | lst e2 q2 =>
      rename_i ys us2
      have := (s1 _ _ e1).symm.trans (s2 _ _ e2)
      cases this
      unfold shB at h1 h2
      unfold dpt
      rw [dpts_eq hK Iv s1 s2 h1 h2 q1 q2]
    | tup e2 q2 => exact (two_kinds Iv (s1 _ _ e1) (hK ▸ (e2.same s2).sq)).elim
    | ins _ e2 _ => exact (ins_lst Iv (s1 _ _ e1) (s2 _ _ e2)).elim
    | con _ _ => cases h2
    | cls _ => cases h2
    | dic _ _ _ => cases h2
    | dit _ _ _ => cases h2
  | .tup xs, d2, v, h1, h2, r1, r2 => by
    obtain ⟨p, us, rfl, _, e1, q1⟩ := r1.tup_i
    cases r2 with
    | tup e2 q2 =>
      rename_i ys us2
      have := Iv.tuple_inj (hK ▸ (e1.same s1).sq) (hK ▸ (e2.same s2).sq)
      subst this
      unfold shB at h1 h2
      unfold dpt
      rw [dpts_eq hK Iv s1 s2 h1 h2 q1 q2]
    | lst e2 q2 => exact (two_kinds Iv (s2 _ _ e2) (hK ▸ (e1.same s1).sq)).elim
    | ins _ e2 _ => exact (ins_tup Iv (hK ▸ (e1.same s1).sq) (s2 _ _ e2)).elim
    | con _ _ => cases h2
    | cls _ => cases h2
    | dic _ _ _ => cases h2
    | dit _ _ _ => cases h2
  | .ins c xs, d2, v, h1, h2, r1, r2 => by
    obtain ⟨C', p, dx, us, rfl, _, hC', e1, ri⟩ := r1.ins_i
    cases r2 with
    | tup e2 q2 => exact (ins_tup Iv (hK ▸ (e2.same s2).sq) (s1 _ _ e1)).elim
    | lst e2 q2 => exact (ins_lst Iv (s2 _ _ e2) (s1 _ _ e1)).elim
    | ins _ e2 _ => rfl
    | con _ _ => cases h2
    | cls _ => cases h2
    | dic _ _ _ => cases h2
    | dit _ _ _ => cases h2
  | .non, d2, v, _, _, r1, r2 => by cases r1; cases r2; rfl
  | .bl b, d2, v, _, _, r1, r2 => by cases r1; cases r2; rfl
  | .int i, d2, v, _, _, r1, r2 => by cases r1; cases r2; rfl
  | .str x, d2, v, _, _, r1, r2 => by cases r1; cases r2; rfl
  | .und, _, _, h1, _, _, _ => by cases h1
  | .ty _, _, _, h1, _, _, _ => by cases h1
  | .cls _, _, _, h1, _, _, _ => by cases h1
  | .con _, _, _, h1, _, _, _ => by cases h1
  | .own _, _, _, h1, _, _, _ => by cases h1
  | .obj _ _, _, _, h1, _, _, _ => by cases h1
  | .dic _ _, _, _, h1, _, _, _ => by cases h1
  | .odc _ _, _, _, h1, _, _, _ => by cases h1
  | .dit _ _, _, _, h1, _, _, _ => by cases h1
  | .odt _ _, _, _, h1, _, _, _ => by cases h1
theorem dpts_eq {s : Shared} {pins : List (Addr × Obj)} (hK : X.K = g.K) (Iv : Inv X pins σ H s) (s1 : Same I1 H) (s2 : Same I2 H) : ∀ {ds ds2 : List D} {vs : List V}, shBs ds = true → shBs ds2 = true → Reps g I1 H ds vs [] → Reps g I2 H ds2 vs [] → dpts ds = dpts ds2
  | [], _, _, _, _, r1, r2 => by cases r1; cases r2; rfl
  | d :: ds, [], _, _, _, r1, r2 => by cases r2; cases r1
  | d :: ds, d2 :: ds2, vs, h1, h2, r1, r2 => by
    unfold shBs at h1 h2
    obtain ⟨a1, b1⟩ := He.ba h1
    obtain ⟨a2, b2⟩ := He.ba h2
    obtain ⟨v, ws, rfl, x1, y1⟩ := Reps.un1 r1
    obtain ⟨v', ws', e, x2, y2⟩ := Reps.un1 r2
    cases e
    unfold dpts
    rw [dpt_eq hK Iv s1 s2 a1 a2 x1 x2, dpts_eq hK Iv s1 s2 b1 b2 y1 y2]
end
/-- an instance's own repr, within a list's -/
theorem under_own {A : Around} {E : Value → Shared → Prop} {s : Shared} {x C f : Addr} {ox : Obj} {od : Option Obj} {b : Nat} {K : PySem.W.Frag} {prog : Program} {w : World} {Q : Str → Shared → Prop} (hu : A.units < cLine) (hb : b ≤ sizeLine) (KX : K.In s.heap) (J : PySem.W.InstAt s.heap x ox C od)
    (hs : PySem.W.findIn K (.ref C) "__repr__" = some (some (.ref f))) (hf : PySem.W.isFn K (.ref f) = true)
    (h : wpAny (model prog w) A (call (.ref f) [.ref x]) (fun r s' => ∃ m tk, r = .str m tk ∧ Q m s') E s) : wpAny (model prog w) A (pyReprUnder b (.ref x)) Q E s := by
  refine wpAny_pyReprUnder_ref hb ?_
  unfold pyReprObjUnder pyReprObjBy
  refine wpAny_bind (wpAny_cRoomFor hu ?_)
  refine wpAny_bind (m := specialOf (.ref x) (Str.ofString "__repr__")) (wpAny_bind (J.type.here ((PySem.W.looks_findIn KX hs).here ?_)))
  rw [if_neg (by simp)]
  have one : wpAny (model prog w) A (callSpecialIfBoundBy? (fun g first => match reprUnder? g, first with
    | some twin, [self] => call twin [self, rawInt b]
    | _, _ => call g (first ++ [])) (.ref x) (Str.ofString "__repr__")) (fun r s' => ∃ m tk, r = some (.str m tk) ∧ Q m s') E s := by
    have fin : wpAny (model prog w) A (call (.ref f) ([.ref x] ++ []) >>= fun v => pure (some v)) (fun r s' => ∃ m tk, r = some (.str m tk) ∧ Q m s') E s :=
      wpAny_bind (thn h fun r s' ⟨m, tk, z, q⟩ => wpAny_pure ⟨m, tk, by rw [z], q⟩)
    simp only [callSpecialIfBoundBy?, bindSpecialIfBound?]
    refine wpAny_holding (wpAny_bind (wpAny_bind (wpAny_bind (J.type.here ((PySem.W.looks_findIn KX hs).here (wpAny_bind (wpAny_askSetting (wpAny_ite ?_))))))))
    split
    · exact wpAny_bind ((PySem.W.bind_fn KX _ (beq_iff_eq.mp hf)).here (wpAny_pure (by simpa [reprUnder?] using fin)))
    · exact wpAny_tryCatch (wpAny_bind ((PySem.W.bind_fn KX _ (beq_iff_eq.mp hf)).here (wpAny_pure (by simpa [reprUnder?] using fin))))
  refine wpAny_bind (thn one fun r s' hr => ?_)
  obtain ⟨m, tk, rfl, hq⟩ := hr
  refine wpAny_bind (wpAny_isInstance (typeIs_str _ _ _) isSubtype_str_str ?_)
  exact wpAny_pure ⟨_, _, rfl, hq⟩
/-- what stands around a part that is being shown: what is under way stands deeper than n -/
structure ShA (g : G) (X : Cx) (I H : Hp) (k n : Nat) (A : Around) : Prop where
  room : Room (k + n + 1) A
  fr : A.frames = X.A.frames
  gd : ∃ gl, A.guards = some gl ∧ ∀ id v rest kw, Code.builtin id ⟨v :: rest, kw⟩ ∈ gl → ∃ a d, v = .ref a ∧ shB d = true ∧ Rep g I H d (.ref a) [] ∧ n < dpt d
theorem ShA.mono {A : Around} {k n m : Nat} (h : ShA g X I H k n A) (l : m ≤ n) (si : Same I I') : ShA g X I' H' k m A := by
  obtain ⟨gl, e, q⟩ := h.gd
  refine ⟨h.room.mono (by omega), h.fr, gl, e, fun id v rest kw hm => ?_⟩
  obtain ⟨a, d, e1, e2, e3, e4⟩ := q id v rest kw hm
  exact ⟨a, d, e1, e2, e3.mono si (fun b hb => by cases hb), by omega⟩
theorem ShA.in1 {A : Around} {k n : Nat} (h : ShA g X I H k (n + 1) A) : ShA g X I H k n A.in1 :=
  ⟨Room.in1 (h.room.mono (by omega)), h.fr, h.gd.elim fun gl q => ⟨gl, q.1, fun id v rest kw hm => by
    obtain ⟨a, d, e1, e2, e3, e4⟩ := q.2 id v rest kw hm
    exact ⟨a, d, e1, e2, e3, by omega⟩⟩⟩
/-- d is shown as t -/
def ShOk (g : G) (X : Cx) (k : Nat) (d : D) (t : Str) : Prop :=
  ∀ (A : Around) (B : Bs) (I H : Hp) (ρ : List D) (σ σ' : L2.St) (ts : List D) (vs : List V) (pins : List (Addr × Obj)) (s : Shared) (v : V) (u : Value) (b : Nat) (Q : Str → Shared → Prop) (E : Value → Shared → Prop),
    ShA g X I H k (dpt d) A → StP g B I H ρ σ ts vs → Rep g I H d v [] → Inv X pins σ' H s → RelV v u → b + t.length ≤ sizeLine →
    (∀ I' H' s', Same I I' → StP g B I' H' ρ σ ts vs → Inv X pins σ' H' s' → Q t s') → wpAny (model X.prog X.w) A (pyReprUnder b u) Q E s
inductive ShAll (g : G) (X : Cx) (k : Nat) : List D → List Str → Prop
  | nil : ShAll g X k [] []
  | cons {d : D} {ds : List D} {t : Str} {ts : List Str} : shB d = true → ShOk g X k d t → ShAll g X k ds ts → ShAll g X k (d :: ds) (t :: ts)
theorem ShAll.length {k : Nat} : ∀ {ds : List D} {ts : List Str}, ShAll g X k ds ts → ts.length = ds.length
  | _, _, .nil => rfl
  | _, _, .cons _ _ r => by simp [r.length]
theorem ShAll.at {k : Nat} : ∀ {ds : List D} {ts : List Str} {i : Nat} {d : D}, ShAll g X k ds ts → ds[i]? = some d → ∃ t, ts[i]? = some t ∧ ShOk g X k d t ∧ dpt d ≤ dpts ds
  | _, _, 0, d, .cons (t := t) _ h r, e => by cases e; exact ⟨t, rfl, h, by unfold dpts; omega⟩
  | _, _, i + 1, d, .cons (d := d0) (ds := ds) _ h r, e => by
    obtain ⟨t, e1, e2, e3⟩ := r.at (i := i) e
    exact ⟨t, e1, e2, by unfold dpts; omega⟩
  | _, _, _, _, .nil, e => by cases e
theorem ShAll.shBs {k : Nat} : ∀ {ds : List D} {ts : List Str}, ShAll g X k ds ts → shBs ds = true
  | _, _, .nil => rfl
  | _, _, .cons h _ r => by unfold DV.shBs; rw [h, r.shBs]; rfl
/-- under a builtin that is looked for -/
structure Und (id : String) : Prop where
  hd : ∀ (A : Around) args, (A.under (.builtin id args)).handled = A.handled
  dp : ∀ (A : Around) args, (A.under (.builtin id args)).depth = A.depth + 1
  fr : ∀ (A : Around) args, (A.under (.builtin id args)).frames = A.frames
  gd : ∀ (A : Around) args, (A.under (.builtin id args)).guards = A.guards.map (Code.builtin id args :: ·)
  un : ∀ (A : Around) args, (A.under (.builtin id args)).units = A.units + 1
theorem und_of {id : String} (h1 : guardIds.contains id = true) (h2 : ∀ args, (Code.builtin id args).frames = 0) (h3 : ∀ args, (Code.builtin id args).isCreation = false) (h4 : ∀ args, (Code.builtin id args).isCaller = false) : Und id := by
  have g : ∀ args, (Code.builtin id args).isGuard = true := fun args => h1
  have f : ∀ args, (Code.builtin id args).isFrame = false := fun args => rfl
  refine ⟨fun A args => rfl, fun A args => ?_, fun A args => ?_, fun A args => ?_, fun A args => ?_⟩
  · show A.depth + (Code.builtin id args).weight = _
    simp [Code.weight, h2, h3, h4, g]
  · show pushEnvs (Code.builtin id args).envs A.frames = _
    simp [Code.envs, f, pushEnvs]
  · show pushGuards (Code.builtin id args).guards A.guards = _
    simp [Code.guards, g, pushGuards]
  · show A.units + (Code.builtin id args).cUnits = _
    simp [Code.cUnits, h2]
theorem und_loop : Und "list.__repr__.loop" := und_of (by decide +kernel) (fun _ => rfl) (fun _ => rfl) (fun _ => rfl)
theorem und_tup : Und "tuple.__repr__" := und_of (by decide +kernel) (fun _ => rfl) (fun _ => rfl) (fun _ => rfl)
theorem und_tupU : Und "tuple.__repr__.under" := und_of (by decide +kernel) (fun _ => rfl) (fun _ => rfl) (fun _ => rfl)
theorem ShA.under {A : Around} {k n : Nat} {id : String} {d : D} {a : Addr} {rest : List Value} {kw : List (Str × Value)} (U : Und id) (h : ShA g X I H k (n + 1) A) (hd : shB d = true) (r : Rep g I H d (.ref a) []) (hl : n < dpt d) :
    ShA g X I H k n (A.under (.builtin id ⟨.ref a :: rest, kw⟩)) := by
  obtain ⟨r1, r2, r3⟩ := h.room
  obtain ⟨gl, e, q⟩ := h.gd
  refine ⟨⟨by rw [U.hd]; exact r1, by rw [U.dp]; omega, by rw [U.un]; omega⟩, by rw [U.fr]; exact h.fr, Code.builtin id ⟨.ref a :: rest, kw⟩ :: gl, by rw [U.gd, e]; rfl, fun id' v rest' kw' hm => ?_⟩
  rcases List.mem_cons.mp hm with z | z
  · cases z
    exact ⟨a, d, rfl, hd, r, hl⟩
  · obtain ⟨a, d, e1, e2, e3, e4⟩ := q id' v rest' kw' z
    exact ⟨a, d, e1, e2, e3, by omega⟩
theorem seqLen {n : Nat} (h : n ≤ 100000) : n ≤ sizeLine := Nat.le_trans h (by decide)
theorem strs_of : ∀ {tx : List Str} {acc : List Value}, Vals (tx.map V.str) acc → ∃ dn : List (Str × Tok), acc = strValues dn ∧ dn.map (·.1) = tx
  | [], _, h => by cases h; exact ⟨[], rfl, rfl⟩
  | x :: tx, _, h => by
    cases h with
    | cons r rr =>
      obtain ⟨t, rfl⟩ := r
      obtain ⟨dn, rfl, e⟩ := strs_of rr
      exact ⟨(x, t) :: dn, rfl, by simp [e]⟩
theorem own_strs {P : Addr} {tx : List Str} {f : List Addr} (r : Rep g I H (.own (tx.map D.str)) (.ref P) f) : H P = some (.lst (tx.map V.str)) := by
  cases r with
  | own hp ri =>
    have go : ∀ {tx : List Str} {ws : List V} {f : List Addr}, Reps g I H (tx.map D.str) ws f → ws = tx.map V.str := by
      intro tx
      induction tx with
      | nil => intro ws f h; cases h; rfl
      | cons x tx ih =>
        intro ws f h
        cases h with
        | cons r rr => cases r; rw [ih rr]; rfl
    rw [hp, go ri]
/-- the loop over a list's items -/
theorem lst_loop {A : Around} {k b : Nat} {a P : Addr} {its : List D} {us : List V} {tx : List Str} {R : Result → Shared → Prop} {pins : List (Addr × Obj)} {σ' : L2.St} (sh : ShAll g X k its tx) (hsz : b + (listText tx).length ≤ sizeLine)
    (hR : ∀ I' H' s' u, Same I I' → StP g B I' H' ρ σ ts vs → Inv X pins σ' H' s' → R (.ok (.ret (.str (listText tx) u))) s') :
    ∀ (m i : Nat) (I1 H1 : Hp) (s : Shared), its.length - i = m → i ≤ its.length → Same I I1 → I1 a = some (.lst us) → Reps g I1 H1 its us [] → ShA g X I1 H1 k (dpts its + 1) A → StP g B I1 H1 ρ σ (ts ++ [.own ((tx.take i).map D.str)]) (vs ++ [.ref P]) → Inv X pins σ' H1 s →
      codeAny (model X.prog X.w) A (.builtin "list.__repr__.loop" ⟨[.ref a, rawInt i, .ref P, rawInt ((b + piled (tx.take i) : Nat) : Int)], []⟩) R s := by
  have hlen := sh.length
  have hX : (listText tx).length = (textFrom 0 "[" tx).length + 1 := by
    show (textFrom 0 "[" tx ++ "]").length = _
    rw [strLen_append]; rfl
  have hp3 := piled_le_listText tx
  have hmem := (textFrom_len tx 0 "[").2.1
  have hl1 := (textFrom_len tx 0 "[").1
  rw [if_neg (Nat.lt_irrefl 0)] at hl1
  intro m
  induction m with
  | zero =>
    intro i I1 H1 s hm hi si hI r sA h Iv
    have hin : i = its.length := by omega
    obtain ⟨vals, n, rv, eo, hz⟩ := Iv.lst (h.same _ _ hI)
    obtain ⟨f, rP⟩ := h.topRep
    obtain ⟨acc, c, rv2, eP, _⟩ := Iv.lst (own_strs rP)
    obtain ⟨dn, rfl, ed⟩ := strs_of rv2
    have hall : dn.map (·.1) = tx := by rw [ed, hin, ← hlen, List.take_length]
    have hsz' : vals.length = its.length := by rw [← rv.length]; exact r.length.symm
    refine codeAny_builtin PySem.F.entry_list_repr_loop ?_
    show wpAny _ _ (Builtin.«list.__repr__.loop» ⟨[.ref a, .int (i : Nat) 0, .ref P, .int ((b + piled (tx.take i) : Nat) : Int) 0], []⟩) _ _ s
    rw [repr_loop_tree]
    refine wpAny_bind (wpAny_listItems eo rfl ?_)
    have hnone : vals.toArray[((i : Nat) : Int).toNat]? = none := by simp; omega
    simp only [hnone]
    unfold reprEnd
    refine wpAny_bind (wpAny_listItems eP rfl ?_)
    rw [show (strValues dn).toArray.toList = strValues dn by simp, repr_fold, hall]
    refine wpAny_bind (wpAny_pure (wpAny_bind (wpAny_mkStr (wpAny_pure ?_) (show (listText tx).length ≤ sizeLine by omega))))
    exact hR I1 H1 _ _ si (h.pop (ds := [_]) (ws := [_]) rfl) (Iv.tok _)
  | succ m ih =>
    intro i I1 H1 s hm hi si hI r sA h Iv
    have hlt : i < its.length := by omega
    obtain ⟨vals, n, rv, eo, hz⟩ := Iv.lst (h.same _ _ hI)
    obtain ⟨f, rP⟩ := h.topRep
    obtain ⟨t, et, okt, hdp⟩ := sh.at (List.getElem?_eq_getElem hlt)
    obtain ⟨v, ev, rd⟩ := r.get (List.getElem?_eq_getElem hlt)
    obtain ⟨u, eu, ru⟩ := rv.get ev
    have hp1 := piled_take_succ et
    have hp2 := piled_take_le tx (i + 1)
    refine codeAny_builtin PySem.F.entry_list_repr_loop ?_
    show wpAny _ _ (Builtin.«list.__repr__.loop» ⟨[.ref a, .int (i : Nat) 0, .ref P, .int ((b + piled (tx.take i) : Nat) : Int) 0], []⟩) _ _ s
    rw [repr_loop_tree]
    refine wpAny_bind (wpAny_listItems eo rfl ?_)
    have hsome : vals.toArray[((i : Nat) : Int).toNat]? = some u := by simpa using eu
    simp only [hsome]
    rw [Int.toNat_natCast]
    have sA2 : ShA g X I1 H1 k (dpt its[i]) (A.under (.builtin "list.__repr__.loop" ⟨[.ref a, rawInt i, .ref P, rawInt ((b + piled (tx.take i) : Nat) : Int)], []⟩)) :=
      (sA.under (d := .lst its) und_loop (by unfold shB; exact sh.shBs) (.lst hI (r.mono (Same.refl _) fun b hb => by cases hb)) (by show dpts its < dpt (.lst its); unfold dpt; omega)).mono hdp (Same.refl _)
    refine wpAny_bind (wpAny_holding (okt _ B I1 H1 ρ σ σ' _ _ pins s v u (b + piled (tx.take i) + 1) _ _ sA2 h rd Iv ru (by omega) fun I2 H2 s2 si2 h2 Iv2 => ?_))
    refine wpAny_bind (wpAny_mkStr ?_ (by have := hmem t (List.mem_of_getElem? et); omega))
    refine wpAny_bind ?_
    show wpAny _ _ (updateSeq P _) _ _ _
    obtain ⟨f2, rP2⟩ := h2.topRep
    have hP2 := own_strs rP2
    obtain ⟨acc, c, rv2, eP, hz2⟩ := Iv2.lst hP2
    have hacc : acc.length = ((tx.take i).map V.str).length := rv2.length.symm
    have hti : (tx.take i).length ≤ i := by rw [List.length_take]; omega
    have hle : ((tx.take i).map V.str).length ≤ sizeLine := hz2
    refine wpAny_updateSeq eP rfl (wpAny_pure ⟨PySem.F.quiet_list_repr_loop _, ?_⟩) (by rw [List.size_toArray, hacc]; exact hle) (by simp [hacc]; omega)
    have e1 : ((i : Nat) : Int) + 1 = ((i + 1 : Nat) : Int) := by omega
    have e2 : b + piled (tx.take i) + (t.length + 2) = b + piled (tx.take (i + 1)) := by omega
    rw [e1, e2]
    have h3 := (h2.push (d := .str t) (v := .str t) .str).appTop
    obtain ⟨us3, hp3', hl3, h3⟩ := h3
    have eus : us3 = (tx.take i).map V.str := by rw [hP2] at hp3'; cases hp3'; rfl
    subst eus
    have etk : (tx.take i).map D.str ++ [D.str t] = (tx.take (i + 1)).map D.str := by rw [List.take_add_one, et]; simp
    rw [etk] at h3
    refine ih (i + 1) I2 _ _ (by omega) (by omega) (fun b o e => si2 b o (si b o e)) (si2 _ _ hI) (r.mono si2 fun b hb => by cases hb) (sA.mono (Nat.le_refl _) si2) h3 ?_
    refine Iv2.lset (its := acc) (its' := acc ++ [.str t s2.toks]) (n := c) (f := (·.push (.str t s2.toks))) hP2 eP (by simp) (rv2.append (.cons ⟨_, rfl⟩ .nil)) ?_
    simp
    omega
end
end DV

set_option Elab.async false
set_option maxRecDepth 100000
set_option maxHeartbeats 4000000
set_option linter.all false
/-! DV26: repr of lists and tuples that hold instances: the whole. -/
namespace DV
open PySem L2 PySem.Spec PyProof.Rows
section
variable {g : G} {X : Cx} {B : Bs} {I I1 I2 I' H H1 H2 H' : Hp} {ρ : List D} {σ σ' : L2.St} {ts ds xs ys its : List D} {vs ws us : List V} {d d2 : D} {v : V} {a : Addr} {c k b : Nat} {l : Fn} {tx : List Str} {s : Shared} {pins : List (Addr × Obj)} {A : Around} {R : Result → Shared → Prop}
/-- nothing that is under way is it -/
theorem ShA.clear (hK : X.K = g.K) (Iv : Inv X pins σ' H s) (si : Same I H) {n : Nat} (sA : ShA g X I H k n A) (hd : shB d = true) (r : Rep g I H d (.ref a) []) (hl : dpt d ≤ n) {gl : List Code} (hg : A.guards = some gl) :
    ∀ id v rest kw, Code.builtin id ⟨v :: rest, kw⟩ ∈ gl → ∃ a', v = .ref a' ∧ a' ≠ a := by
  intro id v rest kw hm
  obtain ⟨gl', e, q⟩ := sA.gd
  rw [hg] at e
  cases e
  obtain ⟨a', d', rfl, h1, h2, h3⟩ := q id v rest kw hm
  refine ⟨a', rfl, fun z => ?_⟩
  subst z
  have := dpt_eq hK Iv si si h1 hd h2 r
  omega
theorem lst_body (hK : X.K = g.K) (sh : ShAll g X k its tx) (hsz : b + (listText tx).length ≤ sizeLine) (sA : ShA g X I H k (dpts its + 1) A) (h : StP g B I H ρ σ ts vs) (hI : I a = some (.lst us)) (r : Reps g I H its us []) (Iv : Inv X pins σ' H s)
    (hR : ∀ I' H' s' u, Same I I' → StP g B I' H' ρ σ ts vs → Inv X pins σ' H' s' → R (.ok (.ret (.str (listText tx) u))) s') :
    wpAny (model X.prog X.w) A.in1 (Builtin.listReprAt b ⟨[.ref a], []⟩) (fun fin s' => match fin with | .done f => R (.ok f) s' | .again c' => c'.quiet = true ∧ codeAny (model X.prog X.w) A c' R s') (fun e s' => R (.error e) s') s := by
  obtain ⟨vals, n, rv, eo, hz⟩ := Iv.lst (h.same _ _ hI)
  cases its with
  | nil =>
    cases sh
    cases r
    cases rv
    refine wpAny_list_repr_empty eo rfl ?_
    have := hR I H { s with toks := s.toks + 1 } s.toks (Same.refl _) h (Iv.tok _)
    rw [listText_nil] at this
    exact this
  | cons d0 its =>
    obtain ⟨v0, us', rfl, r0, r1⟩ := Reps.un1 r
    obtain ⟨x0, vals', rfl⟩ : ∃ x l, vals = x :: l := by cases rv; exact ⟨_, _, rfl⟩
    obtain ⟨gl, hg, _⟩ := id sA.gd
    have cl := sA.clear hK Iv h.same (d := .lst (d0 :: its)) (by unfold shB; exact sh.shBs) (.lst hI r) (by show dpt (.lst _) ≤ _; unfold dpt; omega) hg
    refine wpAny_list_repr_head (A := A.in1) hg (fun v rest kw hm => ?_) eo rfl ?_
    · obtain ⟨a', rfl, ne⟩ := cl _ v rest kw hm
      show (a' == a) = false
      exact beq_eq_false_iff_ne.mpr ne
    · refine wpAny_bind (m := newList []) (wpAny_newObj_type (wpAny_pure ⟨PySem.F.quiet_list_repr_loop _, ?_⟩))
      have hp : H s.heap.objs.size = none := Iv.fresh
      have h2 := h.newL (xs := []) (us := []) hp .nil
      have Iv2 := Iv.lnew (its := []) (t' := s.toks) .nil (Nat.zero_le _)
      have go := lst_loop (b := b) (P := s.heap.objs.size) (a := a) (its := d0 :: its) (us := v0 :: us') (R := R) (pins := pins) (σ' := σ') sh hsz hR _ 0 I (upd H s.heap.objs.size (.lst [])) _ rfl (Nat.zero_le _) (Same.refl _) hI (r.mono (Same.refl _) fun b hb => by cases hb) (sA.mono (Nat.le_refl _) (Same.refl _)) h2 Iv2
      simpa [piled] using go
theorem tup_fold {A' : Around} {Q : (Array Str × Nat) → Shared → Prop} {E : Value → Shared → Prop} : ∀ {its : List D} {tx : List Str} {us : List V} {vals : List Value} {acc : Array Str} {n : Nat} {I1 H1 : Hp} {s : Shared}, ShAll g X k its tx → ShA g X I1 H1 k (dpts its) A' → StP g B I1 H1 ρ σ ts vs → Reps g I1 H1 its us [] → Vals us vals → Inv X pins σ' H1 s → n + piled tx ≤ sizeLine →
    (∀ I' H' s', Same I1 I' → StP g B I' H' ρ σ ts vs → Inv X pins σ' H' s' → Q ⟨acc ++ tx.toArray, n + piled tx⟩ s') → wpAny (model X.prog X.w) A' (forIn vals (⟨acc, n⟩ : (Array Str × Nat)) tupBody) Q E s
  | [], tx, us, vals, acc, n, I1, H1, s, sh, sA, h, r, rv, Iv, hn, hQ => by
    cases sh; cases r; cases rv
    have := hQ I1 H1 s (Same.refl _) h Iv
    rw [List.forIn_nil]
    exact wpAny_pure (by simpa [piled] using this)
  | d :: its, tx, us, vals, acc, n, I1, H1, s, sh, sA, h, r, rv, Iv, hn, hQ => by
    cases sh with
    | cons hd okd sh =>
      rename_i t tx
      obtain ⟨v, us, rfl, r0, r1⟩ := Reps.un1 r
      obtain ⟨u, vals', rfl, ru, rv'⟩ : ∃ u l, vals = u :: l ∧ RelV v u ∧ Vals us l := by cases rv with | cons a b => exact ⟨_, _, rfl, a, b⟩
      rw [piled_cons] at hn
      rw [List.forIn_cons]
      have m1 : dpt d ≤ dpts (d :: its) := by unfold dpts; omega
      have m2 : dpts its ≤ dpts (d :: its) := by conv => rhs; unfold dpts
                                                 omega
      refine wpAny_bind (wpAny_bind (okd A' B I1 H1 ρ σ σ' ts vs pins s v u (n + 1) _ _ (sA.mono m1 (Same.refl _)) h r0 Iv ru (by omega) fun I2 H2 s2 si h2 Iv2 => wpAny_pure ?_))
      refine tup_fold sh (sA.mono m2 si) h2 (r1.mono si fun b hb => by cases hb) rv' Iv2 (by omega) fun I3 H3 s3 si3 h3 Iv3 => ?_
      have z := hQ I3 H3 s3 (fun b o e => si3 b o (si b o e)) h3 Iv3
      have e : n + piled (t :: tx) = n + (t.length + 2) + piled tx := by rw [piled_cons]; omega
      rw [e] at z
      simpa using z
theorem tup_body (hK : X.K = g.K) {nm : String} (U : Und nm) {args : List Value} (sh : ShAll g X k its tx) (hsz : b + (tupleText tx).length ≤ sizeLine) (sA : ShA g X I H k (dpts its + 1) A) (h : StP g B I H ρ σ ts vs) (hI : TpAt g.K I a us) (r : Reps g I H its us []) (Iv : Inv X pins σ' H s)
    (hR : ∀ I' H' s' u, Same I I' → StP g B I' H' ρ σ ts vs → Inv X pins σ' H' s' → R (.ok (.ret (.str (tupleText tx) u))) s') :
    wpOwn (model X.prog X.w) A (.builtin nm ⟨.ref a :: args, []⟩) (Builtin.tupleReprAt b ⟨[.ref a], []⟩) (fun fin s' => match fin with | .done f => R (.ok f) s' | .again c' => c'.quiet = true ∧ codeAny (model X.prog X.w) A c' R s') (fun e s' => R (.error e) s') s := by
  obtain ⟨vals, rv, ⟨o, eo, hc, n, hd⟩, hz⟩ := Iv.tuple (hK ▸ (hI.same h.same).sq)
  have hlen := sh.length
  have hl2 : vals.length = its.length := by rw [← rv.length]; exact r.length.symm
  have hp := piled_le_tupleText tx
  obtain ⟨gl, hg, _⟩ := id sA.gd
  have cl := sA.clear hK Iv h.same (d := .tup its) (by unfold shB; exact sh.shBs) (.tup hI r) (by show dpt (.tup _) ≤ _; unfold dpt; omega) hg
  rw [tuple_repr_tree, tupleReprUnderWay_eq]
  refine wpOwn_bind (wpOwn_stackTailAny hg (tupGuardF_off _) (tupGuardF_pos _) ?_)
  have hno : (gl.any fun c => tupGuardF (.ref a) (c, default)) = false := by
    rw [List.any_eq_false]
    intro c hm
    cases c with
    | builtin id' args' =>
      obtain ⟨pos, kw⟩ := args'
      cases pos with
      | nil => simp [tupGuardF]
      | cons v rest =>
        obtain ⟨a', rfl, ne⟩ := cl id' v rest kw hm
        have : (Value.ref a' == Value.ref a) = false := beq_eq_false_iff_ne.mpr fun z => ne (by injection z)
        simp [tupGuardF, this]
    | _ => simp [tupGuardF]
  rw [hno]
  refine wpOwn_of_wpAny ?_
  have sA2 : ShA g X I H k (dpts its) (A.under (.builtin nm ⟨.ref a :: args, []⟩)) := sA.under (d := .tup its) U (by unfold shB; exact sh.shBs) (.tup hI r) (by show dpts its < dpt (.tup its); unfold dpt; omega)
  show wpAny _ _ (tupleReprRest b (.ref a)) _ _ _
  unfold tupleReprRest Builtin.Tuple.tupleItemsOf
  refine wpAny_bind (wpAny_bind (wpAny_seqItems eo hd (wpAny_pure ?_)))
  rw [← Array.forIn_toList]
  refine wpAny_bind (tup_fold sh sA2 h r (by simpa using rv) Iv (by omega) fun I2 H2 s2 si h2 Iv2 => ?_)
  have z := hR I2 H2 { s2 with toks := s2.toks + 1 } s2.toks si h2 (Iv2.tok _)
  refine wpAny_bind (wpAny_mkStr (wpAny_pure ?_) ?_)
  · simpa [tupleText, hlen, hl2] using z
  · have : (tupleText tx).length ≤ sizeLine := by omega
    simpa [tupleText, hlen, hl2] using this
/-- frozen arguments; what was fixed stays -/
theorem StP.callPS {Q : VK} {n : Nat} {sem : Fn} {o : D} {ws : List V} (h : StP g B I H ρ σ (ts ++ ds) (vs ++ ws)) (hl : ds.length = ws.length) (hs : sem (ds.map fz) = some (d, o)) (hn : ws.length = n)
    (k : ∀ I' H' v, Same I I' → StP g B I' H' ρ σ (ts ++ [d]) (vs ++ [v]) → Q v H') : spD g false n sem ws H Q E0 := by
  obtain ⟨I2, si, h2, rr⟩ := h.fzTop hl
  refine ⟨hn, I2, ds.map fz, [], d, o, h2.same, rr, List.nodup_nil, (fun b hb => by cases hb), hs, fun I' H' v f1 f2 si' sh' r _ e2 nd off kh ki kd => ?_⟩
  obtain rfl := e2 rfl
  obtain ⟨F1, F2, s1, s2, nd0, of0, hF⟩ := (h2.pop (by simpa using hl)).reps
  have th : ∀ b ∈ F1 ++ F2, ∃ u, H b = some u := fun b hb => (List.mem_append.mp hb).elim (s1.there b) (s2.there b)
  have kk : ∀ b ∈ F1 ++ F2, H' b = H b := fun b hb => by obtain ⟨u, e⟩ := th b hb; rw [e, kh b u e (by simp)]
  refine k I' H' v (fun b o e => si' b o (si b o e)) (h2.step hF si' sh' (fun b u e _ => kh b u e (by simp)) (fun b hb _ => by rw [kk b hb]; obtain ⟨u, e⟩ := th b hb; rw [e]; simp) (fun b z z' _ => ki b z z' (by simp)) ⟨F1, F2 ++ f1, s1.mono si' fun b hb => kk b (by grind), (s2.mono si' fun b hb => kk b (by grind)).append (Reps.one r), ?_, fun b hb => ?_⟩)
  · have : ∀ b ∈ f1, b ∉ F1 ++ F2 := fun b hb z => by
      have h3 := (off b (by simp [hb])).2
      obtain ⟨u, e⟩ := th b z
      rcases h3 with q | q
      · cases q
      · rw [q] at e; cases e
    rw [List.append_nil] at nd
    grind
  · by_cases q : b ∈ F1 ++ F2
    · exact ⟨ki b (of0 b q) (by obtain ⟨u, e⟩ := th b q; rw [e]; simp) (by simp), .inl q⟩
    · have : b ∈ f1 := by grind
      have h3 := off b (by simp [this])
      exact ⟨h3.1, .inr (by rcases h3.2 with z | z; cases z; exact z)⟩
theorem sh_leaf {t : Str} (hr : ∀ (u : Value), RelV v u → ReprIs X.prog X.w u t) (hv : ∀ I H v', Rep g I H d v' [] → v' = v) : ShOk g X k d t := by
  intro A B I H ρ σ σ' ts vs pins s v' u b Q E sA h r Iv rv hb hQ
  obtain rfl := hv _ _ _ r
  exact hr u rv b hb A E s Q fun tk => hQ I H _ (Same.refl _) h (Iv.tok tk)
theorem sh_lst (hK : X.K = g.K) (sh : ShAll g X k its tx) : ShOk g X k (.lst its) (listText tx) := by
  intro A B I H ρ σ σ' ts vs pins s v u b Q E sA h r Iv rv hb hQ
  obtain ⟨a, us, rfl, _, hI, ri⟩ := r.lst_i
  obtain rfl : u = Value.ref a := rv
  have sA' : ShA g X I H k (dpts its + 1) A := by
    have := sA
    unfold dpt at this
    exact this
  obtain ⟨vals, n, rv, eo, hz⟩ := Iv.lst (h.same _ _ hI)
  have hT : s.TypeIs (.ref a) "list" := ⟨_, eo, rfl⟩
  refine wpAny_pyReprUnder_ref (by omega) (wpAny_pyReprObjUnder_twin (twin := "list.__repr__.under") hT PySem.F.slot_list_repr.toG rfl (by have := sA.room.un; omega) ?_)
  refine call_twin_plain PySem.F.plain_list_repr_under PySem.F.entry_list_repr_under PySem.F.check_list_repr_under hT PySem.F.slot_list_repr.toG (PySem.F.args_list_repr_1 _) ?_
  exact lst_body (R := callEnd (fun v s' => (∃ x u, v = .str x u) ∧ ∃ x u, v = .str x u ∧ Q x s') E) hK sh hb sA' h hI ri Iv fun I' H' s' u' si h' Iv' => ⟨⟨_, _, rfl⟩, _, _, rfl, hQ I' H' s' si h' Iv'⟩
theorem sh_tup (hK : X.K = g.K) (sh : ShAll g X k its tx) : ShOk g X k (.tup its) (tupleText tx) := by
  intro A B I H ρ σ σ' ts vs pins s v u b Q E sA h r Iv rv hb hQ
  obtain ⟨a, us, rfl, _, hI, ri⟩ := r.tup_i
  obtain rfl : u = Value.ref a := rv
  have sA' : ShA g X I H k (dpts its + 1) A := by
    have := sA
    unfold dpt at this
    exact this
  obtain ⟨vals, rv, ⟨o, eo, hc, n, hd⟩, hz⟩ := Iv.tuple (hK ▸ (hI.same h.same).sq)
  have hT : s.TypeIs (.ref a) "tuple" := ⟨_, eo, hc⟩
  refine wpAny_pyReprUnder_ref (by omega) (wpAny_pyReprObjUnder_twin (twin := "tuple.__repr__.under") hT PySem.F.slot_tuple_repr rfl (by have := sA.room.un; omega) ?_)
  refine call_twin_own (PySem.F.quiet_tuple_repr_under _) PySem.F.entry_tuple_repr_under PySem.F.check_tuple_repr_under hT PySem.F.slot_tuple_repr (PySem.F.args_tuple_repr_1 _) ?_
  exact tup_body (R := callEnd (fun v s' => (∃ x u, v = .str x u) ∧ ∃ x u, v = .str x u ∧ Q x s') E) hK und_tupU sh hb sA' h hI ri Iv fun I' H' s' u' si h' Iv' => ⟨⟨_, _, rfl⟩, _, _, rfl, hQ I' H' s' si h' Iv'⟩
/-- what a caller of repr knows of the class's own -/
structure RpOk (g : G) (X : Cx) (c : Nat) (l : Fn) : Prop where
  ex : ∃ (C f : Addr) (fd : FuncData) (ps : List Str) (k : Nat), g.cls c = some C ∧ Meth X.K C "__repr__" f ∧ Binds X.K fd ps [] ∧ Room (k + 14) X.A ∧ FnD X.prog X.w X.K X.mg X.base false k f fd ps (spD g false 1 l)
theorem sh_ins {C fa : Addr} {fd : FuncData} {ps : List Str} {t : Str} {o : D} (hC : g.cls c = some C) (me : Meth X.K C "__repr__" fa) (bi : Binds X.K fd ps []) (F : FnD X.prog X.w X.K X.mg X.base false k fa fd ps (spD g false 1 l))
    (e : l [.ins c xs] = some (.str t, o)) : ShOk g X k (.ins c xs) t := by
  intro A B I H ρ σ σ' ts vs pins s v u b Q E sA h r Iv rv hb hQ
  obtain ⟨C', a, dx, us, rfl, _, hC', hI, ri⟩ := r.ins_i
  rw [hC] at hC'
  cases hC'
  obtain rfl : u = Value.ref a := rv
  obtain ⟨od, J⟩ := inst_at Iv (h.same _ _ hI)
  have rm := sA.room
  have e0 : Env0 X.prog X.w X.K X.mg X.base A X.stack s H := by
    have z := Iv.env0
    exact ⟨by rw [sA.fr]; exact z.frames, z.mod, z.bs, z.bsz, z.funs, z.frf, z.hok, z.bare⟩
  refine under_own (by have := rm.un; omega) (by omega) Iv.kIn J me.at_ me.fn ?_
  have h5 : StP g B I H ρ σ (ts ++ [.ins c xs]) (vs ++ [.ref a]) := h.push r
  have run := run_at (gd := false) (E' := E) (vs := [.ref a]) (dvs := []) (Q := fun z H' => z = .str t ∧ ∃ I', Same I I' ∧ StP g B I' H' ρ σ ts vs) F (rm.mono (by omega)) (fun z => nomatch z) e0 bi .nil Iv (.cons rfl .nil)
    (StP.callPS (ds := [.ins c xs]) h5 rfl e rfl fun I' H' v si h' => ⟨h'.topStr.1, I', si, h'.topStr.2⟩)
  refine thn run fun u' s' ⟨z, H', Iv', rz, ez, I2, si, h2⟩ => ?_
  subst ez
  obtain ⟨tk, rfl⟩ := rz
  exact ⟨t, tk, rfl, hQ I2 H' s' si h2 Iv'⟩
mutual
theorem sh_ok (hK : X.K = g.K) {C fa : Addr} {fd : FuncData} {ps : List Str} (hC : g.cls c = some C) (me : Meth X.K C "__repr__" fa) (bi : Binds X.K fd ps []) (F : FnD X.prog X.w X.K X.mg X.base false k fa fd ps (spD g false 1 l)) : ∀ {d : D} {t : Str}, shD c l d = some t → shB d = true ∧ ShOk g X k d t
  | .lst xs, t, e => by
    unfold shD at e
    obtain ⟨tx, e1, rfl⟩ := Option.map_eq_some_iff.mp e
    have z := shs_ok hK hC me bi F e1
    exact ⟨by unfold shB; exact z.shBs, sh_lst hK z⟩
  | .tup xs, t, e => by
    unfold shD at e
    obtain ⟨tx, e1, rfl⟩ := Option.map_eq_some_iff.mp e
    have z := shs_ok hK hC me bi F e1
    exact ⟨by unfold shB; exact z.shBs, sh_tup hK z⟩
  | .ins c' xs, t, e => by
    unfold shD at e
    split at e
    · rename_i hc
      subst hc
      split at e
      · rename_i y o e1
        cases e
        exact ⟨rfl, sh_ins hC me bi F e1⟩
      · cases e
    · cases e
  | .non, t, e => by unfold shD at e; cases e; exact ⟨rfl, sh_leaf (v := .non) (fun u r => by cases (show u = Value.none from r); exact ReprIs.none) fun I H v' r => by cases r; rfl⟩
  | .bl b, t, e => by unfold shD at e; cases e; exact ⟨rfl, sh_leaf (v := .bl b) (fun u r => by cases (show u = Value.bool b from r); exact ReprIs.bool b) fun I H v' r => by cases r; rfl⟩
  | .int i, t, e => by
    unfold shD at e
    split at e
    · rename_i hl
      cases e
      exact ⟨rfl, sh_leaf (v := .int i) (fun u r => by obtain ⟨tk, rfl⟩ := r; exact ReprIs.int tk hl) fun I H v' r => by cases r; rfl⟩
    · cases e
  | .str x, t, e => by
    unfold shD at e
    split at e
    · rename_i hl
      cases e
      exact ⟨rfl, sh_leaf (v := .str x) (fun u r => by obtain ⟨tk, rfl⟩ := r; exact ReprIs.str x tk (line100 hl)) fun I H v' r => by cases r; rfl⟩
    · cases e
  | .und, t, e => by unfold shD at e; cases e
  | .ty _, t, e => by unfold shD at e; cases e
  | .cls _, t, e => by unfold shD at e; cases e
  | .con _, t, e => by unfold shD at e; cases e
  | .own _, t, e => by unfold shD at e; cases e
  | .obj _ _, t, e => by unfold shD at e; cases e
theorem shs_ok (hK : X.K = g.K) {C fa : Addr} {fd : FuncData} {ps : List Str} (hC : g.cls c = some C) (me : Meth X.K C "__repr__" fa) (bi : Binds X.K fd ps []) (F : FnD X.prog X.w X.K X.mg X.base false k fa fd ps (spD g false 1 l)) : ∀ {ds : List D} {tx : List Str}, shDs c l ds = some tx → ShAll g X k ds tx
  | [], tx, e => by unfold shDs at e; cases e; exact .nil
  | d :: r, tx, e => by
    unfold shDs at e
    split at e
    · rename_i t ts e1 e2
      cases e
      obtain ⟨z1, z2⟩ := sh_ok hK hC me bi F e1
      exact .cons z1 z2 (shs_ok hK hC me bi F e2)
    · cases e
end
/-- repr, the class c with its own -/
def reprS (c : Nat) (l : Fn) : List D → Option D
  | [d] => match shD c l d with
    | some t => if t.length ≤ 100000 ∧ dpt d ≤ 10 then some (.str t) else none
    | none => none
  | _ => none
theorem snd_reprS (hK : X.K = g.K) (hg : X.A.guards = some []) (M : RpOk g X c l) : SndC g X (.builtin "repr") (reprS c l) := by
  obtain ⟨C, fa, fd, ps, k, hC, me, bi, ro, F⟩ := M.ex
  intro B I H ρ σ ts vs ds xs d Q h rr e kk
  unfold reprS at e
  split at e
  · rename_i d0
    split at e
    · rename_i t et
      split at e <;> cases e
      rename_i hl
      obtain ⟨x, rfl, r1⟩ := rr.ones
      obtain ⟨hb, ok⟩ := sh_ok hK hC me bi F et
      intro pins s σ' us Iv rv
      obtain ⟨u, rfl, ru⟩ := vals1 rv
      have rm : Room (k + dpt d0 + 1) X.A.in1 := Room.in1 (ro.mono (by omega))
      have un := ro.un
      have sA : ∀ n, n ≤ 11 → ShA g X I H k n X.A.in1 := fun n hn => ⟨Room.in1 (ro.mono (by omega)), rfl, [], hg, fun _ _ _ _ z => by cases z⟩
      have fin : ∀ I' H' s' tk, StP g B I' H' ρ σ ts vs → Inv X pins σ' H' s' → EP X pins σ' Q (.str t tk) s' := fun I' H' s' tk h' Iv' => ⟨.str t, H', Iv', ⟨tk, rfl⟩, kk I' H' _ (h'.push .str)⟩
      have sz : t.length ≤ sizeLine := line100 hl.1
      -- by what stands there
      cases d0 with
      | lst its =>
        unfold shD at et
        obtain ⟨tx, e1, rfl⟩ := Option.map_eq_some_iff.mp et
        have sh := shs_ok hK hC me bi F e1
        obtain ⟨a, us, rfl, _, hI, ri⟩ := r1.lst_i
        obtain rfl : u = Value.ref a := ru
        obtain ⟨vals, n, rv, eo, hz⟩ := Iv.lst (h.same _ _ hI)
        have hT : s.TypeIs (.ref a) "list" := ⟨_, eo, rfl⟩
        have hd : dpts its + 1 ≤ 10 := by have := hl.2; unfold dpt at this; exact this
        refine call_repr_slot (by omega) hT PySem.F.slot_list_repr.toG ?_
        refine wpAny_call (codeAny_call_builtin PySem.F.slot_list_repr.plain PySem.F.entry_list_repr (PySem.F.slot_list_repr.check _ _ _ _ _ _ _ _ hT (PySem.F.args_list_repr_1 _) ?_))
        exact lst_body (R := callEnd (fun r s₁ => ∃ x t, r = .str x t ∧ EP X pins σ' Q r s₁) X.xe) (b := 0) hK sh (by omega) (sA _ (by omega)) h hI ri Iv fun I' H' s' u' si h' Iv' => ⟨_, _, rfl, fin I' H' s' u' h' Iv'⟩
      | tup its =>
        unfold shD at et
        obtain ⟨tx, e1, rfl⟩ := Option.map_eq_some_iff.mp et
        have sh := shs_ok hK hC me bi F e1
        obtain ⟨a, us, rfl, _, hI, ri⟩ := r1.tup_i
        obtain rfl : u = Value.ref a := ru
        obtain ⟨vals, rv, ⟨o, eo, hc, n, hd⟩, hz⟩ := Iv.tuple (hK ▸ (hI.same h.same).sq)
        have hT : s.TypeIs (.ref a) "tuple" := ⟨_, eo, hc⟩
        have hd : dpts its + 1 ≤ 10 := by have := hl.2; unfold dpt at this; exact this
        refine call_repr_slot (by omega) hT PySem.F.slot_tuple_repr ?_
        refine wpAny_call (codeAny_call_builtin_own (Code.quiet_builtin _ (by decide +kernel)) PySem.F.entry_tuple_repr (PySem.F.slot_tuple_repr.check _ _ _ _ _ _ _ _ hT (PySem.F.args_tuple_repr_1 _) ?_))
        exact tup_body (R := callEnd (fun r s₁ => ∃ x t, r = .str x t ∧ EP X pins σ' Q r s₁) X.xe) (b := 0) hK und_tup sh (by omega) (sA _ (by omega)) h hI ri Iv fun I' H' s' u' si h' Iv' => ⟨_, _, rfl, fin I' H' s' u' h' Iv'⟩
      | ins c' ys =>
        unfold shD at et
        split at et
        · rename_i hc
          subst hc
          split at et
          · rename_i y o e1
            cases et
            obtain ⟨C', a, dx, us, rfl, _, hC', hI, ri⟩ := r1.ins_i
            rw [hC] at hC'
            cases hC'
            obtain rfl : u = Value.ref a := ru
            obtain ⟨od, J⟩ := inst_at Iv (h.same _ _ hI)
            refine repr_ownK (by show X.A.units + 1 < _; omega) Iv.kIn J me.at_ me.fn ?_
            refine thn (call_str (Q := Q) F bi (Room.in1 (ro.mono (by omega))) h r1 Iv Iv.env0.in1 rfl rfl e1 fun I' H' h' => kk I' H' _ (h'.push .str)) fun w' s' ⟨tk, e2, q⟩ => ⟨_, tk, e2, by subst e2; exact q⟩
          · cases et
        · cases et
      | non => unfold shD at et; cases et; cases r1; cases (show u = Value.none from ru); exact PySem.P.repr_of_none (fin _ _ _ _ h (Iv.tok _))
      | bl b => unfold shD at et; cases et; cases r1; cases (show u = Value.bool b from ru); exact PySem.P.repr_of_bool (fin _ _ _ _ h (Iv.tok _))
      | int i =>
        unfold shD at et
        split at et
        · rename_i hi
          cases et
          obtain ⟨rfl, _⟩ := r1.int_i
          obtain ⟨tk, rfl⟩ := ru
          exact PySem.P.repr_of_int hi (fin _ _ _ _ h (Iv.tok _))
        · cases et
      | str y =>
        unfold shD at et
        split at et
        · rename_i hi
          cases et
          cases r1
          obtain ⟨tk, rfl⟩ := ru
          exact PySem.P.repr_of_str (fin _ _ _ _ h (Iv.tok _)) (line100 hi)
        · cases et
      | _ => unfold shD at et; cases et
    · cases e
  · cases e
end
end DV

set_option Elab.async false
set_option maxRecDepth 100000
set_option maxHeartbeats 4000000
set_option linter.all false
/-! DV27: keywords in any sequence. -/
namespace DV
open PySem L2 PySem.Spec PyProof.Rows
def permD (is : List Nat) (ds : List D) : List D := is.map fun i => ds.getD i .non
def permV (is : List Nat) (vs : List V) : List V := is.map fun i => vs.getD i .non
def permU (is : List Nat) (us : List Value) : List Value := is.map fun i => us.getD i .none
/-- a def by arguments in another sequence -/
def permF (is : List Nat) (fn : Fn) : Fn := fun ds => fn (permD is ds)
section
variable {g : G} {X : Cx} {B : Bs} {I I' H H' : Hp} {ρ : List D} {σ σ' : L2.St} {ts ds : List D} {vs ws zs : List V} {d : D} {pins : List (Addr × Obj)} {s : Shared} {n : Nat} {ks ps : List Str} {fn : Fn} {gd : Bool} {is : List Nat} {x qual : Str} {params : Arguments} {body : List Stmt} {scope sc : Scope} {kws0 : List (Str × V)} {f : Addr} {es : List Expr} {kws : List Keyword} {r : Dens} {p pos : Pos} {N : List Str} {fc : Str → Bool}
theorem permVals {xs : List V} {us : List Value} (r : Vals xs us) (is : List Nat) : Vals (permV is xs) (permU is us) := by
  induction is with
  | nil => exact .nil
  | cons i is ih =>
    refine .cons ?_ ih
    show L2.RelV (xs.getD i .non) (us.getD i .none)
    cases e : xs[i]? with
    | none =>
      have e2 : us[i]? = none := by rw [List.getElem?_eq_none_iff] at e ⊢; rw [← r.length]; exact e
      simp [List.getD, e, e2, L2.RelV]
    | some x =>
      obtain ⟨u, eu, ru⟩ := r.get e
      simp [List.getD, e, eu, ru]
theorem permReps {xs : List V} (r : Reps g I H ds xs []) (is : List Nat) : Reps g I H (permD is ds) (permV is xs) [] := by
  induction is with
  | nil => exact .nil
  | cons i is ih =>
    refine .cons (f1 := []) (f2 := []) ?_ ih
    show Rep g I H (ds.getD i .non) (xs.getD i .non) []
    cases e : ds[i]? with
    | none =>
      have e2 : xs[i]? = none := by rw [List.getElem?_eq_none_iff] at e ⊢; rw [← r.length]; exact e
      simp [List.getD, e, e2]
      exact .non
    | some x =>
      obtain ⟨u, eu, ru⟩ := r.get e
      simp [List.getD, e, eu]
      exact ru
theorem StP.pushes (h : StP g B I H ρ σ ts vs) (r : Reps g I H ds ws []) : StP g B I H ρ σ (ts ++ ds) (vs ++ ws) := by
  obtain ⟨F1, F2, h1, h2, nd, of, hF⟩ := h.reps
  exact h.step hF (Same.refl _) h.same (fun _ _ e _ => e) (fun _ _ z => z) (fun _ z _ _ => z) ⟨F1, F2, h1, by simpa using h2.append r, nd, fun b hb => ⟨of b hb, .inl hb⟩⟩
theorem permD_fz {is : List Nat} {ds : List D} : (permD is (ds.map fz)).map fz = permD is (ds.map fz) := by
  unfold permD
  rw [List.map_map]
  refine List.map_congr_left fun i _ => ?_
  show fz ((ds.map fz).getD i .non) = (ds.map fz).getD i .non
  simp only [List.getD, List.getElem?_map]
  cases ds[i]? with
  | none => rfl
  | some d => exact fz_fz d
/-- a call binds so: keywords in any sequence -/
structure KwP (K : PySem.W.Frag) (fd : FuncData) (ps : List Str) (n : Nat) (ks : List Str) (is : List Nat) : Prop where
  to : ∀ (s : Shared) (us ws : List Value), K.In s.heap → us.length = n → ws.length = ks.length → BindsTo s fd ⟨us, ks.zip ws⟩ (ps.zip (permU is (us ++ ws)))
structure CallPOk (X : Cx) (x : Str) (gd : Bool) (n : Nat) (ks : List Str) (is : List Nat) (sp : Sp) : Prop where
  ex : ∃ (f : Addr) (fd : FuncData) (ps : List Str) (k : Nat), X.mg x = some (.ref f) ∧ PySem.W.keepIn X.K (.ref f) = true ∧ KwP X.K fd ps n ks is ∧ Room k X.A ∧ (gd = true → X.A.guards = some []) ∧ FnD X.prog X.w X.K X.mg X.base gd k f fd ps sp
theorem KwP.of {K : PySem.W.Frag} {fd : FuncData} (F : L2.FunD K x qual params body scope [] kws0 f fd) (h : ∀ (kV doc pm : Value) (an : Option Addr) (cdv ct : Value) (us ws : List Value), us.length = n → ws.length = ks.length →
    bindArgs (PySem.W.fnOf x qual params body scope .none kV doc pm an cdv ct) ⟨us, ks.zip ws⟩ = pure (ps.zip (permU is (us ++ ws)))) : KwP K fd ps n ks is := by
  obtain ⟨oc, od, dV, kV, doc, pm, an, cdv, ct, osl, rfl, lk, hcd, hD, hK⟩ := F.ex
  rcases hD with ⟨_, rfl⟩ | ⟨e, _⟩
  · exact ⟨fun s us ws _ l1 l2 => .of_eq (h kV doc pm an cdv ct us ws l1 l2)⟩
  · exact absurd rfl e
theorem snd_callKp (C : CallPOk X x gd n ks is (spD g false is.length fn)) (hg : Gl X x) (hd : (x == ("__debug__" : Str)) = false) (hs : noStars es = true) (hn : es.length = n) (F : KwF X.env pos kws ks) (hr : SndA g X es kws r) :
    SndE g X (.Call (.Name x p) es kws pos) (dCallP (permF is fn) r) := by
  intro B I H ρ σ ts vs d ρ' Q h q k
  refine ⟨fun pins s Iv => ?_⟩
  obtain ⟨f, fd, ps, kk, hm, hk, hb, ro, hgd, Fn⟩ := C.ex
  unfold dCallP at q
  cases q1 : r ρ with
  | none => rw [q1] at q; cases q
  | some z =>
    obtain ⟨ds, ρ1⟩ := z
    rw [q1] at q
    dsimp only at q
    cases q2 : permF is fn (ds.map fz) with
    | none => rw [q2] at q; cases q
    | some z =>
      obtain ⟨d0, o⟩ := z
      rw [q2] at q; cases q
      refine wpAny_Call_Name_kw (ld_glob Iv hg hm ?_ hd)
      refine cw_mx (first := []) hk hs F Iv (hr B I H ρ σ ts vs ds _ _ h q1 fun I1 H1 ws zs h1 hl hw hz => ?_)
      intro us wsv s2 I2 rv rz
      obtain ⟨I3, si, h2, rr⟩ := h1.fzTop hl
      have h3 := (h2.pop (by simpa using hl)).pushes (permReps rr is)
      have e : fn ((permD is (ds.map fz)).map fz) = some (d, o) := by rw [permD_fz]; exact q2
      have sp := h3.callP (n := is.length) (by simp [permD, permV]) e (by simp [permV]) k
      refine wpAny_call (codeAny_mono (Fn.run X.A X.stack s2 H1 ⟨us, ks.zip wsv⟩ _ _ Q E0 ro hgd I2.env0 (hb.to s2 us wsv I2.kIn (rv.length.symm.trans (hw.trans hn)) (rz.length.symm.trans (hz.trans F.len))) (permVals (rv.append rz) is) sp) fun r s' hq => ?_)
      cases r with
      | error e => exact hq.elim
      | ok fl =>
        cases fl with
        | ret u => exact I2.after hq
        | next => exact False.elim hq
        | brk => exact False.elim hq
        | cont => exact False.elim hq
theorem Cok.callKp (c : Cok g N sc fc X) (C : CallPOk X x gd n ks is (spD g false is.length fn)) (h : okG sc x = true) (hs : noStars es = true) (hn : es.length = n) (F : KwF X.env pos kws ks) (hr : SndA g X es kws r) : SndE g X (.Call (.Name x p) es kws pos) (dCallP (permF is fn) r) := let v := c.gok h; snd_callKp C v.g v.d hs hn F hr
end
end DV

set_option Elab.async false
set_option maxRecDepth 100000
set_option maxHeartbeats 4000000
set_option linter.all false
/-! DV28: lists within lists, changed by place. -/
namespace DV
open PySem L2 PySem.Spec PyProof.Rows
section
variable {g : G} {X : Cx} {B : Bs} {I I' H H' : Hp} {ρ : List D} {σ : L2.St} {ts ds xs ys ys' : List D} {vs ws ws' us us' : List V} {d : D} {v : V} {i j k : Nat}
/-- a list within the list of slot i is changed: ys to ys', with the values ds -/
theorem StP.own2 (h : StP g B I H ρ σ (ts ++ ds) (vs ++ us')) (hl : ds.length = us'.length) (e : ρ[i]? = some (.own xs)) (ek : xs[k]? = some (.own ys)) :
    ∃ p us b ws, σ[i]? = some (some (.ref p)) ∧ H p = some (.lst us) ∧ us.length = xs.length ∧ us[k]? = some (.ref b) ∧ H b = some (.lst ws) ∧ ws.length = ys.length ∧
      ∀ ys' ws', (∀ f fd, Reps g I H ys ws f → Reps g I H ds us' fd → ∃ f', (∀ H', (∀ b ∈ f ++ fd, H' b = H b) → Reps g I H' ys' ws' f') ∧ ((f ++ fd).Nodup → f'.Nodup) ∧ ∀ b ∈ f', b ∈ f ++ fd) →
        StP g B I (upd H b (.lst ws')) (ρ.set i (.own (xs.set k (.own ys')))) σ ts vs := by
  obtain ⟨F1, F2, h1, h2, nd, of, hF⟩ := h.reps
  obtain ⟨fa, fd, rfl, r1, r2⟩ := h2.split' hl
  obtain ⟨w, A, f, C, es, rfl, r, put⟩ := h1.at e (by simp)
  cases r with
  | own hp ri =>
    rename_i p us f0
    obtain ⟨v1, A0, f1, C0, ev, rfl, ry, put0⟩ := ri.item ek
    cases ry with
    | own hb ryi =>
      rename_i b ws f2
      refine ⟨p, us, b, ws, es, hp, ri.length.symm, ev, hb, ryi.length.symm, fun ys' ws' mk => ?_⟩
      obtain ⟨f', m1, m2, m3⟩ := mk f2 fd ryi r2
      have all : (A ++ (p :: (A0 ++ (b :: f2 ++ C0)) ++ C) ++ (fa ++ fd)).Nodup := nd
      have kk : ∀ q, q ≠ b → upd H b (.lst ws') q = H q := fun q hq => upd_ne hq
      have nb : ∀ q, q ∈ A ++ C ++ (A0 ++ C0) ++ f2 ++ (fa ++ fd) ++ [p] → q ≠ b := fun q hq z => by
        subst z
        clear put put0 mk m1 m2 m3 kk
        simp only [List.nodup_append, List.nodup_cons, List.mem_append, List.mem_cons, List.not_mem_nil, or_false, List.cons_append] at all hq
        grind
      have k1 := put0 (d' := .own ys') (Same.refl I) (fun q hq => kk q (nb q (by clear all nd of hF; simp at hq ⊢; grind))) (.own (H := upd H b (.lst ws')) upd_same (m1 _ fun q hq => kk q (nb q (by clear all nd of hF; simp at hq ⊢; grind))))
      rw [set_same ev] at k1
      have k2 := put (d' := .own (xs.set k (.own ys'))) (Same.refl I) (fun q hq => kk q (nb q (by clear all nd of hF; simp at hq ⊢; grind))) (.own ((kk p (nb p (by simp))).trans hp) k1)
      rw [set_same es] at k2
      have nI : I b = none := of b (by simp)
      refine h.step hF (Same.refl _) (fun q u e => ?_) (fun q u e hq => ?_) (fun q hq z => ?_) (fun _ z _ _ => z) ⟨_, fa, k2, r1.mono (Same.refl _) fun q hq => kk q (nb q (by clear all nd of hF; simp; grind)), ?_, fun q hq => ?_⟩
      · rw [upd_ne (fun z => by subst z; rw [nI] at e; cases e)]
        exact h.same q u e
      · rw [upd_ne (fun z => hq (by subst z; simp))]
        exact e
      · by_cases w : q = b
        · subst w; rw [upd_same]; simp
        · rw [upd_ne w]; exact z
      · have m2' := m2 (by
          clear put put0 mk m1 m2 m3 kk nb k1 k2
          simp only [List.nodup_append, List.nodup_cons, List.mem_append, List.mem_cons, List.cons_append] at all ⊢
          grind)
        clear put put0 mk m1 m2 kk nb k1 k2 nd
        simp only [List.nodup_append, List.nodup_cons, List.mem_append, List.mem_cons, List.cons_append] at all m3 ⊢
        grind
      · have hq' : q ∈ A ++ (p :: (A0 ++ (b :: f2 ++ C0)) ++ C) ++ (fa ++ fd) := by
          clear put put0 mk m1 m2 kk nb k1 k2 nd all of hF
          simp only [List.mem_append, List.mem_cons, List.cons_append] at hq m3 ⊢
          grind
        exact ⟨of q (by simpa using hq'), .inl (by simpa using hq')⟩
/-- an item of the inner list is read (and frozen) -/
theorem StP.own2Read {m : Nat} (h : StP g B I H ρ σ ts vs) (e : ρ[i]? = some (.own xs)) (ek : xs[k]? = some (.own ys)) (em : ys[m]? = some d) :
    ∃ p us b ws v I', σ[i]? = some (some (.ref p)) ∧ H p = some (.lst us) ∧ us.length = xs.length ∧ us[k]? = some (.ref b) ∧ H b = some (.lst ws) ∧ ws.length = ys.length ∧ ws[m]? = some v ∧
      StP g B I' H (ρ.set i (.own (xs.set k (.own (ys.set m (fz d)))))) σ (ts ++ [fz d]) (vs ++ [v]) := by
  obtain ⟨F1, F2, h1, h2, nd, of, hF⟩ := h.reps
  obtain ⟨w, A, f, C, es, rfl, r, put⟩ := h1.at e (by simp)
  cases r with
  | own hp ri =>
    rename_i p us f0
    obtain ⟨v1, A0, f1, C0, ev, rfl, ry, put0⟩ := ri.item ek
    cases ry with
    | own hb ryi =>
      rename_i b ws f2
      obtain ⟨v, A3, f3, C3, ev3, rfl, rd, put3⟩ := ryi.item em
      have n' : ∀ q ∈ f3, I q = none := fun q hq => of q (by simp [hq])
      have si := tk_same (H := H) n'
      have rr : Rep g (tk I H f3) H (fz d) v [] := rd.fz si fun q hq => tk_in hq
      have k3 := put3 si (fun _ _ => rfl) rr
      rw [set_same ev3] at k3
      have k4 := put0 si (fun _ _ => rfl) (.own hb k3)
      rw [set_same ev] at k4
      have k5 := put si (fun _ _ => rfl) (.own hp k4)
      rw [set_same es] at k5
      have k6 := (h2.mono (H' := H) si fun _ _ => rfl).append (Reps.one rr)
      have all : (A ++ (p :: (A0 ++ (b :: (A3 ++ (f3 ++ C3)) ++ C0)) ++ C) ++ F2).Nodup := nd
      have sub : ∀ q ∈ (A ++ (p :: (A0 ++ (b :: (A3 ++ ([] ++ C3)) ++ C0)) ++ C) ++ (F2 ++ [])), q ∉ f3 ∧ q ∈ (A ++ (p :: (A0 ++ (b :: (A3 ++ (f3 ++ C3)) ++ C0)) ++ C) ++ F2) := fun q hq => by
        clear put put0 put3 k3 k4 k5 k6 of hF nd
        simp only [List.nodup_append, List.nodup_cons, List.mem_append, List.mem_cons, List.cons_append, List.nil_append, List.append_nil] at all hq ⊢
        grind
      refine ⟨p, us, b, ws, v, tk I H f3, es, hp, ri.length.symm, ev, hb, ryi.length.symm, ev3, h.step hF si (tk_sub h.same) (fun _ _ e _ => e) (fun _ _ z => z) (fun q z _ n => ?_) ⟨_, _, k5, k6, ?_, fun q hq => ?_⟩⟩
      · rw [tk_out (fun w => n (by simp [w]))]; exact z
      · have sl : List.Sublist (A ++ (p :: (A0 ++ (b :: (A3 ++ ([] ++ C3)) ++ C0)) ++ C) ++ (F2 ++ [])) (A ++ (p :: (A0 ++ (b :: (A3 ++ (f3 ++ C3)) ++ C0)) ++ C) ++ F2) := by
          rw [List.append_nil, List.nil_append]
          exact (((List.Sublist.refl A).append (((((List.Sublist.refl A0).append (((((List.Sublist.refl A3).append (List.sublist_append_right f3 C3))).cons₂ b).append (List.Sublist.refl C0)))).cons₂ p).append (List.Sublist.refl C)))).append (List.Sublist.refl F2)
        exact List.Sublist.nodup sl all
      · obtain ⟨q1, q2⟩ := sub q hq
        rw [tk_out q1]
        exact ⟨of q (by simpa using q2), .inl (by simpa using q2)⟩
end
/-! ### numbers that only look -/
abbrev DenN := List D → Option Int
/-- e is a number; nothing is changed -/
def SndN (g : G) (X : Cx) (e : Expr) (f : DenN) : Prop :=
  ∀ (B : Bs) (I H : Hp) (ρ : List D) (σ : L2.St) (ts : List D) (vs : List V) (i : Int) (Q : VK), StP g B I H ρ σ ts vs → f ρ = some i → Q (.int i) H → mx X e σ H Q
def nVar (i : Nat) : DenN := fun ρ => match ρ[i]? with
  | some (.int j) => some j
  | _ => none
def nCst (j : Int) : DenN := fun _ => some j
def nAdd (f h : DenN) : DenN := fun ρ => match f ρ, h ρ with
  | some a, some b => some (a + b)
  | _, _ => none
def nSub (f h : DenN) : DenN := fun ρ => match f ρ, h ρ with
  | some a, some b => some (a - b)
  | _, _ => none
def dItem2 (i : Nat) (fk fj : DenN) : Den := fun ρ => match ρ[i]?, fk ρ, fj ρ with
  | some (.own xs), some k0, some j0 => match ixN xs.length k0 with
    | some k => match xs[k]? with
      | some (.own ys) => match ixN ys.length j0 with
        | some j => match ys[j]? with
          | some d => some (fz d, ρ.set i (.own (xs.set k (.own (ys.set j (fz d))))))
          | none => none
        | none => none
      | _ => none
    | none => none
  | _, _, _ => none
def gItem2 (i : Nat) (fk fj : DenN) : DenG := fun d ρ => match ρ[i]?, fk ρ, fj ρ with
  | some (.own xs), some k0, some j0 => match ixN xs.length k0 with
    | some k => match xs[k]? with
      | some (.own ys) => match ixN ys.length j0 with
        | some j => some (ρ.set i (.own (xs.set k (.own (ys.set j d)))))
        | none => none
      | _ => none
    | none => none
  | _, _, _ => none
/-- xs[k].append(e) -/
def dApp2 (i : Nat) (fk : DenN) (fe : Den) : Den := fun ρ => match fe ρ with
  | some (d, ρ') => match ρ'[i]?, fk ρ' with
    | some (.own xs), some k0 => match ixN xs.length k0 with
      | some k => match xs[k]? with
        | some (.own ys) => if ys.length < 100000 then some (.non, ρ'.set i (.own (xs.set k (.own (ys ++ [d]))))) else none
        | _ => none
      | none => none
    | _, _ => none
  | none => none
section
variable {g : G} {X : Cx} {B : Bs} {I I' H H' : Hp} {ρ : List D} {σ : L2.St} {ts ds xs ys : List D} {vs ws us : List V} {d : D} {v : V} {i j k : Nat} {a b e : Expr} {x : Str} {pos p pos' apos : Pos} {fk fj : DenN} {fe : Den}
theorem sn_var (hN : X.N[i]? = some x) (hv : Vis X.env.scope x) (hd : (x == ("__debug__" : Str)) = false) (hcd : (x == ("__classdict__" : Str)) = false) : SndN g X (.Name x pos) (nVar i) := by
  intro B I H ρ σ ts vs z Q h q k
  unfold nVar at q
  split at q <;> cases q
  rename_i e
  obtain ⟨v, I', es, r, _⟩ := h.var e (by simp)
  obtain ⟨rfl, _⟩ := r.int_i
  exact mx_of (pe_var hN hv hd hcd) ⟨_, es, k⟩
theorem sn_int {z : Int} {n : Nat} : SndN g X (.Constant (.int z) n pos) (nCst z) := by
  intro B I H ρ σ ts vs z Q h q k
  cases q
  exact mx_of pe_int k
theorem sn_add {f1 f2 : DenN} (h1 : SndN g X a f1) (h2 : SndN g X b f2) : SndN g X (.BinOp a .Add b pos) (nAdd f1 f2) := by
  intro B I H ρ σ ts vs z Q h q k
  unfold nAdd at q
  split at q <;> cases q
  rename_i e1 e2
  exact mx_of (pe_op op_add pe_mx pe_mx) (h1 B I H ρ σ ts vs _ _ h e1 (h2 B I H ρ σ ts vs _ _ h e2 ⟨_, _, rfl, rfl, k⟩))
theorem sn_sub {f1 f2 : DenN} (h1 : SndN g X a f1) (h2 : SndN g X b f2) : SndN g X (.BinOp a .Sub b pos) (nSub f1 f2) := by
  intro B I H ρ σ ts vs z Q h q k
  unfold nSub at q
  split at q <;> cases q
  rename_i e1 e2
  exact mx_of (pe_op op_sub pe_mx pe_mx) (h1 B I H ρ σ ts vs _ _ h e1 (h2 B I H ρ σ ts vs _ _ h e2 ⟨_, _, rfl, rfl, k⟩))
theorem snd_item2 (hN : X.N[i]? = some x) (hv : Vis X.env.scope x) (hd : (x == ("__debug__" : Str)) = false) (hcd : (x == ("__classdict__" : Str)) = false) (ha : SndN g X a fk) (hb : SndN g X b fj) (hs : noSlice a = true) (hs2 : noSlice b = true) :
    SndE g X (.Subscript (.Subscript (.Name x p) a pos') b pos) (dItem2 i fk fj) := by
  intro B I H ρ σ ts vs d ρ' Q h q kk
  unfold dItem2 at q
  split at q
  · rename_i xs k0 j0 e1 e2 e3
    split at q
    · rename_i k e4
      split at q
      · rename_i ys e5
        split at q
        · rename_i j e6
          split at q <;> cases q
          rename_i d0 e7
          obtain ⟨p0, us, b0, ws, v, I', es, hp, hl, eb, hb0, hl2, ev, h2⟩ := h.own2Read e1 e5 e7
          refine mx_of (pe_ix ix_list (pe_ix ix_list (pe_var hN hv hd hcd) pe_mx (plain_ix hs)) pe_mx (plain_ix hs2)) ?_
          refine ⟨_, es, ha B I H ρ σ ts vs _ _ h e2 ⟨p0, us, k0, .ref b0, rfl, rfl, SqL.of hp, ?_, hb B I H ρ σ ts vs _ _ h e3 ⟨b0, ws, j0, v, rfl, rfl, SqL.of hb0, ?_, kk I' H v h2⟩⟩⟩
          · unfold L2.atI; rw [hl, e4]; exact eb
          · unfold L2.atI; rw [hl2, e6]; exact ev
        · cases q
      · cases q
    · cases q
  · cases q
theorem snd_gitem2 (hN : X.N[i]? = some x) (hv : Vis X.env.scope x) (hd : (x == ("__debug__" : Str)) = false) (hcd : (x == ("__classdict__" : Str)) = false) (ha : SndN g X a fk) (hb : SndN g X b fj) (hs : noSlice a = true) (hs2 : noSlice b = true) :
    SndG g X (.Subscript (.Subscript (.Name x p) a pos') b pos) [] (gItem2 i fk fj) := by
  intro B I H ρ σ ts vs d v ρ' Q h q kk
  unfold gItem2 at q
  split at q
  · rename_i xs k0 j0 e1 e2 e3
    split at q
    · rename_i k e4
      split at q
      · rename_i ys e5
        split at q <;> cases q
        rename_i j e6
        obtain ⟨p0, us, b0, ws, es, hp, hl, eb, hb0, hl2, mk⟩ := StP.own2 (ds := [d]) (us' := [v]) h rfl e1 e5
        have hj := (ixN_seq e6).2.1
        have h2 := mk (ys.set j d) (ws.set j v) fun f fd ry rd => by
          obtain ⟨w, ew, rd⟩ := rd.one_inv
          cases ew
          obtain ⟨v1, A0, f1, C0, ev, rfl, _, put⟩ := ry.item (List.getElem?_eq_getElem hj)
          refine ⟨A0 ++ (fd ++ C0), fun H' hk => put (Same.refl _) (fun q hq => hk q (by simp at hq ⊢; grind)) (rd.mono (Same.refl _) fun q hq => hk q (by simp [hq])), fun nd => ?_, fun q hq => by simp at hq ⊢; grind⟩
          clear put mk
          simp only [List.nodup_append, List.mem_append] at *
          grind
        refine mxG_of (pg_sub (pe_ix ix_list (pe_var hN hv hd hcd) pe_mx (plain_ix hs)) pe_mx set_list (by intro v; cases b <;> first | rfl | cases hs2)) ?_
        refine ⟨_, es, ha B I H ρ σ _ _ _ _ h e2 ⟨p0, us, k0, .ref b0, rfl, rfl, SqL.of hp, ?_, hb B I H ρ σ _ _ _ _ h e3 ⟨b0, ws, j0, j, rfl, rfl, hb0, by rw [hl2]; exact e6, kk I _ σ h2 .refl⟩⟩⟩
        unfold L2.atI; rw [hl, e4]; exact eb
      · cases q
    · cases q
  · cases q
end
end DV

set_option Elab.async false
set_option maxRecDepth 100000
set_option maxHeartbeats 4000000
set_option linter.all false
/-! DV29: a slot put aside while something else is done; append within lists, pop. -/
namespace DV
open PySem L2 PySem.Spec PyProof.Rows
section
variable {g : G} {X : Cx} {B : Bs} {I I' H H' : Hp} {ρ ρ1 : List D} {σ : L2.St} {ts ds xs ys : List D} {vs ws us : List V} {d d0 : D} {v : V} {i j k : Nat}
theorem Slots.hole : ∀ {ρ : List D} {σ : L2.St} {F : List Addr} {i : Nat} {d : D}, Slots g I H ρ σ F → ρ[i]? = some d → d ≠ .und →
    ∃ v A f C, σ[i]? = some (some v) ∧ F = A ++ (f ++ C) ∧ Rep g I H d v f ∧ Slots g I H (ρ.set i .und) σ (A ++ C)
  | _, _, _, 0, d, .und r, e, n => absurd (by simpa using e : D.und = d).symm n
  | _, _, _, 0, d, .cons (v := v) (f := f) (F := F) h r, e, n => by
    have e1 := Option.some.inj (show some _ = some d from e)
    subst e1
    exact ⟨v, [], f, F, rfl, rfl, h, .und r⟩
  | _, _, _, i + 1, d, .und r, e, n => by
    obtain ⟨v, A, f, C, e1, rfl, h, k⟩ := Slots.hole (i := i) r (by simpa using e) n
    exact ⟨v, A, f, C, by simpa using e1, rfl, h, .und k⟩
  | _, _, _, i + 1, d, .cons (f := fa) h0 r, e, n => by
    obtain ⟨v, A, f, C, e1, rfl, h, k⟩ := Slots.hole (i := i) r (by simpa using e) n
    refine ⟨v, fa ++ A, f, C, by simpa using e1, (List.append_assoc ..).symm, h, ?_⟩
    rw [List.append_assoc]
    exact .cons h0 k
  | _, _, _, _, _, .nil, e, _ => by simp at e
theorem Slots.fill : ∀ {ρ : List D} {σ : L2.St} {F : List Addr} {i : Nat} {d : D} {v : V} {f : List Addr}, Slots g I H ρ σ F → ρ[i]? = some .und → σ[i]? = some (some v) → Rep g I H d v f →
    ∃ A C, F = A ++ C ∧ Slots g I H (ρ.set i d) σ (A ++ (f ++ C))
  | _, _, F, 0, d, v, f, .und r, _, e2, rd => by
    refine ⟨[], F, rfl, ?_⟩
    have e3 := Option.some.inj (show some _ = some (some v) from e2)
    subst e3
    rw [List.nil_append]
    exact .cons rd r
  | _, _, _, 0, d, v, f, .cons h r, e, e2, rd => by
    have e1 := Option.some.inj (show some _ = some D.und from e)
    subst e1
    cases h
  | _, _, _, i + 1, d, v, f, .und r, e, e2, rd => by
    obtain ⟨A, C, rfl, k⟩ := Slots.fill (i := i) r (by simpa using e) (by simpa using e2) rd
    exact ⟨A, C, rfl, .und k⟩
  | _, _, _, i + 1, d, v, f, .cons (f := fa) h0 r, e, e2, rd => by
    obtain ⟨A, C, rfl, k⟩ := Slots.fill (i := i) r (by simpa using e) (by simpa using e2) rd
    refine ⟨fa ++ A, C, (List.append_assoc ..).symm, ?_⟩
    rw [List.append_assoc]
    exact .cons h0 k
  | _, _, _, _, _, _, _, .nil, e, _, _ => by simp at e
/-- what slot i holds is put aside: it stays as it is -/
theorem StP.hide (h : StP g B I H ρ σ ts vs) (e : ρ[i]? = some d0) (hu : d0 ≠ .und) : ∃ v f F, σ[i]? = some (some v) ∧ Rep g I H d0 v f ∧ StP g ⟨I, H, F⟩ I H (ρ.set i .und) σ ts vs ∧
    ∀ I' H' ρ1 ts' vs', StP g ⟨I, H, F⟩ I' H' ρ1 σ ts' vs' → ρ1[i]? = some .und → Same I I' ∧ (∀ b ∈ f, H' b = H b) ∧ StP g B I' H' (ρ1.set i d0) σ ts' vs' := by
  obtain ⟨F1, F2, h1, h2, nd, of, hF⟩ := h.reps
  obtain ⟨v, A, f, C, es, rfl, r, k⟩ := h1.hole e hu
  have all : ∀ b ∈ A ++ (f ++ C) ++ F2, ∃ o, H b = some o := fun b hb => by
    rcases List.mem_append.mp hb with q | q
    · exact h1.there b q
    · exact h2.there b q
  refine ⟨v, f, (A ++ C) ++ F2, es, r, ⟨⟨A ++ C, F2, k, h2, ?_, fun b hb => of b (by simp at hb ⊢; grind), fun b hb _ => hb⟩, h.same, Same.refl _, fun b o e _ => e, fun b _ _ z => z, fun b z => z⟩, fun I' H' ρ1 ts' vs' h' e1 => ?_⟩
  · simp only [List.nodup_append, List.mem_append] at nd ⊢
    grind
  · obtain ⟨G1, G2, g1, g2, gnd, gof, gF⟩ := h'.reps
    have nf : ∀ b ∈ f, b ∉ (A ++ C) ++ F2 := fun b hb z => by
      simp only [List.nodup_append, List.mem_append] at nd z
      grind
    have kf : ∀ b ∈ f, H' b = H b := fun b hb => by
      obtain ⟨o, eo⟩ := all b (by simp [hb])
      rw [eo]
      exact h'.frH b o eo (nf b hb)
    have fI : ∀ b ∈ f, I' b = none := fun b hb => h'.frI b (by obtain ⟨o, eo⟩ := all b (by simp [hb]); show H b ≠ none; rw [eo]; simp) (nf b hb) (of b (by simp [hb]))
    have fg : ∀ b ∈ f, b ∉ G1 ++ G2 := fun b hb z => nf b hb (gF b z (by obtain ⟨o, eo⟩ := all b (by simp [hb]); show H b ≠ none; rw [eo]; simp))
    obtain ⟨A', C', rfl, k'⟩ := g1.fill e1 es (r.mono h'.keep kf)
    refine ⟨h'.keep, kf, h.step (F := (A ++ (f ++ C)) ++ F2) hF h'.keep h'.same (fun b o e q => h'.frH b o e (fun z => q (by simp at z ⊢; grind))) (fun b _ z => h'.dom b z) (fun b z w q => h'.frI b w (fun z => q (by simp at z ⊢; grind)) z) ⟨_, G2, k', g2, ?_, fun b hb => ?_⟩⟩
    · have fn : f.Nodup := by simp only [List.nodup_append] at nd; grind
      simp only [List.nodup_append, List.mem_append] at gnd fg ⊢
      grind
    · by_cases q : b ∈ f
      · exact ⟨fI b q, .inl (by simp [q])⟩
      · have hb' : b ∈ (A' ++ C') ++ G2 := by simp at hb ⊢; grind
        refine ⟨gof b hb', ?_⟩
        cases w : H b with
        | none => exact .inr rfl
        | some o =>
          have := gF b hb' (by show H b ≠ none; rw [w]; simp)
          exact .inl (by simp at this ⊢; grind)
variable {e a : Expr} {fe : Den} {fk : DenN} {x : Str} {p pos pos' apos : Pos}
/-- xs[k].append(e), done while slot i is put aside -/
def dApp3 (i : Nat) (fk : DenN) (fe : Den) : Den := fun ρ => match ρ[i]?, fk ρ with
  | some (.own xs), some k0 => match ixN xs.length k0 with
    | some k => match xs[k]? with
      | some (.own ys) => match fe (ρ.set i .und) with
        | some (d, ρ1) => if undAt ρ1 i = true ∧ ys.length < 100000 then some (.non, ρ1.set i (.own (xs.set k (.own (ys ++ [d]))))) else none
        | none => none
      | _ => none
    | none => none
  | _, _ => none
where undAt (ρ : List D) (i : Nat) : Bool := match ρ[i]? with
  | some .und => true
  | _ => false
theorem undAt_ok (h : dApp3.undAt ρ i = true) : ρ[i]? = some .und := by
  unfold dApp3.undAt at h
  split at h
  · assumption
  · cases h
theorem snd_app3 (hN : X.N[i]? = some x) (hv : Vis X.env.scope x) (hd : (x == ("__debug__" : Str)) = false) (hcd : (x == ("__classdict__" : Str)) = false) (ha : SndN g X a fk) (hs : noSlice a = true) (hs2 : noStar e = true) (hl : (apos.endLine == pos.line) = true) (he : SndE g X e fe) :
    SndE g X (.Call (.Attribute (.Subscript (.Name x p) a pos') "append" apos) [e] [] pos) (dApp3 i fk fe) := by
  intro B I H ρ σ ts vs d ρ' Q h q kk
  unfold dApp3 at q
  split at q
  · rename_i xs k0 e1 e2
    split at q
    · rename_i k e3
      split at q
      · rename_i ys e4
        split at q
        · rename_i d1 ρ1 e5
          split at q <;> cases q
          rename_i hc
          obtain ⟨p0, us, b0, ws, es, hp, hl1, eb, hb0, hl2, _⟩ := StP.own2 (ds := []) (us' := []) (by simpa using h) rfl e1 e4
          obtain ⟨v, f, F, es2, r, h0, back⟩ := h.hide e1 (by simp)
          rw [es] at es2
          cases es2
          refine mx_of (pe_bm PySem.F.plainAttrs_list PySem.F.slot_list_append PySem.F.type_list_append (r := rAppend) (fun pins s σ H x xs v us Q I rx rs q => mt_append pins s σ H x xs v us Q I rx rs q) (pe_ix ix_list (pe_var hN hv hd hcd) pe_mx (plain_ix hs)) (pa_cons pe_mx pa_nil (starOk (noStar_ne hs2))) rfl (few1 hs2) hl (starOk (noStar_ne hs2)) rfl) ?_
          refine ⟨_, es, ha B I H ρ σ ts vs _ _ h e2 ⟨p0, us, k0, .ref b0, rfl, rfl, SqL.of hp, by unfold L2.atI; rw [hl1, e3]; exact eb, .inl ⟨rfl, _, SqL.of hb0⟩, ?_⟩⟩
          refine he _ I H _ σ ts vs d1 ρ1 _ h0 e5 fun I1 H1 y h1 => ?_
          obtain ⟨si, kf, h2⟩ := back _ _ _ _ _ h1 (undAt_ok hc.1)
          have len : i < ρ1.length := (List.getElem?_eq_some_iff.mp (undAt_ok hc.1)).1
          have e6 : (ρ1.set i (.own xs))[i]? = some (.own xs) := by simp [len]
          obtain ⟨p1, us1, b1, ws1, es1, hp1, _, eb1, hb1, hl3, mk⟩ := StP.own2 (ds := [d1]) (us' := [y]) h2 rfl e6 e4
          have e7 : p1 = p0 := by rw [es] at es1; cases es1; rfl
          subst e7
          have inf : H1 p1 = H p1 ∧ H1 b0 = H b0 := by
            cases r with
            | own hp' ri =>
              rw [hp] at hp'
              cases hp'
              obtain ⟨v2, A, f2, C, ev, rfl, ry, _⟩ := ri.item e4
              rw [eb] at ev
              cases ev
              cases ry with
              | own hb' _ => exact ⟨kf _ (by simp), kf _ (by simp)⟩
          rw [inf.1, hp] at hp1
          cases hp1
          rw [eb] at eb1
          cases eb1
          rw [inf.2, hb0] at hb1
          cases hb1
          refine ⟨b0, ws, y, rfl, rfl, by rw [inf.2]; exact hb0, Nat.lt_of_lt_of_le (by omega : ws.length < 100000) (line100 (Nat.le_refl _)), ?_⟩
          have h3 := mk (ys ++ [d1]) (ws ++ [y]) fun f fd ry rd => ⟨f ++ fd, fun H' hk => (ry.mono (Same.refl _) fun q hq => hk q (by simp [hq])).append (rd.mono (Same.refl _) fun q hq => hk q (by simp [hq])), fun nd => nd, fun q hq => hq⟩
          rw [List.set_set] at h3
          exact kk I1 _ _ (h3.push .non)
        · cases q
      · cases q
    · cases q
  · cases q
/-- xs.pop(k), xs a list of slot i -/
def dPop (i : Nat) (fk : DenN) : Den := fun ρ => match ρ[i]?, fk ρ with
  | some (.own xs), some k0 => match ixN xs.length k0 with
    | some k => match xs[k]? with
      | some d => if xs.length ≤ 100000 then some (d, ρ.set i (.own (xs.eraseIdx k))) else none
      | none => none
    | none => none
  | _, _ => none
theorem Reps.drop1 : ∀ {ds : List D} {us : List V} {F : List Addr} {k : Nat} {d : D}, Reps g I H ds us F → ds[k]? = some d →
    ∃ v A f C, us[k]? = some v ∧ F = A ++ (f ++ C) ∧ Rep g I H d v f ∧ Reps g I H (ds.eraseIdx k) (us.eraseIdx k) (A ++ C)
  | _, _, _, k, _, .nil, e => by simp at e
  | _, _, _, 0, _, .cons (v := v) (f1 := f1) (f2 := f2) h r, e => by
    cases e
    exact ⟨v, [], f1, f2, rfl, rfl, h, r⟩
  | _, _, _, k + 1, d, .cons (f1 := fa) h0 r, e => by
    obtain ⟨v, A, f, C, e1, rfl, h, q⟩ := Reps.drop1 (k := k) (d := d) r (by simpa using e)
    refine ⟨v, fa ++ A, f, C, by simpa using e1, (List.append_assoc ..).symm, h, ?_⟩
    rw [List.append_assoc]
    exact .cons h0 q
theorem StP.ownPop (h : StP g B I H ρ σ ts vs) (e : ρ[i]? = some (.own xs)) (ek : xs[k]? = some d) :
    ∃ p us v, σ[i]? = some (some (.ref p)) ∧ H p = some (.lst us) ∧ us.length = xs.length ∧ us[k]? = some v ∧ StP g B I (upd H p (.lst (us.eraseIdx k))) (ρ.set i (.own (xs.eraseIdx k))) σ (ts ++ [d]) (vs ++ [v]) := by
  obtain ⟨F1, F2, h1, h2, nd, of, hF⟩ := h.reps
  obtain ⟨w, A, f, C, es, rfl, r, put⟩ := h1.at e (by simp)
  cases r with
  | own hp ri =>
    rename_i p us f0
    obtain ⟨v, A0, f1, C0, ev, rfl, rd, q⟩ := ri.drop1 ek
    have np : ∀ b, b ∈ A ++ C ++ (A0 ++ C0) ++ f1 ++ F2 → b ≠ p := fun b hb z => by
      subst z
      clear put q
      simp only [List.nodup_append, List.nodup_cons, List.mem_append, List.mem_cons, List.cons_append] at nd hb
      grind
    have kk : ∀ b, b ∈ A ++ C ++ (A0 ++ C0) ++ f1 ++ F2 → upd H p (.lst (us.eraseIdx k)) b = H b := fun b hb => upd_ne (np b hb)
    have nI : I p = none := of p (by simp)
    have k1 := put (d' := .own (xs.eraseIdx k)) (Same.refl I) (fun b hb => kk b (by simp at hb ⊢; grind)) (.own (H := upd H p (.lst (us.eraseIdx k))) upd_same (q.mono (Same.refl _) fun b hb => kk b (by simp at hb ⊢; grind)))
    rw [set_same es] at k1
    have k2 := (h2.mono (H' := upd H p (.lst (us.eraseIdx k))) (Same.refl _) fun b hb => kk b (by simp [hb])).append (Reps.one (rd.mono (Same.refl I) fun b hb => kk b (by simp [hb])))
    refine ⟨p, us, v, es, hp, ri.length.symm, ev, h.step hF (Same.refl _) (fun b u e => ?_) (fun b u e hq => ?_) (fun b hq z => ?_) (fun _ z _ _ => z) ⟨_, _, k1, k2, ?_, fun b hb => ⟨of b (by simp at hb ⊢; grind), .inl (by simp at hb ⊢; grind)⟩⟩⟩
    · rw [upd_ne (fun z => by subst z; rw [nI] at e; cases e)]
      exact h.same b u e
    · rw [upd_ne (fun z => hq (by subst z; simp))]
      exact e
    · by_cases w : b = p
      · subst w; rw [upd_same]; simp
      · rw [upd_ne w]; exact z
    · clear put q kk np k1 k2
      simp only [List.nodup_append, List.nodup_cons, List.mem_append, List.mem_cons, List.cons_append] at nd ⊢
      grind
theorem snd_pop (hN : X.N[i]? = some x) (hv : Vis X.env.scope x) (hd : (x == ("__debug__" : Str)) = false) (hcd : (x == ("__classdict__" : Str)) = false) (hs2 : noStar a = true) (hl : (apos.endLine == pos.line) = true) (ha : SndN g X a fk) :
    SndE g X (.Call (.Attribute (.Name x p) "pop" apos) [a] [] pos) (dPop i fk) := by
  intro B I H ρ σ ts vs d ρ' Q h q kk
  unfold dPop at q
  split at q
  · rename_i xs k0 e1 e2
    split at q
    · rename_i k e3
      split at q
      · split at q <;> cases q
        rename_i hle e4
        obtain ⟨p0, us, v, es, hp, hl1, ev, h2⟩ := h.ownPop e1 e4
        refine mx_of (pe_bm PySem.F.plainAttrs_list PySem.F.slot_list_pop PySem.F.type_list_pop (r := rPopAt) (fun pins s σ H x xs v us Q I rx rs q => mt_popAt pins s σ H x xs v us Q I rx rs q) (pe_var hN hv hd hcd) (pa_cons pe_mx pa_nil (starOk (noStar_ne hs2))) rfl (few1 hs2) hl (starOk (noStar_ne hs2)) rfl) ?_
        refine ⟨_, es, .inl ⟨rfl, _, SqL.of hp⟩, ?_⟩
        obtain ⟨z1, z2, z3, z4⟩ := ixN_seq e3
        refine ha B I H ρ σ ts vs _ _ h e2 ⟨p0, us, k0, k, v, rfl, rfl, hp, ?_, ?_, by rw [hl1]; exact z1, ev, kk I _ v h2⟩
        · omega
        · omega
      · cases q
    · cases q
  · cases q
end
end DV

set_option Elab.async false
set_option maxRecDepth 100000
set_option maxHeartbeats 4000000
set_option linter.all false
/-! DV30: dicts: displays with written keys. -/
namespace DV
open PySem L2 PySem.Spec PyProof.Rows
def prs (X : Cx) : List (Option Expr) → List Expr → List (TE × TE)
  | some k :: ks, v :: vs => (mx X k, mx X v) :: prs X ks vs
  | _, _ => []
/-- {k: v, ..}, the keys written -/
def dDic (ks : List Key) (r : Dens) : Den := fun ρ => match r ρ with
  | some (ds, ρ') => if ks.length = ds.length then some (.odc ks ds, ρ') else none
  | none => none
/-- the pairs of a display: its keys are ks, its values r -/
def SndPr (g : G) (X : Cx) (keys : List (Option Expr)) (es : List Expr) (ks : List Key) (r : Dens) : Prop :=
  keys.length = es.length ∧ keys.length = ks.length ∧ (∀ pos, PPs X pos keys es (prs X keys es)) ∧ keys.all (·.isSome) = true ∧
  ∀ (B : Bs) (I H : Hp) (ρ : List D) (σ : L2.St) (ts : List D) (vs : List V) (ds : List D) (ρ' : List D) (Q : List (V × V) → Hp → Prop), StP g B I H ρ σ ts vs → r ρ = some (ds, ρ') →
    (∀ I' H' ws, StP g B I' H' ρ' σ (ts ++ ds) (vs ++ ws) → ds.length = ws.length → Q ((ks.zip ws).map fun kv => (kV kv.1, kv.2)) H') → tPairs (prs X keys es) σ H Q
section
variable {g : G} {X : Cx} {B : Bs} {I I' H H' : Hp} {ρ : List D} {σ : L2.St} {ts ds xs ys : List D} {vs ws us : List V} {d : D} {v : V} {i j : Nat} {a b e : Expr} {x : Str} {pos p' : Pos} {fe : Den} {r : Dens} {keys : List (Option Expr)} {es : List Expr} {ks : List Key} {p : Addr}
theorem snd_prnil : SndPr g X [] [] [] dNil := ⟨rfl, rfl, fun _ => pps_nil, rfl, fun B I H ρ σ ts vs ds ρ' Q h q k => by
  cases q
  exact k I H [] (by simpa using h) rfl⟩
theorem SndPr.cons {k : Key} (hk : PE X a fun _ H Q => Q (kV k) H) (he : SndE g X e fe) (hr : SndPr g X keys es ks r) : SndPr g X (some a :: keys) (e :: es) (k :: ks) (dCons fe r) := by
  obtain ⟨l1, l2, pp, al, go⟩ := hr
  refine ⟨by simp [l1], by simp [l2], fun pos => pps_cons pe_mx pe_mx (pp pos), by simpa using al, fun B I H ρ σ ts vs ds ρ' Q h q kk => ?_⟩
  unfold dCons at q
  cases q1 : fe ρ with
  | none => rw [q1] at q; cases q
  | some z =>
    obtain ⟨d, ρ1⟩ := z
    rw [q1] at q
    dsimp only at q
    cases q2 : r ρ1 with
    | none => rw [q2] at q; cases q
    | some z =>
      obtain ⟨ds1, ρ2⟩ := z
      rw [q2] at q
      cases q
      show mx X a σ H _
      refine mx_of hk ?_
      refine he B I H ρ σ ts vs d ρ1 _ h q1 fun I1 H1 v h1 => ?_
      refine go B I1 H1 ρ1 σ (ts ++ [d]) (vs ++ [v]) ds1 _ _ h1 q2 fun I2 H2 ws h2 hl => ?_
      have := kk I2 H2 (v :: ws) (by simpa using h2) (by simp [hl])
      simpa using this
theorem snd_prI {z : Int} {n : Nat} (he : SndE g X e fe) (hr : SndPr g X keys es ks r) : SndPr g X (some (.Constant (.int z) n p') :: keys) (e :: es) (.inl z :: ks) (dCons fe r) := SndPr.cons pe_int he hr
theorem snd_prS {z : Str} {n : Nat} (he : SndE g X e fe) (hr : SndPr g X keys es ks r) : SndPr g X (some (.Constant (.str z) n p') :: keys) (e :: es) (.inr z :: ks) (dCons fe r) := SndPr.cons pe_str he hr
theorem mergeK_new : ∀ {more acc : List (Key × V)}, (more.map (·.1)).Nodup → (∀ q ∈ more, valV acc q.1 = none) → mergeK acc more = acc ++ more
  | [], acc, _, _ => (List.append_nil _).symm
  | q :: r, acc, nd, no => by
    have nd' := List.nodup_cons.mp nd
    show mergeK (putK acc q.1 q.2) r = _
    rw [putK_new q.2 (no q (List.mem_cons_self ..)), mergeK_new nd'.2 fun y hy => ?_, List.append_assoc]
    · rfl
    · rw [valV_snoc q.1 y.1 q.2 acc (no q (List.mem_cons_self ..)), if_neg fun z => nd'.1 (by show q.1 ∈ _; rw [← z]; exact List.mem_map_of_mem hy)]
      exact no y (List.mem_cons_of_mem _ hy)
theorem StP.laidE (h : StP g B I H ρ σ ts vs) (n : H p = none) : StP g B I (upd H p (.dK [])) ρ σ (ts ++ [.odc [] []]) (vs ++ [.ref p]) := by
  obtain ⟨F1, F2, h1, h2, nd, of, hF⟩ := h.reps
  have nI : I p = none := h.same.free n
  have np : ∀ b ∈ F1 ++ F2, b ≠ p := fun b hb z => by
    subst z
    rcases List.mem_append.mp hb with q | q
    · obtain ⟨o, e⟩ := h1.there b q; rw [n] at e; cases e
    · obtain ⟨o, e⟩ := h2.there b q; rw [n] at e; cases e
  have kk : ∀ b ∈ F1 ++ F2, upd H p (.dK []) b = H b := fun b hb => upd_ne (np b hb)
  refine h.step hF (Same.refl _) (fun b u e => Same.updN n b u (h.same b u e)) (fun b u e _ => Same.updN n b u e) (fun b q z => by rw [kk b q]; exact z) (fun _ z _ _ => z) ⟨F1, F2 ++ [p], h1.mono (Same.refl _) fun b hb => kk b (by grind), ?_, ?_, fun b hb => ?_⟩
  · exact (h2.mono (Same.refl _) fun b hb => kk b (by grind)).append (Reps.one (.odc (ks := []) (vs := []) upd_same rfl .nil))
  · have : p ∉ F1 ++ F2 := fun z => np p z rfl
    grind
  · by_cases q : b = p
    · subst q; exact ⟨nI, .inr n⟩
    · have : b ∈ F1 ++ F2 := by grind
      exact ⟨of b this, .inl this⟩
theorem StP.intoD (h : StP g B I H ρ σ (ts ++ [.odc [] []] ++ ds) (vs ++ [.ref p] ++ ws)) (hl : ds.length = ws.length) (hk : ks.length = ds.length) : H p = some (.dK []) ∧ StP g B I (upd H p (.dK (ks.zip ws))) ρ σ (ts ++ [.odc ks ds]) (vs ++ [.ref p]) := by
  obtain ⟨F1, F2, h1, h2, nd, of, hF⟩ := h.reps
  obtain ⟨f0, f', rfl, r0, r2⟩ := h2.split' hl
  obtain ⟨f, fp, rfl, r1, rp⟩ := r0.split' (ds' := [.odc [] []]) (vs' := [.ref p]) rfl
  obtain ⟨_, z, rp⟩ := rp.one_inv
  cases z
  generalize hd0 : (D.odc [] []) = d0 at rp
  cases rp with
  | odc hp hlz rz =>
    cases hd0
    cases rz
    have hp0 : H p = some (.dK []) := by rw [hp]; simp
    have np : p ∉ F1 ++ (f ++ f') := fun z => by simp only [List.append_assoc, List.nodup_append, List.mem_append, List.nodup_cons, List.mem_cons, List.not_mem_nil] at nd z; grind
    have kk : ∀ b ∈ F1 ++ (f ++ f'), upd H p (.dK (ks.zip ws)) b = H b := fun b hb => upd_ne (fun z => np (z ▸ hb))
    have pI : I p = none := of p (by simp)
    refine ⟨hp0, h.step hF (Same.refl _) (fun b u e => ?_) (fun b u e hb => ?_) (fun b q z => ?_) (fun _ z _ _ => z) ⟨F1, f ++ (p :: f'), h1.mono (Same.refl _) fun b hb => kk b (by simp [hb]), ?_, ?_, fun b hb => ⟨of b (by simp at hb ⊢; grind), .inl (by simp at hb ⊢; grind)⟩⟩⟩
    · rw [upd_ne (fun z => by subst z; rw [pI] at e; cases e)]; exact h.same b u e
    · rw [upd_ne (fun z => hb (by subst z; simp))]; exact e
    · by_cases w : b = p
      · subst w; rw [upd_same]; simp
      · rw [upd_ne w]; exact z
    · exact (r1.mono (Same.refl _) fun b hb => kk b (by simp [hb])).append (Reps.one (.odc upd_same (by omega) (r2.mono (Same.refl _) fun b hb => kk b (by simp [hb]))))
    · clear kk
      simp only [List.append_assoc, List.nodup_append, List.mem_append, List.nodup_cons, List.mem_cons, List.not_mem_nil, List.cons_append, List.nil_append] at nd ⊢
      grind
  | _ => cases hd0
theorem snd_dic (hr : SndPr g X keys es ks r) (h0 : keys ≠ []) (h15 : keys.length ≤ 15) (nd : ks.Nodup) : SndE g X (.Dict keys es pos) (dDic ks r) := by
  obtain ⟨l1, l2, pp, al, go⟩ := hr
  intro B I H ρ σ ts vs d ρ' Q h q k
  unfold dDic at q
  split at q
  · rename_i ds ρ1 q1
    split at q <;> cases q
    rename_i hl
    refine mx_of (pe_disp (pp pos) al l1 h0 h15) fun p hp => ?_
    refine go B I _ ρ σ _ _ ds _ _ (h.laidE hp) q1 fun I1 H1 ws h1 hw => ?_
    obtain ⟨e1, h2⟩ := h1.intoD hw hl
    refine ⟨e1, ks.zip ws, rfl, ?_, ?_⟩
    · rw [List.length_zip]; omega
    · have e2 : mergeK [] (ks.zip ws) = ks.zip ws := by
        rw [mergeK_new ?_ (fun _ _ => rfl)]
        · rfl
        · rw [List.map_fst_zip (by omega)]; exact nd
      rw [e2]
      exact k I1 _ _ h2
  · cases q
variable {N : List Str} {sc : Scope} {fc : Str → Bool} {fk fj : DenN} {apos p1 p2 pos' : Pos}
theorem Cok.nvar (c : Cok g N sc fc X) (h : okV N sc i x = true) : SndN g X (.Name x pos) (nVar i) := let v := c.vok h; sn_var v.N v.v v.d v.cd
theorem Cok.item2 (c : Cok g N sc fc X) (h : okV N sc i x = true) (hs : noSlice a = true) (hs2 : noSlice b = true) (ha : SndN g X a fk) (hb : SndN g X b fj) : SndE g X (.Subscript (.Subscript (.Name x p1) a pos') b pos) (dItem2 i fk fj) := let v := c.vok h; snd_item2 v.N v.v v.d v.cd ha hb hs hs2
theorem Cok.gitem2 (c : Cok g N sc fc X) (h : okV N sc i x = true) (hs : noSlice a = true) (hs2 : noSlice b = true) (ha : SndN g X a fk) (hb : SndN g X b fj) : SndG g X (.Subscript (.Subscript (.Name x p1) a pos') b pos) [] (gItem2 i fk fj) := let v := c.vok h; snd_gitem2 v.N v.v v.d v.cd ha hb hs hs2
theorem Cok.app3 (c : Cok g N sc fc X) (h : okV N sc i x = true) (hs : noSlice a = true) (hs2 : noStar e = true) (hl : (apos.endLine == pos.line) = true) (ha : SndN g X a fk) (he : SndE g X e fe) : SndE g X (.Call (.Attribute (.Subscript (.Name x p1) a pos') "append" apos) [e] [] pos) (dApp3 i fk fe) := let v := c.vok h; snd_app3 v.N v.v v.d v.cd ha hs hs2 hl he
theorem Cok.pop (c : Cok g N sc fc X) (h : okV N sc i x = true) (hs2 : noStar a = true) (hl : (apos.endLine == pos.line) = true) (ha : SndN g X a fk) : SndE g X (.Call (.Attribute (.Name x p1) "pop" apos) [a] [] pos) (dPop i fk) := let v := c.vok h; snd_pop v.N v.v v.d v.cd hs2 hl ha
end
end DV

set_option Elab.async false
set_option maxRecDepth 100000
set_option maxHeartbeats 4000000
set_option linter.all false
/-! DV31: one reading or the other. -/
namespace DV
open PySem L2 PySem.Spec PyProof.Rows
def dEls (f h : Den) : Den := fun ρ => match f ρ with
  | some z => some z
  | none => h ρ
theorem snd_els {g : G} {X : Cx} {e : Expr} {f h : Den} (hf : SndE g X e f) (hh : SndE g X e h) : SndE g X e (dEls f h) := by
  intro B I H ρ σ ts vs d ρ' Q s q k
  unfold dEls at q
  split at q
  · rename_i z e1
    cases q
    exact hf B I H ρ σ ts vs _ _ Q s e1 k
  · exact hh B I H ρ σ ts vs _ _ Q s q k
section
variable {g : G} {X : Cx} {C : Addr} {scope : Scope} {s : Shared} {H : Hp} {cl : List (Str × Addr)} {fp : List Addr} {x : Str} {gd : Bool} {n c0 : Nat} {sp : Sp} {ks : List Str} {is : List Nat}
theorem CallPOk.blk (k : CallPOk X x gd n ks is sp) : CallPOk (Blk X scope s H C cl fp) x gd n ks is sp := ⟨k.ex⟩
theorem RpOk.blk {l : Fn} (k : RpOk g X c0 l) : RpOk g (Blk X scope s H C cl fp) c0 l := ⟨k.ex⟩
end
end DV

set_option maxRecDepth 100000
set_option linter.all false
/-! printed by gen.py: what the defs do on deep values -/
namespace K31D
open PySem L2 DV
/-- is_integer(value); names: 0=value -/
def d_is_integer : DenS := (sSeq (sRet (dAnd (dBlt isiB (dCons (dVar 0) (dCons (dCst (.ty "int")) dNil))) (dNot (dBlt isiB (dCons (dVar 0) (dCons (dCst (.ty "bool")) dNil))))))
  sEnd)
def f_is_integer : DV.Fn := semOf 1 false d_is_integer
/-- told_pair(value); names: 0=value -/
def d_told_pair : DenS := (sSeq (sIf (tOf (dBlt isiB (dCons (dVar 0) (dCons (dCst (.cls 4)) dNil)))) (sSeq (sRet (dTup (dCons (dFldV 0 4 0) (dCons (dFldV 0 4 1) dNil))))
  sEnd) sEnd)
  (sSeq (sIf (tNotD (tOf (dCallP f_is_integer (dCons (dVar 0) dNil)))) (sSeq sNo
  sEnd) sEnd)
  (sSeq (sRet (dTup (dCons (dVar 0) (dCons (dCst (.int 1)) dNil))))
  sEnd)))
def f_told_pair : DV.Fn := semOf 1 false d_told_pair
/-- common_part(one, other); names: 0=one 1=other -/
def d_common_part : DenS := (sSeq (sPar 0 1 (dCons (dBlt absB (dCons (dVar 0) dNil)) (dCons (dBlt absB (dCons (dVar 1) dNil)) dNil)))
  (sSeq (sWhile (tOf (dBin (cmpB fun i j => decide (j < i)) (dVar 1) (dCst (.int 0)))) (sSeq (sPar 0 1 (dCons (dVar 1) (dCons (dBin modB (dBlt intB (dCons (dVar 0) dNil)) (dVar 1)) dNil)))
  sEnd))
  (sSeq (sRet (dVar 0))
  sEnd)))
def f_common_part : DV.Fn := semOf 2 false d_common_part
/-- Ratio.__init__(self, top, bottom); names: 0=self 1=top 2=bottom 3=common -/
def d_Ratio___init : DenS := (sSeq (sIf (tNotD (tOf (dCallP f_is_integer (dCons (dVar 1) dNil)))) (sSeq sNo
  sEnd) sEnd)
  (sSeq (sIf (tOrD (tNotD (tOf (dCallP f_is_integer (dCons (dVar 2) dNil)))) (tOf (dBin (eqB false) (dVar 2) (dCst (.int 0))))) (sSeq sNo
  sEnd) sEnd)
  (sSeq (sAsg 3 (dCallP f_common_part (dCons (dVar 1) (dCons (dVar 2) dNil))))
  (sSeq (sIf (tOf (dBin ltB (dVar 2) (dCst (.int 0)))) (sSeq (sAsg 3 (dBin subB (dCst (.int 0)) (dVar 3)))
  sEnd) sEnd)
  (sSeq (sFst 0 4 0 (dBin divB (dVar 1) (dVar 3)))
  (sSeq (sFst 0 4 1 (dBin divB (dVar 2) (dVar 3)))
  sEnd))))))
def f_Ratio___init : DV.Fn := semOf 4 true d_Ratio___init
/-- Ratio.__add__(self, other); names: 0=self 1=other 2=top 3=bottom -/
def d_Ratio___add : DenS := (sSeq (sAsgG (dCallP f_told_pair (dCons (dVar 1) dNil)) (gTup [(gNm 2), (gNm 3)]))
  (sSeq (sRet (dMake 4 [] f_Ratio___init (dCons (dBin addB (dBin mulB (dFldV 0 4 0) (dVar 3)) (dBin mulB (dVar 2) (dFldV 0 4 1))) (dCons (dBin mulB (dFldV 0 4 1) (dVar 3)) dNil))))
  sEnd))
def f_Ratio___add : DV.Fn := semOf 4 false d_Ratio___add
/-- Ratio.__radd__(self, other); names: 0=self 1=other 2=top 3=bottom -/
def d_Ratio___radd : DenS := (sSeq (sAsgG (dCallP f_told_pair (dCons (dVar 1) dNil)) (gTup [(gNm 2), (gNm 3)]))
  (sSeq (sRet (dMake 4 [] f_Ratio___init (dCons (dBin addB (dBin mulB (dFldV 0 4 0) (dVar 3)) (dBin mulB (dVar 2) (dFldV 0 4 1))) (dCons (dBin mulB (dFldV 0 4 1) (dVar 3)) dNil))))
  sEnd))
def f_Ratio___radd : DV.Fn := semOf 4 false d_Ratio___radd
def oAdd := ownO 4 f_Ratio___add f_Ratio___radd addB
/-- Ratio.__mul__(self, other); names: 0=self 1=other 2=top 3=bottom -/
def d_Ratio___mul : DenS := (sSeq (sAsgG (dCallP f_told_pair (dCons (dVar 1) dNil)) (gTup [(gNm 2), (gNm 3)]))
  (sSeq (sRet (dMake 4 [] f_Ratio___init (dCons (dBin mulB (dFldV 0 4 0) (dVar 2)) (dCons (dBin mulB (dFldV 0 4 1) (dVar 3)) dNil))))
  sEnd))
def f_Ratio___mul : DV.Fn := semOf 4 false d_Ratio___mul
/-- Ratio.__rmul__(self, other); names: 0=self 1=other 2=top 3=bottom -/
def d_Ratio___rmul : DenS := (sSeq (sAsgG (dCallP f_told_pair (dCons (dVar 1) dNil)) (gTup [(gNm 2), (gNm 3)]))
  (sSeq (sRet (dMake 4 [] f_Ratio___init (dCons (dBin mulB (dFldV 0 4 0) (dVar 2)) (dCons (dBin mulB (dFldV 0 4 1) (dVar 3)) dNil))))
  sEnd))
def f_Ratio___rmul : DV.Fn := semOf 4 false d_Ratio___rmul
def oMult := ownO 4 f_Ratio___mul f_Ratio___rmul mulB
/-- _law_draw(_law_pot_here, _law_size); names: 0=_law_pot_here 1=_law_size 2=_law_digit -/
def d_law_draw : DenS := (sSeq (sIf (tOf (dBin (cmpB fun i j => decide (j < i)) (dItem 0 (dCst (.int 0))) (dCst (.int 0)))) (sSeq (sAsgG (dBlt divmodB (dCons (dItem 0 (dCst (.int 0))) (dCons (dVar 1) dNil))) (gTup [(gItem 0 (dCst (.int 0))), (gNm 2)]))
  (sSeq (sRet (dVar 2))
  sEnd)) sEnd)
  (sSeq (sAsgG (dBin modB (dBlt intB (dCons (dBin oAdd (dBin oMult (dItem 0 (dCst (.int 1))) (dCst (.int 39373))) (dCst (.int 20023))) dNil)) (dCst (.int 2147483563))) (gItem 0 (dCst (.int 1))))
  (sSeq (sRet (dBin modB (dBlt intB (dCons (dBin divB (dBin modB (dBlt intB (dCons (dBin oMult (dItem 0 (dCst (.int 1))) (dItem 0 (dCst (.int 1)))) dNil)) (dCst (.int 2147483477))) (dCst (.int 23))) dNil)) (dVar 1)))
  sEnd)))
def f_law_draw : DV.Fn := semOf 3 true d_law_draw
/-- _law_more(_law_rows, _law_number, _law_form); names: 0=_law_rows 1=_law_number 2=_law_form 3=_law_j 4=_law_i -/
def d_law_more : DenS := (sSeq (sRet (dComp [4] (iRng (dCons (dBlt lenB (dCons (dVar 0) dNil)) dNil)) (gNm 4) tYesD (dComp [3] (iRng (dCons (dBlt lenB (dCons (dVar 0) dNil)) dNil)) (gNm 3) tYesD (dBin oAdd (dBin ixB (dItem 0 (dVar 4)) (dVar 3)) (dBin oMult (dBin oMult (dVar 1) (dItem 2 (dVar 4))) (dItem 2 (dVar 3)))))))
  sEnd)
def f_law_more : DV.Fn := semOf 5 false d_law_more
/-- _law_pick(_law_pot_here, _law_some); names: 0=_law_pot_here 1=_law_some -/
def d_law_pick : DenS := (sSeq (sRet (dItem 1 (dCallR f_law_draw 0 (dCons (dBlt lenB (dCons (dVar 1) dNil)) dNil))))
  sEnd)
def f_law_pick : DV.Fn := semOf 2 true d_law_pick
/-- Ratio.__sub__(self, other); names: 0=self 1=other 2=top 3=bottom -/
def d_Ratio___sub : DenS := (sSeq (sAsgG (dCallP f_told_pair (dCons (dVar 1) dNil)) (gTup [(gNm 2), (gNm 3)]))
  (sSeq (sRet (dMake 4 [] f_Ratio___init (dCons (dBin subB (dBin mulB (dFldV 0 4 0) (dVar 3)) (dBin mulB (dVar 2) (dFldV 0 4 1))) (dCons (dBin mulB (dFldV 0 4 1) (dVar 3)) dNil))))
  sEnd))
def f_Ratio___sub : DV.Fn := semOf 4 false d_Ratio___sub
/-- Ratio.__rsub__(self, other); names: 0=self 1=other 2=top 3=bottom -/
def d_Ratio___rsub : DenS := (sSeq (sAsgG (dCallP f_told_pair (dCons (dVar 1) dNil)) (gTup [(gNm 2), (gNm 3)]))
  (sSeq (sRet (dMake 4 [] f_Ratio___init (dCons (dBin subB (dBin mulB (dVar 2) (dFldV 0 4 1)) (dBin mulB (dFldV 0 4 0) (dVar 3))) (dCons (dBin mulB (dFldV 0 4 1) (dVar 3)) dNil))))
  sEnd))
def f_Ratio___rsub : DV.Fn := semOf 4 false d_Ratio___rsub
def oSub := ownO 4 f_Ratio___sub f_Ratio___rsub subB
/-- _law_small(_law_pot_here, _law_most); names: 0=_law_pot_here 1=_law_most -/
def d_law_small : DenS := (sSeq (sRet (dMake 4 [] f_Ratio___init (dCons (dBin oSub (dCallR f_law_draw 0 (dCons (dBin oAdd (dBin oMult (dCst (.int 2)) (dVar 1)) (dCst (.int 1))) dNil)) (dVar 1)) (dCons (dCallR f_law_pick 0 (dCons (dLst (dCons (dCst (.int 1)) (dCons (dCst (.int 1)) (dCons (dCst (.int 1)) (dCons (dCst (.int 1)) (dCons (dCst (.int 2)) (dCons (dCst (.int 3)) dNil))))))) dNil)) dNil))))
  sEnd)
def f_law_small : DV.Fn := semOf 2 true d_law_small
/-- Ratio.__eq__(self, other); names: 0=self 1=other -/
def d_Ratio___eq : DenS := (sSeq (sIf (tNotD (tOf (dBlt isiB (dCons (dVar 1) (dCons (dCst (.cls 4)) dNil))))) (sSeq (sRet (dCst (.bl false)))
  sEnd) sEnd)
  (sSeq (sRet (dAnd (dBin (eqB false) (dFldV 0 4 0) (dFldV 1 4 0)) (dBin (eqB false) (dFldV 0 4 1) (dFldV 1 4 1))))
  sEnd))
def f_Ratio___eq : DV.Fn := semOf 2 false d_Ratio___eq
def oEq := ownQ 4 f_Ratio___eq (eqB false)
def oNotEq := ownN 4 f_Ratio___eq (eqB true)
/-- _law_table(_law_pot_here, _law_size); names: 0=_law_pot_here 1=_law_size 2=_law_way 3=_law_rows 4=_law_j 5=_law_i 6=_law_turn 7=_law_place 8=_law_one -/
def d_law_table : DenS := (sSeq (sAsg 2 (dCallR f_law_draw 0 (dCons (dCst (.int 4)) dNil)))
  (sSeq (sAsg 3 (dComp [5] (iRng (dCons (dVar 1) dNil)) (gNm 5) tYesD (dComp [4] (iRng (dCons (dVar 1) dNil)) (gNm 4) tYesD (dMake 4 [.int 1] f_Ratio___init (dCons (dCst (.int 0)) dNil)))))
  (sSeq (sIf (tOf (dBin oEq (dVar 2) (dCst (.int 1)))) (sSeq (sFor (iRng (dCons (dCallR f_law_draw 0 (dCons (dBin oAdd (dVar 1) (dCst (.int 1))) dNil)) dNil)) (gNm 6) (sSeq (sAsg 3 (dCallP f_law_more (dCons (dVar 3) (dCons (dCallR f_law_small 0 (dCons (dCst (.int 3)) dNil)) (dCons (dComp [7] (iRng (dCons (dVar 1) dNil)) (gNm 7) tYesD (dBin oSub (dCallR f_law_draw 0 (dCons (dCst (.int 5)) dNil)) (dCst (.int 2)))) dNil)))))
  sEnd))
  (sSeq (sRet (dVar 3))
  sEnd)) sEnd)
  (sSeq (sFor (iRng (dCons (dVar 1) dNil)) (gNm 5) (sSeq (sFor (iRng (dCons (dBin oAdd (dVar 5) (dCst (.int 1))) dNil)) (gNm 4) (sSeq (sAsg 8 (dIf (tOf (dBin oEq (dVar 2) (dCst (.int 0)))) (dCallR f_law_small 0 (dCons (dCst (.int 6)) dNil)) (dMake 4 [.int 1] f_Ratio___init (dCons (dCallR f_law_draw 0 (dCons (dCst (.int 5)) dNil)) dNil))))
  (sSeq (sIf (tOrD (tAndD (tOf (dBin oEq (dVar 2) (dCst (.int 3)))) (tOf (dBin (cmpB fun i j => decide (j < i)) (dCallR f_law_draw 0 (dCons (dCst (.int 3)) dNil)) (dCst (.int 0))))) (tAndD (tOf (dBin oEq (dVar 2) (dCst (.int 2)))) (tOf (dBin oEq (dVar 5) (dVar 4))))) (sSeq (sAsg 8 (dMake 4 [.int 1] f_Ratio___init (dCons (dCst (.int 0)) dNil)))
  sEnd) sEnd)
  (sSeq (sAsgG (dTup (dCons (dVar 8) (dCons (dVar 8) dNil))) (gTup [(gItem2 3 (nVar 5) (nVar 4)), (gItem2 3 (nVar 4) (nVar 5))]))
  sEnd))))
  sEnd))
  (sSeq (sRet (dVar 3))
  sEnd)))))
def f_law_table : DV.Fn := semOf 9 true d_law_table
/-- _law_list(_law_pot_here, _law_size); names: 0=_law_pot_here 1=_law_size 2=_law_found 3=_law_place -/
def d_law_list : DenS := (sSeq (sAsg 2 (dComp [3] (iRng (dCons (dVar 1) dNil)) (gNm 3) tYesD (dCallR f_law_small 0 (dCons (dCst (.int 5)) dNil))))
  (sSeq (sIf (tOf (dBin oEq (dCallR f_law_draw 0 (dCons (dCst (.int 4)) dNil)) (dCst (.int 0)))) (sSeq (sAsgG (dMake 4 [] f_Ratio___init (dCons (dBin oSub (dCst (.int 999983)) (dCallR f_law_draw 0 (dCons (dCst (.int 9)) dNil))) (dCons (dCallR f_law_pick 0 (dCons (dLst (dCons (dCst (.int 1)) (dCons (dCst (.int 999979)) dNil))) dNil)) dNil))) (gItem 2 (dCallR f_law_draw 0 (dCons (dVar 1) dNil))))
  sEnd) sEnd)
  (sSeq (sRet (dVar 2))
  sEnd)))
def f_law_list : DV.Fn := semOf 4 true d_law_list
/-- Ratio.bottom(self); names: 0=self -/
def d_Ratio_bottom : DenS := (sSeq (sRet (dFldV 0 4 1))
  sEnd)
def f_Ratio_bottom : DV.Fn := semOf 1 false d_Ratio_bottom
/-- Ratio.top(self); names: 0=self -/
def d_Ratio_top : DenS := (sSeq (sRet (dFldV 0 4 0))
  sEnd)
def f_Ratio_top : DV.Fn := semOf 1 false d_Ratio_top
/-- _law_handed(_law_pot_here, _law_numbers); names: 0=_law_pot_here 1=_law_numbers 2=_law_found 3=_law_one -/
def d_law_handed : DenS := (sSeq (sAsg 2 (dComp [3] (iSeq (dVar 1)) (gNm 3) tYesD (dIf (tAndD (tOf (dBin oEq (dProp 4 f_Ratio_bottom (dVar 3)) (dCst (.int 1)))) (tOf (dBin oEq (dCallR f_law_draw 0 (dCons (dCst (.int 2)) dNil)) (dCst (.int 0))))) (dProp 4 f_Ratio_top (dVar 3)) (dVar 3))))
  (sSeq (sRet (dIf (tOf (dBin oEq (dCallR f_law_draw 0 (dCons (dCst (.int 4)) dNil)) (dCst (.int 0)))) (dBlt tupleB (dCons (dVar 2) dNil)) (dVar 2)))
  sEnd))
def f_law_handed : DV.Fn := semOf 4 true d_law_handed
/-- _law_given(_law_pot_here, _law_rows); names: 0=_law_pot_here 1=_law_rows 2=_law_found 3=_law_row -/
def d_law_given : DenS := (sSeq (sAsg 2 (dComp [3] (iSeq (dVar 1)) (gNm 3) tYesD (dCallR f_law_handed 0 (dCons (dVar 3) dNil))))
  (sSeq (sRet (dIf (tOf (dBin oEq (dCallR f_law_draw 0 (dCons (dCst (.int 4)) dNil)) (dCst (.int 0)))) (dBlt tupleB (dCons (dVar 2) dNil)) (dVar 2)))
  sEnd))
def f_law_given : DV.Fn := semOf 4 true d_law_given
/-- _law_sum(_law_rows, _law_first, _law_second); names: 0=_law_rows 1=_law_first 2=_law_second 3=_law_found 4=_law_i 5=_law_j -/
def d_law_sum : DenS := (sSeq (sAsg 3 (dMake 4 [.int 1] f_Ratio___init (dCons (dCst (.int 0)) dNil)))
  (sSeq (sFor (iRng (dCons (dBlt lenB (dCons (dVar 0) dNil)) dNil)) (gNm 4) (sSeq (sFor (iRng (dCons (dBlt lenB (dCons (dVar 0) dNil)) dNil)) (gNm 5) (sSeq (sAsg 3 (dBin oAdd (dVar 3) (dBin oMult (dBin oMult (dItem 1 (dVar 4)) (dBin ixB (dItem 0 (dVar 4)) (dVar 5))) (dItem 2 (dVar 5)))))
  sEnd))
  sEnd))
  (sSeq (sRet (dVar 3))
  sEnd)))
def f_law_sum : DV.Fn := semOf 6 false d_law_sum
/-- digits_of(number); names: 0=number 1=left 2=told 3=part 4=sign -/
def d_digits_of : DenS := (sSeq (sPar 1 2 (dCons (dIf (tOf (dBin (cmpB fun i j => decide (j ≤ i)) (dVar 0) (dCst (.int 0)))) (dVar 0) (dBin subB (dCst (.int 0)) (dVar 0))) (dCons (dCst (.str "")) dNil)))
  (sSeq (sWhile (tOf (dBin (cmpB fun i j => decide (j ≤ i)) (dVar 1) (dCst (.int 1000000000000000000000000000000000000000000000000000000000000)))) (sSeq (sAsg 3 (dBin addB (dBin modB (dBlt intB (dCons (dVar 1) dNil)) (dCst (.int 1000000000000000000000000000000000000000000000000000000000000))) (dCst (.int 1000000000000000000000000000000000000000000000000000000000000))))
  (sSeq (sAsg 2 (dJoin [(dUn fmtB (dSlc (dBlt strB (dCons (dVar 3) dNil)) (pSome (dCst (.int 1))) pNo)), (dUn fmtB (dVar 2))]))
  (sSeq (sAsg 1 (dBin divB (dVar 1) (dCst (.int 1000000000000000000000000000000000000000000000000000000000000))))
  sEnd))))
  (sSeq (sAsg 4 (dIf (tOf (dBin ltB (dVar 0) (dCst (.int 0)))) (dCst (.str "-")) (dCst (.str ""))))
  (sSeq (sRet (dJoin [(dUn fmtB (dVar 4)), (dUn fmtB (dVar 1)), (dUn fmtB (dVar 2))]))
  sEnd))))
def f_digits_of : DV.Fn := semOf 5 false d_digits_of
/-- Ratio.__repr__(self); names: 0=self -/
def d_Ratio___repr : DenS := (sSeq (sRet (dJoin [(dCst (.str "Ratio(")), (dUn fmtB (dCallP f_digits_of (dCons (dFldV 0 4 0) dNil))), (dCst (.str ", ")), (dUn fmtB (dCallP f_digits_of (dCons (dFldV 0 4 1) dNil))), (dCst (.str ")"))]))
  sEnd)
def f_Ratio___repr : DV.Fn := semOf 1 false d_Ratio___repr
def orepr := reprS 4 f_Ratio___repr
/-- is_list(value); names: 0=value -/
def d_is_list : DenS := (sSeq (sRet (dBlt isiB (dCons (dVar 0) (dCons (dTup (dCons (dCst (.ty "list")) (dCons (dCst (.ty "tuple")) dNil))) dNil))))
  sEnd)
def f_is_list : DV.Fn := semOf 1 false d_is_list
/-- is_number(value); names: 0=value -/
def d_is_number : DenS := (sSeq (sRet (dOr (dCallP f_is_integer (dCons (dVar 0) dNil)) (dBlt isiB (dCons (dVar 0) (dCons (dCst (.cls 4)) dNil)))))
  sEnd)
def f_is_number : DV.Fn := semOf 1 false d_is_number
/-- are_numbers(value, many); names: 0=value 1=many 2=number -/
def d_are_numbers : DenS := (sSeq (sRet (dAnd (dCallP f_is_list (dCons (dVar 0) dNil)) (dAnd (dBin oEq (dBlt lenB (dCons (dVar 0) dNil)) (dVar 1)) (dBlt allB (dCons (dComp [2] (iSeq (dVar 0)) (gNm 2) tYesD (dCallP f_is_number (dCons (dVar 2) dNil))) dNil)))))
  sEnd)
def f_are_numbers : DV.Fn := semOf 3 false d_are_numbers
/-- are_alike(rows); names: 0=rows 1=place 2=row 3=other -/
def d_are_alike : DenS := (sSeq (sFor (iEnm (dCons (dVar 0) dNil)) (gTup [(gNm 1), (gNm 2)]) (sSeq (sFor (iRng (dCons (dVar 1) dNil)) (gNm 3) (sSeq (sIf (tOf (dBin oNotEq (dItem 2 (dVar 3)) (dBin ixB (dItem 0 (dVar 3)) (dVar 1)))) (sSeq (sRet (dCst (.bl false)))
  sEnd) sEnd)
  sEnd))
  sEnd))
  (sSeq (sRet (dCst (.bl true)))
  sEnd))
def f_are_alike : DV.Fn := semOf 4 false d_are_alike
/-- ratio_of(number); names: 0=number -/
def d_ratio_of : DenS := (sSeq (sRet (dIf (tOf (dBlt isiB (dCons (dVar 0) (dCons (dCst (.cls 4)) dNil)))) (dVar 0) (dMake 4 [.int 1] f_Ratio___init (dCons (dVar 0) dNil))))
  sEnd)
def f_ratio_of : DV.Fn := semOf 1 false d_ratio_of
/-- ratios_of(numbers); names: 0=numbers 1=number -/
def d_ratios_of : DenS := (sSeq (sRet (dComp [1] (iSeq (dVar 0)) (gNm 1) tYesD (dCallP f_ratio_of (dCons (dVar 1) dNil))))
  sEnd)
def f_ratios_of : DV.Fn := semOf 2 false d_ratios_of
/-- is_table(value); names: 0=value 1=row -/
def d_is_table : DenS := (sSeq (sIf (tOrD (tNotD (tOf (dCallP f_is_list (dCons (dVar 0) dNil)))) (tNotD (tOf (dChain (cmpB fun i j => decide (i ≤ j)) (cmpB fun i j => decide (i ≤ j)) (dCst (.int 1)) (dBlt lenB (dCons (dVar 0) dNil)) (dCst (.int 20)))))) (sSeq (sRet (dCst (.bl false)))
  sEnd) sEnd)
  (sSeq (sIf (tNotD (tOf (dBlt allB (dCons (dComp [1] (iSeq (dVar 0)) (gNm 1) tYesD (dCallP f_are_numbers (dCons (dVar 1) (dCons (dBlt lenB (dCons (dVar 0) dNil)) dNil)))) dNil)))) (sSeq (sRet (dCst (.bl false)))
  sEnd) sEnd)
  (sSeq (sRet (dCallP f_are_alike (dCons (dComp [1] (iSeq (dVar 0)) (gNm 1) tYesD (dCallP f_ratios_of (dCons (dVar 1) dNil))) dNil)))
  sEnd)))
def f_is_table : DV.Fn := semOf 2 false d_is_table
/-- told_rows(table); names: 0=table 1=row -/
def d_told_rows : DenS := (sSeq (sIf (tNotD (tOf (dCallP f_is_table (dCons (dVar 0) dNil)))) (sSeq sNo
  sEnd) sEnd)
  (sSeq (sRet (dComp [1] (iSeq (dVar 0)) (gNm 1) tYesD (dCallP f_ratios_of (dCons (dVar 1) dNil))))
  sEnd))
def f_told_rows : DV.Fn := semOf 2 false d_told_rows
/-- told_direction(rows, value); names: 0=rows 1=value -/
def d_told_direction : DenS := (sSeq (sIf (tNotD (tOf (dCallP f_are_numbers (dCons (dVar 1) (dCons (dBlt lenB (dCons (dVar 0) dNil)) dNil))))) (sSeq sNo
  sEnd) sEnd)
  (sSeq (sRet (dCallP f_ratios_of (dCons (dVar 1) dNil)))
  sEnd))
def f_told_direction : DV.Fn := semOf 2 false d_told_direction
/-- total_of(ratios); names: 0=ratios 1=found 2=ratio -/
def d_total_of : DenS := (sSeq (sAsg 1 (dMake 4 [.int 1] f_Ratio___init (dCons (dCst (.int 0)) dNil)))
  (sSeq (sFor (iSeq (dVar 0)) (gNm 2) (sSeq (sAsg 1 (dBin oAdd (dVar 1) (dVar 2)))
  sEnd))
  (sSeq (sRet (dVar 1))
  sEnd)))
def f_total_of : DV.Fn := semOf 3 false d_total_of
/-- weighed(weights, values); names: 0=weights 1=values 2=weight 3=value -/
def d_weighed : DenS := (sSeq (sRet (dCallP f_total_of (dCons (dComp [2, 3] (iZp (dCons (dVar 0) (dCons (dVar 1) dNil))) (gTup [(gNm 2), (gNm 3)]) tYesD (dBin oMult (dVar 2) (dVar 3))) dNil)))
  sEnd)
def f_weighed : DV.Fn := semOf 4 false d_weighed
/-- made_by(rows, numbers); names: 0=rows 1=numbers 2=row -/
def d_made_by : DenS := (sSeq (sRet (dComp [2] (iSeq (dVar 0)) (gNm 2) tYesD (dCallP f_weighed (dCons (dVar 2) (dCons (dVar 1) dNil)))))
  sEnd)
def f_made_by : DV.Fn := semOf 3 false d_made_by
/-- value_in(rows, first, second); names: 0=rows 1=first 2=second -/
def d_value_in : DenS := (sSeq (sRet (dCallP f_weighed (dCons (dVar 1) (dCons (dCallP f_made_by (dCons (dVar 0) (dCons (dVar 2) dNil))) dNil))))
  sEnd)
def f_value_in : DV.Fn := semOf 3 false d_value_in
/-- value_at(table, first, second); names: 0=table 1=first 2=second 3=rows 4=left -/
def d_value_at : DenS := (sSeq (sAsg 3 (dCallP f_told_rows (dCons (dVar 0) dNil)))
  (sSeq (sAsg 4 (dCallP f_told_direction (dCons (dVar 3) (dCons (dVar 1) dNil))))
  (sSeq (sRet (dCallP f_value_in (dCons (dVar 3) (dCons (dVar 4) (dCons (dCallP f_told_direction (dCons (dVar 3) (dCons (dVar 2) dNil))) dNil)))))
  sEnd)))
def f_value_at : DV.Fn := semOf 5 false d_value_at
/-- _law_bent(_law_pot_here, _law_rows); names: 0=_law_pot_here 1=_law_rows 2=_law_found 3=_law_way 4=_law_row 5=_law_i 6=_law_j -/
def d_law_bent : DenS := (sSeq (sPar 2 3 (dCons (dComp [4] (iSeq (dVar 1)) (gNm 4) tYesD (dBlt listB (dCons (dVar 4) dNil))) (dCons (dCallR f_law_draw 0 (dCons (dCst (.int 8)) dNil)) dNil)))
  (sSeq (sPar 5 6 (dCons (dCallR f_law_draw 0 (dCons (dBlt lenB (dCons (dVar 1) dNil)) dNil)) (dCons (dCallR f_law_draw 0 (dCons (dBlt lenB (dCons (dVar 1) dNil)) dNil)) dNil)))
  (sSeq (sIf (tOf (dBin oEq (dVar 3) (dCst (.int 0)))) (sSeq (sAsgG (dBin oAdd (dEls (dItem2 2 (nVar 5) (nVar 6)) (dBin ixB (dItem 2 (dVar 5)) (dVar 6))) (dCst (.int 1))) (gItem2 2 (nVar 5) (nVar 6)))
  sEnd) (sSeq (sIf (tOf (dBin oEq (dVar 3) (dCst (.int 1)))) (sSeq (sExpr (dPop 2 (nVar 5)))
  sEnd) (sSeq (sIf (tOf (dBin oEq (dVar 3) (dCst (.int 2)))) (sSeq (sExpr (dApp3 2 (nVar 5) (dMake 4 [.int 1] f_Ratio___init (dCons (dCst (.int 0)) dNil))))
  sEnd) (sSeq (sIf (tOf (dBin oEq (dVar 3) (dCst (.int 3)))) (sSeq (sExpr (dApp 2 (dBin oMult (dLst (dCons (dMake 4 [.int 1] f_Ratio___init (dCons (dCst (.int 0)) dNil)) dNil)) (dBlt lenB (dCons (dVar 1) dNil)))))
  sEnd) (sSeq (sIf (tOf (dBin oEq (dVar 3) (dCst (.int 4)))) (sSeq (sAsgG (dCallR f_law_pick 0 (dCons (dLst (dCons (dCst .non) (dCons (dCst (.bl true)) (dCons (dCst (.str "0")) (dCons (dLst (dCons (dCst (.int 0)) dNil)) (dCons (dCst (.bl false)) dNil)))))) dNil)) (gItem2 2 (nVar 5) (nVar 6)))
  sEnd) (sSeq (sIf (tOf (dBin oEq (dVar 3) (dCst (.int 5)))) (sSeq (sAsgG (dCallR f_law_pick 0 (dCons (dLst (dCons (dCst .non) (dCons (dBin oMult (dCst (.str "0")) (dBlt lenB (dCons (dVar 1) dNil))) (dCons (dCst (.int 0)) (dCons (dDic [.inl 0] (dCons (dCst (.int 0)) dNil)) dNil))))) dNil)) (gItem 2 (dVar 5)))
  sEnd) (sSeq (sIf (tOf (dBin oEq (dVar 3) (dCst (.int 6)))) (sSeq (sAsgG (dTup (dCons (dBin oSub (dEls (dItem2 2 (nVar 5) (nVar 6)) (dBin ixB (dItem 2 (dVar 5)) (dVar 6))) (dCst (.int 2))) (dCons (dBin oSub (dEls (dItem2 2 (nVar 6) (nVar 5)) (dBin ixB (dItem 2 (dVar 6)) (dVar 5))) (dCst (.int 2))) dNil))) (gTup [(gItem2 2 (nVar 5) (nVar 6)), (gItem2 2 (nVar 6) (nVar 5))]))
  sEnd) sEnd)
  sEnd))
  sEnd))
  sEnd))
  sEnd))
  sEnd))
  sEnd))
  (sSeq (sRet (dVar 2))
  sEnd))))
def f_law_bent : DV.Fn := semOf 7 true d_law_bent
/-- _law_is_number(_law_value); names: 0=_law_value -/
def d_law_is_number : DenS := (sSeq (sRet (dOr (dBlt isiB (dCons (dVar 0) (dCons (dCst (.cls 4)) dNil))) (dAnd (dBlt isiB (dCons (dVar 0) (dCons (dCst (.ty "int")) dNil))) (dNot (dBlt isiB (dCons (dVar 0) (dCons (dCst (.ty "bool")) dNil)))))))
  sEnd)
def f_law_is_number : DV.Fn := semOf 1 false d_law_is_number
/-- _law_looks(_law_value); names: 0=_law_value 1=_law_row 2=_law_one 3=_law_i 4=_law_j -/
def d_law_looks : DenS := (sSeq (sIf (tOrD (tNotD (tOf (dBlt isiB (dCons (dVar 0) (dCons (dTup (dCons (dCst (.ty "list")) (dCons (dCst (.ty "tuple")) dNil))) dNil))))) (tNotD (tOf (dChain (cmpB fun i j => decide (i ≤ j)) (cmpB fun i j => decide (i ≤ j)) (dCst (.int 1)) (dBlt lenB (dCons (dVar 0) dNil)) (dCst (.int 20)))))) (sSeq (sRet (dCst (.bl false)))
  sEnd) sEnd)
  (sSeq (sFor (iSeq (dVar 0)) (gNm 1) (sSeq (sIf (tOrD (tNotD (tOf (dBlt isiB (dCons (dVar 1) (dCons (dTup (dCons (dCst (.ty "list")) (dCons (dCst (.ty "tuple")) dNil))) dNil))))) (tOrD (tOf (dBin oNotEq (dBlt lenB (dCons (dVar 1) dNil)) (dBlt lenB (dCons (dVar 0) dNil)))) (tOf (dBin oNotEq (dComp [2] (iSeq (dVar 1)) (gNm 2) (tNotD (tOf (dCallP f_law_is_number (dCons (dVar 2) dNil)))) (dVar 2)) (dLst dNil))))) (sSeq (sRet (dCst (.bl false)))
  sEnd) sEnd)
  sEnd))
  (sSeq (sFor (iRng (dCons (dBlt lenB (dCons (dVar 0) dNil)) dNil)) (gNm 3) (sSeq (sIf (tNotD (tOf (dBlt allB (dCons (dComp [4] (iRng (dCons (dVar 3) dNil)) (gNm 4) tYesD (dBin oEq (dBin oAdd (dMake 4 [.int 1] f_Ratio___init (dCons (dCst (.int 0)) dNil)) (dBin ixB (dItem 0 (dVar 3)) (dVar 4))) (dBin oAdd (dMake 4 [.int 1] f_Ratio___init (dCons (dCst (.int 0)) dNil)) (dBin ixB (dItem 0 (dVar 4)) (dVar 3))))) dNil)))) (sSeq (sRet (dCst (.bl false)))
  sEnd) sEnd)
  sEnd))
  (sSeq (sRet (dCst (.bl true)))
  sEnd))))
def f_law_looks : DV.Fn := semOf 5 false d_law_looks
/-- _law_right(_law_pot_here); names: 0=_law_pot_here 1=_law_size 2=_law_rows 3=_law_given_here 4=_law_first 5=_law_second 6=_law_third 7=_law_left 8=_law_right_here 9=_law_stay 10=_law_due 11=_law_both 12=_law_one 13=_law_other 14=_law_turn 15=_law_value -/
def d_law_right : DenS := (sSeq (sAsg 1 (dBin oAdd (dCst (.int 1)) (dCallR f_law_draw 0 (dCons (dCst (.int 5)) dNil))))
  (sSeq (sAsg 2 (dCallR f_law_table 0 (dCons (dVar 1) dNil)))
  (sSeq (sAsgG (dTup (dCons (dCallR f_law_given 0 (dCons (dVar 2) dNil)) (dCons (dCallR f_law_list 0 (dCons (dVar 1) dNil)) (dCons (dCallR f_law_list 0 (dCons (dVar 1) dNil)) (dCons (dCallR f_law_list 0 (dCons (dVar 1) dNil)) dNil))))) (gTup [(gNm 3), (gNm 4), (gNm 5), (gNm 6)]))
  (sSeq (sPar 7 8 (dCons (dCallR f_law_handed 0 (dCons (dVar 4) dNil)) (dCons (dCallR f_law_handed 0 (dCons (dVar 5) dNil)) dNil)))
  (sSeq (sPar 9 10 (dCons (dBlt orepr (dCons (dLst (dCons (dVar 3) (dCons (dVar 7) (dCons (dVar 8) dNil)))) dNil)) (dCons (dCallP f_law_sum (dCons (dVar 2) (dCons (dVar 4) (dCons (dVar 5) dNil)))) dNil)))
  (sSeq (sIf (tOrD (tOf (dBin (isNonB true) (dCallP f_is_table (dCons (dVar 3) dNil)) (dCst (.bl true)))) (tOf (dBin oNotEq (dBlt orepr (dCons (dCallP f_value_at (dCons (dVar 3) (dCons (dVar 7) (dCons (dVar 8) dNil)))) dNil)) (dBlt orepr (dCons (dVar 10) dNil))))) (sSeq (sRet (dCst (.bl false)))
  sEnd) sEnd)
  (sSeq (sIf (tOf (dBin oNotEq (dBlt orepr (dCons (dLst (dCons (dCallP (permF [2, 1, 0] f_value_at) (dCons (dVar 7) (dCons (dVar 8) (dCons (dVar 3) dNil)))) (dCons (dCallP f_value_at (dCons (dVar 2) (dCons (dBlt tupleB (dCons (dVar 4) dNil)) (dCons (dVar 5) dNil)))) dNil))) dNil)) (dBlt orepr (dCons (dBin oMult (dLst (dCons (dVar 10) dNil)) (dCst (.int 2))) dNil)))) (sSeq (sRet (dCst (.bl false)))
  sEnd) sEnd)
  (sSeq (sAsg 11 (dComp [12, 13] (iZp (dCons (dVar 4) (dCons (dVar 6) dNil))) (gTup [(gNm 12), (gNm 13)]) tYesD (dBin oSub (dBin oMult (dVar 12) (dCst (.int 2))) (dVar 13))))
  (sSeq (sIf (tOf (dBin oNotEq (dCallP f_value_at (dCons (dVar 3) (dCons (dVar 11) (dCons (dVar 5) dNil)))) (dBin oSub (dBin oMult (dVar 10) (dCst (.int 2))) (dCallP f_value_at (dCons (dVar 3) (dCons (dVar 6) (dCons (dVar 5) dNil))))))) (sSeq (sRet (dCst (.bl false)))
  sEnd) sEnd)
  (sSeq (sIf (tOrD (tOf (dBin oNotEq (dCallP f_value_at (dCons (dVar 3) (dCons (dBin oMult (dLst (dCons (dCst (.int 0)) dNil)) (dVar 1)) (dCons (dVar 8) dNil)))) (dMake 4 [.int 1] f_Ratio___init (dCons (dCst (.int 0)) dNil)))) (tOf (dBin oNotEq (dCallP f_value_at (dCons (dVar 2) (dCons (dVar 4) (dCons (dVar 4) dNil)))) (dCallP f_law_sum (dCons (dVar 2) (dCons (dVar 4) (dCons (dVar 4) dNil))))))) (sSeq (sRet (dCst (.bl false)))
  sEnd) sEnd)
  (sSeq (sFor (iRng (dCons (dCst (.int 4)) dNil)) (gNm 14) (sSeq (sAsg 15 (dCallR f_law_bent 0 (dCons (dVar 2) dNil)))
  (sSeq (sIf (tOf (dBin oNotEq (dBlt orepr (dCons (dLst (dCons (dCallP f_is_table (dCons (dVar 15) dNil)) (dCons (dCallP f_is_table (dCons (dBlt tupleB (dCons (dVar 15) dNil)) dNil)) dNil))) dNil)) (dBlt orepr (dCons (dBin oMult (dLst (dCons (dCallP f_law_looks (dCons (dVar 15) dNil)) dNil)) (dCst (.int 2))) dNil)))) (sSeq (sRet (dCst (.bl false)))
  sEnd) sEnd)
  sEnd)))
  (sSeq (sRet (dBin oEq (dBlt orepr (dCons (dLst (dCons (dVar 3) (dCons (dVar 7) (dCons (dVar 8) dNil)))) dNil)) (dVar 9)))
  sEnd))))))))))))
def f_law_right : DV.Fn := semOf 16 true d_law_right
/-- _law_pot(_law_script, _law_k); names: 0=_law_script 1=_law_k 2=_law_cell -/
def d_law_pot : DenS := (sSeq (sAsg 2 (dIf (tOf (dBin ltB (dVar 1) (dBlt lenB (dCons (dVar 0) dNil)))) (dBlt absB (dCons (dItem 0 (dVar 1)) dNil)) (dBin oAdd (dBin oMult (dCst (.int 409)) (dVar 1)) (dCst (.int 107)))))
  (sSeq (sRet (dLst (dCons (dBlt maxB (dCons (dCst (.int 0)) (dCons (dBin oSub (dVar 2) (dBin powB (dCst (.int 10)) (dCst (.int 18)))) dNil))) (dCons (dBin oAdd (dBin modB (dBlt intB (dCons (dBin oAdd (dBin oAdd (dBin oMult (dBin modB (dBlt intB (dCons (dVar 2) dNil)) (dCst (.int 2147483549))) (dCst (.int 40127))) (dBin oMult (dCst (.int 1019)) (dVar 1))) (dCst (.int 79))) dNil)) (dCst (.int 2147483563))) (dCst (.int 1))) dNil))))
  sEnd))
def f_law_pot : DV.Fn := semOf 3 false d_law_pot
/-- law(_law_script); names: 0=_law_script 1=_law_k -/
def d_law : DenS := (sSeq (sRet (dBlt allB (dCons (dComp [1] (iRng (dCons (dBlt maxB (dCons (dCst (.int 1)) (dCons (dBlt minB (dCons (dCst (.int 3)) (dCons (dBlt lenB (dCons (dVar 0) dNil)) dNil))) dNil))) dNil)) (gNm 1) tYesD (dCallT f_law_right (dCallP f_law_pot (dCons (dVar 0) (dCons (dVar 1) dNil))) dNil)) dNil)))
  sEnd)
def f_law : DV.Fn := semOf 2 false d_law
end K31D

set_option Elab.async false
set_option maxRecDepth 100000
set_option maxHeartbeats 4000000
set_option linter.all false
/-! printed by gen.py: the defs do that -/
namespace K31W
open PySem L2 DV K31D PySem.Spec PyProof.Rows
def top (i : Nat) : Stmt := PySem.Challenge.pw_onecrest_k31_tables_by_plain_sums.main.body.getD i (.Pass ⟨0, 0, 0, 0⟩)
abbrev s_is_integer : Stmt := top 7
abbrev s_told_pair : Stmt := top 14
abbrev s_common_part : Stmt := top 12
abbrev s_Ratio___init : Stmt := inClass (top 13) 0
abbrev s_Ratio___add : Stmt := inClass (top 13) 6
abbrev s_Ratio___radd : Stmt := inClass (top 13) 7
abbrev s_Ratio___mul : Stmt := inClass (top 13) 10
abbrev s_Ratio___rmul : Stmt := inClass (top 13) 11
abbrev s_law_draw : Stmt := top 32
abbrev s_law_more : Stmt := top 35
abbrev s_law_pick : Stmt := top 33
abbrev s_Ratio___sub : Stmt := inClass (top 13) 8
abbrev s_Ratio___rsub : Stmt := inClass (top 13) 9
abbrev s_law_small : Stmt := top 34
abbrev s_Ratio___eq : Stmt := inClass (top 13) 17
abbrev s_law_table : Stmt := top 36
abbrev s_law_list : Stmt := top 43
abbrev s_Ratio_bottom : Stmt := inClass (top 13) 2
abbrev s_Ratio_top : Stmt := inClass (top 13) 1
abbrev s_law_handed : Stmt := top 37
abbrev s_law_given : Stmt := top 38
abbrev s_law_sum : Stmt := top 42
abbrev s_digits_of : Stmt := top 11
abbrev s_Ratio___repr : Stmt := inClass (top 13) 19
abbrev s_is_list : Stmt := top 8
abbrev s_is_number : Stmt := top 15
abbrev s_are_numbers : Stmt := top 21
abbrev s_are_alike : Stmt := top 22
abbrev s_ratio_of : Stmt := top 16
abbrev s_ratios_of : Stmt := top 24
abbrev s_is_table : Stmt := top 23
abbrev s_told_rows : Stmt := top 25
abbrev s_told_direction : Stmt := top 26
abbrev s_total_of : Stmt := top 17
abbrev s_weighed : Stmt := top 18
abbrev s_made_by : Stmt := top 27
abbrev s_value_in : Stmt := top 28
abbrev s_value_at : Stmt := top 29
abbrev s_law_bent : Stmt := top 41
abbrev s_law_is_number : Stmt := top 39
abbrev s_law_looks : Stmt := top 40
abbrev s_law_right : Stmt := top 44
abbrev s_law_pot : Stmt := top 31
abbrev s_law : Stmt := top 45
/-- what the text says, by places: A the defs, P the records of properties and classmethods, C the classes -/
structure Txt (K : PySem.W.Frag) (mg : Str → Option Value) (A P C : Nat → Addr) (FD : Nat → FuncData) : Prop where
  F0 : FunD K "is_integer" "is_integer" (defArgs s_is_integer) (defBody s_is_integer) (defScope s_is_integer) [] [] (A 0) (FD 0)
  g0 : mg "is_integer" = some (.ref (A 0))
  F1 : FunD K "told_pair" "told_pair" (defArgs s_told_pair) (defBody s_told_pair) (defScope s_told_pair) [] [] (A 1) (FD 1)
  g1 : mg "told_pair" = some (.ref (A 1))
  F2 : FunD K "common_part" "common_part" (defArgs s_common_part) (defBody s_common_part) (defScope s_common_part) [] [] (A 2) (FD 2)
  g2 : mg "common_part" = some (.ref (A 2))
  F3 : FunD K "__init__" "Ratio.__init__" (defArgs s_Ratio___init) (defBody s_Ratio___init) (defScope s_Ratio___init) [.int 1] [] (A 3) (FD 3)
  me3 : Meth K (C 4) "__init__" (A 3)
  F4 : FunD K "__add__" "Ratio.__add__" (defArgs s_Ratio___add) (defBody s_Ratio___add) (defScope s_Ratio___add) [] [] (A 4) (FD 4)
  me4 : Meth K (C 4) "__add__" (A 4)
  F5 : FunD K "__radd__" "Ratio.__radd__" (defArgs s_Ratio___radd) (defBody s_Ratio___radd) (defScope s_Ratio___radd) [] [] (A 5) (FD 5)
  me5 : Meth K (C 4) "__radd__" (A 5)
  F6 : FunD K "__mul__" "Ratio.__mul__" (defArgs s_Ratio___mul) (defBody s_Ratio___mul) (defScope s_Ratio___mul) [] [] (A 6) (FD 6)
  me6 : Meth K (C 4) "__mul__" (A 6)
  F7 : FunD K "__rmul__" "Ratio.__rmul__" (defArgs s_Ratio___rmul) (defBody s_Ratio___rmul) (defScope s_Ratio___rmul) [] [] (A 7) (FD 7)
  me7 : Meth K (C 4) "__rmul__" (A 7)
  F8 : FunD K "_law_draw" "_law_draw" (defArgs s_law_draw) (defBody s_law_draw) (defScope s_law_draw) [] [] (A 8) (FD 8)
  g8 : mg "_law_draw" = some (.ref (A 8))
  F9 : FunD K "_law_more" "_law_more" (defArgs s_law_more) (defBody s_law_more) (defScope s_law_more) [] [] (A 9) (FD 9)
  g9 : mg "_law_more" = some (.ref (A 9))
  F10 : FunD K "_law_pick" "_law_pick" (defArgs s_law_pick) (defBody s_law_pick) (defScope s_law_pick) [] [] (A 10) (FD 10)
  g10 : mg "_law_pick" = some (.ref (A 10))
  F11 : FunD K "__sub__" "Ratio.__sub__" (defArgs s_Ratio___sub) (defBody s_Ratio___sub) (defScope s_Ratio___sub) [] [] (A 11) (FD 11)
  me11 : Meth K (C 4) "__sub__" (A 11)
  F12 : FunD K "__rsub__" "Ratio.__rsub__" (defArgs s_Ratio___rsub) (defBody s_Ratio___rsub) (defScope s_Ratio___rsub) [] [] (A 12) (FD 12)
  me12 : Meth K (C 4) "__rsub__" (A 12)
  F13 : FunD K "_law_small" "_law_small" (defArgs s_law_small) (defBody s_law_small) (defScope s_law_small) [] [] (A 13) (FD 13)
  g13 : mg "_law_small" = some (.ref (A 13))
  F14 : FunD K "__eq__" "Ratio.__eq__" (defArgs s_Ratio___eq) (defBody s_Ratio___eq) (defScope s_Ratio___eq) [] [] (A 14) (FD 14)
  me14 : Meth K (C 4) "__eq__" (A 14)
  F15 : FunD K "_law_table" "_law_table" (defArgs s_law_table) (defBody s_law_table) (defScope s_law_table) [] [] (A 15) (FD 15)
  g15 : mg "_law_table" = some (.ref (A 15))
  F16 : FunD K "_law_list" "_law_list" (defArgs s_law_list) (defBody s_law_list) (defScope s_law_list) [] [] (A 16) (FD 16)
  g16 : mg "_law_list" = some (.ref (A 16))
  F17 : FunD K "bottom" "Ratio.bottom" (defArgs s_Ratio_bottom) (defBody s_Ratio_bottom) (defScope s_Ratio_bottom) [] [] (A 17) (FD 17)
  pr17 : PropOf K (C 4) "bottom" (P 17) (A 17)
  F18 : FunD K "top" "Ratio.top" (defArgs s_Ratio_top) (defBody s_Ratio_top) (defScope s_Ratio_top) [] [] (A 18) (FD 18)
  pr18 : PropOf K (C 4) "top" (P 18) (A 18)
  F19 : FunD K "_law_handed" "_law_handed" (defArgs s_law_handed) (defBody s_law_handed) (defScope s_law_handed) [] [] (A 19) (FD 19)
  g19 : mg "_law_handed" = some (.ref (A 19))
  F20 : FunD K "_law_given" "_law_given" (defArgs s_law_given) (defBody s_law_given) (defScope s_law_given) [] [] (A 20) (FD 20)
  g20 : mg "_law_given" = some (.ref (A 20))
  F21 : FunD K "_law_sum" "_law_sum" (defArgs s_law_sum) (defBody s_law_sum) (defScope s_law_sum) [] [] (A 21) (FD 21)
  g21 : mg "_law_sum" = some (.ref (A 21))
  F22 : FunD K "digits_of" "digits_of" (defArgs s_digits_of) (defBody s_digits_of) (defScope s_digits_of) [] [] (A 22) (FD 22)
  g22 : mg "digits_of" = some (.ref (A 22))
  F23 : FunD K "__repr__" "Ratio.__repr__" (defArgs s_Ratio___repr) (defBody s_Ratio___repr) (defScope s_Ratio___repr) [] [] (A 23) (FD 23)
  me23 : Meth K (C 4) "__repr__" (A 23)
  F24 : FunD K "is_list" "is_list" (defArgs s_is_list) (defBody s_is_list) (defScope s_is_list) [] [] (A 24) (FD 24)
  g24 : mg "is_list" = some (.ref (A 24))
  F25 : FunD K "is_number" "is_number" (defArgs s_is_number) (defBody s_is_number) (defScope s_is_number) [] [] (A 25) (FD 25)
  g25 : mg "is_number" = some (.ref (A 25))
  F26 : FunD K "are_numbers" "are_numbers" (defArgs s_are_numbers) (defBody s_are_numbers) (defScope s_are_numbers) [] [] (A 26) (FD 26)
  g26 : mg "are_numbers" = some (.ref (A 26))
  F27 : FunD K "are_alike" "are_alike" (defArgs s_are_alike) (defBody s_are_alike) (defScope s_are_alike) [] [] (A 27) (FD 27)
  g27 : mg "are_alike" = some (.ref (A 27))
  F28 : FunD K "ratio_of" "ratio_of" (defArgs s_ratio_of) (defBody s_ratio_of) (defScope s_ratio_of) [] [] (A 28) (FD 28)
  g28 : mg "ratio_of" = some (.ref (A 28))
  F29 : FunD K "ratios_of" "ratios_of" (defArgs s_ratios_of) (defBody s_ratios_of) (defScope s_ratios_of) [] [] (A 29) (FD 29)
  g29 : mg "ratios_of" = some (.ref (A 29))
  F30 : FunD K "is_table" "is_table" (defArgs s_is_table) (defBody s_is_table) (defScope s_is_table) [] [] (A 30) (FD 30)
  g30 : mg "is_table" = some (.ref (A 30))
  F31 : FunD K "told_rows" "told_rows" (defArgs s_told_rows) (defBody s_told_rows) (defScope s_told_rows) [] [] (A 31) (FD 31)
  g31 : mg "told_rows" = some (.ref (A 31))
  F32 : FunD K "told_direction" "told_direction" (defArgs s_told_direction) (defBody s_told_direction) (defScope s_told_direction) [] [] (A 32) (FD 32)
  g32 : mg "told_direction" = some (.ref (A 32))
  F33 : FunD K "total_of" "total_of" (defArgs s_total_of) (defBody s_total_of) (defScope s_total_of) [] [] (A 33) (FD 33)
  g33 : mg "total_of" = some (.ref (A 33))
  F34 : FunD K "weighed" "weighed" (defArgs s_weighed) (defBody s_weighed) (defScope s_weighed) [] [] (A 34) (FD 34)
  g34 : mg "weighed" = some (.ref (A 34))
  F35 : FunD K "made_by" "made_by" (defArgs s_made_by) (defBody s_made_by) (defScope s_made_by) [] [] (A 35) (FD 35)
  g35 : mg "made_by" = some (.ref (A 35))
  F36 : FunD K "value_in" "value_in" (defArgs s_value_in) (defBody s_value_in) (defScope s_value_in) [] [] (A 36) (FD 36)
  g36 : mg "value_in" = some (.ref (A 36))
  F37 : FunD K "value_at" "value_at" (defArgs s_value_at) (defBody s_value_at) (defScope s_value_at) [] [] (A 37) (FD 37)
  g37 : mg "value_at" = some (.ref (A 37))
  F38 : FunD K "_law_bent" "_law_bent" (defArgs s_law_bent) (defBody s_law_bent) (defScope s_law_bent) [] [] (A 38) (FD 38)
  g38 : mg "_law_bent" = some (.ref (A 38))
  F39 : FunD K "_law_is_number" "_law_is_number" (defArgs s_law_is_number) (defBody s_law_is_number) (defScope s_law_is_number) [] [] (A 39) (FD 39)
  g39 : mg "_law_is_number" = some (.ref (A 39))
  F40 : FunD K "_law_looks" "_law_looks" (defArgs s_law_looks) (defBody s_law_looks) (defScope s_law_looks) [] [] (A 40) (FD 40)
  g40 : mg "_law_looks" = some (.ref (A 40))
  F41 : FunD K "_law_right" "_law_right" (defArgs s_law_right) (defBody s_law_right) (defScope s_law_right) [] [] (A 41) (FD 41)
  g41 : mg "_law_right" = some (.ref (A 41))
  F42 : FunD K "_law_pot" "_law_pot" (defArgs s_law_pot) (defBody s_law_pot) (defScope s_law_pot) [] [] (A 42) (FD 42)
  g42 : mg "_law_pot" = some (.ref (A 42))
  F43 : FunD K "law" "law" (defArgs s_law) (defBody s_law) (defScope s_law) [] [] (A 43) (FD 43)
  g43 : mg "law" = some (.ref (A 43))
  k4 : ClsK K (C 4)
  mc4 : mg "Ratio" = some (.ref (C 4))
  n4_0 : NoAttr K (C 4) "own_top"
  n4_1 : NoAttr K (C 4) "own_bottom"
  cr4 : ClX.CRead K (C 4) (.type "type")
  mk4 : Mk K (C 4) (A 3)
  i_PART : ∃ t, mg "PART" = some (.int 1000000000000000000000000000000000000000000000000000000000000 t)
  i_MOST_ROWS : ∃ t, mg "MOST_ROWS" = some (.int 20 t)
  z_isinstance : mg "isinstance" = none
  z_int : mg "int" = none
  z_bool : mg "bool" = none
  z_abs : mg "abs" = none
  z_divmod : mg "divmod" = none
  z_len : mg "len" = none
  z_range : mg "range" = none
  z_tuple : mg "tuple" = none
  z_str : mg "str" = none
  z_list : mg "list" = none
  z_all : mg "all" = none
  z_enumerate : mg "enumerate" = none
  z_zip : mg "zip" = none
  z_repr : mg "repr" = none
  z_max : mg "max" = none
  z_min : mg "min" = none
/-- the classes by number -/
def gg (K : PySem.W.Frag) (C : Nat → Addr) : G := { K := K, cls := fun c => if c = 4 then some (C 4) else none, flds := fun c => if c = 4 then ["own_top", "own_bottom"] else [] }
section
variable {P : Program} {w : World} {K : PySem.W.Frag} {mg : Str → Option Value} {base : Heap} {A Pp C : Nat → Addr} {FD : Nat → FuncData}
theorem gok (T : Txt K mg A Pp C FD) : GOk (gg K C) := by
  refine ⟨fun c D h => ?_, fun c c' D D' h h' n => ?_⟩
  · simp only [gg] at h
    by_cases q4 : c = 4
    · subst q4; simp at h; subst h; exact (show ClsK (gg K C).K (C 4) from T.k4).facts
    simp [q4] at h
  · simp only [gg] at h h'
    by_cases q : c = 4
    · by_cases q' : c' = 4
      · exact absurd (q.trans q'.symm) n
      · simp [q'] at h'
    · simp [q] at h
theorem b0 (T : Txt K mg A Pp C FD) : Binds K (FD 0) ["value"] [] := FunD.bindsN T.F0 fun _ _ _ _ _ _ us hl => match us, hl with | [_], _ => rfl
theorem b1 (T : Txt K mg A Pp C FD) : Binds K (FD 1) ["value"] [] := FunD.bindsN T.F1 fun _ _ _ _ _ _ us hl => match us, hl with | [_], _ => rfl
theorem b2 (T : Txt K mg A Pp C FD) : Binds K (FD 2) ["one", "other"] [] := FunD.bindsN T.F2 fun _ _ _ _ _ _ us hl => match us, hl with | [_, _], _ => rfl
theorem b4 (T : Txt K mg A Pp C FD) : Binds K (FD 4) ["self", "other"] [] := FunD.bindsN T.F4 fun _ _ _ _ _ _ us hl => match us, hl with | [_, _], _ => rfl
theorem b5 (T : Txt K mg A Pp C FD) : Binds K (FD 5) ["self", "other"] [] := FunD.bindsN T.F5 fun _ _ _ _ _ _ us hl => match us, hl with | [_, _], _ => rfl
theorem b6 (T : Txt K mg A Pp C FD) : Binds K (FD 6) ["self", "other"] [] := FunD.bindsN T.F6 fun _ _ _ _ _ _ us hl => match us, hl with | [_, _], _ => rfl
theorem b7 (T : Txt K mg A Pp C FD) : Binds K (FD 7) ["self", "other"] [] := FunD.bindsN T.F7 fun _ _ _ _ _ _ us hl => match us, hl with | [_, _], _ => rfl
theorem b8 (T : Txt K mg A Pp C FD) : Binds K (FD 8) ["_law_pot_here", "_law_size"] [] := FunD.bindsN T.F8 fun _ _ _ _ _ _ us hl => match us, hl with | [_, _], _ => rfl
theorem b9 (T : Txt K mg A Pp C FD) : Binds K (FD 9) ["_law_rows", "_law_number", "_law_form"] [] := FunD.bindsN T.F9 fun _ _ _ _ _ _ us hl => match us, hl with | [_, _, _], _ => rfl
theorem b10 (T : Txt K mg A Pp C FD) : Binds K (FD 10) ["_law_pot_here", "_law_some"] [] := FunD.bindsN T.F10 fun _ _ _ _ _ _ us hl => match us, hl with | [_, _], _ => rfl
theorem b11 (T : Txt K mg A Pp C FD) : Binds K (FD 11) ["self", "other"] [] := FunD.bindsN T.F11 fun _ _ _ _ _ _ us hl => match us, hl with | [_, _], _ => rfl
theorem b12 (T : Txt K mg A Pp C FD) : Binds K (FD 12) ["self", "other"] [] := FunD.bindsN T.F12 fun _ _ _ _ _ _ us hl => match us, hl with | [_, _], _ => rfl
theorem b13 (T : Txt K mg A Pp C FD) : Binds K (FD 13) ["_law_pot_here", "_law_most"] [] := FunD.bindsN T.F13 fun _ _ _ _ _ _ us hl => match us, hl with | [_, _], _ => rfl
theorem b14 (T : Txt K mg A Pp C FD) : Binds K (FD 14) ["self", "other"] [] := FunD.bindsN T.F14 fun _ _ _ _ _ _ us hl => match us, hl with | [_, _], _ => rfl
theorem b15 (T : Txt K mg A Pp C FD) : Binds K (FD 15) ["_law_pot_here", "_law_size"] [] := FunD.bindsN T.F15 fun _ _ _ _ _ _ us hl => match us, hl with | [_, _], _ => rfl
theorem b16 (T : Txt K mg A Pp C FD) : Binds K (FD 16) ["_law_pot_here", "_law_size"] [] := FunD.bindsN T.F16 fun _ _ _ _ _ _ us hl => match us, hl with | [_, _], _ => rfl
theorem b17 (T : Txt K mg A Pp C FD) : Binds K (FD 17) ["self"] [] := FunD.bindsN T.F17 fun _ _ _ _ _ _ us hl => match us, hl with | [_], _ => rfl
theorem b18 (T : Txt K mg A Pp C FD) : Binds K (FD 18) ["self"] [] := FunD.bindsN T.F18 fun _ _ _ _ _ _ us hl => match us, hl with | [_], _ => rfl
theorem b19 (T : Txt K mg A Pp C FD) : Binds K (FD 19) ["_law_pot_here", "_law_numbers"] [] := FunD.bindsN T.F19 fun _ _ _ _ _ _ us hl => match us, hl with | [_, _], _ => rfl
theorem b20 (T : Txt K mg A Pp C FD) : Binds K (FD 20) ["_law_pot_here", "_law_rows"] [] := FunD.bindsN T.F20 fun _ _ _ _ _ _ us hl => match us, hl with | [_, _], _ => rfl
theorem b21 (T : Txt K mg A Pp C FD) : Binds K (FD 21) ["_law_rows", "_law_first", "_law_second"] [] := FunD.bindsN T.F21 fun _ _ _ _ _ _ us hl => match us, hl with | [_, _, _], _ => rfl
theorem b22 (T : Txt K mg A Pp C FD) : Binds K (FD 22) ["number"] [] := FunD.bindsN T.F22 fun _ _ _ _ _ _ us hl => match us, hl with | [_], _ => rfl
theorem b23 (T : Txt K mg A Pp C FD) : Binds K (FD 23) ["self"] [] := FunD.bindsN T.F23 fun _ _ _ _ _ _ us hl => match us, hl with | [_], _ => rfl
theorem b24 (T : Txt K mg A Pp C FD) : Binds K (FD 24) ["value"] [] := FunD.bindsN T.F24 fun _ _ _ _ _ _ us hl => match us, hl with | [_], _ => rfl
theorem b25 (T : Txt K mg A Pp C FD) : Binds K (FD 25) ["value"] [] := FunD.bindsN T.F25 fun _ _ _ _ _ _ us hl => match us, hl with | [_], _ => rfl
theorem b26 (T : Txt K mg A Pp C FD) : Binds K (FD 26) ["value", "many"] [] := FunD.bindsN T.F26 fun _ _ _ _ _ _ us hl => match us, hl with | [_, _], _ => rfl
theorem b27 (T : Txt K mg A Pp C FD) : Binds K (FD 27) ["rows"] [] := FunD.bindsN T.F27 fun _ _ _ _ _ _ us hl => match us, hl with | [_], _ => rfl
theorem b28 (T : Txt K mg A Pp C FD) : Binds K (FD 28) ["number"] [] := FunD.bindsN T.F28 fun _ _ _ _ _ _ us hl => match us, hl with | [_], _ => rfl
theorem b29 (T : Txt K mg A Pp C FD) : Binds K (FD 29) ["numbers"] [] := FunD.bindsN T.F29 fun _ _ _ _ _ _ us hl => match us, hl with | [_], _ => rfl
theorem b30 (T : Txt K mg A Pp C FD) : Binds K (FD 30) ["value"] [] := FunD.bindsN T.F30 fun _ _ _ _ _ _ us hl => match us, hl with | [_], _ => rfl
theorem b31 (T : Txt K mg A Pp C FD) : Binds K (FD 31) ["table"] [] := FunD.bindsN T.F31 fun _ _ _ _ _ _ us hl => match us, hl with | [_], _ => rfl
theorem b32 (T : Txt K mg A Pp C FD) : Binds K (FD 32) ["rows", "value"] [] := FunD.bindsN T.F32 fun _ _ _ _ _ _ us hl => match us, hl with | [_, _], _ => rfl
theorem b33 (T : Txt K mg A Pp C FD) : Binds K (FD 33) ["ratios"] [] := FunD.bindsN T.F33 fun _ _ _ _ _ _ us hl => match us, hl with | [_], _ => rfl
theorem b34 (T : Txt K mg A Pp C FD) : Binds K (FD 34) ["weights", "values"] [] := FunD.bindsN T.F34 fun _ _ _ _ _ _ us hl => match us, hl with | [_, _], _ => rfl
theorem b35 (T : Txt K mg A Pp C FD) : Binds K (FD 35) ["rows", "numbers"] [] := FunD.bindsN T.F35 fun _ _ _ _ _ _ us hl => match us, hl with | [_, _], _ => rfl
theorem b36 (T : Txt K mg A Pp C FD) : Binds K (FD 36) ["rows", "first", "second"] [] := FunD.bindsN T.F36 fun _ _ _ _ _ _ us hl => match us, hl with | [_, _, _], _ => rfl
theorem b37 (T : Txt K mg A Pp C FD) : Binds K (FD 37) ["table", "first", "second"] [] := FunD.bindsN T.F37 fun _ _ _ _ _ _ us hl => match us, hl with | [_, _, _], _ => rfl
theorem b38 (T : Txt K mg A Pp C FD) : Binds K (FD 38) ["_law_pot_here", "_law_rows"] [] := FunD.bindsN T.F38 fun _ _ _ _ _ _ us hl => match us, hl with | [_, _], _ => rfl
theorem b39 (T : Txt K mg A Pp C FD) : Binds K (FD 39) ["_law_value"] [] := FunD.bindsN T.F39 fun _ _ _ _ _ _ us hl => match us, hl with | [_], _ => rfl
theorem b40 (T : Txt K mg A Pp C FD) : Binds K (FD 40) ["_law_value"] [] := FunD.bindsN T.F40 fun _ _ _ _ _ _ us hl => match us, hl with | [_], _ => rfl
theorem b41 (T : Txt K mg A Pp C FD) : Binds K (FD 41) ["_law_pot_here"] [] := FunD.bindsN T.F41 fun _ _ _ _ _ _ us hl => match us, hl with | [_], _ => rfl
theorem b42 (T : Txt K mg A Pp C FD) : Binds K (FD 42) ["_law_script", "_law_k"] [] := FunD.bindsN T.F42 fun _ _ _ _ _ _ us hl => match us, hl with | [_, _], _ => rfl
theorem b43 (T : Txt K mg A Pp C FD) : Binds K (FD 43) ["_law_script"] [] := FunD.bindsN T.F43 fun _ _ _ _ _ _ us hl => match us, hl with | [_], _ => rfl
theorem ok_is_integer (T : Txt K mg A Pp C FD) : FnD P w K mg base false 1 (A 0) (FD 0) ["value"] (spD (gg K C) false 1 f_is_integer) := by
  refine fnD_of (N := ["value"]) (FunD.a' T.F0) ⟨rfl, rfl, rfl, by decide +kernel, rfl, by decide +kernel, by decide +kernel⟩ rfl (by decide) fun X b => ?_
  have hp := b.prog; have hw := b.w; have hK := b.K; have hm := b.mg; have hb := b.base; subst hp hw hK hm hb
  have c0 : Cok (gg X.K C) ["value"] (defScope s_is_integer) (fun _ => true) X := b.ctx rfl (by decide +kernel)
  have G := gok T
  have z_isinstance := T.z_isinstance
  have z_int := T.z_int
  have z_bool := T.z_bool
  exact (snd_seq (snd_ret (snd_vand (Cok.blt c0 (snd_isi G c0.hK) (by decide +kernel) z_isinstance (by decide +kernel) rfl (snd_cons (Cok.var c0 (by decide +kernel)) (snd_cons (Cok.ty c0 (by decide +kernel) z_int (by decide +kernel)) snd_nil (noStar_ne rfl)) (noStar_ne rfl))) (snd_vone (snd_vnot (Cok.blt c0 (snd_isi G c0.hK) (by decide +kernel) z_isinstance (by decide +kernel) rfl (snd_cons (Cok.var c0 (by decide +kernel)) (snd_cons (Cok.ty c0 (by decide +kernel) z_bool (by decide +kernel)) snd_nil (noStar_ne rfl)) (noStar_ne rfl)))))))
  snd_end)
theorem ok_told_pair (T : Txt K mg A Pp C FD) : FnD P w K mg base false 2 (A 1) (FD 1) ["value"] (spD (gg K C) false 1 f_told_pair) := by
  refine fnD_of (N := ["value"]) (FunD.a' T.F1) ⟨rfl, rfl, rfl, by decide +kernel, rfl, by decide +kernel, by decide +kernel⟩ rfl (by decide) fun X b => ?_
  have hp := b.prog; have hw := b.w; have hK := b.K; have hm := b.mg; have hb := b.base; subst hp hw hK hm hb
  have c0 : Cok (gg X.K C) ["value"] (defScope s_told_pair) (fun _ => true) X := b.ctx rfl (by decide +kernel)
  have G := gok T
  have z_isinstance := T.z_isinstance
  have w0 := T.mc4
  have w1 : (gg X.K C).cls 4 = some (C 4) := rfl
  have w2 : FldOk (gg X.K C) X 4 "own_bottom" 1 := ⟨rfl, (show (["own_top", "own_bottom"] : List Str).Nodup by decide +kernel), (show (["own_top", "own_bottom"] : List Str).length < 1000 by decide), fun D hD => by cases (show some (C 4) = some D from hD); exact ⟨T.k4.cl, T.n4_1⟩⟩
  have w3 : FldOk (gg X.K C) X 4 "own_top" 0 := ⟨rfl, (show (["own_top", "own_bottom"] : List Str).Nodup by decide +kernel), (show (["own_top", "own_bottom"] : List Str).length < 1000 by decide), fun D hD => by cases (show some (C 4) = some D from hD); exact ⟨T.k4.cl, T.n4_0⟩⟩
  have w4 : CallOk X "is_integer" false 1 (spD (gg X.K C) false 1 f_is_integer) := ⟨_, FD 0, ["value"], 1, T.g0, T.F0.kp, b0 T, b.room.mono (by decide), (fun z => nomatch z), ok_is_integer T, rfl⟩
  exact (snd_seq (snd_if (snd_tval rfl (Cok.blt c0 (snd_isi G c0.hK) (by decide +kernel) z_isinstance (by decide +kernel) rfl (snd_cons (Cok.var c0 (by decide +kernel)) (snd_cons (Cok.gcls c0 (by decide +kernel) w0 w1) snd_nil (noStar_ne rfl)) (noStar_ne rfl)))) (snd_seq (snd_ret (snd_tup (snd_cons (Cok.fldV c0 w3 (by decide +kernel) rfl) (snd_cons (Cok.fldV c0 w2 (by decide +kernel) rfl) snd_nil (noStar_ne rfl)) (noStar_ne rfl))))
  snd_end) snd_end)
  (snd_seq (snd_if (snd_tnot (snd_tval rfl (Cok.callP c0 w4 (by decide +kernel) rfl rfl (snd_cons (Cok.var c0 (by decide +kernel)) snd_nil (noStar_ne rfl))))) (snd_seq snd_no
  snd_end) snd_end)
  (snd_seq (snd_ret (snd_tup (snd_cons (Cok.var c0 (by decide +kernel)) (snd_cons snd_int snd_nil (noStar_ne rfl)) (noStar_ne rfl))))
  snd_end)))
theorem ok_common_part (T : Txt K mg A Pp C FD) : FnD P w K mg base false 1 (A 2) (FD 2) ["one", "other"] (spD (gg K C) false 2 f_common_part) := by
  refine fnD_of (N := ["one", "other"]) (FunD.a' T.F2) ⟨rfl, rfl, rfl, by decide +kernel, rfl, by decide +kernel, by decide +kernel⟩ rfl (by decide) fun X b => ?_
  have hp := b.prog; have hw := b.w; have hK := b.K; have hm := b.mg; have hb := b.base; subst hp hw hK hm hb
  have c0 : Cok (gg X.K C) ["one", "other"] (defScope s_common_part) (fun _ => true) X := b.ctx rfl (by decide +kernel)
  have G := gok T
  have z_abs := T.z_abs
  have z_int := T.z_int
  exact (snd_seq (Cok.par c0 (by decide +kernel) (by decide +kernel) (by decide) (by decide) (fun env h => by unfold swappedStores Env.blockKind Env.kindOf; rw [h]; rfl) (snd_cons (Cok.blt c0 (snd_abs) (by decide +kernel) z_abs (by decide +kernel) rfl (snd_cons (Cok.var c0 (by decide +kernel)) snd_nil (noStar_ne rfl))) (snd_cons (Cok.blt c0 (snd_abs) (by decide +kernel) z_abs (by decide +kernel) rfl (snd_cons (Cok.var c0 (by decide +kernel)) snd_nil (noStar_ne rfl))) snd_nil (noStar_ne rfl)) (noStar_ne rfl)))
  (snd_seq (Cok.whl c0 (snd_cmpT (snd_gt) rfl (Cok.var c0 (by decide +kernel)) snd_int) (snd_seq (Cok.par c0 (by decide +kernel) (by decide +kernel) (by decide) (by decide) (fun env h => by unfold swappedStores Env.blockKind Env.kindOf; rw [h]; rfl) (snd_cons (Cok.var c0 (by decide +kernel)) (snd_cons (snd_bin (snd_mod) (Cok.bltT c0 (snd_intf) (by decide +kernel) z_int (by decide +kernel) rfl (snd_cons (Cok.var c0 (by decide +kernel)) snd_nil (noStar_ne rfl))) (Cok.var c0 (by decide +kernel))) snd_nil (noStar_ne rfl)) (noStar_ne rfl)))
  snd_end))
  (snd_seq (snd_ret (Cok.var c0 (by decide +kernel)))
  snd_end)))
theorem ok_Ratio___init (T : Txt K mg A Pp C FD) : FnD P w K mg base false 2 (A 3) (FD 3) ["self", "top", "bottom"] (spD (gg K C) true 3 f_Ratio___init) := by
  refine fnD_of (N := ["self", "top", "bottom", "common"]) (FunD.a' T.F3) ⟨rfl, rfl, rfl, by decide +kernel, rfl, by decide +kernel, by decide +kernel⟩ rfl (by decide) fun X b => ?_
  have hp := b.prog; have hw := b.w; have hK := b.K; have hm := b.mg; have hb := b.base; subst hp hw hK hm hb
  have c0 : Cok (gg X.K C) ["self", "top", "bottom", "common"] (defScope s_Ratio___init) (fun _ => true) X := b.ctx rfl (by decide +kernel)
  have G := gok T
  have w0 : CallOk X "is_integer" false 1 (spD (gg X.K C) false 1 f_is_integer) := ⟨_, FD 0, ["value"], 1, T.g0, T.F0.kp, b0 T, b.room.mono (by decide), (fun z => nomatch z), ok_is_integer T, rfl⟩
  have w1 : CallOk X "common_part" false 2 (spD (gg X.K C) false 2 f_common_part) := ⟨_, FD 2, ["one", "other"], 1, T.g2, T.F2.kp, b2 T, b.room.mono (by decide), (fun z => nomatch z), ok_common_part T, rfl⟩
  have w2 : FldOk (gg X.K C) X 4 "own_top" 0 := ⟨rfl, (show (["own_top", "own_bottom"] : List Str).Nodup by decide +kernel), (show (["own_top", "own_bottom"] : List Str).length < 1000 by decide), fun D hD => by cases (show some (C 4) = some D from hD); exact ⟨T.k4.cl, T.n4_0⟩⟩
  have w3 : FldOk (gg X.K C) X 4 "own_bottom" 1 := ⟨rfl, (show (["own_top", "own_bottom"] : List Str).Nodup by decide +kernel), (show (["own_top", "own_bottom"] : List Str).length < 1000 by decide), fun D hD => by cases (show some (C 4) = some D from hD); exact ⟨T.k4.cl, T.n4_1⟩⟩
  exact (snd_seq (snd_if (snd_tnot (snd_tval rfl (Cok.callP c0 w0 (by decide +kernel) rfl rfl (snd_cons (Cok.var c0 (by decide +kernel)) snd_nil (noStar_ne rfl))))) (snd_seq snd_no
  snd_end) snd_end)
  (snd_seq (snd_if (SndW.t (snd_orc (snd_tnot (snd_tval rfl (Cok.callP c0 w0 (by decide +kernel) rfl rfl (snd_cons (Cok.var c0 (by decide +kernel)) snd_nil (noStar_ne rfl))))) (snd_or1 (snd_cmpT (snd_eq c0.hK c0.un) rfl (Cok.var c0 (by decide +kernel)) snd_int)))) (snd_seq snd_no
  snd_end) snd_end)
  (snd_seq (Cok.asg c0 (by decide +kernel) rfl (by decide) (Cok.callP c0 w1 (by decide +kernel) rfl rfl (snd_cons (Cok.var c0 (by decide +kernel)) (snd_cons (Cok.var c0 (by decide +kernel)) snd_nil (noStar_ne rfl)) (noStar_ne rfl))))
  (snd_seq (snd_if (snd_cmpT (snd_lt) rfl (Cok.var c0 (by decide +kernel)) snd_int) (snd_seq (Cok.asg c0 (by decide +kernel) rfl (by decide) (snd_bin (snd_sub) snd_int (Cok.var c0 (by decide +kernel))))
  snd_end) snd_end)
  (snd_seq (Cok.fst c0 w2 (by decide +kernel) rfl (snd_bin (snd_div) (Cok.var c0 (by decide +kernel)) (Cok.var c0 (by decide +kernel))))
  (snd_seq (Cok.fst c0 w3 (by decide +kernel) rfl (snd_bin (snd_div) (Cok.var c0 (by decide +kernel)) (Cok.var c0 (by decide +kernel))))
  snd_end))))))
theorem ok_Ratio___add (T : Txt K mg A Pp C FD) : FnD P w K mg base false 5 (A 4) (FD 4) ["self", "other"] (spD (gg K C) false 2 f_Ratio___add) := by
  refine fnD_of (N := ["self", "other", "top", "bottom"]) (FunD.a' T.F4) ⟨rfl, rfl, rfl, by decide +kernel, rfl, by decide +kernel, by decide +kernel⟩ rfl (by decide) fun X b => ?_
  have hp := b.prog; have hw := b.w; have hK := b.K; have hm := b.mg; have hb := b.base; subst hp hw hK hm hb
  have c0 : Cok (gg X.K C) ["self", "other", "top", "bottom"] (defScope s_Ratio___add) (fun _ => true) X := b.ctx rfl (by decide +kernel)
  have G := gok T
  have w0 : CallOk X "told_pair" false 1 (spD (gg X.K C) false 1 f_told_pair) := ⟨_, FD 1, ["value"], 2, T.g1, T.F1.kp, b1 T, b.room.mono (by decide), (fun z => nomatch z), ok_told_pair T, rfl⟩
  have w1 : FldOk (gg X.K C) X 4 "own_bottom" 1 := ⟨rfl, (show (["own_top", "own_bottom"] : List Str).Nodup by decide +kernel), (show (["own_top", "own_bottom"] : List Str).length < 1000 by decide), fun D hD => by cases (show some (C 4) = some D from hD); exact ⟨T.k4.cl, T.n4_1⟩⟩
  have w2 : FldOk (gg X.K C) X 4 "own_top" 0 := ⟨rfl, (show (["own_top", "own_bottom"] : List Str).Nodup by decide +kernel), (show (["own_top", "own_bottom"] : List Str).length < 1000 by decide), fun D hD => by cases (show some (C 4) = some D from hD); exact ⟨T.k4.cl, T.n4_0⟩⟩
  have w3 : MkOk (gg X.K C) X 4 "Ratio" 3 [] f_Ratio___init := by
    obtain ⟨ds, dv, bi⟩ := (FunD.binds1 (ps := ["self", "top", "bottom"]) T.F3 3 1 (by simp) rfl fun _ _ _ _ _ _ _ us its l1 l2 => match us, its, l1, l2 with | [_, _, _], [_], _, _ => ⟨_, rfl, rfl⟩)
    exact ⟨⟨C 4, A 3, FD 3, ["self", "top", "bottom"], 2, _, ds, rfl, T.mc4, T.mk4, bi, dv, fun _ _ => .nil, b.room.mono (by decide), ok_Ratio___init T, rfl⟩⟩
  exact (snd_seq (Cok.asgT c0 (Cok.callP c0 w0 (by decide +kernel) rfl rfl (snd_cons (Cok.var c0 (by decide +kernel)) snd_nil (noStar_ne rfl))) (Cok.gtup c0 (.cons (Cok.gnm c0 (by decide +kernel)) rfl (.cons (Cok.gnm c0 (by decide +kernel)) rfl .nil))) (by decide) rfl rfl rfl)
  (snd_seq (snd_ret (Cok.make c0 w3 (by decide +kernel) rfl rfl (snd_cons (snd_bin (snd_add c0.hK) (snd_bin (snd_mul) (Cok.fldV c0 w2 (by decide +kernel) rfl) (Cok.var c0 (by decide +kernel))) (snd_bin (snd_mul) (Cok.var c0 (by decide +kernel)) (Cok.fldV c0 w1 (by decide +kernel) rfl))) (snd_cons (snd_bin (snd_mul) (Cok.fldV c0 w1 (by decide +kernel) rfl) (Cok.var c0 (by decide +kernel))) snd_nil (noStar_ne rfl)) (noStar_ne rfl))))
  snd_end))
theorem ok_Ratio___radd (T : Txt K mg A Pp C FD) : FnD P w K mg base false 5 (A 5) (FD 5) ["self", "other"] (spD (gg K C) false 2 f_Ratio___radd) := by
  refine fnD_of (N := ["self", "other", "top", "bottom"]) (FunD.a' T.F5) ⟨rfl, rfl, rfl, by decide +kernel, rfl, by decide +kernel, by decide +kernel⟩ rfl (by decide) fun X b => ?_
  have hp := b.prog; have hw := b.w; have hK := b.K; have hm := b.mg; have hb := b.base; subst hp hw hK hm hb
  have c0 : Cok (gg X.K C) ["self", "other", "top", "bottom"] (defScope s_Ratio___radd) (fun _ => true) X := b.ctx rfl (by decide +kernel)
  have G := gok T
  have w0 : CallOk X "told_pair" false 1 (spD (gg X.K C) false 1 f_told_pair) := ⟨_, FD 1, ["value"], 2, T.g1, T.F1.kp, b1 T, b.room.mono (by decide), (fun z => nomatch z), ok_told_pair T, rfl⟩
  have w1 : FldOk (gg X.K C) X 4 "own_bottom" 1 := ⟨rfl, (show (["own_top", "own_bottom"] : List Str).Nodup by decide +kernel), (show (["own_top", "own_bottom"] : List Str).length < 1000 by decide), fun D hD => by cases (show some (C 4) = some D from hD); exact ⟨T.k4.cl, T.n4_1⟩⟩
  have w2 : FldOk (gg X.K C) X 4 "own_top" 0 := ⟨rfl, (show (["own_top", "own_bottom"] : List Str).Nodup by decide +kernel), (show (["own_top", "own_bottom"] : List Str).length < 1000 by decide), fun D hD => by cases (show some (C 4) = some D from hD); exact ⟨T.k4.cl, T.n4_0⟩⟩
  have w3 : MkOk (gg X.K C) X 4 "Ratio" 3 [] f_Ratio___init := by
    obtain ⟨ds, dv, bi⟩ := (FunD.binds1 (ps := ["self", "top", "bottom"]) T.F3 3 1 (by simp) rfl fun _ _ _ _ _ _ _ us its l1 l2 => match us, its, l1, l2 with | [_, _, _], [_], _, _ => ⟨_, rfl, rfl⟩)
    exact ⟨⟨C 4, A 3, FD 3, ["self", "top", "bottom"], 2, _, ds, rfl, T.mc4, T.mk4, bi, dv, fun _ _ => .nil, b.room.mono (by decide), ok_Ratio___init T, rfl⟩⟩
  exact (snd_seq (Cok.asgT c0 (Cok.callP c0 w0 (by decide +kernel) rfl rfl (snd_cons (Cok.var c0 (by decide +kernel)) snd_nil (noStar_ne rfl))) (Cok.gtup c0 (.cons (Cok.gnm c0 (by decide +kernel)) rfl (.cons (Cok.gnm c0 (by decide +kernel)) rfl .nil))) (by decide) rfl rfl rfl)
  (snd_seq (snd_ret (Cok.make c0 w3 (by decide +kernel) rfl rfl (snd_cons (snd_bin (snd_add c0.hK) (snd_bin (snd_mul) (Cok.fldV c0 w2 (by decide +kernel) rfl) (Cok.var c0 (by decide +kernel))) (snd_bin (snd_mul) (Cok.var c0 (by decide +kernel)) (Cok.fldV c0 w1 (by decide +kernel) rfl))) (snd_cons (snd_bin (snd_mul) (Cok.fldV c0 w1 (by decide +kernel) rfl) (Cok.var c0 (by decide +kernel))) snd_nil (noStar_ne rfl)) (noStar_ne rfl))))
  snd_end))
theorem p_oAdd {g : G} {N : List Str} {sc : Scope} {fc : Str → Bool} {X : Cx} (c : Cok g N sc fc X) (O : OpCls g X 4) (l : MOk g X 4 "__add__" 2 false f_Ratio___add) (r : MOk g X 4 "__radd__" 2 false f_Ratio___radd) : SndOp g X (binaryOp .Add) oAdd :=
  snd_own (op := .Add) (snd_add c.hK) O l r PySem.F.fills_int_add PySem.F.slot_int_add PySem.F.entry_int_add (PySem.F.args_int_add_2) (fun _ _ _ _ hd => int_decl_add hd) (fo := some (.builtin "int.__add__")) (ro := some (.builtin "int.__radd__")) (by first | rfl | decide +kernel) (by first | rfl | decide +kernel)
theorem ok_Ratio___mul (T : Txt K mg A Pp C FD) : FnD P w K mg base false 5 (A 6) (FD 6) ["self", "other"] (spD (gg K C) false 2 f_Ratio___mul) := by
  refine fnD_of (N := ["self", "other", "top", "bottom"]) (FunD.a' T.F6) ⟨rfl, rfl, rfl, by decide +kernel, rfl, by decide +kernel, by decide +kernel⟩ rfl (by decide) fun X b => ?_
  have hp := b.prog; have hw := b.w; have hK := b.K; have hm := b.mg; have hb := b.base; subst hp hw hK hm hb
  have c0 : Cok (gg X.K C) ["self", "other", "top", "bottom"] (defScope s_Ratio___mul) (fun _ => true) X := b.ctx rfl (by decide +kernel)
  have G := gok T
  have w0 : CallOk X "told_pair" false 1 (spD (gg X.K C) false 1 f_told_pair) := ⟨_, FD 1, ["value"], 2, T.g1, T.F1.kp, b1 T, b.room.mono (by decide), (fun z => nomatch z), ok_told_pair T, rfl⟩
  have w1 : FldOk (gg X.K C) X 4 "own_bottom" 1 := ⟨rfl, (show (["own_top", "own_bottom"] : List Str).Nodup by decide +kernel), (show (["own_top", "own_bottom"] : List Str).length < 1000 by decide), fun D hD => by cases (show some (C 4) = some D from hD); exact ⟨T.k4.cl, T.n4_1⟩⟩
  have w2 : FldOk (gg X.K C) X 4 "own_top" 0 := ⟨rfl, (show (["own_top", "own_bottom"] : List Str).Nodup by decide +kernel), (show (["own_top", "own_bottom"] : List Str).length < 1000 by decide), fun D hD => by cases (show some (C 4) = some D from hD); exact ⟨T.k4.cl, T.n4_0⟩⟩
  have w3 : MkOk (gg X.K C) X 4 "Ratio" 3 [] f_Ratio___init := by
    obtain ⟨ds, dv, bi⟩ := (FunD.binds1 (ps := ["self", "top", "bottom"]) T.F3 3 1 (by simp) rfl fun _ _ _ _ _ _ _ us its l1 l2 => match us, its, l1, l2 with | [_, _, _], [_], _, _ => ⟨_, rfl, rfl⟩)
    exact ⟨⟨C 4, A 3, FD 3, ["self", "top", "bottom"], 2, _, ds, rfl, T.mc4, T.mk4, bi, dv, fun _ _ => .nil, b.room.mono (by decide), ok_Ratio___init T, rfl⟩⟩
  exact (snd_seq (Cok.asgT c0 (Cok.callP c0 w0 (by decide +kernel) rfl rfl (snd_cons (Cok.var c0 (by decide +kernel)) snd_nil (noStar_ne rfl))) (Cok.gtup c0 (.cons (Cok.gnm c0 (by decide +kernel)) rfl (.cons (Cok.gnm c0 (by decide +kernel)) rfl .nil))) (by decide) rfl rfl rfl)
  (snd_seq (snd_ret (Cok.make c0 w3 (by decide +kernel) rfl rfl (snd_cons (snd_bin (snd_mul) (Cok.fldV c0 w2 (by decide +kernel) rfl) (Cok.var c0 (by decide +kernel))) (snd_cons (snd_bin (snd_mul) (Cok.fldV c0 w1 (by decide +kernel) rfl) (Cok.var c0 (by decide +kernel))) snd_nil (noStar_ne rfl)) (noStar_ne rfl))))
  snd_end))
theorem ok_Ratio___rmul (T : Txt K mg A Pp C FD) : FnD P w K mg base false 5 (A 7) (FD 7) ["self", "other"] (spD (gg K C) false 2 f_Ratio___rmul) := by
  refine fnD_of (N := ["self", "other", "top", "bottom"]) (FunD.a' T.F7) ⟨rfl, rfl, rfl, by decide +kernel, rfl, by decide +kernel, by decide +kernel⟩ rfl (by decide) fun X b => ?_
  have hp := b.prog; have hw := b.w; have hK := b.K; have hm := b.mg; have hb := b.base; subst hp hw hK hm hb
  have c0 : Cok (gg X.K C) ["self", "other", "top", "bottom"] (defScope s_Ratio___rmul) (fun _ => true) X := b.ctx rfl (by decide +kernel)
  have G := gok T
  have w0 : CallOk X "told_pair" false 1 (spD (gg X.K C) false 1 f_told_pair) := ⟨_, FD 1, ["value"], 2, T.g1, T.F1.kp, b1 T, b.room.mono (by decide), (fun z => nomatch z), ok_told_pair T, rfl⟩
  have w1 : FldOk (gg X.K C) X 4 "own_bottom" 1 := ⟨rfl, (show (["own_top", "own_bottom"] : List Str).Nodup by decide +kernel), (show (["own_top", "own_bottom"] : List Str).length < 1000 by decide), fun D hD => by cases (show some (C 4) = some D from hD); exact ⟨T.k4.cl, T.n4_1⟩⟩
  have w2 : FldOk (gg X.K C) X 4 "own_top" 0 := ⟨rfl, (show (["own_top", "own_bottom"] : List Str).Nodup by decide +kernel), (show (["own_top", "own_bottom"] : List Str).length < 1000 by decide), fun D hD => by cases (show some (C 4) = some D from hD); exact ⟨T.k4.cl, T.n4_0⟩⟩
  have w3 : MkOk (gg X.K C) X 4 "Ratio" 3 [] f_Ratio___init := by
    obtain ⟨ds, dv, bi⟩ := (FunD.binds1 (ps := ["self", "top", "bottom"]) T.F3 3 1 (by simp) rfl fun _ _ _ _ _ _ _ us its l1 l2 => match us, its, l1, l2 with | [_, _, _], [_], _, _ => ⟨_, rfl, rfl⟩)
    exact ⟨⟨C 4, A 3, FD 3, ["self", "top", "bottom"], 2, _, ds, rfl, T.mc4, T.mk4, bi, dv, fun _ _ => .nil, b.room.mono (by decide), ok_Ratio___init T, rfl⟩⟩
  exact (snd_seq (Cok.asgT c0 (Cok.callP c0 w0 (by decide +kernel) rfl rfl (snd_cons (Cok.var c0 (by decide +kernel)) snd_nil (noStar_ne rfl))) (Cok.gtup c0 (.cons (Cok.gnm c0 (by decide +kernel)) rfl (.cons (Cok.gnm c0 (by decide +kernel)) rfl .nil))) (by decide) rfl rfl rfl)
  (snd_seq (snd_ret (Cok.make c0 w3 (by decide +kernel) rfl rfl (snd_cons (snd_bin (snd_mul) (Cok.fldV c0 w2 (by decide +kernel) rfl) (Cok.var c0 (by decide +kernel))) (snd_cons (snd_bin (snd_mul) (Cok.fldV c0 w1 (by decide +kernel) rfl) (Cok.var c0 (by decide +kernel))) snd_nil (noStar_ne rfl)) (noStar_ne rfl))))
  snd_end))
theorem p_oMult {g : G} {N : List Str} {sc : Scope} {fc : Str → Bool} {X : Cx} (c : Cok g N sc fc X) (O : OpCls g X 4) (l : MOk g X 4 "__mul__" 2 false f_Ratio___mul) (r : MOk g X 4 "__rmul__" 2 false f_Ratio___rmul) : SndOp g X (binaryOp .Mult) oMult :=
  snd_own (op := .Mult) (snd_mul) O l r PySem.F.fills_int_mul PySem.F.slot_int_mul PySem.F.entry_int_mul (PySem.F.args_int_mul_2) (fun _ _ _ _ hd => int_decl_mul hd) (fo := some (.builtin "int.__mul__")) (ro := some (.builtin "int.__rmul__")) (by first | rfl | decide +kernel) (by first | rfl | decide +kernel)
theorem ok_law_draw (T : Txt K mg A Pp C FD) : FnD P w K mg base false 8 (A 8) (FD 8) ["_law_pot_here", "_law_size"] (spD (gg K C) true 2 f_law_draw) := by
  refine fnD_of (N := ["_law_pot_here", "_law_size", "_law_digit"]) (FunD.a' T.F8) ⟨rfl, rfl, rfl, by decide +kernel, rfl, by decide +kernel, by decide +kernel⟩ rfl (by decide) fun X b => ?_
  have hp := b.prog; have hw := b.w; have hK := b.K; have hm := b.mg; have hb := b.base; subst hp hw hK hm hb
  have c0 : Cok (gg X.K C) ["_law_pot_here", "_law_size", "_law_digit"] (defScope s_law_draw) (fun _ => true) X := b.ctx rfl (by decide +kernel)
  have G := gok T
  have z_divmod := T.z_divmod
  have z_int := T.z_int
  have w1 : OpCls (gg X.K C) X 4 := ClsK.op T.k4 rfl
  have w2 : MOk (gg X.K C) X 4 "__add__" 2 false f_Ratio___add := ⟨⟨C 4, A 4, FD 4, ["self", "other"], 5, rfl, T.k4.cl, T.me4, b4 T, b.room.mono (by decide), ok_Ratio___add T, rfl⟩, (show ("__add__" : Str) ∉ (["own_top", "own_bottom"] : List Str) by decide +kernel)⟩
  have w3 : MOk (gg X.K C) X 4 "__radd__" 2 false f_Ratio___radd := ⟨⟨C 4, A 5, FD 5, ["self", "other"], 5, rfl, T.k4.cl, T.me5, b5 T, b.room.mono (by decide), ok_Ratio___radd T, rfl⟩, (show ("__radd__" : Str) ∉ (["own_top", "own_bottom"] : List Str) by decide +kernel)⟩
  have w5 : MOk (gg X.K C) X 4 "__mul__" 2 false f_Ratio___mul := ⟨⟨C 4, A 6, FD 6, ["self", "other"], 5, rfl, T.k4.cl, T.me6, b6 T, b.room.mono (by decide), ok_Ratio___mul T, rfl⟩, (show ("__mul__" : Str) ∉ (["own_top", "own_bottom"] : List Str) by decide +kernel)⟩
  have w6 : MOk (gg X.K C) X 4 "__rmul__" 2 false f_Ratio___rmul := ⟨⟨C 4, A 7, FD 7, ["self", "other"], 5, rfl, T.k4.cl, T.me7, b7 T, b.room.mono (by decide), ok_Ratio___rmul T, rfl⟩, (show ("__rmul__" : Str) ∉ (["own_top", "own_bottom"] : List Str) by decide +kernel)⟩
  exact (snd_seq (snd_if (snd_cmpT (snd_gt) rfl (Cok.item c0 (by decide +kernel) rfl snd_int) snd_int) (snd_seq (Cok.asgT c0 (Cok.blt c0 (snd_divmod) (by decide +kernel) z_divmod (by decide +kernel) rfl (snd_cons (Cok.item c0 (by decide +kernel) rfl snd_int) (snd_cons (Cok.var c0 (by decide +kernel)) snd_nil (noStar_ne rfl)) (noStar_ne rfl))) (Cok.gtup c0 (.cons (Cok.gitem c0 (by decide +kernel) rfl snd_int) rfl (.cons (Cok.gnm c0 (by decide +kernel)) rfl .nil))) (by decide) rfl rfl rfl)
  (snd_seq (snd_ret (Cok.var c0 (by decide +kernel)))
  snd_end)) snd_end)
  (snd_seq (Cok.asgT c0 (snd_bin (snd_mod) (Cok.bltT c0 (snd_intf) (by decide +kernel) z_int (by decide +kernel) rfl (snd_cons (snd_bin (p_oAdd c0 w1 w2 w3) (snd_bin (p_oMult c0 w1 w5 w6) (Cok.item c0 (by decide +kernel) rfl snd_int) snd_int) snd_int) snd_nil (noStar_ne rfl))) snd_int) (Cok.gitem c0 (by decide +kernel) rfl snd_int) (by decide) rfl rfl rfl)
  (snd_seq (snd_ret (snd_bin (snd_mod) (Cok.bltT c0 (snd_intf) (by decide +kernel) z_int (by decide +kernel) rfl (snd_cons (snd_bin (snd_div) (snd_bin (snd_mod) (Cok.bltT c0 (snd_intf) (by decide +kernel) z_int (by decide +kernel) rfl (snd_cons (snd_bin (p_oMult c0 w1 w5 w6) (Cok.item c0 (by decide +kernel) rfl snd_int) (Cok.item c0 (by decide +kernel) rfl snd_int)) snd_nil (noStar_ne rfl))) snd_int) snd_int) snd_nil (noStar_ne rfl))) (Cok.var c0 (by decide +kernel))))
  snd_end)))
theorem ok_law_more (T : Txt K mg A Pp C FD) : FnD P w K mg base false 8 (A 9) (FD 9) ["_law_rows", "_law_number", "_law_form"] (spD (gg K C) false 3 f_law_more) := by
  refine fnD_of (N := ["_law_rows", "_law_number", "_law_form", "_law_j", "_law_i"]) (FunD.a' T.F9) ⟨rfl, rfl, rfl, by decide +kernel, rfl, by decide +kernel, by decide +kernel⟩ rfl (by decide) fun X b => ?_
  have hp := b.prog; have hw := b.w; have hK := b.K; have hm := b.mg; have hb := b.base; subst hp hw hK hm hb
  have c0 : Cok (gg X.K C) ["_law_rows", "_law_number", "_law_form", "_law_j", "_law_i"] (defScope s_law_more) (fun _ => true) X := b.ctx rfl (by decide +kernel)
  have G := gok T
  have z_len := T.z_len
  have z_range := T.z_range
  have w1 : OpCls (gg X.K C) X 4 := ClsK.op T.k4 rfl
  have w2 : MOk (gg X.K C) X 4 "__add__" 2 false f_Ratio___add := ⟨⟨C 4, A 4, FD 4, ["self", "other"], 5, rfl, T.k4.cl, T.me4, b4 T, b.room.mono (by decide), ok_Ratio___add T, rfl⟩, (show ("__add__" : Str) ∉ (["own_top", "own_bottom"] : List Str) by decide +kernel)⟩
  have w3 : MOk (gg X.K C) X 4 "__radd__" 2 false f_Ratio___radd := ⟨⟨C 4, A 5, FD 5, ["self", "other"], 5, rfl, T.k4.cl, T.me5, b5 T, b.room.mono (by decide), ok_Ratio___radd T, rfl⟩, (show ("__radd__" : Str) ∉ (["own_top", "own_bottom"] : List Str) by decide +kernel)⟩
  have w5 : MOk (gg X.K C) X 4 "__mul__" 2 false f_Ratio___mul := ⟨⟨C 4, A 6, FD 6, ["self", "other"], 5, rfl, T.k4.cl, T.me6, b6 T, b.room.mono (by decide), ok_Ratio___mul T, rfl⟩, (show ("__mul__" : Str) ∉ (["own_top", "own_bottom"] : List Str) by decide +kernel)⟩
  have w6 : MOk (gg X.K C) X 4 "__rmul__" 2 false f_Ratio___rmul := ⟨⟨C 4, A 7, FD 7, ["self", "other"], 5, rfl, T.k4.cl, T.me7, b7 T, b.room.mono (by decide), ok_Ratio___rmul T, rfl⟩, (show ("__rmul__" : Str) ∉ (["own_top", "own_bottom"] : List Str) by decide +kernel)⟩
  exact (snd_seq (snd_ret (Cok.lc c0 (own := [("_law_i", 4)]) (by decide +kernel) rfl rfl (Cok.irng1 c0 (by decide +kernel) z_range rfl (snd_cons (Cok.blt c0 (snd_len c0.hK) (by decide +kernel) z_len (by decide +kernel) rfl (snd_cons (Cok.var c0 (by decide +kernel)) snd_nil (noStar_ne rfl))) snd_nil (noStar_ne rfl))) (fun _ _ _ _ _ => (Cok.gnm (c0.blk) (by decide +kernel))) (fun _ _ _ _ _ => (Cok.lc (c0.blk) (own := [("_law_j", 3)]) (by decide +kernel) rfl rfl (Cok.irng1 (c0.blk) (by decide +kernel) z_range rfl (snd_cons (Cok.blt (c0.blk) (snd_len (c0.blk).hK) (by decide +kernel) z_len (by decide +kernel) rfl (snd_cons (Cok.var (c0.blk) (by decide +kernel)) snd_nil (noStar_ne rfl))) snd_nil (noStar_ne rfl))) (fun _ _ _ _ _ => (Cok.gnm (c0.blk.blk) (by decide +kernel))) (fun _ _ _ _ _ => (snd_bin (p_oAdd (c0.blk.blk) w1.blk.blk w2.blk.blk w3.blk.blk) (Cok.ix (c0.blk.blk) rfl (Cok.item (c0.blk.blk) (by decide +kernel) rfl (Cok.var (c0.blk.blk) (by decide +kernel))) (Cok.var (c0.blk.blk) (by decide +kernel))) (snd_bin (p_oMult (c0.blk.blk) w1.blk.blk w5.blk.blk w6.blk.blk) (snd_bin (p_oMult (c0.blk.blk) w1.blk.blk w5.blk.blk w6.blk.blk) (Cok.var (c0.blk.blk) (by decide +kernel)) (Cok.item (c0.blk.blk) (by decide +kernel) rfl (Cok.var (c0.blk.blk) (by decide +kernel)))) (Cok.item (c0.blk.blk) (by decide +kernel) rfl (Cok.var (c0.blk.blk) (by decide +kernel))))))))))
  snd_end)
theorem ok_law_pick (T : Txt K mg A Pp C FD) : FnD P w K mg base false 9 (A 10) (FD 10) ["_law_pot_here", "_law_some"] (spD (gg K C) true 2 f_law_pick) := by
  refine fnD_of (N := ["_law_pot_here", "_law_some"]) (FunD.a' T.F10) ⟨rfl, rfl, rfl, by decide +kernel, rfl, by decide +kernel, by decide +kernel⟩ rfl (by decide) fun X b => ?_
  have hp := b.prog; have hw := b.w; have hK := b.K; have hm := b.mg; have hb := b.base; subst hp hw hK hm hb
  have c0 : Cok (gg X.K C) ["_law_pot_here", "_law_some"] (defScope s_law_pick) (fun _ => true) X := b.ctx rfl (by decide +kernel)
  have G := gok T
  have z_len := T.z_len
  have w0 : CallOk X "_law_draw" false 2 (spD (gg X.K C) true 2 f_law_draw) := ⟨_, FD 8, ["_law_pot_here", "_law_size"], 8, T.g8, T.F8.kp, b8 T, b.room.mono (by decide), (fun z => nomatch z), ok_law_draw T, rfl⟩
  exact (snd_seq (snd_ret (Cok.item c0 (by decide +kernel) rfl (Cok.callR c0 w0 (by decide +kernel) rfl rfl (by decide +kernel) (snd_cons (Cok.blt c0 (snd_len c0.hK) (by decide +kernel) z_len (by decide +kernel) rfl (snd_cons (Cok.var c0 (by decide +kernel)) snd_nil (noStar_ne rfl))) snd_nil (noStar_ne rfl)))))
  snd_end)
theorem ok_Ratio___sub (T : Txt K mg A Pp C FD) : FnD P w K mg base false 5 (A 11) (FD 11) ["self", "other"] (spD (gg K C) false 2 f_Ratio___sub) := by
  refine fnD_of (N := ["self", "other", "top", "bottom"]) (FunD.a' T.F11) ⟨rfl, rfl, rfl, by decide +kernel, rfl, by decide +kernel, by decide +kernel⟩ rfl (by decide) fun X b => ?_
  have hp := b.prog; have hw := b.w; have hK := b.K; have hm := b.mg; have hb := b.base; subst hp hw hK hm hb
  have c0 : Cok (gg X.K C) ["self", "other", "top", "bottom"] (defScope s_Ratio___sub) (fun _ => true) X := b.ctx rfl (by decide +kernel)
  have G := gok T
  have w0 : CallOk X "told_pair" false 1 (spD (gg X.K C) false 1 f_told_pair) := ⟨_, FD 1, ["value"], 2, T.g1, T.F1.kp, b1 T, b.room.mono (by decide), (fun z => nomatch z), ok_told_pair T, rfl⟩
  have w1 : FldOk (gg X.K C) X 4 "own_bottom" 1 := ⟨rfl, (show (["own_top", "own_bottom"] : List Str).Nodup by decide +kernel), (show (["own_top", "own_bottom"] : List Str).length < 1000 by decide), fun D hD => by cases (show some (C 4) = some D from hD); exact ⟨T.k4.cl, T.n4_1⟩⟩
  have w2 : FldOk (gg X.K C) X 4 "own_top" 0 := ⟨rfl, (show (["own_top", "own_bottom"] : List Str).Nodup by decide +kernel), (show (["own_top", "own_bottom"] : List Str).length < 1000 by decide), fun D hD => by cases (show some (C 4) = some D from hD); exact ⟨T.k4.cl, T.n4_0⟩⟩
  have w3 : MkOk (gg X.K C) X 4 "Ratio" 3 [] f_Ratio___init := by
    obtain ⟨ds, dv, bi⟩ := (FunD.binds1 (ps := ["self", "top", "bottom"]) T.F3 3 1 (by simp) rfl fun _ _ _ _ _ _ _ us its l1 l2 => match us, its, l1, l2 with | [_, _, _], [_], _, _ => ⟨_, rfl, rfl⟩)
    exact ⟨⟨C 4, A 3, FD 3, ["self", "top", "bottom"], 2, _, ds, rfl, T.mc4, T.mk4, bi, dv, fun _ _ => .nil, b.room.mono (by decide), ok_Ratio___init T, rfl⟩⟩
  exact (snd_seq (Cok.asgT c0 (Cok.callP c0 w0 (by decide +kernel) rfl rfl (snd_cons (Cok.var c0 (by decide +kernel)) snd_nil (noStar_ne rfl))) (Cok.gtup c0 (.cons (Cok.gnm c0 (by decide +kernel)) rfl (.cons (Cok.gnm c0 (by decide +kernel)) rfl .nil))) (by decide) rfl rfl rfl)
  (snd_seq (snd_ret (Cok.make c0 w3 (by decide +kernel) rfl rfl (snd_cons (snd_bin (snd_sub) (snd_bin (snd_mul) (Cok.fldV c0 w2 (by decide +kernel) rfl) (Cok.var c0 (by decide +kernel))) (snd_bin (snd_mul) (Cok.var c0 (by decide +kernel)) (Cok.fldV c0 w1 (by decide +kernel) rfl))) (snd_cons (snd_bin (snd_mul) (Cok.fldV c0 w1 (by decide +kernel) rfl) (Cok.var c0 (by decide +kernel))) snd_nil (noStar_ne rfl)) (noStar_ne rfl))))
  snd_end))
theorem ok_Ratio___rsub (T : Txt K mg A Pp C FD) : FnD P w K mg base false 5 (A 12) (FD 12) ["self", "other"] (spD (gg K C) false 2 f_Ratio___rsub) := by
  refine fnD_of (N := ["self", "other", "top", "bottom"]) (FunD.a' T.F12) ⟨rfl, rfl, rfl, by decide +kernel, rfl, by decide +kernel, by decide +kernel⟩ rfl (by decide) fun X b => ?_
  have hp := b.prog; have hw := b.w; have hK := b.K; have hm := b.mg; have hb := b.base; subst hp hw hK hm hb
  have c0 : Cok (gg X.K C) ["self", "other", "top", "bottom"] (defScope s_Ratio___rsub) (fun _ => true) X := b.ctx rfl (by decide +kernel)
  have G := gok T
  have w0 : CallOk X "told_pair" false 1 (spD (gg X.K C) false 1 f_told_pair) := ⟨_, FD 1, ["value"], 2, T.g1, T.F1.kp, b1 T, b.room.mono (by decide), (fun z => nomatch z), ok_told_pair T, rfl⟩
  have w1 : FldOk (gg X.K C) X 4 "own_bottom" 1 := ⟨rfl, (show (["own_top", "own_bottom"] : List Str).Nodup by decide +kernel), (show (["own_top", "own_bottom"] : List Str).length < 1000 by decide), fun D hD => by cases (show some (C 4) = some D from hD); exact ⟨T.k4.cl, T.n4_1⟩⟩
  have w2 : FldOk (gg X.K C) X 4 "own_top" 0 := ⟨rfl, (show (["own_top", "own_bottom"] : List Str).Nodup by decide +kernel), (show (["own_top", "own_bottom"] : List Str).length < 1000 by decide), fun D hD => by cases (show some (C 4) = some D from hD); exact ⟨T.k4.cl, T.n4_0⟩⟩
  have w3 : MkOk (gg X.K C) X 4 "Ratio" 3 [] f_Ratio___init := by
    obtain ⟨ds, dv, bi⟩ := (FunD.binds1 (ps := ["self", "top", "bottom"]) T.F3 3 1 (by simp) rfl fun _ _ _ _ _ _ _ us its l1 l2 => match us, its, l1, l2 with | [_, _, _], [_], _, _ => ⟨_, rfl, rfl⟩)
    exact ⟨⟨C 4, A 3, FD 3, ["self", "top", "bottom"], 2, _, ds, rfl, T.mc4, T.mk4, bi, dv, fun _ _ => .nil, b.room.mono (by decide), ok_Ratio___init T, rfl⟩⟩
  exact (snd_seq (Cok.asgT c0 (Cok.callP c0 w0 (by decide +kernel) rfl rfl (snd_cons (Cok.var c0 (by decide +kernel)) snd_nil (noStar_ne rfl))) (Cok.gtup c0 (.cons (Cok.gnm c0 (by decide +kernel)) rfl (.cons (Cok.gnm c0 (by decide +kernel)) rfl .nil))) (by decide) rfl rfl rfl)
  (snd_seq (snd_ret (Cok.make c0 w3 (by decide +kernel) rfl rfl (snd_cons (snd_bin (snd_sub) (snd_bin (snd_mul) (Cok.var c0 (by decide +kernel)) (Cok.fldV c0 w1 (by decide +kernel) rfl)) (snd_bin (snd_mul) (Cok.fldV c0 w2 (by decide +kernel) rfl) (Cok.var c0 (by decide +kernel)))) (snd_cons (snd_bin (snd_mul) (Cok.fldV c0 w1 (by decide +kernel) rfl) (Cok.var c0 (by decide +kernel))) snd_nil (noStar_ne rfl)) (noStar_ne rfl))))
  snd_end))
theorem p_oSub {g : G} {N : List Str} {sc : Scope} {fc : Str → Bool} {X : Cx} (c : Cok g N sc fc X) (O : OpCls g X 4) (l : MOk g X 4 "__sub__" 2 false f_Ratio___sub) (r : MOk g X 4 "__rsub__" 2 false f_Ratio___rsub) : SndOp g X (binaryOp .Sub) oSub :=
  snd_own (op := .Sub) (snd_sub) O l r PySem.F.fills_int_sub PySem.F.slot_int_sub PySem.F.entry_int_sub (PySem.F.args_int_sub_2) (fun _ _ _ _ hd => int_decl_sub hd) (fo := some (.builtin "int.__sub__")) (ro := some (.builtin "int.__rsub__")) (by first | rfl | decide +kernel) (by first | rfl | decide +kernel)
theorem ok_law_small (T : Txt K mg A Pp C FD) : FnD P w K mg base false 10 (A 13) (FD 13) ["_law_pot_here", "_law_most"] (spD (gg K C) true 2 f_law_small) := by
  refine fnD_of (N := ["_law_pot_here", "_law_most"]) (FunD.a' T.F13) ⟨rfl, rfl, rfl, by decide +kernel, rfl, by decide +kernel, by decide +kernel⟩ rfl (by decide) fun X b => ?_
  have hp := b.prog; have hw := b.w; have hK := b.K; have hm := b.mg; have hb := b.base; subst hp hw hK hm hb
  have c0 : Cok (gg X.K C) ["_law_pot_here", "_law_most"] (defScope s_law_small) (fun _ => true) X := b.ctx rfl (by decide +kernel)
  have G := gok T
  have w0 : CallOk X "_law_pick" false 2 (spD (gg X.K C) true 2 f_law_pick) := ⟨_, FD 10, ["_law_pot_here", "_law_some"], 9, T.g10, T.F10.kp, b10 T, b.room.mono (by decide), (fun z => nomatch z), ok_law_pick T, rfl⟩
  have w2 : OpCls (gg X.K C) X 4 := ClsK.op T.k4 rfl
  have w3 : MOk (gg X.K C) X 4 "__sub__" 2 false f_Ratio___sub := ⟨⟨C 4, A 11, FD 11, ["self", "other"], 5, rfl, T.k4.cl, T.me11, b11 T, b.room.mono (by decide), ok_Ratio___sub T, rfl⟩, (show ("__sub__" : Str) ∉ (["own_top", "own_bottom"] : List Str) by decide +kernel)⟩
  have w4 : MOk (gg X.K C) X 4 "__rsub__" 2 false f_Ratio___rsub := ⟨⟨C 4, A 12, FD 12, ["self", "other"], 5, rfl, T.k4.cl, T.me12, b12 T, b.room.mono (by decide), ok_Ratio___rsub T, rfl⟩, (show ("__rsub__" : Str) ∉ (["own_top", "own_bottom"] : List Str) by decide +kernel)⟩
  have w6 : MOk (gg X.K C) X 4 "__add__" 2 false f_Ratio___add := ⟨⟨C 4, A 4, FD 4, ["self", "other"], 5, rfl, T.k4.cl, T.me4, b4 T, b.room.mono (by decide), ok_Ratio___add T, rfl⟩, (show ("__add__" : Str) ∉ (["own_top", "own_bottom"] : List Str) by decide +kernel)⟩
  have w7 : MOk (gg X.K C) X 4 "__radd__" 2 false f_Ratio___radd := ⟨⟨C 4, A 5, FD 5, ["self", "other"], 5, rfl, T.k4.cl, T.me5, b5 T, b.room.mono (by decide), ok_Ratio___radd T, rfl⟩, (show ("__radd__" : Str) ∉ (["own_top", "own_bottom"] : List Str) by decide +kernel)⟩
  have w9 : MOk (gg X.K C) X 4 "__mul__" 2 false f_Ratio___mul := ⟨⟨C 4, A 6, FD 6, ["self", "other"], 5, rfl, T.k4.cl, T.me6, b6 T, b.room.mono (by decide), ok_Ratio___mul T, rfl⟩, (show ("__mul__" : Str) ∉ (["own_top", "own_bottom"] : List Str) by decide +kernel)⟩
  have w10 : MOk (gg X.K C) X 4 "__rmul__" 2 false f_Ratio___rmul := ⟨⟨C 4, A 7, FD 7, ["self", "other"], 5, rfl, T.k4.cl, T.me7, b7 T, b.room.mono (by decide), ok_Ratio___rmul T, rfl⟩, (show ("__rmul__" : Str) ∉ (["own_top", "own_bottom"] : List Str) by decide +kernel)⟩
  have w11 : CallOk X "_law_draw" false 2 (spD (gg X.K C) true 2 f_law_draw) := ⟨_, FD 8, ["_law_pot_here", "_law_size"], 8, T.g8, T.F8.kp, b8 T, b.room.mono (by decide), (fun z => nomatch z), ok_law_draw T, rfl⟩
  have w12 : MkOk (gg X.K C) X 4 "Ratio" 3 [] f_Ratio___init := by
    obtain ⟨ds, dv, bi⟩ := (FunD.binds1 (ps := ["self", "top", "bottom"]) T.F3 3 1 (by simp) rfl fun _ _ _ _ _ _ _ us its l1 l2 => match us, its, l1, l2 with | [_, _, _], [_], _, _ => ⟨_, rfl, rfl⟩)
    exact ⟨⟨C 4, A 3, FD 3, ["self", "top", "bottom"], 2, _, ds, rfl, T.mc4, T.mk4, bi, dv, fun _ _ => .nil, b.room.mono (by decide), ok_Ratio___init T, rfl⟩⟩
  exact (snd_seq (snd_ret (Cok.make c0 w12 (by decide +kernel) rfl rfl (snd_cons (snd_bin (p_oSub c0 w2 w3 w4) (Cok.callR c0 w11 (by decide +kernel) rfl rfl (by decide +kernel) (snd_cons (snd_bin (p_oAdd c0 w2 w6 w7) (snd_bin (p_oMult c0 w2 w9 w10) snd_int (Cok.var c0 (by decide +kernel))) snd_int) snd_nil (noStar_ne rfl))) (Cok.var c0 (by decide +kernel))) (snd_cons (Cok.callR c0 w0 (by decide +kernel) rfl rfl (by decide +kernel) (snd_cons (snd_lst (snd_cons snd_int (snd_cons snd_int (snd_cons snd_int (snd_cons snd_int (snd_cons snd_int (snd_cons snd_int snd_nil (noStar_ne rfl)) (noStar_ne rfl)) (noStar_ne rfl)) (noStar_ne rfl)) (noStar_ne rfl)) (noStar_ne rfl))) snd_nil (noStar_ne rfl))) snd_nil (noStar_ne rfl)) (noStar_ne rfl))))
  snd_end)
theorem ok_Ratio___eq (T : Txt K mg A Pp C FD) : FnD P w K mg base false 1 (A 14) (FD 14) ["self", "other"] (spD (gg K C) false 2 f_Ratio___eq) := by
  refine fnD_of (N := ["self", "other"]) (FunD.a' T.F14) ⟨rfl, rfl, rfl, by decide +kernel, rfl, by decide +kernel, by decide +kernel⟩ rfl (by decide) fun X b => ?_
  have hp := b.prog; have hw := b.w; have hK := b.K; have hm := b.mg; have hb := b.base; subst hp hw hK hm hb
  have c0 : Cok (gg X.K C) ["self", "other"] (defScope s_Ratio___eq) (fun _ => true) X := b.ctx rfl (by decide +kernel)
  have G := gok T
  have z_isinstance := T.z_isinstance
  have w0 := T.mc4
  have w1 : (gg X.K C).cls 4 = some (C 4) := rfl
  have w2 : FldOk (gg X.K C) X 4 "own_top" 0 := ⟨rfl, (show (["own_top", "own_bottom"] : List Str).Nodup by decide +kernel), (show (["own_top", "own_bottom"] : List Str).length < 1000 by decide), fun D hD => by cases (show some (C 4) = some D from hD); exact ⟨T.k4.cl, T.n4_0⟩⟩
  have w3 : FldOk (gg X.K C) X 4 "own_bottom" 1 := ⟨rfl, (show (["own_top", "own_bottom"] : List Str).Nodup by decide +kernel), (show (["own_top", "own_bottom"] : List Str).length < 1000 by decide), fun D hD => by cases (show some (C 4) = some D from hD); exact ⟨T.k4.cl, T.n4_1⟩⟩
  exact (snd_seq (snd_if (snd_tnot (snd_tval rfl (Cok.blt c0 (snd_isi G c0.hK) (by decide +kernel) z_isinstance (by decide +kernel) rfl (snd_cons (Cok.var c0 (by decide +kernel)) (snd_cons (Cok.gcls c0 (by decide +kernel) w0 w1) snd_nil (noStar_ne rfl)) (noStar_ne rfl))))) (snd_seq (snd_ret snd_bl)
  snd_end) snd_end)
  (snd_seq (snd_ret (snd_vand (snd_cmp (snd_eq c0.hK c0.un) rfl (Cok.fldV c0 w2 (by decide +kernel) rfl) (Cok.fldV c0 w2 (by decide +kernel) rfl)) (snd_vone (snd_cmp (snd_eq c0.hK c0.un) rfl (Cok.fldV c0 w3 (by decide +kernel) rfl) (Cok.fldV c0 w3 (by decide +kernel) rfl)))))
  snd_end))
theorem p_oEq {g : G} {N : List Str} {sc : Scope} {fc : Str → Bool} {X : Cx} (c : Cok g N sc fc X) (O : OpCls g X 4) (l : MOk g X 4 "__eq__" 2 false f_Ratio___eq) : SndOp g X (compareOp .Eq) oEq := snd_ownQ (snd_eq c.hK c.un) O l
theorem p_oNotEq {g : G} {N : List Str} {sc : Scope} {fc : Str → Bool} {X : Cx} (c : Cok g N sc fc X) (O : OpCls g X 4) (l : MOk g X 4 "__eq__" 2 false f_Ratio___eq) : SndOp g X (compareOp .NotEq) oNotEq := snd_ownN (snd_ne c.hK c.un) O l
theorem ok_law_table (T : Txt K mg A Pp C FD) : FnD P w K mg base false 11 (A 15) (FD 15) ["_law_pot_here", "_law_size"] (spD (gg K C) true 2 f_law_table) := by
  refine fnD_of (N := ["_law_pot_here", "_law_size", "_law_way", "_law_rows", "_law_j", "_law_i", "_law_turn", "_law_place", "_law_one"]) (FunD.a' T.F15) ⟨rfl, rfl, rfl, by decide +kernel, rfl, by decide +kernel, by decide +kernel⟩ rfl (by decide) fun X b => ?_
  have hp := b.prog; have hw := b.w; have hK := b.K; have hm := b.mg; have hb := b.base; subst hp hw hK hm hb
  have c0 : Cok (gg X.K C) ["_law_pot_here", "_law_size", "_law_way", "_law_rows", "_law_j", "_law_i", "_law_turn", "_law_place", "_law_one"] (defScope s_law_table) (fun _ => true) X := b.ctx rfl (by decide +kernel)
  have G := gok T
  have z_range := T.z_range
  have w0 : CallOk X "_law_draw" false 2 (spD (gg X.K C) true 2 f_law_draw) := ⟨_, FD 8, ["_law_pot_here", "_law_size"], 8, T.g8, T.F8.kp, b8 T, b.room.mono (by decide), (fun z => nomatch z), ok_law_draw T, rfl⟩
  have w1 : MkOk (gg X.K C) X 4 "Ratio" 3 [.int 1] f_Ratio___init := by
    obtain ⟨ds, dv, bi⟩ := (FunD.binds1 (ps := ["self", "top", "bottom"]) T.F3 2 0 (by simp) rfl fun _ _ _ _ _ _ _ us its l1 l2 => match us, its, l1, l2 with | [_, _], [_], _, _ => ⟨_, rfl, rfl⟩)
    exact ⟨⟨C 4, A 3, FD 3, ["self", "top", "bottom"], 2, _, ds, rfl, T.mc4, T.mk4, bi, dv, fun _ _ => (.cons (f1 := []) (f2 := []) .int .nil), b.room.mono (by decide), ok_Ratio___init T, rfl⟩⟩
  have w2 : OpCls (gg X.K C) X 4 := ClsK.op T.k4 rfl
  have w3 : MOk (gg X.K C) X 4 "__eq__" 2 false f_Ratio___eq := ⟨⟨C 4, A 14, FD 14, ["self", "other"], 1, rfl, T.k4.cl, T.me14, b14 T, b.room.mono (by decide), ok_Ratio___eq T, rfl⟩, (show ("__eq__" : Str) ∉ (["own_top", "own_bottom"] : List Str) by decide +kernel)⟩
  have w5 : MOk (gg X.K C) X 4 "__add__" 2 false f_Ratio___add := ⟨⟨C 4, A 4, FD 4, ["self", "other"], 5, rfl, T.k4.cl, T.me4, b4 T, b.room.mono (by decide), ok_Ratio___add T, rfl⟩, (show ("__add__" : Str) ∉ (["own_top", "own_bottom"] : List Str) by decide +kernel)⟩
  have w6 : MOk (gg X.K C) X 4 "__radd__" 2 false f_Ratio___radd := ⟨⟨C 4, A 5, FD 5, ["self", "other"], 5, rfl, T.k4.cl, T.me5, b5 T, b.room.mono (by decide), ok_Ratio___radd T, rfl⟩, (show ("__radd__" : Str) ∉ (["own_top", "own_bottom"] : List Str) by decide +kernel)⟩
  have w8 : MOk (gg X.K C) X 4 "__sub__" 2 false f_Ratio___sub := ⟨⟨C 4, A 11, FD 11, ["self", "other"], 5, rfl, T.k4.cl, T.me11, b11 T, b.room.mono (by decide), ok_Ratio___sub T, rfl⟩, (show ("__sub__" : Str) ∉ (["own_top", "own_bottom"] : List Str) by decide +kernel)⟩
  have w9 : MOk (gg X.K C) X 4 "__rsub__" 2 false f_Ratio___rsub := ⟨⟨C 4, A 12, FD 12, ["self", "other"], 5, rfl, T.k4.cl, T.me12, b12 T, b.room.mono (by decide), ok_Ratio___rsub T, rfl⟩, (show ("__rsub__" : Str) ∉ (["own_top", "own_bottom"] : List Str) by decide +kernel)⟩
  have w10 : CallOk X "_law_small" false 2 (spD (gg X.K C) true 2 f_law_small) := ⟨_, FD 13, ["_law_pot_here", "_law_most"], 10, T.g13, T.F13.kp, b13 T, b.room.mono (by decide), (fun z => nomatch z), ok_law_small T, rfl⟩
  have w11 : CallOk X "_law_more" false 3 (spD (gg X.K C) false 3 f_law_more) := ⟨_, FD 9, ["_law_rows", "_law_number", "_law_form"], 8, T.g9, T.F9.kp, b9 T, b.room.mono (by decide), (fun z => nomatch z), ok_law_more T, rfl⟩
  exact (snd_seq (Cok.asg c0 (by decide +kernel) rfl (by decide) (Cok.callR c0 w0 (by decide +kernel) rfl rfl (by decide +kernel) (snd_cons snd_int snd_nil (noStar_ne rfl))))
  (snd_seq (Cok.asgL c0 (i := 3) (by decide +kernel) (by decide) (own := [("_law_i", 5)]) (by decide +kernel) rfl rfl (Cok.irng1 c0 (by decide +kernel) z_range rfl (snd_cons (Cok.var c0 (by decide +kernel)) snd_nil (noStar_ne rfl))) (fun _ _ _ _ _ => (Cok.gnm (c0.blk) (by decide +kernel))) (fun _ _ _ _ _ => (Cok.lc (c0.blk) (own := [("_law_j", 4)]) (by decide +kernel) rfl rfl (Cok.irng1 (c0.blk) (by decide +kernel) z_range rfl (snd_cons (Cok.var (c0.blk) (by decide +kernel)) snd_nil (noStar_ne rfl))) (fun _ _ _ _ _ => (Cok.gnm (c0.blk.blk) (by decide +kernel))) (fun _ _ _ _ _ => (Cok.make (c0.blk.blk) w1.blk.blk (by decide +kernel) rfl rfl (snd_cons snd_int snd_nil (noStar_ne rfl)))))))
  (snd_seq (snd_if (snd_cmpT (p_oEq c0 w2 w3) rfl (Cok.var c0 (by decide +kernel)) snd_int) (snd_seq (Cok.for' c0 rfl (by decide) (Cok.irng1 c0 (by decide +kernel) z_range rfl (snd_cons (Cok.callR c0 w0 (by decide +kernel) rfl rfl (by decide +kernel) (snd_cons (snd_bin (p_oAdd c0 w2 w5 w6) (Cok.var c0 (by decide +kernel)) snd_int) snd_nil (noStar_ne rfl))) snd_nil (noStar_ne rfl))) (Cok.gnm c0 (by decide +kernel)) (snd_seq (Cok.asg c0 (by decide +kernel) rfl (by decide) (Cok.callP c0 w11 (by decide +kernel) rfl rfl (snd_cons (Cok.var c0 (by decide +kernel)) (snd_cons (Cok.callR c0 w10 (by decide +kernel) rfl rfl (by decide +kernel) (snd_cons snd_int snd_nil (noStar_ne rfl))) (snd_cons (Cok.lc c0 (own := [("_law_place", 7)]) (by decide +kernel) rfl rfl (Cok.irng1 c0 (by decide +kernel) z_range rfl (snd_cons (Cok.var c0 (by decide +kernel)) snd_nil (noStar_ne rfl))) (fun _ _ _ _ _ => (Cok.gnm (c0.blk) (by decide +kernel))) (fun _ _ _ _ _ => (snd_bin (p_oSub (c0.blk) w2.blk w8.blk w9.blk) (Cok.callR (c0.blk) w0.blk (by decide +kernel) rfl rfl (by decide +kernel) (snd_cons snd_int snd_nil (noStar_ne rfl))) snd_int))) snd_nil (noStar_ne rfl)) (noStar_ne rfl)) (noStar_ne rfl))))
  snd_end))
  (snd_seq (snd_ret (Cok.var c0 (by decide +kernel)))
  snd_end)) snd_end)
  (snd_seq (Cok.for' c0 rfl (by decide) (Cok.irng1 c0 (by decide +kernel) z_range rfl (snd_cons (Cok.var c0 (by decide +kernel)) snd_nil (noStar_ne rfl))) (Cok.gnm c0 (by decide +kernel)) (snd_seq (Cok.for' c0 rfl (by decide) (Cok.irng1 c0 (by decide +kernel) z_range rfl (snd_cons (snd_bin (p_oAdd c0 w2 w5 w6) (Cok.var c0 (by decide +kernel)) snd_int) snd_nil (noStar_ne rfl))) (Cok.gnm c0 (by decide +kernel)) (snd_seq (Cok.asg c0 (by decide +kernel) rfl (by decide) (snd_vif (snd_cmpT (p_oEq c0 w2 w3) rfl (Cok.var c0 (by decide +kernel)) snd_int) (Cok.callR c0 w10 (by decide +kernel) rfl rfl (by decide +kernel) (snd_cons snd_int snd_nil (noStar_ne rfl))) (Cok.make c0 w1 (by decide +kernel) rfl rfl (snd_cons (Cok.callR c0 w0 (by decide +kernel) rfl rfl (by decide +kernel) (snd_cons snd_int snd_nil (noStar_ne rfl))) snd_nil (noStar_ne rfl)))))
  (snd_seq (snd_if (SndW.t (snd_orc (SndW.t (snd_andc (snd_cmpT (p_oEq c0 w2 w3) rfl (Cok.var c0 (by decide +kernel)) snd_int) (snd_and1 (snd_cmpT (snd_gt) rfl (Cok.callR c0 w0 (by decide +kernel) rfl rfl (by decide +kernel) (snd_cons snd_int snd_nil (noStar_ne rfl))) snd_int)))) (snd_or1 (SndW.t (snd_andc (snd_cmpT (p_oEq c0 w2 w3) rfl (Cok.var c0 (by decide +kernel)) snd_int) (snd_and1 (snd_cmpT (p_oEq c0 w2 w3) rfl (Cok.var c0 (by decide +kernel)) (Cok.var c0 (by decide +kernel))))))))) (snd_seq (Cok.asg c0 (by decide +kernel) rfl (by decide) (Cok.make c0 w1 (by decide +kernel) rfl rfl (snd_cons snd_int snd_nil (noStar_ne rfl))))
  snd_end) snd_end)
  (snd_seq (Cok.asgT c0 (snd_tup (snd_cons (Cok.var c0 (by decide +kernel)) (snd_cons (Cok.var c0 (by decide +kernel)) snd_nil (noStar_ne rfl)) (noStar_ne rfl))) (Cok.gtup c0 (.cons (Cok.gitem2 c0 (by decide +kernel) rfl rfl (Cok.nvar c0 (by decide +kernel)) (Cok.nvar c0 (by decide +kernel))) rfl (.cons (Cok.gitem2 c0 (by decide +kernel) rfl rfl (Cok.nvar c0 (by decide +kernel)) (Cok.nvar c0 (by decide +kernel))) rfl .nil))) (by decide) rfl (by unfold swappedStores Env.blockKind Env.kindOf; rw [c0.hs]; rfl) rfl)
  snd_end))))
  snd_end))
  (snd_seq (snd_ret (Cok.var c0 (by decide +kernel)))
  snd_end)))))
theorem ok_law_list (T : Txt K mg A Pp C FD) : FnD P w K mg base false 11 (A 16) (FD 16) ["_law_pot_here", "_law_size"] (spD (gg K C) true 2 f_law_list) := by
  refine fnD_of (N := ["_law_pot_here", "_law_size", "_law_found", "_law_place"]) (FunD.a' T.F16) ⟨rfl, rfl, rfl, by decide +kernel, rfl, by decide +kernel, by decide +kernel⟩ rfl (by decide) fun X b => ?_
  have hp := b.prog; have hw := b.w; have hK := b.K; have hm := b.mg; have hb := b.base; subst hp hw hK hm hb
  have c0 : Cok (gg X.K C) ["_law_pot_here", "_law_size", "_law_found", "_law_place"] (defScope s_law_list) (fun _ => true) X := b.ctx rfl (by decide +kernel)
  have G := gok T
  have z_range := T.z_range
  have w0 : CallOk X "_law_small" false 2 (spD (gg X.K C) true 2 f_law_small) := ⟨_, FD 13, ["_law_pot_here", "_law_most"], 10, T.g13, T.F13.kp, b13 T, b.room.mono (by decide), (fun z => nomatch z), ok_law_small T, rfl⟩
  have w1 : OpCls (gg X.K C) X 4 := ClsK.op T.k4 rfl
  have w2 : MOk (gg X.K C) X 4 "__eq__" 2 false f_Ratio___eq := ⟨⟨C 4, A 14, FD 14, ["self", "other"], 1, rfl, T.k4.cl, T.me14, b14 T, b.room.mono (by decide), ok_Ratio___eq T, rfl⟩, (show ("__eq__" : Str) ∉ (["own_top", "own_bottom"] : List Str) by decide +kernel)⟩
  have w3 : CallOk X "_law_draw" false 2 (spD (gg X.K C) true 2 f_law_draw) := ⟨_, FD 8, ["_law_pot_here", "_law_size"], 8, T.g8, T.F8.kp, b8 T, b.room.mono (by decide), (fun z => nomatch z), ok_law_draw T, rfl⟩
  have w4 : CallOk X "_law_pick" false 2 (spD (gg X.K C) true 2 f_law_pick) := ⟨_, FD 10, ["_law_pot_here", "_law_some"], 9, T.g10, T.F10.kp, b10 T, b.room.mono (by decide), (fun z => nomatch z), ok_law_pick T, rfl⟩
  have w6 : MOk (gg X.K C) X 4 "__sub__" 2 false f_Ratio___sub := ⟨⟨C 4, A 11, FD 11, ["self", "other"], 5, rfl, T.k4.cl, T.me11, b11 T, b.room.mono (by decide), ok_Ratio___sub T, rfl⟩, (show ("__sub__" : Str) ∉ (["own_top", "own_bottom"] : List Str) by decide +kernel)⟩
  have w7 : MOk (gg X.K C) X 4 "__rsub__" 2 false f_Ratio___rsub := ⟨⟨C 4, A 12, FD 12, ["self", "other"], 5, rfl, T.k4.cl, T.me12, b12 T, b.room.mono (by decide), ok_Ratio___rsub T, rfl⟩, (show ("__rsub__" : Str) ∉ (["own_top", "own_bottom"] : List Str) by decide +kernel)⟩
  have w8 : MkOk (gg X.K C) X 4 "Ratio" 3 [] f_Ratio___init := by
    obtain ⟨ds, dv, bi⟩ := (FunD.binds1 (ps := ["self", "top", "bottom"]) T.F3 3 1 (by simp) rfl fun _ _ _ _ _ _ _ us its l1 l2 => match us, its, l1, l2 with | [_, _, _], [_], _, _ => ⟨_, rfl, rfl⟩)
    exact ⟨⟨C 4, A 3, FD 3, ["self", "top", "bottom"], 2, _, ds, rfl, T.mc4, T.mk4, bi, dv, fun _ _ => .nil, b.room.mono (by decide), ok_Ratio___init T, rfl⟩⟩
  exact (snd_seq (Cok.asgL c0 (i := 2) (by decide +kernel) (by decide) (own := [("_law_place", 3)]) (by decide +kernel) rfl rfl (Cok.irng1 c0 (by decide +kernel) z_range rfl (snd_cons (Cok.var c0 (by decide +kernel)) snd_nil (noStar_ne rfl))) (fun _ _ _ _ _ => (Cok.gnm (c0.blk) (by decide +kernel))) (fun _ _ _ _ _ => (Cok.callR (c0.blk) w0.blk (by decide +kernel) rfl rfl (by decide +kernel) (snd_cons snd_int snd_nil (noStar_ne rfl)))))
  (snd_seq (snd_if (snd_cmpT (p_oEq c0 w1 w2) rfl (Cok.callR c0 w3 (by decide +kernel) rfl rfl (by decide +kernel) (snd_cons snd_int snd_nil (noStar_ne rfl))) snd_int) (snd_seq (Cok.asgT c0 (Cok.make c0 w8 (by decide +kernel) rfl rfl (snd_cons (snd_bin (p_oSub c0 w1 w6 w7) snd_int (Cok.callR c0 w3 (by decide +kernel) rfl rfl (by decide +kernel) (snd_cons snd_int snd_nil (noStar_ne rfl)))) (snd_cons (Cok.callR c0 w4 (by decide +kernel) rfl rfl (by decide +kernel) (snd_cons (snd_lst (snd_cons snd_int (snd_cons snd_int snd_nil (noStar_ne rfl)) (noStar_ne rfl))) snd_nil (noStar_ne rfl))) snd_nil (noStar_ne rfl)) (noStar_ne rfl))) (Cok.gitem c0 (by decide +kernel) rfl (Cok.callR c0 w3 (by decide +kernel) rfl rfl (by decide +kernel) (snd_cons (Cok.var c0 (by decide +kernel)) snd_nil (noStar_ne rfl)))) (by decide) rfl rfl rfl)
  snd_end) snd_end)
  (snd_seq (snd_ret (Cok.var c0 (by decide +kernel)))
  snd_end)))
theorem ok_Ratio_bottom (T : Txt K mg A Pp C FD) : FnD P w K mg base false 1 (A 17) (FD 17) ["self"] (spD (gg K C) false 1 f_Ratio_bottom) := by
  refine fnD_of (N := ["self"]) (FunD.a' T.F17) ⟨rfl, rfl, rfl, by decide +kernel, rfl, by decide +kernel, by decide +kernel⟩ rfl (by decide) fun X b => ?_
  have hp := b.prog; have hw := b.w; have hK := b.K; have hm := b.mg; have hb := b.base; subst hp hw hK hm hb
  have c0 : Cok (gg X.K C) ["self"] (defScope s_Ratio_bottom) (fun _ => true) X := b.ctx rfl (by decide +kernel)
  have G := gok T
  have w0 : FldOk (gg X.K C) X 4 "own_bottom" 1 := ⟨rfl, (show (["own_top", "own_bottom"] : List Str).Nodup by decide +kernel), (show (["own_top", "own_bottom"] : List Str).length < 1000 by decide), fun D hD => by cases (show some (C 4) = some D from hD); exact ⟨T.k4.cl, T.n4_1⟩⟩
  exact (snd_seq (snd_ret (Cok.fldV c0 w0 (by decide +kernel) rfl))
  snd_end)
theorem ok_Ratio_top (T : Txt K mg A Pp C FD) : FnD P w K mg base false 1 (A 18) (FD 18) ["self"] (spD (gg K C) false 1 f_Ratio_top) := by
  refine fnD_of (N := ["self"]) (FunD.a' T.F18) ⟨rfl, rfl, rfl, by decide +kernel, rfl, by decide +kernel, by decide +kernel⟩ rfl (by decide) fun X b => ?_
  have hp := b.prog; have hw := b.w; have hK := b.K; have hm := b.mg; have hb := b.base; subst hp hw hK hm hb
  have c0 : Cok (gg X.K C) ["self"] (defScope s_Ratio_top) (fun _ => true) X := b.ctx rfl (by decide +kernel)
  have G := gok T
  have w0 : FldOk (gg X.K C) X 4 "own_top" 0 := ⟨rfl, (show (["own_top", "own_bottom"] : List Str).Nodup by decide +kernel), (show (["own_top", "own_bottom"] : List Str).length < 1000 by decide), fun D hD => by cases (show some (C 4) = some D from hD); exact ⟨T.k4.cl, T.n4_0⟩⟩
  exact (snd_seq (snd_ret (Cok.fldV c0 w0 (by decide +kernel) rfl))
  snd_end)
theorem ok_law_handed (T : Txt K mg A Pp C FD) : FnD P w K mg base false 9 (A 19) (FD 19) ["_law_pot_here", "_law_numbers"] (spD (gg K C) true 2 f_law_handed) := by
  refine fnD_of (N := ["_law_pot_here", "_law_numbers", "_law_found", "_law_one"]) (FunD.a' T.F19) ⟨rfl, rfl, rfl, by decide +kernel, rfl, by decide +kernel, by decide +kernel⟩ rfl (by decide) fun X b => ?_
  have hp := b.prog; have hw := b.w; have hK := b.K; have hm := b.mg; have hb := b.base; subst hp hw hK hm hb
  have c0 : Cok (gg X.K C) ["_law_pot_here", "_law_numbers", "_law_found", "_law_one"] (defScope s_law_handed) (fun _ => true) X := b.ctx rfl (by decide +kernel)
  have G := gok T
  have z_tuple := T.z_tuple
  have w0 : OpCls (gg X.K C) X 4 := ClsK.op T.k4 rfl
  have w1 : MOk (gg X.K C) X 4 "__eq__" 2 false f_Ratio___eq := ⟨⟨C 4, A 14, FD 14, ["self", "other"], 1, rfl, T.k4.cl, T.me14, b14 T, b.room.mono (by decide), ok_Ratio___eq T, rfl⟩, (show ("__eq__" : Str) ∉ (["own_top", "own_bottom"] : List Str) by decide +kernel)⟩
  have w2 : POk (gg X.K C) X 4 "bottom" f_Ratio_bottom := ⟨⟨C 4, Pp 17, A 17, FD 17, ["self"], 1, rfl, T.k4.cl, T.pr17, b17 T, b.room.mono (by decide), ok_Ratio_bottom T, rfl⟩⟩
  have w3 : CallOk X "_law_draw" false 2 (spD (gg X.K C) true 2 f_law_draw) := ⟨_, FD 8, ["_law_pot_here", "_law_size"], 8, T.g8, T.F8.kp, b8 T, b.room.mono (by decide), (fun z => nomatch z), ok_law_draw T, rfl⟩
  have w4 : POk (gg X.K C) X 4 "top" f_Ratio_top := ⟨⟨C 4, Pp 18, A 18, FD 18, ["self"], 1, rfl, T.k4.cl, T.pr18, b18 T, b.room.mono (by decide), ok_Ratio_top T, rfl⟩⟩
  exact (snd_seq (Cok.asgL c0 (i := 2) (by decide +kernel) (by decide) (own := [("_law_one", 3)]) (by decide +kernel) rfl rfl (Cok.iseq c0 (Cok.var c0 (by decide +kernel))) (fun _ _ _ _ _ => (Cok.gnm (c0.blk) (by decide +kernel))) (fun _ _ _ _ _ => (snd_vif (SndW.t (snd_andc (snd_cmpT (p_oEq (c0.blk) w0.blk w1.blk) rfl (snd_prop w2.blk rfl (Cok.var (c0.blk) (by decide +kernel))) snd_int) (snd_and1 (snd_cmpT (p_oEq (c0.blk) w0.blk w1.blk) rfl (Cok.callR (c0.blk) w3.blk (by decide +kernel) rfl rfl (by decide +kernel) (snd_cons snd_int snd_nil (noStar_ne rfl))) snd_int)))) (snd_prop w4.blk rfl (Cok.var (c0.blk) (by decide +kernel))) (Cok.var (c0.blk) (by decide +kernel)))))
  (snd_seq (snd_ret (snd_vif (snd_cmpT (p_oEq c0 w0 w1) rfl (Cok.callR c0 w3 (by decide +kernel) rfl rfl (by decide +kernel) (snd_cons snd_int snd_nil (noStar_ne rfl))) snd_int) (Cok.bltT c0 (snd_tuple c0.hK) (by decide +kernel) z_tuple (by decide +kernel) rfl (snd_cons (Cok.var c0 (by decide +kernel)) snd_nil (noStar_ne rfl))) (Cok.var c0 (by decide +kernel))))
  snd_end))
theorem ok_law_given (T : Txt K mg A Pp C FD) : FnD P w K mg base false 10 (A 20) (FD 20) ["_law_pot_here", "_law_rows"] (spD (gg K C) true 2 f_law_given) := by
  refine fnD_of (N := ["_law_pot_here", "_law_rows", "_law_found", "_law_row"]) (FunD.a' T.F20) ⟨rfl, rfl, rfl, by decide +kernel, rfl, by decide +kernel, by decide +kernel⟩ rfl (by decide) fun X b => ?_
  have hp := b.prog; have hw := b.w; have hK := b.K; have hm := b.mg; have hb := b.base; subst hp hw hK hm hb
  have c0 : Cok (gg X.K C) ["_law_pot_here", "_law_rows", "_law_found", "_law_row"] (defScope s_law_given) (fun _ => true) X := b.ctx rfl (by decide +kernel)
  have G := gok T
  have z_tuple := T.z_tuple
  have w0 : CallOk X "_law_handed" false 2 (spD (gg X.K C) true 2 f_law_handed) := ⟨_, FD 19, ["_law_pot_here", "_law_numbers"], 9, T.g19, T.F19.kp, b19 T, b.room.mono (by decide), (fun z => nomatch z), ok_law_handed T, rfl⟩
  have w1 : OpCls (gg X.K C) X 4 := ClsK.op T.k4 rfl
  have w2 : MOk (gg X.K C) X 4 "__eq__" 2 false f_Ratio___eq := ⟨⟨C 4, A 14, FD 14, ["self", "other"], 1, rfl, T.k4.cl, T.me14, b14 T, b.room.mono (by decide), ok_Ratio___eq T, rfl⟩, (show ("__eq__" : Str) ∉ (["own_top", "own_bottom"] : List Str) by decide +kernel)⟩
  have w3 : CallOk X "_law_draw" false 2 (spD (gg X.K C) true 2 f_law_draw) := ⟨_, FD 8, ["_law_pot_here", "_law_size"], 8, T.g8, T.F8.kp, b8 T, b.room.mono (by decide), (fun z => nomatch z), ok_law_draw T, rfl⟩
  exact (snd_seq (Cok.asgL c0 (i := 2) (by decide +kernel) (by decide) (own := [("_law_row", 3)]) (by decide +kernel) rfl rfl (Cok.iseq c0 (Cok.var c0 (by decide +kernel))) (fun _ _ _ _ _ => (Cok.gnm (c0.blk) (by decide +kernel))) (fun _ _ _ _ _ => (Cok.callR (c0.blk) w0.blk (by decide +kernel) rfl rfl (by decide +kernel) (snd_cons (Cok.var (c0.blk) (by decide +kernel)) snd_nil (noStar_ne rfl)))))
  (snd_seq (snd_ret (snd_vif (snd_cmpT (p_oEq c0 w1 w2) rfl (Cok.callR c0 w3 (by decide +kernel) rfl rfl (by decide +kernel) (snd_cons snd_int snd_nil (noStar_ne rfl))) snd_int) (Cok.bltT c0 (snd_tuple c0.hK) (by decide +kernel) z_tuple (by decide +kernel) rfl (snd_cons (Cok.var c0 (by decide +kernel)) snd_nil (noStar_ne rfl))) (Cok.var c0 (by decide +kernel))))
  snd_end))
theorem ok_law_sum (T : Txt K mg A Pp C FD) : FnD P w K mg base false 8 (A 21) (FD 21) ["_law_rows", "_law_first", "_law_second"] (spD (gg K C) false 3 f_law_sum) := by
  refine fnD_of (N := ["_law_rows", "_law_first", "_law_second", "_law_found", "_law_i", "_law_j"]) (FunD.a' T.F21) ⟨rfl, rfl, rfl, by decide +kernel, rfl, by decide +kernel, by decide +kernel⟩ rfl (by decide) fun X b => ?_
  have hp := b.prog; have hw := b.w; have hK := b.K; have hm := b.mg; have hb := b.base; subst hp hw hK hm hb
  have c0 : Cok (gg X.K C) ["_law_rows", "_law_first", "_law_second", "_law_found", "_law_i", "_law_j"] (defScope s_law_sum) (fun _ => true) X := b.ctx rfl (by decide +kernel)
  have G := gok T
  have z_len := T.z_len
  have z_range := T.z_range
  have w0 : MkOk (gg X.K C) X 4 "Ratio" 3 [.int 1] f_Ratio___init := by
    obtain ⟨ds, dv, bi⟩ := (FunD.binds1 (ps := ["self", "top", "bottom"]) T.F3 2 0 (by simp) rfl fun _ _ _ _ _ _ _ us its l1 l2 => match us, its, l1, l2 with | [_, _], [_], _, _ => ⟨_, rfl, rfl⟩)
    exact ⟨⟨C 4, A 3, FD 3, ["self", "top", "bottom"], 2, _, ds, rfl, T.mc4, T.mk4, bi, dv, fun _ _ => (.cons (f1 := []) (f2 := []) .int .nil), b.room.mono (by decide), ok_Ratio___init T, rfl⟩⟩
  have w2 : OpCls (gg X.K C) X 4 := ClsK.op T.k4 rfl
  have w3 : MOk (gg X.K C) X 4 "__add__" 2 false f_Ratio___add := ⟨⟨C 4, A 4, FD 4, ["self", "other"], 5, rfl, T.k4.cl, T.me4, b4 T, b.room.mono (by decide), ok_Ratio___add T, rfl⟩, (show ("__add__" : Str) ∉ (["own_top", "own_bottom"] : List Str) by decide +kernel)⟩
  have w4 : MOk (gg X.K C) X 4 "__radd__" 2 false f_Ratio___radd := ⟨⟨C 4, A 5, FD 5, ["self", "other"], 5, rfl, T.k4.cl, T.me5, b5 T, b.room.mono (by decide), ok_Ratio___radd T, rfl⟩, (show ("__radd__" : Str) ∉ (["own_top", "own_bottom"] : List Str) by decide +kernel)⟩
  have w6 : MOk (gg X.K C) X 4 "__mul__" 2 false f_Ratio___mul := ⟨⟨C 4, A 6, FD 6, ["self", "other"], 5, rfl, T.k4.cl, T.me6, b6 T, b.room.mono (by decide), ok_Ratio___mul T, rfl⟩, (show ("__mul__" : Str) ∉ (["own_top", "own_bottom"] : List Str) by decide +kernel)⟩
  have w7 : MOk (gg X.K C) X 4 "__rmul__" 2 false f_Ratio___rmul := ⟨⟨C 4, A 7, FD 7, ["self", "other"], 5, rfl, T.k4.cl, T.me7, b7 T, b.room.mono (by decide), ok_Ratio___rmul T, rfl⟩, (show ("__rmul__" : Str) ∉ (["own_top", "own_bottom"] : List Str) by decide +kernel)⟩
  exact (snd_seq (Cok.asg c0 (by decide +kernel) rfl (by decide) (Cok.make c0 w0 (by decide +kernel) rfl rfl (snd_cons snd_int snd_nil (noStar_ne rfl))))
  (snd_seq (Cok.for' c0 rfl (by decide) (Cok.irng1 c0 (by decide +kernel) z_range rfl (snd_cons (Cok.blt c0 (snd_len c0.hK) (by decide +kernel) z_len (by decide +kernel) rfl (snd_cons (Cok.var c0 (by decide +kernel)) snd_nil (noStar_ne rfl))) snd_nil (noStar_ne rfl))) (Cok.gnm c0 (by decide +kernel)) (snd_seq (Cok.for' c0 rfl (by decide) (Cok.irng1 c0 (by decide +kernel) z_range rfl (snd_cons (Cok.blt c0 (snd_len c0.hK) (by decide +kernel) z_len (by decide +kernel) rfl (snd_cons (Cok.var c0 (by decide +kernel)) snd_nil (noStar_ne rfl))) snd_nil (noStar_ne rfl))) (Cok.gnm c0 (by decide +kernel)) (snd_seq (Cok.asg c0 (by decide +kernel) rfl (by decide) (snd_bin (p_oAdd c0 w2 w3 w4) (Cok.var c0 (by decide +kernel)) (snd_bin (p_oMult c0 w2 w6 w7) (snd_bin (p_oMult c0 w2 w6 w7) (Cok.item c0 (by decide +kernel) rfl (Cok.var c0 (by decide +kernel))) (Cok.ix c0 rfl (Cok.item c0 (by decide +kernel) rfl (Cok.var c0 (by decide +kernel))) (Cok.var c0 (by decide +kernel)))) (Cok.item c0 (by decide +kernel) rfl (Cok.var c0 (by decide +kernel))))))
  snd_end))
  snd_end))
  (snd_seq (snd_ret (Cok.var c0 (by decide +kernel)))
  snd_end)))
theorem ok_digits_of (T : Txt K mg A Pp C FD) : FnD P w K mg base false 1 (A 22) (FD 22) ["number"] (spD (gg K C) false 1 f_digits_of) := by
  refine fnD_of (N := ["number", "left", "told", "part", "sign"]) (FunD.a' T.F22) ⟨rfl, rfl, rfl, by decide +kernel, rfl, by decide +kernel, by decide +kernel⟩ rfl (by decide) fun X b => ?_
  have hp := b.prog; have hw := b.w; have hK := b.K; have hm := b.mg; have hb := b.base; subst hp hw hK hm hb
  have c0 : Cok (gg X.K C) ["number", "left", "told", "part", "sign"] (defScope s_digits_of) (fun _ => true) X := b.ctx rfl (by decide +kernel)
  have G := gok T
  have z_int := T.z_int
  have z_str := T.z_str
  obtain ⟨t_PART, w0⟩ := T.i_PART
  exact (snd_seq (Cok.par c0 (by decide +kernel) (by decide +kernel) (by decide) (by decide) (fun env h => by unfold swappedStores Env.blockKind Env.kindOf; rw [h]; rfl) (snd_cons (snd_vif (snd_cmpT (snd_ge) rfl (Cok.var c0 (by decide +kernel)) snd_int) (Cok.var c0 (by decide +kernel)) (snd_bin (snd_sub) snd_int (Cok.var c0 (by decide +kernel)))) (snd_cons snd_str snd_nil (noStar_ne rfl)) (noStar_ne rfl)))
  (snd_seq (Cok.whl c0 (snd_cmpT (snd_ge) rfl (Cok.var c0 (by decide +kernel)) (Cok.gint c0 (by decide +kernel) w0)) (snd_seq (Cok.asg c0 (by decide +kernel) rfl (by decide) (snd_bin (snd_add c0.hK) (snd_bin (snd_mod) (Cok.bltT c0 (snd_intf) (by decide +kernel) z_int (by decide +kernel) rfl (snd_cons (Cok.var c0 (by decide +kernel)) snd_nil (noStar_ne rfl))) (Cok.gint c0 (by decide +kernel) w0)) (Cok.gint c0 (by decide +kernel) w0)))
  (snd_seq (Cok.asg c0 (by decide +kernel) rfl (by decide) (snd_join (.cons (snd_fmt (Cok.slc c0 (Cok.bltT c0 (snd_strf) (by decide +kernel) z_str (by decide +kernel) rfl (snd_cons (Cok.var c0 (by decide +kernel)) snd_nil (noStar_ne rfl))) (snd_psome snd_int) snd_pno)) (.cons (snd_fmt (Cok.var c0 (by decide +kernel))) .nil))))
  (snd_seq (Cok.asg c0 (by decide +kernel) rfl (by decide) (snd_bin (snd_div) (Cok.var c0 (by decide +kernel)) (Cok.gint c0 (by decide +kernel) w0)))
  snd_end))))
  (snd_seq (Cok.asg c0 (by decide +kernel) rfl (by decide) (snd_vif (snd_cmpT (snd_lt) rfl (Cok.var c0 (by decide +kernel)) snd_int) snd_str snd_str))
  (snd_seq (snd_ret (snd_join (.cons (snd_fmt (Cok.var c0 (by decide +kernel))) (.cons (snd_fmt (Cok.var c0 (by decide +kernel))) (.cons (snd_fmt (Cok.var c0 (by decide +kernel))) .nil)))))
  snd_end))))
theorem ok_Ratio___repr (T : Txt K mg A Pp C FD) : FnD P w K mg base false 2 (A 23) (FD 23) ["self"] (spD (gg K C) false 1 f_Ratio___repr) := by
  refine fnD_of (N := ["self"]) (FunD.a' T.F23) ⟨rfl, rfl, rfl, by decide +kernel, rfl, by decide +kernel, by decide +kernel⟩ rfl (by decide) fun X b => ?_
  have hp := b.prog; have hw := b.w; have hK := b.K; have hm := b.mg; have hb := b.base; subst hp hw hK hm hb
  have c0 : Cok (gg X.K C) ["self"] (defScope s_Ratio___repr) (fun _ => true) X := b.ctx rfl (by decide +kernel)
  have G := gok T
  have w0 : FldOk (gg X.K C) X 4 "own_top" 0 := ⟨rfl, (show (["own_top", "own_bottom"] : List Str).Nodup by decide +kernel), (show (["own_top", "own_bottom"] : List Str).length < 1000 by decide), fun D hD => by cases (show some (C 4) = some D from hD); exact ⟨T.k4.cl, T.n4_0⟩⟩
  have w1 : CallOk X "digits_of" false 1 (spD (gg X.K C) false 1 f_digits_of) := ⟨_, FD 22, ["number"], 1, T.g22, T.F22.kp, b22 T, b.room.mono (by decide), (fun z => nomatch z), ok_digits_of T, rfl⟩
  have w2 : FldOk (gg X.K C) X 4 "own_bottom" 1 := ⟨rfl, (show (["own_top", "own_bottom"] : List Str).Nodup by decide +kernel), (show (["own_top", "own_bottom"] : List Str).length < 1000 by decide), fun D hD => by cases (show some (C 4) = some D from hD); exact ⟨T.k4.cl, T.n4_1⟩⟩
  exact (snd_seq (snd_ret (snd_join (.cons snd_str (.cons (snd_fmt (Cok.callP c0 w1 (by decide +kernel) rfl rfl (snd_cons (Cok.fldV c0 w0 (by decide +kernel) rfl) snd_nil (noStar_ne rfl)))) (.cons snd_str (.cons (snd_fmt (Cok.callP c0 w1 (by decide +kernel) rfl rfl (snd_cons (Cok.fldV c0 w2 (by decide +kernel) rfl) snd_nil (noStar_ne rfl)))) (.cons snd_str .nil)))))))
  snd_end)
theorem ok_is_list (T : Txt K mg A Pp C FD) : FnD P w K mg base false 1 (A 24) (FD 24) ["value"] (spD (gg K C) false 1 f_is_list) := by
  refine fnD_of (N := ["value"]) (FunD.a' T.F24) ⟨rfl, rfl, rfl, by decide +kernel, rfl, by decide +kernel, by decide +kernel⟩ rfl (by decide) fun X b => ?_
  have hp := b.prog; have hw := b.w; have hK := b.K; have hm := b.mg; have hb := b.base; subst hp hw hK hm hb
  have c0 : Cok (gg X.K C) ["value"] (defScope s_is_list) (fun _ => true) X := b.ctx rfl (by decide +kernel)
  have G := gok T
  have z_isinstance := T.z_isinstance
  have z_tuple := T.z_tuple
  have z_list := T.z_list
  exact (snd_seq (snd_ret (Cok.blt c0 (snd_isi G c0.hK) (by decide +kernel) z_isinstance (by decide +kernel) rfl (snd_cons (Cok.var c0 (by decide +kernel)) (snd_cons (snd_tup (snd_cons (Cok.ty c0 (by decide +kernel) z_list (by decide +kernel)) (snd_cons (Cok.ty c0 (by decide +kernel) z_tuple (by decide +kernel)) snd_nil (noStar_ne rfl)) (noStar_ne rfl))) snd_nil (noStar_ne rfl)) (noStar_ne rfl))))
  snd_end)
theorem ok_is_number (T : Txt K mg A Pp C FD) : FnD P w K mg base false 2 (A 25) (FD 25) ["value"] (spD (gg K C) false 1 f_is_number) := by
  refine fnD_of (N := ["value"]) (FunD.a' T.F25) ⟨rfl, rfl, rfl, by decide +kernel, rfl, by decide +kernel, by decide +kernel⟩ rfl (by decide) fun X b => ?_
  have hp := b.prog; have hw := b.w; have hK := b.K; have hm := b.mg; have hb := b.base; subst hp hw hK hm hb
  have c0 : Cok (gg X.K C) ["value"] (defScope s_is_number) (fun _ => true) X := b.ctx rfl (by decide +kernel)
  have G := gok T
  have z_isinstance := T.z_isinstance
  have w0 : CallOk X "is_integer" false 1 (spD (gg X.K C) false 1 f_is_integer) := ⟨_, FD 0, ["value"], 1, T.g0, T.F0.kp, b0 T, b.room.mono (by decide), (fun z => nomatch z), ok_is_integer T, rfl⟩
  have w1 := T.mc4
  have w2 : (gg X.K C).cls 4 = some (C 4) := rfl
  exact (snd_seq (snd_ret (snd_vor (Cok.callP c0 w0 (by decide +kernel) rfl rfl (snd_cons (Cok.var c0 (by decide +kernel)) snd_nil (noStar_ne rfl))) (snd_vone (Cok.blt c0 (snd_isi G c0.hK) (by decide +kernel) z_isinstance (by decide +kernel) rfl (snd_cons (Cok.var c0 (by decide +kernel)) (snd_cons (Cok.gcls c0 (by decide +kernel) w1 w2) snd_nil (noStar_ne rfl)) (noStar_ne rfl))))))
  snd_end)
theorem ok_are_numbers (T : Txt K mg A Pp C FD) : FnD P w K mg base false 4 (A 26) (FD 26) ["value", "many"] (spD (gg K C) false 2 f_are_numbers) := by
  refine fnD_of (N := ["value", "many", "number"]) (FunD.a' T.F26) ⟨rfl, rfl, rfl, by decide +kernel, rfl, by decide +kernel, by decide +kernel⟩ rfl (by decide) fun X b => ?_
  have hp := b.prog; have hw := b.w; have hK := b.K; have hm := b.mg; have hb := b.base; subst hp hw hK hm hb
  have c0 : Cok (gg X.K C) ["value", "many", "number"] (defScope s_are_numbers) (fun _ => true) X := b.ctx rfl (by decide +kernel)
  have G := gok T
  have z_len := T.z_len
  have z_all := T.z_all
  have w0 : CallOk X "is_list" false 1 (spD (gg X.K C) false 1 f_is_list) := ⟨_, FD 24, ["value"], 1, T.g24, T.F24.kp, b24 T, b.room.mono (by decide), (fun z => nomatch z), ok_is_list T, rfl⟩
  have w1 : OpCls (gg X.K C) X 4 := ClsK.op T.k4 rfl
  have w2 : MOk (gg X.K C) X 4 "__eq__" 2 false f_Ratio___eq := ⟨⟨C 4, A 14, FD 14, ["self", "other"], 1, rfl, T.k4.cl, T.me14, b14 T, b.room.mono (by decide), ok_Ratio___eq T, rfl⟩, (show ("__eq__" : Str) ∉ (["own_top", "own_bottom"] : List Str) by decide +kernel)⟩
  have w3 : CallOk X "is_number" false 1 (spD (gg X.K C) false 1 f_is_number) := ⟨_, FD 25, ["value"], 2, T.g25, T.F25.kp, b25 T, b.room.mono (by decide), (fun z => nomatch z), ok_is_number T, rfl⟩
  exact (snd_seq (snd_ret (snd_vand (Cok.callP c0 w0 (by decide +kernel) rfl rfl (snd_cons (Cok.var c0 (by decide +kernel)) snd_nil (noStar_ne rfl))) (snd_vand (snd_cmp (p_oEq c0 w1 w2) rfl (Cok.blt c0 (snd_len c0.hK) (by decide +kernel) z_len (by decide +kernel) rfl (snd_cons (Cok.var c0 (by decide +kernel)) snd_nil (noStar_ne rfl))) (Cok.var c0 (by decide +kernel))) (snd_vone (Cok.blt c0 (snd_all c0.calm) (by decide +kernel) z_all (by decide +kernel) rfl (snd_cons (Cok.lc c0 (own := [("number", 2)]) (by decide +kernel) rfl rfl (Cok.iseq c0 (Cok.var c0 (by decide +kernel))) (fun _ _ _ _ _ => (Cok.gnm (c0.blk) (by decide +kernel))) (fun _ _ _ _ _ => (Cok.callP (c0.blk) w3.blk (by decide +kernel) rfl rfl (snd_cons (Cok.var (c0.blk) (by decide +kernel)) snd_nil (noStar_ne rfl))))) snd_nil (noStar_ne rfl)))))))
  snd_end)
theorem ok_are_alike (T : Txt K mg A Pp C FD) : FnD P w K mg base false 4 (A 27) (FD 27) ["rows"] (spD (gg K C) false 1 f_are_alike) := by
  refine fnD_of (N := ["rows", "place", "row", "other"]) (FunD.a' T.F27) ⟨rfl, rfl, rfl, by decide +kernel, rfl, by decide +kernel, by decide +kernel⟩ rfl (by decide) fun X b => ?_
  have hp := b.prog; have hw := b.w; have hK := b.K; have hm := b.mg; have hb := b.base; subst hp hw hK hm hb
  have c0 : Cok (gg X.K C) ["rows", "place", "row", "other"] (defScope s_are_alike) (fun _ => true) X := b.ctx rfl (by decide +kernel)
  have G := gok T
  have z_enumerate := T.z_enumerate
  have z_range := T.z_range
  have w0 : OpCls (gg X.K C) X 4 := ClsK.op T.k4 rfl
  have w1 : MOk (gg X.K C) X 4 "__eq__" 2 false f_Ratio___eq := ⟨⟨C 4, A 14, FD 14, ["self", "other"], 1, rfl, T.k4.cl, T.me14, b14 T, b.room.mono (by decide), ok_Ratio___eq T, rfl⟩, (show ("__eq__" : Str) ∉ (["own_top", "own_bottom"] : List Str) by decide +kernel)⟩
  exact (snd_seq (Cok.for' c0 rfl (by decide) (Cok.ienm c0 (by decide +kernel) z_enumerate rfl (snd_cons (Cok.var c0 (by decide +kernel)) snd_nil (noStar_ne rfl))) (Cok.gtup c0 (.cons (Cok.gnm c0 (by decide +kernel)) rfl (.cons (Cok.gnm c0 (by decide +kernel)) rfl .nil))) (snd_seq (Cok.for' c0 rfl (by decide) (Cok.irng1 c0 (by decide +kernel) z_range rfl (snd_cons (Cok.var c0 (by decide +kernel)) snd_nil (noStar_ne rfl))) (Cok.gnm c0 (by decide +kernel)) (snd_seq (snd_if (snd_cmpT (p_oNotEq c0 w0 w1) rfl (Cok.item c0 (by decide +kernel) rfl (Cok.var c0 (by decide +kernel))) (Cok.ix c0 rfl (Cok.item c0 (by decide +kernel) rfl (Cok.var c0 (by decide +kernel))) (Cok.var c0 (by decide +kernel)))) (snd_seq (snd_ret snd_bl)
  snd_end) snd_end)
  snd_end))
  snd_end))
  (snd_seq (snd_ret snd_bl)
  snd_end))
theorem ok_ratio_of (T : Txt K mg A Pp C FD) : FnD P w K mg base false 5 (A 28) (FD 28) ["number"] (spD (gg K C) false 1 f_ratio_of) := by
  refine fnD_of (N := ["number"]) (FunD.a' T.F28) ⟨rfl, rfl, rfl, by decide +kernel, rfl, by decide +kernel, by decide +kernel⟩ rfl (by decide) fun X b => ?_
  have hp := b.prog; have hw := b.w; have hK := b.K; have hm := b.mg; have hb := b.base; subst hp hw hK hm hb
  have c0 : Cok (gg X.K C) ["number"] (defScope s_ratio_of) (fun _ => true) X := b.ctx rfl (by decide +kernel)
  have G := gok T
  have z_isinstance := T.z_isinstance
  have w0 := T.mc4
  have w1 : (gg X.K C).cls 4 = some (C 4) := rfl
  have w2 : MkOk (gg X.K C) X 4 "Ratio" 3 [.int 1] f_Ratio___init := by
    obtain ⟨ds, dv, bi⟩ := (FunD.binds1 (ps := ["self", "top", "bottom"]) T.F3 2 0 (by simp) rfl fun _ _ _ _ _ _ _ us its l1 l2 => match us, its, l1, l2 with | [_, _], [_], _, _ => ⟨_, rfl, rfl⟩)
    exact ⟨⟨C 4, A 3, FD 3, ["self", "top", "bottom"], 2, _, ds, rfl, T.mc4, T.mk4, bi, dv, fun _ _ => (.cons (f1 := []) (f2 := []) .int .nil), b.room.mono (by decide), ok_Ratio___init T, rfl⟩⟩
  exact (snd_seq (snd_ret (snd_vif (snd_tval rfl (Cok.blt c0 (snd_isi G c0.hK) (by decide +kernel) z_isinstance (by decide +kernel) rfl (snd_cons (Cok.var c0 (by decide +kernel)) (snd_cons (Cok.gcls c0 (by decide +kernel) w0 w1) snd_nil (noStar_ne rfl)) (noStar_ne rfl)))) (Cok.var c0 (by decide +kernel)) (Cok.make c0 w2 (by decide +kernel) rfl rfl (snd_cons (Cok.var c0 (by decide +kernel)) snd_nil (noStar_ne rfl)))))
  snd_end)
theorem ok_ratios_of (T : Txt K mg A Pp C FD) : FnD P w K mg base false 6 (A 29) (FD 29) ["numbers"] (spD (gg K C) false 1 f_ratios_of) := by
  refine fnD_of (N := ["numbers", "number"]) (FunD.a' T.F29) ⟨rfl, rfl, rfl, by decide +kernel, rfl, by decide +kernel, by decide +kernel⟩ rfl (by decide) fun X b => ?_
  have hp := b.prog; have hw := b.w; have hK := b.K; have hm := b.mg; have hb := b.base; subst hp hw hK hm hb
  have c0 : Cok (gg X.K C) ["numbers", "number"] (defScope s_ratios_of) (fun _ => true) X := b.ctx rfl (by decide +kernel)
  have G := gok T
  have w0 : CallOk X "ratio_of" false 1 (spD (gg X.K C) false 1 f_ratio_of) := ⟨_, FD 28, ["number"], 5, T.g28, T.F28.kp, b28 T, b.room.mono (by decide), (fun z => nomatch z), ok_ratio_of T, rfl⟩
  exact (snd_seq (snd_ret (Cok.lc c0 (own := [("number", 1)]) (by decide +kernel) rfl rfl (Cok.iseq c0 (Cok.var c0 (by decide +kernel))) (fun _ _ _ _ _ => (Cok.gnm (c0.blk) (by decide +kernel))) (fun _ _ _ _ _ => (Cok.callP (c0.blk) w0.blk (by decide +kernel) rfl rfl (snd_cons (Cok.var (c0.blk) (by decide +kernel)) snd_nil (noStar_ne rfl))))))
  snd_end)
theorem ok_is_table (T : Txt K mg A Pp C FD) : FnD P w K mg base false 7 (A 30) (FD 30) ["value"] (spD (gg K C) false 1 f_is_table) := by
  refine fnD_of (N := ["value", "row"]) (FunD.a' T.F30) ⟨rfl, rfl, rfl, by decide +kernel, rfl, by decide +kernel, by decide +kernel⟩ rfl (by decide) fun X b => ?_
  have hp := b.prog; have hw := b.w; have hK := b.K; have hm := b.mg; have hb := b.base; subst hp hw hK hm hb
  have c0 : Cok (gg X.K C) ["value", "row"] (defScope s_is_table) (fun _ => true) X := b.ctx rfl (by decide +kernel)
  have G := gok T
  have z_len := T.z_len
  have z_all := T.z_all
  have w0 : CallOk X "is_list" false 1 (spD (gg X.K C) false 1 f_is_list) := ⟨_, FD 24, ["value"], 1, T.g24, T.F24.kp, b24 T, b.room.mono (by decide), (fun z => nomatch z), ok_is_list T, rfl⟩
  obtain ⟨t_MOST_ROWS, w1⟩ := T.i_MOST_ROWS
  have w2 : CallOk X "are_numbers" false 2 (spD (gg X.K C) false 2 f_are_numbers) := ⟨_, FD 26, ["value", "many"], 4, T.g26, T.F26.kp, b26 T, b.room.mono (by decide), (fun z => nomatch z), ok_are_numbers T, rfl⟩
  have w3 : CallOk X "ratios_of" false 1 (spD (gg X.K C) false 1 f_ratios_of) := ⟨_, FD 29, ["numbers"], 6, T.g29, T.F29.kp, b29 T, b.room.mono (by decide), (fun z => nomatch z), ok_ratios_of T, rfl⟩
  have w4 : CallOk X "are_alike" false 1 (spD (gg X.K C) false 1 f_are_alike) := ⟨_, FD 27, ["rows"], 4, T.g27, T.F27.kp, b27 T, b.room.mono (by decide), (fun z => nomatch z), ok_are_alike T, rfl⟩
  exact (snd_seq (snd_if (SndW.t (snd_orc (snd_tnot (snd_tval rfl (Cok.callP c0 w0 (by decide +kernel) rfl rfl (snd_cons (Cok.var c0 (by decide +kernel)) snd_nil (noStar_ne rfl))))) (snd_or1 (snd_tnot (snd_chainT (snd_le) (snd_le) rfl snd_int (Cok.blt c0 (snd_len c0.hK) (by decide +kernel) z_len (by decide +kernel) rfl (snd_cons (Cok.var c0 (by decide +kernel)) snd_nil (noStar_ne rfl))) (Cok.gint c0 (by decide +kernel) w1)))))) (snd_seq (snd_ret snd_bl)
  snd_end) snd_end)
  (snd_seq (snd_if (snd_tnot (snd_tval rfl (Cok.blt c0 (snd_all c0.calm) (by decide +kernel) z_all (by decide +kernel) rfl (snd_cons (Cok.lc c0 (own := [("row", 1)]) (by decide +kernel) rfl rfl (Cok.iseq c0 (Cok.var c0 (by decide +kernel))) (fun _ _ _ _ _ => (Cok.gnm (c0.blk) (by decide +kernel))) (fun _ _ _ _ _ => (Cok.callP (c0.blk) w2.blk (by decide +kernel) rfl rfl (snd_cons (Cok.var (c0.blk) (by decide +kernel)) (snd_cons (Cok.blt (c0.blk) (snd_len (c0.blk).hK) (by decide +kernel) z_len (by decide +kernel) rfl (snd_cons (Cok.var (c0.blk) (by decide +kernel)) snd_nil (noStar_ne rfl))) snd_nil (noStar_ne rfl)) (noStar_ne rfl))))) snd_nil (noStar_ne rfl))))) (snd_seq (snd_ret snd_bl)
  snd_end) snd_end)
  (snd_seq (snd_ret (Cok.callP c0 w4 (by decide +kernel) rfl rfl (snd_cons (Cok.lc c0 (own := [("row", 1)]) (by decide +kernel) rfl rfl (Cok.iseq c0 (Cok.var c0 (by decide +kernel))) (fun _ _ _ _ _ => (Cok.gnm (c0.blk) (by decide +kernel))) (fun _ _ _ _ _ => (Cok.callP (c0.blk) w3.blk (by decide +kernel) rfl rfl (snd_cons (Cok.var (c0.blk) (by decide +kernel)) snd_nil (noStar_ne rfl))))) snd_nil (noStar_ne rfl))))
  snd_end)))
theorem ok_told_rows (T : Txt K mg A Pp C FD) : FnD P w K mg base false 8 (A 31) (FD 31) ["table"] (spD (gg K C) false 1 f_told_rows) := by
  refine fnD_of (N := ["table", "row"]) (FunD.a' T.F31) ⟨rfl, rfl, rfl, by decide +kernel, rfl, by decide +kernel, by decide +kernel⟩ rfl (by decide) fun X b => ?_
  have hp := b.prog; have hw := b.w; have hK := b.K; have hm := b.mg; have hb := b.base; subst hp hw hK hm hb
  have c0 : Cok (gg X.K C) ["table", "row"] (defScope s_told_rows) (fun _ => true) X := b.ctx rfl (by decide +kernel)
  have G := gok T
  have w0 : CallOk X "is_table" false 1 (spD (gg X.K C) false 1 f_is_table) := ⟨_, FD 30, ["value"], 7, T.g30, T.F30.kp, b30 T, b.room.mono (by decide), (fun z => nomatch z), ok_is_table T, rfl⟩
  have w1 : CallOk X "ratios_of" false 1 (spD (gg X.K C) false 1 f_ratios_of) := ⟨_, FD 29, ["numbers"], 6, T.g29, T.F29.kp, b29 T, b.room.mono (by decide), (fun z => nomatch z), ok_ratios_of T, rfl⟩
  exact (snd_seq (snd_if (snd_tnot (snd_tval rfl (Cok.callP c0 w0 (by decide +kernel) rfl rfl (snd_cons (Cok.var c0 (by decide +kernel)) snd_nil (noStar_ne rfl))))) (snd_seq snd_no
  snd_end) snd_end)
  (snd_seq (snd_ret (Cok.lc c0 (own := [("row", 1)]) (by decide +kernel) rfl rfl (Cok.iseq c0 (Cok.var c0 (by decide +kernel))) (fun _ _ _ _ _ => (Cok.gnm (c0.blk) (by decide +kernel))) (fun _ _ _ _ _ => (Cok.callP (c0.blk) w1.blk (by decide +kernel) rfl rfl (snd_cons (Cok.var (c0.blk) (by decide +kernel)) snd_nil (noStar_ne rfl))))))
  snd_end))
theorem ok_told_direction (T : Txt K mg A Pp C FD) : FnD P w K mg base false 7 (A 32) (FD 32) ["rows", "value"] (spD (gg K C) false 2 f_told_direction) := by
  refine fnD_of (N := ["rows", "value"]) (FunD.a' T.F32) ⟨rfl, rfl, rfl, by decide +kernel, rfl, by decide +kernel, by decide +kernel⟩ rfl (by decide) fun X b => ?_
  have hp := b.prog; have hw := b.w; have hK := b.K; have hm := b.mg; have hb := b.base; subst hp hw hK hm hb
  have c0 : Cok (gg X.K C) ["rows", "value"] (defScope s_told_direction) (fun _ => true) X := b.ctx rfl (by decide +kernel)
  have G := gok T
  have z_len := T.z_len
  have w0 : CallOk X "are_numbers" false 2 (spD (gg X.K C) false 2 f_are_numbers) := ⟨_, FD 26, ["value", "many"], 4, T.g26, T.F26.kp, b26 T, b.room.mono (by decide), (fun z => nomatch z), ok_are_numbers T, rfl⟩
  have w1 : CallOk X "ratios_of" false 1 (spD (gg X.K C) false 1 f_ratios_of) := ⟨_, FD 29, ["numbers"], 6, T.g29, T.F29.kp, b29 T, b.room.mono (by decide), (fun z => nomatch z), ok_ratios_of T, rfl⟩
  exact (snd_seq (snd_if (snd_tnot (snd_tval rfl (Cok.callP c0 w0 (by decide +kernel) rfl rfl (snd_cons (Cok.var c0 (by decide +kernel)) (snd_cons (Cok.blt c0 (snd_len c0.hK) (by decide +kernel) z_len (by decide +kernel) rfl (snd_cons (Cok.var c0 (by decide +kernel)) snd_nil (noStar_ne rfl))) snd_nil (noStar_ne rfl)) (noStar_ne rfl))))) (snd_seq snd_no
  snd_end) snd_end)
  (snd_seq (snd_ret (Cok.callP c0 w1 (by decide +kernel) rfl rfl (snd_cons (Cok.var c0 (by decide +kernel)) snd_nil (noStar_ne rfl))))
  snd_end))
theorem ok_total_of (T : Txt K mg A Pp C FD) : FnD P w K mg base false 8 (A 33) (FD 33) ["ratios"] (spD (gg K C) false 1 f_total_of) := by
  refine fnD_of (N := ["ratios", "found", "ratio"]) (FunD.a' T.F33) ⟨rfl, rfl, rfl, by decide +kernel, rfl, by decide +kernel, by decide +kernel⟩ rfl (by decide) fun X b => ?_
  have hp := b.prog; have hw := b.w; have hK := b.K; have hm := b.mg; have hb := b.base; subst hp hw hK hm hb
  have c0 : Cok (gg X.K C) ["ratios", "found", "ratio"] (defScope s_total_of) (fun _ => true) X := b.ctx rfl (by decide +kernel)
  have G := gok T
  have w0 : MkOk (gg X.K C) X 4 "Ratio" 3 [.int 1] f_Ratio___init := by
    obtain ⟨ds, dv, bi⟩ := (FunD.binds1 (ps := ["self", "top", "bottom"]) T.F3 2 0 (by simp) rfl fun _ _ _ _ _ _ _ us its l1 l2 => match us, its, l1, l2 with | [_, _], [_], _, _ => ⟨_, rfl, rfl⟩)
    exact ⟨⟨C 4, A 3, FD 3, ["self", "top", "bottom"], 2, _, ds, rfl, T.mc4, T.mk4, bi, dv, fun _ _ => (.cons (f1 := []) (f2 := []) .int .nil), b.room.mono (by decide), ok_Ratio___init T, rfl⟩⟩
  have w2 : OpCls (gg X.K C) X 4 := ClsK.op T.k4 rfl
  have w3 : MOk (gg X.K C) X 4 "__add__" 2 false f_Ratio___add := ⟨⟨C 4, A 4, FD 4, ["self", "other"], 5, rfl, T.k4.cl, T.me4, b4 T, b.room.mono (by decide), ok_Ratio___add T, rfl⟩, (show ("__add__" : Str) ∉ (["own_top", "own_bottom"] : List Str) by decide +kernel)⟩
  have w4 : MOk (gg X.K C) X 4 "__radd__" 2 false f_Ratio___radd := ⟨⟨C 4, A 5, FD 5, ["self", "other"], 5, rfl, T.k4.cl, T.me5, b5 T, b.room.mono (by decide), ok_Ratio___radd T, rfl⟩, (show ("__radd__" : Str) ∉ (["own_top", "own_bottom"] : List Str) by decide +kernel)⟩
  exact (snd_seq (Cok.asg c0 (by decide +kernel) rfl (by decide) (Cok.make c0 w0 (by decide +kernel) rfl rfl (snd_cons snd_int snd_nil (noStar_ne rfl))))
  (snd_seq (Cok.for' c0 rfl (by decide) (Cok.iseq c0 (Cok.var c0 (by decide +kernel))) (Cok.gnm c0 (by decide +kernel)) (snd_seq (Cok.asg c0 (by decide +kernel) rfl (by decide) (snd_bin (p_oAdd c0 w2 w3 w4) (Cok.var c0 (by decide +kernel)) (Cok.var c0 (by decide +kernel))))
  snd_end))
  (snd_seq (snd_ret (Cok.var c0 (by decide +kernel)))
  snd_end)))
theorem ok_weighed (T : Txt K mg A Pp C FD) : FnD P w K mg base false 9 (A 34) (FD 34) ["weights", "values"] (spD (gg K C) false 2 f_weighed) := by
  refine fnD_of (N := ["weights", "values", "weight", "value"]) (FunD.a' T.F34) ⟨rfl, rfl, rfl, by decide +kernel, rfl, by decide +kernel, by decide +kernel⟩ rfl (by decide) fun X b => ?_
  have hp := b.prog; have hw := b.w; have hK := b.K; have hm := b.mg; have hb := b.base; subst hp hw hK hm hb
  have c0 : Cok (gg X.K C) ["weights", "values", "weight", "value"] (defScope s_weighed) (fun _ => true) X := b.ctx rfl (by decide +kernel)
  have G := gok T
  have z_zip := T.z_zip
  have w1 : OpCls (gg X.K C) X 4 := ClsK.op T.k4 rfl
  have w2 : MOk (gg X.K C) X 4 "__mul__" 2 false f_Ratio___mul := ⟨⟨C 4, A 6, FD 6, ["self", "other"], 5, rfl, T.k4.cl, T.me6, b6 T, b.room.mono (by decide), ok_Ratio___mul T, rfl⟩, (show ("__mul__" : Str) ∉ (["own_top", "own_bottom"] : List Str) by decide +kernel)⟩
  have w3 : MOk (gg X.K C) X 4 "__rmul__" 2 false f_Ratio___rmul := ⟨⟨C 4, A 7, FD 7, ["self", "other"], 5, rfl, T.k4.cl, T.me7, b7 T, b.room.mono (by decide), ok_Ratio___rmul T, rfl⟩, (show ("__rmul__" : Str) ∉ (["own_top", "own_bottom"] : List Str) by decide +kernel)⟩
  have w4 : CallOk X "total_of" false 1 (spD (gg X.K C) false 1 f_total_of) := ⟨_, FD 33, ["ratios"], 8, T.g33, T.F33.kp, b33 T, b.room.mono (by decide), (fun z => nomatch z), ok_total_of T, rfl⟩
  exact (snd_seq (snd_ret (Cok.callP c0 w4 (by decide +kernel) rfl rfl (snd_cons (Cok.lc c0 (own := [("weight", 2), ("value", 3)]) (by decide +kernel) rfl rfl (Cok.izp c0 (by decide +kernel) z_zip rfl (snd_cons (Cok.var c0 (by decide +kernel)) (snd_cons (Cok.var c0 (by decide +kernel)) snd_nil (noStar_ne rfl)) (noStar_ne rfl))) (fun _ _ _ _ _ => (Cok.gtup (c0.blk) (.cons (Cok.gnm (c0.blk) (by decide +kernel)) rfl (.cons (Cok.gnm (c0.blk) (by decide +kernel)) rfl .nil)))) (fun _ _ _ _ _ => (snd_bin (p_oMult (c0.blk) w1.blk w2.blk w3.blk) (Cok.var (c0.blk) (by decide +kernel)) (Cok.var (c0.blk) (by decide +kernel))))) snd_nil (noStar_ne rfl))))
  snd_end)
theorem ok_made_by (T : Txt K mg A Pp C FD) : FnD P w K mg base false 10 (A 35) (FD 35) ["rows", "numbers"] (spD (gg K C) false 2 f_made_by) := by
  refine fnD_of (N := ["rows", "numbers", "row"]) (FunD.a' T.F35) ⟨rfl, rfl, rfl, by decide +kernel, rfl, by decide +kernel, by decide +kernel⟩ rfl (by decide) fun X b => ?_
  have hp := b.prog; have hw := b.w; have hK := b.K; have hm := b.mg; have hb := b.base; subst hp hw hK hm hb
  have c0 : Cok (gg X.K C) ["rows", "numbers", "row"] (defScope s_made_by) (fun _ => true) X := b.ctx rfl (by decide +kernel)
  have G := gok T
  have w0 : CallOk X "weighed" false 2 (spD (gg X.K C) false 2 f_weighed) := ⟨_, FD 34, ["weights", "values"], 9, T.g34, T.F34.kp, b34 T, b.room.mono (by decide), (fun z => nomatch z), ok_weighed T, rfl⟩
  exact (snd_seq (snd_ret (Cok.lc c0 (own := [("row", 2)]) (by decide +kernel) rfl rfl (Cok.iseq c0 (Cok.var c0 (by decide +kernel))) (fun _ _ _ _ _ => (Cok.gnm (c0.blk) (by decide +kernel))) (fun _ _ _ _ _ => (Cok.callP (c0.blk) w0.blk (by decide +kernel) rfl rfl (snd_cons (Cok.var (c0.blk) (by decide +kernel)) (snd_cons (Cok.var (c0.blk) (by decide +kernel)) snd_nil (noStar_ne rfl)) (noStar_ne rfl))))))
  snd_end)
theorem ok_value_in (T : Txt K mg A Pp C FD) : FnD P w K mg base false 11 (A 36) (FD 36) ["rows", "first", "second"] (spD (gg K C) false 3 f_value_in) := by
  refine fnD_of (N := ["rows", "first", "second"]) (FunD.a' T.F36) ⟨rfl, rfl, rfl, by decide +kernel, rfl, by decide +kernel, by decide +kernel⟩ rfl (by decide) fun X b => ?_
  have hp := b.prog; have hw := b.w; have hK := b.K; have hm := b.mg; have hb := b.base; subst hp hw hK hm hb
  have c0 : Cok (gg X.K C) ["rows", "first", "second"] (defScope s_value_in) (fun _ => true) X := b.ctx rfl (by decide +kernel)
  have G := gok T
  have w0 : CallOk X "made_by" false 2 (spD (gg X.K C) false 2 f_made_by) := ⟨_, FD 35, ["rows", "numbers"], 10, T.g35, T.F35.kp, b35 T, b.room.mono (by decide), (fun z => nomatch z), ok_made_by T, rfl⟩
  have w1 : CallOk X "weighed" false 2 (spD (gg X.K C) false 2 f_weighed) := ⟨_, FD 34, ["weights", "values"], 9, T.g34, T.F34.kp, b34 T, b.room.mono (by decide), (fun z => nomatch z), ok_weighed T, rfl⟩
  exact (snd_seq (snd_ret (Cok.callP c0 w1 (by decide +kernel) rfl rfl (snd_cons (Cok.var c0 (by decide +kernel)) (snd_cons (Cok.callP c0 w0 (by decide +kernel) rfl rfl (snd_cons (Cok.var c0 (by decide +kernel)) (snd_cons (Cok.var c0 (by decide +kernel)) snd_nil (noStar_ne rfl)) (noStar_ne rfl))) snd_nil (noStar_ne rfl)) (noStar_ne rfl))))
  snd_end)
theorem ok_value_at (T : Txt K mg A Pp C FD) : FnD P w K mg base false 12 (A 37) (FD 37) ["table", "first", "second"] (spD (gg K C) false 3 f_value_at) := by
  refine fnD_of (N := ["table", "first", "second", "rows", "left"]) (FunD.a' T.F37) ⟨rfl, rfl, rfl, by decide +kernel, rfl, by decide +kernel, by decide +kernel⟩ rfl (by decide) fun X b => ?_
  have hp := b.prog; have hw := b.w; have hK := b.K; have hm := b.mg; have hb := b.base; subst hp hw hK hm hb
  have c0 : Cok (gg X.K C) ["table", "first", "second", "rows", "left"] (defScope s_value_at) (fun _ => true) X := b.ctx rfl (by decide +kernel)
  have G := gok T
  have w0 : CallOk X "told_rows" false 1 (spD (gg X.K C) false 1 f_told_rows) := ⟨_, FD 31, ["table"], 8, T.g31, T.F31.kp, b31 T, b.room.mono (by decide), (fun z => nomatch z), ok_told_rows T, rfl⟩
  have w1 : CallOk X "told_direction" false 2 (spD (gg X.K C) false 2 f_told_direction) := ⟨_, FD 32, ["rows", "value"], 7, T.g32, T.F32.kp, b32 T, b.room.mono (by decide), (fun z => nomatch z), ok_told_direction T, rfl⟩
  have w2 : CallOk X "value_in" false 3 (spD (gg X.K C) false 3 f_value_in) := ⟨_, FD 36, ["rows", "first", "second"], 11, T.g36, T.F36.kp, b36 T, b.room.mono (by decide), (fun z => nomatch z), ok_value_in T, rfl⟩
  exact (snd_seq (Cok.asg c0 (by decide +kernel) rfl (by decide) (Cok.callP c0 w0 (by decide +kernel) rfl rfl (snd_cons (Cok.var c0 (by decide +kernel)) snd_nil (noStar_ne rfl))))
  (snd_seq (Cok.asg c0 (by decide +kernel) rfl (by decide) (Cok.callP c0 w1 (by decide +kernel) rfl rfl (snd_cons (Cok.var c0 (by decide +kernel)) (snd_cons (Cok.var c0 (by decide +kernel)) snd_nil (noStar_ne rfl)) (noStar_ne rfl))))
  (snd_seq (snd_ret (Cok.callP c0 w2 (by decide +kernel) rfl rfl (snd_cons (Cok.var c0 (by decide +kernel)) (snd_cons (Cok.var c0 (by decide +kernel)) (snd_cons (Cok.callP c0 w1 (by decide +kernel) rfl rfl (snd_cons (Cok.var c0 (by decide +kernel)) (snd_cons (Cok.var c0 (by decide +kernel)) snd_nil (noStar_ne rfl)) (noStar_ne rfl))) snd_nil (noStar_ne rfl)) (noStar_ne rfl)) (noStar_ne rfl))))
  snd_end)))
theorem ok_law_bent (T : Txt K mg A Pp C FD) : FnD P w K mg base false 10 (A 38) (FD 38) ["_law_pot_here", "_law_rows"] (spD (gg K C) true 2 f_law_bent) := by
  refine fnD_of (N := ["_law_pot_here", "_law_rows", "_law_found", "_law_way", "_law_row", "_law_i", "_law_j"]) (FunD.a' T.F38) ⟨rfl, rfl, rfl, by decide +kernel, rfl, by decide +kernel, by decide +kernel⟩ rfl (by decide) fun X b => ?_
  have hp := b.prog; have hw := b.w; have hK := b.K; have hm := b.mg; have hb := b.base; subst hp hw hK hm hb
  have c0 : Cok (gg X.K C) ["_law_pot_here", "_law_rows", "_law_found", "_law_way", "_law_row", "_law_i", "_law_j"] (defScope s_law_bent) (fun _ => true) X := b.ctx rfl (by decide +kernel)
  have G := gok T
  have z_list := T.z_list
  have z_len := T.z_len
  have w0 : CallOk X "_law_draw" false 2 (spD (gg X.K C) true 2 f_law_draw) := ⟨_, FD 8, ["_law_pot_here", "_law_size"], 8, T.g8, T.F8.kp, b8 T, b.room.mono (by decide), (fun z => nomatch z), ok_law_draw T, rfl⟩
  have w1 : OpCls (gg X.K C) X 4 := ClsK.op T.k4 rfl
  have w2 : MOk (gg X.K C) X 4 "__eq__" 2 false f_Ratio___eq := ⟨⟨C 4, A 14, FD 14, ["self", "other"], 1, rfl, T.k4.cl, T.me14, b14 T, b.room.mono (by decide), ok_Ratio___eq T, rfl⟩, (show ("__eq__" : Str) ∉ (["own_top", "own_bottom"] : List Str) by decide +kernel)⟩
  have w4 : MOk (gg X.K C) X 4 "__add__" 2 false f_Ratio___add := ⟨⟨C 4, A 4, FD 4, ["self", "other"], 5, rfl, T.k4.cl, T.me4, b4 T, b.room.mono (by decide), ok_Ratio___add T, rfl⟩, (show ("__add__" : Str) ∉ (["own_top", "own_bottom"] : List Str) by decide +kernel)⟩
  have w5 : MOk (gg X.K C) X 4 "__radd__" 2 false f_Ratio___radd := ⟨⟨C 4, A 5, FD 5, ["self", "other"], 5, rfl, T.k4.cl, T.me5, b5 T, b.room.mono (by decide), ok_Ratio___radd T, rfl⟩, (show ("__radd__" : Str) ∉ (["own_top", "own_bottom"] : List Str) by decide +kernel)⟩
  have w6 : MkOk (gg X.K C) X 4 "Ratio" 3 [.int 1] f_Ratio___init := by
    obtain ⟨ds, dv, bi⟩ := (FunD.binds1 (ps := ["self", "top", "bottom"]) T.F3 2 0 (by simp) rfl fun _ _ _ _ _ _ _ us its l1 l2 => match us, its, l1, l2 with | [_, _], [_], _, _ => ⟨_, rfl, rfl⟩)
    exact ⟨⟨C 4, A 3, FD 3, ["self", "top", "bottom"], 2, _, ds, rfl, T.mc4, T.mk4, bi, dv, fun _ _ => (.cons (f1 := []) (f2 := []) .int .nil), b.room.mono (by decide), ok_Ratio___init T, rfl⟩⟩
  have w8 : MOk (gg X.K C) X 4 "__mul__" 2 false f_Ratio___mul := ⟨⟨C 4, A 6, FD 6, ["self", "other"], 5, rfl, T.k4.cl, T.me6, b6 T, b.room.mono (by decide), ok_Ratio___mul T, rfl⟩, (show ("__mul__" : Str) ∉ (["own_top", "own_bottom"] : List Str) by decide +kernel)⟩
  have w9 : MOk (gg X.K C) X 4 "__rmul__" 2 false f_Ratio___rmul := ⟨⟨C 4, A 7, FD 7, ["self", "other"], 5, rfl, T.k4.cl, T.me7, b7 T, b.room.mono (by decide), ok_Ratio___rmul T, rfl⟩, (show ("__rmul__" : Str) ∉ (["own_top", "own_bottom"] : List Str) by decide +kernel)⟩
  have w10 : CallOk X "_law_pick" false 2 (spD (gg X.K C) true 2 f_law_pick) := ⟨_, FD 10, ["_law_pot_here", "_law_some"], 9, T.g10, T.F10.kp, b10 T, b.room.mono (by decide), (fun z => nomatch z), ok_law_pick T, rfl⟩
  have w12 : MOk (gg X.K C) X 4 "__sub__" 2 false f_Ratio___sub := ⟨⟨C 4, A 11, FD 11, ["self", "other"], 5, rfl, T.k4.cl, T.me11, b11 T, b.room.mono (by decide), ok_Ratio___sub T, rfl⟩, (show ("__sub__" : Str) ∉ (["own_top", "own_bottom"] : List Str) by decide +kernel)⟩
  have w13 : MOk (gg X.K C) X 4 "__rsub__" 2 false f_Ratio___rsub := ⟨⟨C 4, A 12, FD 12, ["self", "other"], 5, rfl, T.k4.cl, T.me12, b12 T, b.room.mono (by decide), ok_Ratio___rsub T, rfl⟩, (show ("__rsub__" : Str) ∉ (["own_top", "own_bottom"] : List Str) by decide +kernel)⟩
  exact (snd_seq (Cok.par c0 (by decide +kernel) (by decide +kernel) (by decide) (by decide) (fun env h => by unfold swappedStores Env.blockKind Env.kindOf; rw [h]; rfl) (snd_cons (Cok.lc c0 (own := [("_law_row", 4)]) (by decide +kernel) rfl rfl (Cok.iseq c0 (Cok.var c0 (by decide +kernel))) (fun _ _ _ _ _ => (Cok.gnm (c0.blk) (by decide +kernel))) (fun _ _ _ _ _ => (Cok.bltT (c0.blk) (snd_list (c0.blk).hK) (by decide +kernel) z_list (by decide +kernel) rfl (snd_cons (Cok.var (c0.blk) (by decide +kernel)) snd_nil (noStar_ne rfl))))) (snd_cons (Cok.callR c0 w0 (by decide +kernel) rfl rfl (by decide +kernel) (snd_cons snd_int snd_nil (noStar_ne rfl))) snd_nil (noStar_ne rfl)) (noStar_ne rfl)))
  (snd_seq (Cok.par c0 (by decide +kernel) (by decide +kernel) (by decide) (by decide) (fun env h => by unfold swappedStores Env.blockKind Env.kindOf; rw [h]; rfl) (snd_cons (Cok.callR c0 w0 (by decide +kernel) rfl rfl (by decide +kernel) (snd_cons (Cok.blt c0 (snd_len c0.hK) (by decide +kernel) z_len (by decide +kernel) rfl (snd_cons (Cok.var c0 (by decide +kernel)) snd_nil (noStar_ne rfl))) snd_nil (noStar_ne rfl))) (snd_cons (Cok.callR c0 w0 (by decide +kernel) rfl rfl (by decide +kernel) (snd_cons (Cok.blt c0 (snd_len c0.hK) (by decide +kernel) z_len (by decide +kernel) rfl (snd_cons (Cok.var c0 (by decide +kernel)) snd_nil (noStar_ne rfl))) snd_nil (noStar_ne rfl))) snd_nil (noStar_ne rfl)) (noStar_ne rfl)))
  (snd_seq (snd_if (snd_cmpT (p_oEq c0 w1 w2) rfl (Cok.var c0 (by decide +kernel)) snd_int) (snd_seq (Cok.asgT c0 (snd_bin (p_oAdd c0 w1 w4 w5) (snd_els (Cok.item2 c0 (by decide +kernel) rfl rfl (Cok.nvar c0 (by decide +kernel)) (Cok.nvar c0 (by decide +kernel))) (Cok.ix c0 rfl (Cok.item c0 (by decide +kernel) rfl (Cok.var c0 (by decide +kernel))) (Cok.var c0 (by decide +kernel)))) snd_int) (Cok.gitem2 c0 (by decide +kernel) rfl rfl (Cok.nvar c0 (by decide +kernel)) (Cok.nvar c0 (by decide +kernel))) (by decide) rfl rfl rfl)
  snd_end) (snd_seq (snd_if (snd_cmpT (p_oEq c0 w1 w2) rfl (Cok.var c0 (by decide +kernel)) snd_int) (snd_seq (snd_expr rfl (Cok.pop c0 (by decide +kernel) rfl rfl (Cok.nvar c0 (by decide +kernel))))
  snd_end) (snd_seq (snd_if (snd_cmpT (p_oEq c0 w1 w2) rfl (Cok.var c0 (by decide +kernel)) snd_int) (snd_seq (snd_expr rfl (Cok.app3 c0 (by decide +kernel) rfl rfl rfl (Cok.nvar c0 (by decide +kernel)) (Cok.make c0 w6 (by decide +kernel) rfl rfl (snd_cons snd_int snd_nil (noStar_ne rfl)))))
  snd_end) (snd_seq (snd_if (snd_cmpT (p_oEq c0 w1 w2) rfl (Cok.var c0 (by decide +kernel)) snd_int) (snd_seq (snd_expr rfl (Cok.app c0 (by decide +kernel) rfl rfl (snd_bin (p_oMult c0 w1 w8 w9) (snd_lst (snd_cons (Cok.make c0 w6 (by decide +kernel) rfl rfl (snd_cons snd_int snd_nil (noStar_ne rfl))) snd_nil (noStar_ne rfl))) (Cok.blt c0 (snd_len c0.hK) (by decide +kernel) z_len (by decide +kernel) rfl (snd_cons (Cok.var c0 (by decide +kernel)) snd_nil (noStar_ne rfl))))))
  snd_end) (snd_seq (snd_if (snd_cmpT (p_oEq c0 w1 w2) rfl (Cok.var c0 (by decide +kernel)) snd_int) (snd_seq (Cok.asgT c0 (Cok.callR c0 w10 (by decide +kernel) rfl rfl (by decide +kernel) (snd_cons (snd_lst (snd_cons snd_non (snd_cons snd_bl (snd_cons snd_str (snd_cons (snd_lst (snd_cons snd_int snd_nil (noStar_ne rfl))) (snd_cons snd_bl snd_nil (noStar_ne rfl)) (noStar_ne rfl)) (noStar_ne rfl)) (noStar_ne rfl)) (noStar_ne rfl))) snd_nil (noStar_ne rfl))) (Cok.gitem2 c0 (by decide +kernel) rfl rfl (Cok.nvar c0 (by decide +kernel)) (Cok.nvar c0 (by decide +kernel))) (by decide) rfl rfl rfl)
  snd_end) (snd_seq (snd_if (snd_cmpT (p_oEq c0 w1 w2) rfl (Cok.var c0 (by decide +kernel)) snd_int) (snd_seq (Cok.asgT c0 (Cok.callR c0 w10 (by decide +kernel) rfl rfl (by decide +kernel) (snd_cons (snd_lst (snd_cons snd_non (snd_cons (snd_bin (p_oMult c0 w1 w8 w9) snd_str (Cok.blt c0 (snd_len c0.hK) (by decide +kernel) z_len (by decide +kernel) rfl (snd_cons (Cok.var c0 (by decide +kernel)) snd_nil (noStar_ne rfl)))) (snd_cons snd_int (snd_cons (snd_dic (snd_prI snd_int snd_prnil) (by simp) (by decide) (by decide)) snd_nil (noStar_ne rfl)) (noStar_ne rfl)) (noStar_ne rfl)) (noStar_ne rfl))) snd_nil (noStar_ne rfl))) (Cok.gitem c0 (by decide +kernel) rfl (Cok.var c0 (by decide +kernel))) (by decide) rfl rfl rfl)
  snd_end) (snd_seq (snd_if (snd_cmpT (p_oEq c0 w1 w2) rfl (Cok.var c0 (by decide +kernel)) snd_int) (snd_seq (Cok.asgT c0 (snd_tup (snd_cons (snd_bin (p_oSub c0 w1 w12 w13) (snd_els (Cok.item2 c0 (by decide +kernel) rfl rfl (Cok.nvar c0 (by decide +kernel)) (Cok.nvar c0 (by decide +kernel))) (Cok.ix c0 rfl (Cok.item c0 (by decide +kernel) rfl (Cok.var c0 (by decide +kernel))) (Cok.var c0 (by decide +kernel)))) snd_int) (snd_cons (snd_bin (p_oSub c0 w1 w12 w13) (snd_els (Cok.item2 c0 (by decide +kernel) rfl rfl (Cok.nvar c0 (by decide +kernel)) (Cok.nvar c0 (by decide +kernel))) (Cok.ix c0 rfl (Cok.item c0 (by decide +kernel) rfl (Cok.var c0 (by decide +kernel))) (Cok.var c0 (by decide +kernel)))) snd_int) snd_nil (noStar_ne rfl)) (noStar_ne rfl))) (Cok.gtup c0 (.cons (Cok.gitem2 c0 (by decide +kernel) rfl rfl (Cok.nvar c0 (by decide +kernel)) (Cok.nvar c0 (by decide +kernel))) rfl (.cons (Cok.gitem2 c0 (by decide +kernel) rfl rfl (Cok.nvar c0 (by decide +kernel)) (Cok.nvar c0 (by decide +kernel))) rfl .nil))) (by decide) rfl (by unfold swappedStores Env.blockKind Env.kindOf; rw [c0.hs]; rfl) rfl)
  snd_end) snd_end)
  snd_end))
  snd_end))
  snd_end))
  snd_end))
  snd_end))
  snd_end))
  (snd_seq (snd_ret (Cok.var c0 (by decide +kernel)))
  snd_end))))
theorem ok_law_is_number (T : Txt K mg A Pp C FD) : FnD P w K mg base false 1 (A 39) (FD 39) ["_law_value"] (spD (gg K C) false 1 f_law_is_number) := by
  refine fnD_of (N := ["_law_value"]) (FunD.a' T.F39) ⟨rfl, rfl, rfl, by decide +kernel, rfl, by decide +kernel, by decide +kernel⟩ rfl (by decide) fun X b => ?_
  have hp := b.prog; have hw := b.w; have hK := b.K; have hm := b.mg; have hb := b.base; subst hp hw hK hm hb
  have c0 : Cok (gg X.K C) ["_law_value"] (defScope s_law_is_number) (fun _ => true) X := b.ctx rfl (by decide +kernel)
  have G := gok T
  have z_isinstance := T.z_isinstance
  have z_int := T.z_int
  have z_bool := T.z_bool
  have w0 := T.mc4
  have w1 : (gg X.K C).cls 4 = some (C 4) := rfl
  exact (snd_seq (snd_ret (snd_vor (Cok.blt c0 (snd_isi G c0.hK) (by decide +kernel) z_isinstance (by decide +kernel) rfl (snd_cons (Cok.var c0 (by decide +kernel)) (snd_cons (Cok.gcls c0 (by decide +kernel) w0 w1) snd_nil (noStar_ne rfl)) (noStar_ne rfl))) (snd_vone (snd_vand (Cok.blt c0 (snd_isi G c0.hK) (by decide +kernel) z_isinstance (by decide +kernel) rfl (snd_cons (Cok.var c0 (by decide +kernel)) (snd_cons (Cok.ty c0 (by decide +kernel) z_int (by decide +kernel)) snd_nil (noStar_ne rfl)) (noStar_ne rfl))) (snd_vone (snd_vnot (Cok.blt c0 (snd_isi G c0.hK) (by decide +kernel) z_isinstance (by decide +kernel) rfl (snd_cons (Cok.var c0 (by decide +kernel)) (snd_cons (Cok.ty c0 (by decide +kernel) z_bool (by decide +kernel)) snd_nil (noStar_ne rfl)) (noStar_ne rfl)))))))))
  snd_end)
theorem ok_law_looks (T : Txt K mg A Pp C FD) : FnD P w K mg base false 8 (A 40) (FD 40) ["_law_value"] (spD (gg K C) false 1 f_law_looks) := by
  refine fnD_of (N := ["_law_value", "_law_row", "_law_one", "_law_i", "_law_j"]) (FunD.a' T.F40) ⟨rfl, rfl, rfl, by decide +kernel, rfl, by decide +kernel, by decide +kernel⟩ rfl (by decide) fun X b => ?_
  have hp := b.prog; have hw := b.w; have hK := b.K; have hm := b.mg; have hb := b.base; subst hp hw hK hm hb
  have c0 : Cok (gg X.K C) ["_law_value", "_law_row", "_law_one", "_law_i", "_law_j"] (defScope s_law_looks) (fun _ => true) X := b.ctx rfl (by decide +kernel)
  have G := gok T
  have z_isinstance := T.z_isinstance
  have z_tuple := T.z_tuple
  have z_list := T.z_list
  have z_len := T.z_len
  have z_range := T.z_range
  have z_all := T.z_all
  have w0 : OpCls (gg X.K C) X 4 := ClsK.op T.k4 rfl
  have w1 : MOk (gg X.K C) X 4 "__eq__" 2 false f_Ratio___eq := ⟨⟨C 4, A 14, FD 14, ["self", "other"], 1, rfl, T.k4.cl, T.me14, b14 T, b.room.mono (by decide), ok_Ratio___eq T, rfl⟩, (show ("__eq__" : Str) ∉ (["own_top", "own_bottom"] : List Str) by decide +kernel)⟩
  have w2 : CallOk X "_law_is_number" false 1 (spD (gg X.K C) false 1 f_law_is_number) := ⟨_, FD 39, ["_law_value"], 1, T.g39, T.F39.kp, b39 T, b.room.mono (by decide), (fun z => nomatch z), ok_law_is_number T, rfl⟩
  have w4 : MOk (gg X.K C) X 4 "__add__" 2 false f_Ratio___add := ⟨⟨C 4, A 4, FD 4, ["self", "other"], 5, rfl, T.k4.cl, T.me4, b4 T, b.room.mono (by decide), ok_Ratio___add T, rfl⟩, (show ("__add__" : Str) ∉ (["own_top", "own_bottom"] : List Str) by decide +kernel)⟩
  have w5 : MOk (gg X.K C) X 4 "__radd__" 2 false f_Ratio___radd := ⟨⟨C 4, A 5, FD 5, ["self", "other"], 5, rfl, T.k4.cl, T.me5, b5 T, b.room.mono (by decide), ok_Ratio___radd T, rfl⟩, (show ("__radd__" : Str) ∉ (["own_top", "own_bottom"] : List Str) by decide +kernel)⟩
  have w6 : MkOk (gg X.K C) X 4 "Ratio" 3 [.int 1] f_Ratio___init := by
    obtain ⟨ds, dv, bi⟩ := (FunD.binds1 (ps := ["self", "top", "bottom"]) T.F3 2 0 (by simp) rfl fun _ _ _ _ _ _ _ us its l1 l2 => match us, its, l1, l2 with | [_, _], [_], _, _ => ⟨_, rfl, rfl⟩)
    exact ⟨⟨C 4, A 3, FD 3, ["self", "top", "bottom"], 2, _, ds, rfl, T.mc4, T.mk4, bi, dv, fun _ _ => (.cons (f1 := []) (f2 := []) .int .nil), b.room.mono (by decide), ok_Ratio___init T, rfl⟩⟩
  exact (snd_seq (snd_if (SndW.t (snd_orc (snd_tnot (snd_tval rfl (Cok.blt c0 (snd_isi G c0.hK) (by decide +kernel) z_isinstance (by decide +kernel) rfl (snd_cons (Cok.var c0 (by decide +kernel)) (snd_cons (snd_tup (snd_cons (Cok.ty c0 (by decide +kernel) z_list (by decide +kernel)) (snd_cons (Cok.ty c0 (by decide +kernel) z_tuple (by decide +kernel)) snd_nil (noStar_ne rfl)) (noStar_ne rfl))) snd_nil (noStar_ne rfl)) (noStar_ne rfl))))) (snd_or1 (snd_tnot (snd_chainT (snd_le) (snd_le) rfl snd_int (Cok.blt c0 (snd_len c0.hK) (by decide +kernel) z_len (by decide +kernel) rfl (snd_cons (Cok.var c0 (by decide +kernel)) snd_nil (noStar_ne rfl))) snd_int))))) (snd_seq (snd_ret snd_bl)
  snd_end) snd_end)
  (snd_seq (Cok.for' c0 rfl (by decide) (Cok.iseq c0 (Cok.var c0 (by decide +kernel))) (Cok.gnm c0 (by decide +kernel)) (snd_seq (snd_if (SndW.t (snd_orc (snd_tnot (snd_tval rfl (Cok.blt c0 (snd_isi G c0.hK) (by decide +kernel) z_isinstance (by decide +kernel) rfl (snd_cons (Cok.var c0 (by decide +kernel)) (snd_cons (snd_tup (snd_cons (Cok.ty c0 (by decide +kernel) z_list (by decide +kernel)) (snd_cons (Cok.ty c0 (by decide +kernel) z_tuple (by decide +kernel)) snd_nil (noStar_ne rfl)) (noStar_ne rfl))) snd_nil (noStar_ne rfl)) (noStar_ne rfl))))) (snd_orc (snd_cmpT (p_oNotEq c0 w0 w1) rfl (Cok.blt c0 (snd_len c0.hK) (by decide +kernel) z_len (by decide +kernel) rfl (snd_cons (Cok.var c0 (by decide +kernel)) snd_nil (noStar_ne rfl))) (Cok.blt c0 (snd_len c0.hK) (by decide +kernel) z_len (by decide +kernel) rfl (snd_cons (Cok.var c0 (by decide +kernel)) snd_nil (noStar_ne rfl)))) (snd_or1 (snd_cmpT (p_oNotEq c0 w0 w1) rfl (Cok.lcIf c0 (own := [("_law_one", 2)]) (by decide +kernel) rfl rfl (Cok.iseq c0 (Cok.var c0 (by decide +kernel))) (fun _ _ _ _ _ => (Cok.gnm (c0.blk) (by decide +kernel))) (fun _ _ _ _ _ => (snd_tnot (snd_tval rfl (Cok.callP (c0.blk) w2.blk (by decide +kernel) rfl rfl (snd_cons (Cok.var (c0.blk) (by decide +kernel)) snd_nil (noStar_ne rfl)))))) (fun _ _ _ _ _ => (Cok.var (c0.blk) (by decide +kernel)))) (snd_lst snd_nil)))))) (snd_seq (snd_ret snd_bl)
  snd_end) snd_end)
  snd_end))
  (snd_seq (Cok.for' c0 rfl (by decide) (Cok.irng1 c0 (by decide +kernel) z_range rfl (snd_cons (Cok.blt c0 (snd_len c0.hK) (by decide +kernel) z_len (by decide +kernel) rfl (snd_cons (Cok.var c0 (by decide +kernel)) snd_nil (noStar_ne rfl))) snd_nil (noStar_ne rfl))) (Cok.gnm c0 (by decide +kernel)) (snd_seq (snd_if (snd_tnot (snd_tval rfl (Cok.blt c0 (snd_all c0.calm) (by decide +kernel) z_all (by decide +kernel) rfl (snd_cons (Cok.lc c0 (own := [("_law_j", 4)]) (by decide +kernel) rfl rfl (Cok.irng1 c0 (by decide +kernel) z_range rfl (snd_cons (Cok.var c0 (by decide +kernel)) snd_nil (noStar_ne rfl))) (fun _ _ _ _ _ => (Cok.gnm (c0.blk) (by decide +kernel))) (fun _ _ _ _ _ => (snd_cmp (p_oEq (c0.blk) w0.blk w1.blk) rfl (snd_bin (p_oAdd (c0.blk) w0.blk w4.blk w5.blk) (Cok.make (c0.blk) w6.blk (by decide +kernel) rfl rfl (snd_cons snd_int snd_nil (noStar_ne rfl))) (Cok.ix (c0.blk) rfl (Cok.item (c0.blk) (by decide +kernel) rfl (Cok.var (c0.blk) (by decide +kernel))) (Cok.var (c0.blk) (by decide +kernel)))) (snd_bin (p_oAdd (c0.blk) w0.blk w4.blk w5.blk) (Cok.make (c0.blk) w6.blk (by decide +kernel) rfl rfl (snd_cons snd_int snd_nil (noStar_ne rfl))) (Cok.ix (c0.blk) rfl (Cok.item (c0.blk) (by decide +kernel) rfl (Cok.var (c0.blk) (by decide +kernel))) (Cok.var (c0.blk) (by decide +kernel))))))) snd_nil (noStar_ne rfl))))) (snd_seq (snd_ret snd_bl)
  snd_end) snd_end)
  snd_end))
  (snd_seq (snd_ret snd_bl)
  snd_end))))
theorem ok_law_right (T : Txt K mg A Pp C FD) : FnD P w K mg base true 17 (A 41) (FD 41) ["_law_pot_here"] (spD (gg K C) true 1 f_law_right) := by
  refine fnD_of (N := ["_law_pot_here", "_law_size", "_law_rows", "_law_given_here", "_law_first", "_law_second", "_law_third", "_law_left", "_law_right_here", "_law_stay", "_law_due", "_law_both", "_law_one", "_law_other", "_law_turn", "_law_value"]) (FunD.a' T.F41) ⟨rfl, rfl, rfl, by decide +kernel, rfl, by decide +kernel, by decide +kernel⟩ rfl (by decide) fun X b => ?_
  have hp := b.prog; have hw := b.w; have hK := b.K; have hm := b.mg; have hb := b.base; subst hp hw hK hm hb
  have c0 : Cok (gg X.K C) ["_law_pot_here", "_law_size", "_law_rows", "_law_given_here", "_law_first", "_law_second", "_law_third", "_law_left", "_law_right_here", "_law_stay", "_law_due", "_law_both", "_law_one", "_law_other", "_law_turn", "_law_value"] (defScope s_law_right) (fun _ => true) X := b.ctx rfl (by decide +kernel)
  have G := gok T
  have gu := b.gd rfl
  have z_repr := T.z_repr
  have z_tuple := T.z_tuple
  have z_zip := T.z_zip
  have z_range := T.z_range
  have w1 : OpCls (gg X.K C) X 4 := ClsK.op T.k4 rfl
  have w2 : MOk (gg X.K C) X 4 "__add__" 2 false f_Ratio___add := ⟨⟨C 4, A 4, FD 4, ["self", "other"], 5, rfl, T.k4.cl, T.me4, b4 T, b.room.mono (by decide), ok_Ratio___add T, rfl⟩, (show ("__add__" : Str) ∉ (["own_top", "own_bottom"] : List Str) by decide +kernel)⟩
  have w3 : MOk (gg X.K C) X 4 "__radd__" 2 false f_Ratio___radd := ⟨⟨C 4, A 5, FD 5, ["self", "other"], 5, rfl, T.k4.cl, T.me5, b5 T, b.room.mono (by decide), ok_Ratio___radd T, rfl⟩, (show ("__radd__" : Str) ∉ (["own_top", "own_bottom"] : List Str) by decide +kernel)⟩
  have w4 : CallOk X "_law_draw" false 2 (spD (gg X.K C) true 2 f_law_draw) := ⟨_, FD 8, ["_law_pot_here", "_law_size"], 8, T.g8, T.F8.kp, b8 T, b.room.mono (by decide), (fun z => nomatch z), ok_law_draw T, rfl⟩
  have w5 : CallOk X "_law_table" false 2 (spD (gg X.K C) true 2 f_law_table) := ⟨_, FD 15, ["_law_pot_here", "_law_size"], 11, T.g15, T.F15.kp, b15 T, b.room.mono (by decide), (fun z => nomatch z), ok_law_table T, rfl⟩
  have w6 : CallOk X "_law_list" false 2 (spD (gg X.K C) true 2 f_law_list) := ⟨_, FD 16, ["_law_pot_here", "_law_size"], 11, T.g16, T.F16.kp, b16 T, b.room.mono (by decide), (fun z => nomatch z), ok_law_list T, rfl⟩
  have w7 : CallOk X "_law_given" false 2 (spD (gg X.K C) true 2 f_law_given) := ⟨_, FD 20, ["_law_pot_here", "_law_rows"], 10, T.g20, T.F20.kp, b20 T, b.room.mono (by decide), (fun z => nomatch z), ok_law_given T, rfl⟩
  have w8 : CallOk X "_law_handed" false 2 (spD (gg X.K C) true 2 f_law_handed) := ⟨_, FD 19, ["_law_pot_here", "_law_numbers"], 9, T.g19, T.F19.kp, b19 T, b.room.mono (by decide), (fun z => nomatch z), ok_law_handed T, rfl⟩
  have w9 : CallOk X "_law_sum" false 3 (spD (gg X.K C) false 3 f_law_sum) := ⟨_, FD 21, ["_law_rows", "_law_first", "_law_second"], 8, T.g21, T.F21.kp, b21 T, b.room.mono (by decide), (fun z => nomatch z), ok_law_sum T, rfl⟩
  have w10 : RpOk (gg X.K C) X 4 f_Ratio___repr := ⟨C 4, A 23, FD 23, ["self"], 2, rfl, T.me23, b23 T, b.room.mono (by decide), ok_Ratio___repr T⟩
  have w11 : CallOk X "is_table" false 1 (spD (gg X.K C) false 1 f_is_table) := ⟨_, FD 30, ["value"], 7, T.g30, T.F30.kp, b30 T, b.room.mono (by decide), (fun z => nomatch z), ok_is_table T, rfl⟩
  have w12 : MOk (gg X.K C) X 4 "__eq__" 2 false f_Ratio___eq := ⟨⟨C 4, A 14, FD 14, ["self", "other"], 1, rfl, T.k4.cl, T.me14, b14 T, b.room.mono (by decide), ok_Ratio___eq T, rfl⟩, (show ("__eq__" : Str) ∉ (["own_top", "own_bottom"] : List Str) by decide +kernel)⟩
  have w13 : CallOk X "value_at" false 3 (spD (gg X.K C) false 3 f_value_at) := ⟨_, FD 37, ["table", "first", "second"], 12, T.g37, T.F37.kp, b37 T, b.room.mono (by decide), (fun z => nomatch z), ok_value_at T, rfl⟩
  have w14 : CallPOk X "value_at" false 0 ["second", "first", "table"] [2, 1, 0] (spD (gg X.K C) false 3 f_value_at) := ⟨_, FD 37, ["table", "first", "second"], 12, T.g37, T.F37.kp, (KwP.of T.F37 fun _ _ _ _ _ _ us ws l1 l2 => match us, ws, l1, l2 with | [], [_, _, _], _, _ => rfl), b.room.mono (by decide), (fun z => nomatch z), ok_value_at T⟩
  have w16 : MOk (gg X.K C) X 4 "__mul__" 2 false f_Ratio___mul := ⟨⟨C 4, A 6, FD 6, ["self", "other"], 5, rfl, T.k4.cl, T.me6, b6 T, b.room.mono (by decide), ok_Ratio___mul T, rfl⟩, (show ("__mul__" : Str) ∉ (["own_top", "own_bottom"] : List Str) by decide +kernel)⟩
  have w17 : MOk (gg X.K C) X 4 "__rmul__" 2 false f_Ratio___rmul := ⟨⟨C 4, A 7, FD 7, ["self", "other"], 5, rfl, T.k4.cl, T.me7, b7 T, b.room.mono (by decide), ok_Ratio___rmul T, rfl⟩, (show ("__rmul__" : Str) ∉ (["own_top", "own_bottom"] : List Str) by decide +kernel)⟩
  have w19 : MOk (gg X.K C) X 4 "__sub__" 2 false f_Ratio___sub := ⟨⟨C 4, A 11, FD 11, ["self", "other"], 5, rfl, T.k4.cl, T.me11, b11 T, b.room.mono (by decide), ok_Ratio___sub T, rfl⟩, (show ("__sub__" : Str) ∉ (["own_top", "own_bottom"] : List Str) by decide +kernel)⟩
  have w20 : MOk (gg X.K C) X 4 "__rsub__" 2 false f_Ratio___rsub := ⟨⟨C 4, A 12, FD 12, ["self", "other"], 5, rfl, T.k4.cl, T.me12, b12 T, b.room.mono (by decide), ok_Ratio___rsub T, rfl⟩, (show ("__rsub__" : Str) ∉ (["own_top", "own_bottom"] : List Str) by decide +kernel)⟩
  have w21 : MkOk (gg X.K C) X 4 "Ratio" 3 [.int 1] f_Ratio___init := by
    obtain ⟨ds, dv, bi⟩ := (FunD.binds1 (ps := ["self", "top", "bottom"]) T.F3 2 0 (by simp) rfl fun _ _ _ _ _ _ _ us its l1 l2 => match us, its, l1, l2 with | [_, _], [_], _, _ => ⟨_, rfl, rfl⟩)
    exact ⟨⟨C 4, A 3, FD 3, ["self", "top", "bottom"], 2, _, ds, rfl, T.mc4, T.mk4, bi, dv, fun _ _ => (.cons (f1 := []) (f2 := []) .int .nil), b.room.mono (by decide), ok_Ratio___init T, rfl⟩⟩
  have w22 : CallOk X "_law_bent" false 2 (spD (gg X.K C) true 2 f_law_bent) := ⟨_, FD 38, ["_law_pot_here", "_law_rows"], 10, T.g38, T.F38.kp, b38 T, b.room.mono (by decide), (fun z => nomatch z), ok_law_bent T, rfl⟩
  have w23 : CallKOk X "is_table" false 0 ["value"] (spD (gg X.K C) false 1 f_is_table) := ⟨_, FD 30, ["value"], 7, T.g30, T.F30.kp, (FunD.kwN T.F30 fun _ _ _ _ _ _ us ws l1 l2 => match us, ws, l1, l2 with | [], [_], _, _ => rfl), b.room.mono (by decide), (fun z => nomatch z), ok_is_table T⟩
  have w24 : CallOk X "_law_looks" false 1 (spD (gg X.K C) false 1 f_law_looks) := ⟨_, FD 40, ["_law_value"], 8, T.g40, T.F40.kp, b40 T, b.room.mono (by decide), (fun z => nomatch z), ok_law_looks T, rfl⟩
  have q0 : SndS (gg X.K C) true X ((defBody s_law_right).getD 0 (.Pass ⟨0, 0, 0, 0⟩)) (sAsg 1 (dBin oAdd (dCst (.int 1)) (dCallR f_law_draw 0 (dCons (dCst (.int 5)) dNil)))) := (Cok.asg c0 (by decide +kernel) rfl (by decide) (snd_bin (p_oAdd c0 w1 w2 w3) snd_int (Cok.callR c0 w4 (by decide +kernel) rfl rfl (by decide +kernel) (snd_cons snd_int snd_nil (noStar_ne rfl)))))
  have q1 : SndS (gg X.K C) true X ((defBody s_law_right).getD 1 (.Pass ⟨0, 0, 0, 0⟩)) (sAsg 2 (dCallR f_law_table 0 (dCons (dVar 1) dNil))) := (Cok.asg c0 (by decide +kernel) rfl (by decide) (Cok.callR c0 w5 (by decide +kernel) rfl rfl (by decide +kernel) (snd_cons (Cok.var c0 (by decide +kernel)) snd_nil (noStar_ne rfl))))
  have q2 : SndS (gg X.K C) true X ((defBody s_law_right).getD 2 (.Pass ⟨0, 0, 0, 0⟩)) (sAsgG (dTup (dCons (dCallR f_law_given 0 (dCons (dVar 2) dNil)) (dCons (dCallR f_law_list 0 (dCons (dVar 1) dNil)) (dCons (dCallR f_law_list 0 (dCons (dVar 1) dNil)) (dCons (dCallR f_law_list 0 (dCons (dVar 1) dNil)) dNil))))) (gTup [(gNm 3), (gNm 4), (gNm 5), (gNm 6)])) := (Cok.asgT c0 (snd_tup (snd_cons (Cok.callR c0 w7 (by decide +kernel) rfl rfl (by decide +kernel) (snd_cons (Cok.var c0 (by decide +kernel)) snd_nil (noStar_ne rfl))) (snd_cons (Cok.callR c0 w6 (by decide +kernel) rfl rfl (by decide +kernel) (snd_cons (Cok.var c0 (by decide +kernel)) snd_nil (noStar_ne rfl))) (snd_cons (Cok.callR c0 w6 (by decide +kernel) rfl rfl (by decide +kernel) (snd_cons (Cok.var c0 (by decide +kernel)) snd_nil (noStar_ne rfl))) (snd_cons (Cok.callR c0 w6 (by decide +kernel) rfl rfl (by decide +kernel) (snd_cons (Cok.var c0 (by decide +kernel)) snd_nil (noStar_ne rfl))) snd_nil (noStar_ne rfl)) (noStar_ne rfl)) (noStar_ne rfl)) (noStar_ne rfl))) (Cok.gtup c0 (.cons (Cok.gnm c0 (by decide +kernel)) rfl (.cons (Cok.gnm c0 (by decide +kernel)) rfl (.cons (Cok.gnm c0 (by decide +kernel)) rfl (.cons (Cok.gnm c0 (by decide +kernel)) rfl .nil))))) (by decide) rfl (by unfold swappedStores Env.blockKind Env.kindOf; rw [c0.hs]; rfl) rfl)
  have q3 : SndS (gg X.K C) true X ((defBody s_law_right).getD 3 (.Pass ⟨0, 0, 0, 0⟩)) (sPar 7 8 (dCons (dCallR f_law_handed 0 (dCons (dVar 4) dNil)) (dCons (dCallR f_law_handed 0 (dCons (dVar 5) dNil)) dNil))) := (Cok.par c0 (by decide +kernel) (by decide +kernel) (by decide) (by decide) (fun env h => by unfold swappedStores Env.blockKind Env.kindOf; rw [h]; rfl) (snd_cons (Cok.callR c0 w8 (by decide +kernel) rfl rfl (by decide +kernel) (snd_cons (Cok.var c0 (by decide +kernel)) snd_nil (noStar_ne rfl))) (snd_cons (Cok.callR c0 w8 (by decide +kernel) rfl rfl (by decide +kernel) (snd_cons (Cok.var c0 (by decide +kernel)) snd_nil (noStar_ne rfl))) snd_nil (noStar_ne rfl)) (noStar_ne rfl)))
  have q4 : SndS (gg X.K C) true X ((defBody s_law_right).getD 4 (.Pass ⟨0, 0, 0, 0⟩)) (sPar 9 10 (dCons (dBlt orepr (dCons (dLst (dCons (dVar 3) (dCons (dVar 7) (dCons (dVar 8) dNil)))) dNil)) (dCons (dCallP f_law_sum (dCons (dVar 2) (dCons (dVar 4) (dCons (dVar 5) dNil)))) dNil))) := (Cok.par c0 (by decide +kernel) (by decide +kernel) (by decide) (by decide) (fun env h => by unfold swappedStores Env.blockKind Env.kindOf; rw [h]; rfl) (snd_cons (Cok.blt c0 (snd_reprS c0.hK gu w10) (by decide +kernel) z_repr (by decide +kernel) rfl (snd_cons (snd_lst (snd_cons (Cok.var c0 (by decide +kernel)) (snd_cons (Cok.var c0 (by decide +kernel)) (snd_cons (Cok.var c0 (by decide +kernel)) snd_nil (noStar_ne rfl)) (noStar_ne rfl)) (noStar_ne rfl))) snd_nil (noStar_ne rfl))) (snd_cons (Cok.callP c0 w9 (by decide +kernel) rfl rfl (snd_cons (Cok.var c0 (by decide +kernel)) (snd_cons (Cok.var c0 (by decide +kernel)) (snd_cons (Cok.var c0 (by decide +kernel)) snd_nil (noStar_ne rfl)) (noStar_ne rfl)) (noStar_ne rfl))) snd_nil (noStar_ne rfl)) (noStar_ne rfl)))
  have q5 : SndS (gg X.K C) true X ((defBody s_law_right).getD 5 (.Pass ⟨0, 0, 0, 0⟩)) (sIf (tOrD (tOf (dBin (isNonB true) (dCallP f_is_table (dCons (dVar 3) dNil)) (dCst (.bl true)))) (tOf (dBin oNotEq (dBlt orepr (dCons (dCallP f_value_at (dCons (dVar 3) (dCons (dVar 7) (dCons (dVar 8) dNil)))) dNil)) (dBlt orepr (dCons (dVar 10) dNil))))) (sSeq (sRet (dCst (.bl false)))
  sEnd) sEnd) := (snd_if (SndW.t (snd_orc (snd_cmpT (snd_notN) rfl (Cok.callP c0 w11 (by decide +kernel) rfl rfl (snd_cons (Cok.var c0 (by decide +kernel)) snd_nil (noStar_ne rfl))) snd_bl) (snd_or1 (snd_cmpT (p_oNotEq c0 w1 w12) rfl (Cok.blt c0 (snd_reprS c0.hK gu w10) (by decide +kernel) z_repr (by decide +kernel) rfl (snd_cons (Cok.callP c0 w13 (by decide +kernel) rfl rfl (snd_cons (Cok.var c0 (by decide +kernel)) (snd_cons (Cok.var c0 (by decide +kernel)) (snd_cons (Cok.var c0 (by decide +kernel)) snd_nil (noStar_ne rfl)) (noStar_ne rfl)) (noStar_ne rfl))) snd_nil (noStar_ne rfl))) (Cok.blt c0 (snd_reprS c0.hK gu w10) (by decide +kernel) z_repr (by decide +kernel) rfl (snd_cons (Cok.var c0 (by decide +kernel)) snd_nil (noStar_ne rfl))))))) (snd_seq (snd_ret snd_bl)
  snd_end) snd_end)
  have q6 : SndS (gg X.K C) true X ((defBody s_law_right).getD 6 (.Pass ⟨0, 0, 0, 0⟩)) (sIf (tOf (dBin oNotEq (dBlt orepr (dCons (dLst (dCons (dCallP (permF [2, 1, 0] f_value_at) (dCons (dVar 7) (dCons (dVar 8) (dCons (dVar 3) dNil)))) (dCons (dCallP f_value_at (dCons (dVar 2) (dCons (dBlt tupleB (dCons (dVar 4) dNil)) (dCons (dVar 5) dNil)))) dNil))) dNil)) (dBlt orepr (dCons (dBin oMult (dLst (dCons (dVar 10) dNil)) (dCst (.int 2))) dNil)))) (sSeq (sRet (dCst (.bl false)))
  sEnd) sEnd) := (snd_if (snd_cmpT (p_oNotEq c0 w1 w12) rfl (Cok.blt c0 (snd_reprS c0.hK gu w10) (by decide +kernel) z_repr (by decide +kernel) rfl (snd_cons (snd_lst (snd_cons (Cok.callKp c0 w14 (by decide +kernel) rfl rfl ⟨rfl, rfl, rfl, rfl⟩ (snd_a0 (snd_kcons (Cok.var c0 (by decide +kernel)) (snd_kcons (Cok.var c0 (by decide +kernel)) (snd_kcons (Cok.var c0 (by decide +kernel)) snd_knil))))) (snd_cons (Cok.callP c0 w13 (by decide +kernel) rfl rfl (snd_cons (Cok.var c0 (by decide +kernel)) (snd_cons (Cok.bltT c0 (snd_tuple c0.hK) (by decide +kernel) z_tuple (by decide +kernel) rfl (snd_cons (Cok.var c0 (by decide +kernel)) snd_nil (noStar_ne rfl))) (snd_cons (Cok.var c0 (by decide +kernel)) snd_nil (noStar_ne rfl)) (noStar_ne rfl)) (noStar_ne rfl))) snd_nil (noStar_ne rfl)) (noStar_ne rfl))) snd_nil (noStar_ne rfl))) (Cok.blt c0 (snd_reprS c0.hK gu w10) (by decide +kernel) z_repr (by decide +kernel) rfl (snd_cons (snd_bin (p_oMult c0 w1 w16 w17) (snd_lst (snd_cons (Cok.var c0 (by decide +kernel)) snd_nil (noStar_ne rfl))) snd_int) snd_nil (noStar_ne rfl)))) (snd_seq (snd_ret snd_bl)
  snd_end) snd_end)
  have q7 : SndS (gg X.K C) true X ((defBody s_law_right).getD 7 (.Pass ⟨0, 0, 0, 0⟩)) (sAsg 11 (dComp [12, 13] (iZp (dCons (dVar 4) (dCons (dVar 6) dNil))) (gTup [(gNm 12), (gNm 13)]) tYesD (dBin oSub (dBin oMult (dVar 12) (dCst (.int 2))) (dVar 13)))) := (Cok.asgL c0 (i := 11) (by decide +kernel) (by decide) (own := [("_law_one", 12), ("_law_other", 13)]) (by decide +kernel) rfl rfl (Cok.izp c0 (by decide +kernel) z_zip rfl (snd_cons (Cok.var c0 (by decide +kernel)) (snd_cons (Cok.var c0 (by decide +kernel)) snd_nil (noStar_ne rfl)) (noStar_ne rfl))) (fun _ _ _ _ _ => (Cok.gtup (c0.blk) (.cons (Cok.gnm (c0.blk) (by decide +kernel)) rfl (.cons (Cok.gnm (c0.blk) (by decide +kernel)) rfl .nil)))) (fun _ _ _ _ _ => (snd_bin (p_oSub (c0.blk) w1.blk w19.blk w20.blk) (snd_bin (p_oMult (c0.blk) w1.blk w16.blk w17.blk) (Cok.var (c0.blk) (by decide +kernel)) snd_int) (Cok.var (c0.blk) (by decide +kernel)))))
  have q8 : SndS (gg X.K C) true X ((defBody s_law_right).getD 8 (.Pass ⟨0, 0, 0, 0⟩)) (sIf (tOf (dBin oNotEq (dCallP f_value_at (dCons (dVar 3) (dCons (dVar 11) (dCons (dVar 5) dNil)))) (dBin oSub (dBin oMult (dVar 10) (dCst (.int 2))) (dCallP f_value_at (dCons (dVar 3) (dCons (dVar 6) (dCons (dVar 5) dNil))))))) (sSeq (sRet (dCst (.bl false)))
  sEnd) sEnd) := (snd_if (snd_cmpT (p_oNotEq c0 w1 w12) rfl (Cok.callP c0 w13 (by decide +kernel) rfl rfl (snd_cons (Cok.var c0 (by decide +kernel)) (snd_cons (Cok.var c0 (by decide +kernel)) (snd_cons (Cok.var c0 (by decide +kernel)) snd_nil (noStar_ne rfl)) (noStar_ne rfl)) (noStar_ne rfl))) (snd_bin (p_oSub c0 w1 w19 w20) (snd_bin (p_oMult c0 w1 w16 w17) (Cok.var c0 (by decide +kernel)) snd_int) (Cok.callP c0 w13 (by decide +kernel) rfl rfl (snd_cons (Cok.var c0 (by decide +kernel)) (snd_cons (Cok.var c0 (by decide +kernel)) (snd_cons (Cok.var c0 (by decide +kernel)) snd_nil (noStar_ne rfl)) (noStar_ne rfl)) (noStar_ne rfl))))) (snd_seq (snd_ret snd_bl)
  snd_end) snd_end)
  have q9 : SndS (gg X.K C) true X ((defBody s_law_right).getD 9 (.Pass ⟨0, 0, 0, 0⟩)) (sIf (tOrD (tOf (dBin oNotEq (dCallP f_value_at (dCons (dVar 3) (dCons (dBin oMult (dLst (dCons (dCst (.int 0)) dNil)) (dVar 1)) (dCons (dVar 8) dNil)))) (dMake 4 [.int 1] f_Ratio___init (dCons (dCst (.int 0)) dNil)))) (tOf (dBin oNotEq (dCallP f_value_at (dCons (dVar 2) (dCons (dVar 4) (dCons (dVar 4) dNil)))) (dCallP f_law_sum (dCons (dVar 2) (dCons (dVar 4) (dCons (dVar 4) dNil))))))) (sSeq (sRet (dCst (.bl false)))
  sEnd) sEnd) := (snd_if (SndW.t (snd_orc (snd_cmpT (p_oNotEq c0 w1 w12) rfl (Cok.callP c0 w13 (by decide +kernel) rfl rfl (snd_cons (Cok.var c0 (by decide +kernel)) (snd_cons (snd_bin (p_oMult c0 w1 w16 w17) (snd_lst (snd_cons snd_int snd_nil (noStar_ne rfl))) (Cok.var c0 (by decide +kernel))) (snd_cons (Cok.var c0 (by decide +kernel)) snd_nil (noStar_ne rfl)) (noStar_ne rfl)) (noStar_ne rfl))) (Cok.make c0 w21 (by decide +kernel) rfl rfl (snd_cons snd_int snd_nil (noStar_ne rfl)))) (snd_or1 (snd_cmpT (p_oNotEq c0 w1 w12) rfl (Cok.callP c0 w13 (by decide +kernel) rfl rfl (snd_cons (Cok.var c0 (by decide +kernel)) (snd_cons (Cok.var c0 (by decide +kernel)) (snd_cons (Cok.var c0 (by decide +kernel)) snd_nil (noStar_ne rfl)) (noStar_ne rfl)) (noStar_ne rfl))) (Cok.callP c0 w9 (by decide +kernel) rfl rfl (snd_cons (Cok.var c0 (by decide +kernel)) (snd_cons (Cok.var c0 (by decide +kernel)) (snd_cons (Cok.var c0 (by decide +kernel)) snd_nil (noStar_ne rfl)) (noStar_ne rfl)) (noStar_ne rfl))))))) (snd_seq (snd_ret snd_bl)
  snd_end) snd_end)
  have q10 : SndS (gg X.K C) true X ((defBody s_law_right).getD 10 (.Pass ⟨0, 0, 0, 0⟩)) (sFor (iRng (dCons (dCst (.int 4)) dNil)) (gNm 14) (sSeq (sAsg 15 (dCallR f_law_bent 0 (dCons (dVar 2) dNil)))
  (sSeq (sIf (tOf (dBin oNotEq (dBlt orepr (dCons (dLst (dCons (dCallP f_is_table (dCons (dVar 15) dNil)) (dCons (dCallP f_is_table (dCons (dBlt tupleB (dCons (dVar 15) dNil)) dNil)) dNil))) dNil)) (dBlt orepr (dCons (dBin oMult (dLst (dCons (dCallP f_law_looks (dCons (dVar 15) dNil)) dNil)) (dCst (.int 2))) dNil)))) (sSeq (sRet (dCst (.bl false)))
  sEnd) sEnd)
  sEnd))) := (Cok.for' c0 rfl (by decide) (Cok.irng1 c0 (by decide +kernel) z_range rfl (snd_cons snd_int snd_nil (noStar_ne rfl))) (Cok.gnm c0 (by decide +kernel)) (snd_seq (Cok.asg c0 (by decide +kernel) rfl (by decide) (Cok.callR c0 w22 (by decide +kernel) rfl rfl (by decide +kernel) (snd_cons (Cok.var c0 (by decide +kernel)) snd_nil (noStar_ne rfl))))
  (snd_seq (snd_if (snd_cmpT (p_oNotEq c0 w1 w12) rfl (Cok.blt c0 (snd_reprS c0.hK gu w10) (by decide +kernel) z_repr (by decide +kernel) rfl (snd_cons (snd_lst (snd_cons (Cok.callP c0 w11 (by decide +kernel) rfl rfl (snd_cons (Cok.var c0 (by decide +kernel)) snd_nil (noStar_ne rfl))) (snd_cons (Cok.callKw c0 w23 (by decide +kernel) rfl rfl ⟨rfl, rfl, rfl, rfl⟩ (snd_a0 (snd_kcons (Cok.bltT c0 (snd_tuple c0.hK) (by decide +kernel) z_tuple (by decide +kernel) rfl (snd_cons (Cok.var c0 (by decide +kernel)) snd_nil (noStar_ne rfl))) snd_knil))) snd_nil (noStar_ne rfl)) (noStar_ne rfl))) snd_nil (noStar_ne rfl))) (Cok.blt c0 (snd_reprS c0.hK gu w10) (by decide +kernel) z_repr (by decide +kernel) rfl (snd_cons (snd_bin (p_oMult c0 w1 w16 w17) (snd_lst (snd_cons (Cok.callP c0 w24 (by decide +kernel) rfl rfl (snd_cons (Cok.var c0 (by decide +kernel)) snd_nil (noStar_ne rfl))) snd_nil (noStar_ne rfl))) snd_int) snd_nil (noStar_ne rfl)))) (snd_seq (snd_ret snd_bl)
  snd_end) snd_end)
  snd_end)))
  have q11 : SndS (gg X.K C) true X ((defBody s_law_right).getD 11 (.Pass ⟨0, 0, 0, 0⟩)) (sRet (dBin oEq (dBlt orepr (dCons (dLst (dCons (dVar 3) (dCons (dVar 7) (dCons (dVar 8) dNil)))) dNil)) (dVar 9))) := (snd_ret (snd_cmp (p_oEq c0 w1 w12) rfl (Cok.blt c0 (snd_reprS c0.hK gu w10) (by decide +kernel) z_repr (by decide +kernel) rfl (snd_cons (snd_lst (snd_cons (Cok.var c0 (by decide +kernel)) (snd_cons (Cok.var c0 (by decide +kernel)) (snd_cons (Cok.var c0 (by decide +kernel)) snd_nil (noStar_ne rfl)) (noStar_ne rfl)) (noStar_ne rfl))) snd_nil (noStar_ne rfl))) (Cok.var c0 (by decide +kernel))))
  exact (snd_seq q0 (snd_seq q1 (snd_seq q2 (snd_seq q3 (snd_seq q4 (snd_seq q5 (snd_seq q6 (snd_seq q7 (snd_seq q8 (snd_seq q9 (snd_seq q10 (snd_seq q11 snd_end))))))))))))
theorem ok_law_pot (T : Txt K mg A Pp C FD) : FnD P w K mg base false 8 (A 42) (FD 42) ["_law_script", "_law_k"] (spD (gg K C) false 2 f_law_pot) := by
  refine fnD_of (N := ["_law_script", "_law_k", "_law_cell"]) (FunD.a' T.F42) ⟨rfl, rfl, rfl, by decide +kernel, rfl, by decide +kernel, by decide +kernel⟩ rfl (by decide) fun X b => ?_
  have hp := b.prog; have hw := b.w; have hK := b.K; have hm := b.mg; have hb := b.base; subst hp hw hK hm hb
  have c0 : Cok (gg X.K C) ["_law_script", "_law_k", "_law_cell"] (defScope s_law_pot) (fun _ => true) X := b.ctx rfl (by decide +kernel)
  have G := gok T
  have z_len := T.z_len
  have z_abs := T.z_abs
  have z_int := T.z_int
  have z_max := T.z_max
  have w1 : OpCls (gg X.K C) X 4 := ClsK.op T.k4 rfl
  have w2 : MOk (gg X.K C) X 4 "__add__" 2 false f_Ratio___add := ⟨⟨C 4, A 4, FD 4, ["self", "other"], 5, rfl, T.k4.cl, T.me4, b4 T, b.room.mono (by decide), ok_Ratio___add T, rfl⟩, (show ("__add__" : Str) ∉ (["own_top", "own_bottom"] : List Str) by decide +kernel)⟩
  have w3 : MOk (gg X.K C) X 4 "__radd__" 2 false f_Ratio___radd := ⟨⟨C 4, A 5, FD 5, ["self", "other"], 5, rfl, T.k4.cl, T.me5, b5 T, b.room.mono (by decide), ok_Ratio___radd T, rfl⟩, (show ("__radd__" : Str) ∉ (["own_top", "own_bottom"] : List Str) by decide +kernel)⟩
  have w5 : MOk (gg X.K C) X 4 "__mul__" 2 false f_Ratio___mul := ⟨⟨C 4, A 6, FD 6, ["self", "other"], 5, rfl, T.k4.cl, T.me6, b6 T, b.room.mono (by decide), ok_Ratio___mul T, rfl⟩, (show ("__mul__" : Str) ∉ (["own_top", "own_bottom"] : List Str) by decide +kernel)⟩
  have w6 : MOk (gg X.K C) X 4 "__rmul__" 2 false f_Ratio___rmul := ⟨⟨C 4, A 7, FD 7, ["self", "other"], 5, rfl, T.k4.cl, T.me7, b7 T, b.room.mono (by decide), ok_Ratio___rmul T, rfl⟩, (show ("__rmul__" : Str) ∉ (["own_top", "own_bottom"] : List Str) by decide +kernel)⟩
  have w8 : MOk (gg X.K C) X 4 "__sub__" 2 false f_Ratio___sub := ⟨⟨C 4, A 11, FD 11, ["self", "other"], 5, rfl, T.k4.cl, T.me11, b11 T, b.room.mono (by decide), ok_Ratio___sub T, rfl⟩, (show ("__sub__" : Str) ∉ (["own_top", "own_bottom"] : List Str) by decide +kernel)⟩
  have w9 : MOk (gg X.K C) X 4 "__rsub__" 2 false f_Ratio___rsub := ⟨⟨C 4, A 12, FD 12, ["self", "other"], 5, rfl, T.k4.cl, T.me12, b12 T, b.room.mono (by decide), ok_Ratio___rsub T, rfl⟩, (show ("__rsub__" : Str) ∉ (["own_top", "own_bottom"] : List Str) by decide +kernel)⟩
  exact (snd_seq (Cok.asg c0 (by decide +kernel) rfl (by decide) (snd_vif (snd_cmpT (snd_lt) rfl (Cok.var c0 (by decide +kernel)) (Cok.blt c0 (snd_len c0.hK) (by decide +kernel) z_len (by decide +kernel) rfl (snd_cons (Cok.var c0 (by decide +kernel)) snd_nil (noStar_ne rfl)))) (Cok.blt c0 (snd_abs) (by decide +kernel) z_abs (by decide +kernel) rfl (snd_cons (Cok.item c0 (by decide +kernel) rfl (Cok.var c0 (by decide +kernel))) snd_nil (noStar_ne rfl))) (snd_bin (p_oAdd c0 w1 w2 w3) (snd_bin (p_oMult c0 w1 w5 w6) snd_int (Cok.var c0 (by decide +kernel))) snd_int)))
  (snd_seq (snd_ret (snd_lst (snd_cons (Cok.blt c0 (snd_max c0.calm) (by decide +kernel) z_max (by decide +kernel) rfl (snd_cons snd_int (snd_cons (snd_bin (p_oSub c0 w1 w8 w9) (Cok.var c0 (by decide +kernel)) (snd_bin (snd_pow) snd_int snd_int)) snd_nil (noStar_ne rfl)) (noStar_ne rfl))) (snd_cons (snd_bin (p_oAdd c0 w1 w2 w3) (snd_bin (snd_mod) (Cok.bltT c0 (snd_intf) (by decide +kernel) z_int (by decide +kernel) rfl (snd_cons (snd_bin (p_oAdd c0 w1 w2 w3) (snd_bin (p_oAdd c0 w1 w2 w3) (snd_bin (p_oMult c0 w1 w5 w6) (snd_bin (snd_mod) (Cok.bltT c0 (snd_intf) (by decide +kernel) z_int (by decide +kernel) rfl (snd_cons (Cok.var c0 (by decide +kernel)) snd_nil (noStar_ne rfl))) snd_int) snd_int) (snd_bin (p_oMult c0 w1 w5 w6) snd_int (Cok.var c0 (by decide +kernel)))) snd_int) snd_nil (noStar_ne rfl))) snd_int) snd_int) snd_nil (noStar_ne rfl)) (noStar_ne rfl))))
  snd_end))
theorem ok_law (T : Txt K mg A Pp C FD) : FnD P w K mg base true 18 (A 43) (FD 43) ["_law_script"] (spD (gg K C) false 1 f_law) := by
  refine fnD_of (N := ["_law_script", "_law_k"]) (FunD.a' T.F43) ⟨rfl, rfl, rfl, by decide +kernel, rfl, by decide +kernel, by decide +kernel⟩ rfl (by decide) fun X b => ?_
  have hp := b.prog; have hw := b.w; have hK := b.K; have hm := b.mg; have hb := b.base; subst hp hw hK hm hb
  have c0 : Cok (gg X.K C) ["_law_script", "_law_k"] (defScope s_law) (fun _ => true) X := b.ctx rfl (by decide +kernel)
  have G := gok T
  have gu := b.gd rfl
  have z_all := T.z_all
  have z_max := T.z_max
  have z_min := T.z_min
  have z_len := T.z_len
  have z_range := T.z_range
  have w0 : CallOk X "_law_right" true 1 (spD (gg X.K C) true 1 f_law_right) := ⟨_, FD 41, ["_law_pot_here"], 17, T.g41, T.F41.kp, b41 T, b.room.mono (by decide), (fun _ => b.gd rfl), ok_law_right T, rfl⟩
  have w1 : CallOk X "_law_pot" false 2 (spD (gg X.K C) false 2 f_law_pot) := ⟨_, FD 42, ["_law_script", "_law_k"], 8, T.g42, T.F42.kp, b42 T, b.room.mono (by decide), (fun z => nomatch z), ok_law_pot T, rfl⟩
  exact (snd_seq (snd_ret (Cok.blt c0 (snd_all c0.calm) (by decide +kernel) z_all (by decide +kernel) rfl (snd_cons (Cok.lc c0 (own := [("_law_k", 1)]) (by decide +kernel) rfl rfl (Cok.irng1 c0 (by decide +kernel) z_range rfl (snd_cons (Cok.blt c0 (snd_max c0.calm) (by decide +kernel) z_max (by decide +kernel) rfl (snd_cons snd_int (snd_cons (Cok.blt c0 (snd_min c0.calm) (by decide +kernel) z_min (by decide +kernel) rfl (snd_cons snd_int (snd_cons (Cok.blt c0 (snd_len c0.hK) (by decide +kernel) z_len (by decide +kernel) rfl (snd_cons (Cok.var c0 (by decide +kernel)) snd_nil (noStar_ne rfl))) snd_nil (noStar_ne rfl)) (noStar_ne rfl))) snd_nil (noStar_ne rfl)) (noStar_ne rfl))) snd_nil (noStar_ne rfl))) (fun _ _ _ _ _ => (Cok.gnm (c0.blk) (by decide +kernel))) (fun _ _ _ _ _ => (Cok.callT (c0.blk) w0.blk (by decide +kernel) rfl rfl (Cok.callP (c0.blk) w1.blk (by decide +kernel) rfl rfl (snd_cons (Cok.var (c0.blk) (by decide +kernel)) (snd_cons (Cok.var (c0.blk) (by decide +kernel)) snd_nil (noStar_ne rfl)) (noStar_ne rfl))) snd_nil))) snd_nil (noStar_ne rfl))))
  snd_end)
end
end K31W

set_option maxRecDepth 100000
set_option linter.all false
/-! DVM: what the combinators do when applied (for simp), loops by induction. -/
namespace DV
open PySem L2
@[simp] theorem dCst_ap (d : D) (ρ : List D) : dCst d ρ = (some (d, ρ)) := rfl
@[simp] theorem dNil_ap (ρ : List D) : dNil  ρ = (some ([], ρ)) := rfl
@[simp] theorem dCons_ap (f : Den) (r : Dens) (ρ : List D) : dCons f r ρ = (match f ρ with
  | some (d, ρ1) => match r ρ1 with
    | some (ds, ρ2) => some (d :: ds, ρ2)
    | none => none
  | none => none) := rfl
@[simp] theorem dTup_ap (r : Dens) (ρ : List D) : dTup r ρ = (match r ρ with
  | some (ds, ρ') => if ds.length ≤ 1000 then some (.tup (ds.map fz), ρ') else none
  | none => none) := rfl
@[simp] theorem dLst_ap (r : Dens) (ρ : List D) : dLst r ρ = (match r ρ with
  | some (ds, ρ') => if ds.length ≤ 1000 then some (.own ds, ρ') else none
  | none => none) := rfl
@[simp] theorem dCallP_ap (sem : Fn) (r : Dens) (ρ : List D) : dCallP sem r ρ = (match r ρ with
  | some (ds, ρ') => match sem (ds.map fz) with
    | some (d, _) => some (d, ρ')
    | none => none
  | none => none) := rfl
@[simp] theorem dCallR_ap (sem : Fn) (i : Nat) (r : Dens) (ρ : List D) : dCallR sem i r ρ = (if held ρ i = true then match r ρ with
  | some (ds, ρ') => if held ρ' i = true then match sem (ρ'.getD i .und :: ds.map fz) with
    | some (d, o) => some (d, ρ'.set i o)
    | none => none
    else none
  | none => none
  else none) := rfl
@[simp] theorem dCallT_ap (sem : Fn) (f : Den) (r : Dens) (ρ : List D) : dCallT sem f r ρ = (match f ρ with
  | some (d0, ρ1) => match r ρ1 with
    | some (ds, ρ') => match sem (d0 :: ds.map fz) with
      | some (d, _) => some (d, ρ')
      | none => none
    | none => none
  | none => none) := rfl
@[simp] theorem sEnd_ap (ρ : List D) : sEnd  ρ = (some (.nx ρ)) := rfl
@[simp] theorem sSeq_ap (f r : DenS) (ρ : List D) : sSeq f r ρ = (match f ρ with
  | some (.nx ρ') => r ρ'
  | o => o) := rfl
@[simp] theorem sRet_ap (f : Den) (ρ : List D) : sRet f ρ = (match f ρ with
  | some (d, ρ') => some (.rt d ρ')
  | none => none) := rfl
@[simp] theorem sAsg_ap (i : Nat) (f : Den) (ρ : List D) : sAsg i f ρ = (match f ρ with
  | some (d, ρ') => if i < ρ'.length then some (.nx (ρ'.set i d)) else none
  | none => none) := rfl
@[simp] theorem sIf_ap (c : DenT) (a b : DenS) (ρ : List D) : sIf c a b ρ = (match c ρ with
  | some (true, ρ') => a ρ'
  | some (false, ρ') => b ρ'
  | none => none) := rfl
@[simp] theorem sExpr_ap (f : Den) (ρ : List D) : sExpr f ρ = (match f ρ with
  | some (_, ρ') => some (.nx ρ')
  | none => none) := rfl
@[simp] theorem sNo_ap (ρ : List D) : sNo  ρ = (none) := rfl
@[simp] theorem dBin_ap (φ : D → D → Option D) (fa fb : Den) (ρ : List D) : dBin φ fa fb ρ = (match fa ρ with
  | some (da, ρ1) => match fb ρ1 with
    | some (db, ρ2) => match φ (fz da) (fz db) with
      | some d => some (d, ρ2)
      | none => none
    | none => none
  | none => none) := rfl
@[simp] theorem dBlt_ap (φ : List D → Option D) (r : Dens) (ρ : List D) : dBlt φ r ρ = (match r ρ with
  | some (ds, ρ') => match φ (ds.map fz) with
    | some d => some (d, ρ')
    | none => none
  | none => none) := rfl
@[simp] theorem tOf_ap (f : Den) (ρ : List D) : tOf f ρ = (match f ρ with
  | some (.bl b, ρ') => some (b, ρ')
  | _ => none) := rfl
@[simp] theorem tNotD_ap (f : DenT) (ρ : List D) : tNotD f ρ = (match f ρ with
  | some (b, ρ') => some (!b, ρ')
  | none => none) := rfl
@[simp] theorem tAndD_ap (f r : DenT) (ρ : List D) : tAndD f r ρ = (match f ρ with
  | some (true, ρ') => r ρ'
  | some (false, ρ') => some (false, ρ')
  | none => none) := rfl
@[simp] theorem tOrD_ap (f r : DenT) (ρ : List D) : tOrD f r ρ = (match f ρ with
  | some (true, ρ') => some (true, ρ')
  | some (false, ρ') => r ρ'
  | none => none) := rfl
@[simp] theorem dOf_ap (f : DenT) (ρ : List D) : dOf f ρ = (match f ρ with
  | some (b, ρ') => some (.bl b, ρ')
  | none => none) := rfl
@[simp] theorem dIf_ap (c : DenT) (a b : Den) (ρ : List D) : dIf c a b ρ = (match c ρ with
  | some (true, ρ') => a ρ'
  | some (false, ρ') => b ρ'
  | none => none) := rfl
@[simp] theorem dAnd_ap (f r : Den) (ρ : List D) : dAnd f r ρ = (match f ρ with
  | some (.bl true, ρ') => r ρ'
  | some (.bl false, ρ') => some (.bl false, ρ')
  | _ => none) := rfl
@[simp] theorem dOr_ap (f r : Den) (ρ : List D) : dOr f r ρ = (match f ρ with
  | some (.bl false, ρ') => r ρ'
  | some (.bl true, ρ') => some (.bl true, ρ')
  | _ => none) := rfl
@[simp] theorem dNot_ap (f : Den) (ρ : List D) : dNot f ρ = (match f ρ with
  | some (.bl b, ρ') => some (.bl (!b), ρ')
  | _ => none) := rfl
@[simp] theorem dChain_ap (φ ψ : D → D → Option D) (fa fb fc : Den) (ρ : List D) : dChain φ ψ fa fb fc ρ = (match fa ρ with
  | some (da, ρ1) => match fb ρ1 with
    | some (db, ρ2) => match φ (fz da) (fz db) with
      | some (.bl true) => match fc ρ2 with
        | some (dc, ρ3) => match ψ (fz db) (fz dc) with
          | some (.bl t) => some (.bl t, ρ3)
          | _ => none
        | none => none
      | some (.bl false) => some (.bl false, ρ2)
      | _ => none
    | none => none
  | none => none) := rfl
@[simp] theorem iSeq_ap (f : Den) (ρ : List D) : iSeq f ρ = (match f ρ with
  | some (d, ρ') => match itemsOf (fz d) with
    | some xs => some (xs, ρ')
    | none => none
  | none => none) := rfl
@[simp] theorem iRng_ap (r : Dens) (ρ : List D) : iRng r ρ = (match r ρ with
  | some ([.int j], ρ') => if -4611686018427387904 ≤ j ∧ j < 4611686018427387904 then some (rngD 0 j.toNat, ρ') else none
  | some ([.int i, .int j], ρ') => if (-4611686018427387904 ≤ i ∧ i < 4611686018427387904) ∧ -4611686018427387904 ≤ j ∧ j < 4611686018427387904 then some (rngD i (j - i).toNat, ρ') else none
  | _ => none) := rfl
@[simp] theorem gNm_ap (i : Nat) (d : D) (ρ : List D) : gNm i d ρ = (if i < ρ.length then some (ρ.set i d) else none) := rfl
@[simp] theorem gTp_ap (is : List Nat) (d : D) (ρ : List D) : gTp is d ρ = (match fz d with
  | .tup ds => gNms is ds ρ
  | _ => none) := rfl
@[simp] theorem sFor_ap (fi : Dens) (fg : DenG) (fb : DenS) (ρ : List D) : sFor fi fg fb ρ = (match fi ρ with
  | some (its, ρ') => forD fg fb its ρ'
  | none => none) := rfl
@[simp] theorem dComp_ap (own : List Nat) (fi : Dens) (fg : DenG) (ft : DenT) (fe : Den) (ρ : List D) : dComp own fi fg ft fe ρ = (match fi ρ with
  | some (its, ρ') => match compD own fg ft fe its [] (unset own ρ') with
    | some (acc, ρ2) => some (.own acc, ρ2)
    | none => none
  | none => none) := rfl
@[simp] theorem dItem_ap (i : Nat) (fj : Den) (ρ : List D) : dItem i fj ρ = (if held ρ i = true then match fj ρ with
  | some (.int j, ρ') => match ρ'[i]? with
    | some (.own xs) => match ixN xs.length j with
      | some k => match xs[k]? with
        | some d => some (fz d, ρ'.set i (.own (xs.set k (fz d))))
        | none => none
      | none => none
    | some d => match ixB d (.int j) with
      | some d' => some (d', ρ')
      | none => none
    | none => none
  | _ => none
  else none) := rfl
@[simp] theorem gItem_ap (i : Nat) (fj : Den) (d : D) (ρ : List D) : gItem i fj d ρ = (if held ρ i = true then match fj ρ with
  | some (.int j, ρ') => match ρ'[i]? with
    | some (.own xs) => match ixN xs.length j with
      | some k => some (ρ'.set i (.own (xs.set k d)))
      | none => none
    | _ => none
  | _ => none
  else none) := rfl
@[simp] theorem sAsgG_ap (fe : Den) (fg : DenG) (ρ : List D) : sAsgG fe fg ρ = (match fe ρ with
  | some (d, ρ') => match fg d ρ' with
    | some ρ2 => some (.nx ρ2)
    | none => none
  | none => none) := rfl
@[simp] theorem gTup_ap (fs : List DenG) (d : D) (ρ : List D) : gTup fs d ρ = (match fz d with
  | .tup ds => gTs fs ds ρ
  | _ => none) := rfl
@[simp] theorem sPar_ap (i j : Nat) (r : Dens) (ρ : List D) : sPar i j r ρ = (match r ρ with
  | some ([d1, d2], ρ') => if i < ρ'.length ∧ j < ρ'.length then some (.nx ((ρ'.set i d1).set j d2)) else none
  | _ => none) := rfl
@[simp] theorem sPar3_ap (i j l : Nat) (r : Dens) (ρ : List D) : sPar3 i j l r ρ = (match r ρ with
  | some ([d1, d2, d3], ρ') => if i < ρ'.length ∧ j < ρ'.length ∧ l < ρ'.length then some (.nx (((ρ'.set i d1).set j d2).set l d3)) else none
  | _ => none) := rfl
@[simp] theorem dApp_ap (i : Nat) (fe : Den) (ρ : List D) : dApp i fe ρ = (if isOwn ρ i = true then match fe ρ with
  | some (d, ρ') => match ρ'[i]? with
    | some (.own xs) => if xs.length < 100000 then some (.non, ρ'.set i (.own (xs ++ [d]))) else none
    | _ => none
  | none => none
  else none) := rfl
@[simp] theorem dExt_ap (i : Nat) (fe : Den) (ρ : List D) : dExt i fe ρ = (if isOwn ρ i = true then match fe ρ with
  | some (d, ρ') => match fz d, ρ'[i]? with
    | .lst zs, some (.own xs) => if xs.length + zs.length ≤ 100000 then some (.non, ρ'.set i (.own (xs ++ zs))) else none
    | _, _ => none
  | none => none
  else none) := rfl
@[simp] theorem dUn_ap (φ : D → Option D) (f : Den) (ρ : List D) : dUn φ f ρ = (match f ρ with
  | some (d, ρ') => match φ (fz d) with
    | some d' => some (d', ρ')
    | none => none
  | none => none) := rfl
@[simp] theorem pNo_ap (ρ : List D) : pNo  ρ = (some (none, ρ)) := rfl
@[simp] theorem pSome_ap (f : Den) (ρ : List D) : pSome f ρ = (match f ρ with
  | some (.int i, ρ') => some (some i, ρ')
  | _ => none) := rfl
@[simp] theorem dSlc_ap (f : Den) (lo hi : PartD) (ρ : List D) : dSlc f lo hi ρ = (match f ρ with
  | some (d, ρ1) => match lo ρ1 with
    | some (l, ρ2) => match hi ρ2 with
      | some (h, ρ3) => match slcB (fz d) l h with
        | some d' => some (d', ρ3)
        | none => none
      | none => none
    | none => none
  | none => none) := rfl
@[simp] theorem dJoin_ap (fs : List Den) (ρ : List D) : dJoin fs ρ = (match joinD fs Str.empty ρ with
  | some (s, ρ') => some (.str s, ρ')
  | none => none) := rfl
@[simp] theorem dFld_ap (c j : Nat) (f : Den) (ρ : List D) : dFld c j f ρ = (match f ρ with
  | some (d, ρ') => match fz d with
    | .ins c' xs => if c' = c then (match xs[j]? with
      | some x => some (x, ρ')
      | none => none) else none
    | _ => none
  | none => none) := rfl
@[simp] theorem dFldV_ap (i c j : Nat) (ρ : List D) : dFldV i c j ρ = (match ρ[i]? with
  | some (.obj c' xs) => if c' = c then (match xs[j]? with
    | some x => some (fz x, ρ.set i (.obj c (xs.set j (fz x))))
    | none => none) else none
  | some (.ins c' xs) => if c' = c then (match xs[j]? with
    | some x => some (x, ρ)
    | none => none) else none
  | _ => none) := rfl
@[simp] theorem dMeth_ap (c : Nat) (fn : Fn) (f : Den) (r : Dens) (ρ : List D) : dMeth c fn f r ρ = (match f ρ with
  | some (d, ρ1) => match fz d with
    | .ins c' xs => if c' = c then (match r ρ1 with
      | some (ds, ρ2) => match fn (.ins c xs :: ds.map fz) with
        | some (d', _) => some (d', ρ2)
        | none => none
      | none => none) else none
    | _ => none
  | none => none) := rfl
@[simp] theorem dCMeth_ap (c : Nat) (fn : Fn) (r : Dens) (ρ : List D) : dCMeth c fn r ρ = (match r ρ with
  | some (ds, ρ') => match fn (.cls c :: ds.map fz) with
    | some (d, _) => some (d, ρ')
    | none => none
  | none => none) := rfl
@[simp] theorem dMake_ap (c : Nat) (dd : List D) (fn : Fn) (r : Dens) (ρ : List D) : dMake c dd fn r ρ = (match r ρ with
  | some (ds, ρ') => match fn (.obj c [] :: (ds.map fz ++ dd)) with
    | some (.non, o) => some (o, ρ')
    | _ => none
  | none => none) := rfl
@[simp] theorem sFst_ap (i c j : Nat) (fe : Den) (ρ : List D) : sFst i c j fe ρ = (match fe ρ with
  | some (d, ρ') => match ρ'[i]? with
    | some (.obj c' xs) => if c' = c ∧ j ≤ xs.length then some (.nx (ρ'.set i (.obj c (if j < xs.length then xs.set j d else xs ++ [d])))) else none
    | _ => none
  | none => none) := rfl
@[simp] theorem rBoth_ap (r q : Dens) (ρ : List D) : rBoth r q ρ = (match r ρ with
  | some (ds, ρ1) => match q ρ1 with
    | some (es, ρ2) => some (ds ++ es, ρ2)
    | none => none
  | none => none) := rfl
@[simp] theorem tYesD_ap (ρ : List D) : tYesD  ρ = (some (true, ρ)) := rfl
@[simp] theorem iEnm_ap (r : Dens) (ρ : List D) : iEnm r ρ = (match r ρ with
  | some ([d], ρ') => match lstOf (fz d) with
    | some xs => some (enumD xs, ρ')
    | none => none
  | _ => none) := rfl
@[simp] theorem iZp_ap (r : Dens) (ρ : List D) : iZp r ρ = (match r ρ with
  | some ([d, e], ρ') => match fz d, fz e with
    | .tup xs, .tup ys => some (zipD xs ys, ρ')
    | d', e' => match lstOf d', lstOf e' with
      | some xs, some ys => some (zipD xs ys, ρ')
      | _, _ => none
  | _ => none) := rfl
@[simp] theorem permF_ap (is : List Nat) (fn : Fn) (ds : List D) : permF is fn ds = (fn (permD is ds)) := rfl
@[simp] theorem dItem2_ap (i : Nat) (fk fj : DenN) (ρ : List D) : dItem2 i fk fj ρ = (match ρ[i]?, fk ρ, fj ρ with
  | some (.own xs), some k0, some j0 => match ixN xs.length k0 with
    | some k => match xs[k]? with
      | some (.own ys) => match ixN ys.length j0 with
        | some j => match ys[j]? with
          | some d => some (fz d, ρ.set i (.own (xs.set k (.own (ys.set j (fz d))))))
          | none => none
        | none => none
      | _ => none
    | none => none
  | _, _, _ => none) := rfl
@[simp] theorem gItem2_ap (i : Nat) (fk fj : DenN) (d : D) (ρ : List D) : gItem2 i fk fj d ρ = (match ρ[i]?, fk ρ, fj ρ with
  | some (.own xs), some k0, some j0 => match ixN xs.length k0 with
    | some k => match xs[k]? with
      | some (.own ys) => match ixN ys.length j0 with
        | some j => some (ρ.set i (.own (xs.set k (.own (ys.set j d)))))
        | none => none
      | _ => none
    | none => none
  | _, _, _ => none) := rfl
@[simp] theorem dApp2_ap (i : Nat) (fk : DenN) (fe : Den) (ρ : List D) : dApp2 i fk fe ρ = (match fe ρ with
  | some (d, ρ') => match ρ'[i]?, fk ρ' with
    | some (.own xs), some k0 => match ixN xs.length k0 with
      | some k => match xs[k]? with
        | some (.own ys) => if ys.length < 100000 then some (.non, ρ'.set i (.own (xs.set k (.own (ys ++ [d]))))) else none
        | _ => none
      | none => none
    | _, _ => none
  | none => none) := rfl
@[simp] theorem dApp3_ap (i : Nat) (fk : DenN) (fe : Den) (ρ : List D) : dApp3 i fk fe ρ = (match ρ[i]?, fk ρ with
  | some (.own xs), some k0 => match ixN xs.length k0 with
    | some k => match xs[k]? with
      | some (.own ys) => match fe (ρ.set i .und) with
        | some (d, ρ1) => if dApp3.undAt ρ1 i = true ∧ ys.length < 100000 then some (.non, ρ1.set i (.own (xs.set k (.own (ys ++ [d]))))) else none
        | none => none
      | _ => none
    | none => none
  | _, _ => none) := rfl
@[simp] theorem dPop_ap (i : Nat) (fk : DenN) (ρ : List D) : dPop i fk ρ = (match ρ[i]?, fk ρ with
  | some (.own xs), some k0 => match ixN xs.length k0 with
    | some k => match xs[k]? with
      | some d => if xs.length ≤ 100000 then some (d, ρ.set i (.own (xs.eraseIdx k))) else none
      | none => none
    | none => none
  | _, _ => none) := rfl
@[simp] theorem dDic_ap (ks : List Key) (r : Dens) (ρ : List D) : dDic ks r ρ = (match r ρ with
  | some (ds, ρ') => if ks.length = ds.length then some (.odc ks ds, ρ') else none
  | none => none) := rfl
@[simp] theorem dEls_ap (f h : Den) (ρ : List D) : dEls f h ρ = (match f ρ with
  | some z => some z
  | none => h ρ) := rfl
end DV

set_option maxRecDepth 100000
set_option linter.all false
namespace DV
open PySem L2
def D.isUnd : D → Bool
  | .und => true
  | _ => false
@[simp] theorem isUnd_und : D.isUnd .und = true := rfl
@[simp] theorem isUnd_non : D.isUnd .non = false := rfl
@[simp] theorem isUnd_bl {b : Bool} : D.isUnd (.bl b) = false := rfl
@[simp] theorem isUnd_int {i : Int} : D.isUnd (.int i) = false := rfl
@[simp] theorem isUnd_str {x : Str} : D.isUnd (.str x) = false := rfl
@[simp] theorem isUnd_ty {x : String} : D.isUnd (.ty x) = false := rfl
@[simp] theorem isUnd_cls {c : Nat} : D.isUnd (.cls c) = false := rfl
@[simp] theorem isUnd_tup {xs : List D} : D.isUnd (.tup xs) = false := rfl
@[simp] theorem isUnd_lst {xs : List D} : D.isUnd (.lst xs) = false := rfl
@[simp] theorem isUnd_con {xs : List D} : D.isUnd (.con xs) = false := rfl
@[simp] theorem isUnd_own {xs : List D} : D.isUnd (.own xs) = false := rfl
@[simp] theorem isUnd_ins {c : Nat} {xs : List D} : D.isUnd (.ins c xs) = false := rfl
@[simp] theorem isUnd_obj {c : Nat} {xs : List D} : D.isUnd (.obj c xs) = false := rfl
@[simp] theorem isUnd_dic {c : List Key} {xs : List D} : D.isUnd (.dic c xs) = false := rfl
@[simp] theorem isUnd_dit {c : List (List Key)} {xs : List D} : D.isUnd (.dit c xs) = false := rfl
@[simp] theorem dVar_ap (i : Nat) (ρ : List D) : dVar i ρ = (match ρ[i]? with
  | some d => if d.isUnd = true then none else some (fz d, ρ.set i (fz d))
  | none => none) := by
  unfold dVar
  cases ρ[i]? with
  | none => rfl
  | some d => cases d <;> rfl
@[simp] theorem fz_non : fz .non = .non := rfl
@[simp] theorem fz_und : fz .und = .und := rfl
@[simp] theorem fz_bl {b : Bool} : fz (.bl b) = .bl b := rfl
@[simp] theorem fz_int {i : Int} : fz (.int i) = .int i := rfl
@[simp] theorem fz_str {x : Str} : fz (.str x) = .str x := rfl
@[simp] theorem fz_ty {x : String} : fz (.ty x) = .ty x := rfl
@[simp] theorem fz_cls {c : Nat} : fz (.cls c) = .cls c := rfl
@[simp] theorem fz_tup {xs : List D} : fz (.tup xs) = .tup xs := rfl
@[simp] theorem fz_lst {xs : List D} : fz (.lst xs) = .lst xs := rfl
@[simp] theorem fz_con {xs : List D} : fz (.con xs) = .con xs := rfl
@[simp] theorem fz_ins {c : Nat} {xs : List D} : fz (.ins c xs) = .ins c xs := rfl
@[simp] theorem fz_own {xs : List D} : fz (.own xs) = .lst (xs.map fz) := by rw [← fzs_map]; rfl
@[simp] theorem fz_obj {c : Nat} {xs : List D} : fz (.obj c xs) = .ins c (xs.map fz) := by rw [← fzs_map]; rfl
@[simp] theorem fz_dic {c : List Key} {xs : List D} : fz (.dic c xs) = .dic c xs := rfl
@[simp] theorem kd_dic {c : List Key} {xs : List D} : kd (.dic c xs) = some (.inl "dict") := rfl
@[simp] theorem addB_int {i j : Int} : addB (.int i) (.int j) = some (.int (i + j)) := rfl
@[simp] theorem addB_str {x y : Str} : addB (.str x) (.str y) = if x.length + y.length ≤ 100000 then some (.str (x ++ y)) else none := rfl
@[simp] theorem addB_lst {x y : List D} : addB (.lst x) (.lst y) = if x.length + y.length ≤ 100000 then some (.own (x ++ y)) else none := rfl
@[simp] theorem addB_tup {x y : List D} : addB (.tup x) (.tup y) = if x.length + y.length ≤ 100000 then some (.tup (x ++ y)) else none := rfl
@[simp] theorem subB_int {i j : Int} : subB (.int i) (.int j) = some (.int (i - j)) := rfl
@[simp] theorem negB_int {i : Int} : negB (.int i) = some (.int (-i)) := rfl
@[simp] theorem cmpB_int {p : Int → Int → Bool} {i j : Int} : cmpB p (.int i) (.int j) = some (.bl (p i j)) := rfl
@[simp] theorem ltB_int {i j : Int} : ltB (.int i) (.int j) = some (.bl (decide (i < j))) := rfl
@[simp] theorem modB_int {i j : Int} : modB (.int i) (.int j) = if j ≠ 0 then some (.int (i.fmod j)) else none := rfl
@[simp] theorem powB_int {i j : Int} : powB (.int i) (.int j) = if 0 ≤ j ∧ j ≤ 1000000 ∧ i.natAbs < 2 ^ 64 then some (.int (i ^ j.toNat)) else none := rfl
@[simp] theorem mulB_lst {x : List D} {k : Int} : mulB (.lst x) (.int k) = if 0 ≤ k ∧ k ≤ 1000 ∧ x.length ≤ 1000 then some (.own (List.replicate k.toNat x).flatten) else none := rfl
@[simp] theorem absB_int {i : Int} : absB [.int i] = some (.int (if i < 0 then -i else i)) := rfl
@[simp] theorem maxB_int {i j : Int} : maxB [.int i, .int j] = some (.int (if j > i then j else i)) := rfl
@[simp] theorem minB_int {i j : Int} : minB [.int i, .int j] = some (.int (if j < i then j else i)) := rfl
@[simp] theorem intB_int {i : Int} : intB [.int i] = some (.int i) := rfl
@[simp] theorem intB_bl {b : Bool} : intB [.bl b] = some (.int (if b then 1 else 0)) := rfl
@[simp] theorem lenB_lst {xs : List D} : lenB [.lst xs] = some (.int xs.length) := rfl
@[simp] theorem lenB_con {xs : List D} : lenB [.con xs] = some (.int xs.length) := rfl
@[simp] theorem lenB_tup {xs : List D} : lenB [.tup xs] = some (.int xs.length) := rfl
@[simp] theorem divmodB_int {i j : Int} : divmodB [.int i, .int j] = if 0 < j ∧ j < 1073741824 then some (.tup [.int (i / j), .int (i % j)]) else none := rfl
@[simp] theorem tupleB_lst {xs : List D} : tupleB [.lst xs] = some (.tup xs) := rfl
@[simp] theorem tupleB_tup {xs : List D} : tupleB [.tup xs] = some (.tup xs) := rfl
@[simp] theorem listB_lst {xs : List D} : listB [.lst xs] = some (.own xs) := rfl
@[simp] theorem listB_tup {xs : List D} : listB [.tup xs] = some (.own xs) := rfl
@[simp] theorem fmtB_str {y : Str} : fmtB (.str y) = if y.length ≤ 100000 then some (.str y) else none := rfl
@[simp] theorem fmtB_int {i : Int} : fmtB (.int i) = if i.natAbs.log2 < 1920 then some (.str (toString i : String)) else none := rfl
@[simp] theorem strB_int {i : Int} : strB [.int i] = if i.natAbs.log2 < 1920 then some (.str (toString i : String)) else none := rfl
@[simp] theorem strB_str {i : Str} : strB [.str i] = some (.str i) := rfl
@[simp] theorem itemsOf_lst {xs : List D} : itemsOf (.lst xs) = some xs := rfl
@[simp] theorem itemsOf_con {xs : List D} : itemsOf (.con xs) = some xs := rfl
@[simp] theorem itemsOf_tup {xs : List D} : itemsOf (.tup xs) = some xs := rfl
@[simp] theorem outD_f' {d : D} {ρ : List D} : outD false d ρ = some (d, .non) := rfl
@[simp] theorem isN_non : D.isN .non = true := rfl
@[simp] theorem isN_int {i : Int} : D.isN (.int i) = false := rfl
@[simp] theorem isN_bl {i : Bool} : D.isN (.bl i) = false := rfl
@[simp] theorem isN_str {i : Str} : D.isN (.str i) = false := rfl
@[simp] theorem isN_tup {i : List D} : D.isN (.tup i) = false := rfl
@[simp] theorem isN_lst {i : List D} : D.isN (.lst i) = false := rfl
@[simp] theorem isN_ins {c : Nat} {i : List D} : D.isN (.ins c i) = false := rfl
@[simp] theorem isNonB_non {b : Bool} {d : D} : isNonB b d .non = some (.bl (b != d.isN)) := by cases d <;> rfl
@[simp] theorem kd_int {i : Int} : kd (.int i) = some (.inl "int") := rfl
@[simp] theorem kd_bl {i : Bool} : kd (.bl i) = some (.inl "bool") := rfl
@[simp] theorem kd_str {i : Str} : kd (.str i) = some (.inl "str") := rfl
@[simp] theorem kd_non : kd .non = some (.inl "NoneType") := rfl
@[simp] theorem kd_lst {i : List D} : kd (.lst i) = some (.inl "list") := rfl
@[simp] theorem kd_con {i : List D} : kd (.con i) = some (.inl "list") := rfl
@[simp] theorem kd_tup {i : List D} : kd (.tup i) = some (.inl "tuple") := rfl
@[simp] theorem kd_ins {c : Nat} {i : List D} : kd (.ins c i) = some (.inr c) := rfl
@[simp] theorem isiB_ty {d : D} {n : String} : isiB [d, .ty n] = (isOne d (.ty n)).map .bl := by cases d <;> rfl
@[simp] theorem isiB_cls {d : D} {n : Nat} : isiB [d, .cls n] = (isOne d (.cls n)).map .bl := by cases d <;> rfl
@[simp] theorem isiB_tup {d : D} {cs : List D} : isiB [d, .tup cs] = if allCls d cs = true ∧ 0 < cs.length then (isAny d cs).map .bl else none := by cases d <;> rfl
theorem sWhile_f {c : DenT} {b : DenS} {ρ ρ1 : List D} (h : c ρ = some (false, ρ1)) : sWhile c b ρ = some (.nx ρ1) := by
  unfold sWhile; rw [whl]; simp only [h]
theorem sWhile_t {c : DenT} {b : DenS} {ρ ρ1 ρ2 : List D} (h : c ρ = some (true, ρ1)) (h2 : b ρ1 = some (.nx ρ2)) : sWhile c b ρ = sWhile c b ρ2 := by
  conv => lhs; unfold sWhile; rw [whl]; simp only [h, h2]
  rfl
theorem sWhile_r {c : DenT} {b : DenS} {ρ ρ1 ρ2 : List D} {d : D} (h : c ρ = some (true, ρ1)) (h2 : b ρ1 = some (.rt d ρ2)) : sWhile c b ρ = some (.rt d ρ2) := by
  unfold sWhile; rw [whl]; simp only [h, h2]
@[simp] theorem semOf_ap {N : Nat} {mu : Bool} {f : DenS} {ds : List D} : semOf N mu f ds = (match f (ds ++ List.replicate (N - ds.length) .und) with
  | some (.nx ρ) => outD mu .non ρ
  | some (.rt d ρ) => outD mu d ρ
  | _ => none) := rfl

/-! sizes -/
/-- below 2^n without its sign -/
def Sm (n : Nat) (i : Int) : Prop := i.natAbs < 2 ^ n
theorem Sm.mono {n m : Nat} {i : Int} (h : Sm n i) (k : n ≤ m) : Sm m i := Nat.lt_of_lt_of_le h (Nat.pow_le_pow_right (by decide) k)
theorem Sm.mul {n m : Nat} {i j : Int} (h : Sm n i) (k : Sm m j) : Sm (n + m) (i * j) := by
  unfold Sm at *
  rw [Int.natAbs_mul, Nat.pow_add]
  exact Nat.mul_lt_mul'' h k
theorem Sm.add {n m : Nat} {i j : Int} (h : Sm n i) (k : Sm m j) : Sm (max n m + 1) (i + j) := by
  have h := h.mono (Nat.le_max_left n m); have k := k.mono (Nat.le_max_right n m)
  unfold Sm at *
  rw [Nat.pow_succ]
  omega
theorem Sm.sub {n m : Nat} {i j : Int} (h : Sm n i) (k : Sm m j) : Sm (max n m + 1) (i - j) := by
  have h := h.mono (Nat.le_max_left n m); have k := k.mono (Nat.le_max_right n m)
  unfold Sm at *
  rw [Nat.pow_succ]
  omega
theorem Sm.neg {n : Nat} {i : Int} (h : Sm n i) : Sm n (-i) := by unfold Sm at *; omega
theorem Sm.log {n : Nat} {i : Int} (h : Sm n i) : i.natAbs.log2 ≤ n := by
  by_cases e : i.natAbs = 0
  · rw [e]; simp
  · exact Nat.le_of_lt_succ (Nat.lt_of_lt_of_le ((Nat.log2_lt e).mpr h) (Nat.le_succ n))
theorem Sm.of {n : Nat} {i : Int} (h : i.natAbs < 2 ^ n) : Sm n i := h
theorem Sm.le {n : Nat} {i j : Int} (h : Sm n i) (k : j.natAbs ≤ i.natAbs) : Sm n j := Nat.lt_of_le_of_lt k h
/-- a product within the model's size -/
def MuOk (i j : Int) : Prop := i.natAbs.log2 + j.natAbs.log2 < 1000000
instance {i j : Int} : Decidable (MuOk i j) := inferInstanceAs (Decidable (_ < _))
/-- a divisor within the model's size -/
def DvOk (j : Int) : Prop := j ≠ 0 ∧ j.natAbs.log2 < 9000
instance {j : Int} : Decidable (DvOk j) := inferInstanceAs (Decidable (_ ∧ _))
@[simp] theorem mulB_int {i j : Int} : mulB (.int i) (.int j) = if MuOk i j then some (.int (i * j)) else none := rfl
@[simp] theorem divB_int {i j : Int} : divB (.int i) (.int j) = if DvOk j then some (.int (i.fdiv j)) else none := rfl
theorem Sm.mulOk {i j : Int} {n m : Nat} (h : Sm n i) (k : Sm m j) (l : n + m < 1000000) : MuOk i j := by
  have h1 := h.log; have h2 := k.log
  unfold MuOk; omega
theorem Sm.divOk {j : Int} {m : Nat} (k : Sm m j) (hj : j ≠ 0) (l : m < 9000) : DvOk j := by
  have h2 := k.log
  exact ⟨hj, by omega⟩
end DV

set_option maxRecDepth 100000
set_option linter.all false
namespace DV
open PySem L2
@[simp] theorem ownO_int {c : Nat} {l r : Fn} {φ : D → D → Option D} {i j : Int} : ownO c l r φ (.int i) (.int j) = φ (.int i) (.int j) := rfl
@[simp] theorem ownO_str {c : Nat} {l r : Fn} {φ : D → D → Option D} {i : Str} {j : D} : ownO c l r φ (.str i) j = φ (.str i) j := rfl
@[simp] theorem ownO_lst {c : Nat} {l r : Fn} {φ : D → D → Option D} {i : List D} {j : D} : ownO c l r φ (.lst i) j = φ (.lst i) j := rfl
@[simp] theorem ownO_tup {c : Nat} {l r : Fn} {φ : D → D → Option D} {i : List D} {j : D} : ownO c l r φ (.tup i) j = φ (.tup i) j := rfl
@[simp] theorem ownO_ii {c : Nat} {l r : Fn} {φ : D → D → Option D} {i j : List D} : ownO c l r φ (.ins c i) (.ins c j) = (l [.ins c i, .ins c j]).map (·.1) := by simp [ownO]
@[simp] theorem ownO_in {c : Nat} {l r : Fn} {φ : D → D → Option D} {i : List D} {j : Int} : ownO c l r φ (.ins c i) (.int j) = (l [.ins c i, .int j]).map (·.1) := by simp [ownO]
@[simp] theorem ownO_ni {c : Nat} {l r : Fn} {φ : D → D → Option D} {i : List D} {j : Int} : ownO c l r φ (.int j) (.ins c i) = (r [.ins c i, .int j]).map (·.1) := by simp [ownO]
@[simp] theorem ownQ_int {c : Nat} {e : Fn} {φ : D → D → Option D} {i j : Int} : ownQ c e φ (.int i) (.int j) = φ (.int i) (.int j) := rfl
@[simp] theorem ownQ_tup {c : Nat} {e : Fn} {φ : D → D → Option D} {i : List D} {j : D} : ownQ c e φ (.tup i) j = φ (.tup i) j := rfl
@[simp] theorem ownQ_lst {c : Nat} {e : Fn} {φ : D → D → Option D} {i : List D} {j : D} : ownQ c e φ (.lst i) j = φ (.lst i) j := rfl
@[simp] theorem ownQ_str {c : Nat} {e : Fn} {φ : D → D → Option D} {i : Str} {j : D} : ownQ c e φ (.str i) j = φ (.str i) j := rfl
@[simp] theorem ownQ_bl {c : Nat} {e : Fn} {φ : D → D → Option D} {i : Bool} {j : D} : ownQ c e φ (.bl i) j = φ (.bl i) j := rfl
@[simp] theorem ownQ_ii {c : Nat} {e : Fn} {φ : D → D → Option D} {i j : List D} : ownQ c e φ (.ins c i) (.ins c j) = (match e [.ins c i, .ins c j] with
    | some (.bl t, _) => some (.bl t)
    | _ => none) := by simp [ownQ] <;> rfl
@[simp] theorem ownQ_in {c : Nat} {e : Fn} {φ : D → D → Option D} {i : List D} {j : Int} : ownQ c e φ (.ins c i) (.int j) = (match e [.ins c i, .int j] with
    | some (.bl t, _) => some (.bl t)
    | _ => none) := by simp [ownQ, bare] <;> rfl
@[simp] theorem ownQ_ni {c : Nat} {e : Fn} {φ : D → D → Option D} {i : List D} {j : Int} : ownQ c e φ (.int j) (.ins c i) = (match e [.ins c i, .int j] with
    | some (.bl t, _) => some (.bl t)
    | _ => none) := by simp [ownQ, bare] <;> rfl
@[simp] theorem ownN_int {c : Nat} {e : Fn} {φ : D → D → Option D} {i : Int} {j : D} : ownN c e φ (.int i) j = φ (.int i) j := by cases j <;> rfl
@[simp] theorem ownN_tup {c : Nat} {e : Fn} {φ : D → D → Option D} {i : List D} {j : D} : ownN c e φ (.tup i) j = φ (.tup i) j := rfl
@[simp] theorem ownN_lst {c : Nat} {e : Fn} {φ : D → D → Option D} {i : List D} {j : D} : ownN c e φ (.lst i) j = φ (.lst i) j := rfl
@[simp] theorem ownN_str {c : Nat} {e : Fn} {φ : D → D → Option D} {i : Str} {j : D} : ownN c e φ (.str i) j = φ (.str i) j := rfl
@[simp] theorem ownN_ii {c : Nat} {e : Fn} {φ : D → D → Option D} {i j : List D} : ownN c e φ (.ins c i) (.ins c j) = (match e [.ins c i, .ins c j] with
    | some (.bl t, _) => some (.bl (!t))
    | _ => none) := by simp [ownN] <;> rfl
@[simp] theorem ownS_ins {c : Nat} {e : Fn} {φ : List D → Option D} {i : List D} : ownS c e φ [.ins c i] = (match e [.ins c i] with
    | some (.str t, _) => some (.str t)
    | _ => none) := by simp [ownS] <;> rfl
@[simp] theorem ownS_int {c : Nat} {e : Fn} {φ : List D → Option D} {i : Int} : ownS c e φ [.int i] = φ [.int i] := rfl
@[simp] theorem ownS_lst {c : Nat} {e : Fn} {φ : List D → Option D} {i : List D} : ownS c e φ [.lst i] = φ [.lst i] := rfl
@[simp] theorem ownU_ins {c : Nat} {e : Fn} {φ : D → Option D} {i : List D} : ownU c e φ (.ins c i) = (e [.ins c i]).map (·.1) := by simp [ownU]
@[simp] theorem ownU_int {c : Nat} {e : Fn} {φ : D → Option D} {i : Int} : ownU c e φ (.int i) = φ (.int i) := rfl
/-! equality of plain data -/
@[simp] theorem eqB_int {n : Bool} {i j : Int} : eqB n (.int i) (.int j) = some (.bl (n != decide (i = j))) := by
  simp [eqB, toPy, PyData.eqv, SeqAt.shaped, PyData.canLay0, PyData.depth]; rfl
@[simp] theorem eqB_pair {n : Bool} {i j k l : Int} : eqB n (.tup [.int i, .int j]) (.tup [.int k, .int l]) = some (.bl (n != (decide (i = k) && decide (j = l)))) := by
  simp [eqB, toPy, toPys, PyData.eqv, PyData.eqvAll, SeqAt.shaped, PyData.canLay0, PyData.canLayAll0, PyData.depth, PyData.depthAll]; rfl
@[simp] theorem eqB_bl {n : Bool} {i j : Bool} : eqB n (.bl i) (.bl j) = some (.bl (n != (i == j))) := by
  simp [eqB, toPy, PyData.eqv, SeqAt.shaped, PyData.canLay0, PyData.depth]
/-- data that may be compared -/
def okD (d : D) : Bool := match toPy d with
  | some p => SeqAt.shaped p
  | none => false
theorem eqB_self {n : Bool} {d : D} (h : okD d = true) : eqB n d d = some (.bl (!n)) := by
  unfold okD at h
  split at h
  · rename_i p e
    have c : p.canLay0 = true := by have := h; simp [SeqAt.shaped] at this; exact this.1
    have := SeqAt.eqv_refl p c
    cases n <;> simp [eqB, e, h, this]
  · cases h
@[simp] theorem strOk_of (s : String) : PyData.strOk (Str.ofString s) = true := by
  rw [Str.ofString_eq_toList]
  unfold PyData.strOk
  simp only [List.all_toArray, List.all_map, List.all_eq_true]
  intro c _
  have h : c.toNat < 0xd800 ∨ (0xdfff < c.toNat ∧ c.toNat < 0x110000) := c.valid
  have : c.toNat < 0x110000 := by omega
  simpa using this
@[simp] theorem strOk_app (x y : Str) : PyData.strOk (x ++ y) = (PyData.strOk x && PyData.strOk y) := by
  show PyData.strOk (Str.append x y) = _
  unfold PyData.strOk Str.append
  simp
@[simp] theorem strOk_ite {c : Prop} [Decidable c] (x y : Str) (h : PyData.strOk x = true) (k : PyData.strOk y = true) : PyData.strOk (if c then x else y) = true := by split <;> assumption
@[simp] theorem eqB_str {n : Bool} {x : Str} (h : PyData.strOk x = true) : eqB n (.str x) (.str x) = some (.bl (!n)) := eqB_self (by simp [okD, toPy, SeqAt.shaped, PyData.canLay0, PyData.depth, h])
@[simp] theorem held_und {ρ : List D} {i : Nat} : held ρ i = (match ρ[i]? with
  | some .und => false
  | some _ => true
  | none => false) := rfl
@[simp] theorem ixB_tup {xs : List D} {i : Int} : ixB (.tup xs) (.int i) = atI xs i := rfl
@[simp] theorem ixB_lst {xs : List D} {i : Int} : ixB (.lst xs) (.int i) = atI xs i := rfl
@[simp] theorem ixB_con {xs : List D} {i : Int} : ixB (.con xs) (.int i) = atI xs i := rfl
theorem ixN_nat {n k : Nat} : ixN n (k : Int) = if k < n then some k else none := by unfold ixN; split <;> simp_all
theorem atI_nat {xs : List D} {k : Nat} : atI xs (k : Int) = xs[k]? := by
  unfold atI; rw [ixN_nat]; split
  · rfl
  · simp; omega
@[simp] theorem ixN_0 {n : Nat} : ixN n 0 = if 0 < n then some 0 else none := ixN_nat (k := 0)
@[simp] theorem ixN_1 {n : Nat} : ixN n 1 = if 1 < n then some 1 else none := ixN_nat (k := 1)
@[simp] theorem ixN_2 {n : Nat} : ixN n 2 = if 2 < n then some 2 else none := ixN_nat (k := 2)
@[simp] theorem ixN_3 {n : Nat} : ixN n 3 = if 3 < n then some 3 else none := ixN_nat (k := 3)
@[simp] theorem atI_0 {xs : List D} : atI xs 0 = xs[0]? := atI_nat (k := 0)
@[simp] theorem atI_1 {xs : List D} : atI xs 1 = xs[1]? := atI_nat (k := 1)
@[simp] theorem atI_2 {xs : List D} : atI xs 2 = xs[2]? := atI_nat (k := 2)
@[simp] theorem atI_3 {xs : List D} : atI xs 3 = xs[3]? := atI_nat (k := 3)
/-- plain data of small depth -/
def Plain (k : Nat) (d : D) : Prop := ∃ p, toPy d = some p ∧ p.canLay0 = true ∧ p.depth ≤ k
def Plains (k : Nat) (ds : List D) : Prop := ∃ p, toPys ds = some p ∧ PyData.canLayAll0 p = true ∧ PyData.depthAll p ≤ k
theorem Plain.mono {k m : Nat} {d : D} (h : Plain k d) (l : k ≤ m) : Plain m d := by obtain ⟨p, a, b, c⟩ := h; exact ⟨p, a, b, by omega⟩
theorem eqB_refl {n : Bool} {d : D} {k : Nat} (h : Plain k d) (l : k ≤ 64) : eqB n d d = some (.bl (!n)) := by
  obtain ⟨p, e, c, dp⟩ := h
  have sh : SeqAt.shaped p = true := by simp [SeqAt.shaped, c]; omega
  have := SeqAt.eqv_refl p c
  cases n <;> simp [eqB, e, sh, this]
theorem Plain.int {i : Int} {k : Nat} : Plain k (.int i) := ⟨.int i, rfl, by simp [PyData.canLay0], by simp [PyData.depth]⟩
theorem Plain.bl {b : Bool} {k : Nat} : Plain k (.bl b) := ⟨.bool b, rfl, by simp [PyData.canLay0], by simp [PyData.depth]⟩
theorem Plain.non {k : Nat} : Plain k .non := ⟨.none, rfl, by simp [PyData.canLay0], by simp [PyData.depth]⟩
theorem Plain.str {x : Str} {k : Nat} (h : PyData.strOk x = true) : Plain k (.str x) := ⟨.str x, rfl, by simp [PyData.canLay0, h], by simp [PyData.depth]⟩
theorem Plains.nil {k : Nat} : Plains k [] := ⟨[], rfl, by simp [PyData.canLayAll0], by simp [PyData.depthAll]⟩
theorem Plains.cons {k : Nat} {d : D} {ds : List D} (h : Plain k d) (r : Plains k ds) : Plains k (d :: ds) := by
  obtain ⟨p, a, b, c⟩ := h
  obtain ⟨q, a', b', c'⟩ := r
  exact ⟨p :: q, by simp [toPys, a, a'], by simp [PyData.canLayAll0, b, b'], by simp [PyData.depthAll]; omega⟩
theorem Plain.tup {k : Nat} {ds : List D} (h : Plains k ds) : Plain (k + 1) (.tup ds) := by
  obtain ⟨p, a, b, c⟩ := h
  exact ⟨.tuple p, by simp [toPy, a], by simp [PyData.canLay0, b], by simp [PyData.depth]; omega⟩
theorem Plain.lst {k : Nat} {ds : List D} (h : Plains k ds) : Plain (k + 1) (.lst ds) := by
  obtain ⟨p, a, b, c⟩ := h
  exact ⟨.list p, by simp [toPy, a], by simp [PyData.canLay0, b], by simp [PyData.depth]; omega⟩
@[simp] theorem dProp_eq {c : Nat} {fn : Fn} {f : Den} : dProp c fn f = dMeth c fn f dNil := rfl
/-! texts -/
theorem ofString_app (s t : String) : Str.ofString (s ++ t) = Str.ofString s ++ Str.ofString t := by
  rw [Str.ofString_eq_toList, Str.ofString_eq_toList, Str.ofString_eq_toList]
  show _ = Str.append _ _
  unfold Str.append
  simp
theorem str_nil_app (x : Str) : Str.empty ++ x = x := by
  show Str.append _ _ = _
  unfold Str.append Str.empty
  simp
theorem str_app_nil (x : Str) : x ++ Str.ofString "" = x := by
  show Str.append _ _ = _
  rw [Str.ofString_eq_toList]
  unfold Str.append
  simp
theorem str_app_assoc (x y z : Str) : x ++ y ++ z = x ++ (y ++ z) := by
  show Str.append (Str.append _ _) _ = Str.append _ (Str.append _ _)
  unfold Str.append
  simp
theorem str_app_length (x y : Str) : (x ++ y).length = x.length + y.length := by
  show (Str.append x y).length = _
  unfold Str.append Str.length
  simp
/-! loops by induction -/
/-- a comprehension whose element is a function of its item -/
theorem compD_map {own : List Nat} {fg : DenG} {ft : DenT} {fe : Den} {ρ : List D} (e : D → D) : ∀ (ds acc : List D), (∀ d ∈ ds, ∃ ρ1 ρ2 ρ3, fg d ρ = some ρ1 ∧ ft ρ1 = some (true, ρ2) ∧ fe ρ2 = some (e d, ρ3) ∧ unset own ρ3 = ρ) → acc.length + ds.length ≤ 100000 →
    compD own fg ft fe ds acc ρ = some (acc ++ ds.map e, ρ)
  | [], acc, _, _ => by simp [compD]
  | d :: ds, acc, h, hl => by
    obtain ⟨ρ1, ρ2, ρ3, h1, h2, h3, h4⟩ := h d (List.mem_cons_self ..)
    rw [List.length_cons] at hl
    have := compD_map (own := own) (fg := fg) (ft := ft) (fe := fe) e ds (acc ++ [e d]) (fun d hd => h d (List.mem_cons_of_mem _ hd)) (by simp; omega)
    simp only [compD, h1, h2, h3, h4, this]
    rw [if_pos (by omega)]
    simp
/-- a loop by what holds between its turns -/
theorem forD_rel {fg : DenG} {fb : DenS} (P : List D → List D → Prop) (step : ∀ d ds ρ, P (d :: ds) ρ → ∃ ρ1 ρ2, fg d ρ = some ρ1 ∧ (fb ρ1 = some (.nx ρ2) ∨ fb ρ1 = some (.ct ρ2)) ∧ P ds ρ2) :
    ∀ (ds ρ : List D), P ds ρ → ∃ ρ', forD fg fb ds ρ = some (.nx ρ') ∧ P [] ρ'
  | [], ρ, h => ⟨ρ, rfl, h⟩
  | d :: ds, ρ, h => by
    obtain ⟨ρ1, ρ2, h1, h2, h3⟩ := step d ds ρ h
    obtain ⟨ρ', h4, h5⟩ := forD_rel P step ds ρ2 h3
    refine ⟨ρ', ?_, h5⟩
    rcases h2 with h2 | h2 <;> simp only [forD, h1, h2, h4]
/-- a comprehension whose element changes the state -/
theorem compD_ex {own : List Nat} {fg : DenG} {ft : DenT} {fe : Den} (P : List D → Prop) (R : D → Prop) : ∀ (ds acc ρ : List D), (∀ d ∈ ds, ∀ ρ, P ρ → ∃ ρ1 ρ2 ρ3 e, fg d ρ = some ρ1 ∧ ft ρ1 = some (true, ρ2) ∧ fe ρ2 = some (e, ρ3) ∧ P (unset own ρ3) ∧ R e) → P ρ → acc.length + ds.length ≤ 100000 →
    ∃ es ρ', compD own fg ft fe ds acc ρ = some (acc ++ es, ρ') ∧ P ρ' ∧ es.length = ds.length ∧ ∀ e ∈ es, R e
  | [], acc, ρ, _, hp, _ => ⟨[], ρ, by simp [compD], hp, rfl, fun e he => by cases he⟩
  | d :: ds, acc, ρ, h, hp, hl => by
    obtain ⟨ρ1, ρ2, ρ3, e, h1, h2, h3, h4, h5⟩ := h d (List.mem_cons_self ..) ρ hp
    rw [List.length_cons] at hl
    obtain ⟨es, ρ', q1, q2, q3, q4⟩ := compD_ex (own := own) (fg := fg) (ft := ft) (fe := fe) P R ds (acc ++ [e]) (unset own ρ3) (fun d hd => h d (List.mem_cons_of_mem _ hd)) h4 (by simp; omega)
    refine ⟨e :: es, ρ', ?_, q2, by simp [q3], fun x hx => ?_⟩
    · simp only [compD, h1, h2, h3, q1]
      rw [if_pos (by omega)]
      simp
    · rcases List.mem_cons.mp hx with rfl | hx
      · exact h5
      · exact q4 x hx
/-- a block, statement by statement -/
theorem seq_ex {f r : DenS} {ρ : List D} {Q : Option Fl → Prop} (h : ∃ ρ', f ρ = some (.nx ρ') ∧ Q (r ρ')) : Q (sSeq f r ρ) := by
  obtain ⟨ρ', e, q⟩ := h
  rw [sSeq_ap, e]; exact q
@[simp] theorem unset_nil {ρ : List D} : unset [] ρ = ρ := rfl
@[simp] theorem unset_cons {i : Nat} {r : List Nat} {ρ : List D} : unset (i :: r) ρ = (unset r ρ).set i .und := rfl
end DV

set_option maxRecDepth 100000
set_option maxHeartbeats 400000
set_option linter.all false
/-! DVM3: lists by their places, loops over them. -/
namespace DV
open PySem L2
/-- x 0, .., x (n - 1) -/
def fam {α : Type} (n : Nat) (x : Nat → α) : List α := (List.range n).map x
section
variable {α β : Type} {n i : Nat} {x y : Nat → α}
@[simp] theorem fam_len : (fam n x).length = n := by simp [fam]
@[simp] theorem fam_get : (fam n x)[i]? = if i < n then some (x i) else none := by
  unfold fam
  by_cases h : i < n <;> simp [h]
@[simp] theorem fam_getElem (h : i < (fam n x).length) : (fam n x)[i] = x i := by simp [fam]
theorem fam_ext (h : ∀ i, i < n → x i = y i) : fam n x = fam n y := List.map_congr_left fun i hi => h i (List.mem_range.mp hi)
theorem fam_of (l : List α) (d : α) : l = fam l.length fun i => l.getD i d := by
  refine List.ext_getElem? fun i => ?_
  rw [fam_get]
  by_cases h : i < l.length
  · rw [if_pos h, List.getElem?_eq_getElem h]; simp [List.getD, h]
  · rw [if_neg h, List.getElem?_eq_none (by omega)]
@[simp] theorem fam_set {v : α} : (fam n x).set i v = fam n fun j => if j = i then v else x j := by
  refine List.ext_getElem? fun j => ?_
  rw [fam_get, List.getElem?_set]
  simp only [fam_len, fam_get]
  by_cases h : i = j
  · subst h
    by_cases k : i < n <;> simp [k]
  · rw [if_neg h, if_neg (fun z : j = i => h z.symm)]
@[simp] theorem fam_map {f : α → β} : (fam n x).map f = fam n fun i => f (x i) := by simp [fam, Function.comp_def]
theorem fam_mem {a : α} : a ∈ fam n x ↔ ∃ i, i < n ∧ a = x i := by
  unfold fam
  rw [List.mem_map]
  exact ⟨fun ⟨i, h, e⟩ => ⟨i, List.mem_range.mp h, e.symm⟩, fun ⟨i, h, e⟩ => ⟨i, List.mem_range.mpr h, e.symm⟩⟩
theorem fam_succ : fam (n + 1) x = fam n x ++ [x n] := by simp [fam, List.range_succ]
theorem fam_cons : fam (n + 1) x = x 0 :: fam n fun i => x (i + 1) := by simp [fam, List.range_succ_eq_map, Function.comp_def]
@[simp] theorem fam_zero : fam 0 x = [] := rfl
theorem rng_fam : rngD 0 n = fam n fun i => D.int (i : Int) := by simp [rngD, fam]
end
theorem enum_fam {n : Nat} {x : Nat → D} : enumD (fam n x) = fam n fun i => .tup [.int (i : Int), x i] := by
  refine List.ext_getElem? fun j => ?_
  unfold enumD
  rw [List.getElem?_mapIdx, fam_get, fam_get]
  split <;> rfl
theorem zip_fam {n : Nat} {x y : Nat → D} : zipD (fam n x) (fam n y) = fam n fun i => .tup [x i, y i] := by
  refine List.ext_getElem? fun j => ?_
  unfold zipD
  rw [List.getElem?_map, fam_get, List.zip, List.getElem?_zipWith, fam_get, fam_get]
  by_cases h : j < n <;> simp [h]
theorem iRng_nat {r : Dens} {ρ ρ' : List D} {n : Nat} (h : r ρ = some ([.int (n : Int)], ρ')) (hn : n ≤ 100000) : iRng r ρ = some (fam n fun i => .int (i : Int), ρ') := by
  unfold iRng
  rw [h]
  have r : (-4611686018427387904 : Int) ≤ (n : Int) ∧ (n : Int) < 4611686018427387904 := ⟨by omega, by omega⟩
  show (if _ then some (rngD 0 (n : Int).toNat, ρ') else none) = _
  rw [if_pos r, Int.toNat_natCast, rng_fam]
theorem sFor_at {fi : Dens} {fg : DenG} {fb : DenS} {ρ ρ' : List D} {its : List D} (h : fi ρ = some (its, ρ')) : sFor fi fg fb ρ = forD fg fb its ρ' := by
  rw [sFor_ap, h]
theorem dComp_at {own : List Nat} {fi : Dens} {fg : DenG} {ft : DenT} {fe : Den} {ρ ρ' ρ2 : List D} {its es : List D} (h : fi ρ = some (its, ρ')) (h2 : compD own fg ft fe its [] (unset own ρ') = some (es, ρ2)) : dComp own fi fg ft fe ρ = some (.own es, ρ2) := by
  rw [dComp_ap, h]; dsimp only; rw [h2]
/-! step by step -/
theorem sIf_t {c : DenT} {a b : DenS} {ρ ρ' : List D} (h : c ρ = some (true, ρ')) : sIf c a b ρ = a ρ' := by rw [sIf_ap, h]
theorem sIf_f {c : DenT} {a b : DenS} {ρ ρ' : List D} (h : c ρ = some (false, ρ')) : sIf c a b ρ = b ρ' := by rw [sIf_ap, h]
theorem sSeq_nx {f r : DenS} {ρ ρ' : List D} (h : f ρ = some (.nx ρ')) : sSeq f r ρ = r ρ' := by rw [sSeq_ap, h]
theorem sSeq_rt {f r : DenS} {ρ ρ' : List D} {d : D} (h : f ρ = some (.rt d ρ')) : sSeq f r ρ = some (.rt d ρ') := by rw [sSeq_ap, h]
theorem sRet_at {f : Den} {ρ ρ' : List D} {d : D} (h : f ρ = some (d, ρ')) : sRet f ρ = some (.rt d ρ') := by rw [sRet_ap, h]
theorem semOf_rt {N : Nat} {f : DenS} {ds ρ : List D} {d : D} (h : f (ds ++ List.replicate (N - ds.length) .und) = some (.rt d ρ)) : semOf N false f ds = some (d, .non) := by
  rw [semOf_ap, h]; rfl
theorem semOf_mu {N : Nat} {f : DenS} {ds ρ : List D} {d o : D} (h : f (ds ++ List.replicate (N - ds.length) .und) = some (.rt d (o :: ρ))) (ho : o.isUnd = false) : semOf N true f ds = some (d, o) := by
  rw [semOf_ap, h]
  cases o <;> first | rfl | cases ho
theorem dCons_at {f : Den} {r : Dens} {ρ ρ1 ρ2 : List D} {d : D} {ds : List D} (h : f ρ = some (d, ρ1)) (k : r ρ1 = some (ds, ρ2)) : dCons f r ρ = some (d :: ds, ρ2) := by
  rw [dCons_ap, h]; dsimp only; rw [k]
theorem dNil_at {ρ : List D} : dNil ρ = some ([], ρ) := rfl
theorem dCallP_at {fn : Fn} {r : Dens} {ρ ρ' : List D} {ds : List D} {d o : D} (h : r ρ = some (ds, ρ')) (e : fn (ds.map fz) = some (d, o)) : dCallP fn r ρ = some (d, ρ') := by
  rw [dCallP_ap, h]; dsimp only; rw [e]
theorem dBlt_at {φ : List D → Option D} {r : Dens} {ρ ρ' : List D} {ds : List D} {d : D} (h : r ρ = some (ds, ρ')) (e : φ (ds.map fz) = some d) : dBlt φ r ρ = some (d, ρ') := by
  rw [dBlt_ap, h]; dsimp only; rw [e]
theorem sAsg_at {i : Nat} {f : Den} {ρ ρ' : List D} {d : D} (h : f ρ = some (d, ρ')) (hl : i < ρ'.length) : sAsg i f ρ = some (.nx (ρ'.set i d)) := by
  rw [sAsg_ap, h]; dsimp only; rw [if_pos hl]
theorem dLst_at {r : Dens} {ρ ρ' : List D} {ds : List D} (h : r ρ = some (ds, ρ')) (hl : ds.length ≤ 1000) : dLst r ρ = some (.own ds, ρ') := by
  rw [dLst_ap, h]; dsimp only; rw [if_pos hl]
theorem tOf_at {f : Den} {b : Bool} {ρ ρ' : List D} (h : f ρ = some (.bl b, ρ')) : tOf f ρ = some (b, ρ') := by rw [tOf_ap, h]
theorem tNot_t {t : DenT} {ρ ρ' : List D} (h : t ρ = some (true, ρ')) : tNotD t ρ = some (false, ρ') := by rw [tNotD_ap, h]; rfl
theorem tNot_f {t : DenT} {ρ ρ' : List D} (h : t ρ = some (false, ρ')) : tNotD t ρ = some (true, ρ') := by rw [tNotD_ap, h]; rfl
theorem tNot_at {t : DenT} {b : Bool} {ρ ρ' : List D} (h : t ρ = some (b, ρ')) : tNotD t ρ = some (!b, ρ') := by rw [tNotD_ap, h]
theorem tOr_t {f r : DenT} {ρ ρ' : List D} (h : f ρ = some (true, ρ')) : tOrD f r ρ = some (true, ρ') := by rw [tOrD_ap, h]
theorem tOr_f {f r : DenT} {ρ ρ' : List D} (h : f ρ = some (false, ρ')) : tOrD f r ρ = r ρ' := by rw [tOrD_ap, h]
theorem tAnd_t {f r : DenT} {ρ ρ' : List D} (h : f ρ = some (true, ρ')) : tAndD f r ρ = r ρ' := by rw [tAndD_ap, h]
theorem tAnd_f {f r : DenT} {ρ ρ' : List D} (h : f ρ = some (false, ρ')) : tAndD f r ρ = some (false, ρ') := by rw [tAndD_ap, h]
theorem dBin_at {φ : D → D → Option D} {f g : Den} {ρ ρ1 ρ2 : List D} {a b d : D} (h : f ρ = some (a, ρ1)) (k : g ρ1 = some (b, ρ2)) (e : φ (fz a) (fz b) = some d) : dBin φ f g ρ = some (d, ρ2) := by
  rw [dBin_ap, h]; dsimp only; rw [k]; dsimp only; rw [e]
theorem dBlt1_at {φ : List D → Option D} {f : Den} {ρ ρ1 : List D} {a d : D} (h : f ρ = some (a, ρ1)) (e : φ [fz a] = some d) : dBlt φ (dCons f dNil) ρ = some (d, ρ1) := by
  simp only [dBlt_ap, dCons_ap, h, dNil_ap, List.map_cons, List.map_nil, e]
/-! ### loops -/
section
variable {fg : DenG} {fb : DenS} {n : Nat} {x : Nat → D}
theorem forK (P : Nat → List D → Prop) : ∀ (k i : Nat), (∀ j, i ≤ j → j < i + k → ∀ ρ, P j ρ → ∃ ρ1 ρ2, fg (x j) ρ = some ρ1 ∧ (fb ρ1 = some (.nx ρ2) ∨ fb ρ1 = some (.ct ρ2)) ∧ P (j + 1) ρ2) → ∀ ρ, P i ρ → ∃ ρ', forD fg fb (fam k fun j => x (i + j)) ρ = some (.nx ρ') ∧ P (i + k) ρ'
  | 0, i, _, ρ, h => ⟨ρ, rfl, h⟩
  | k + 1, i, step, ρ, h => by
    obtain ⟨ρ1, ρ2, h1, h2, h3⟩ := step i (Nat.le_refl _) (by omega) ρ h
    obtain ⟨ρ', h4, h5⟩ := forK P k (i + 1) (fun j h1 h2 => step j (by omega) (by omega)) ρ2 h3
    rw [fam_cons]
    have e : (fam k fun j => x (i + (j + 1))) = fam k fun j => x (i + 1 + j) := fam_ext fun j _ => by rw [Nat.add_assoc, Nat.add_comm 1 j]
    refine ⟨ρ', ?_, by rw [show i + (k + 1) = i + 1 + k from by omega]; exact h5⟩
    rw [← e] at h4
    rcases h2 with h2 | h2 <;> simp only [forD, Nat.add_zero, h1, h2, h4]
/-- a loop over places -/
theorem forN (P : Nat → List D → Prop) (step : ∀ j, j < n → ∀ ρ, P j ρ → ∃ ρ1 ρ2, fg (x j) ρ = some ρ1 ∧ (fb ρ1 = some (.nx ρ2) ∨ fb ρ1 = some (.ct ρ2)) ∧ P (j + 1) ρ2) {ρ : List D} (h : P 0 ρ) : ∃ ρ', forD fg fb (fam n x) ρ = some (.nx ρ') ∧ P n ρ' := by
  obtain ⟨ρ', e, q⟩ := forK (x := x) P n 0 (fun j _ h2 => step j (by omega)) ρ h
  simp only [Nat.zero_add] at e q
  exact ⟨ρ', e, q⟩
theorem forL (b : Nat → Bool) (P : Nat → List D → Prop) : ∀ (k i : Nat), (∀ j, i ≤ j → j < i + k → ∀ ρ, P j ρ → ∃ ρ1, fg (x j) ρ = some ρ1 ∧ ((b j = true ∧ ∃ ρ2, fb ρ1 = some (.nx ρ2) ∧ P (j + 1) ρ2) ∨ (b j = false ∧ ∃ ρ2, fb ρ1 = some (.rt (.bl false) ρ2)))) → ∀ ρ, P i ρ →
    ((∀ j, i ≤ j → j < i + k → b j = true) ∧ ∃ ρ', forD fg fb (fam k fun j => x (i + j)) ρ = some (.nx ρ') ∧ P (i + k) ρ') ∨ ((∃ j, i ≤ j ∧ j < i + k ∧ b j = false) ∧ ∃ ρ', forD fg fb (fam k fun j => x (i + j)) ρ = some (.rt (.bl false) ρ'))
  | 0, i, _, ρ, h => .inl ⟨fun j _ _ => by omega, ρ, rfl, h⟩
  | k + 1, i, step, ρ, h => by
    have e : (fam k fun j => x (i + (j + 1))) = fam k fun j => x (i + 1 + j) := fam_ext fun j _ => by rw [Nat.add_assoc, Nat.add_comm 1 j]
    rw [fam_cons]
    obtain ⟨ρ1, h1, h2⟩ := step i (Nat.le_refl _) (by omega) ρ h
    rcases h2 with ⟨b1, ρ2, h2, h3⟩ | ⟨b1, ρ2, h2⟩
    · rcases forL b P k (i + 1) (fun j h1 h2 => step j (by omega) (by omega)) ρ2 h3 with ⟨q, ρ', h4, h5⟩ | ⟨⟨j, q1, q2, q3⟩, ρ', h4⟩
      · refine .inl ⟨fun j a c => ?_, ρ', ?_, by rw [show i + (k + 1) = i + 1 + k from by omega]; exact h5⟩
        · by_cases z : j = i
          · subst z; exact b1
          · exact q j (by omega) (by omega)
        · rw [← e] at h4
          simp only [forD, Nat.add_zero, h1, h2, h4]
      · refine .inr ⟨⟨j, by omega, by omega, q3⟩, ρ', ?_⟩
        rw [← e] at h4
        simp only [forD, Nat.add_zero, h1, h2, h4]
    · exact .inr ⟨⟨i, Nat.le_refl _, by omega, b1⟩, ρ2, by simp only [forD, Nat.add_zero, h1, h2]⟩
/-- a loop that ends with False at the first bad place -/
theorem forB (b : Nat → Bool) (P : Nat → List D → Prop) (step : ∀ j, j < n → ∀ ρ, P j ρ → ∃ ρ1, fg (x j) ρ = some ρ1 ∧ ((b j = true ∧ ∃ ρ2, fb ρ1 = some (.nx ρ2) ∧ P (j + 1) ρ2) ∨ (b j = false ∧ ∃ ρ2, fb ρ1 = some (.rt (.bl false) ρ2)))) {ρ : List D} (h : P 0 ρ) :
    ((∀ j, j < n → b j = true) ∧ ∃ ρ', forD fg fb (fam n x) ρ = some (.nx ρ') ∧ P n ρ') ∨ ((∃ j, j < n ∧ b j = false) ∧ ∃ ρ', forD fg fb (fam n x) ρ = some (.rt (.bl false) ρ')) := by
  have := forL (x := x) b P n 0 (fun j _ h2 => step j (by omega)) ρ h
  simp only [Nat.zero_add] at this
  rcases this with ⟨a, c⟩ | ⟨⟨j, _, a, c⟩, d⟩
  · exact .inl ⟨fun j hj => a j (Nat.zero_le _) hj, c⟩
  · exact .inr ⟨⟨j, a, c⟩, d⟩
end
/-- a comprehension over places -/
theorem compK {own : List Nat} {fg : DenG} {ft : DenT} {fe : Den} {x : Nat → D} (P : List D → Prop) (R : Nat → D → Prop) : ∀ (k i : Nat) (acc : List D) (ρ : List D),
    (∀ j, i ≤ j → j < i + k → ∀ ρ, P ρ → ∃ ρ1 ρ2 ρ3 e, fg (x j) ρ = some ρ1 ∧ ft ρ1 = some (true, ρ2) ∧ fe ρ2 = some (e, ρ3) ∧ P (unset own ρ3) ∧ R j e) → P ρ → acc.length + k ≤ 100000 →
    ∃ (y : Nat → D) (ρ' : List D), compD own fg ft fe (fam k fun j => x (i + j)) acc ρ = some (acc ++ fam k (fun j => y (i + j)), ρ') ∧ P ρ' ∧ ∀ j, i ≤ j → j < i + k → R j (y j)
  | 0, i, acc, ρ, _, hp, _ => ⟨fun _ => .non, ρ, by simp [compD], hp, fun j _ _ => by omega⟩
  | k + 1, i, acc, ρ, h, hp, hl => by
    obtain ⟨ρ1, ρ2, ρ3, e, h1, h2, h3, h4, h5⟩ := h i (Nat.le_refl _) (by omega) ρ hp
    obtain ⟨y, ρ', q1, q2, q3⟩ := compK (x := x) (own := own) (fg := fg) (ft := ft) (fe := fe) P R k (i + 1) (acc ++ [e]) (unset own ρ3) (fun j a c => h j (by omega) (by omega)) h4 (by simp; omega)
    have ex : (fam k fun j => x (i + (j + 1))) = fam k fun j => x (i + 1 + j) := fam_ext fun j _ => by rw [Nat.add_assoc, Nat.add_comm 1 j]
    have ey : (fam k fun j => (fun m => if m = i then e else y m) (i + (j + 1))) = fam k fun j => y (i + 1 + j) := fam_ext fun j _ => by
      show (if i + (j + 1) = i then e else y (i + (j + 1))) = _
      rw [if_neg (by omega), Nat.add_assoc, Nat.add_comm 1 j]
    refine ⟨fun m => if m = i then e else y m, ρ', ?_, q2, fun j a c => ?_⟩
    · rw [fam_cons, fam_cons, ex, ey]
      simp only [compD, Nat.add_zero, h1, h2, h3, q1]
      rw [if_pos (by omega)]
      simp
    · by_cases z : j = i
      · subst z; simp only [if_true]; exact h5
      · simp only [z, if_false]; exact q3 j (by omega) (by omega)
theorem compF {own : List Nat} {fg : DenG} {ft : DenT} {fe : Den} {n : Nat} {x : Nat → D} (P : List D → Prop) (R : Nat → D → Prop) (h : ∀ j, j < n → ∀ ρ, P ρ → ∃ ρ1 ρ2 ρ3 e, fg (x j) ρ = some ρ1 ∧ ft ρ1 = some (true, ρ2) ∧ fe ρ2 = some (e, ρ3) ∧ P (unset own ρ3) ∧ R j e) {ρ : List D} (hp : P ρ) (hn : n ≤ 100000) :
    ∃ (y : Nat → D) (ρ' : List D), compD own fg ft fe (fam n x) [] ρ = some (fam n y, ρ') ∧ P ρ' ∧ ∀ j, j < n → R j (y j) := by
  obtain ⟨y, ρ', a, b, c⟩ := compK (x := x) (own := own) (fg := fg) (ft := ft) (fe := fe) P R n 0 [] ρ (fun j _ k => h j (by omega)) hp (by simpa using hn)
  simp only [Nat.zero_add, List.nil_append] at a c
  exact ⟨y, ρ', a, b, fun j hj => c j (Nat.zero_le _) hj⟩
/-- a comprehension that changes nothing -/
theorem compC {own : List Nat} {fg : DenG} {ft : DenT} {fe : Den} {n : Nat} {x : Nat → D} {ρ : List D} (y : Nat → D) (h : ∀ j, j < n → ∃ ρ1 ρ2 ρ3, fg (x j) ρ = some ρ1 ∧ ft ρ1 = some (true, ρ2) ∧ fe ρ2 = some (y j, ρ3) ∧ unset own ρ3 = ρ) (hn : n ≤ 100000) :
    compD own fg ft fe (fam n x) [] ρ = some (fam n y, ρ) := by
  obtain ⟨z, ρ', a, b, c⟩ := compF (own := own) (fg := fg) (ft := ft) (fe := fe) (x := x) (fun ρ' => ρ' = ρ) (fun j e => e = y j) (fun j hj ρ' e => by
    subst e
    obtain ⟨ρ1, ρ2, ρ3, h1, h2, h3, h4⟩ := h j hj
    exact ⟨ρ1, ρ2, ρ3, _, h1, h2, h3, h4, rfl⟩) rfl hn
  subst b
  rw [a, fam_ext c]
instance : Inhabited D := ⟨.non⟩
/-- functions out of what is there at each place -/
theorem pick_fn {α : Type} [Inhabited α] {n : Nat} {R : Nat → α → Prop} (h : ∀ j, j < n → ∃ a, R j a) : ∃ f : Nat → α, ∀ j, j < n → R j (f j) := by
  refine ⟨fun j => if hj : j < n then (h j hj).choose else default, fun j hj => ?_⟩
  simp only [hj, dif_pos]
  exact (h j hj).choose_spec
/-! ### sums -/
def sumQ : Nat → (Nat → Rat) → Rat
  | 0, _ => 0
  | n + 1, f => sumQ n f + f n
section
variable {n m : Nat} {f h : Nat → Rat} {c : Rat}
theorem sumQ_congr : ∀ {n : Nat}, (∀ i, i < n → f i = h i) → sumQ n f = sumQ n h
  | 0, _ => rfl
  | n + 1, e => by rw [sumQ, sumQ, sumQ_congr fun i hi => e i (by omega), e n (by omega)]
theorem sumQ_add : ∀ {n : Nat}, sumQ n (fun i => f i + h i) = sumQ n f + sumQ n h
  | 0 => by simp only [sumQ]; grind
  | n + 1 => by rw [sumQ, sumQ, sumQ, sumQ_add]; grind
theorem sumQ_sub : ∀ {n : Nat}, sumQ n (fun i => f i - h i) = sumQ n f - sumQ n h
  | 0 => by simp only [sumQ]; grind
  | n + 1 => by rw [sumQ, sumQ, sumQ, sumQ_sub]; grind
theorem sumQ_mul : ∀ {n : Nat}, sumQ n (fun i => c * f i) = c * sumQ n f
  | 0 => by simp only [sumQ]; grind
  | n + 1 => by rw [sumQ, sumQ, sumQ_mul]; grind
theorem sumQ_zero : ∀ {n : Nat}, sumQ n (fun _ => 0) = 0
  | 0 => rfl
  | n + 1 => by rw [sumQ, sumQ_zero]; grind
theorem sumQ_comm {f : Nat → Nat → Rat} : ∀ {n : Nat}, sumQ n (fun i => sumQ m fun j => f i j) = sumQ m fun j => sumQ n fun i => f i j
  | 0 => by simp only [sumQ]; rw [sumQ_zero]
  | n + 1 => by
    simp only [sumQ]
    rw [sumQ_comm (n := n), ← sumQ_add]
end
end DV

set_option maxRecDepth 100000
set_option linter.all false
namespace K31M
open PySem L2 DV K31D
@[simp] theorem isint_int (i : Int) : f_is_integer [.int i] = some (.bl true, .non) := by
  simp [f_is_integer, d_is_integer, isOne, kinds]
@[simp] theorem told_int (i : Int) : f_told_pair [.int i] = some (.tup [.int i, .int 1], .non) := by
  simp [f_told_pair, d_told_pair, isOne, kinds]
@[simp] theorem told_rat (t b : Int) : f_told_pair [.ins 4 [.int t, .int b]] = some (.tup [.int t, .int b], .non) := by
  simp [f_told_pair, d_told_pair, isOne, kinds]
/-- Euclid -/
def gcdC (x y : Nat) : DenT := (tOf (dBin (cmpB fun i j => decide (j < i)) (dVar y) (dCst (.int 0))))
def gcdB (x y : Nat) : DenS := (sSeq (sPar x y (dCons (dVar y) (dCons (dBin modB (dBlt intB (dCons (dVar x) dNil)) (dVar y)) dNil)))
  sEnd)
theorem fmod_nat (a b : Nat) : (a : Int).fmod b = ((a % b : Nat) : Int) := by rw [Int.fmod_eq_emod_of_nonneg _ (by omega)]; simp
theorem gcd_loop (a b : Nat) : sWhile (gcdC 0 1) (gcdB 0 1) [.int a, .int b] = some (.nx [.int (Nat.gcd a b), .int 0]) := by
  induction b using Nat.strongRecOn generalizing a with
  | _ b ih =>
    by_cases h : b = 0
    · subst h
      rw [sWhile_f (ρ1 := [.int a, .int 0]) (by simp [gcdC])]
      simp
    · have hb : 0 < b := Nat.pos_of_ne_zero h
      rw [sWhile_t (ρ1 := [.int a, .int b]) (ρ2 := [.int b, .int (a % b : Nat)]) (by simp [gcdC, hb]) (by simp [gcdB, h, fmod_nat]), ih _ (Nat.mod_lt _ hb), Nat.gcd_comm a b, Nat.gcd_rec b a, Nat.gcd_comm]
theorem abs_nat (i : Int) : (if i < 0 then -i else i) = (i.natAbs : Int) := by omega
@[simp] theorem common (a b : Int) : f_common_part [.int a, .int b] = some (.int (Int.gcd a b), .non) := by
  have h := gcd_loop a.natAbs b.natAbs
  unfold gcdC gcdB at h
  simp only [f_common_part, d_common_part, semOf_ap, sSeq_ap, sPar_ap, dCons_ap, dBlt_ap, dVar_ap]
  simp [abs_nat]
  rw [h]
  simp [Int.gcd]
/-- the part that is divided out -/
def cpart (t b : Int) : Int := if b < 0 then 0 - (Int.gcd t b : Int) else (Int.gcd t b : Int)
def lowT (t b : Int) : Int := t.fdiv (cpart t b)
def lowB (t b : Int) : Int := b.fdiv (cpart t b)
theorem cpart_ne {t b : Int} (h : b ≠ 0) : cpart t b ≠ 0 := by
  have := Int.gcd_ne_zero_right (a := t) h
  unfold cpart; split <;> omega
theorem cpart_sm {t b : Int} {n : Nat} (h : b ≠ 0) (k : Sm n b) : Sm n (cpart t b) := by
  have h1 : Int.gcd t b ≤ b.natAbs := Nat.le_of_dvd (by omega) (Int.gcd_dvd_natAbs_right ..)
  unfold Sm cpart at *
  split <;> omega
theorem cpart_ok {t b : Int} {n : Nat} (h : b ≠ 0) (k : Sm n b) (l : n < 9000) : DvOk (cpart t b) := (cpart_sm h k).divOk (cpart_ne h) l
abbrev rat (t b : Int) : D := .ins 4 [.int t, .int b]
theorem init_eq {t b : Int} {n : Nat} (h : b ≠ 0) (k : Sm n b) (l : n < 9000) : f_Ratio___init [.obj 4 [], .int t, .int b] = some (.non, .obj 4 [.int (lowT t b), .int (lowB t b)]) := by
  have hd := cpart_ok (t := t) h k l
  by_cases q : b < 0
  · have e : cpart t b = 0 - (Int.gcd t b : Int) := if_pos q
    unfold lowT lowB
    rw [e] at hd ⊢
    simp [f_Ratio___init, d_Ratio___init, h, q, outD] at hd ⊢
    simp [hd]
  · have e : cpart t b = (Int.gcd t b : Int) := if_neg q
    unfold lowT lowB
    rw [e] at hd ⊢
    simp [f_Ratio___init, d_Ratio___init, h, q, outD, hd]

/-! lowest terms -/
theorem cpart_dvd_l {t b : Int} : cpart t b ∣ t := by
  unfold cpart; split
  · rw [Int.zero_sub, Int.neg_dvd]; exact Int.gcd_dvd_left ..
  · exact Int.gcd_dvd_left ..
theorem cpart_dvd_r {t b : Int} : cpart t b ∣ b := by
  unfold cpart; split
  · rw [Int.zero_sub, Int.neg_dvd]; exact Int.gcd_dvd_right ..
  · exact Int.gcd_dvd_right ..
theorem lowT_mul {t b : Int} : lowT t b * cpart t b = t := Int.fdiv_mul_cancel cpart_dvd_l
theorem lowB_mul {t b : Int} : lowB t b * cpart t b = b := Int.fdiv_mul_cancel cpart_dvd_r
theorem natAbs_le_of_mul {a c x : Int} (h : a * c = x) (hc : c ≠ 0) : a.natAbs ≤ x.natAbs := by
  rw [← h, Int.natAbs_mul]
  exact Nat.le_mul_of_pos_right _ (by omega)
theorem lowT_sm {t b : Int} {n : Nat} (h : b ≠ 0) (k : Sm n t) : Sm n (lowT t b) := k.le (natAbs_le_of_mul lowT_mul (cpart_ne h))
theorem lowB_sm {t b : Int} {n : Nat} (h : b ≠ 0) (k : Sm n b) : Sm n (lowB t b) := k.le (natAbs_le_of_mul lowB_mul (cpart_ne h))
theorem lowB_pos {t b : Int} (h : b ≠ 0) : 0 < lowB t b := by
  have e := lowB_mul (t := t) (b := b)
  have c := Int.gcd_ne_zero_right (a := t) h
  rcases Int.lt_trichotomy (lowB t b) 0 with q | q | q
  · exfalso
    by_cases hb : b < 0
    · have e2 : cpart t b = 0 - (Int.gcd t b : Int) := if_pos hb
      have : 0 < lowB t b * cpart t b := Int.mul_pos_of_neg_of_neg q (by omega)
      omega
    · have e2 : cpart t b = (Int.gcd t b : Int) := if_neg hb
      have : lowB t b * cpart t b < 0 := Int.mul_neg_of_neg_of_pos q (by omega)
      omega
  · rw [q, Int.zero_mul] at e; omega
  · exact q
theorem low_self {t b : Int} (h : 0 < b) (g : Int.gcd t b = 1) : lowT t b = t ∧ lowB t b = b := by
  have e : cpart t b = 1 := by unfold cpart; rw [if_neg (by omega), g]; rfl
  unfold lowT lowB
  rw [e]; simp
theorem low_gcd {t b : Int} (h : b ≠ 0) : Int.gcd (lowT t b) (lowB t b) = 1 := by
  have c : (cpart t b).natAbs = Int.gcd t b := by unfold cpart; split <;> omega
  have p : 0 < Int.gcd t b := Int.gcd_pos_of_ne_zero_right t h
  have e : Int.gcd (lowT t b * cpart t b) (lowB t b * cpart t b) = Int.gcd (lowT t b) (lowB t b) * (cpart t b).natAbs := Int.gcd_mul_right ..
  rw [lowT_mul, lowB_mul, c] at e
  have : Int.gcd (lowT t b) (lowB t b) * Int.gcd t b = 1 * Int.gcd t b := by omega
  exact Nat.eq_of_mul_eq_mul_right p this
/-- a fraction with a bottom above 0, of small parts -/
structure RS (n : Nat) (t b : Int) : Prop where
  st : Sm n t
  sb : Sm n b
  p : 0 < b
theorem RS.mono {n m : Nat} {t b : Int} (h : RS n t b) (k : n ≤ m) : RS m t b := ⟨h.st.mono k, h.sb.mono k, h.p⟩
theorem RS.low {n : Nat} {t b : Int} (h : b ≠ 0) (k : Sm n t) (k' : Sm n b) : RS n (lowT t b) (lowB t b) := ⟨lowT_sm h k, lowB_sm h k', lowB_pos h⟩
/-- a NUMBER and its parts -/
inductive Num : D → Int → Int → Prop
  | rat {t b} : Num (rat t b) t b
  | int {x} : Num (.int x) x 1
abbrev rlow (t b : Int) : D := .obj 4 [.int (lowT t b), .int (lowB t b)]
section
variable {t b t' b' x : Int} {n m : Nat} {d : D}
theorem add_sm (h : RS n t b) (k : RS m t' b') : Sm (n + m + 1) (t * b' + t' * b) := ((h.st.mul k.sb).add (k.st.mul h.sb)).mono (by omega)
theorem sub_sm (h : RS n t b) (k : RS m t' b') : Sm (n + m + 1) (t * b' - t' * b) := ((h.st.mul k.sb).sub (k.st.mul h.sb)).mono (by omega)
theorem tt_sm (h : RS n t b) (k : RS m t' b') : Sm (n + m + 1) (t * t') := (h.st.mul k.st).mono (by omega)
theorem tb_sm (h : RS n t b) (k : RS m t' b') : Sm (n + m + 1) (t * b') := (h.st.mul k.sb).mono (by omega)
theorem bt_sm (h : RS n t b) (k : RS m t' b') : Sm (n + m + 1) (b * t') := (h.sb.mul k.st).mono (by omega)
theorem bb_sm (h : RS n t b) (k : RS m t' b') : Sm (n + m + 1) (b * b') := (h.sb.mul k.sb).mono (by omega)
theorem bb_ne (h : RS n t b) (k : RS m t' b') : b * b' ≠ 0 := by have := Int.mul_pos h.p k.p; omega
theorem one_sm : Sm 1 1 := by unfold Sm; decide
theorem r_add (h : RS n t b) (k : RS m t' b') (q : Num d t' b') (l : n + m < 8000) : f_Ratio___add [rat t b, d] = some (rlow (t * b' + t' * b) (b * b'), .non) := by
  have hi := init_eq (t := t * b' + t' * b) (b := b * b') (bb_ne h k) (bb_sm h k) (by omega)
  have m1 : MuOk t b' := h.st.mulOk k.sb (by omega)
  have m2 : MuOk t' b := k.st.mulOk h.sb (by omega)
  have m3 : MuOk b b' := h.sb.mulOk k.sb (by omega)
  cases q <;> (try simp only [Int.mul_one, Int.one_mul] at *) <;> simp [f_Ratio___add, d_Ratio___add, gTs, m1, m2, m3, hi]
theorem r_radd (h : RS n t b) (k : RS m t' b') (q : Num d t' b') (l : n + m < 8000) : f_Ratio___radd [rat t b, d] = some (rlow (t * b' + t' * b) (b * b'), .non) := by
  have hi := init_eq (t := t * b' + t' * b) (b := b * b') (bb_ne h k) (bb_sm h k) (by omega)
  have m1 : MuOk t b' := h.st.mulOk k.sb (by omega)
  have m2 : MuOk t' b := k.st.mulOk h.sb (by omega)
  have m3 : MuOk b b' := h.sb.mulOk k.sb (by omega)
  cases q <;> (try simp only [Int.mul_one, Int.one_mul] at *) <;> simp [f_Ratio___radd, d_Ratio___radd, gTs, m1, m2, m3, hi]
theorem r_sub (h : RS n t b) (k : RS m t' b') (q : Num d t' b') (l : n + m < 8000) : f_Ratio___sub [rat t b, d] = some (rlow (t * b' - t' * b) (b * b'), .non) := by
  have hi := init_eq (t := t * b' - t' * b) (b := b * b') (bb_ne h k) (bb_sm h k) (by omega)
  have m1 : MuOk t b' := h.st.mulOk k.sb (by omega)
  have m2 : MuOk t' b := k.st.mulOk h.sb (by omega)
  have m3 : MuOk b b' := h.sb.mulOk k.sb (by omega)
  cases q <;> (try simp only [Int.mul_one, Int.one_mul] at *) <;> simp [f_Ratio___sub, d_Ratio___sub, gTs, m1, m2, m3, hi]
theorem r_rsub (h : RS n t b) (k : RS m t' b') (q : Num d t' b') (l : n + m < 8000) : f_Ratio___rsub [rat t b, d] = some (rlow (t' * b - t * b') (b * b'), .non) := by
  have hi := init_eq (t := t' * b - t * b') (b := b * b') (bb_ne h k) (bb_sm h k) (by omega)
  have m1 : MuOk t b' := h.st.mulOk k.sb (by omega)
  have m2 : MuOk t' b := k.st.mulOk h.sb (by omega)
  have m3 : MuOk b b' := h.sb.mulOk k.sb (by omega)
  cases q <;> (try simp only [Int.mul_one, Int.one_mul] at *) <;> simp [f_Ratio___rsub, d_Ratio___rsub, gTs, m1, m2, m3, hi]
theorem r_mul (h : RS n t b) (k : RS m t' b') (q : Num d t' b') (l : n + m < 8000) : f_Ratio___mul [rat t b, d] = some (rlow (t * t') (b * b'), .non) := by
  have hi := init_eq (t := t * t') (b := b * b') (bb_ne h k) (bb_sm h k) (by omega)
  have m1 : MuOk t t' := h.st.mulOk k.st (by omega)
  have m2 : MuOk b b' := h.sb.mulOk k.sb (by omega)
  cases q <;> (try simp only [Int.mul_one, Int.one_mul] at *) <;> simp [f_Ratio___mul, d_Ratio___mul, gTs, m1, m2, hi]
theorem r_rmul (h : RS n t b) (k : RS m t' b') (q : Num d t' b') (l : n + m < 8000) : f_Ratio___rmul [rat t b, d] = some (rlow (t * t') (b * b'), .non) := by
  have hi := init_eq (t := t * t') (b := b * b') (bb_ne h k) (bb_sm h k) (by omega)
  have m1 : MuOk t t' := h.st.mulOk k.st (by omega)
  have m2 : MuOk b b' := h.sb.mulOk k.sb (by omega)
  cases q <;> (try simp only [Int.mul_one, Int.one_mul] at *) <;> simp [f_Ratio___rmul, d_Ratio___rmul, gTs, m1, m2, hi]
theorem r_eq_rat : f_Ratio___eq [rat t b, rat t' b'] = some (.bl (decide (t = t') && decide (b = b')), .non) := by
  by_cases e : t = t' <;> simp [f_Ratio___eq, d_Ratio___eq, isOne, e]
theorem r_eq_int : f_Ratio___eq [rat t b, .int x] = some (.bl false, .non) := by
  simp [f_Ratio___eq, d_Ratio___eq, isOne]
@[simp] theorem r_top : f_Ratio_top [.ins 4 [.int t, .int b]] = some (.int t, .non) := by simp [f_Ratio_top, d_Ratio_top]
@[simp] theorem r_bottom : f_Ratio_bottom [.ins 4 [.int t, .int b]] = some (.int b, .non) := by simp [f_Ratio_bottom, d_Ratio_bottom]
end
/-! ### numbers -/
abbrev ratD (q : Rat) : D := .ins 4 [.int q.num, .int (q.den : Int)]
abbrev ratO (q : Rat) : D := .obj 4 [.int q.num, .int (q.den : Int)]
theorem fz_ratO {q : Rat} : fz (ratO q) = ratD q := by simp
theorem low_rat {t b : Int} (h : b ≠ 0) : lowT t b = (Rat.divInt t b).num ∧ lowB t b = ((Rat.divInt t b).den : Int) := by
  have hp := lowB_pos (t := t) h
  have hg := low_gcd (t := t) h
  obtain ⟨k, hk⟩ := Int.eq_ofNat_of_zero_le (Int.le_of_lt hp)
  have hk0 : k ≠ 0 := by omega
  have hc : (lowT t b).natAbs.Coprime k := by
    have : Int.gcd (lowT t b) k = 1 := by rw [← hg, hk]
    simpa [Int.gcd] using this
  have e : (⟨lowT t b, k, hk0, hc⟩ : Rat) = Rat.divInt t b := by
    rw [Rat.mk_eq_divInt, Rat.divInt_eq_divInt_iff (by omega) h, ← hk]
    have h1 := lowT_mul (t := t) (b := b)
    have h2 := lowB_mul (t := t) (b := b)
    calc lowT t b * b = lowT t b * (lowB t b * cpart t b) := by rw [h2]
      _ = (lowT t b * cpart t b) * lowB t b := by rw [Int.mul_comm (lowB t b), Int.mul_assoc]
      _ = t * lowB t b := by rw [h1]
  rw [← e]
  exact ⟨rfl, hk⟩
theorem rlow_rat {t b : Int} (h : b ≠ 0) : rlow t b = ratO (Rat.divInt t b) := by
  show D.obj 4 [.int (lowT t b), .int (lowB t b)] = _
  rw [(low_rat h).1, (low_rat h).2]
/-- a number of small parts -/
structure RQ (n : Nat) (q : Rat) : Prop where
  s : RS n q.num q.den
theorem RQ.mono {n m : Nat} {q : Rat} (h : RQ n q) (k : n ≤ m) : RQ m q := ⟨h.s.mono k⟩
theorem RQ.of {n : Nat} {q : Rat} (h : Sm n q.num) (k : Sm n q.den) : RQ n q := ⟨h, k, by have := q.den_pos; omega⟩
theorem RQ.low {n : Nat} {t b : Int} (h : b ≠ 0) (k : Sm n t) (k' : Sm n b) : RQ n (Rat.divInt t b) := by
  have := RS.low h k k'
  rw [(low_rat (t := t) h).1, (low_rat (t := t) h).2] at this
  exact ⟨this⟩
theorem RQ.int {n : Nat} {x : Int} (h : Sm (n + 1) x) : RQ (n + 1) (x : Rat) := ⟨by rw [Rat.num_intCast, Rat.den_intCast]; exact ⟨h, one_sm.mono (by omega), by decide⟩⟩
/-- a NUMBER -/
inductive NumQ : D → Rat → Prop
  | rat {q} : NumQ (ratD q) q
  | int {x : Int} : NumQ (.int x) (x : Rat)
theorem NumQ.num {d : D} {q : Rat} (h : NumQ d q) : Num d q.num q.den := by
  cases h with
  | rat => exact .rat
  | int => rw [Rat.num_intCast, Rat.den_intCast]; exact .int
theorem divInt_add' (p q : Rat) : Rat.divInt (p.num * q.den + q.num * p.den) (p.den * q.den) = p + q := by
  rw [← Rat.divInt_add_divInt _ _ (by have := p.den_pos; omega) (by have := q.den_pos; omega), Rat.num_divInt_den, Rat.num_divInt_den]
theorem divInt_sub' (p q : Rat) : Rat.divInt (p.num * q.den - q.num * p.den) (p.den * q.den) = p - q := by
  rw [← Rat.divInt_sub_divInt _ _ (by have := p.den_pos; omega) (by have := q.den_pos; omega), Rat.num_divInt_den, Rat.num_divInt_den]
theorem divInt_mul' (p q : Rat) : Rat.divInt (p.num * q.num) (p.den * q.den) = p * q := by
  rw [← Rat.divInt_mul_divInt, Rat.num_divInt_den, Rat.num_divInt_den]
theorem dd_ne (p q : Rat) : (p.den : Int) * q.den ≠ 0 := by have := Int.mul_pos (a := p.den) (b := q.den) (by have := p.den_pos; omega) (by have := q.den_pos; omega); omega
section
variable {p q : Rat} {n m : Nat} {d : D} {x : Int}
theorem RQ.add (h : RQ n p) (k : RQ m q) : RQ (n + m + 1) (p + q) := by
  have := RQ.low (dd_ne p q) (add_sm h.s k.s) (bb_sm h.s k.s)
  rwa [divInt_add'] at this
theorem RQ.sub (h : RQ n p) (k : RQ m q) : RQ (n + m + 1) (p - q) := by
  have := RQ.low (dd_ne p q) (sub_sm h.s k.s) (bb_sm h.s k.s)
  rwa [divInt_sub'] at this
theorem RQ.mul (h : RQ n p) (k : RQ m q) : RQ (n + m + 1) (p * q) := by
  have := RQ.low (dd_ne p q) (tt_sm h.s k.s) (bb_sm h.s k.s)
  rwa [divInt_mul'] at this
theorem q_add (h : RQ n p) (k : RQ m q) (c : NumQ d q) (l : n + m < 8000) : f_Ratio___add [ratD p, d] = some (ratO (p + q), .non) := by
  rw [r_add h.s k.s c.num l, rlow_rat (dd_ne p q), divInt_add']
theorem q_radd (h : RQ n p) (k : RQ m q) (c : NumQ d q) (l : n + m < 8000) : f_Ratio___radd [ratD p, d] = some (ratO (p + q), .non) := by
  rw [r_radd h.s k.s c.num l, rlow_rat (dd_ne p q), divInt_add']
theorem q_sub (h : RQ n p) (k : RQ m q) (c : NumQ d q) (l : n + m < 8000) : f_Ratio___sub [ratD p, d] = some (ratO (p - q), .non) := by
  rw [r_sub h.s k.s c.num l, rlow_rat (dd_ne p q), divInt_sub']
theorem q_mul (h : RQ n p) (k : RQ m q) (c : NumQ d q) (l : n + m < 8000) : f_Ratio___mul [ratD p, d] = some (ratO (p * q), .non) := by
  rw [r_mul h.s k.s c.num l, rlow_rat (dd_ne p q), divInt_mul']
theorem q_rmul (h : RQ n p) (k : RQ m q) (c : NumQ d q) (l : n + m < 8000) : f_Ratio___rmul [ratD p, d] = some (ratO (p * q), .non) := by
  rw [r_rmul h.s k.s c.num l, rlow_rat (dd_ne p q), divInt_mul']
theorem q_rsub (h : RQ n p) (k : RQ m q) (c : NumQ d q) (l : n + m < 8000) : f_Ratio___rsub [ratD p, d] = some (ratO (q - p), .non) := by
  have e : (q.num * p.den - p.num * q.den : Int) = q.num * p.den - p.num * q.den := rfl
  rw [r_rsub h.s k.s c.num l, rlow_rat (dd_ne p q), Int.mul_comm (p.den : Int), divInt_sub']
theorem q_init {t b : Int} (h : b ≠ 0) (k : Sm n b) (l : n < 9000) : f_Ratio___init [.obj 4 [], .int t, .int b] = some (.non, ratO (Rat.divInt t b)) := by
  rw [init_eq h k l, (low_rat h).1, (low_rat h).2]
theorem divInt_one' (x : Int) : Rat.divInt x 1 = (x : Rat) := by
  have := Rat.num_divInt_den (x : Rat)
  rwa [Rat.num_intCast, Rat.den_intCast] at this
theorem q_init1 : f_Ratio___init [.obj 4 [], .int x, .int 1] = some (.non, ratO (x : Rat)) := by
  rw [q_init (n := 1) (by decide) one_sm (by decide), divInt_one']
theorem q_eq : f_Ratio___eq [ratD p, ratD q] = some (.bl (decide (p = q)), .non) := by
  rw [r_eq_rat]
  congr 3
  rw [← Bool.decide_and, decide_eq_decide]
  exact ⟨fun h => Rat.ext h.1 (by omega), fun h => by subst h; exact ⟨rfl, rfl⟩⟩
end
/-! ### the operators -/
@[simp] theorem oEq_int {i j : Int} : oEq (.int i) (.int j) = some (.bl (decide (i = j))) := by simp [oEq]
@[simp] theorem oNotEq_int {i j : Int} : oNotEq (.int i) (.int j) = some (.bl (!decide (i = j))) := by simp [oNotEq]
@[simp] theorem oAdd_int {i j : Int} : oAdd (.int i) (.int j) = some (.int (i + j)) := by simp [oAdd]
@[simp] theorem oSub_int {i j : Int} : oSub (.int i) (.int j) = some (.int (i - j)) := by simp [oSub]
@[simp] theorem oMult_int {i j : Int} : oMult (.int i) (.int j) = if MuOk i j then some (.int (i * j)) else none := by simp [oMult]
section
variable {p q : Rat} {n m : Nat} {d : D} {x : Int}
theorem o_add (h : RQ n p) (k : RQ m q) (c : NumQ d q) (l : n + m < 8000) : oAdd (ratD p) d = some (ratO (p + q)) := by
  have := q_add h k c l
  cases c <;> simp [oAdd, this]
theorem o_sub (h : RQ n p) (k : RQ m q) (c : NumQ d q) (l : n + m < 8000) : oSub (ratD p) d = some (ratO (p - q)) := by
  have := q_sub h k c l
  cases c <;> simp [oSub, this]
theorem o_mul (h : RQ n p) (k : RQ m q) (c : NumQ d q) (l : n + m < 8000) : oMult (ratD p) d = some (ratO (p * q)) := by
  have := q_mul h k c l
  cases c <;> simp [oMult, this]
theorem o_eq : oEq (ratD p) (ratD q) = some (.bl (decide (p = q))) := by
  have := q_eq (p := p) (q := q)
  simp [oEq, this]
theorem o_ne : oNotEq (ratD p) (ratD q) = some (.bl (!decide (p = q))) := by
  have := q_eq (p := p) (q := q)
  simp [oNotEq, this]
theorem o_isub (h : RQ n p) (k : RQ m (x : Rat)) (l : n + m < 8000) : oSub (.int x) (ratD p) = some (ratO ((x : Rat) - p)) := by
  have := q_rsub h k .int l
  simp [oSub, this]
end
end K31M

set_option maxRecDepth 100000
set_option maxHeartbeats 400000
set_option linter.all false
namespace K31M
open PySem L2 DV K31D
/-- a text of at most L signs -/
structure TxOk (L : Nat) (s : Str) : Prop where
  l : s.length ≤ L
  o : PyData.strOk s = true
theorem TxOk.mono {L K : Nat} {s : Str} (h : TxOk L s) (k : L ≤ K) : TxOk K s := ⟨Nat.le_trans h.l k, h.o⟩
theorem TxOk.app {L K : Nat} {s t : Str} (h : TxOk L s) (k : TxOk K t) : TxOk (L + K) (s ++ t) := ⟨by rw [str_app_length]; have := h.l; have := k.l; omega, by simp [h.o, k.o]⟩
theorem TxOk.of (s : String) : TxOk s.length (Str.ofString s) := ⟨by rw [ofString_length]; exact Nat.le_refl _, strOk_of s⟩
theorem cut_ok {L : Nat} {x : Str} (h : TxOk L x) (lo hi : Option Int) : TxOk L (cutS x lo hi) := by
  constructor
  · refine Nat.le_trans ?_ h.l
    unfold cutS Str.length
    simp
    omega
  · have := h.o
    unfold PyData.strOk cutS at *
    rw [List.all_toArray, List.all_eq_true]
    intro c hc
    rw [← Array.all_toList, List.all_eq_true] at this
    exact this c (List.mem_of_mem_drop (List.mem_of_mem_take hc))
theorem int_tx {i : Int} {n : Nat} (h : Sm n i) : TxOk (n + 2) (Str.ofString (toString i)) := by
  refine ⟨?_, strOk_of _⟩
  rw [ofString_length]
  have := int_text_length_le (a := i) (k := n + 1) (by omega) (by have := h.log; omega)
  omega
def dgC (T : Int) : DenT := (tOf (dBin (cmpB fun i j => decide (j ≤ i)) (dVar 1) (dCst (.int T))))
def dgB (T : Int) : DenS := (sSeq (sAsg 3 (dBin addB (dBin modB (dBlt intB (dCons (dVar 1) dNil)) (dCst (.int T))) (dCst (.int T))))
  (sSeq (sAsg 2 (dJoin [(dUn fmtB (dSlc (dBlt strB (dCons (dVar 3) dNil)) (pSome (dCst (.int 1))) pNo)), (dUn fmtB (dVar 2))]))
  (sSeq (sAsg 1 (dBin divB (dVar 1) (dCst (.int T))))
  sEnd)))
section
variable {T : Int}
theorem sm_fm (hT : 0 < T) (h : Sm 201 T) (c : Int) : Sm 202 (c.fmod T + T) := by
  have h1 := Int.fmod_nonneg_of_pos c hT
  have h2 := Int.fmod_lt_of_pos c hT
  unfold Sm at *
  rw [show (202 : Nat) = 201 + 1 from rfl, Nat.pow_succ]
  generalize 2 ^ 201 = B at *
  omega
theorem dg_step (hT : 0 < T) (h : Sm 201 T) {x left : Int} {told : Str} {p3 : D} {L : Nat} (ht : TxOk L told) (hL : L + 204 ≤ 90000) (q : T ≤ left) :
    ∃ t', sWhile (dgC T) (dgB T) [.int x, .int left, .str told, p3, .und] = sWhile (dgC T) (dgB T) [.int x, .int (left.fdiv T), .str t', .int (left.fmod T + T), .und] ∧ TxOk (L + 204) t' := by
  have hd := sm_fm hT h left
  have dv : DvOk T := h.divOk (by omega) (by decide)
  have lg : (left.fmod T + T).natAbs.log2 < 1920 := by have := hd.log; omega
  have ti := int_tx hd
  have tt := cut_ok ti (some 1) none
  have t2 := tt.app ht
  have e1 : (Str.ofString (toString (left.fmod T + T))).length ≤ 100000 := Nat.le_trans ti.l (by decide)
  have e2 : (cutS (Str.ofString (toString (left.fmod T + T))) (some 1) none).length ≤ 100000 := Nat.le_trans tt.l (by decide)
  have e3 : told.length ≤ 100000 := Nat.le_trans ht.l (by omega)
  have e4 : (cutS (Str.ofString (toString (left.fmod T + T))) (some 1) none).length + told.length ≤ 100000 := by have := t2.l; rw [str_app_length] at this; omega
  refine ⟨_, ?_, t2.mono (by omega)⟩
  have hT0 : T ≠ 0 := by omega
  refine sWhile_t (ρ1 := [.int x, .int left, .str told, p3, .und]) ?_ ?_
  · simp [dgC, q]
  · simp only [Int.toString_eq_repr] at *
    simp [dgB, hT0, dv, lg, e1, e2, e3, e4, slcB, joinD, str_nil_app, str_app_length]
def bT (T : Int) : Nat → Int
  | 0 => 1
  | k + 1 => bT T k * T
theorem dg_loop (hT : 0 < T) (h : Sm 201 T) : ∀ (k : Nat) (x left : Int) (told : Str) (p3 : D) (L : Nat), 0 ≤ left → left < bT T k → TxOk L told → L + 204 * k ≤ 90000 →
    ∃ left' told' p3', sWhile (dgC T) (dgB T) [.int x, .int left, .str told, p3, .und] = some (.nx [.int x, .int left', .str told', p3', .und]) ∧ 0 ≤ left' ∧ left' < T ∧ TxOk (L + 204 * k) told'
  | 0, x, left, told, p3, L, h0, h1, ht, hL => by
    have : left = 0 := by unfold bT at h1; omega
    subst this
    exact ⟨0, told, p3, sWhile_f (by have : ¬ T ≤ 0 := by omega
                                     simp [dgC, this]), by decide, hT, ht.mono (by omega)⟩
  | k + 1, x, left, told, p3, L, h0, h1, ht, hL => by
    by_cases q : T ≤ left
    · obtain ⟨t', e, t2⟩ := dg_step (x := x) (p3 := p3) hT h ht (by omega) q
      have hq : 0 ≤ left.fdiv T ∧ left.fdiv T < bT T k := by
        rw [Int.fdiv_eq_ediv_of_nonneg _ (by omega)]
        exact ⟨Int.ediv_nonneg h0 (by omega), Int.ediv_lt_of_lt_mul hT h1⟩
      obtain ⟨l', t'', p', e2, a, b, c⟩ := dg_loop hT h k x (left.fdiv T) t' (.int (left.fmod T + T)) _ hq.1 hq.2 t2 (by omega)
      exact ⟨l', t'', p', e.trans e2, a, b, c.mono (by omega)⟩
    · exact ⟨left, told, p3, sWhile_f (by simp [dgC, q]), h0, by omega, ht.mono (by omega)⟩
theorem bT_ge (h : (2 : Int) ^ 199 ≤ T) : ∀ k : Nat, ((2 ^ (199 * k) : Nat) : Int) ≤ bT T k
  | 0 => by simp [bT]
  | k + 1 => by
    have ih := bT_ge h k
    unfold bT
    rw [show 199 * (k + 1) = 199 * k + 199 from by omega, Nat.pow_add, Int.natCast_mul]
    refine Int.mul_le_mul ih ?_ (Int.natCast_nonneg _) (Int.le_trans (Int.natCast_nonneg _) ih)
    rw [Int.natCast_pow]
    exact h
end
theorem big60 : (2 : Int) ^ 199 ≤ 1000000000000000000000000000000000000000000000000000000000000 := by decide +kernel
theorem sm60 : Sm 201 1000000000000000000000000000000000000000000000000000000000000 := by unfold Sm; decide +kernel
theorem dig {x : Int} {k : Nat} (h : Sm (199 * k) x) (hk : k ≤ 50) : ∃ s, f_digits_of [.int x] = some (.str s, .non) ∧ TxOk (204 * k + 210) s := by
  have hx : (if 0 ≤ x then x else 0 - x) < bT 1000000000000000000000000000000000000000000000000000000000000 k := by
    have h1 := bT_ge big60 k
    unfold Sm at h
    split <;> omega
  have hx0 : 0 ≤ (if 0 ≤ x then x else 0 - x) := by split <;> omega
  obtain ⟨l', t', p', e, h0, h1, ht⟩ := dg_loop (T := 1000000000000000000000000000000000000000000000000000000000000) (by decide) sm60 k x _ (Str.ofString "") .und 0 hx0 hx ⟨by rw [ofString_length]; decide, strOk_of _⟩ (by omega)
  have sl : Sm 201 l' := sm60.le (by omega)
  have lg : l'.natAbs.log2 < 1920 := by have := sl.log; omega
  have ti := int_tx sl
  have tm : ∀ g : Str, TxOk 1 g → TxOk (204 * k + 210) (g ++ Str.ofString (toString l') ++ t') := fun g hg => ((hg.app ti).app ht).mono (by omega)
  have l2 := ht.l
  have l1 := ti.l
  have e1 : (Str.ofString (toString l')).length ≤ 100000 := by omega
  have e2 : t'.length ≤ 100000 := by omega
  have e3 : ∀ m, m ≤ 1 → m + (Str.ofString (toString l')).length ≤ 100000 := fun m hm => by omega
  have e4 : ∀ m, m ≤ 1 → m + (Str.ofString (toString l')).length + t'.length ≤ 100000 := fun m hm => by omega
  have n0 : (Str.ofString "").length = 0 := by rw [ofString_length]; rfl
  have n1 : (Str.ofString "-").length = 1 := by rw [ofString_length]; rfl
  have ne : Str.empty.length ≤ 100000 := by decide
  have ee : ∀ y : Str, Str.ofString "" ++ y = y := fun y => by rw [show Str.ofString "" = Str.empty from by rw [Str.ofString_eq_toList]; rfl]; exact str_nil_app y
  unfold dgC dgB at e
  by_cases q : x < 0
  · refine ⟨_, ?_, tm (Str.ofString "-") ⟨by omega, strOk_of _⟩⟩
    have q' : ¬ 0 ≤ x := by omega
    rw [if_neg q'] at e
    have e31 := e3 1 (by omega); have e41 := e4 1 (by omega)
    simp only [Int.toString_eq_repr] at *
    simp only [f_digits_of, d_digits_of, semOf_ap, sSeq_ap, sPar_ap, dCons_ap, dIf_ap, tOf_ap, dBin_ap, dVar_ap, dCst_ap]
    simp [q, q'] at e ⊢
    rw [e]
    simp [q, joinD, lg, e1, e2, e31, e41, n0, n1, str_app_length, str_nil_app, str_app_nil, ne, ee]
  · refine ⟨_, ?_, tm (Str.ofString "") ⟨by omega, strOk_of _⟩⟩
    have q' : 0 ≤ x := by omega
    rw [if_pos q'] at e
    have e31 := e3 0 (by omega); have e41 := e4 0 (by omega)
    rw [Nat.zero_add] at e31 e41
    simp only [Int.toString_eq_repr] at *
    simp only [f_digits_of, d_digits_of, semOf_ap, sSeq_ap, sPar_ap, dCons_ap, dIf_ap, tOf_ap, dBin_ap, dVar_ap, dCst_ap]
    simp [q, q'] at e ⊢
    rw [e]
    simp [q, joinD, lg, e1, e2, e31, e41, n0, n1, str_app_length, str_nil_app, str_app_nil, ne, ee]
end K31M

set_option maxRecDepth 100000
set_option maxHeartbeats 400000
set_option linter.all false
namespace K31M
open PySem L2 DV K31D
theorem q_repr {q : Rat} {k : Nat} (h : RQ (199 * k) q) (hk : k ≤ 50) : ∃ s, f_Ratio___repr [ratD q] = some (.str s, .non) ∧ TxOk (408 * k + 430) s := by
  obtain ⟨s1, d1, t1⟩ := dig h.s.st hk
  obtain ⟨s2, d2, t2⟩ := dig h.s.sb hk
  have n1 : (Str.ofString "Ratio(").length = 6 := by rw [ofString_length]; rfl
  have n2 : (Str.ofString ", ").length = 2 := by rw [ofString_length]; rfl
  have n3 : (Str.ofString ")").length = 1 := by rw [ofString_length]; rfl
  have a := t1.l
  have b := t2.l
  have x1 : TxOk 6 (Str.ofString "Ratio(") := ⟨by omega, strOk_of _⟩
  have x2 : TxOk 2 (Str.ofString ", ") := ⟨by omega, strOk_of _⟩
  have x3 : TxOk 1 (Str.ofString ")") := ⟨by omega, strOk_of _⟩
  refine ⟨_, ?_, ((((x1.app t1).app x2).app t2).app x3).mono (by omega)⟩
  have l1 : s1.length ≤ 100000 := by omega
  have l2 : s2.length ≤ 100000 := by omega
  have a1 : 6 + s1.length ≤ 100000 := by omega
  have a2 : 6 + s1.length + 2 ≤ 100000 := by omega
  have a3 : 6 + s1.length + 2 + s2.length ≤ 100000 := by omega
  have a4 : 6 + s1.length + 2 + s2.length + 1 ≤ 100000 := by omega
  have ne : Str.empty.length = 0 := rfl
  simp [f_Ratio___repr, d_Ratio___repr, d1, d2, l1, l2, a1, a2, a3, a4, joinD, str_app_length, str_nil_app, n1, n2, n3, ne]
theorem from_ok {L : Nat} : ∀ (ts : List Str) (k : Nat) (acc : Str) (A : Nat), TxOk A acc → (∀ t ∈ ts, TxOk L t) → TxOk (A + ts.length * (L + 2)) (textFrom k acc ts)
  | [], k, acc, A, h, _ => h.mono (by simp)
  | t :: ts, k, acc, A, h, ht => by
    have c : TxOk 2 (if k > 0 then ", " else "" : String) := by
      split
      · exact ⟨by rw [ofString_length]; decide, strOk_of _⟩
      · exact ⟨by rw [ofString_length]; decide, strOk_of _⟩
    have := from_ok ts (k + 1) _ _ ((h.app c).app (ht t (List.mem_cons_self ..))) fun u hu => ht u (List.mem_cons_of_mem _ hu)
    unfold textFrom
    refine this.mono ?_
    rw [List.length_cons, Nat.succ_mul]
    omega
theorem list_ok {L : Nat} {ts : List Str} (h : ∀ t ∈ ts, TxOk L t) : TxOk (2 + ts.length * (L + 2)) (listText ts) := by
  have a : TxOk 1 (Str.ofString "[") := ⟨by rw [ofString_length]; decide, strOk_of _⟩
  have b : TxOk 1 (Str.ofString "]") := ⟨by rw [ofString_length]; decide, strOk_of _⟩
  exact ((from_ok ts 0 _ _ a h).app b).mono (by omega)
theorem join_ok {L : Nat} : ∀ {ts : List Str}, (∀ t ∈ ts, TxOk L t) → TxOk (ts.length * (L + 2)) (Str.join ", " ts)
  | [], _ => ⟨Nat.zero_le _, strOk_of ""⟩
  | [x], h => by
    show TxOk _ x
    exact (h x (by simp)).mono (by simp)
  | x :: y :: r, h => by
    show TxOk _ (x ++ ", " ++ Str.join ", " (y :: r))
    have c : TxOk 2 (Str.ofString ", ") := ⟨by rw [ofString_length]; decide, strOk_of _⟩
    have ih := join_ok (ts := y :: r) fun t ht => h t (List.mem_cons_of_mem _ ht)
    refine (((h x (List.mem_cons_self ..)).app c).app ih).mono ?_
    simp only [List.length_cons, Nat.succ_mul]
    omega
theorem tuple_ok {L : Nat} {ts : List Str} (h : ∀ t ∈ ts, TxOk L t) : TxOk (3 + ts.length * (L + 2)) (tupleText ts) := by
  have a : TxOk 1 (Str.ofString "(") := ⟨by rw [ofString_length]; decide, strOk_of _⟩
  have b : TxOk 2 (if ts.length == 1 then ",)" else ")" : String) := by
    split
    · exact ⟨by rw [ofString_length]; decide, strOk_of _⟩
    · exact ⟨by rw [ofString_length]; decide, strOk_of _⟩
  exact ((a.app (join_ok h)).app b).mono (by omega)
/-- it can be shown, in at most L signs, n deep -/
def Shw (L n : Nat) (d : D) : Prop := (∃ t, shD 4 f_Ratio___repr d = some t ∧ TxOk L t) ∧ dpt d ≤ n
theorem Shw.mono {L n K m : Nat} {d : D} (h : Shw L n d) (k : L ≤ K) (l : n ≤ m) : Shw K m d := by
  obtain ⟨⟨t, e, x⟩, y⟩ := h
  exact ⟨⟨t, e, x.mono k⟩, by omega⟩
theorem shws {L n : Nat} : ∀ {ds : List D}, (∀ d ∈ ds, Shw L n d) → (∃ ts, shDs 4 f_Ratio___repr ds = some ts ∧ ts.length = ds.length ∧ ∀ t ∈ ts, TxOk L t) ∧ dpts ds ≤ n
  | [], _ => ⟨⟨[], by simp [shDs], rfl, by simp⟩, by simp [dpts]⟩
  | d :: ds, h => by
    obtain ⟨⟨t, e, x⟩, y⟩ := h d (List.mem_cons_self ..)
    obtain ⟨⟨ts, e2, l2, x2⟩, y2⟩ := shws fun d hd => h d (List.mem_cons_of_mem _ hd)
    refine ⟨⟨t :: ts, by simp [shDs, e, e2], by simp [l2], fun u hu => ?_⟩, by simp only [dpts]; omega⟩
    rcases List.mem_cons.mp hu with rfl | hu
    · exact x
    · exact x2 u hu
theorem Shw.lst {L n : Nat} {ds : List D} (h : ∀ d ∈ ds, Shw L n d) : Shw (3 + ds.length * (L + 2)) (n + 1) (.lst ds) := by
  obtain ⟨⟨ts, e, l, x⟩, y⟩ := shws h
  exact ⟨⟨listText ts, by simp [shD, e], l ▸ (list_ok x).mono (by omega)⟩, by simp only [dpt]; omega⟩
theorem Shw.tup {L n : Nat} {ds : List D} (h : ∀ d ∈ ds, Shw L n d) : Shw (3 + ds.length * (L + 2)) (n + 1) (.tup ds) := by
  obtain ⟨⟨ts, e, l, x⟩, y⟩ := shws h
  exact ⟨⟨tupleText ts, by simp [shD, e], l ▸ (tuple_ok x).mono (by omega)⟩, by simp only [dpt]; omega⟩
theorem Shw.bl {b : Bool} : Shw 5 0 (.bl b) := ⟨⟨_, rfl, by cases b <;> exact ⟨by simp only [if_true, if_false, Bool.false_eq_true]; rw [ofString_length]; decide, strOk_of _⟩⟩, Nat.le_refl _⟩
theorem Shw.rat {q : Rat} {k : Nat} (h : RQ (199 * k) q) (hk : k ≤ 50) : Shw (408 * k + 430) 0 (ratD q) := by
  obtain ⟨s, e, x⟩ := q_repr h hk
  exact ⟨⟨s, by simp [shD, e], x⟩, Nat.le_refl _⟩
theorem Shw.int {i : Int} {n : Nat} (h : Sm n i) (hn : n < 1900) : Shw (n + 2) 0 (.int i) := ⟨⟨Str.ofString (toString i), by simp [shD, show i.natAbs.log2 < 1920 from by have := h.log; omega], int_tx h⟩, Nat.le_refl _⟩
theorem orepr_ok {L n : Nat} {d : D} (h : Shw L n d) (l : L ≤ 100000) (k : n ≤ 10) : ∃ t, orepr [d] = some (.str t) ∧ PyData.strOk t = true := by
  obtain ⟨⟨t, e, x⟩, y⟩ := h
  exact ⟨t, by unfold orepr reprS; simp [e, show t.length ≤ 100000 from Nat.le_trans x.l l, show dpt d ≤ 10 from by omega], x.o⟩
end K31M

set_option maxRecDepth 100000
set_option maxHeartbeats 400000
set_option linter.all false
namespace K31M
open PySem L2 DV K31D
section
variable {t b t' b' x : Int} {n m : Nat} {d : D}
/-- a pot: what is left of the cell, and the mixed number -/
def PotD (p : D) : Prop := ∃ a b : Int, p = .own [.int a, .int b] ∧ 0 ≤ a ∧ 0 ≤ b ∧ b < 2147483648
theorem fmod_bd (x y : Int) (h : 0 < y) : 0 ≤ x.fmod y ∧ x.fmod y < y := ⟨Int.fmod_nonneg_of_pos x h, Int.fmod_lt_of_pos x h⟩
theorem sm_of {k : Int} {n : Nat} (h : 0 ≤ k) (l : k < 2 ^ n) : Sm n k := by
  unfold Sm
  have : (k.natAbs : Int) < ((2 ^ n : Nat) : Int) := by rw [Int.natAbs_of_nonneg h]; simpa using l
  exact Int.ofNat_lt.mp this
theorem draw_spec {p : D} (h : PotD p) {k : Int} (hk : 0 < k) (hk2 : k < 1073741824) : ∃ (i : Int) (p' : D), f_law_draw [p, .int k] = some (.int i, p') ∧ PotD p' ∧ 0 ≤ i ∧ i < k := by
  obtain ⟨a, b, rfl, ha, hb, hb2⟩ := h
  by_cases q : 0 < a
  · refine ⟨a % k, .own [.int (a / k), .int b], ?_, ⟨a / k, b, rfl, Int.ediv_nonneg ha (by omega), hb, hb2⟩, Int.emod_nonneg _ (by omega), Int.emod_lt_of_pos _ hk⟩
    simp [f_law_draw, d_law_draw, q, hk, hk2, gTs, outD]
  · have k1 := fmod_bd (b * 39373 + 20023) 2147483563 (by decide)
    have m1 : MuOk b 39373 := (sm_of (n := 31) hb (by omega)).mulOk (m := 31) (sm_of (by decide) (by decide)) (by decide)
    have m2 : MuOk ((b * 39373 + 20023).fmod 2147483563) ((b * 39373 + 20023).fmod 2147483563) := (sm_of (n := 31) k1.1 (by omega)).mulOk (sm_of (n := 31) k1.1 (by omega)) (by decide)
    have d1 : DvOk 23 := by decide
    have kk : k ≠ 0 := by omega
    generalize e : (b * 39373 + 20023).fmod 2147483563 = c at *
    refine ⟨(((c * c).fmod 2147483477).fdiv 23).fmod k, .own [.int a, .int c], ?_, ⟨a, c, rfl, ha, k1.1, by omega⟩, fmod_bd _ _ hk⟩
    simp [f_law_draw, d_law_draw, q, oAdd, oMult, m1, m2, d1, kk, outD, e]
theorem pick_spec {p : D} (h : PotD p) (xs : List D) (h0 : 0 < xs.length) (h1 : xs.length < 1000000) : ∃ (x : D) (p' : D), x ∈ xs ∧ f_law_pick [p, .lst xs] = some (x, p') ∧ PotD p' := by
  obtain ⟨i, p', e, hp, i0, i1⟩ := draw_spec h (k := xs.length) (by omega) (by omega)
  obtain ⟨j, rfl⟩ := Int.eq_ofNat_of_zero_le i0
  have hj : j < xs.length := by omega
  refine ⟨xs[j], p', List.getElem_mem .., ?_, hp⟩
  obtain ⟨a, b, rfl, _⟩ := h
  obtain ⟨a', b', rfl, _⟩ := hp
  simp [f_law_pick, d_law_pick, e, DV.atI_nat, hj, outD]
theorem sm_abs {k : Int} {n : Nat} (h : -(2 ^ n) < k) (l : k < 2 ^ n) : Sm n k := by
  unfold Sm
  have h2 : ((2 ^ n : Nat) : Int) = (2 : Int) ^ n := by simp
  have : (k.natAbs : Int) < ((2 ^ n : Nat) : Int) := by omega
  exact Int.ofNat_lt.mp this
theorem divInt_nz (x : Int) : Rat.divInt x 1 = (x : Rat) := divInt_one' x
theorem small_spec {p : D} (h : PotD p) {k : Int} (h0 : 0 ≤ k) (h1 : k ≤ 20) : ∃ (q : Rat) (p' : D), f_law_small [p, .int k] = some (ratO q, p') ∧ PotD p' ∧ RQ 8 q := by
  obtain ⟨i, p1, e1, g1, a1, b1⟩ := draw_spec h (k := 2 * k + 1) (by omega) (by omega)
  obtain ⟨x, p2, hx, e2, g2⟩ := pick_spec g1 [.int 1, .int 1, .int 1, .int 1, .int 2, .int 3] (by simp) (by simp)
  have hb : ∃ b : Int, x = .int b ∧ b ≠ 0 ∧ Sm 8 b := by
    simp only [List.mem_cons, List.not_mem_nil, or_false] at hx
    rcases hx with rfl | rfl | rfl | rfl | rfl | rfl <;> exact ⟨_, rfl, by decide, by unfold Sm; decide⟩
  obtain ⟨b, rfl, hb0, hb1⟩ := hb
  have m1 : MuOk 2 k := (sm_of (n := 2) (by decide) (by decide)).mulOk (sm_of (n := 8) h0 (by omega)) (by decide)
  have st : Sm 8 (i - k) := sm_abs (by omega) (by omega)
  refine ⟨Rat.divInt (i - k) b, p2, ?_, g2, RQ.low hb0 st hb1⟩
  have qi := q_init (t := i - k) hb0 hb1 (by decide)
  obtain ⟨_, _, rfl, _⟩ := h
  obtain ⟨_, _, rfl, _⟩ := g1
  obtain ⟨_, _, rfl, _⟩ := id g2
  simp [f_law_small, d_law_small, oAdd, oMult, oSub, m1, e1, e2, qi, outD]
end
end K31M

set_option maxRecDepth 100000
set_option maxHeartbeats 400000
set_option linter.all false
namespace K31M
open PySem L2 DV K31D
section
variable {p d : D} {n m k : Nat} {u v w : Nat → Rat} {q : Rat}
abbrev vecD (n : Nat) (u : Nat → Rat) : D := .lst (fam n fun i => ratD (u i))
/-- a list or tuple of NUMBERS -/
def SeqQ (n : Nat) (d : D) (u : Nat → Rat) : Prop := ∃ x : Nat → D, (d = .lst (fam n x) ∨ d = .tup (fam n x)) ∧ ∀ i, i < n → NumQ (x i) (u i)
theorem NumQ.fz {d : D} {q : Rat} (h : NumQ d q) : fz d = d := by cases h <;> rfl
theorem fz_fam {x : Nat → D} (h : ∀ i, i < n → NumQ (x i) (u i)) : (fam n fun i => fz (x i)) = fam n x := fam_ext fun i hi => (h i hi).fz
theorem int_of_den {q : Rat} (h : (q.den : Int) = 1) : ((q.num : Int) : Rat) = q := Rat.ext (by rw [Rat.num_intCast]) (by rw [Rat.den_intCast]; omega)
@[simp] theorem r_top' {t b : Int} : f_Ratio_top [.ins 4 [.int t, .int b]] = some (.int t, .non) := r_top
theorem handed_spec (h : PotD p) (hn : n ≤ 1000) : ∃ (d p' : D), f_law_handed [p, vecD n u] = some (d, p') ∧ PotD p' ∧ SeqQ n d u ∧ fz d = d := by
  obtain ⟨y, ρ', e, ⟨p1, rfl, h1⟩, hR⟩ := compF (own := [3]) (fg := gNm 3) (ft := tYesD) (fe := (dIf (tAndD (tOf (dBin oEq (dProp 4 f_Ratio_bottom (dVar 3)) (dCst (.int 1)))) (tOf (dBin oEq (dCallR f_law_draw 0 (dCons (dCst (.int 2)) dNil)) (dCst (.int 0))))) (dProp 4 f_Ratio_top (dVar 3)) (dVar 3)))
    (n := n) (x := fun i => ratD (u i)) (fun ρ => ∃ p, ρ = [p, vecD n u, .und, .und] ∧ PotD p) (fun i e => NumQ e (u i)) (fun j hj ρ hρ => by
      obtain ⟨p0, rfl, h0⟩ := hρ
      by_cases hd : ((u j).den : Int) = 1
      · obtain ⟨i, p1, e1, g1, a1, b1⟩ := draw_spec h0 (k := 2) (by decide) (by decide)
        obtain ⟨_, _, rfl, _⟩ := h0
        obtain ⟨_, _, rfl, _⟩ := id g1
        by_cases hi : i = 0
        · have nq : NumQ (.int (u j).num) (u j) := by
            have := NumQ.int (x := (u j).num)
            rwa [int_of_den hd] at this
          exact ⟨_, _, _, .int (u j).num, by simp; rfl, by simp; rfl, by simp [hd, e1, hi]; rfl, ⟨_, by simp, g1⟩, nq⟩
        · exact ⟨_, _, _, ratD (u j), by simp; rfl, by simp; rfl, by simp [hd, e1, hi]; rfl, ⟨_, by simp, g1⟩, .rat⟩
      · obtain ⟨_, _, rfl, _⟩ := id h0
        exact ⟨_, _, _, ratD (u j), by simp; rfl, by simp; rfl, by simp [hd]; rfl, ⟨_, by simp, h0⟩, .rat⟩) (ρ := [p, vecD n u, .und, .und]) ⟨p, rfl, h⟩ (by omega)
  obtain ⟨i, p2, e2, g2, a2, b2⟩ := draw_spec h1 (k := 4) (by decide) (by decide)
  have fy := fz_fam hR
  simp only [dProp_eq] at e
  obtain ⟨_, _, rfl, _⟩ := id h
  obtain ⟨_, _, rfl, _⟩ := h1
  obtain ⟨_, _, rfl, _⟩ := id g2
  by_cases hi : i = 0
  · exact ⟨.tup (fam n y), _, by simp [f_law_handed, d_law_handed, e, e2, hi, fy, outD] <;> rfl, g2, ⟨y, .inr rfl, hR⟩, rfl⟩
  · exact ⟨.lst (fam n y), _, by simp [f_law_handed, d_law_handed, e, e2, hi, fy, outD] <;> rfl, g2, ⟨y, .inl rfl, hR⟩, rfl⟩
abbrev tabD (n : Nat) (M : Nat → Nat → Rat) : D := .lst (fam n fun i => vecD n (M i))
/-- a list or tuple of rows of NUMBERS -/
def TabQ (n : Nat) (d : D) (M : Nat → Nat → Rat) : Prop := ∃ x : Nat → D, (d = .lst (fam n x) ∨ d = .tup (fam n x)) ∧ ∀ i, i < n → SeqQ n (x i) (M i) ∧ fz (x i) = x i
theorem given_spec {M : Nat → Nat → Rat} (h : PotD p) (hn : n ≤ 1000) : ∃ (d p' : D), f_law_given [p, tabD n M] = some (d, p') ∧ PotD p' ∧ TabQ n d M ∧ fz d = d := by
  obtain ⟨y, ρ', e, ⟨p1, rfl, h1⟩, hR⟩ := compF (own := [3]) (fg := gNm 3) (ft := tYesD) (fe := (dCallR f_law_handed 0 (dCons (dVar 3) dNil)))
    (n := n) (x := fun i => vecD n (M i)) (fun ρ => ∃ p, ρ = [p, tabD n M, .und, .und] ∧ PotD p) (fun i e => SeqQ n e (M i) ∧ fz e = e) (fun j hj ρ hρ => by
      obtain ⟨p0, rfl, h0⟩ := hρ
      obtain ⟨d, p1, e1, g1, a1, b1⟩ := handed_spec (u := M j) h0 hn
      obtain ⟨_, _, rfl, _⟩ := h0
      obtain ⟨_, _, rfl, _⟩ := id g1
      exact ⟨_, _, _, d, by simp; rfl, by simp; rfl, by simp [e1]; rfl, ⟨_, by simp, g1⟩, a1, b1⟩) (ρ := [p, tabD n M, .und, .und]) ⟨p, rfl, h⟩ (by omega)
  obtain ⟨i, p2, e2, g2, a2, b2⟩ := draw_spec h1 (k := 4) (by decide) (by decide)
  have fy : (fam n fun i => fz (y i)) = fam n y := fam_ext fun i hi => (hR i hi).2
  obtain ⟨_, _, rfl, _⟩ := id h
  obtain ⟨_, _, rfl, _⟩ := h1
  obtain ⟨_, _, rfl, _⟩ := id g2
  by_cases hi : i = 0
  · exact ⟨.tup (fam n y), _, by simp [f_law_given, d_law_given, e, e2, hi, fy, outD] <;> rfl, g2, ⟨y, .inr rfl, hR⟩, rfl⟩
  · exact ⟨.lst (fam n y), _, by simp [f_law_given, d_law_given, e, e2, hi, fy, outD] <;> rfl, g2, ⟨y, .inl rfl, hR⟩, rfl⟩
end
end K31M

set_option maxRecDepth 100000
set_option maxHeartbeats 400000
set_option linter.all false
namespace K31M
open PySem L2 DV K31D
/-- has a kind -/
def Vd (d : D) : Prop := (kd d).isSome = true ∧ fz d = d
def isNumB : D → Bool
  | .int _ => true
  | .ins c _ => decide (c = 4)
  | _ => false
def isSeqB : D → Bool
  | .lst _ => true
  | .tup _ => true
  | _ => false
def itemsD : D → List D
  | .lst xs => xs
  | .tup xs => xs
  | _ => []
/-- not a written list -/
def NoCon : D → Prop
  | .con _ => False
  | _ => True
theorem Vd.nu {d : D} (h : Vd d) : d.isUnd = false := by
  have := h.1
  cases d <;> simp [kd, tyS] at this <;> rfl
theorem isnum_eq {d : D} (h : Vd d) : f_is_number [d] = some (.bl (isNumB d), .non) := by
  have h1 := h.1
  have h2 := h.2
  by_cases z : isNumB d = true
  · cases d <;> simp [isNumB] at z
    · simp [f_is_number, d_is_number, f_is_integer, d_is_integer, isOne, kinds, isNumB]
    · subst z
      simp [f_is_number, d_is_number, f_is_integer, d_is_integer, isOne, kinds, isNumB]
  cases d <;> simp [kd, tyS] at h1 <;> simp [f_is_number, d_is_number, f_is_integer, d_is_integer, isOne, kinds, kd, tyS, isNumB, h2, z] <;> simp_all [isNumB, isOne, kinds]
theorem lawnum_eq {d : D} (h : Vd d) : f_law_is_number [d] = some (.bl (isNumB d), .non) := by
  have h1 := h.1
  have h2 := h.2
  by_cases z : isNumB d = true
  · cases d <;> simp [isNumB] at z
    · simp [f_law_is_number, d_law_is_number, isOne, kinds, isNumB]
    · subst z
      simp [f_law_is_number, d_law_is_number, isOne, kinds, isNumB]
  cases d <;> simp [kd, tyS] at h1 <;> simp [f_law_is_number, d_law_is_number, isOne, kinds, kd, tyS, isNumB, h2, z] <;> simp_all [isNumB, isOne, kinds]
theorem islist_eq {d : D} (h : Vd d) (hc : NoCon d) : f_is_list [d] = some (.bl (isSeqB d), .non) := by
  have h1 := h.1
  have h2 := h.2
  cases d <;> simp [kd, tyS] at h1 <;> (try exact hc.elim) <;> simp [f_is_list, d_is_list, isOne, kinds, kd, tyS, isSeqB, h2, allCls, isAny]
theorem bools_fam {n : Nat} {b : Nat → Bool} : boolsOf (fam n fun i => D.bl (b i)) = some (fam n b) := by
  have : ∀ l : List Nat, boolsOf (l.map fun i => D.bl (b i)) = some (l.map b) := by
    intro l
    induction l with
    | nil => rfl
    | cons i l ih => simp [boolsOf, ih]
  exact this _
theorem all_fam {n : Nat} {b : Nat → Bool} : (fam n b).all id = decide (∀ i, i < n → b i = true) := by
  unfold fam
  rw [Bool.eq_iff_iff, decide_eq_true_eq, List.all_map, List.all_eq_true]
  simp
@[simp] theorem allB_fam {n : Nat} {b : Nat → Bool} : allB [.lst (fam n fun i => D.bl (b i))] = some (.bl (decide (∀ i, i < n → b i = true))) := by
  simp only [allB, bools_fam, Option.map_some, all_fam]
/-- a row of any values -/
structure RowV (d : D) : Prop where
  v : Vd d
  c : NoCon d
  i : ∀ e ∈ itemsD d, Vd e ∧ (isNumB e = true → ∃ q, NumQ e q ∧ RQ 200 q) ∧ (isNumB e = false → Plain 5 e)
  l : (itemsD d).length ≤ 1000
def numRowB (n : Nat) (d : D) : Bool := isSeqB d && decide ((itemsD d).length = n) && decide (∀ i, i < (itemsD d).length → isNumB ((itemsD d).getD i .non) = true)
theorem seq_cases {d : D} (h : isSeqB d = true) : d = .lst (itemsD d) ∨ d = .tup (itemsD d) := by
  cases d <;> simp [isSeqB] at h <;> simp [itemsD]
theorem getD_mem {xs : List D} {i : Nat} (h : i < xs.length) : xs.getD i .non ∈ xs := by
  simp [List.getD, h]
theorem are_numbers_eq {d : D} {n : Nat} (h : RowV d) : f_are_numbers [d, .int (n : Int)] = some (.bl (numRowB n d), .non) := by
  have e1 := islist_eq h.v h.c
  have hfz := h.v.2
  have hnu := h.v.nu
  by_cases hs : isSeqB d = true
  · have el : lenB [d] = some (.int ((itemsD d).length : Int)) := by rcases seq_cases hs with z | z <;> rw [z] <;> rfl
    have ei : itemsOf d = some (itemsD d) := by rcases seq_cases hs with z | z <;> rw [z] <;> rfl
    by_cases hl : (itemsD d).length = n
    · have cc := compC (own := [2]) (fg := gNm 2) (ft := tYesD) (fe := (dCallP f_is_number (dCons (dVar 2) dNil))) (n := (itemsD d).length) (x := fun i => (itemsD d).getD i .non) (ρ := [d, .int n, .und]) (fun i => .bl (isNumB ((itemsD d).getD i .non))) (fun j hj => by
        have hv := (h.i _ (getD_mem hj)).1
        have e2 := isnum_eq hv
        have hf := hv.2
        have hu := hv.nu
        generalize (itemsD d).getD j .non = e at *
        exact ⟨_, _, _, by simp; rfl, by simp; rfl, by simp [hu, hf, e2]; rfl, by simp⟩) (by have := h.l; omega)
      rw [← fam_of] at cc
      simp [f_are_numbers, d_are_numbers, hnu, hfz, e1, hs, el, hl, ei, cc]
      simp [numRowB, hs, hl]
    · have hl' : ¬ (((itemsD d).length : Int) = n) := by omega
      simp [f_are_numbers, d_are_numbers, hnu, hfz, e1, hs, el, hl', hl, numRowB]
  · simp [f_are_numbers, d_are_numbers, hnu, hfz, e1, hs, numRowB]
end K31M

set_option maxRecDepth 100000
set_option maxHeartbeats 400000
set_option linter.all false
namespace K31M
open PySem L2 DV K31D
section
variable {p d : D} {n m k : Nat} {u v w : Nat → Rat} {q : Rat} {M : Nat → Nat → Rat}
theorem NumQ.vd {d : D} {q : Rat} (h : NumQ d q) : Vd d ∧ isNumB d = true := by
  cases h <;> exact ⟨⟨rfl, rfl⟩, rfl⟩
theorem ratio_of_eq {d : D} {q : Rat} (h : NumQ d q) : ∃ e, f_ratio_of [d] = some (e, .non) ∧ fz e = ratD q := by
  cases h with
  | rat => exact ⟨ratD q, by simp [f_ratio_of, d_ratio_of, isOne], rfl⟩
  | int => rename_i x; exact ⟨ratO (x : Rat), by simp [f_ratio_of, d_ratio_of, isOne, q_init1], by simp⟩
theorem ratios_of_eq {d : D} (h : SeqQ n d u) (hn : n ≤ 1000) : ∃ e, f_ratios_of [d] = some (e, .non) ∧ fz e = vecD n u := by
  obtain ⟨x, hd, hx⟩ := h
  obtain ⟨y, hy⟩ := pick_fn (n := n) (R := fun j (e : D) => f_ratio_of [x j] = some (e, .non) ∧ fz e = ratD (u j)) fun j hj => ratio_of_eq (hx j hj)
  have cc : ∀ d0, compD [1] (gNm 1) tYesD (dCallP f_ratio_of (dCons (dVar 1) dNil)) (fam n x) [] [d0, .und] = some (fam n y, [d0, .und]) := fun d0 => compC y (fun j hj => by
    have a := (hy j hj).1
    have b := (hx j hj).fz
    have c := (hx j hj).vd.1.nu
    exact ⟨_, _, _, by simp; rfl, by simp; rfl, by simp [a, b, c]; rfl, by simp⟩) (by omega)
  refine ⟨.own (fam n y), ?_, by simp; exact fam_ext fun i hi => (hy i hi).2⟩
  rcases hd with rfl | rfl <;> simp [f_ratios_of, d_ratios_of, cc]
/-- alike on both sides of the middle line -/
def symB (n : Nat) (M : Nat → Nat → Rat) : Bool := decide (∀ i, i < n → ∀ j, j < i → M i j = M j i)
theorem alike_in {i : Nat} (hi : i < n) (x3 : D) : ((∀ j, j < i → decide (M i j = M j i) = true) ∧ ∃ ρ', forD (gNm 3) (sSeq (sIf (tOf (dBin oNotEq (dItem 2 (dVar 3)) (dBin ixB (dItem 0 (dVar 3)) (dVar 1)))) (sSeq (sRet (dCst (.bl false)))
  sEnd) sEnd)
  sEnd) (fam i fun j => D.int (j : Int)) [tabD n M, .int (i : Int), vecD n (M i), x3] = some (.nx ρ') ∧ ∃ x3, ρ' = [tabD n M, .int (i : Int), vecD n (M i), x3]) ∨ ((∃ j, j < i ∧ decide (M i j = M j i) = false) ∧ ∃ ρ', forD (gNm 3) (sSeq (sIf (tOf (dBin oNotEq (dItem 2 (dVar 3)) (dBin ixB (dItem 0 (dVar 3)) (dVar 1)))) (sSeq (sRet (dCst (.bl false)))
  sEnd) sEnd)
  sEnd) (fam i fun j => D.int (j : Int)) [tabD n M, .int (i : Int), vecD n (M i), x3] = some (.rt (.bl false) ρ')) := by
  refine forB (fun j => decide (M i j = M j i)) (fun j ρ => ∃ x3, ρ = [tabD n M, .int (i : Int), vecD n (M i), x3]) (fun j hj ρ hρ => ?_) ⟨x3, rfl⟩
  obtain ⟨x3, rfl⟩ := hρ
  have hj2 : j < n := by omega
  refine ⟨[tabD n M, .int (i : Int), vecD n (M i), .int (j : Int)], by simp, ?_⟩
  by_cases e : M i j = M j i
  · refine .inl ⟨decide_eq_true e, [tabD n M, .int (i : Int), vecD n (M i), .int (j : Int)], ?_, _, rfl⟩
    simp [DV.atI_nat, hi, hj2, o_ne, e]
  · refine .inr ⟨decide_eq_false e, [tabD n M, .int (i : Int), vecD n (M i), .int (j : Int)], ?_⟩
    simp [DV.atI_nat, hi, hj2, o_ne, e]
theorem alike_eq (hn : n ≤ 1000) : f_are_alike [tabD n M] = some (.bl (symB n M), .non) := by
  have := forB (n := n) (x := fun i => D.tup [.int (i : Int), vecD n (M i)]) (fg := gTup [(gNm 1), (gNm 2)]) (fb := (sSeq (sFor (iRng (dCons (dVar 1) dNil)) (gNm 3) (sSeq (sIf (tOf (dBin oNotEq (dItem 2 (dVar 3)) (dBin ixB (dItem 0 (dVar 3)) (dVar 1)))) (sSeq (sRet (dCst (.bl false)))
  sEnd) sEnd)
  sEnd))
  sEnd)) (fun i => decide (∀ j, j < i → M i j = M j i)) (fun j ρ => ∃ x1 x2 x3, ρ = [tabD n M, x1, x2, x3]) (fun i hi ρ hρ => by
    obtain ⟨x1, x2, x3, rfl⟩ := hρ
    refine ⟨[tabD n M, .int (i : Int), vecD n (M i), x3], by simp [gTs], ?_⟩
    rcases alike_in (M := M) hi x3 with ⟨a, ρ', e, x4, rfl⟩ | ⟨⟨j, a, b⟩, ρ', e⟩
    · refine .inl ⟨decide_eq_true fun j hj => of_decide_eq_true (a j hj), [tabD n M, .int (i : Int), vecD n (M i), x4], ?_, _, _, _, rfl⟩
      rw [sSeq_ap, sFor_at (iRng_nat (n := i) (ρ' := [tabD n M, .int (i : Int), vecD n (M i), x3]) (by simp) (by omega)), e]
      rfl
    · refine .inr ⟨decide_eq_false fun z => by rw [decide_eq_false_iff_not] at b; exact b (z j a), ρ', ?_⟩
      rw [sSeq_ap, sFor_at (iRng_nat (n := i) (ρ' := [tabD n M, .int (i : Int), vecD n (M i), x3]) (by simp) (by omega)), e]) (ρ := [tabD n M, .und, .und, .und]) ⟨_, _, _, rfl⟩
  rcases this with ⟨a, ρ', e, x1, x2, x3, rfl⟩ | ⟨⟨j, a, b⟩, ρ', e⟩
  · have hs : symB n M = true := decide_eq_true fun i hi j hj => of_decide_eq_true (a i hi) j hj
    have hi : iEnm (dCons (dVar 0) dNil) [tabD n M, .und, .und, .und] = some (fam n fun i => D.tup [.int (i : Int), vecD n (M i)], [tabD n M, .und, .und, .und]) := by simp [lstOf, enum_fam]
    simp only [f_are_alike, d_are_alike, semOf_ap, sSeq_ap]
    show (match (match sFor _ _ _ [tabD n M, .und, .und, .und] with
      | some (.nx ρ') => _
      | o => o) with
    | some (.nx ρ) => _
    | some (.rt d ρ) => _
    | _ => none) = _
    rw [sFor_at hi, e]
    simp [hs]
  · have hs : symB n M = false := decide_eq_false fun z => by rw [decide_eq_false_iff_not] at b; exact b (z j a)
    have hi : iEnm (dCons (dVar 0) dNil) [tabD n M, .und, .und, .und] = some (fam n fun i => D.tup [.int (i : Int), vecD n (M i)], [tabD n M, .und, .und, .und]) := by simp [lstOf, enum_fam]
    simp only [f_are_alike, d_are_alike, semOf_ap, sSeq_ap]
    show (match (match sFor _ _ _ [tabD n M, .und, .und, .und] with
      | some (.nx ρ') => _
      | o => o) with
    | some (.nx ρ) => _
    | some (.rt d ρ) => _
    | _ => none) = _
    rw [sFor_at hi, e]
    simp [hs]
end
end K31M

set_option maxRecDepth 100000
set_option maxHeartbeats 400000
set_option linter.all false
namespace K31M
open PySem L2 DV K31D
section
variable {p d v : D} {n m k : Nat} {rs : List D} {q : Rat} {M : Nat → Nat → Rat}
structure ValV (v : D) (rs : List D) : Prop where
  v : v = .lst rs ∨ v = .tup rs
  r : ∀ r ∈ rs, RowV r
  l : rs.length ≤ 1000
def shapeB (rs : List D) : Bool := decide (1 ≤ rs.length ∧ rs.length ≤ 20) && decide (∀ i, i < rs.length → numRowB rs.length (rs.getD i .non) = true)
theorem RowV.nu (h : RowV d) : d.isUnd = false := h.v.nu
theorem rows_map (h : ValV v rs) : compD [1] (gNm 1) tYesD (dCallP f_are_numbers (dCons (dVar 1) (dCons (dBlt lenB (dCons (dVar 0) dNil)) dNil))) rs [] [v, .und] = some (fam rs.length fun i => .bl (numRowB rs.length (rs.getD i .non)), [v, .und]) := by
  have hl := h.l
  have := compC (own := [1]) (fg := gNm 1) (ft := tYesD) (fe := (dCallP f_are_numbers (dCons (dVar 1) (dCons (dBlt lenB (dCons (dVar 0) dNil)) dNil)))) (n := rs.length) (x := fun i => rs.getD i .non) (ρ := [v, .und]) (fun i => .bl (numRowB rs.length (rs.getD i .non))) (fun j hj => by
    have hr := h.r _ (getD_mem hj)
    have e := are_numbers_eq (n := rs.length) hr
    have a := hr.v.2
    have b := hr.nu
    generalize rs.getD j .non = r at *
    rcases h.v with rfl | rfl <;> exact ⟨_, _, _, by simp; rfl, by simp; rfl, by simp [a, b, e]; rfl, by simp⟩) (by omega)
  rwa [← fam_of] at this
theorem chain_eq {i : Int} {ρ ρ' : List D} {f : Den} (h : f ρ = some (.int i, ρ')) : dChain (cmpB fun i j => decide (i ≤ j)) (cmpB fun i j => decide (i ≤ j)) (dCst (.int 1)) f (dCst (.int 20)) ρ = some (.bl (decide (1 ≤ i ∧ i ≤ 20)), ρ') := by
  by_cases a : 1 ≤ i <;> by_cases b : i ≤ 20 <;> simp [h, a, b]
abbrev rowTest : Den := dBlt allB (dCons (dComp [1] (iSeq (dVar 0)) (gNm 1) tYesD (dCallP f_are_numbers (dCons (dVar 1) (dCons (dBlt lenB (dCons (dVar 0) dNil)) dNil)))) dNil)
theorem rowTest_eq (h : ValV v rs) : rowTest [v, .und] = some (.bl (decide (∀ i, i < rs.length → numRowB rs.length (rs.getD i .non) = true)), [v, .und]) := by
  have hdc := dComp_at (fi := iSeq (dVar 0)) (ρ := [v, .und]) (ρ' := [v, .und]) (by rcases h.v with rfl | rfl <;> simp) (rows_map h)
  rw [rowTest, dBlt_ap, dCons_ap, hdc]
  simp
theorem ValV.facts (h : ValV v rs) : f_is_list [v] = some (.bl true, .non) ∧ v.isUnd = false ∧ fz v = v ∧ lenB [v] = some (.int rs.length) ∧ itemsOf v = some rs := by
  rcases h.v with rfl | rfl <;> exact ⟨islist_eq ⟨rfl, rfl⟩ trivial, rfl, rfl, rfl, rfl⟩
theorem is_table_no (h : ValV v rs) (hs : shapeB rs = false) : f_is_table [v] = some (.bl false, .non) := by
  obtain ⟨il, nu, fv, lv, iv⟩ := h.facts
  have ch := chain_eq (i := rs.length) (f := dBlt lenB (dCons (dVar 0) dNil)) (ρ := [v, .und]) (ρ' := [v, .und]) (by simp [nu, fv, lv])
  unfold f_is_table d_is_table
  refine semOf_rt (ρ := [v, .und]) ?_
  show sSeq _ _ [v, .und] = _
  by_cases hb : (1 : Int) ≤ (rs.length : Int) ∧ (rs.length : Int) ≤ 20
  · have hn : decide (∀ i, i < rs.length → numRowB rs.length (rs.getD i .non) = true) = false := by
      have hb' : 1 ≤ rs.length ∧ rs.length ≤ 20 := by omega
      simpa [shapeB, hb'] using hs
    have rt := rowTest_eq h
    rw [hn] at rt
    unfold rowTest at rt
    rw [decide_eq_true hb] at ch
    rw [sSeq_nx (ρ' := [v, .und]) (by rw [sIf_f (ρ' := [v, .und]) (by simp [-dChain_ap, ch, nu, fv, il])]; rfl)]
    exact sSeq_rt (by rw [sIf_t (ρ' := [v, .und]) (by rw [tNotD_ap, tOf_ap, rt]; rfl)]; rfl)
  · rw [decide_eq_false hb] at ch
    exact sSeq_rt (by rw [sIf_t (ρ' := [v, .und]) (by simp [-dChain_ap, ch, nu, fv, il])]; rfl)
/-! a table of numbers -/
theorem SeqQ.fz {d : D} {u : Nat → Rat} (h : SeqQ n d u) : fz d = d ∧ d.isUnd = false := by
  obtain ⟨x, rfl | rfl, _⟩ := h <;> exact ⟨rfl, rfl⟩
theorem SeqQ.row {d : D} {u : Nat → Rat} (h : SeqQ n d u) (hu : ∀ j, j < n → RQ 200 (u j)) (hn : n ≤ 1000) : RowV d ∧ numRowB n d = true := by
  obtain ⟨x, hd, hx⟩ := h
  have hi : itemsD d = fam n x := by rcases hd with rfl | rfl <;> rfl
  have hs : isSeqB d = true := by rcases hd with rfl | rfl <;> rfl
  refine ⟨⟨?_, ?_, fun e he => ?_, by rw [hi]; simpa using hn⟩, ?_⟩
  · rcases hd with rfl | rfl <;> exact ⟨rfl, rfl⟩
  · rcases hd with rfl | rfl <;> exact trivial
  · rw [hi, fam_mem] at he
    obtain ⟨j, hj, rfl⟩ := he
    have := (hx j hj).vd
    exact ⟨this.1, fun _ => ⟨_, hx j hj, hu j hj⟩, fun z => by rw [this.2] at z; cases z⟩
  · simp only [numRowB, hs, hi, fam_len, decide_true, Bool.true_and, decide_eq_true_eq]
    intro j hj
    have := (hx j hj).vd.2
    simpa [List.getD, hj] using this
theorem TabQ.val {M : Nat → Nat → Rat} (h : TabQ n v M) (hM : ∀ i j, i < n → j < n → RQ 200 (M i j)) (h1 : 1 ≤ n) (h20 : n ≤ 20) : ∃ x, ValV v (fam n x) ∧ shapeB (fam n x) = true ∧ ∀ i, i < n → SeqQ n (x i) (M i) := by
  obtain ⟨x, hv, hx⟩ := h
  refine ⟨x, ⟨hv, fun r hr => ?_, by simp; omega⟩, ?_, fun i hi => (hx i hi).1⟩
  · obtain ⟨i, hi, rfl⟩ := fam_mem.mp hr
    exact ((hx i hi).1.row (fun j hj => hM i j hi hj) (by omega)).1
  · simp only [shapeB, fam_len, Bool.and_eq_true, decide_eq_true_eq]
    refine ⟨⟨h1, h20⟩, fun i hi => ?_⟩
    have := ((hx i hi).1.row (fun j hj => hM i j hi hj) (by omega)).2
    simpa [List.getD, hi] using this
theorem ratios_rows {x : Nat → D} (h : ∀ i, i < n → SeqQ n (x i) (M i)) (hn : n ≤ 1000) (d1 : D) : ∃ y : Nat → D, compD [1] (gNm 1) tYesD (dCallP f_ratios_of (dCons (dVar 1) dNil)) (fam n x) [] [d1, .und] = some (fam n y, [d1, .und]) ∧ ∀ i, i < n → fz (y i) = vecD n (M i) := by
  obtain ⟨y, hy⟩ := pick_fn (n := n) (R := fun j (e : D) => f_ratios_of [x j] = some (e, .non) ∧ fz e = vecD n (M j)) fun j hj => ratios_of_eq (h j hj) hn
  refine ⟨y, compC y (fun j hj => ?_) (by omega), fun i hi => (hy i hi).2⟩
  have a := (hy j hj).1
  have b := (h j hj).fz
  exact ⟨_, _, _, by simp; rfl, by simp; rfl, by simp [a, b.1, b.2]; rfl, by simp⟩
theorem is_table_yes (h : TabQ n v M) (hM : ∀ i j, i < n → j < n → RQ 200 (M i j)) (h1 : 1 ≤ n) (h20 : n ≤ 20) : f_is_table [v] = some (.bl (symB n M), .non) := by
  obtain ⟨x, hv, hs, hx⟩ := h.val hM h1 h20
  obtain ⟨il, nu, fv, lv, iv⟩ := hv.facts
  have ch := chain_eq (i := n) (f := dBlt lenB (dCons (dVar 0) dNil)) (ρ := [v, .und]) (ρ' := [v, .und]) (by simp [nu, fv, lv])
  rw [decide_eq_true (by omega)] at ch
  have rt := rowTest_eq hv
  have hn : decide (∀ i, i < (fam n x).length → numRowB (fam n x).length ((fam n x).getD i .non) = true) = true := by
    simp only [shapeB, Bool.and_eq_true] at hs
    exact hs.2
  rw [hn] at rt
  unfold rowTest at rt
  obtain ⟨y, ey, hy⟩ := ratios_rows hx (by omega) v
  have al := alike_eq (M := M) (n := n) (by omega)
  have fy : (fam n fun i => fz (y i)) = fam n fun i => vecD n (M i) := fam_ext hy
  have hdc := dComp_at (fi := iSeq (dVar 0)) (ρ := [v, .und]) (ρ' := [v, .und]) (by simp [nu, fv, iv]) ey
  unfold f_is_table d_is_table
  refine semOf_rt (ρ := [v, .und]) ?_
  show sSeq _ _ [v, .und] = _
  rw [sSeq_nx (ρ' := [v, .und]) (by rw [sIf_f (ρ' := [v, .und]) (by simp [-dChain_ap, ch, nu, fv, il])]; rfl)]
  rw [sSeq_nx (ρ' := [v, .und]) (by rw [sIf_f (ρ' := [v, .und]) (by rw [tNotD_ap, tOf_ap, rt]; rfl)]; rfl)]
  refine sSeq_rt (sRet_at ?_)
  rw [dCallP_ap, dCons_ap, hdc]
  simp [fy, al]
end
end K31M

set_option maxRecDepth 100000
set_option maxHeartbeats 400000
set_option linter.all false
namespace K31M
open PySem L2 DV K31D
theorem compFl {own : List Nat} {fg : DenG} {ft : DenT} {fe : Den} {ρ : List D} (b : D → Bool) : ∀ (ds acc : List D), (∀ d ∈ ds, ∃ ρ1 ρ2, fg d ρ = some ρ1 ∧ ft ρ1 = some (b d, ρ2) ∧ (b d = true → ∃ ρ3, fe ρ2 = some (d, ρ3) ∧ unset own ρ3 = ρ) ∧ (b d = false → unset own ρ2 = ρ)) → acc.length + ds.length ≤ 100000 →
    compD own fg ft fe ds acc ρ = some (acc ++ ds.filter b, ρ)
  | [], acc, _, _ => by simp [compD]
  | d :: ds, acc, h, hl => by
    obtain ⟨ρ1, ρ2, h1, h2, h3, h4⟩ := h d (List.mem_cons_self ..)
    rw [List.length_cons] at hl
    cases q : b d with
    | true =>
      obtain ⟨ρ3, h5, h6⟩ := h3 q
      have := compFl (own := own) (fg := fg) (ft := ft) (fe := fe) b ds (acc ++ [d]) (fun d hd => h d (List.mem_cons_of_mem _ hd)) (by simp; omega)
      rw [q] at h2
      simp only [compD, h1, h2, h5, h6, this, List.filter_cons, q]
      rw [if_pos (by omega)]
      simp
    | false =>
      have := compFl (own := own) (fg := fg) (ft := ft) (fe := fe) b ds acc (fun d hd => h d (List.mem_cons_of_mem _ hd)) (by omega)
      rw [q] at h2
      simp only [compD, h1, h2, h4 q, this, List.filter_cons, q]
      simp
section
variable {p d v : D} {n m k : Nat} {rs : List D} {q : Rat} {M : Nat → Nat → Rat}
theorem ne_nil {xs : List D} (h : ∀ e ∈ xs, Plain 5 e) : oNotEq (.lst xs) (.lst []) = some (.bl (!xs.isEmpty)) := by
  have hp : ∀ xs : List D, (∀ e ∈ xs, Plain 5 e) → Plains 5 xs := by
    intro xs
    induction xs with
    | nil => intro _; exact .nil
    | cons e r ih => intro h; exact .cons (h e (List.mem_cons_self ..)) (ih fun x hx => h x (List.mem_cons_of_mem _ hx))
  have h0 : SeqAt.shaped (.list []) = true := by decide
  have t0 : toPy (.lst []) = some (.list []) := rfl
  simp only [oNotEq, ownN_lst]
  cases xs with
  | nil => exact eqB_self (by decide)
  | cons e r =>
    obtain ⟨pp, e1, c1, d1⟩ := hp _ h
    cases pp with
    | nil =>
      simp only [toPys] at e1
      split at e1 <;> cases e1
    | cons p1 pr =>
      have sh : SeqAt.shaped (.list (p1 :: pr)) = true := by simp [SeqAt.shaped, PyData.canLay0, c1, PyData.depth]; omega
      have t1 : toPy (.lst (e :: r)) = some (.list (p1 :: pr)) := by rw [toPy, e1]; rfl
      simp only [eqB, t1, t0, sh, h0]
      simp [PyData.eqv, PyData.eqvAll]
theorem isi_seq (h : Vd d) (hc : NoCon d) : isiB [d, .tup [.ty "list", .ty "tuple"]] = some (.bl (isSeqB d)) := by
  have h1 := h.1
  cases d <;> simp [kd, tyS] at h1 <;> (try exact hc.elim) <;> simp [isOne, kinds, kd, tyS, isSeqB, allCls, isAny]
abbrev lookTest : DenT := (tOrD (tNotD (tOf (dBlt isiB (dCons (dVar 1) (dCons (dTup (dCons (dCst (.ty "list")) (dCons (dCst (.ty "tuple")) dNil))) dNil))))) (tOrD (tOf (dBin oNotEq (dBlt lenB (dCons (dVar 1) dNil)) (dBlt lenB (dCons (dVar 0) dNil)))) (tOf (dBin oNotEq (dComp [2] (iSeq (dVar 1)) (gNm 2) (tNotD (tOf (dCallP f_law_is_number (dCons (dVar 2) dNil)))) (dVar 2)) (dLst dNil)))))
theorem lookTest_eq (hv : ValV v rs) (h : RowV d) (x2 x3 x4 : D) : ∃ x2', lookTest [v, d, x2, x3, x4] = some (!numRowB rs.length d, [v, d, x2', x3, x4]) := by
  obtain ⟨_, nu, fv, lv, iv⟩ := hv.facts
  have is := isi_seq h.v h.c
  have hfz := h.v.2
  have hnu := h.v.nu
  by_cases hs : isSeqB d = true
  · have el : lenB [d] = some (.int ((itemsD d).length : Int)) := by rcases seq_cases hs with z | z <;> rw [z] <;> rfl
    have ei : itemsOf d = some (itemsD d) := by rcases seq_cases hs with z | z <;> rw [z] <;> rfl
    by_cases hl : (itemsD d).length = rs.length
    · refine ⟨.und, ?_⟩
      have cc := compFl (own := [2]) (fg := gNm 2) (ft := (tNotD (tOf (dCallP f_law_is_number (dCons (dVar 2) dNil))))) (fe := dVar 2) (ρ := [v, d, .und, x3, x4]) (fun e => !isNumB e) (itemsD d) [] (fun e he => by
        have hv := (h.i e he).1
        have e2 := lawnum_eq hv
        have hf := hv.2
        have hu := hv.nu
        exact ⟨_, _, by simp; rfl, by simp [hu, hf, e2]; rfl, fun _ => ⟨_, by simp [hu, hf]; rfl, by simp⟩, fun _ => by simp⟩) (by have := h.l; simp; omega)
      have hdc := dComp_at (fi := iSeq (dVar 1)) (ρ := [v, d, x2, x3, x4]) (ρ' := [v, d, x2, x3, x4]) (by simp [hnu, hfz, ei]) cc
      have hb : ∀ e ∈ (itemsD d).filter (fun e => !isNumB e), Plain 5 e ∧ fz e = e := fun e he => by
        obtain ⟨a, b⟩ := List.mem_filter.mp he
        exact ⟨(h.i e a).2.2 (by simpa using b), (h.i e a).1.2⟩
      have nn := ne_nil fun e he => (hb e he).1
      have fb : ((itemsD d).filter fun e => !isNumB e).map fz = (itemsD d).filter fun e => !isNumB e := by
        conv => rhs; rw [← List.map_id ((itemsD d).filter fun e => !isNumB e)]
        exact List.map_congr_left fun e he => (hb e he).2
      have fin : numRowB rs.length d = ((itemsD d).filter fun e => !isNumB e).isEmpty := by
        rw [Bool.eq_iff_iff]
        simp only [numRowB, hs, hl, decide_true, Bool.true_and, decide_eq_true_eq, List.isEmpty_iff, List.filter_eq_nil_iff]
        constructor
        · intro H e he
          obtain ⟨i, hi, rfl⟩ := List.getElem_of_mem he
          have := H i (by omega)
          simpa [List.getD, hi] using this
        · intro H i hi
          have := H _ (getD_mem (xs := itemsD d) (i := i) (by omega))
          simpa using this
      have t1 : dBlt isiB (dCons (dVar 1) (dCons (dTup (dCons (dCst (.ty "list")) (dCons (dCst (.ty "tuple")) dNil))) dNil)) [v, d, x2, x3, x4] = some (.bl true, [v, d, x2, x3, x4]) := by simp [-isiB_tup, hnu, hfz, is, hs]
      have t2 : dBin oNotEq (dBlt lenB (dCons (dVar 1) dNil)) (dBlt lenB (dCons (dVar 0) dNil)) [v, d, x2, x3, x4] = some (.bl false, [v, d, x2, x3, x4]) := by simp [hnu, hfz, el, nu, fv, lv, hl]
      have t3 : dBin oNotEq (dComp [2] (iSeq (dVar 1)) (gNm 2) (tNotD (tOf (dCallP f_law_is_number (dCons (dVar 2) dNil)))) (dVar 2)) (dLst dNil) [v, d, x2, x3, x4] = some (.bl (!numRowB rs.length d), [v, d, .und, x3, x4]) := dBin_at hdc (b := .own []) (by simp) (by simp [fb, nn, fin])
      rw [lookTest, tOr_f (tNot_t (tOf_at t1)), tOr_f (tOf_at t2), tOf_at t3]
    · refine ⟨x2, ?_⟩
      have hl' : ¬ (((itemsD d).length : Int) = (rs.length : Int)) := by omega
      simp [-isiB_tup, hnu, hfz, is, hs, el, nu, fv, lv, hl', hl, numRowB]
  · refine ⟨x2, ?_⟩
    simp [-isiB_tup, hnu, hfz, is, hs, numRowB]
end
end K31M

set_option maxRecDepth 100000
set_option maxHeartbeats 400000
set_option linter.all false
namespace K31M
open PySem L2 DV K31D
section
variable {p d v : D} {n m k : Nat} {rs : List D} {q : Rat} {M : Nat → Nat → Rat}
abbrev rowB1 : DenS := (sSeq (sIf (tOrD (tNotD (tOf (dBlt isiB (dCons (dVar 1) (dCons (dTup (dCons (dCst (.ty "list")) (dCons (dCst (.ty "tuple")) dNil))) dNil))))) (tOrD (tOf (dBin oNotEq (dBlt lenB (dCons (dVar 1) dNil)) (dBlt lenB (dCons (dVar 0) dNil)))) (tOf (dBin oNotEq (dComp [2] (iSeq (dVar 1)) (gNm 2) (tNotD (tOf (dCallP f_law_is_number (dCons (dVar 2) dNil)))) (dVar 2)) (dLst dNil))))) (sSeq (sRet (dCst (.bl false)))
  sEnd) sEnd)
  sEnd)
theorem look_rows (hv : ValV v rs) : ((∀ j, j < rs.length → numRowB rs.length (rs.getD j .non) = true) ∧ ∃ x1 x2, forD (gNm 1) rowB1 rs [v, .und, .und, .und, .und] = some (.nx [v, x1, x2, .und, .und])) ∨
    ((∃ j, j < rs.length ∧ numRowB rs.length (rs.getD j .non) = false) ∧ ∃ ρ', forD (gNm 1) rowB1 rs [v, .und, .und, .und, .und] = some (.rt (.bl false) ρ')) := by
  have := forB (n := rs.length) (x := fun i => rs.getD i .non) (fg := gNm 1) (fb := rowB1) (fun i => numRowB rs.length (rs.getD i .non)) (fun j ρ => ∃ x1 x2, ρ = [v, x1, x2, .und, .und]) (fun i hi ρ hρ => by
    obtain ⟨x1, x2, rfl⟩ := hρ
    obtain ⟨x2', e⟩ := lookTest_eq hv (hv.r _ (getD_mem hi)) x2 .und .und
    refine ⟨[v, rs.getD i .non, x2, .und, .und], by simp, ?_⟩
    cases z : numRowB rs.length (rs.getD i .non) with
    | true =>
      rw [z] at e
      exact .inl ⟨rfl, [v, rs.getD i .non, x2', .und, .und], by rw [rowB1, sSeq_nx (ρ' := [v, rs.getD i .non, x2', .und, .und]) (by rw [sIf_f e]; rfl)]; rfl, _, _, rfl⟩
    | false =>
      rw [z] at e
      exact .inr ⟨rfl, [v, rs.getD i .non, x2', .und, .und], by rw [rowB1, sSeq_rt (ρ' := [v, rs.getD i .non, x2', .und, .und]) (by rw [sIf_t e]; rfl)]⟩) (ρ := [v, .und, .und, .und, .und]) ⟨_, _, rfl⟩
  rw [← fam_of] at this
  rcases this with ⟨a, ρ', e, x1, x2, rfl⟩ | h
  · exact .inl ⟨a, x1, x2, e⟩
  · exact .inr h
theorem look_first (hv : ValV v rs) : (tOrD (tNotD (tOf (dBlt isiB (dCons (dVar 0) (dCons (dTup (dCons (dCst (.ty "list")) (dCons (dCst (.ty "tuple")) dNil))) dNil))))) (tNotD (tOf (dChain (cmpB fun i j => decide (i ≤ j)) (cmpB fun i j => decide (i ≤ j)) (dCst (.int 1)) (dBlt lenB (dCons (dVar 0) dNil)) (dCst (.int 20)))))) [v, .und, .und, .und, .und] = some (!decide ((1 : Int) ≤ (rs.length : Int) ∧ (rs.length : Int) ≤ 20), [v, .und, .und, .und, .und]) := by
  obtain ⟨il, nu, fv, lv, iv⟩ := hv.facts
  have ch := chain_eq (i := rs.length) (f := dBlt lenB (dCons (dVar 0) dNil)) (ρ := [v, .und, .und, .und, .und]) (ρ' := [v, .und, .und, .und, .und]) (by simp [nu, fv, lv])
  have is : isiB [v, .tup [.ty "list", .ty "tuple"]] = some (.bl true) := by rcases hv.v with rfl | rfl <;> exact isi_seq ⟨rfl, rfl⟩ trivial
  have t1 : dBlt isiB (dCons (dVar 0) (dCons (dTup (dCons (dCst (.ty "list")) (dCons (dCst (.ty "tuple")) dNil))) dNil)) [v, .und, .und, .und, .und] = some (.bl true, [v, .und, .und, .und, .und]) := by simp [-isiB_tup, nu, fv, is]
  rw [tOr_f (tNot_t (tOf_at t1)), tNot_at (tOf_at ch)]
theorem looks_no (hv : ValV v rs) (hs : shapeB rs = false) : f_law_looks [v] = some (.bl false, .non) := by
  obtain ⟨il, nu, fv, lv, iv⟩ := hv.facts
  have lf := look_first hv
  unfold f_law_looks d_law_looks
  by_cases hb : (1 : Int) ≤ (rs.length : Int) ∧ (rs.length : Int) ≤ 20
  · have hn : decide (∀ i, i < rs.length → numRowB rs.length (rs.getD i .non) = true) = false := by
      have hb' : 1 ≤ rs.length ∧ rs.length ≤ 20 := by omega
      simpa [shapeB, hb'] using hs
    rw [decide_eq_true hb] at lf
    rcases look_rows hv with ⟨a, _⟩ | ⟨_, ρ', e⟩
    · exact absurd a (of_decide_eq_false hn)
    · refine semOf_rt (ρ := ρ') ?_
      show sSeq _ _ [v, .und, .und, .und, .und] = _
      rw [sSeq_nx (ρ' := [v, .und, .und, .und, .und]) (by rw [sIf_f lf]; rfl)]
      exact sSeq_rt (by rw [sFor_at (ρ' := [v, .und, .und, .und, .und]) (its := rs) (by simp [nu, fv, iv])]; exact e)
  · rw [decide_eq_false hb] at lf
    refine semOf_rt (ρ := [v, .und, .und, .und, .und]) ?_
    show sSeq _ _ [v, .und, .und, .und, .und] = _
    exact sSeq_rt (by rw [sIf_t lf]; rfl)
abbrev sideC : Den := (dComp [4] (iRng (dCons (dVar 3) dNil)) (gNm 4) tYesD (dBin oEq (dBin oAdd (dMake 4 [.int 1] f_Ratio___init (dCons (dCst (.int 0)) dNil)) (dBin ixB (dItem 0 (dVar 3)) (dVar 4))) (dBin oAdd (dMake 4 [.int 1] f_Ratio___init (dCons (dCst (.int 0)) dNil)) (dBin ixB (dItem 0 (dVar 4)) (dVar 3)))))
theorem tab_item {x : Nat → D} (hv : v = .lst (fam n x) ∨ v = .tup (fam n x)) {i : Nat} (hi : i < n) : ixB v (.int (i : Int)) = some (x i) := by
  rcases hv with rfl | rfl <;> simp [DV.atI_nat, hi]
theorem RQ.zero : RQ 1 (0 : Rat) := by
  have := RQ.int (n := 0) (x := 0) (by unfold Sm; decide)
  simpa using this
theorem zero_plus {d : D} (h : NumQ d q) (k : RQ 200 q) : oAdd (ratD 0) d = some (ratO q) := by
  have := o_add RQ.zero k h (by decide)
  rwa [show (0 : Rat) + q = q from by grind] at this
theorem make0 {ρ : List D} : dMake 4 [.int 1] f_Ratio___init (dCons (dCst (.int 0)) dNil) ρ = some (ratO 0, ρ) := by
  have := q_init1 (x := 0)
  simp [this]
theorem side_eq {x : Nat → D} (hv : v = .lst (fam n x) ∨ v = .tup (fam n x)) (hx : ∀ i, i < n → SeqQ n (x i) (M i)) (hM : ∀ i j, i < n → j < n → RQ 200 (M i j)) (hn : n ≤ 1000) {i : Nat} (hi : i < n) (x1 x2 x4 : D) :
    sideC [v, x1, x2, .int (i : Int), x4] = some (.own (fam i fun j => .bl (decide (M i j = M j i))), [v, x1, x2, .int (i : Int), .und]) := by
  have nu : v.isUnd = false ∧ fz v = v := by rcases hv with rfl | rfl <;> exact ⟨rfl, rfl⟩
  refine dComp_at (ρ' := [v, x1, x2, .int (i : Int), x4]) (its := fam i fun j => .int (j : Int)) (iRng_nat (by simp) (by omega)) ?_
  refine compC _ (fun j hj => ?_) (by omega)
  have hj2 : j < n := by omega
  obtain ⟨z, hz, hz2⟩ := hx i hi
  obtain ⟨y, hy, hy2⟩ := hx j hj2
  have a1 := tab_item hv hi
  have a2 := tab_item hv hj2
  have a3 := tab_item hz hj2
  have a4 := tab_item hy hi
  have b1 := zero_plus (hz2 j hj2) (hM i j hi hj2)
  have b2 := zero_plus (hy2 i hi) (hM j i hj2 hi)
  have f1 := (hz2 j hj2).fz
  have f2 := (hy2 i hi).fz
  have f3 := (hx i hi).fz
  have f4 := (hx j hj2).fz
  refine ⟨[v, x1, x2, .int (i : Int), .int (j : Int)], [v, x1, x2, .int (i : Int), .int (j : Int)], [v, x1, x2, .int (i : Int), .int (j : Int)], by simp, by simp, ?_, by simp⟩
  have it1 : dItem 0 (dVar 3) [v, x1, x2, .int (i : Int), .int (j : Int)] = some (x i, [v, x1, x2, .int (i : Int), .int (j : Int)]) := by
    rcases hv with rfl | rfl <;> simp [-ixB_lst, -ixB_tup, a1]
  have it2 : dItem 0 (dVar 4) [v, x1, x2, .int (i : Int), .int (j : Int)] = some (x j, [v, x1, x2, .int (i : Int), .int (j : Int)]) := by
    rcases hv with rfl | rfl <;> simp [-ixB_lst, -ixB_tup, a2]
  have e1 := dBin_at (φ := ixB) it1 (b := .int (j : Int)) (g := dVar 4) (ρ2 := [v, x1, x2, .int (i : Int), .int (j : Int)]) (by simp) (by rw [f3.1]; exact a3)
  have e2 := dBin_at (φ := ixB) it2 (b := .int (i : Int)) (g := dVar 3) (ρ2 := [v, x1, x2, .int (i : Int), .int (j : Int)]) (by simp) (by rw [f4.1]; exact a4)
  have s1 := dBin_at (φ := oAdd) make0 e1 (by rw [fz_ratO, f1]; exact b1)
  have s2 := dBin_at (φ := oAdd) make0 e2 (by rw [fz_ratO, f2]; exact b2)
  exact dBin_at s1 s2 (by rw [fz_ratO, fz_ratO]; exact o_eq)
theorem looks_yes (h : TabQ n v M) (hM : ∀ i j, i < n → j < n → RQ 200 (M i j)) (h1 : 1 ≤ n) (h20 : n ≤ 20) : f_law_looks [v] = some (.bl (symB n M), .non) := by
  obtain ⟨x, hv, hs, hx⟩ := h.val hM h1 h20
  obtain ⟨il, nu, fv, lv, iv⟩ := hv.facts
  have lf := look_first hv
  rw [decide_eq_true (by simp; omega)] at lf
  have hn : decide (∀ i, i < (fam n x).length → numRowB (fam n x).length ((fam n x).getD i .non) = true) = true := by
    simp only [shapeB, Bool.and_eq_true] at hs
    exact hs.2
  obtain ⟨_, x1, x2, er⟩ := (look_rows hv).resolve_right fun ⟨⟨j, hj, hb⟩, _⟩ => absurd (of_decide_eq_true hn j hj) (by rw [hb]; decide)
  have lp := forB (n := n) (x := fun i => D.int (i : Int)) (fg := gNm 3) (fb := (sSeq (sIf (tNotD (tOf (dBlt allB (dCons sideC dNil)))) (sSeq (sRet (dCst (.bl false)))
  sEnd) sEnd)
  sEnd)) (fun i => decide (∀ j, j < i → M i j = M j i)) (fun j ρ => ∃ x3 x4, ρ = [v, x1, x2, x3, x4]) (fun i hi ρ hρ => by
    obtain ⟨x3, x4, rfl⟩ := hρ
    have sd := side_eq hv.v hx hM (by omega) hi x1 x2 x4
    have st : dBlt allB (dCons sideC dNil) [v, x1, x2, .int (i : Int), x4] = some (.bl (decide (∀ j, j < i → M i j = M j i)), [v, x1, x2, .int (i : Int), .und]) := dBlt1_at sd (by simp)
    refine ⟨[v, x1, x2, .int (i : Int), x4], by simp, ?_⟩
    cases z : decide (∀ j, j < i → M i j = M j i) with
    | true =>
      rw [z] at st
      exact .inl ⟨rfl, [v, x1, x2, .int (i : Int), .und], by rw [sSeq_nx (ρ' := [v, x1, x2, .int (i : Int), .und]) (by rw [sIf_f (tNot_t (tOf_at st))]; rfl)]; rfl, _, _, rfl⟩
    | false =>
      rw [z] at st
      exact .inr ⟨rfl, [v, x1, x2, .int (i : Int), .und], by rw [sSeq_rt (ρ' := [v, x1, x2, .int (i : Int), .und]) (by rw [sIf_t (tNot_f (tOf_at st))]; rfl)]⟩) (ρ := [v, x1, x2, .und, .und]) ⟨_, _, rfl⟩
  unfold f_law_looks d_law_looks
  have ir : iRng (dCons (dBlt lenB (dCons (dVar 0) dNil)) dNil) [v, x1, x2, .und, .und] = some (fam n fun i => .int (i : Int), [v, x1, x2, .und, .und]) := iRng_nat (by simp [nu, fv, lv]) (by omega)
  rcases lp with ⟨a, ρ', e, x3, x4, rfl⟩ | ⟨⟨j, a, b⟩, ρ', e⟩
  · have hs : symB n M = true := decide_eq_true fun i hi j hj => of_decide_eq_true (a i hi) j hj
    refine semOf_rt (ρ := [v, x1, x2, x3, x4]) ?_
    show sSeq _ _ [v, .und, .und, .und, .und] = _
    rw [sSeq_nx (ρ' := [v, .und, .und, .und, .und]) (by rw [sIf_f lf]; rfl)]
    rw [sSeq_nx (by rw [sFor_at (ρ' := [v, .und, .und, .und, .und]) (its := fam n x) (by simp [nu, fv, iv])]; exact er)]
    rw [sSeq_nx (by rw [sFor_at ir]; exact e), hs]
    rfl
  · have hs : symB n M = false := decide_eq_false fun z => by rw [decide_eq_false_iff_not] at b; exact b (z j a)
    refine semOf_rt (ρ := ρ') ?_
    show sSeq _ _ [v, .und, .und, .und, .und] = _
    rw [sSeq_nx (ρ' := [v, .und, .und, .und, .und]) (by rw [sIf_f lf]; rfl)]
    rw [sSeq_nx (by rw [sFor_at (ρ' := [v, .und, .und, .und, .und]) (its := fam n x) (by simp [nu, fv, iv])]; exact er)]
    rw [sSeq_rt (by rw [sFor_at ir]; exact e), hs]
end
end K31M

set_option maxRecDepth 100000
set_option maxHeartbeats 400000
set_option linter.all false
namespace K31M
open PySem L2 DV K31D
section
variable {p d v : D} {n m k l : Nat} {q : Rat} {M : Nat → Nat → Rat} {u w : Nat → Rat}
theorem RQ.sum (h : ∀ i, i < n → RQ m (u i)) : ∀ k, k ≤ n → RQ (1 + k * (m + 1)) (sumQ k u)
  | 0, _ => RQ.zero.mono (by omega)
  | k + 1, hk => by
    have := (RQ.sum h k (by omega)).add (h k (by omega))
    exact this.mono (by rw [Nat.succ_mul]; omega)
theorem total_eq (h : ∀ i, i < n → RQ m (u i)) (hl : 1 + n * (m + 1) + m < 8000) (hn : n ≤ 1000) : f_total_of [vecD n u] = some (ratD (sumQ n u), .non) := by
  obtain ⟨ρ', e, x2, rfl⟩ := forN (n := n) (x := fun i => ratD (u i)) (fg := gNm 2) (fb := (sSeq (sAsg 1 (dBin oAdd (dVar 1) (dVar 2)))
  sEnd)) (fun j ρ => ∃ x2, ρ = [vecD n u, ratO (sumQ j u), x2]) (fun j hj ρ hρ => by
    obtain ⟨x2, rfl⟩ := hρ
    have b := RQ.sum h j (by omega)
    have hm : 1 + j * (m + 1) + m < 8000 := by have := Nat.mul_le_mul_right (m + 1) (Nat.le_of_lt hj); omega
    have a := o_add b (h j hj) .rat hm
    have e1 : dBin oAdd (dVar 1) (dVar 2) [vecD n u, ratO (sumQ j u), ratD (u j)] = some (ratO (sumQ j u + u j), [vecD n u, ratD (sumQ j u), ratD (u j)]) := dBin_at (ρ1 := [vecD n u, ratD (sumQ j u), ratD (u j)]) (a := ratD (sumQ j u)) (b := ratD (u j)) (by simp) (by simp) a
    refine ⟨[vecD n u, ratO (sumQ j u), ratD (u j)], [vecD n u, ratO (sumQ j u + u j), ratD (u j)], by simp, .inl ?_, _, rfl⟩
    rw [sSeq_ap, sAsg_ap, e1]; rfl) (ρ := [vecD n u, ratO 0, .und]) ⟨_, rfl⟩
  unfold f_total_of d_total_of
  refine semOf_rt (ρ := [vecD n u, ratD (sumQ n u), x2]) ?_
  show sSeq _ _ [vecD n u, .und, .und] = _
  rw [sSeq_nx (ρ' := [vecD n u, ratO 0, .und]) (by rw [sAsg_ap, make0]; rfl)]
  rw [sSeq_nx (by rw [sFor_at (ρ' := [vecD n u, ratO 0, .und]) (its := fam n fun i => ratD (u i)) (by simp)]; exact e)]
  exact sSeq_rt (sRet_at (by simp))
theorem weighed_eq (h : ∀ i, i < n → RQ m (u i)) (h2 : ∀ i, i < n → RQ k (w i)) (hl : 1 + n * (m + k + 2) + (m + k + 1) < 8000) (hn : n ≤ 1000) : f_weighed [vecD n u, vecD n w] = some (ratD (sumQ n fun i => u i * w i), .non) := by
  have t := total_eq (n := n) (u := fun i => u i * w i) (m := m + k + 1) (fun i hi => (h i hi).mul (h2 i hi)) (by omega) hn
  have cc := compC (own := [2, 3]) (fg := gTup [(gNm 2), (gNm 3)]) (ft := tYesD) (fe := dBin oMult (dVar 2) (dVar 3)) (n := n) (x := fun i => D.tup [ratD (u i), ratD (w i)]) (ρ := [vecD n u, vecD n w, .und, .und]) (fun i => ratO (u i * w i)) (fun j hj => by
    have hs : m + k < 8000 := by omega
    have a := o_mul (h j hj) (h2 j hj) .rat hs
    exact ⟨_, _, _, by simp [gTs]; rfl, by simp; rfl, dBin_at (ρ1 := [vecD n u, vecD n w, ratD (u j), ratD (w j)]) (ρ2 := [vecD n u, vecD n w, ratD (u j), ratD (w j)]) (a := ratD (u j)) (b := ratD (w j)) (by simp) (by simp) a, by simp⟩) (by omega)
  have hdc := dComp_at (fi := iZp (dCons (dVar 0) (dCons (dVar 1) dNil))) (ρ := [vecD n u, vecD n w, .und, .und]) (ρ' := [vecD n u, vecD n w, .und, .und]) (its := fam n fun i => D.tup [ratD (u i), ratD (w i)]) (by simp [lstOf, zip_fam]) cc
  unfold f_weighed d_weighed
  refine semOf_rt (ρ := [vecD n u, vecD n w, .und, .und]) ?_
  show sSeq _ _ [vecD n u, vecD n w, .und, .und] = _
  refine sSeq_rt (sRet_at ?_)
  rw [dCallP_ap, dCons_ap, hdc]
  have ff : (fam n fun i => fz (ratO (u i * w i))) = fam n fun i => ratD (u i * w i) := fam_ext fun i _ => fz_ratO
  simp only [dNil_ap, List.map_cons, List.map_nil, fz_own, fam_map, ff, t]
def bil (n : Nat) (M : Nat → Nat → Rat) (u w : Nat → Rat) : Rat := sumQ n fun i => u i * sumQ n fun j => M i j * w j
theorem made_eq (hM : ∀ i j, i < n → j < n → RQ m (M i j)) (h2 : ∀ i, i < n → RQ k (w i)) (hl : 1 + n * (m + k + 2) + (m + k + 1) < 8000) (hn : n ≤ 1000) : f_made_by [tabD n M, vecD n w] = some (.own (fam n fun i => ratD (sumQ n fun j => M i j * w j)), .non) := by
  have cc := compC (own := [2]) (fg := gNm 2) (ft := tYesD) (fe := (dCallP f_weighed (dCons (dVar 2) (dCons (dVar 1) dNil)))) (n := n) (x := fun i => vecD n (M i)) (ρ := [tabD n M, vecD n w, .und]) (fun i => ratD (sumQ n fun j => M i j * w j)) (fun i hi => by
    have e := weighed_eq (fun j hj => hM i j hi hj) h2 hl hn
    exact ⟨_, _, _, by simp; rfl, by simp; rfl, by simp [e]; rfl, by simp⟩) (by omega)
  have hdc := dComp_at (fi := iSeq (dVar 0)) (ρ := [tabD n M, vecD n w, .und]) (ρ' := [tabD n M, vecD n w, .und]) (its := fam n fun i => vecD n (M i)) (by simp) cc
  unfold f_made_by d_made_by
  refine semOf_rt (ρ := [tabD n M, vecD n w, .und]) ?_
  show sSeq _ _ [tabD n M, vecD n w, .und] = _
  exact sSeq_rt (sRet_at hdc)
theorem value_in_eq (hM : ∀ i j, i < n → j < n → RQ m (M i j)) (h : ∀ i, i < n → RQ l (u i)) (h2 : ∀ i, i < n → RQ k (w i)) (hl : 1 + n * (m + k + 2) + (m + k + 1) < 8000) (hl2 : 1 + n * (l + (1 + n * (m + k + 1 + 1)) + 2) + (l + (1 + n * (m + k + 1 + 1)) + 1) < 8000) (hn : n ≤ 1000) : f_value_in [tabD n M, vecD n u, vecD n w] = some (ratD (bil n M u w), .non) := by
  have e1 := made_eq hM h2 hl hn
  have e2 := weighed_eq h (w := fun i => sumQ n fun j => M i j * w j) (k := 1 + n * (m + k + 1 + 1)) (fun i hi => RQ.sum (n := n) (m := m + k + 1) (fun j hj => (hM i j hi hj).mul (h2 j hj)) n (Nat.le_refl _)) hl2 hn
  unfold f_value_in d_value_in
  refine semOf_rt (ρ := [tabD n M, vecD n u, vecD n w]) ?_
  show sSeq _ _ [tabD n M, vecD n u, vecD n w] = _
  refine sSeq_rt (sRet_at ?_)
  simp [e1, e2, bil]
theorem told_rows_eq (h : TabQ n v M) (hM : ∀ i j, i < n → j < n → RQ 200 (M i j)) (h1 : 1 ≤ n) (h20 : n ≤ 20) (hs : symB n M = true) : ∃ e, f_told_rows [v] = some (e, .non) ∧ fz e = tabD n M := by
  have it := is_table_yes h hM h1 h20
  rw [hs] at it
  obtain ⟨x, hv, _, hx⟩ := h.val hM h1 h20
  obtain ⟨il, nu, fv, lv, iv⟩ := hv.facts
  obtain ⟨y, ey, hy⟩ := ratios_rows hx (by omega) v
  have hdc := dComp_at (fi := iSeq (dVar 0)) (ρ := [v, .und]) (ρ' := [v, .und]) (by simp [nu, fv, iv]) ey
  refine ⟨.own (fam n y), ?_, by simp; exact fam_ext hy⟩
  unfold f_told_rows d_told_rows
  refine semOf_rt (ρ := [v, .und]) ?_
  show sSeq _ _ [v, .und] = _
  rw [sSeq_nx (ρ' := [v, .und]) (by rw [sIf_f (tNot_t (tOf_at (b := true) (ρ' := [v, .und]) (by simp [nu, fv, it])))]; rfl)]
  exact sSeq_rt (sRet_at hdc)
theorem told_dir_eq (h : SeqQ n d u) (hu : ∀ i, i < n → RQ 200 (u i)) (hn : n ≤ 1000) : ∃ e, f_told_direction [tabD n M, d] = some (e, .non) ∧ fz e = vecD n u := by
  obtain ⟨e, e1, e2⟩ := ratios_of_eq h hn
  have rw_ := h.row hu hn
  have an := are_numbers_eq (n := n) rw_.1
  rw [rw_.2] at an
  have f := h.fz
  refine ⟨e, ?_, e2⟩
  unfold f_told_direction d_told_direction
  refine semOf_rt (ρ := [tabD n M, d]) ?_
  show sSeq _ _ [tabD n M, d] = _
  rw [sSeq_nx (ρ' := [tabD n M, d]) (by rw [sIf_f (tNot_t (tOf_at (b := true) (ρ' := [tabD n M, d]) (by simp [f.1, f.2, an])))]; rfl)]
  exact sSeq_rt (sRet_at (by simp [f.1, f.2, e1]))
end
end K31M

set_option maxRecDepth 100000
set_option maxHeartbeats 400000
set_option linter.all false
namespace K31M
open PySem L2 DV K31D
section
variable {p d v a b : D} {n m k l : Nat} {q : Rat} {M : Nat → Nat → Rat} {u w z : Nat → Rat}
/-- a small even table -/
structure TabM (n : Nat) (M : Nat → Nat → Rat) : Prop where
  n1 : 1 ≤ n
  n5 : n ≤ 5
  s : ∀ i j, i < n → j < n → RQ 80 (M i j)
  e : ∀ i j, i < n → j < n → M i j = M j i
theorem TabM.sym (h : TabM n M) : symB n M = true := decide_eq_true fun i hi j hj => h.e i j hi (by omega)
def VecM (n : Nat) (u : Nat → Rat) : Prop := ∀ i, i < n → RQ 60 (u i)
theorem bounds (h : TabM n M) : 1 + n * (80 + 60 + 2) + (80 + 60 + 1) < 8000 ∧ 1 + n * (60 + (1 + n * (80 + 60 + 1 + 1)) + 2) + (60 + (1 + n * (80 + 60 + 1 + 1)) + 1) < 8000 ∧ 1 + n * (60 + (1 + n * (80 + 60 + 1 + 1)) + 1 + 1) ≤ 3980 := by
  have h1 := h.n1
  have h5 := h.n5
  have : n = 1 ∨ n = 2 ∨ n = 3 ∨ n = 4 ∨ n = 5 := by omega
  rcases this with rfl | rfl | rfl | rfl | rfl <;> decide
theorem bil_rq (h : TabM n M) (hu : VecM n u) (hw : VecM n w) : RQ 3980 (bil n M u w) :=
  (RQ.sum (n := n) (m := 60 + (1 + n * (80 + 60 + 1 + 1)) + 1) (fun i hi => (hu i hi).mul (RQ.sum (n := n) (m := 80 + 60 + 1) (fun j hj => (h.s i j hi hj).mul (hw j hj)) n (Nat.le_refl _))) n (Nat.le_refl _)).mono (bounds h).2.2
theorem value_at_eq (h : TabM n M) (ht : TabQ n v M) (ha : SeqQ n a u) (hb : SeqQ n b w) (hu : VecM n u) (hw : VecM n w) : f_value_at [v, a, b] = some (ratD (bil n M u w), .non) := by
  have n5 := h.n5
  obtain ⟨e3, t3, f3⟩ := told_rows_eq ht (fun i j hi hj => (h.s i j hi hj).mono (by decide)) h.n1 (by omega) h.sym
  obtain ⟨e4, t4, f4⟩ := told_dir_eq (M := M) ha (fun i hi => (hu i hi).mono (by decide)) (by omega)
  obtain ⟨e5, t5, f5⟩ := told_dir_eq (M := M) hb (fun i hi => (hw i hi).mono (by decide)) (by omega)
  have vi := value_in_eq h.s hu hw (bounds h).1 (bounds h).2.1 (by omega)
  have fv : fz v = v ∧ v.isUnd = false := by obtain ⟨x, rfl | rfl, _⟩ := ht <;> exact ⟨rfl, rfl⟩
  have fa := ha.fz
  have fb := hb.fz
  have u3 : e3.isUnd = false := by cases e3 <;> first | rfl | (simp at f3)
  have u4 : e4.isUnd = false := by cases e4 <;> first | rfl | (simp at f4)
  unfold f_value_at d_value_at
  refine semOf_rt (ρ := [v, a, b, tabD n M, vecD n u]) ?_
  show sSeq _ _ [v, a, b, .und, .und] = _
  rw [sSeq_nx (ρ' := [v, a, b, e3, .und]) (by simp [fv.1, fv.2, t3])]
  rw [sSeq_nx (ρ' := [v, a, b, tabD n M, e4]) (by simp [fa.1, fa.2, u3, f3, t4])]
  exact sSeq_rt (sRet_at (by simp [fb.1, fb.2, u4, f4, t5, f5, vi]))
abbrev sumB : DenS := (sSeq (sAsg 3 (dBin oAdd (dVar 3) (dBin oMult (dBin oMult (dItem 1 (dVar 4)) (dBin ixB (dItem 0 (dVar 4)) (dVar 5))) (dItem 2 (dVar 5)))))
  sEnd)
theorem sum_in (h : TabM n M) (hu : VecM n u) (hw : VecM n w) {i : Nat} (hi : i < n) {S : Rat} (hS : RQ (1 + i * (n * 203 + 1)) S) (x5 : D) :
    ∃ x5', forD (gNm 5) sumB (fam n fun j => D.int (j : Int)) [tabD n M, vecD n u, vecD n w, ratO S, .int (i : Int), x5] = some (.nx [tabD n M, vecD n u, vecD n w, ratO (S + sumQ n fun j => u i * M i j * w j), .int (i : Int), x5']) ∧ RQ (1 + (i + 1) * (n * 203 + 1)) (S + sumQ n fun j => u i * M i j * w j) := by
  have n5 := h.n5
  have tm : ∀ j, j < n → RQ 202 (u i * M i j * w j) := fun j hj => ((hu i hi).mul (h.s i j hi hj)).mul (hw j hj)
  have hi2 : i * (n * 203 + 1) ≤ 4 * (5 * 203 + 1) := Nat.mul_le_mul (by omega) (by omega)
  have bd : ∀ j, j ≤ n → RQ (1 + i * (n * 203 + 1) + j * 203) (S + sumQ j fun j => u i * M i j * w j) := fun j hj => by
    induction j with
    | zero => simp only [sumQ]; rw [show S + 0 = S from by grind]; exact hS.mono (by omega)
    | succ j ih =>
      have := (ih (by omega)).add (tm j (by omega))
      simp only [sumQ]
      rw [show S + ((sumQ j fun j => u i * M i j * w j) + u i * M i j * w j) = (S + sumQ j fun j => u i * M i j * w j) + u i * M i j * w j from by grind]
      exact this.mono (by omega)
  obtain ⟨ρ', e, x5', rfl⟩ := forN (n := n) (x := fun j => D.int (j : Int)) (fg := gNm 5) (fb := sumB) (fun j ρ => ∃ x5, ρ = [tabD n M, vecD n u, vecD n w, ratO (S + sumQ j fun j => u i * M i j * w j), .int (i : Int), x5]) (fun j hj ρ hρ => by
    obtain ⟨x5, rfl⟩ := hρ
    have b1 := bd j (by omega)
    have m1 := o_mul (hu i hi) (h.s i j hi hj) .rat (by decide)
    have m2 := o_mul ((hu i hi).mul (h.s i j hi hj)) (hw j hj) .rat (by decide)
    have a1 := o_add b1 (tm j hj) .rat (by omega)
    refine ⟨[tabD n M, vecD n u, vecD n w, ratO (S + sumQ j fun j => u i * M i j * w j), .int (i : Int), .int (j : Int)], [tabD n M, vecD n u, vecD n w, ratO (S + sumQ (j + 1) fun j => u i * M i j * w j), .int (i : Int), .int (j : Int)], by simp, .inl ?_, _, rfl⟩
    have es : (S + sumQ (j + 1) fun j => u i * M i j * w j) = (S + sumQ j fun j => u i * M i j * w j) + u i * M i j * w j := by simp only [sumQ]; grind
    rw [es]
    clear es bd
    generalize S + sumQ j (fun j => u i * M i j * w j) = T at *
    have e0 : dItem 1 (dVar 4) [tabD n M, vecD n u, vecD n w, ratD T, .int (i : Int), .int (j : Int)] = some (ratD (u i), [tabD n M, vecD n u, vecD n w, ratD T, .int (i : Int), .int (j : Int)]) := by simp [DV.atI_nat, hi]
    have e1 : dBin ixB (dItem 0 (dVar 4)) (dVar 5) [tabD n M, vecD n u, vecD n w, ratD T, .int (i : Int), .int (j : Int)] = some (ratD (M i j), [tabD n M, vecD n u, vecD n w, ratD T, .int (i : Int), .int (j : Int)]) := by simp [DV.atI_nat, hi, hj]
    have e2 : dItem 2 (dVar 5) [tabD n M, vecD n u, vecD n w, ratD T, .int (i : Int), .int (j : Int)] = some (ratD (w j), [tabD n M, vecD n u, vecD n w, ratD T, .int (i : Int), .int (j : Int)]) := by simp [DV.atI_nat, hj]
    have e3 := dBin_at (φ := oMult) e0 e1 (d := ratO (u i * M i j)) m1
    have e4 := dBin_at (φ := oMult) e3 e2 (d := ratO (u i * M i j * w j)) (by rw [fz_ratO]; exact m2)
    have e5 := dBin_at (φ := oAdd) (f := dVar 3) (a := ratD T) (ρ := [tabD n M, vecD n u, vecD n w, ratO T, .int (i : Int), .int (j : Int)]) (by simp) e4 (d := ratO (T + u i * M i j * w j)) (by rw [fz_ratO]; exact a1)
    rw [sumB, sSeq_ap, sAsg_ap, e5]
    rfl) (ρ := [tabD n M, vecD n u, vecD n w, ratO S, .int (i : Int), x5]) ⟨x5, by simp only [sumQ]; rw [show S + 0 = S from by grind]⟩
  refine ⟨x5', e, (bd n (Nat.le_refl _)).mono ?_⟩
  rw [Nat.add_mul i 1, Nat.one_mul]
  omega
theorem law_sum_eq (h : TabM n M) (hu : VecM n u) (hw : VecM n w) : f_law_sum [tabD n M, vecD n u, vecD n w] = some (ratD (bil n M u w), .non) := by
  have n5 := h.n5
  obtain ⟨ρ', e, S, x4, x5, rfl, hS, _⟩ := forN (n := n) (x := fun j => D.int (j : Int)) (fg := gNm 4) (fb := (sSeq (sFor (iRng (dCons (dBlt lenB (dCons (dVar 0) dNil)) dNil)) (gNm 5) sumB)
  sEnd)) (fun i ρ => ∃ S x4 x5, ρ = [tabD n M, vecD n u, vecD n w, ratO S, x4, x5] ∧ S = (sumQ i fun i => sumQ n fun j => u i * M i j * w j) ∧ RQ (1 + i * (n * 203 + 1)) S) (fun i hi ρ hρ => by
    obtain ⟨S, x4, x5, rfl, hS, hb⟩ := hρ
    obtain ⟨x5', e, b⟩ := sum_in h hu hw hi hb x5
    refine ⟨[tabD n M, vecD n u, vecD n w, ratO S, .int (i : Int), x5], [tabD n M, vecD n u, vecD n w, ratO (S + sumQ n fun j => u i * M i j * w j), .int (i : Int), x5'], by simp, .inl ?_, _, _, _, rfl, by rw [hS]; rfl, b⟩
    rw [sSeq_nx (by rw [sFor_at (iRng_nat (n := n) (ρ' := [tabD n M, vecD n u, vecD n w, ratO S, .int (i : Int), x5]) (by simp) (by omega))]; exact e)]
    rfl) (ρ := [tabD n M, vecD n u, vecD n w, ratO 0, .und, .und]) ⟨0, .und, .und, rfl, rfl, RQ.zero.mono (by omega)⟩
  have hS2 : S = bil n M u w := by
    rw [hS]
    unfold bil
    refine sumQ_congr fun i _ => ?_
    rw [← sumQ_mul]
    exact sumQ_congr fun j _ => by grind
  subst hS2
  unfold f_law_sum d_law_sum
  refine semOf_rt (ρ := [tabD n M, vecD n u, vecD n w, ratD (bil n M u w), x4, x5]) ?_
  show sSeq _ _ [tabD n M, vecD n u, vecD n w, .und, .und, .und] = _
  rw [sSeq_nx (ρ' := [tabD n M, vecD n u, vecD n w, ratO 0, .und, .und]) (by rw [sAsg_ap, make0]; rfl)]
  rw [sSeq_nx (by rw [sFor_at (iRng_nat (n := n) (ρ' := [tabD n M, vecD n u, vecD n w, ratO 0, .und, .und]) (by simp) (by omega))]; exact e)]
  exact sSeq_rt (sRet_at (by simp))
/-! it is straight in each, and even -/
theorem bil_comm (h : TabM n M) : bil n M w u = bil n M u w := by
  unfold bil
  have e1 : (sumQ n fun i => w i * sumQ n fun j => M i j * u j) = sumQ n fun i => sumQ n fun j => w i * (M i j * u j) := sumQ_congr fun i _ => sumQ_mul.symm
  have e2 : (sumQ n fun i => u i * sumQ n fun j => M i j * w j) = sumQ n fun i => sumQ n fun j => u i * (M i j * w j) := sumQ_congr fun i _ => sumQ_mul.symm
  rw [e1, e2, sumQ_comm]
  refine sumQ_congr fun i hi => sumQ_congr fun j hj => ?_
  rw [h.e j i hj hi]
  grind
theorem bil_line : bil n M (fun i => u i * 2 - z i) w = bil n M u w * 2 - bil n M z w := by
  unfold bil
  rw [show (sumQ n fun i => u i * sumQ n fun j => M i j * w j) * 2 = 2 * sumQ n (fun i => u i * sumQ n fun j => M i j * w j) from by grind, ← sumQ_mul, ← sumQ_sub]
  exact sumQ_congr fun i _ => by grind
theorem bil_zero : bil n M (fun _ => 0) w = 0 := by
  unfold bil
  rw [sumQ_congr (h := fun _ => 0) fun i _ => Rat.zero_mul _, sumQ_zero]
end
end K31M

set_option maxRecDepth 100000
set_option maxHeartbeats 400000
set_option linter.all false
namespace K31M
open PySem L2 DV K31D
section
variable {p d v a b : D} {n m k l : Nat} {q : Rat} {M : Nat → Nat → Rat} {u w z : Nat → Rat}
theorem pot_nu (h : PotD p) : p.isUnd = false := by obtain ⟨_, _, rfl, _⟩ := h; rfl
theorem small_vec {ρ : List D} (f : D → List D) (hf : ∀ p, ∃ r, f p = p :: r) (own : Nat) (lim : Int) (h0 : 0 ≤ lim) (h1 : lim ≤ 20) (h : PotD p) (hn : n ≤ 1000)
    (hg : ∀ p j, gNm own (.int j) (f p) = some ((f p).set own (.int j))) (ho : ∀ p p' j, PotD p → PotD p' → unset [own] (((f p).set own (.int j)).set 0 p') = f p') (hl : own ≠ 0) :
    ∃ (u : Nat → Rat) (p' : D), compD [own] (gNm own) tYesD (dCallR f_law_small 0 (dCons (dCst (.int lim)) dNil)) (fam n fun j => D.int (j : Int)) [] (f p) = some (fam n fun i => ratO (u i), f p') ∧ PotD p' ∧ ∀ i, i < n → RQ 8 (u i) := by
  obtain ⟨y, ρ', e, ⟨p1, rfl, h1⟩, hR⟩ := compF (own := [own]) (fg := gNm own) (ft := tYesD) (fe := (dCallR f_law_small 0 (dCons (dCst (.int lim)) dNil))) (n := n) (x := fun j => D.int (j : Int)) (fun ρ => ∃ p, ρ = f p ∧ PotD p) (fun _ e => ∃ q, e = ratO q ∧ RQ 8 q) (fun j hj ρ hρ => by
    obtain ⟨p0, rfl, g0⟩ := hρ
    obtain ⟨q, p1, e1, g1, r1⟩ := small_spec g0 h0 h1
    obtain ⟨r, hr⟩ := hf p0
    have nu := pot_nu g0
    have hz : ((f p0).set own (.int (j : Int)))[0]? = some p0 := by rw [List.getElem?_set_ne hl, hr]; rfl
    refine ⟨_, _, _, ratO q, hg p0 _, by simp; rfl, ?_, ⟨p1, ho p0 p1 j g0 g1, g1⟩, q, rfl, r1⟩
    obtain ⟨_, _, rfl, _⟩ := id g0
    simp [hz, e1]) (ρ := f p) ⟨p, rfl, h⟩ (by omega)
  obtain ⟨u, hu⟩ := pick_fn hR
  exact ⟨u, p1, by rw [e, fam_ext fun i hi => (hu i hi).1], h1, fun i hi => (hu i hi).2⟩
theorem list_spec (h : PotD p) (h1 : 1 ≤ n) (h5 : n ≤ 5) : ∃ (u : Nat → Rat) (p' : D), f_law_list [p, .int (n : Int)] = some (vecD n u, p') ∧ PotD p' ∧ ∀ i, i < n → RQ 20 (u i) := by
  obtain ⟨u, p1, e, g1, hu⟩ := small_vec (n := n) (ρ := []) (fun p => [p, .int (n : Int), .und, .und]) (fun p => ⟨_, rfl⟩) 3 5 (by decide) (by decide) h (by omega) (fun p j => by simp) (fun p p' j hp hp' => by simp) (by decide)
  obtain ⟨i, p2, e2, g2, a2, b2⟩ := draw_spec g1 (k := 4) (by decide) (by decide)
  have hdc := dComp_at (fi := iRng (dCons (dVar 1) dNil)) (ρ := [p, .int (n : Int), .und, .und]) (ρ' := [p, .int (n : Int), .und, .und]) (iRng_nat (by simp) (by omega)) e
  have nu := pot_nu h
  by_cases hi : i = 0
  · obtain ⟨j, p3, e3, g3, a3, b3⟩ := draw_spec g2 (k := 9) (by decide) (by decide)
    obtain ⟨x, p4, hx, e4, g4⟩ := pick_spec g3 [.int 1, .int 999979] (by simp) (by simp)
    obtain ⟨l, p5, e5, g5, a5, b5⟩ := draw_spec g4 (k := n) (by omega) (by omega)
    have hb : ∃ b : Int, x = .int b ∧ b ≠ 0 ∧ Sm 20 b := by
      simp only [List.mem_cons, List.not_mem_nil, or_false] at hx
      rcases hx with rfl | rfl <;> exact ⟨_, rfl, by decide, by unfold Sm; decide⟩
    obtain ⟨b, rfl, hb0, hb1⟩ := hb
    have st : Sm 20 (999983 - j) := sm_abs (by omega) (by omega)
    have qi := q_init (t := 999983 - j) hb0 hb1 (by decide)
    have rq : RQ 20 (Rat.divInt (999983 - j) b) := RQ.low hb0 st hb1
    obtain ⟨l, rfl⟩ := Int.eq_ofNat_of_zero_le a5
    have hl : l < n := by omega
    refine ⟨fun i => if i = l then Rat.divInt (999983 - j) b else u i, p5, ?_, g5, fun i hi => by dsimp only; split; exact rq; exact (hu i hi).mono (by decide)⟩
    have fe : (fam n fun j_1 => if j_1 = l then ratO (Rat.divInt (999983 - j) b) else ratO (u j_1)) = fam n fun i => ratO (if i = l then Rat.divInt (999983 - j) b else u i) := fam_ext fun i _ => by split <;> rfl
    unfold f_law_list d_law_list
    refine semOf_mu (ρ := [.int (n : Int), vecD n (fun i => if i = l then Rat.divInt (999983 - j) b else u i), .und]) ?_ (pot_nu g5)
    show sSeq _ _ [p, .int (n : Int), .und, .und] = _
    rw [sSeq_nx (ρ' := [p1, .int (n : Int), .own (fam n fun i => ratO (u i)), .und]) (by rw [sAsg_ap, hdc]; rfl)]
    obtain ⟨_, _, rfl, _⟩ := id g1
    obtain ⟨_, _, rfl, _⟩ := id g2
    obtain ⟨_, _, rfl, _⟩ := id g3
    obtain ⟨_, _, rfl, _⟩ := id g4
    obtain ⟨_, _, rfl, _⟩ := id g5
    simp [e2, hi, e3, e4, e5, qi, hl, DV.ixN_nat]
    exact fam_ext fun i _ => by split <;> simp
  · refine ⟨u, p2, ?_, g2, fun i hi => (hu i hi).mono (by decide)⟩
    unfold f_law_list d_law_list
    refine semOf_mu (ρ := [.int (n : Int), vecD n u, .und]) ?_ (pot_nu g2)
    show sSeq _ _ [p, .int (n : Int), .und, .und] = _
    rw [sSeq_nx (ρ' := [p1, .int (n : Int), .own (fam n fun i => ratO (u i)), .und]) (by rw [sAsg_ap, hdc]; rfl)]
    obtain ⟨_, _, rfl, _⟩ := id g1
    obtain ⟨_, _, rfl, _⟩ := id g2
    simp [e2, hi]
end
end K31M

set_option maxRecDepth 100000
set_option maxHeartbeats 400000
set_option linter.all false
namespace K31M
open PySem L2 DV K31D
section
variable {p d v a b : D} {n m k l : Nat} {q : Rat} {M : Nat → Nat → Rat} {u w z : Nat → Rat} {c : Nat → Int}
abbrev intsD (n : Nat) (c : Nat → Int) : D := .lst (fam n fun i => .int (c i))
theorem more_spec (hM : ∀ i j, i < n → j < n → RQ m (M i j)) (hq : RQ 8 q) (hc : ∀ i, i < n → RQ 2 (c i : Rat)) (hm : m < 1000) (hn : n ≤ 1000) :
    f_law_more [tabD n M, ratD q, intsD n c] = some (.own (fam n fun i => .own (fam n fun j => ratO (M i j + q * c i * c j))), .non) := by
  have inn : ∀ i, i < n → dComp [3] (iRng (dCons (dBlt lenB (dCons (dVar 0) dNil)) dNil)) (gNm 3) tYesD (dBin oAdd (dBin ixB (dItem 0 (dVar 4)) (dVar 3)) (dBin oMult (dBin oMult (dVar 1) (dItem 2 (dVar 4))) (dItem 2 (dVar 3)))) [tabD n M, ratD q, intsD n c, .und, .int (i : Int)] = some (.own (fam n fun j => ratO (M i j + q * c i * c j)), [tabD n M, ratD q, intsD n c, .und, .int (i : Int)]) := fun i hi => by
    refine dComp_at (ρ' := [tabD n M, ratD q, intsD n c, .und, .int (i : Int)]) (its := fam n fun j => .int (j : Int)) (iRng_nat (by simp) (by omega)) ?_
    refine compC _ (fun j hj => ?_) (by omega)
    have m1 := o_mul hq (hc i hi) .int (by decide)
    have m2 := o_mul (hq.mul (hc i hi)) (hc j hj) .int (by decide)
    have a1 := o_add (hM i j hi hj) ((hq.mul (hc i hi)).mul (hc j hj)) .rat (by omega)
    refine ⟨[tabD n M, ratD q, intsD n c, .int (j : Int), .int (i : Int)], [tabD n M, ratD q, intsD n c, .int (j : Int), .int (i : Int)], [tabD n M, ratD q, intsD n c, .int (j : Int), .int (i : Int)], by simp, by simp, ?_, by simp⟩
    have e1 : dBin ixB (dItem 0 (dVar 4)) (dVar 3) [tabD n M, ratD q, intsD n c, .int (j : Int), .int (i : Int)] = some (ratD (M i j), [tabD n M, ratD q, intsD n c, .int (j : Int), .int (i : Int)]) := by simp [DV.atI_nat, hi, hj]
    have e2 : dItem 2 (dVar 4) [tabD n M, ratD q, intsD n c, .int (j : Int), .int (i : Int)] = some (.int (c i), [tabD n M, ratD q, intsD n c, .int (j : Int), .int (i : Int)]) := by simp [DV.atI_nat, hi]
    have e3 : dItem 2 (dVar 3) [tabD n M, ratD q, intsD n c, .int (j : Int), .int (i : Int)] = some (.int (c j), [tabD n M, ratD q, intsD n c, .int (j : Int), .int (i : Int)]) := by simp [DV.atI_nat, hj]
    have e0 : dVar 1 [tabD n M, ratD q, intsD n c, .int (j : Int), .int (i : Int)] = some (ratD q, [tabD n M, ratD q, intsD n c, .int (j : Int), .int (i : Int)]) := by simp
    exact dBin_at e1 (dBin_at (dBin_at e0 e2 m1) e3 (by rw [fz_ratO]; exact m2)) (by rw [fz_ratO]; exact a1)
  have cc := compC (own := [4]) (fg := gNm 4) (ft := tYesD) (fe := dComp [3] (iRng (dCons (dBlt lenB (dCons (dVar 0) dNil)) dNil)) (gNm 3) tYesD (dBin oAdd (dBin ixB (dItem 0 (dVar 4)) (dVar 3)) (dBin oMult (dBin oMult (dVar 1) (dItem 2 (dVar 4))) (dItem 2 (dVar 3))))) (n := n) (x := fun i => D.int (i : Int)) (ρ := [tabD n M, ratD q, intsD n c, .und, .und]) (fun i => .own (fam n fun j => ratO (M i j + q * c i * c j))) (fun i hi => ⟨[tabD n M, ratD q, intsD n c, .und, .int (i : Int)], [tabD n M, ratD q, intsD n c, .und, .int (i : Int)], _, by simp, by simp, inn i hi, by simp⟩) (by omega)
  unfold f_law_more d_law_more
  refine semOf_rt (ρ := [tabD n M, ratD q, intsD n c, .und, .und]) ?_
  show sSeq _ _ [tabD n M, ratD q, intsD n c, .und, .und] = _
  exact sSeq_rt (sRet_at (dComp_at (ρ' := [tabD n M, ratD q, intsD n c, .und, .und]) (its := fam n fun i => .int (i : Int)) (iRng_nat (by simp) (by omega)) cc))
theorem fz_tab {e : Nat → Nat → D} (h : ∀ i j, i < n → j < n → fz (e i j) = ratD (M i j)) : fz (.own (fam n fun i => .own (fam n fun j => e i j))) = tabD n M := by
  simp only [fz_own, fam_map]
  exact congrArg D.lst (fam_ext fun i hi => congrArg D.lst (fam_ext fun j hj => h i j hi hj))
/-- five numbers from -2 to 2 -/
theorem form_spec {q : D → D} {x3 x4 x5 x6 x8 : D} (h : PotD p) (hn : n ≤ 1000) : ∃ (c : Nat → Int) (p' : D), dComp [7] (iRng (dCons (dVar 1) dNil)) (gNm 7) tYesD (dBin oSub (dCallR f_law_draw 0 (dCons (dCst (.int 5)) dNil)) (dCst (.int 2))) [p, .int (n : Int), .int 1, x3, x4, x5, x6, .und, x8] = some (.own (fam n fun i => .int (c i)), [p', .int (n : Int), .int 1, x3, x4, x5, x6, .und, x8]) ∧ PotD p' ∧ ∀ i, i < n → RQ 2 (c i : Rat) := by
  obtain ⟨y, ρ', e, ⟨p1, rfl, h1⟩, hR⟩ := compF (own := [7]) (fg := gNm 7) (ft := tYesD) (fe := (dBin oSub (dCallR f_law_draw 0 (dCons (dCst (.int 5)) dNil)) (dCst (.int 2)))) (n := n) (x := fun j => D.int (j : Int)) (fun ρ => ∃ p, ρ = [p, .int (n : Int), .int 1, x3, x4, x5, x6, .und, x8] ∧ PotD p) (fun _ e => ∃ c : Int, e = .int c ∧ RQ 2 (c : Rat)) (fun j hj ρ hρ => by
    obtain ⟨p0, rfl, g0⟩ := hρ
    obtain ⟨i, p1, e1, g1, a1, b1⟩ := draw_spec g0 (k := 5) (by decide) (by decide)
    have nu := pot_nu g0
    have s2 : Sm 2 (i - 2) := sm_abs (by omega) (by omega)
    refine ⟨[p0, .int (n : Int), .int 1, x3, x4, x5, x6, .int (j : Int), x8], [p0, .int (n : Int), .int 1, x3, x4, x5, x6, .int (j : Int), x8], [p1, .int (n : Int), .int 1, x3, x4, x5, x6, .int (j : Int), x8], .int (i - 2), by simp, by simp, ?_, ⟨p1, ?_, g1⟩, _, rfl, RQ.int (n := 1) s2⟩
    · obtain ⟨_, _, rfl, _⟩ := id g0
      simp [e1]
    · simp) (ρ := [p, .int (n : Int), .int 1, x3, x4, x5, x6, .und, x8]) ⟨p, rfl, h⟩ (by omega)
  obtain ⟨c, hc⟩ := pick_fn hR
  exact ⟨c, p1, dComp_at (ρ' := [p, .int (n : Int), .int 1, x3, x4, x5, x6, .und, x8]) (its := fam n fun i => .int (i : Int)) (iRng_nat (by simp) (by omega)) (by rw [show unset [7] [p, .int (n : Int), .int 1, x3, x4, x5, x6, .und, x8] = [p, .int (n : Int), .int 1, x3, x4, x5, x6, .und, x8] from by simp, e, fam_ext fun i hi => (hc i hi).1]), h1, fun i hi => (hc i hi).2⟩
end
end K31M

set_option maxRecDepth 100000
set_option maxHeartbeats 400000
set_option linter.all false
namespace K31M
open PySem L2 DV K31D
section
variable {p d v a b T x8 : D} {n m k l : Nat} {q : Rat} {M : Nat → Nat → Rat} {u w z : Nat → Rat} {c : Nat → Int} {way : Int}
theorem oneA (h : PotD p) (i j : Int) : ∃ (q : Rat) (p' : D), sAsg 8 (dIf (tOf (dBin oEq (dVar 2) (dCst (.int 0)))) (dCallR f_law_small 0 (dCons (dCst (.int 6)) dNil)) (dMake 4 [.int 1] f_Ratio___init (dCons (dCallR f_law_draw 0 (dCons (dCst (.int 5)) dNil)) dNil))) [p, .int (n : Int), .int way, T, .int j, .int i, .und, .und, x8] = some (.nx [p', .int (n : Int), .int way, T, .int j, .int i, .und, .und, ratO q]) ∧ PotD p' ∧ RQ 8 q := by
  by_cases hw : way = 0
  · obtain ⟨q, p1, e1, g1, r1⟩ := small_spec h (k := 6) (by decide) (by decide)
    obtain ⟨_, _, rfl, _⟩ := id h
    exact ⟨q, p1, by simp [hw, e1], g1, r1⟩
  · obtain ⟨x, p1, e1, g1, a1, b1⟩ := draw_spec h (k := 5) (by decide) (by decide)
    obtain ⟨_, _, rfl, _⟩ := id h
    exact ⟨(x : Rat), p1, by simp [hw, e1, q_init1], g1, RQ.int (n := 7) (sm_abs (by omega) (by omega))⟩
theorem oneB (h : PotD p) (i j : Int) (hq : RQ 8 q) : ∃ (q' : Rat) (p' : D), sIf (tOrD (tAndD (tOf (dBin oEq (dVar 2) (dCst (.int 3)))) (tOf (dBin (cmpB fun i j => decide (j < i)) (dCallR f_law_draw 0 (dCons (dCst (.int 3)) dNil)) (dCst (.int 0))))) (tAndD (tOf (dBin oEq (dVar 2) (dCst (.int 2)))) (tOf (dBin oEq (dVar 5) (dVar 4))))) (sSeq (sAsg 8 (dMake 4 [.int 1] f_Ratio___init (dCons (dCst (.int 0)) dNil)))
  sEnd) sEnd [p, .int (n : Int), .int way, T, .int j, .int i, .und, .und, ratO q] = some (.nx [p', .int (n : Int), .int way, T, .int j, .int i, .und, .und, ratO q']) ∧ PotD p' ∧ RQ 8 q' := by
  have m0 : ∀ ρ, dMake 4 [.int 1] f_Ratio___init (dCons (dCst (.int 0)) dNil) ρ = some (ratO 0, ρ) := fun ρ => make0
  have r0 : RQ 8 0 := RQ.zero.mono (by decide)
  by_cases h3 : way = 3
  · subst h3
    obtain ⟨x, p1, e1, g1, a1, b1⟩ := draw_spec h (k := 3) (by decide) (by decide)
    obtain ⟨_, _, rfl, _⟩ := id h
    by_cases hx : 0 < x
    · exact ⟨0, p1, by simp [-dMake_ap, m0, e1, hx], g1, r0⟩
    · exact ⟨q, p1, by simp [e1, hx], g1, hq⟩
  · by_cases h2 : way = 2
    · subst h2
      by_cases hij : i = j
      · exact ⟨0, p, by simp [-dMake_ap, m0, hij], h, r0⟩
      · exact ⟨q, p, by simp [hij], h, hq⟩
    · exact ⟨q, p, by simp [h3, h2], h, hq⟩
/-- the own table -/
abbrev ownT (n : Nat) (e : Nat → Nat → D) : D := .own (fam n fun i => .own (fam n fun j => e i j))
structure OwnM (n m : Nat) (e : Nat → Nat → D) (M : Nat → Nat → Rat) : Prop where
  f : ∀ i j, i < n → j < n → fz (e i j) = ratD (M i j)
  s : ∀ i j, i < n → j < n → RQ m (M i j)
  y : ∀ i j, i < n → j < n → M i j = M j i
abbrev inB : DenS := (sSeq (sAsg 8 (dIf (tOf (dBin oEq (dVar 2) (dCst (.int 0)))) (dCallR f_law_small 0 (dCons (dCst (.int 6)) dNil)) (dMake 4 [.int 1] f_Ratio___init (dCons (dCallR f_law_draw 0 (dCons (dCst (.int 5)) dNil)) dNil))))
  (sSeq (sIf (tOrD (tAndD (tOf (dBin oEq (dVar 2) (dCst (.int 3)))) (tOf (dBin (cmpB fun i j => decide (j < i)) (dCallR f_law_draw 0 (dCons (dCst (.int 3)) dNil)) (dCst (.int 0))))) (tAndD (tOf (dBin oEq (dVar 2) (dCst (.int 2)))) (tOf (dBin oEq (dVar 5) (dVar 4))))) (sSeq (sAsg 8 (dMake 4 [.int 1] f_Ratio___init (dCons (dCst (.int 0)) dNil)))
  sEnd) sEnd)
  (sSeq (sAsgG (dTup (dCons (dVar 8) (dCons (dVar 8) dNil))) (gTup [(gItem2 3 (nVar 5) (nVar 4)), (gItem2 3 (nVar 4) (nVar 5))]))
  sEnd)))
theorem own_put {e : Nat → Nat → D} {i j : Nat} {x : D} : D.own ((fam n fun a => D.own (fam n fun b => e a b)).set i (D.own ((fam n fun b => e i b).set j x))) = ownT n fun a b => if a = i ∧ b = j then x else e a b := by
  rw [fam_set, fam_set]
  refine congrArg D.own (fam_ext fun a _ => ?_)
  by_cases h : a = i
  · subst h; simp
  · simp [h]
theorem item2_put {e : Nat → Nat → D} {i j : Nat} (hi : i < n) (hj : j < n) {s a b : Nat} {ρ : List D} {x : D} (h0 : ρ[s]? = some (ownT n e)) (ha : ρ[a]? = some (.int (i : Int))) (hb : ρ[b]? = some (.int (j : Int))) :
    gItem2 s (nVar a) (nVar b) x ρ = some (ρ.set s (ownT n fun a b => if a = i ∧ b = j then x else e a b)) := by
  have na : nVar a ρ = some (i : Int) := by unfold nVar; rw [ha]
  have nb : nVar b ρ = some (j : Int) := by unfold nVar; rw [hb]
  rw [gItem2_ap, h0, na, nb]
  have := own_put (n := n) (e := e) (i := i) (j := j) (x := x)
  simp only [fam_len, DV.ixN_nat, hi, hj, if_true, fam_get]
  rw [this]
theorem in_step {e : Nat → Nat → D} (h : PotD p) (he : OwnM n 8 e M) {i j : Nat} (hi : i < n) (hj : j < n) (x8 : D) : ∃ (p' : D) (e' : Nat → Nat → D) (M' : Nat → Nat → Rat) (x8' : D), inB [p, .int (n : Int), .int way, ownT n e, .int (j : Int), .int (i : Int), .und, .und, x8] = some (.nx [p', .int (n : Int), .int way, ownT n e', .int (j : Int), .int (i : Int), .und, .und, x8']) ∧ PotD p' ∧ OwnM n 8 e' M' := by
  obtain ⟨q1, p1, e1, g1, r1⟩ := oneA (n := n) (way := way) (T := ownT n e) (x8 := x8) h (i : Int) (j : Int)
  obtain ⟨q2, p2, e2, g2, r2⟩ := oneB (n := n) (way := way) (T := ownT n e) g1 (i : Int) (j : Int) r1
  refine ⟨p2, fun a b => if a = j ∧ b = i then ratD q2 else if a = i ∧ b = j then ratD q2 else e a b, fun a b => if (a = j ∧ b = i) ∨ (a = i ∧ b = j) then q2 else M a b, ratD q2, ?_, g2, ?_⟩
  · rw [inB, sSeq_nx e1, sSeq_nx e2]
    have t : dTup (dCons (dVar 8) (dCons (dVar 8) dNil)) [p2, .int (n : Int), .int way, ownT n e, .int (j : Int), .int (i : Int), .und, .und, ratO q2] = some (.tup [ratD q2, ratD q2], [p2, .int (n : Int), .int way, ownT n e, .int (j : Int), .int (i : Int), .und, .und, ratD q2]) := by simp
    have w1 := item2_put (e := e) hi hj (s := 3) (a := 5) (b := 4) (x := ratD q2) (ρ := [p2, .int (n : Int), .int way, ownT n e, .int (j : Int), .int (i : Int), .und, .und, ratD q2]) rfl rfl rfl
    have w2 := item2_put (e := fun a b => if a = i ∧ b = j then ratD q2 else e a b) hj hi (s := 3) (a := 4) (b := 5) (x := ratD q2) (ρ := [p2, .int (n : Int), .int way, ownT n fun a b => if a = i ∧ b = j then ratD q2 else e a b, .int (j : Int), .int (i : Int), .und, .und, ratD q2]) rfl rfl rfl
    have gt : gTup [(gItem2 3 (nVar 5) (nVar 4)), (gItem2 3 (nVar 4) (nVar 5))] (.tup [ratD q2, ratD q2]) [p2, .int (n : Int), .int way, ownT n e, .int (j : Int), .int (i : Int), .und, .und, ratD q2] = some ([p2, .int (n : Int), .int way, ownT n fun a b => if a = j ∧ b = i then ratD q2 else if a = i ∧ b = j then ratD q2 else e a b, .int (j : Int), .int (i : Int), .und, .und, ratD q2]) := by
      rw [gTup_ap]
      show gTs _ [ratD q2, ratD q2] _ = _
      simp only [gTs]
      rw [w1]
      show (match gItem2 3 (nVar 4) (nVar 5) (ratD q2) _ with
        | some ρ1 => gTs [] [] ρ1
        | none => none) = _
      rw [show (List.set [p2, D.int (n : Int), D.int way, ownT n e, D.int (j : Int), D.int (i : Int), D.und, D.und, ratD q2] 3 (ownT n fun a b => if a = i ∧ b = j then ratD q2 else e a b)) = [p2, .int (n : Int), .int way, ownT n fun a b => if a = i ∧ b = j then ratD q2 else e a b, .int (j : Int), .int (i : Int), .und, .und, ratD q2] from rfl, w2]
      rfl
    rw [sSeq_ap, sAsgG_ap, t]
    dsimp only
    rw [gt]
    rfl
  · refine ⟨fun a b ha hb => ?_, fun a b ha hb => ?_, fun a b ha hb => ?_⟩
    · split
      · rename_i h1; rw [if_pos (.inl h1)]; rfl
      · rename_i h1
        split
        · rename_i h2; rw [if_pos (.inr h2)]; rfl
        · rename_i h2; rw [if_neg (by rintro (z | z); exact h1 z; exact h2 z)]; exact he.f a b ha hb
    · split
      · exact r2
      · exact he.s a b ha hb
    · have : ((a = j ∧ b = i) ∨ (a = i ∧ b = j)) ↔ ((b = j ∧ a = i) ∨ (b = i ∧ a = j)) := by
        constructor <;> rintro (⟨x, y⟩ | ⟨x, y⟩) <;> simp [x, y]
      by_cases z : ((a = j ∧ b = i) ∨ (a = i ∧ b = j))
      · rw [if_pos z, if_pos (this.mp z)]
      · rw [if_neg z, if_neg (fun y => z (this.mpr y))]
        exact he.y a b ha hb
end
end K31M

set_option maxRecDepth 100000
set_option maxHeartbeats 400000
set_option linter.all false
namespace K31M
open PySem L2 DV K31D
section
variable {p d v a b T x8 : D} {n m k l : Nat} {q : Rat} {M : Nat → Nat → Rat} {u w z : Nat → Rat} {c : Nat → Int} {way : Int}
theorem in_loop {e : Nat → Nat → D} (h : PotD p) (he : OwnM n 8 e M) {i : Nat} (hi : i < n) (hn : n ≤ 5) (x4 x8 : D) : ∃ (p' : D) (e' : Nat → Nat → D) (M' : Nat → Nat → Rat) (x4' x8' : D),
    sFor (iRng (dCons (dBin oAdd (dVar 5) (dCst (.int 1))) dNil)) (gNm 4) inB [p, .int (n : Int), .int way, ownT n e, x4, .int (i : Int), .und, .und, x8] = some (.nx [p', .int (n : Int), .int way, ownT n e', x4', .int (i : Int), .und, .und, x8']) ∧ PotD p' ∧ OwnM n 8 e' M' := by
  obtain ⟨ρ', e1, p', e', M', x4', x8', rfl, g, o⟩ := forN (n := i + 1) (x := fun j => D.int (j : Int)) (fg := gNm 4) (fb := inB) (fun _ ρ => ∃ (p : D) (e : Nat → Nat → D) (M : Nat → Nat → Rat) (x4 x8 : D), ρ = [p, .int (n : Int), .int way, ownT n e, x4, .int (i : Int), .und, .und, x8] ∧ PotD p ∧ OwnM n 8 e M) (fun j hj ρ hρ => by
    obtain ⟨p, e, M, x4, x8, rfl, g, o⟩ := hρ
    obtain ⟨p', e', M', x8', e2, g2, o2⟩ := in_step (way := way) g o hi (show j < n by omega) x8
    exact ⟨[p, .int (n : Int), .int way, ownT n e, .int (j : Int), .int (i : Int), .und, .und, x8], _, by simp, .inl e2, p', e', M', _, x8', rfl, g2, o2⟩) (ρ := [p, .int (n : Int), .int way, ownT n e, x4, .int (i : Int), .und, .und, x8]) ⟨p, e, M, x4, x8, rfl, h, he⟩
  exact ⟨p', e', M', x4', x8', by rw [sFor_at (iRng_nat (n := i + 1) (ρ' := [p, .int (n : Int), .int way, ownT n e, x4, .int (i : Int), .und, .und, x8]) (by simp) (by omega))]; exact e1, g, o⟩
theorem out_loop {e : Nat → Nat → D} (h : PotD p) (he : OwnM n 8 e M) (hn : n ≤ 5) (x4 x5 x8 : D) : ∃ (p' : D) (e' : Nat → Nat → D) (M' : Nat → Nat → Rat) (x4' x5' x8' : D),
    sFor (iRng (dCons (dVar 1) dNil)) (gNm 5) (sSeq (sFor (iRng (dCons (dBin oAdd (dVar 5) (dCst (.int 1))) dNil)) (gNm 4) inB)
  sEnd) [p, .int (n : Int), .int way, ownT n e, x4, x5, .und, .und, x8] = some (.nx [p', .int (n : Int), .int way, ownT n e', x4', x5', .und, .und, x8']) ∧ PotD p' ∧ OwnM n 8 e' M' := by
  obtain ⟨ρ', e1, p', e', M', x4', x5', x8', rfl, g, o⟩ := forN (n := n) (x := fun j => D.int (j : Int)) (fg := gNm 5) (fb := (sSeq (sFor (iRng (dCons (dBin oAdd (dVar 5) (dCst (.int 1))) dNil)) (gNm 4) inB)
  sEnd)) (fun _ ρ => ∃ (p : D) (e : Nat → Nat → D) (M : Nat → Nat → Rat) (x4 x5 x8 : D), ρ = [p, .int (n : Int), .int way, ownT n e, x4, x5, .und, .und, x8] ∧ PotD p ∧ OwnM n 8 e M) (fun i hi ρ hρ => by
    obtain ⟨p, e, M, x4, x5, x8, rfl, g, o⟩ := hρ
    obtain ⟨p', e', M', x4', x8', e2, g2, o2⟩ := in_loop (way := way) g o hi hn x4 x8
    exact ⟨[p, .int (n : Int), .int way, ownT n e, x4, .int (i : Int), .und, .und, x8], [p', .int (n : Int), .int way, ownT n e', x4', .int (i : Int), .und, .und, x8'], by simp, .inl (by rw [sSeq_nx e2]; rfl), p', e', M', _, _, x8', rfl, g2, o2⟩) (ρ := [p, .int (n : Int), .int way, ownT n e, x4, x5, .und, .und, x8]) ⟨p, e, M, x4, x5, x8, rfl, h, he⟩
  exact ⟨p', e', M', x4', x5', x8', by rw [sFor_at (iRng_nat (n := n) (ρ' := [p, .int (n : Int), .int way, ownT n e, x4, x5, .und, .und, x8]) (by simp) (by omega))]; exact e1, g, o⟩
theorem zeros (hn : n ≤ 5) (p way : D) : dComp [5] (iRng (dCons (dVar 1) dNil)) (gNm 5) tYesD (dComp [4] (iRng (dCons (dVar 1) dNil)) (gNm 4) tYesD (dMake 4 [.int 1] f_Ratio___init (dCons (dCst (.int 0)) dNil))) [p, .int (n : Int), way, .und, .und, .und, .und, .und, .und] = some (ownT n fun _ _ => ratO 0, [p, .int (n : Int), way, .und, .und, .und, .und, .und, .und]) := by
  have inn : ∀ i : Int, dComp [4] (iRng (dCons (dVar 1) dNil)) (gNm 4) tYesD (dMake 4 [.int 1] f_Ratio___init (dCons (dCst (.int 0)) dNil)) [p, .int (n : Int), way, .und, .und, .int i, .und, .und, .und] = some (.own (fam n fun _ => ratO 0), [p, .int (n : Int), way, .und, .und, .int i, .und, .und, .und]) := fun i => by
    refine dComp_at (ρ' := [p, .int (n : Int), way, .und, .und, .int i, .und, .und, .und]) (its := fam n fun j => .int (j : Int)) (iRng_nat (by simp) (by omega)) ?_
    exact compC _ (fun j hj => ⟨[p, .int (n : Int), way, .und, .int (j : Int), .int i, .und, .und, .und], [p, .int (n : Int), way, .und, .int (j : Int), .int i, .und, .und, .und], _, by simp, by simp, make0, by simp⟩) (by omega)
  refine dComp_at (ρ' := [p, .int (n : Int), way, .und, .und, .und, .und, .und, .und]) (its := fam n fun j => .int (j : Int)) (iRng_nat (by simp) (by omega)) ?_
  exact compC _ (fun j hj => ⟨[p, .int (n : Int), way, .und, .und, .int (j : Int), .und, .und, .und], [p, .int (n : Int), way, .und, .und, .int (j : Int), .und, .und, .und], _, by simp, by simp, inn j, by simp⟩) (by omega)
abbrev moreB : DenS := (sSeq (sAsg 3 (dCallP f_law_more (dCons (dVar 3) (dCons (dCallR f_law_small 0 (dCons (dCst (.int 3)) dNil)) (dCons (dComp [7] (iRng (dCons (dVar 1) dNil)) (gNm 7) tYesD (dBin oSub (dCallR f_law_draw 0 (dCons (dCst (.int 5)) dNil)) (dCst (.int 2)))) dNil)))))
  sEnd)
theorem more_step (h : PotD p) {d3 : D} (f3 : fz d3 = tabD n M) (u3 : d3.isUnd = false) (hM : ∀ i j, i < n → j < n → RQ m (M i j)) (hy : ∀ i j, i < n → j < n → M i j = M j i) (hm : m < 1000) (hn : n ≤ 5) (x6 : D) : ∃ (p' d3' : D) (M' : Nat → Nat → Rat),
    moreB [p, .int (n : Int), .int 1, d3, .und, .und, x6, .und, .und] = some (.nx [p', .int (n : Int), .int 1, d3', .und, .und, x6, .und, .und]) ∧ PotD p' ∧ fz d3' = tabD n M' ∧ d3'.isUnd = false ∧ (∀ i j, i < n → j < n → RQ (m + 15) (M' i j)) ∧ ∀ i j, i < n → j < n → M' i j = M' j i := by
  obtain ⟨q, p1, e1, g1, r1⟩ := small_spec h (k := 3) (by decide) (by decide)
  obtain ⟨c, p2, e2, g2, hc⟩ := form_spec (n := n) (q := id) (x3 := tabD n M) (x4 := .und) (x5 := .und) (x6 := x6) (x8 := .und) g1 (by omega)
  have ms := more_spec hM r1 hc hm (by omega)
  refine ⟨p2, .own (fam n fun i => .own (fam n fun j => ratO (M i j + q * c i * c j))), fun i j => M i j + q * c i * c j, ?_, g2, fz_tab fun i j hi hj => fz_ratO, rfl, fun i j hi hj => ((hM i j hi hj).add ((r1.mul (hc i hi)).mul (hc j hj))).mono (by omega), fun i j hi hj => by show M i j + q * c i * c j = M j i + q * c j * c i; rw [hy i j hi hj]; grind⟩
  have e0 : dVar 3 [p, .int (n : Int), .int 1, d3, .und, .und, x6, .und, .und] = some (tabD n M, [p, .int (n : Int), .int 1, tabD n M, .und, .und, x6, .und, .und]) := by simp [u3, f3]
  have e1' : dCallR f_law_small 0 (dCons (dCst (.int 3)) dNil) [p, .int (n : Int), .int 1, tabD n M, .und, .und, x6, .und, .und] = some (ratO q, [p1, .int (n : Int), .int 1, tabD n M, .und, .und, x6, .und, .und]) := by
    obtain ⟨_, _, rfl, _⟩ := id h
    simp [e1]
  have ms' : f_law_more (([tabD n M, ratO q, .own (fam n fun i => .int (c i))] : List D).map fz) = some (.own (fam n fun i => .own (fam n fun j => ratO (M i j + q * c i * c j))), .non) := by
    simp only [List.map_cons, List.map_nil, fz_ratO, fz_own, fam_map, fz_int, fz_lst]
    exact ms
  have s3 := sAsg_at (i := 3) (dCallP_at (dCons_at e0 (dCons_at e1' (dCons_at e2 dNil_at))) ms') (by simp)
  rw [moreB, sSeq_nx s3]
  rfl
theorem table_spec (h : PotD p) (h1 : 1 ≤ n) (h5 : n ≤ 5) : ∃ (M : Nat → Nat → Rat) (p' : D), f_law_table [p, .int (n : Int)] = some (tabD n M, p') ∧ PotD p' ∧ TabM n M := by
  obtain ⟨way, p1, e1, g1, a1, b1⟩ := draw_spec h (k := 4) (by decide) (by decide)
  have s1 : sAsg 2 (dCallR f_law_draw 0 (dCons (dCst (.int 4)) dNil)) [p, .int (n : Int), .und, .und, .und, .und, .und, .und, .und] = some (.nx [p1, .int (n : Int), .int way, .und, .und, .und, .und, .und, .und]) := by
    obtain ⟨_, _, rfl, _⟩ := id h
    simp [e1]
  have s2 : sAsg 3 (dComp [5] (iRng (dCons (dVar 1) dNil)) (gNm 5) tYesD (dComp [4] (iRng (dCons (dVar 1) dNil)) (gNm 4) tYesD (dMake 4 [.int 1] f_Ratio___init (dCons (dCst (.int 0)) dNil)))) [p1, .int (n : Int), .int way, .und, .und, .und, .und, .und, .und] = some (.nx [p1, .int (n : Int), .int way, ownT n fun _ _ => ratO 0, .und, .und, .und, .und, .und]) := by
    rw [sAsg_ap, zeros h5]; rfl
  by_cases hw : way = 1
  · subst hw
    obtain ⟨t, p2, e2, g2, a2, b2⟩ := draw_spec g1 (k := (n : Int) + 1) (by omega) (by omega)
    obtain ⟨t, rfl⟩ := Int.eq_ofNat_of_zero_le a2
    obtain ⟨ρ', e, p3, d3, M, x6, rfl, g3, f3, u3, hM, hy⟩ := forN (n := t) (x := fun j => D.int (j : Int)) (fg := gNm 6) (fb := moreB) (fun k ρ => ∃ (p d3 : D) (M : Nat → Nat → Rat) (x6 : D), ρ = [p, .int (n : Int), .int 1, d3, .und, .und, x6, .und, .und] ∧ PotD p ∧ fz d3 = tabD n M ∧ d3.isUnd = false ∧ (∀ i j, i < n → j < n → RQ (1 + 15 * k) (M i j)) ∧ ∀ i j, i < n → j < n → M i j = M j i) (fun k hk ρ hρ => by
      obtain ⟨p, d3, M, x6, rfl, g, f3, u3, hM, hy⟩ := hρ
      obtain ⟨p', d3', M', e, g', f', u', r', y'⟩ := more_step g f3 u3 hM hy (by omega) h5 (.int (k : Int))
      exact ⟨[p, .int (n : Int), .int 1, d3, .und, .und, .int (k : Int), .und, .und], _, by simp, .inl e, p', d3', M', _, rfl, g', f', u', fun i j hi hj => (r' i j hi hj).mono (by omega), y'⟩) (ρ := [p2, .int (n : Int), .int 1, ownT n fun _ _ => ratO 0, .und, .und, .und, .und, .und]) ⟨p2, _, fun _ _ => 0, .und, rfl, g2, fz_tab fun _ _ _ _ => fz_ratO, rfl, fun _ _ _ _ => RQ.zero, fun _ _ _ _ => rfl⟩
    refine ⟨M, p3, ?_, g3, h1, h5, fun i j hi hj => (hM i j hi hj).mono (by omega), hy⟩
    unfold f_law_table d_law_table
    refine semOf_mu (ρ := [.int (n : Int), .int 1, tabD n M, .und, .und, x6, .und, .und]) ?_ (pot_nu g3)
    show sSeq _ _ [p, .int (n : Int), .und, .und, .und, .und, .und, .und, .und] = _
    rw [sSeq_nx s1, sSeq_nx s2]
    have ir : iRng (dCons (dCallR f_law_draw 0 (dCons (dBin oAdd (dVar 1) (dCst (.int 1))) dNil)) dNil) [p1, .int (n : Int), .int 1, ownT n fun _ _ => ratO 0, .und, .und, .und, .und, .und] = some (fam t fun i => .int (i : Int), [p2, .int (n : Int), .int 1, ownT n fun _ _ => ratO 0, .und, .und, .und, .und, .und]) := iRng_nat (by
      obtain ⟨_, _, rfl, _⟩ := id g1
      simp [e2]) (by omega)
    refine sSeq_rt ?_
    rw [sIf_t (ρ' := [p1, .int (n : Int), .int 1, ownT n fun _ _ => ratO 0, .und, .und, .und, .und, .und]) (by simp)]
    rw [sSeq_nx (by rw [sFor_at ir]; exact e)]
    exact sSeq_rt (sRet_at (by simp [u3, f3]))
  · obtain ⟨p2, e', M, x4, x5, x8, e2, g2, o2⟩ := out_loop (n := n) (way := way) (e := fun _ _ => ratO 0) (M := fun _ _ => 0) g1 ⟨fun _ _ _ _ => fz_ratO, fun _ _ _ _ => RQ.zero.mono (by decide), fun _ _ _ _ => rfl⟩ h5 .und .und .und
    refine ⟨M, p2, ?_, g2, h1, h5, fun i j hi hj => (o2.s i j hi hj).mono (by decide), o2.y⟩
    unfold f_law_table d_law_table
    refine semOf_mu (ρ := [.int (n : Int), .int way, tabD n M, x4, x5, .und, .und, x8]) ?_ (pot_nu g2)
    show sSeq _ _ [p, .int (n : Int), .und, .und, .und, .und, .und, .und, .und] = _
    rw [sSeq_nx s1, sSeq_nx s2]
    rw [sSeq_nx (ρ' := [p1, .int (n : Int), .int way, ownT n fun _ _ => ratO 0, .und, .und, .und, .und, .und]) (by rw [sIf_f (ρ' := [p1, .int (n : Int), .int way, ownT n fun _ _ => ratO 0, .und, .und, .und, .und, .und]) (by simp [hw])]; rfl)]
    rw [sSeq_nx e2]
    have ft := fz_tab o2.f
    exact sSeq_rt (sRet_at (by rw [dVar_ap]; simp only [List.getElem?_cons_succ, List.getElem?_cons_zero, isUnd_own]; rw [ft]; rfl))
end
end K31M

set_option maxRecDepth 100000
set_option maxHeartbeats 400000
set_option linter.all false
namespace K31M
open PySem L2 DV K31D
section
variable {p d v a b T x8 : D} {n m k l : Nat} {q : Rat} {M : Nat → Nat → Rat} {way : Int} {e : Nat → Nat → D} {i j : Nat}
def EltV (e : D) : Prop := Vd e ∧ (isNumB e = true → ∃ q, NumQ e q ∧ RQ 200 q) ∧ (isNumB e = false → Plain 5 e)
theorem EltV.rat (h : RQ 200 q) : EltV (ratD q) := ⟨⟨rfl, rfl⟩, fun _ => ⟨q, .rat, h⟩, fun z => by cases z⟩
theorem RowV.lst {xs : List D} (h : ∀ e ∈ xs, EltV e) (hl : xs.length ≤ 1000) : RowV (.lst xs) := ⟨⟨rfl, rfl⟩, trivial, h, hl⟩
def Rows (X : List D) : Prop := (∀ x ∈ X, RowV (fz x)) ∧ X.length ≤ 1000
theorem row_of {f : Nat → D} (h : ∀ j, j < n → EltV (fz (f j))) (hn : n ≤ 1000) : RowV (fz (.own (fam n f))) := by
  rw [fz_own, fam_map]
  refine .lst (fun e he => ?_) (by simpa using hn)
  obtain ⟨j, hj, rfl⟩ := fam_mem.mp he
  exact h j hj
theorem rows_own (h : ∀ i j, i < n → j < n → EltV (fz (e i j))) (hn : n ≤ 1000) : Rows (fam n fun i => .own (fam n fun j => e i j)) := by
  refine ⟨fun x hx => ?_, by simpa using hn⟩
  obtain ⟨i, hi, rfl⟩ := fam_mem.mp hx
  exact row_of (fun j hj => h i j hi hj) hn
theorem item2_get (hi : i < n) (hj : j < n) {s a b : Nat} {ρ : List D} (hf : ∀ i j, fz (e i j) = e i j) (h0 : ρ[s]? = some (ownT n e)) (ha : ρ[a]? = some (.int (i : Int))) (hb : ρ[b]? = some (.int (j : Int))) : dItem2 s (nVar a) (nVar b) ρ = some (e i j, ρ) := by
  have na : nVar a ρ = some (i : Int) := by unfold nVar; rw [ha]
  have nb : nVar b ρ = some (j : Int) := by unfold nVar; rw [hb]
  have hs : s < ρ.length := (List.getElem?_eq_some_iff.mp h0).1
  rw [dItem2_ap, h0, na, nb]
  have := own_put (n := n) (e := e) (i := i) (j := j) (x := e i j)
  simp only [fam_len, DV.ixN_nat, hi, hj, if_true, fam_get, hf]
  rw [this]
  have e1 : (ownT n fun a b => if a = i ∧ b = j then e i j else e a b) = ownT n e := congrArg D.own (fam_ext fun a _ => congrArg D.own (fam_ext fun b _ => by
    show (if a = i ∧ b = j then e i j else e a b) = e a b
    by_cases z : a = i ∧ b = j
    · rw [if_pos z, z.1, z.2]
    · rw [if_neg z]))
  rw [e1]
  have : ρ.set s (ownT n e) = ρ := by
    refine List.ext_getElem? fun k => ?_
    rw [List.getElem?_set]
    by_cases z : s = k
    · subst z; rw [if_pos rfl, if_pos hs, h0]
    · simp [z]
  rw [this]
theorem els_l {f h : Den} {ρ : List D} {z : D × List D} (e : f ρ = some z) : dEls f h ρ = some z := by unfold dEls; rw [e]
abbrev stB (p : D) (n : Nat) (M : Nat → Nat → Rat) (X : List D) (way : Int) (i j : Nat) : List D := [p, tabD n M, .own X, .int way, .und, .int (i : Int), .int (j : Int)]
abbrev ratT (n : Nat) (M : Nat → Nat → Rat) : List D := fam n fun i => .own (fam n fun j => ratD (M i j))
theorem two_rq : RQ 2 ((2 : Int) : Rat) := RQ.int (n := 1) (by unfold Sm; decide)
theorem one_rq : RQ 1 ((1 : Int) : Rat) := RQ.int (n := 0) (by unfold Sm; decide)
section
variable (h : TabM n M) (hi : i < n) (hj : j < n)
include h hi hj
theorem put_rows {x : D} (hx : EltV (fz x)) : Rows (fam n fun a => .own (fam n fun b => if a = i ∧ b = j then x else ratD (M a b))) := by
  have n5 := h.n5
  refine rows_own (fun a b ha hb => ?_) (by omega)
  split
  · exact hx
  · exact .rat ((h.s a b ha hb).mono (by decide))
theorem w0 : ∃ X, sSeq (sAsgG (dBin oAdd (dEls (dItem2 2 (nVar 5) (nVar 6)) (dBin ixB (dItem 2 (dVar 5)) (dVar 6))) (dCst (.int 1))) (gItem2 2 (nVar 5) (nVar 6)))
  sEnd (stB p n M (ratT n M) way i j) = some (.nx (stB p n M X way i j)) ∧ Rows X := by
  have e1 := els_l (h := (dBin ixB (dItem 2 (dVar 5)) (dVar 6))) (item2_get (e := fun i j => ratD (M i j)) hi hj (s := 2) (a := 5) (b := 6) (ρ := stB p n M (ratT n M) way i j) (fun _ _ => rfl) rfl rfl rfl)
  have a1 := o_add (h.s i j hi hj) one_rq .int (by decide)
  have e2 := dBin_at (φ := oAdd) e1 (g := dCst (.int 1)) (b := .int 1) (ρ2 := stB p n M (ratT n M) way i j) rfl a1
  have e3 := item2_put (e := fun i j => ratD (M i j)) hi hj (s := 2) (a := 5) (b := 6) (x := ratO (M i j + (1 : Int))) (ρ := stB p n M (ratT n M) way i j) rfl rfl rfl
  refine ⟨_, ?_, put_rows h hi hj (x := ratO (M i j + (1 : Int))) (by rw [fz_ratO]; exact .rat (((h.s i j hi hj).add one_rq).mono (by decide)))⟩
  rw [sSeq_nx (by rw [sAsgG_ap, e2]; dsimp only; rw [e3])]
  rfl
theorem w1 : ∃ X, sSeq (sExpr (dPop 2 (nVar 5)))
  sEnd (stB p n M (ratT n M) way i j) = some (.nx (stB p n M X way i j)) ∧ Rows X := by
  have n5 := h.n5
  have r := rows_own (n := n) (e := fun i j => ratD (M i j)) (fun a b ha hb => .rat ((h.s a b ha hb).mono (by decide))) (by omega)
  refine ⟨(ratT n M).eraseIdx i, ?_, fun x hx => r.1 x (List.mem_of_mem_eraseIdx hx), Nat.le_trans (List.length_eraseIdx_le ..) r.2⟩
  have hl : n ≤ 100000 := by omega
  simp [DV.ixN_nat, hi, nVar, hl]
theorem w2 : ∃ X, sSeq (sExpr (dApp3 2 (nVar 5) (dMake 4 [.int 1] f_Ratio___init (dCons (dCst (.int 0)) dNil))))
  sEnd (stB p n M (ratT n M) way i j) = some (.nx (stB p n M X way i j)) ∧ Rows X := by
  have n5 := h.n5
  have r := rows_own (n := n) (e := fun i j => ratD (M i j)) (fun a b ha hb => .rat ((h.s a b ha hb).mono (by decide))) (by omega)
  have m0 : ∀ ρ, dMake 4 [.int 1] f_Ratio___init (dCons (dCst (.int 0)) dNil) ρ = some (ratO 0, ρ) := fun ρ => make0
  refine ⟨(ratT n M).set i (.own ((fam n fun j => ratD (M i j)) ++ [ratO 0])), ?_, fun x hx => ?_, by simp; omega⟩
  · have hl : n < 100000 := by omega
    have ns : nVar 5 (stB p n M (ratT n M) way i j) = some (i : Int) := rfl
    have ea : dApp3 2 (nVar 5) (dMake 4 [.int 1] f_Ratio___init (dCons (dCst (.int 0)) dNil)) (stB p n M (ratT n M) way i j) = some (.non, stB p n M ((ratT n M).set i (.own ((fam n fun j => ratD (M i j)) ++ [ratO 0]))) way i j) := by
      rw [dApp3_ap, ns]
      simp only [List.getElem?_cons_succ, List.getElem?_cons_zero, fam_len, DV.ixN_nat, hi, if_true, fam_get, m0]
      simp [dApp3.undAt, hl]
    rw [sSeq_nx (by rw [sExpr_ap, ea])]
    rfl
  · rw [fam_set, fam_mem] at hx
    obtain ⟨a, ha, rfl⟩ := hx
    split
    · simp only [fz_own, List.map_append, fam_map, List.map_cons, List.map_nil, fz_ratO, fz_ins]
      refine .lst (fun e he => ?_) (by simp; omega)
      rcases List.mem_append.mp he with z | z
      · obtain ⟨j, hj, rfl⟩ := fam_mem.mp z
        exact .rat ((h.s i j hi hj).mono (by decide))
      · obtain rfl : e = ratD 0 := by simpa using z
        exact .rat (RQ.zero.mono (by decide))
    · exact row_of (fun j hj => .rat ((h.s a j ha hj).mono (by decide))) (by omega)
theorem w3 : ∃ X, sSeq (sExpr (dApp 2 (dBin oMult (dLst (dCons (dMake 4 [.int 1] f_Ratio___init (dCons (dCst (.int 0)) dNil)) dNil)) (dBlt lenB (dCons (dVar 1) dNil)))))
  sEnd (stB p n M (ratT n M) way i j) = some (.nx (stB p n M X way i j)) ∧ Rows X := by
  have n5 := h.n5
  have r := rows_own (n := n) (e := fun i j => ratD (M i j)) (fun a b ha hb => .rat ((h.s a b ha hb).mono (by decide))) (by omega)
  have m0 : ∀ ρ, dMake 4 [.int 1] f_Ratio___init (dCons (dCst (.int 0)) dNil) ρ = some (ratO 0, ρ) := fun ρ => make0
  refine ⟨(ratT n M) ++ [.own (List.replicate n [ratD 0]).flatten], ?_, fun x hx => ?_, by simp; omega⟩
  · have e1 : dLst (dCons (dMake 4 [.int 1] f_Ratio___init (dCons (dCst (.int 0)) dNil)) dNil) (stB p n M (ratT n M) way i j) = some (.own [ratO 0], stB p n M (ratT n M) way i j) := dLst_at (dCons_at (m0 _) dNil_at) (by simp)
    have e2 : dBlt lenB (dCons (dVar 1) dNil) (stB p n M (ratT n M) way i j) = some (.int (n : Int), stB p n M (ratT n M) way i j) := by simp
    have mu : oMult (fz (.own [ratO 0])) (fz (.int (n : Int))) = some (.own (List.replicate n [ratD 0]).flatten) := by
      simp only [fz_own, List.map_cons, List.map_nil, fz_ratO, fz_int, oMult, ownO_lst, mulB_lst, List.length_singleton, Int.toNat_natCast]
      rw [if_pos (by omega)]
    have e3 := dBin_at e1 e2 mu
    have hl : n < 100000 := by omega
    have ea : dApp 2 (dBin oMult (dLst (dCons (dMake 4 [.int 1] f_Ratio___init (dCons (dCst (.int 0)) dNil)) dNil)) (dBlt lenB (dCons (dVar 1) dNil))) (stB p n M (ratT n M) way i j) = some (.non, stB p n M ((ratT n M) ++ [.own (List.replicate n [ratD 0]).flatten]) way i j) := by
      rw [dApp_ap, e3]
      simp [isOwn, hl]
    rw [sSeq_nx (by rw [sExpr_ap, ea])]
    rfl
  · rcases List.mem_append.mp hx with z | z
    · exact r.1 x z
    · obtain rfl := List.mem_singleton.mp z
      rw [fz_own]
      refine .lst (fun e he => ?_) (by simp; omega)
      obtain ⟨e', he', rfl⟩ := List.mem_map.mp he
      obtain ⟨l, hl, z⟩ := List.mem_flatten.mp he'
      obtain rfl := (List.mem_replicate.mp hl).2
      obtain rfl := List.mem_singleton.mp z
      exact .rat (RQ.zero.mono (by decide))
end
end
end K31M

set_option maxRecDepth 100000
set_option maxHeartbeats 400000
set_option linter.all false
namespace K31M
open PySem L2 DV K31D
section
variable {p d v a b T x8 : D} {n m k l : Nat} {q : Rat} {M : Nat → Nat → Rat} {way : Int} {e : Nat → Nat → D} {i j : Nat}
theorem fz_odc {ks : List Key} {xs : List D} : fz (.odc ks xs) = .dic ks (xs.map fz) := by rw [← fzs_map]; rfl
theorem callR_at {fn : Fn} {r : Dens} {ρ ρ' : List D} {ds : List D} {d o p0 : D} (h0 : ∃ t, ρ = p0 :: t ∧ p0.isUnd = false) (h : r ρ = some (ds, ρ')) (h1 : ∃ t, ρ' = p0 :: t) (e : fn (p0 :: ds.map fz) = some (d, o)) : dCallR fn 0 r ρ = some (d, ρ'.set 0 o) := by
  obtain ⟨t, rfl, hu⟩ := h0
  obtain ⟨t', rfl⟩ := h1
  rw [dCallR_ap, h]
  cases p0 <;> first | (cases hu; done) | simp [e]
theorem RowV.bare {d : D} (h : Vd d) (hc : NoCon d) (hi : itemsD d = []) : RowV d := ⟨h, hc, fun e he => (by rw [hi] at he; cases he), (by rw [hi]; simp)⟩
section
variable (h : TabM n M) (hp : PotD p) (hi : i < n) (hj : j < n)
include h hp hi hj
theorem w4 : ∃ X p', sSeq (sAsgG (dCallR f_law_pick 0 (dCons (dLst (dCons (dCst .non) (dCons (dCst (.bl true)) (dCons (dCst (.str "0")) (dCons (dLst (dCons (dCst (.int 0)) dNil)) (dCons (dCst (.bl false)) dNil)))))) dNil)) (gItem2 2 (nVar 5) (nVar 6)))
  sEnd (stB p n M (ratT n M) way i j) = some (.nx (stB p' n M X way i j)) ∧ PotD p' ∧ Rows X := by
  obtain ⟨x, p1, hx, e1, g1⟩ := pick_spec hp [.non, .bl true, .str "0", .lst [.int 0], .bl false] (by simp) (by simp)
  have hv : EltV x ∧ fz x = x := by
    simp only [List.mem_cons, List.not_mem_nil, or_false] at hx
    rcases hx with rfl | rfl | rfl | rfl | rfl
    · exact ⟨⟨⟨rfl, rfl⟩, fun z => (by cases z), fun _ => .non⟩, rfl⟩
    · exact ⟨⟨⟨rfl, rfl⟩, fun z => (by cases z), fun _ => .bl⟩, rfl⟩
    · exact ⟨⟨⟨rfl, rfl⟩, fun z => (by cases z), fun _ => .str (strOk_of _)⟩, rfl⟩
    · exact ⟨⟨⟨rfl, rfl⟩, fun z => (by cases z), fun _ => (Plain.lst (.cons .int .nil) : Plain 5 _)⟩, rfl⟩
    · exact ⟨⟨⟨rfl, rfl⟩, fun z => (by cases z), fun _ => .bl⟩, rfl⟩
  have e0 : (dCons (dLst (dCons (dCst .non) (dCons (dCst (.bl true)) (dCons (dCst (.str "0")) (dCons (dLst (dCons (dCst (.int 0)) dNil)) (dCons (dCst (.bl false)) dNil)))))) dNil) (stB p n M (ratT n M) way i j) = some ([.own [.non, .bl true, .str "0", .own [.int 0], .bl false]], stB p n M (ratT n M) way i j) := by simp
  have e2 := callR_at (fn := f_law_pick) (p0 := p) ⟨_, rfl, pot_nu hp⟩ e0 ⟨_, rfl⟩ (d := x) (o := p1) (by simpa using e1)
  have e3 := item2_put (e := fun i j => ratD (M i j)) hi hj (s := 2) (a := 5) (b := 6) (x := x) (ρ := stB p1 n M (ratT n M) way i j) rfl rfl rfl
  refine ⟨_, p1, ?_, g1, put_rows h hi hj (x := x) (by rw [hv.2]; exact hv.1)⟩
  rw [sSeq_nx (by rw [sAsgG_ap, e2]; dsimp only; exact (show (match gItem2 2 (nVar 5) (nVar 6) x (stB p1 n M (ratT n M) way i j) with
    | some ρ2 => some (Fl.nx ρ2)
    | none => none) = some (Fl.nx (stB p1 n M (fam n fun a => .own (fam n fun b => if a = i ∧ b = j then x else ratD (M a b))) way i j)) from by rw [e3]; rfl))]
  rfl
theorem w5 : ∃ X p', sSeq (sAsgG (dCallR f_law_pick 0 (dCons (dLst (dCons (dCst .non) (dCons (dBin oMult (dCst (.str "0")) (dBlt lenB (dCons (dVar 1) dNil))) (dCons (dCst (.int 0)) (dCons (dDic [.inl 0] (dCons (dCst (.int 0)) dNil)) dNil))))) dNil)) (gItem 2 (dVar 5)))
  sEnd (stB p n M (ratT n M) way i j) = some (.nx (stB p' n M X way i j)) ∧ PotD p' ∧ Rows X := by
  have n5 := h.n5
  obtain ⟨x, p1, hx, e1, g1⟩ := pick_spec hp [.non, .str (repS "0" n), .int 0, .dic [.inl 0] [.int 0]] (by simp) (by simp)
  have hv : RowV x ∧ fz x = x := by
    simp only [List.mem_cons, List.not_mem_nil, or_false] at hx
    rcases hx with rfl | rfl | rfl | rfl
    · exact ⟨.bare ⟨rfl, rfl⟩ trivial rfl, rfl⟩
    · exact ⟨.bare ⟨rfl, rfl⟩ trivial rfl, rfl⟩
    · exact ⟨.bare ⟨rfl, rfl⟩ trivial rfl, rfl⟩
    · exact ⟨.bare ⟨rfl, rfl⟩ trivial rfl, rfl⟩
  have mu : oMult (.str "0") (.int (n : Int)) = some (.str (repS "0" n)) := by
    simp only [oMult, ownO_str]
    unfold mulB
    dsimp only
    rw [if_pos]
    exact ⟨by omega, by omega, by rw [ofString_length]; decide⟩
  have e0 : (dCons (dLst (dCons (dCst .non) (dCons (dBin oMult (dCst (.str "0")) (dBlt lenB (dCons (dVar 1) dNil))) (dCons (dCst (.int 0)) (dCons (dDic [.inl 0] (dCons (dCst (.int 0)) dNil)) dNil))))) dNil) (stB p n M (ratT n M) way i j) = some ([.own [.non, .str (repS "0" n), .int 0, .odc [.inl 0] [.int 0]]], stB p n M (ratT n M) way i j) := by simp [mu]
  have e2 := callR_at (fn := f_law_pick) (p0 := p) ⟨_, rfl, pot_nu hp⟩ e0 ⟨_, rfl⟩ (d := x) (o := p1) (by simpa [fz_odc] using e1)
  have r := rows_own (n := n) (e := fun i j => ratD (M i j)) (fun a b ha hb => .rat ((h.s a b ha hb).mono (by decide))) (by omega)
  have e3 : gItem 2 (dVar 5) x (stB p1 n M (ratT n M) way i j) = some (stB p1 n M ((ratT n M).set i x) way i j) := by
    simp [DV.ixN_nat, hi]
  refine ⟨(ratT n M).set i x, p1, ?_, g1, fun y hy => ?_, by rw [List.length_set]; exact r.2⟩
  · rw [sSeq_nx (by rw [sAsgG_ap, e2]; dsimp only; exact (show (match gItem 2 (dVar 5) x (stB p1 n M (ratT n M) way i j) with
    | some ρ2 => some (Fl.nx ρ2)
    | none => none) = some (Fl.nx (stB p1 n M ((ratT n M).set i x) way i j)) from by rw [e3]))]
    rfl
  · rcases List.mem_or_eq_of_mem_set hy with z | rfl
    · exact r.1 y z
    · rw [hv.2]; exact hv.1
theorem w6 : ∃ X, sSeq (sAsgG (dTup (dCons (dBin oSub (dEls (dItem2 2 (nVar 5) (nVar 6)) (dBin ixB (dItem 2 (dVar 5)) (dVar 6))) (dCst (.int 2))) (dCons (dBin oSub (dEls (dItem2 2 (nVar 6) (nVar 5)) (dBin ixB (dItem 2 (dVar 6)) (dVar 5))) (dCst (.int 2))) dNil))) (gTup [(gItem2 2 (nVar 5) (nVar 6)), (gItem2 2 (nVar 6) (nVar 5))]))
  sEnd (stB p n M (ratT n M) way i j) = some (.nx (stB p n M X way i j)) ∧ Rows X := by
  have n5 := h.n5
  have e1 := els_l (h := (dBin ixB (dItem 2 (dVar 5)) (dVar 6))) (item2_get (e := fun i j => ratD (M i j)) hi hj (s := 2) (a := 5) (b := 6) (ρ := stB p n M (ratT n M) way i j) (fun _ _ => rfl) rfl rfl rfl)
  have e1' := els_l (h := (dBin ixB (dItem 2 (dVar 6)) (dVar 5))) (item2_get (e := fun i j => ratD (M i j)) hj hi (s := 2) (a := 6) (b := 5) (ρ := stB p n M (ratT n M) way i j) (fun _ _ => rfl) rfl rfl rfl)
  have a1 := o_sub (h.s i j hi hj) two_rq .int (by decide)
  have a2 := o_sub (h.s j i hj hi) two_rq .int (by decide)
  have e2 := dBin_at (φ := oSub) e1 (g := dCst (.int 2)) (b := .int 2) (ρ2 := stB p n M (ratT n M) way i j) rfl a1
  have e2' := dBin_at (φ := oSub) e1' (g := dCst (.int 2)) (b := .int 2) (ρ2 := stB p n M (ratT n M) way i j) rfl a2
  have r1 : EltV (ratD (M i j - (2 : Int))) := .rat (((h.s i j hi hj).sub two_rq).mono (by decide))
  have r2 : EltV (ratD (M j i - (2 : Int))) := .rat (((h.s j i hj hi).sub two_rq).mono (by decide))
  generalize M i j - ((2 : Int) : Rat) = q1 at *
  generalize M j i - ((2 : Int) : Rat) = q2 at *
  have et : dTup (dCons (dBin oSub (dEls (dItem2 2 (nVar 5) (nVar 6)) (dBin ixB (dItem 2 (dVar 5)) (dVar 6))) (dCst (.int 2))) (dCons (dBin oSub (dEls (dItem2 2 (nVar 6) (nVar 5)) (dBin ixB (dItem 2 (dVar 6)) (dVar 5))) (dCst (.int 2))) dNil)) (stB p n M (ratT n M) way i j) = some (.tup [ratD q1, ratD q2], stB p n M (ratT n M) way i j) := by
    rw [dTup_ap, dCons_at e2 (dCons_at e2' dNil_at)]
    dsimp only [List.length_cons, List.length_nil]
    rw [if_pos (by decide), List.map_cons, List.map_cons, List.map_nil, fz_ratO, fz_ratO]
  have w1 := item2_put (e := fun i j => ratD (M i j)) hi hj (s := 2) (a := 5) (b := 6) (x := ratD q1) (ρ := stB p n M (ratT n M) way i j) rfl rfl rfl
  have w2 := item2_put (e := fun a b => if a = i ∧ b = j then ratD q1 else ratD (M a b)) hj hi (s := 2) (a := 6) (b := 5) (x := ratD q2) (ρ := stB p n M (fam n fun a => .own (fam n fun b => if a = i ∧ b = j then ratD q1 else ratD (M a b))) way i j) rfl rfl rfl
  have gt : gTup [(gItem2 2 (nVar 5) (nVar 6)), (gItem2 2 (nVar 6) (nVar 5))] (.tup [ratD q1, ratD q2]) (stB p n M (ratT n M) way i j) = some (stB p n M (fam n fun a => .own (fam n fun b => if a = j ∧ b = i then ratD q2 else if a = i ∧ b = j then ratD q1 else ratD (M a b))) way i j) := by
    rw [gTup_ap]
    show gTs _ [ratD q1, ratD q2] _ = _
    simp only [gTs]
    rw [w1]
    show (match gItem2 2 (nVar 6) (nVar 5) (ratD q2) (stB p n M (fam n fun a => .own (fam n fun b => if a = i ∧ b = j then ratD q1 else ratD (M a b))) way i j) with
      | some ρ1 => gTs [] [] ρ1
      | none => none) = _
    rw [w2]
    rfl
  refine ⟨_, ?_, rows_own (n := n) (e := fun a b => if a = j ∧ b = i then ratD q2 else if a = i ∧ b = j then ratD q1 else ratD (M a b)) (fun a b ha hb => ?_) (by omega)⟩
  · rw [sSeq_nx (by rw [sAsgG_ap, et]; dsimp only; rw [gt])]
    rfl
  · split
    · exact r2
    · split
      · exact r1
      · exact .rat ((h.s a b ha hb).mono (by decide))
end
end
end K31M

set_option maxRecDepth 100000
set_option maxHeartbeats 400000
set_option linter.all false
namespace K31M
open PySem L2 DV K31D
section
variable {p d v a b T x8 : D} {n m k l : Nat} {q : Rat} {M : Nat → Nat → Rat} {way : Int} {e : Nat → Nat → D} {i j : Nat} {rs : List D}
/-- it goes on, with good rows -/
def Gd (n : Nat) (M : Nat → Nat → Rat) (way : Int) (i j : Nat) (A : DenS) (st : List D) : Prop := ∃ X p', A st = some (.nx (stB p' n M X way i j)) ∧ PotD p' ∧ Rows X
theorem Gd.iff {A C : DenS} {k : Int} (hA : Gd n M way i j A (stB p n M (ratT n M) way i j)) (hC : Gd n M way i j C (stB p n M (ratT n M) way i j)) : Gd n M way i j (sIf (tOf (dBin oEq (dVar 3) (dCst (.int k)))) A C) (stB p n M (ratT n M) way i j) := by
  by_cases hw : way = k
  · obtain ⟨X, p', e, g⟩ := hA
    exact ⟨X, p', by rw [sIf_t (ρ' := stB p n M (ratT n M) way i j) (by simp [hw]), e], g⟩
  · obtain ⟨X, p', e, g⟩ := hC
    exact ⟨X, p', by rw [sIf_f (ρ' := stB p n M (ratT n M) way i j) (by simp [hw]), e], g⟩
theorem Gd.seq {C : DenS} (hC : Gd n M way i j C (stB p n M (ratT n M) way i j)) : Gd n M way i j (sSeq C sEnd) (stB p n M (ratT n M) way i j) := by
  obtain ⟨X, p', e, g⟩ := hC
  exact ⟨X, p', by rw [sSeq_nx e]; rfl, g⟩
theorem Gd.of {C : DenS} (hp : PotD p) (h : ∃ X, C (stB p n M (ratT n M) way i j) = some (.nx (stB p n M X way i j)) ∧ Rows X) : Gd n M way i j C (stB p n M (ratT n M) way i j) := by
  obtain ⟨X, e, r⟩ := h
  exact ⟨X, p, e, hp, r⟩
theorem bent_spec (h : TabM n M) (hp : PotD p) : ∃ (rs : List D) (p' : D), f_law_bent [p, tabD n M] = some (.lst rs, p') ∧ PotD p' ∧ (∀ r ∈ rs, RowV r) ∧ rs.length ≤ 1000 := by
  have n5 := h.n5
  have n1 := h.n1
  obtain ⟨way, p1, e1, g1, a1, b1⟩ := draw_spec hp (k := 8) (by decide) (by decide)
  obtain ⟨i, p2, e2, g2, a2, b2⟩ := draw_spec g1 (k := n) (by omega) (by omega)
  obtain ⟨j, p3, e3, g3, a3, b3⟩ := draw_spec g2 (k := n) (by omega) (by omega)
  obtain ⟨i, rfl⟩ := Int.eq_ofNat_of_zero_le a2
  obtain ⟨j, rfl⟩ := Int.eq_ofNat_of_zero_le a3
  have hi : i < n := by omega
  have hj : j < n := by omega
  have cc := compC (own := [4]) (fg := gNm 4) (ft := tYesD) (fe := dBlt listB (dCons (dVar 4) dNil)) (n := n) (x := fun i => vecD n (M i)) (ρ := [p, tabD n M, .und, .und, .und, .und, .und]) (fun i => .own (fam n fun j => ratD (M i j))) (fun i hi => ⟨[p, tabD n M, .und, .und, vecD n (M i), .und, .und], [p, tabD n M, .und, .und, vecD n (M i), .und, .und], [p, tabD n M, .und, .und, vecD n (M i), .und, .und], by simp, by simp, by simp, by simp⟩) (by omega)
  have hdc := dComp_at (fi := iSeq (dVar 1)) (ρ := [p, tabD n M, .und, .und, .und, .und, .und]) (ρ' := [p, tabD n M, .und, .und, .und, .und, .und]) (its := fam n fun i => vecD n (M i)) (by simp) cc
  have c1 := callR_at (fn := f_law_draw) (p0 := p) (r := dCons (dCst (.int 8)) dNil) (ρ := [p, tabD n M, .und, .und, .und, .und, .und]) (ρ' := [p, tabD n M, .und, .und, .und, .und, .und]) ⟨_, rfl, pot_nu hp⟩ (ds := [.int 8]) rfl ⟨_, rfl⟩ (d := .int way) (o := p1) (by simpa using e1)
  have s1 : sPar 2 3 (dCons (dComp [4] (iSeq (dVar 1)) (gNm 4) tYesD (dBlt listB (dCons (dVar 4) dNil))) (dCons (dCallR f_law_draw 0 (dCons (dCst (.int 8)) dNil)) dNil)) [p, tabD n M, .und, .und, .und, .und, .und] = some (.nx [p1, tabD n M, .own (ratT n M), .int way, .und, .und, .und]) := by
    rw [sPar_ap, dCons_at hdc (dCons_at c1 dNil_at)]
    rfl
  have c2 := callR_at (fn := f_law_draw) (p0 := p1) (r := dCons (dBlt lenB (dCons (dVar 1) dNil)) dNil) (ρ := [p1, tabD n M, .own (ratT n M), .int way, .und, .und, .und]) (ρ' := [p1, tabD n M, .own (ratT n M), .int way, .und, .und, .und]) ⟨_, rfl, pot_nu g1⟩ (ds := [.int n]) (by simp) ⟨_, rfl⟩ (d := .int i) (o := p2) (by simpa using e2)
  have c3 := callR_at (fn := f_law_draw) (p0 := p2) (r := dCons (dBlt lenB (dCons (dVar 1) dNil)) dNil) (ρ := [p2, tabD n M, .own (ratT n M), .int way, .und, .und, .und]) (ρ' := [p2, tabD n M, .own (ratT n M), .int way, .und, .und, .und]) ⟨_, rfl, pot_nu g2⟩ (ds := [.int n]) (by simp) ⟨_, rfl⟩ (d := .int j) (o := p3) (by simpa using e3)
  have s2 : sPar 5 6 (dCons (dCallR f_law_draw 0 (dCons (dBlt lenB (dCons (dVar 1) dNil)) dNil)) (dCons (dCallR f_law_draw 0 (dCons (dBlt lenB (dCons (dVar 1) dNil)) dNil)) dNil)) [p1, tabD n M, .own (ratT n M), .int way, .und, .und, .und] = some (.nx (stB p3 n M (ratT n M) way i j)) := by
    rw [sPar_ap, dCons_at c2 (dCons_at c3 dNil_at)]
    rfl
  have ch : Gd n M way i j (sIf (tOf (dBin oEq (dVar 3) (dCst (.int 0)))) (sSeq (sAsgG (dBin oAdd (dEls (dItem2 2 (nVar 5) (nVar 6)) (dBin ixB (dItem 2 (dVar 5)) (dVar 6))) (dCst (.int 1))) (gItem2 2 (nVar 5) (nVar 6)))
  sEnd) (sSeq (sIf (tOf (dBin oEq (dVar 3) (dCst (.int 1)))) (sSeq (sExpr (dPop 2 (nVar 5)))
  sEnd) (sSeq (sIf (tOf (dBin oEq (dVar 3) (dCst (.int 2)))) (sSeq (sExpr (dApp3 2 (nVar 5) (dMake 4 [.int 1] f_Ratio___init (dCons (dCst (.int 0)) dNil))))
  sEnd) (sSeq (sIf (tOf (dBin oEq (dVar 3) (dCst (.int 3)))) (sSeq (sExpr (dApp 2 (dBin oMult (dLst (dCons (dMake 4 [.int 1] f_Ratio___init (dCons (dCst (.int 0)) dNil)) dNil)) (dBlt lenB (dCons (dVar 1) dNil)))))
  sEnd) (sSeq (sIf (tOf (dBin oEq (dVar 3) (dCst (.int 4)))) (sSeq (sAsgG (dCallR f_law_pick 0 (dCons (dLst (dCons (dCst .non) (dCons (dCst (.bl true)) (dCons (dCst (.str "0")) (dCons (dLst (dCons (dCst (.int 0)) dNil)) (dCons (dCst (.bl false)) dNil)))))) dNil)) (gItem2 2 (nVar 5) (nVar 6)))
  sEnd) (sSeq (sIf (tOf (dBin oEq (dVar 3) (dCst (.int 5)))) (sSeq (sAsgG (dCallR f_law_pick 0 (dCons (dLst (dCons (dCst .non) (dCons (dBin oMult (dCst (.str "0")) (dBlt lenB (dCons (dVar 1) dNil))) (dCons (dCst (.int 0)) (dCons (dDic [.inl 0] (dCons (dCst (.int 0)) dNil)) dNil))))) dNil)) (gItem 2 (dVar 5)))
  sEnd) (sSeq (sIf (tOf (dBin oEq (dVar 3) (dCst (.int 6)))) (sSeq (sAsgG (dTup (dCons (dBin oSub (dEls (dItem2 2 (nVar 5) (nVar 6)) (dBin ixB (dItem 2 (dVar 5)) (dVar 6))) (dCst (.int 2))) (dCons (dBin oSub (dEls (dItem2 2 (nVar 6) (nVar 5)) (dBin ixB (dItem 2 (dVar 6)) (dVar 5))) (dCst (.int 2))) dNil))) (gTup [(gItem2 2 (nVar 5) (nVar 6)), (gItem2 2 (nVar 6) (nVar 5))]))
  sEnd) sEnd)
  sEnd))
  sEnd))
  sEnd))
  sEnd))
  sEnd))
  sEnd)) (stB p3 n M (ratT n M) way i j) :=
    .iff (.of g3 (w0 h hi hj)) (.seq (.iff (.of g3 (w1 h hi hj)) (.seq (.iff (.of g3 (w2 h hi hj)) (.seq (.iff (.of g3 (w3 h hi hj)) (.seq (.iff (w4 h g3 hi hj) (.seq (.iff (w5 h g3 hi hj) (.seq (.iff (.of g3 (w6 h g3 hi hj)) (.of g3 ⟨ratT n M, rfl, rows_own (fun a b ha hb => .rat ((h.s a b ha hb).mono (by decide))) (by omega)⟩)))))))))))))
  obtain ⟨X, p4, e4, g4, r4⟩ := ch
  refine ⟨X.map fz, p4, ?_, g4, fun r hr => ?_, by rw [List.length_map]; exact r4.2⟩
  · unfold f_law_bent d_law_bent
    refine semOf_mu (ρ := [tabD n M, .lst (X.map fz), .int way, .und, .int (i : Int), .int (j : Int)]) ?_ (pot_nu g4)
    show sSeq _ _ [p, tabD n M, .und, .und, .und, .und, .und] = _
    rw [sSeq_nx s1, sSeq_nx s2, sSeq_nx e4]
    exact sSeq_rt (sRet_at (by simp))
  · obtain ⟨x, hx, rfl⟩ := List.mem_map.mp hr
    exact r4.1 x hx
/-! any value -/
theorem shape_tab (hv : ValV v rs) (hs : shapeB rs = true) : ∃ M, TabQ rs.length v M ∧ (∀ i j, i < rs.length → j < rs.length → RQ 200 (M i j)) ∧ 1 ≤ rs.length ∧ rs.length ≤ 20 := by
  simp only [shapeB, Bool.and_eq_true, decide_eq_true_eq] at hs
  obtain ⟨⟨h1, h20⟩, hr⟩ := hs
  have row : ∀ i, i < rs.length → ∃ u : Nat → Rat, SeqQ rs.length (rs.getD i .non) u ∧ ∀ j, j < rs.length → RQ 200 (u j) := fun i hi => by
    have rv := hv.r _ (getD_mem hi)
    have nr := hr i hi
    generalize rs.getD i .non = r at *
    simp only [numRowB, Bool.and_eq_true, decide_eq_true_eq] at nr
    obtain ⟨⟨hs, hl⟩, hn⟩ := nr
    obtain ⟨u, hu⟩ := pick_fn (n := rs.length) (R := fun j (q : Rat) => NumQ ((itemsD r).getD j .non) q ∧ RQ 200 q) fun j hj => (rv.i _ (getD_mem (by omega))).2.1 (hn j (by omega))
    have fe : itemsD r = fam rs.length fun j => (itemsD r).getD j .non := by
      have := fam_of (itemsD r) .non
      rw [hl] at this
      exact this
    refine ⟨u, ⟨fun j => (itemsD r).getD j .non, ?_, fun j hj => (hu j hj).1⟩, fun j hj => (hu j hj).2⟩
    rw [← fe]
    exact seq_cases hs
  obtain ⟨M, hM⟩ := pick_fn (n := rs.length) (α := Nat → Rat) row
  refine ⟨M, ⟨fun i => rs.getD i .non, ?_, fun i hi => ⟨(hM i hi).1, (hM i hi).1.fz.1⟩⟩, fun i j hi hj => (hM i hi).2 j hj, h1, h20⟩
  rw [← fam_of]
  exact hv.v
theorem same_look (hr : ∀ r ∈ rs, RowV r) (hl : rs.length ≤ 1000) : ∃ b, f_is_table [.lst rs] = some (.bl b, .non) ∧ f_is_table [.tup rs] = some (.bl b, .non) ∧ f_law_looks [.lst rs] = some (.bl b, .non) := by
  have v1 : ValV (.lst rs) rs := ⟨.inl rfl, hr, hl⟩
  have v2 : ValV (.tup rs) rs := ⟨.inr rfl, hr, hl⟩
  cases hs : shapeB rs with
  | false => exact ⟨false, is_table_no v1 hs, is_table_no v2 hs, looks_no v1 hs⟩
  | true =>
    obtain ⟨M, t, hM, h1, h20⟩ := shape_tab v1 hs
    have t2 : TabQ rs.length (.tup rs) M := by
      obtain ⟨x, hx, hy⟩ := t
      refine ⟨x, .inr ?_, hy⟩
      rcases hx with z | z
      · injection z with z; rw [← z]
      · cases z
    exact ⟨symB rs.length M, is_table_yes t hM h1 h20, is_table_yes t2 hM h1 h20, looks_yes t hM h1 h20⟩
end
end K31M

set_option maxRecDepth 100000
set_option maxHeartbeats 1000000
set_option linter.all false
namespace K31M
open PySem L2 DV K31D
section
variable {p d v a b T x8 : D} {n m k l : Nat} {q : Rat} {M : Nat → Nat → Rat} {u w z : Nat → Rat}
theorem num_shw {d : D} (h : NumQ d q) (hq : RQ 80 q) : Shw 838 0 d := by
  cases h with
  | rat => exact (Shw.rat (k := 1) (hq.mono (by decide)) (by decide)).mono (by decide) (Nat.le_refl _)
  | int =>
    rename_i x
    have := hq.s.st
    rw [Rat.num_intCast] at this
    exact (Shw.int this (by decide)).mono (by decide) (Nat.le_refl _)
theorem seq_shw (h : SeqQ n d u) (hu : ∀ i, i < n → RQ 80 (u i)) (hn : n ≤ 5) : Shw 4203 1 d := by
  obtain ⟨x, hd, hx⟩ := h
  have : ∀ e ∈ fam n x, Shw 838 0 e := fun e he => by
    obtain ⟨i, hi, rfl⟩ := fam_mem.mp he
    exact num_shw (hx i hi) (hu i hi)
  have hl : 3 + (fam n x).length * (838 + 2) ≤ 4203 := by rw [fam_len]; omega
  rcases hd with rfl | rfl
  · exact (Shw.lst this).mono hl (Nat.le_refl _)
  · exact (Shw.tup this).mono hl (Nat.le_refl _)
theorem tab_shw (h : TabQ n v M) (hM : ∀ i j, i < n → j < n → RQ 80 (M i j)) (hn : n ≤ 5) : Shw 21028 2 v := by
  obtain ⟨x, hd, hx⟩ := h
  have : ∀ e ∈ fam n x, Shw 4203 1 e := fun e he => by
    obtain ⟨i, hi, rfl⟩ := fam_mem.mp he
    exact seq_shw (hx i hi).1 (fun j hj => hM i j hi hj) hn
  have hl : 3 + (fam n x).length * (4203 + 2) ≤ 21028 := by rw [fam_len]; omega
  rcases hd with rfl | rfl
  · exact (Shw.lst this).mono hl (Nat.le_refl _)
  · exact (Shw.tup this).mono hl (Nat.le_refl _)
theorem TabQ.fz (h : TabQ n v M) : fz v = v ∧ v.isUnd = false := by obtain ⟨x, rfl | rfl, _⟩ := h <;> exact ⟨rfl, rfl⟩
theorem ne_str {t : Str} (h : PyData.strOk t = true) : oNotEq (.str t) (.str t) = some (.bl false) := by
  simp only [oNotEq, ownN_str]
  exact eqB_str h
theorem eq_str {t : Str} (h : PyData.strOk t = true) : oEq (.str t) (.str t) = some (.bl true) := by
  simp only [oEq, ownQ_str]
  exact eqB_str h
theorem rep_fam {x : D} : ∀ n : Nat, (List.replicate n [x]).flatten = fam n fun _ => x
  | 0 => rfl
  | n + 1 => by rw [fam_cons, ← rep_fam n]; rfl
theorem vec_seq : SeqQ n (vecD n u) u := ⟨fun i => ratD (u i), .inl rfl, fun _ _ => .rat⟩
theorem vec_tup : SeqQ n (.tup (fam n fun i => ratD (u i))) u := ⟨fun i => ratD (u i), .inr rfl, fun _ _ => .rat⟩
theorem tab_tab : TabQ n (tabD n M) M := ⟨fun i => vecD n (M i), .inl rfl, fun _ _ => ⟨vec_seq, rfl⟩⟩
theorem zero_seq : SeqQ n (.lst (fam n fun _ => .int 0)) (fun _ => ((0 : Int) : Rat)) := ⟨fun _ => .int 0, .inl rfl, fun _ _ => .int⟩
/-- the turns at the end -/
abbrev turnB : DenS := (sSeq (sAsg 15 (dCallR f_law_bent 0 (dCons (dVar 2) dNil)))
  (sSeq (sIf (tOf (dBin oNotEq (dBlt orepr (dCons (dLst (dCons (dCallP f_is_table (dCons (dVar 15) dNil)) (dCons (dCallP f_is_table (dCons (dBlt tupleB (dCons (dVar 15) dNil)) dNil)) dNil))) dNil)) (dBlt orepr (dCons (dBin oMult (dLst (dCons (dCallP f_law_looks (dCons (dVar 15) dNil)) dNil)) (dCst (.int 2))) dNil)))) (sSeq (sRet (dCst (.bl false)))
  sEnd) sEnd)
  sEnd))
abbrev st16 (p x1 x2 x3 x4 x5 x6 x7 x8 x9 x10 x11 x12 x13 x14 x15 : D) : List D := [p, x1, x2, x3, x4, x5, x6, x7, x8, x9, x10, x11, x12, x13, x14, x15]
theorem turn_step (h : TabM n M) (hp : PotD p) (x1 x3 x4 x5 x6 x7 x8 x9 x10 x11 x12 x13 x14 x15 : D) : ∃ p' x15', turnB (st16 p x1 (tabD n M) x3 x4 x5 x6 x7 x8 x9 x10 x11 x12 x13 x14 x15) = some (.nx (st16 p' x1 (tabD n M) x3 x4 x5 x6 x7 x8 x9 x10 x11 x12 x13 x14 x15')) ∧ PotD p' := by
  obtain ⟨rs, p1, e1, g1, hr, hl⟩ := bent_spec h hp
  obtain ⟨b, t1, t2, t3⟩ := same_look hr hl
  have c1 := callR_at (fn := f_law_bent) (p0 := p) (r := dCons (dVar 2) dNil) (ρ := st16 p x1 (tabD n M) x3 x4 x5 x6 x7 x8 x9 x10 x11 x12 x13 x14 x15) (ρ' := st16 p x1 (tabD n M) x3 x4 x5 x6 x7 x8 x9 x10 x11 x12 x13 x14 x15) ⟨_, rfl, pot_nu hp⟩ (ds := [tabD n M]) (by simp) ⟨_, rfl⟩ (d := .lst rs) (o := p1) (by simpa using e1)
  have s1 : sAsg 15 (dCallR f_law_bent 0 (dCons (dVar 2) dNil)) (st16 p x1 (tabD n M) x3 x4 x5 x6 x7 x8 x9 x10 x11 x12 x13 x14 x15) = some (.nx (st16 p1 x1 (tabD n M) x3 x4 x5 x6 x7 x8 x9 x10 x11 x12 x13 x14 (.lst rs))) := by
    rw [sAsg_at c1 (by simp)]; rfl
  obtain ⟨t, et, ok⟩ := orepr_ok (d := .lst [.bl b, .bl b]) (L := 17) (n := 1) (by
    refine (Shw.lst (L := 5) (n := 0) fun e he => ?_).mono (by simp) (Nat.le_refl _)
    simp only [List.mem_cons, List.not_mem_nil, or_false] at he
    rcases he with rfl | rfl <;> exact .bl) (by decide) (by decide)
  generalize hst : st16 p1 x1 (tabD n M) x3 x4 x5 x6 x7 x8 x9 x10 x11 x12 x13 x14 (.lst rs) = st at *
  have dv : dVar 15 st = some (.lst rs, st) := by subst hst; simp
  have q1 : dCallP f_is_table (dCons (dVar 15) dNil) st = some (.bl b, st) := dCallP_at (dCons_at dv dNil_at) t1
  have q2 : dCallP f_is_table (dCons (dBlt tupleB (dCons (dVar 15) dNil)) dNil) st = some (.bl b, st) := dCallP_at (dCons_at (dBlt_at (φ := tupleB) (d := .tup rs) (dCons_at dv dNil_at) rfl) dNil_at) t2
  have q3 : dCallP f_law_looks (dCons (dVar 15) dNil) st = some (.bl b, st) := dCallP_at (dCons_at dv dNil_at) t3
  have r1 : dBlt orepr (dCons (dLst (dCons (dCallP f_is_table (dCons (dVar 15) dNil)) (dCons (dCallP f_is_table (dCons (dBlt tupleB (dCons (dVar 15) dNil)) dNil)) dNil))) dNil) st = some (.str t, st) := dBlt1_at (dLst_at (dCons_at q1 (dCons_at q2 dNil_at)) (by simp)) (by simpa using et)
  have m1 : oMult (fz (.own [.bl b])) (fz (.int 2)) = some (.own [.bl b, .bl b]) := by simp [oMult]
  have r2 : dBlt orepr (dCons (dBin oMult (dLst (dCons (dCallP f_law_looks (dCons (dVar 15) dNil)) dNil)) (dCst (.int 2))) dNil) st = some (.str t, st) := dBlt1_at (dBin_at (dLst_at (dCons_at q3 dNil_at) (by simp)) (g := dCst (.int 2)) rfl m1) (by simpa using et)
  refine ⟨p1, .lst rs, ?_, g1⟩
  rw [turnB, sSeq_nx s1, sSeq_nx (by rw [sIf_f (tOf_at (dBin_at r1 r2 (ne_str ok)))]; rfl)]
  rw [hst]; rfl
end
end K31M

set_option maxRecDepth 100000
set_option maxHeartbeats 2000000
set_option linter.all false
namespace K31M
open PySem L2 DV K31D
section
variable {p d v a b T x8 : D} {n m k l : Nat} {q : Rat} {M : Nat → Nat → Rat} {u w z : Nat → Rat}
theorem law_right {p : D} (hp : PotD p) : ∃ o, f_law_right [p] = some (.bl true, o) := by
  obtain ⟨i, p1, e1, g1, a1, b1⟩ := draw_spec hp (k := 5) (by decide) (by decide)
  obtain ⟨i, rfl⟩ := Int.eq_ofNat_of_zero_le a1
  obtain ⟨n, hn⟩ : ∃ n : Nat, n = i + 1 := ⟨_, rfl⟩
  have n1 : 1 ≤ n := by omega
  have n5 : n ≤ 5 := by omega
  obtain ⟨M, p2, e2, g2, hM⟩ := table_spec (n := n) g1 n1 n5
  obtain ⟨gv, p3, e3, g3, hg, fg⟩ := given_spec (M := M) (n := n) g2 (by omega)
  obtain ⟨u1, p4, e4, g4, hu1⟩ := list_spec g3 n1 n5
  obtain ⟨u2, p5, e5, g5, hu2⟩ := list_spec g4 n1 n5
  obtain ⟨u3, p6, e6, g6, hu3⟩ := list_spec g5 n1 n5
  obtain ⟨lv, p7, e7, g7, hl, fl⟩ := handed_spec (u := u1) g6 (by omega : n ≤ 1000)
  obtain ⟨rv, p8, e8, g8, hr, fr⟩ := handed_spec (u := u2) g7 (by omega : n ≤ 1000)
  have ug := hg.fz.2
  have ul := hl.fz.2
  have ur := hr.fz.2
  have v1 : VecM n u1 := fun i hi => (hu1 i hi).mono (by decide)
  have v2 : VecM n u2 := fun i hi => (hu2 i hi).mono (by decide)
  have v3 : VecM n u3 := fun i hi => (hu3 i hi).mono (by decide)
  have vb : VecM n (fun i => u1 i * 2 - u3 i) := fun i hi => (((hu1 i hi).mul two_rq).sub (hu3 i hi)).mono (by decide)
  have vz : VecM n (fun _ => ((0 : Int) : Rat)) := fun i hi => RQ.zero.mono (by decide)
  have rq := bil_rq hM v1 v2
  have rq3 := bil_rq hM v3 v2
  -- what is reckoned
  have ls := law_sum_eq hM v1 v2
  have ls2 := law_sum_eq hM v1 v1
  have va1 := value_at_eq hM hg hl hr v1 v2
  have va2 := value_at_eq hM hg hr hl v2 v1
  rw [bil_comm hM] at va2
  have va3 := value_at_eq hM tab_tab vec_tup vec_seq v1 v2
  have va4 := value_at_eq hM hg vec_seq vec_seq vb v2
  rw [bil_line] at va4
  have va5 := value_at_eq hM hg vec_seq vec_seq v3 v2
  have va6 := value_at_eq hM hg zero_seq hr vz v2
  have z0 : bil n M (fun _ => ((0 : Int) : Rat)) u2 = 0 := bil_zero
  rw [z0] at va6
  have va7 := value_at_eq hM tab_tab vec_seq vec_seq v1 v1
  have it := is_table_yes hg (fun i j hi hj => (hM.s i j hi hj).mono (by decide)) n1 (by omega)
  rw [hM.sym] at it
  -- texts
  obtain ⟨tx, etx, okx⟩ := orepr_ok (d := .lst [gv, lv, rv]) (L := 63093) (n := 3) (by
    refine (Shw.lst (L := 21028) (n := 2) fun e he => ?_).mono (by simp) (Nat.le_refl _)
    simp only [List.mem_cons, List.not_mem_nil, or_false] at he
    rcases he with rfl | rfl | rfl
    · exact tab_shw hg hM.s n5
    · exact (seq_shw hl (fun i hi => (v1 i hi).mono (by decide)) n5).mono (by decide) (by decide)
    · exact (seq_shw hr (fun i hi => (v2 i hi).mono (by decide)) n5).mono (by decide) (by decide)) (by decide) (by decide)
  have sd : Shw 8590 0 (ratD (bil n M u1 u2)) := Shw.rat (k := 20) rq (by decide)
  obtain ⟨ty, ety, oky⟩ := orepr_ok (d := ratD (bil n M u1 u2)) sd (by decide) (by decide)
  obtain ⟨tz, etz, okz⟩ := orepr_ok (d := .lst [ratD (bil n M u1 u2), ratD (bil n M u1 u2)]) (L := 17187) (n := 1) (by
    refine (Shw.lst (L := 8590) (n := 0) fun e he => ?_).mono (by simp) (Nat.le_refl _)
    simp only [List.mem_cons, List.not_mem_nil, or_false] at he
    rcases he with rfl | rfl <;> exact sd) (by decide) (by decide)
  generalize bil n M u1 u2 = due at *
  suffices ∃ o ρ', d_law_right (st16 p .und .und .und .und .und .und .und .und .und .und .und .und .und .und .und) = some (.rt (.bl true) (o :: ρ')) ∧ o.isUnd = false by
    obtain ⟨o, ρ', e, ho⟩ := this
    exact ⟨o, by unfold f_law_right; exact semOf_mu e ho⟩
  unfold d_law_right
  -- the size
  have c1 := callR_at (fn := f_law_draw) (p0 := p) (r := dCons (dCst (.int 5)) dNil) (ρ := st16 p .und .und .und .und .und .und .und .und .und .und .und .und .und .und .und) (ρ' := st16 p .und .und .und .und .und .und .und .und .und .und .und .und .und .und .und) ⟨_, rfl, pot_nu hp⟩ (ds := [.int 5]) rfl ⟨_, rfl⟩ (d := .int i) (o := p1) (by simpa using e1)
  have c1' := dBin_at (φ := oAdd) (f := dCst (.int 1)) (a := .int 1) (ρ := st16 p .und .und .und .und .und .und .und .und .und .und .und .und .und .und .und) rfl c1 (d := .int (n : Int)) (by simp; omega)
  rw [sSeq_nx (ρ' := st16 p1 (.int n) .und .und .und .und .und .und .und .und .und .und .und .und .und .und) (by rw [sAsg_at c1' (by simp)]; rfl)]
  -- the table
  have c2 := callR_at (fn := f_law_table) (p0 := p1) (r := dCons (dVar 1) dNil) (ρ := st16 p1 (.int n) .und .und .und .und .und .und .und .und .und .und .und .und .und .und) (ρ' := st16 p1 (.int n) .und .und .und .und .und .und .und .und .und .und .und .und .und .und) ⟨_, rfl, pot_nu g1⟩ (ds := [.int n]) (by simp) ⟨_, rfl⟩ (d := tabD n M) (o := p2) (by simpa using e2)
  rw [sSeq_nx (ρ' := st16 p2 (.int n) (tabD n M) .und .und .und .und .und .und .und .und .und .und .und .und .und) (by rw [sAsg_at c2 (by simp)]; rfl)]
  -- what is handed in
  have c3 := callR_at (fn := f_law_given) (p0 := p2) (r := dCons (dVar 2) dNil) (ρ := st16 p2 (.int n) (tabD n M) .und .und .und .und .und .und .und .und .und .und .und .und .und) (ρ' := st16 p2 (.int n) (tabD n M) .und .und .und .und .und .und .und .und .und .und .und .und .und) ⟨_, rfl, pot_nu g2⟩ (ds := [tabD n M]) (by simp) ⟨_, rfl⟩ (d := gv) (o := p3) (by simpa using e3)
  have c4 := callR_at (fn := f_law_list) (p0 := p3) (r := dCons (dVar 1) dNil) (ρ := st16 p3 (.int n) (tabD n M) .und .und .und .und .und .und .und .und .und .und .und .und .und) (ρ' := st16 p3 (.int n) (tabD n M) .und .und .und .und .und .und .und .und .und .und .und .und .und) ⟨_, rfl, pot_nu g3⟩ (ds := [.int n]) (by simp) ⟨_, rfl⟩ (d := vecD n u1) (o := p4) (by simpa using e4)
  have c5 := callR_at (fn := f_law_list) (p0 := p4) (r := dCons (dVar 1) dNil) (ρ := st16 p4 (.int n) (tabD n M) .und .und .und .und .und .und .und .und .und .und .und .und .und) (ρ' := st16 p4 (.int n) (tabD n M) .und .und .und .und .und .und .und .und .und .und .und .und .und) ⟨_, rfl, pot_nu g4⟩ (ds := [.int n]) (by simp) ⟨_, rfl⟩ (d := vecD n u2) (o := p5) (by simpa using e5)
  have c6 := callR_at (fn := f_law_list) (p0 := p5) (r := dCons (dVar 1) dNil) (ρ := st16 p5 (.int n) (tabD n M) .und .und .und .und .und .und .und .und .und .und .und .und .und) (ρ' := st16 p5 (.int n) (tabD n M) .und .und .und .und .und .und .und .und .und .und .und .und .und) ⟨_, rfl, pot_nu g5⟩ (ds := [.int n]) (by simp) ⟨_, rfl⟩ (d := vecD n u3) (o := p6) (by simpa using e6)
  have tp : dTup (dCons (dCallR f_law_given 0 (dCons (dVar 2) dNil)) (dCons (dCallR f_law_list 0 (dCons (dVar 1) dNil)) (dCons (dCallR f_law_list 0 (dCons (dVar 1) dNil)) (dCons (dCallR f_law_list 0 (dCons (dVar 1) dNil)) dNil)))) (st16 p2 (.int n) (tabD n M) .und .und .und .und .und .und .und .und .und .und .und .und .und) = some (.tup [gv, vecD n u1, vecD n u2, vecD n u3], st16 p6 (.int n) (tabD n M) .und .und .und .und .und .und .und .und .und .und .und .und .und) := by
    rw [dTup_ap, dCons_at c3 (dCons_at c4 (dCons_at c5 (dCons_at c6 dNil_at)))]
    simp [fg]
  rw [sSeq_nx (ρ' := st16 p6 (.int n) (tabD n M) gv (vecD n u1) (vecD n u2) (vecD n u3) .und .und .und .und .und .und .und .und .und) (by rw [sAsgG_ap, tp]; simp [gTs])]
  have c7 := callR_at (fn := f_law_handed) (p0 := p6) (r := dCons (dVar 4) dNil) (ρ := st16 p6 (.int n) (tabD n M) gv (vecD n u1) (vecD n u2) (vecD n u3) .und .und .und .und .und .und .und .und .und) (ρ' := st16 p6 (.int n) (tabD n M) gv (vecD n u1) (vecD n u2) (vecD n u3) .und .und .und .und .und .und .und .und .und) ⟨_, rfl, pot_nu g6⟩ (ds := [vecD n u1]) (by simp) ⟨_, rfl⟩ (d := lv) (o := p7) (by simpa using e7)
  have c8 := callR_at (fn := f_law_handed) (p0 := p7) (r := dCons (dVar 5) dNil) (ρ := st16 p7 (.int n) (tabD n M) gv (vecD n u1) (vecD n u2) (vecD n u3) .und .und .und .und .und .und .und .und .und) (ρ' := st16 p7 (.int n) (tabD n M) gv (vecD n u1) (vecD n u2) (vecD n u3) .und .und .und .und .und .und .und .und .und) ⟨_, rfl, pot_nu g7⟩ (ds := [vecD n u2]) (by simp) ⟨_, rfl⟩ (d := rv) (o := p8) (by simpa using e8)
  rw [sSeq_nx (ρ' := st16 p8 (.int n) (tabD n M) gv (vecD n u1) (vecD n u2) (vecD n u3) lv rv .und .und .und .und .und .und .und) (by rw [sPar_ap, dCons_at c7 (dCons_at c8 dNil_at)]; rfl)]
  clear c1 c1' c2 c3 c4 c5 c6 c7 c8 tp e1 e2 e3 e4 e5 e6 e7 e8
  -- what stays, what is due
  have re : ∀ {x9 x10 x11 x12 x13 x14 x15 : D} {p : D}, dBlt orepr (dCons (dLst (dCons (dVar 3) (dCons (dVar 7) (dCons (dVar 8) dNil)))) dNil) (st16 p (.int n) (tabD n M) gv (vecD n u1) (vecD n u2) (vecD n u3) lv rv x9 x10 x11 x12 x13 x14 x15) = some (.str tx, st16 p (.int n) (tabD n M) gv (vecD n u1) (vecD n u2) (vecD n u3) lv rv x9 x10 x11 x12 x13 x14 x15) := by
    intro x9 x10 x11 x12 x13 x14 x15 p
    exact dBlt1_at (dLst_at (ds := [gv, lv, rv]) (by simp [ug, ul, ur, fg, fl, fr]) (by simp)) (by simpa [fg, fl, fr] using etx)
  have s10 : dCallP f_law_sum (dCons (dVar 2) (dCons (dVar 4) (dCons (dVar 5) dNil))) (st16 p8 (.int n) (tabD n M) gv (vecD n u1) (vecD n u2) (vecD n u3) lv rv .und .und .und .und .und .und .und) = some (ratD due, st16 p8 (.int n) (tabD n M) gv (vecD n u1) (vecD n u2) (vecD n u3) lv rv .und .und .und .und .und .und .und) := dCallP_at (ds := [tabD n M, vecD n u1, vecD n u2]) (by simp) (by simpa using ls)
  rw [sSeq_nx (ρ' := st16 p8 (.int n) (tabD n M) gv (vecD n u1) (vecD n u2) (vecD n u3) lv rv (.str tx) (ratD due) .und .und .und .und .und) (by rw [sPar_ap, dCons_at re (dCons_at s10 dNil_at)]; rfl)]
  generalize hst : st16 p8 (.int n) (tabD n M) gv (vecD n u1) (vecD n u2) (vecD n u3) lv rv (.str tx) (ratD due) .und .und .und .und .und = st at *
  have d1 : dVar 1 st = some (.int n, st) := by subst hst; simp
  have d2 : dVar 2 st = some (tabD n M, st) := by subst hst; simp
  have d3 : dVar 3 st = some (gv, st) := by subst hst; simp [ug, fg]
  have d4 : dVar 4 st = some (vecD n u1, st) := by subst hst; simp
  have d5 : dVar 5 st = some (vecD n u2, st) := by subst hst; simp
  have d6 : dVar 6 st = some (vecD n u3, st) := by subst hst; simp
  have d7 : dVar 7 st = some (lv, st) := by subst hst; simp [ul, fl]
  have d8 : dVar 8 st = some (rv, st) := by subst hst; simp [ur, fr]
  have d10 : dVar 10 st = some (ratD due, st) := by subst hst; simp
  -- the first look
  have t1 : dBin (isNonB true) (dCallP f_is_table (dCons (dVar 3) dNil)) (dCst (.bl true)) st = some (.bl false, st) := dBin_at (dCallP_at (dCons_at d3 dNil_at) (d := .bl true) (by simpa [fg] using it)) (b := .bl true) rfl rfl
  have w1 : dCallP f_value_at (dCons (dVar 3) (dCons (dVar 7) (dCons (dVar 8) dNil))) st = some (ratD due, st) := dCallP_at (dCons_at d3 (dCons_at d7 (dCons_at d8 dNil_at))) (by simpa [fg, fl, fr] using va1)
  have y1 : dBlt orepr (dCons (dCallP f_value_at (dCons (dVar 3) (dCons (dVar 7) (dCons (dVar 8) dNil)))) dNil) st = some (.str ty, st) := dBlt1_at w1 (by simpa using ety)
  have y2 : dBlt orepr (dCons (dVar 10) dNil) st = some (.str ty, st) := dBlt1_at d10 (by simpa using ety)
  rw [sSeq_nx (ρ' := st) (by rw [sIf_f (show _ = some (false, st) from by rw [tOr_f (tOf_at t1), tOf_at (dBin_at y1 y2 (ne_str oky))])]; rfl)]
  -- the second
  have w2 : dCallP (permF [2, 1, 0] f_value_at) (dCons (dVar 7) (dCons (dVar 8) (dCons (dVar 3) dNil))) st = some (ratD due, st) := dCallP_at (dCons_at d7 (dCons_at d8 (dCons_at d3 dNil_at))) (by simpa [permD, fg, fl, fr] using va2)
  have w3 : dCallP f_value_at (dCons (dVar 2) (dCons (dBlt tupleB (dCons (dVar 4) dNil)) (dCons (dVar 5) dNil))) st = some (ratD due, st) := dCallP_at (dCons_at d2 (dCons_at (dBlt1_at (φ := tupleB) d4 (d := .tup (fam n fun i => ratD (u1 i))) (by simp)) (dCons_at d5 dNil_at))) (by simpa using va3)
  have y3 : dBlt orepr (dCons (dLst (dCons (dCallP (permF [2, 1, 0] f_value_at) (dCons (dVar 7) (dCons (dVar 8) (dCons (dVar 3) dNil)))) (dCons (dCallP f_value_at (dCons (dVar 2) (dCons (dBlt tupleB (dCons (dVar 4) dNil)) (dCons (dVar 5) dNil)))) dNil))) dNil) st = some (.str tz, st) := dBlt1_at (dLst_at (dCons_at w2 (dCons_at w3 dNil_at)) (by simp)) (by simpa using etz)
  have mu2 : oMult (fz (.own [ratD due])) (fz (.int 2)) = some (.own [ratD due, ratD due]) := by simp [oMult]
  have y4 : dBlt orepr (dCons (dBin oMult (dLst (dCons (dVar 10) dNil)) (dCst (.int 2))) dNil) st = some (.str tz, st) := dBlt1_at (dBin_at (dLst_at (dCons_at d10 dNil_at) (by simp)) (g := dCst (.int 2)) rfl mu2) (by simpa using etz)
  rw [sSeq_nx (ρ' := st) (by rw [sIf_f (tOf_at (dBin_at y3 y4 (ne_str okz)))]; rfl)]
  clear y1 y2 y3 y4 w1 w2 w3 t1 d1 d2 d3 d4 d5 d6 d7 d8 d10
  subst hst
  -- one list more
  have cc := compC (own := [12, 13]) (fg := gTup [(gNm 12), (gNm 13)]) (ft := tYesD) (fe := (dBin oSub (dBin oMult (dVar 12) (dCst (.int 2))) (dVar 13))) (n := n) (x := fun i => D.tup [ratD (u1 i), ratD (u3 i)]) (ρ := st16 p8 (.int n) (tabD n M) gv (vecD n u1) (vecD n u2) (vecD n u3) lv rv (.str tx) (ratD due) .und .und .und .und .und) (fun i => ratO (u1 i * 2 - u3 i)) (fun j hj => by
    have m1 := o_mul (hu1 j hj) two_rq .int (by decide)
    have a1 := o_sub ((hu1 j hj).mul two_rq) (hu3 j hj) .rat (by decide)
    refine ⟨st16 p8 (.int n) (tabD n M) gv (vecD n u1) (vecD n u2) (vecD n u3) lv rv (.str tx) (ratD due) .und (ratD (u1 j)) (ratD (u3 j)) .und .und, st16 p8 (.int n) (tabD n M) gv (vecD n u1) (vecD n u2) (vecD n u3) lv rv (.str tx) (ratD due) .und (ratD (u1 j)) (ratD (u3 j)) .und .und, st16 p8 (.int n) (tabD n M) gv (vecD n u1) (vecD n u2) (vecD n u3) lv rv (.str tx) (ratD due) .und (ratD (u1 j)) (ratD (u3 j)) .und .und, by simp [gTs], by simp, ?_, by simp⟩
    exact dBin_at (dBin_at (φ := oMult) (f := dVar 12) (a := ratD (u1 j)) (ρ1 := st16 p8 (.int n) (tabD n M) gv (vecD n u1) (vecD n u2) (vecD n u3) lv rv (.str tx) (ratD due) .und (ratD (u1 j)) (ratD (u3 j)) .und .und) (by simp) (g := dCst (.int 2)) rfl m1) (g := dVar 13) (b := ratD (u3 j)) (ρ2 := st16 p8 (.int n) (tabD n M) gv (vecD n u1) (vecD n u2) (vecD n u3) lv rv (.str tx) (ratD due) .und (ratD (u1 j)) (ratD (u3 j)) .und .und) (by simp) (by rw [fz_ratO]; exact a1)) (by omega)
  have hdc := dComp_at (fi := iZp (dCons (dVar 4) (dCons (dVar 6) dNil))) (ρ := st16 p8 (.int n) (tabD n M) gv (vecD n u1) (vecD n u2) (vecD n u3) lv rv (.str tx) (ratD due) .und .und .und .und .und) (ρ' := st16 p8 (.int n) (tabD n M) gv (vecD n u1) (vecD n u2) (vecD n u3) lv rv (.str tx) (ratD due) .und .und .und .und .und) (its := fam n fun i => D.tup [ratD (u1 i), ratD (u3 i)]) (by simp [lstOf, zip_fam]) cc
  rw [sSeq_nx (ρ' := st16 p8 (.int n) (tabD n M) gv (vecD n u1) (vecD n u2) (vecD n u3) lv rv (.str tx) (ratD due) (.own (fam n fun i => ratO (u1 i * 2 - u3 i))) .und .und .und .und) (by rw [sAsg_at hdc (by simp)]; rfl)]
  clear cc hdc
  have ff : (fam n fun i => fz (ratO (u1 i * 2 - u3 i))) = fam n fun i => ratD (u1 i * 2 - u3 i) := fam_ext fun i _ => fz_ratO
  have d3 : dVar 3 (st16 p8 (.int n) (tabD n M) gv (vecD n u1) (vecD n u2) (vecD n u3) lv rv (.str tx) (ratD due) (.own (fam n fun i => ratO (u1 i * 2 - u3 i))) .und .und .und .und) = some (gv, st16 p8 (.int n) (tabD n M) gv (vecD n u1) (vecD n u2) (vecD n u3) lv rv (.str tx) (ratD due) (.own (fam n fun i => ratO (u1 i * 2 - u3 i))) .und .und .und .und) := by simp [ug, fg]
  have d11 : dVar 11 (st16 p8 (.int n) (tabD n M) gv (vecD n u1) (vecD n u2) (vecD n u3) lv rv (.str tx) (ratD due) (.own (fam n fun i => ratO (u1 i * 2 - u3 i))) .und .und .und .und) = some (vecD n (fun i => u1 i * 2 - u3 i), st16 p8 (.int n) (tabD n M) gv (vecD n u1) (vecD n u2) (vecD n u3) lv rv (.str tx) (ratD due) (vecD n (fun i => u1 i * 2 - u3 i)) .und .und .und .und) := by
    rw [dVar_ap]
    simp only [List.getElem?_cons_succ, List.getElem?_cons_zero, isUnd_own, fz_own, fam_map, ff]
    rfl
  have d5 : dVar 5 (st16 p8 (.int n) (tabD n M) gv (vecD n u1) (vecD n u2) (vecD n u3) lv rv (.str tx) (ratD due) (vecD n (fun i => u1 i * 2 - u3 i)) .und .und .und .und) = some (vecD n u2, st16 p8 (.int n) (tabD n M) gv (vecD n u1) (vecD n u2) (vecD n u3) lv rv (.str tx) (ratD due) (vecD n (fun i => u1 i * 2 - u3 i)) .und .und .und .und) := by simp
  have w4 : dCallP f_value_at (dCons (dVar 3) (dCons (dVar 11) (dCons (dVar 5) dNil))) (st16 p8 (.int n) (tabD n M) gv (vecD n u1) (vecD n u2) (vecD n u3) lv rv (.str tx) (ratD due) (.own (fam n fun i => ratO (u1 i * 2 - u3 i))) .und .und .und .und) = some (ratD (due * 2 - bil n M u3 u2), st16 p8 (.int n) (tabD n M) gv (vecD n u1) (vecD n u2) (vecD n u3) lv rv (.str tx) (ratD due) (vecD n (fun i => u1 i * 2 - u3 i)) .und .und .und .und) := dCallP_at (dCons_at d3 (dCons_at d11 (dCons_at d5 dNil_at))) (by simpa [fg] using va4)
  clear d3 d11 d5
  generalize hst : st16 p8 (.int n) (tabD n M) gv (vecD n u1) (vecD n u2) (vecD n u3) lv rv (.str tx) (ratD due) (vecD n (fun i => u1 i * 2 - u3 i)) .und .und .und .und = st at *
  have d1 : dVar 1 st = some (.int n, st) := by subst hst; simp
  have d2 : dVar 2 st = some (tabD n M, st) := by subst hst; simp
  have d3 : dVar 3 st = some (gv, st) := by subst hst; simp [ug, fg]
  have d4 : dVar 4 st = some (vecD n u1, st) := by subst hst; simp
  have d5 : dVar 5 st = some (vecD n u2, st) := by subst hst; simp
  have d6 : dVar 6 st = some (vecD n u3, st) := by subst hst; simp
  have d8 : dVar 8 st = some (rv, st) := by subst hst; simp [ur, fr]
  have d10 : dVar 10 st = some (ratD due, st) := by subst hst; simp
  have m1 := o_mul rq two_rq .int (by decide)
  have m2 := o_sub (rq.mul two_rq) rq3 .rat (by decide)
  have w5 : dCallP f_value_at (dCons (dVar 3) (dCons (dVar 6) (dCons (dVar 5) dNil))) st = some (ratD (bil n M u3 u2), st) := dCallP_at (dCons_at d3 (dCons_at d6 (dCons_at d5 dNil_at))) (by simpa [fg] using va5)
  have w6 : dBin oSub (dBin oMult (dVar 10) (dCst (.int 2))) (dCallP f_value_at (dCons (dVar 3) (dCons (dVar 6) (dCons (dVar 5) dNil)))) st = some (ratO (due * 2 - bil n M u3 u2), st) := dBin_at (dBin_at d10 (g := dCst (.int 2)) rfl m1) w5 (by rw [fz_ratO]; exact m2)
  rw [sSeq_nx (ρ' := st) (by rw [sIf_f (tOf_at (dBin_at w4 w6 (d := .bl false) (by rw [fz_ratO]; simpa using o_ne (p := due * 2 - bil n M u3 u2) (q := due * 2 - bil n M u3 u2))))]; rfl)]
  -- nought, and the same twice
  have mu3 : oMult (fz (.own [.int 0])) (fz (.int (n : Int))) = some (.own (fam n fun _ => .int 0)) := by
    simp only [fz_own, List.map_cons, List.map_nil, fz_int, oMult, ownO_lst, mulB_lst, List.length_singleton, Int.toNat_natCast, rep_fam]
    rw [if_pos (by omega)]
  have w7 : dCallP f_value_at (dCons (dVar 3) (dCons (dBin oMult (dLst (dCons (dCst (.int 0)) dNil)) (dVar 1)) (dCons (dVar 8) dNil))) st = some (ratD 0, st) := dCallP_at (dCons_at d3 (dCons_at (dBin_at (dLst_at (dCons_at (f := dCst (.int 0)) rfl dNil_at) (by simp)) d1 mu3) (dCons_at d8 dNil_at))) (by simpa [fg, fr] using va6)
  have w8 : dBin oNotEq (dCallP f_value_at (dCons (dVar 3) (dCons (dBin oMult (dLst (dCons (dCst (.int 0)) dNil)) (dVar 1)) (dCons (dVar 8) dNil)))) (dMake 4 [.int 1] f_Ratio___init (dCons (dCst (.int 0)) dNil)) st = some (.bl false, st) := dBin_at w7 make0 (by rw [fz_ratO]; exact (o_ne (p := 0) (q := 0)).trans (by simp))
  have w9 : dCallP f_value_at (dCons (dVar 2) (dCons (dVar 4) (dCons (dVar 4) dNil))) st = some (ratD (bil n M u1 u1), st) := dCallP_at (dCons_at d2 (dCons_at d4 (dCons_at d4 dNil_at))) (by simpa using va7)
  have w10 : dCallP f_law_sum (dCons (dVar 2) (dCons (dVar 4) (dCons (dVar 4) dNil))) st = some (ratD (bil n M u1 u1), st) := dCallP_at (dCons_at d2 (dCons_at d4 (dCons_at d4 dNil_at))) (by simpa using ls2)
  rw [sSeq_nx (ρ' := st) (by rw [sIf_f (show _ = some (false, st) from by rw [tOr_f (tOf_at w8), tOf_at (dBin_at w9 w10 (d := .bl false) (by simpa using o_ne (p := bil n M u1 u1) (q := bil n M u1 u1)))])]; rfl)]
  -- the turns
  subst hst
  obtain ⟨ρ', et, p9, x14, x15, rfl, g9⟩ := forN (n := 4) (x := fun j => D.int (j : Int)) (fg := gNm 14) (fb := turnB) (fun _ ρ => ∃ p x14 x15, ρ = st16 p (.int n) (tabD n M) gv (vecD n u1) (vecD n u2) (vecD n u3) lv rv (.str tx) (ratD due) (vecD n (fun i => u1 i * 2 - u3 i)) .und .und x14 x15 ∧ PotD p) (fun j hj ρ hρ => by
    obtain ⟨p, x14, x15, rfl, g⟩ := hρ
    obtain ⟨p', x15', e, g'⟩ := turn_step hM g (.int n) gv (vecD n u1) (vecD n u2) (vecD n u3) lv rv (.str tx) (ratD due) (vecD n (fun i => u1 i * 2 - u3 i)) .und .und (.int (j : Int)) x15
    exact ⟨st16 p (.int n) (tabD n M) gv (vecD n u1) (vecD n u2) (vecD n u3) lv rv (.str tx) (ratD due) (vecD n (fun i => u1 i * 2 - u3 i)) .und .und (.int (j : Int)) x15, _, by simp, .inl e, p', _, x15', rfl, g'⟩) (ρ := st16 p8 (.int n) (tabD n M) gv (vecD n u1) (vecD n u2) (vecD n u3) lv rv (.str tx) (ratD due) (vecD n (fun i => u1 i * 2 - u3 i)) .und .und .und .und) ⟨p8, _, _, rfl, g8⟩
  rw [sSeq_nx (by rw [sFor_at (iRng_nat (n := 4) (ρ' := st16 p8 (.int n) (tabD n M) gv (vecD n u1) (vecD n u2) (vecD n u3) lv rv (.str tx) (ratD due) (vecD n (fun i => u1 i * 2 - u3 i)) .und .und .und .und) rfl (by decide))]; exact et)]
  exact ⟨p9, _, sSeq_rt (sRet_at (dBin_at re (g := dVar 9) (b := .str tx) (ρ2 := st16 p9 (.int n) (tabD n M) gv (vecD n u1) (vecD n u2) (vecD n u3) lv rv (.str tx) (ratD due) (vecD n (fun i => u1 i * 2 - u3 i)) .und .und x14 x15) (by simp) (eq_str okx))), pot_nu g9⟩
end
end K31M

set_option maxRecDepth 100000
set_option maxHeartbeats 1000000
set_option linter.all false
namespace K31M
open PySem L2 DV K31D
theorem pot_end (c : Int) (k : Nat) : PotD (.own [.int (if c - 1000000000000000000 > 0 then c - 1000000000000000000 else 0), .int ((c.fmod 2147483549 * 40127 + 1019 * (k : Int) + 79).fmod 2147483563 + 1)]) := by
  have := fmod_bd (c.fmod 2147483549 * 40127 + 1019 * (k : Int) + 79) 2147483563 (by decide)
  refine ⟨_, _, rfl, ?_, by omega, by omega⟩
  split <;> omega
theorem pot_spec (ns : List Int) (k : Nat) (hk : k ≤ 3) : ∃ p, f_law_pot [.con (ns.map D.int), .int (k : Int)] = some (p, .non) ∧ PotD p := by
  have sk : Sm 2 (k : Int) := sm_abs (by omega) (by omega)
  have m1 : MuOk 409 k := (show Sm 10 409 by unfold Sm; decide).mulOk sk (by decide)
  have m2 : MuOk 1019 k := (show Sm 10 1019 by unfold Sm; decide).mulOk sk (by decide)
  have m3 : ∀ c : Int, MuOk (c.fmod 2147483549) 40127 := fun c => by
    have := fmod_bd c 2147483549 (by decide)
    exact (sm_of (n := 31) this.1 (by omega)).mulOk (m := 16) (sm_of (by decide) (by decide)) (by decide)
  by_cases hl : k < ns.length
  · refine ⟨_, ?_, pot_end (if ns[k] < 0 then -ns[k] else ns[k]) k⟩
    have hl' : (k : Int) < (ns.length : Int) := by omega
    have := m3 (if ns[k] < 0 then -ns[k] else ns[k])
    simp [f_law_pot, d_law_pot, hl, hl', DV.atI_nat, m2, this]
  · refine ⟨_, ?_, pot_end (409 * (k : Int) + 107) k⟩
    have hl' : ¬ (k : Int) < (ns.length : Int) := by omega
    have := m3 (409 * (k : Int) + 107)
    simp [f_law_pot, d_law_pot, hl, hl', m1, m2, this]
theorem law_sem (ns : List Int) : ∃ o, f_law [.con (ns.map D.int)] = some (.bl true, o) := by
  obtain ⟨n, hn, h3⟩ : ∃ n : Nat, (if (if (ns.length : Int) < 3 then (ns.length : Int) else 3) > 1 then (if (ns.length : Int) < 3 then (ns.length : Int) else 3) else 1) = (n : Int) ∧ n ≤ 3 := by
    refine ⟨max 1 (min 3 ns.length), ?_, by omega⟩
    split <;> split <;> omega
  have rg : dCons (dBlt maxB (dCons (dCst (.int 1)) (dCons (dBlt minB (dCons (dCst (.int 3)) (dCons (dBlt lenB (dCons (dVar 0) dNil)) dNil))) dNil))) dNil [.con (ns.map D.int), .und] = some ([.int (n : Int)], [.con (ns.map D.int), .und]) := by
    simp [hn]
  have cc := compC (own := [1]) (fg := gNm 1) (ft := tYesD) (fe := dCallT f_law_right (dCallP f_law_pot (dCons (dVar 0) (dCons (dVar 1) dNil))) dNil) (n := n) (x := fun j => D.int (j : Int)) (ρ := [.con (ns.map D.int), .und]) (fun _ => .bl true) (fun j hj => by
    obtain ⟨p, ep, hp⟩ := pot_spec ns j (by omega)
    obtain ⟨o, eo⟩ := law_right hp
    refine ⟨[.con (ns.map D.int), .int (j : Int)], [.con (ns.map D.int), .int (j : Int)], [.con (ns.map D.int), .int (j : Int)], by simp, by simp, ?_, by simp⟩
    simp [ep, eo]) (by omega)
  have hdc := dComp_at (iRng_nat rg (by omega)) (own := [1]) cc
  refine ⟨.non, ?_⟩
  unfold f_law d_law
  refine semOf_rt (ρ := [.con (ns.map D.int), .und]) ?_
  show sSeq _ _ [.con (ns.map D.int), .und] = _
  refine sSeq_rt (sRet_at (dBlt1_at hdc ?_))
  rw [fz_own, fam_map]
  have := allB_fam (n := n) (b := fun _ => true)
  simpa using this
end K31M

set_option Elab.async false
set_option maxRecDepth 100000
set_option maxHeartbeats 0
set_option linter.all false
/-! printed by gene.py: the end -/
namespace K31WE
open PySem L2 DV K31D K31W PySem.Spec PyProof.Rows
def fn : List DefX := [⟨.gl "is_integer", "is_integer", "is_integer", s_is_integer, []⟩, ⟨.gl "told_pair", "told_pair", "told_pair", s_told_pair, []⟩, ⟨.gl "common_part", "common_part", "common_part", s_common_part, []⟩, ⟨.me "Ratio" "__init__", "__init__", "Ratio.__init__", s_Ratio___init, [.int 1]⟩, ⟨.me "Ratio" "__add__", "__add__", "Ratio.__add__", s_Ratio___add, []⟩, ⟨.me "Ratio" "__radd__", "__radd__", "Ratio.__radd__", s_Ratio___radd, []⟩, ⟨.me "Ratio" "__mul__", "__mul__", "Ratio.__mul__", s_Ratio___mul, []⟩, ⟨.me "Ratio" "__rmul__", "__rmul__", "Ratio.__rmul__", s_Ratio___rmul, []⟩, ⟨.gl "_law_draw", "_law_draw", "_law_draw", s_law_draw, []⟩, ⟨.gl "_law_more", "_law_more", "_law_more", s_law_more, []⟩, ⟨.gl "_law_pick", "_law_pick", "_law_pick", s_law_pick, []⟩, ⟨.me "Ratio" "__sub__", "__sub__", "Ratio.__sub__", s_Ratio___sub, []⟩, ⟨.me "Ratio" "__rsub__", "__rsub__", "Ratio.__rsub__", s_Ratio___rsub, []⟩, ⟨.gl "_law_small", "_law_small", "_law_small", s_law_small, []⟩, ⟨.me "Ratio" "__eq__", "__eq__", "Ratio.__eq__", s_Ratio___eq, []⟩, ⟨.gl "_law_table", "_law_table", "_law_table", s_law_table, []⟩, ⟨.gl "_law_list", "_law_list", "_law_list", s_law_list, []⟩, ⟨.pr "Ratio" "bottom", "bottom", "Ratio.bottom", s_Ratio_bottom, []⟩, ⟨.pr "Ratio" "top", "top", "Ratio.top", s_Ratio_top, []⟩, ⟨.gl "_law_handed", "_law_handed", "_law_handed", s_law_handed, []⟩, ⟨.gl "_law_given", "_law_given", "_law_given", s_law_given, []⟩, ⟨.gl "_law_sum", "_law_sum", "_law_sum", s_law_sum, []⟩, ⟨.gl "digits_of", "digits_of", "digits_of", s_digits_of, []⟩, ⟨.me "Ratio" "__repr__", "__repr__", "Ratio.__repr__", s_Ratio___repr, []⟩, ⟨.gl "is_list", "is_list", "is_list", s_is_list, []⟩, ⟨.gl "is_number", "is_number", "is_number", s_is_number, []⟩, ⟨.gl "are_numbers", "are_numbers", "are_numbers", s_are_numbers, []⟩, ⟨.gl "are_alike", "are_alike", "are_alike", s_are_alike, []⟩, ⟨.gl "ratio_of", "ratio_of", "ratio_of", s_ratio_of, []⟩, ⟨.gl "ratios_of", "ratios_of", "ratios_of", s_ratios_of, []⟩, ⟨.gl "is_table", "is_table", "is_table", s_is_table, []⟩, ⟨.gl "told_rows", "told_rows", "told_rows", s_told_rows, []⟩, ⟨.gl "told_direction", "told_direction", "told_direction", s_told_direction, []⟩, ⟨.gl "total_of", "total_of", "total_of", s_total_of, []⟩, ⟨.gl "weighed", "weighed", "weighed", s_weighed, []⟩, ⟨.gl "made_by", "made_by", "made_by", s_made_by, []⟩, ⟨.gl "value_in", "value_in", "value_in", s_value_in, []⟩, ⟨.gl "value_at", "value_at", "value_at", s_value_at, []⟩, ⟨.gl "_law_bent", "_law_bent", "_law_bent", s_law_bent, []⟩, ⟨.gl "_law_is_number", "_law_is_number", "_law_is_number", s_law_is_number, []⟩, ⟨.gl "_law_looks", "_law_looks", "_law_looks", s_law_looks, []⟩, ⟨.gl "_law_right", "_law_right", "_law_right", s_law_right, []⟩, ⟨.gl "_law_pot", "_law_pot", "_law_pot", s_law_pot, []⟩, ⟨.gl "law", "law", "law", s_law, []⟩]
def fx : List Fak := [.glo "is_integer", .glo "told_pair", .glo "common_part", .meth "Ratio" "__init__", .meth "Ratio" "__add__", .meth "Ratio" "__radd__", .meth "Ratio" "__mul__", .meth "Ratio" "__rmul__", .glo "_law_draw", .glo "_law_more", .glo "_law_pick", .meth "Ratio" "__sub__", .meth "Ratio" "__rsub__", .glo "_law_small", .meth "Ratio" "__eq__", .glo "_law_table", .glo "_law_list", .prop "Ratio" "bottom", .prop "Ratio" "top", .glo "_law_handed", .glo "_law_given", .glo "_law_sum", .glo "digits_of", .meth "Ratio" "__repr__", .glo "is_list", .glo "is_number", .glo "are_numbers", .glo "are_alike", .glo "ratio_of", .glo "ratios_of", .glo "is_table", .glo "told_rows", .glo "told_direction", .glo "total_of", .glo "weighed", .glo "made_by", .glo "value_in", .glo "value_at", .glo "_law_bent", .glo "_law_is_number", .glo "_law_looks", .glo "_law_right", .glo "_law_pot", .glo "law", .cls "Ratio", .glo "Ratio", .noat "Ratio" "own_top", .noat "Ratio" "own_bottom", .crd "Ratio", .mkr "Ratio", .int "PART" 1000000000000000000000000000000000000000000000000000000000000, .int "MOST_ROWS" 20, .free "isinstance", .free "int", .free "bool", .free "abs", .free "divmod", .free "len", .free "range", .free "tuple", .free "str", .free "list", .free "all", .free "enumerate", .free "zip", .free "repr", .free "max", .free "min"]
/-- where each stands -/
def adA (K : PySem.W.Frag) (i : Nat) : Addr := match fn[i]? with | some d => d.at_.ad K | none => 0
def adP (K : PySem.W.Frag) (i : Nat) : Addr := if i = 17 then rcA K "Ratio" "bottom" else if i = 18 then rcA K "Ratio" "top" else 0
def adC (K : PySem.W.Frag) (i : Nat) : Addr := if i = 4 then He.ga K "Ratio" else 0
theorem txt {K : PySem.W.Frag} {h : Heap} {mg : Str → Option Value} (X : K.In h) (G : h.Ns mainGlobals mg) (c : SayX fx fn K) : ∃ FD : Nat → FuncData, Txt K mg (adA K) (adP K) (adC K) FD := by
  refine ⟨fun i => (c.fun_ i).choose, ?_⟩
  have hF := fun i => (c.fun_ i).choose_spec
  exact ⟨hF 0 _ rfl, He.glo_ok X G (c.fact 0 (f := .glo "is_integer") rfl), hF 1 _ rfl, He.glo_ok X G (c.fact 1 (f := .glo "told_pair") rfl), hF 2 _ rfl, He.glo_ok X G (c.fact 2 (f := .glo "common_part") rfl), hF 3 _ rfl, He.meth_ok (c.fact 3 (f := .meth "Ratio" "__init__") rfl), hF 4 _ rfl, He.meth_ok (c.fact 4 (f := .meth "Ratio" "__add__") rfl), hF 5 _ rfl, He.meth_ok (c.fact 5 (f := .meth "Ratio" "__radd__") rfl), hF 6 _ rfl, He.meth_ok (c.fact 6 (f := .meth "Ratio" "__mul__") rfl), hF 7 _ rfl, He.meth_ok (c.fact 7 (f := .meth "Ratio" "__rmul__") rfl), hF 8 _ rfl, He.glo_ok X G (c.fact 8 (f := .glo "_law_draw") rfl), hF 9 _ rfl, He.glo_ok X G (c.fact 9 (f := .glo "_law_more") rfl), hF 10 _ rfl, He.glo_ok X G (c.fact 10 (f := .glo "_law_pick") rfl), hF 11 _ rfl, He.meth_ok (c.fact 11 (f := .meth "Ratio" "__sub__") rfl), hF 12 _ rfl, He.meth_ok (c.fact 12 (f := .meth "Ratio" "__rsub__") rfl), hF 13 _ rfl, He.glo_ok X G (c.fact 13 (f := .glo "_law_small") rfl), hF 14 _ rfl, He.meth_ok (c.fact 14 (f := .meth "Ratio" "__eq__") rfl), hF 15 _ rfl, He.glo_ok X G (c.fact 15 (f := .glo "_law_table") rfl), hF 16 _ rfl, He.glo_ok X G (c.fact 16 (f := .glo "_law_list") rfl), hF 17 _ rfl, prop_ok (c.fact 17 (f := .prop "Ratio" "bottom") rfl), hF 18 _ rfl, prop_ok (c.fact 18 (f := .prop "Ratio" "top") rfl), hF 19 _ rfl, He.glo_ok X G (c.fact 19 (f := .glo "_law_handed") rfl), hF 20 _ rfl, He.glo_ok X G (c.fact 20 (f := .glo "_law_given") rfl), hF 21 _ rfl, He.glo_ok X G (c.fact 21 (f := .glo "_law_sum") rfl), hF 22 _ rfl, He.glo_ok X G (c.fact 22 (f := .glo "digits_of") rfl), hF 23 _ rfl, He.meth_ok (c.fact 23 (f := .meth "Ratio" "__repr__") rfl), hF 24 _ rfl, He.glo_ok X G (c.fact 24 (f := .glo "is_list") rfl), hF 25 _ rfl, He.glo_ok X G (c.fact 25 (f := .glo "is_number") rfl), hF 26 _ rfl, He.glo_ok X G (c.fact 26 (f := .glo "are_numbers") rfl), hF 27 _ rfl, He.glo_ok X G (c.fact 27 (f := .glo "are_alike") rfl), hF 28 _ rfl, He.glo_ok X G (c.fact 28 (f := .glo "ratio_of") rfl), hF 29 _ rfl, He.glo_ok X G (c.fact 29 (f := .glo "ratios_of") rfl), hF 30 _ rfl, He.glo_ok X G (c.fact 30 (f := .glo "is_table") rfl), hF 31 _ rfl, He.glo_ok X G (c.fact 31 (f := .glo "told_rows") rfl), hF 32 _ rfl, He.glo_ok X G (c.fact 32 (f := .glo "told_direction") rfl), hF 33 _ rfl, He.glo_ok X G (c.fact 33 (f := .glo "total_of") rfl), hF 34 _ rfl, He.glo_ok X G (c.fact 34 (f := .glo "weighed") rfl), hF 35 _ rfl, He.glo_ok X G (c.fact 35 (f := .glo "made_by") rfl), hF 36 _ rfl, He.glo_ok X G (c.fact 36 (f := .glo "value_in") rfl), hF 37 _ rfl, He.glo_ok X G (c.fact 37 (f := .glo "value_at") rfl), hF 38 _ rfl, He.glo_ok X G (c.fact 38 (f := .glo "_law_bent") rfl), hF 39 _ rfl, He.glo_ok X G (c.fact 39 (f := .glo "_law_is_number") rfl), hF 40 _ rfl, He.glo_ok X G (c.fact 40 (f := .glo "_law_looks") rfl), hF 41 _ rfl, He.glo_ok X G (c.fact 41 (f := .glo "_law_right") rfl), hF 42 _ rfl, He.glo_ok X G (c.fact 42 (f := .glo "_law_pot") rfl), hF 43 _ rfl, He.glo_ok X G (c.fact 43 (f := .glo "law") rfl), clsB_ok (c.fact 44 (f := .cls "Ratio") rfl), He.glo_ok X G (c.fact 45 (f := .glo "Ratio") rfl), He.noat_ok (c.fact 46 (f := .noat "Ratio" "own_top") rfl), He.noat_ok (c.fact 47 (f := .noat "Ratio" "own_bottom") rfl), crd_ok (c.fact 48 (f := .crd "Ratio") rfl), He.mkr_ok (c.fact 49 (f := .mkr "Ratio") rfl), He.int_ok X G (c.fact 50 (f := .int "PART" 1000000000000000000000000000000000000000000000000000000000000) rfl), He.int_ok X G (c.fact 51 (f := .int "MOST_ROWS" 20) rfl), He.free_ok X G (c.fact 52 (f := .free "isinstance") rfl), He.free_ok X G (c.fact 53 (f := .free "int") rfl), He.free_ok X G (c.fact 54 (f := .free "bool") rfl), He.free_ok X G (c.fact 55 (f := .free "abs") rfl), He.free_ok X G (c.fact 56 (f := .free "divmod") rfl), He.free_ok X G (c.fact 57 (f := .free "len") rfl), He.free_ok X G (c.fact 58 (f := .free "range") rfl), He.free_ok X G (c.fact 59 (f := .free "tuple") rfl), He.free_ok X G (c.fact 60 (f := .free "str") rfl), He.free_ok X G (c.fact 61 (f := .free "list") rfl), He.free_ok X G (c.fact 62 (f := .free "all") rfl), He.free_ok X G (c.fact 63 (f := .free "enumerate") rfl), He.free_ok X G (c.fact 64 (f := .free "zip") rfl), He.free_ok X G (c.fact 65 (f := .free "repr") rfl), He.free_ok X G (c.fact 66 (f := .free "max") rfl), He.free_ok X G (c.fact 67 (f := .free "min") rfl)⟩
abbrev R : PySem.W.OpenRow := PySem.W.OpenLaw.row PySem.Challenge.rw_onecrest_k31_tables_by_plain_sums
abbrev hk : PySem.W.Hook := hkX 9 fx fn
def ob (s : PySem.W.SharedT) : He.AlD := lookX 9 fx fn (HandSHeadRun.getT s)
def names : List Str := (["_wall", "CrestError", "InvalidDirection", "InvalidNumber", "InvalidTable", "is_integer", "is_list", "PART", "digits_of", "common_part", "Ratio", "told_pair", "is_number", "ratio_of", "total_of", "weighed", "MOST_ROWS", "are_numbers", "are_alike", "is_table", "ratios_of", "told_rows", "told_direction", "made_by", "value_in", "value_at", "_law_pot", "_law_draw", "_law_pick", "_law_small"] : List Str) ++ (["_law_more", "_law_table", "_law_handed", "_law_given", "_law_is_number", "_law_looks", "_law_bent", "_law_sum", "_law_list", "_law_right"] : List Str)
theorem run (w : World) : HandSHeadRun.RunEq R (PySem.W.view R.prog [45]) hk ob 100000 names w := by
  intro os
  kernel_rfl
def lawLevel : Nat := 18
theorem facts {P : Program} {w : World} {K : PySem.W.Frag} {h : Heap} {mg : Str → Option Value} {f : Addr} (X : K.In h) (c : SayX fx fn K) (G : h.Ns mainGlobals mg) (hfa : mg ("law" : Str) = some (.ref f)) :
    ∃ (fd : FuncData) (g : DV.G), g.K = K ∧ (∀ (s : Shared) (u : Value), BindsTo s fd ⟨[u], []⟩ [("_law_script", u)]) ∧ ∀ base : Heap, K.In base → base.Ns mainGlobals mg → FnD P w K mg base true 18 f fd ["_law_script"] (spD g false 1 f_law) := by
  obtain ⟨FD, T⟩ := txt X G c
  have q := hfa.symm.trans T.g43
  cases q
  exact ⟨FD 43, gg K (adC K), rfl, fun s v => FunD.bindsA (ps := ["_law_script"]) T.F43 (fun _ _ _ _ _ _ us hl => match us, hl with | [_], _ => rfl) s [v] rfl, fun base _ _ => ok_law T⟩
end K31WE

open PySem PySem.W PySem.Calls PyProof.Rows
theorem PySem.Challenge.cw_onecrest_k31_tables_by_plain_sums_holds : PySem.Challenge.rw_onecrest_k31_tables_by_plain_sums.Holds := by
  w_on; o_law
  refine HandSHeadRun.head_any (r := OpenLaw.row PySem.Challenge.rw_onecrest_k31_tables_by_plain_sums) (q := view (OpenLaw.row PySem.Challenge.rw_onecrest_k31_tables_by_plain_sums).prog [45]) (H := K31WE.hk) (ob := K31WE.ob) (M := 100000) (loose := K31WE.names) (d := HandSHeadRun.topDef (OpenLaw.row PySem.Challenge.rw_onecrest_k31_tables_by_plain_sums).prog 45) (kwd := []) (fun s => DV.lookX_eq)
    (by kernel_rfl) (fun s => by kernel_rfl) K31WE.run (by kernel_rfl) (by kernel_rfl) (by kernel_rfl) (by rfl) (by first | assumption | decide +kernel) (by decide +kernel) ⟨rfl, rfl, rfl, rfl, rfl, by decide +kernel⟩ ?hw ?hc
  case hw => w_witness2
  case hc =>
    refine DV.walk_X (l := PySem.Challenge.rw_onecrest_k31_tables_by_plain_sums) (n := 63) (k := K31WE.lawLevel) (x := "_law_script") (sem := K31D.f_law) rfl (by decide) (by kernel_rfl) ⟨rfl, by decide, by decide⟩ ?F (fun ns _ => K31M.law_sem ns)
    intro w mg fa h K X c G hmg
    have hm : mg ("law" : PySem.Str) = some (.ref fa) := by
      have q : (HandSHeadRun.topDef (OpenLaw.row PySem.Challenge.rw_onecrest_k31_tables_by_plain_sums).prog 45).name = ("law" : PySem.Str) := by kernel_rfl
      rw [← q]
      exact hmg
    exact K31WE.facts X c G hm
