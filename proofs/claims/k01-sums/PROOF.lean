import PyProof.Rows.All
import HandS.ForMost
import HandS.ForExc
import HandS.Walk
import HandS.Style
import HandS.Flow
import HandS.Evl
import HandS.Wide
import HandS.IterVal
import HandS.IsInst
import Wide.All
import OpenK.AllK
import Wide.FinOn
import PySem.Challenge.RW_dapple_k01_sums_and_products
set_option Elab.async false
set_option linter.all false
set_option maxRecDepth 100000
set_option maxHeartbeats 4000000
namespace DL
open PySem Spec PyProof.Rows L2
/-! ## values -/
inductive D where
  | non | bl (b : Bool) | int (i : Int) | str (x : Str)
  | lst (xs : List D) | tup (xs : List D) | scr (ns : List Int)
  | dK (kvs : List (Key × D)) | dT (kvs : List (List Key × D))
  | ob (c : String) (fs : List (Str × D))
abbrev Ro := List (Option D)
structure Exc where
  cls : String
  fs : List (Str × D)
inductive EO where
  | ok (d : D) (ρ : Ro) | exc (x : Exc) (ρ : Ro) | stk
inductive SO where
  | nx (ρ : Ro) | ret (d : D) (ρ : Ro) | brk (ρ : Ro) | ct (ρ : Ro) | exc (x : Exc) (ρ : Ro) | stk
inductive FO where
  | ret (d : D) (ps : Ro) | exc (x : Exc) (ps : Ro) | stk
abbrev FD := List D → FO
/-- shapes: frozen, or owned and to be changed -/
inductive Sh where
  | fz | ml (s : Sh) | mK (s : Sh) | mT (s : Sh) | mo (c : String) (ss : List (Str × Sh))
def shOf (ss : List (Str × Sh)) (f : Str) : Sh := (ss.lookup f).getD .fz
section
variable (K : PySem.W.Frag) (ct : String → Option Addr)
mutual
inductive Rep (F : Hp) : V → D → Prop
  | non : Rep F .non .non
  | bl (b : Bool) : Rep F (.bl b) (.bl b)
  | int (i : Int) : Rep F (.int i) (.int i)
  | str (x : Str) : Rep F (.str x) (.str x)
  | lst {a : Addr} {xs : List V} {ds : List D} : F a = some (.lst xs) → Reps F xs ds → Rep F (.ref a) (.lst ds)
  | tup {a : Addr} {xs : List V} {ds : List D} : SqT K F a xs → Reps F xs ds → Rep F (.ref a) (.tup ds)
  | scr {a : Addr} {ns : List Int} : SqL K F a (ns.map V.int) → Rep F (.ref a) (.scr ns)
  | dK {a : Addr} {xs : List (Key × V)} {ds : List (Key × D)} : F a = some (.dK xs) → RepA F xs ds → Rep F (.ref a) (.dK ds)
  | dT {a : Addr} {xs : List (List Key × V)} {ds : List (List Key × D)} : F a = some (.dT xs) → RepA F xs ds → Rep F (.ref a) (.dT ds)
  | ob {c : String} {C a dx : Addr} {xs : List (Str × V)} {ds : List (Str × D)} : ct c = some C → F a = some (.ins C dx xs) → RepA F xs ds → Rep F (.ref a) (.ob c ds)
inductive Reps (F : Hp) : List V → List D → Prop
  | nil : Reps F [] []
  | cons {v : V} {d : D} {vs : List V} {ds : List D} : Rep F v d → Reps F vs ds → Reps F (v :: vs) (d :: ds)
inductive RepA (F : Hp) : {κ : Type} → List (κ × V) → List (κ × D) → Prop
  | nil {κ : Type} : RepA F (κ := κ) [] []
  | cons {κ : Type} {k : κ} {v : V} {d : D} {vs : List (κ × V)} {ds : List (κ × D)} : Rep F v d → RepA F vs ds → RepA F ((k, v) :: vs) ((k, d) :: ds)
end
mutual
inductive MRep (F H : Hp) : Sh → V → D → List Addr → Prop
  | fz {v : V} {d : D} : Rep K ct F v d → MRep F H .fz v d []
  | ml {s : Sh} {a : Addr} {xs : List V} {ds : List D} {fp : List Addr} : H a = some (.lst xs) → F a = none → MReps F H s xs ds fp → MRep F H (.ml s) (.ref a) (.lst ds) (a :: fp)
  | mK {s : Sh} {a : Addr} {xs : List (Key × V)} {ds : List (Key × D)} {fp : List Addr} : H a = some (.dK xs) → F a = none → MRepA F H (fun _ => s) xs ds fp → MRep F H (.mK s) (.ref a) (.dK ds) (a :: fp)
  | mT {s : Sh} {a : Addr} {xs : List (List Key × V)} {ds : List (List Key × D)} {fp : List Addr} : H a = some (.dT xs) → F a = none → MRepA F H (fun _ => s) xs ds fp → MRep F H (.mT s) (.ref a) (.dT ds) (a :: fp)
  | mo {c : String} {ss : List (Str × Sh)} {C a dx : Addr} {xs : List (Str × V)} {ds : List (Str × D)} {fp : List Addr} : ct c = some C → H a = some (.ins C dx xs) → F a = none → MRepA F H (shOf ss) xs ds fp → MRep F H (.mo c ss) (.ref a) (.ob c ds) (a :: fp)
inductive MReps (F H : Hp) : Sh → List V → List D → List Addr → Prop
  | nil {s : Sh} : MReps F H s [] [] []
  | cons {s : Sh} {v : V} {d : D} {vs : List V} {ds : List D} {p q : List Addr} : MRep F H s v d p → MReps F H s vs ds q → MReps F H s (v :: vs) (d :: ds) (p ++ q)
inductive MRepA (F H : Hp) : {κ : Type} → (κ → Sh) → List (κ × V) → List (κ × D) → List Addr → Prop
  | nil {κ : Type} {g : κ → Sh} : MRepA F H g [] [] []
  | cons {κ : Type} {g : κ → Sh} {k : κ} {v : V} {d : D} {vs : List (κ × V)} {ds : List (κ × D)} {p q : List Addr} : MRep F H (g k) v d p → MRepA F H g vs ds q → MRepA F H g ((k, v) :: vs) ((k, d) :: ds) (p ++ q)
end
end
theorem sqT_mono {K : PySem.W.Frag} {F F' : Hp} {a : Addr} {xs : List V} (e : Same F F') (h : SqT K F a xs) : SqT K F' a xs := by
  rcases h with (h | ⟨o, h⟩) | h
  · exact .inl (.inl (e _ _ h))
  · exact .inl (.inr ⟨o, e _ _ h⟩)
  · exact .inr h
section
variable {K : PySem.W.Frag} {ct : String → Option Addr}
mutual
theorem Rep.mono {F F' : Hp} (e : Same F F') : ∀ {v : V} {d : D}, Rep K ct F v d → Rep K ct F' v d
  | _, _, .non => .non
  | _, _, .bl b => .bl b
  | _, _, .int b => .int b
  | _, _, .str b => .str b
  | _, _, .lst h r => .lst (e _ _ h) (Reps.mono e r)
  | _, _, .tup h r => .tup (sqT_mono e h) (Reps.mono e r)
  | _, _, .scr h => .scr (e.seq h)
  | _, _, .dK h r => .dK (e _ _ h) (RepA.mono e r)
  | _, _, .dT h r => .dT (e _ _ h) (RepA.mono e r)
  | _, _, .ob c h r => .ob c (e _ _ h) (RepA.mono e r)
theorem Reps.mono {F F' : Hp} (e : Same F F') : ∀ {v : List V} {d : List D}, Reps K ct F v d → Reps K ct F' v d
  | _, _, .nil => .nil
  | _, _, .cons h r => .cons (Rep.mono e h) (Reps.mono e r)
theorem RepA.mono {F F' : Hp} (e : Same F F') : ∀ {κ : Type} {v : List (κ × V)} {d : List (κ × D)}, RepA K ct F v d → RepA K ct F' v d
  | _, _, _, .nil => .nil
  | _, _, _, .cons h r => .cons (Rep.mono e h) (RepA.mono e r)
end
/- owned things become frozen -/
mutual
theorem MRep.froze {F H F' : Hp} (e : Same F F') : ∀ {s : Sh} {v : V} {d : D} {fp : List Addr}, MRep K ct F H s v d fp → (∀ b ∈ fp, F' b = H b) → Rep K ct F' v d
  | _, _, _, _, .fz h, _ => Rep.mono e h
  | _, _, _, _, .ml h _ r, g => .lst ((g _ List.mem_cons_self).trans h) (MReps.froze e r fun b hb => g b (List.mem_cons_of_mem _ hb))
  | _, _, _, _, .mK h _ r, g => .dK ((g _ List.mem_cons_self).trans h) (MRepA.froze e r fun b hb => g b (List.mem_cons_of_mem _ hb))
  | _, _, _, _, .mT h _ r, g => .dT ((g _ List.mem_cons_self).trans h) (MRepA.froze e r fun b hb => g b (List.mem_cons_of_mem _ hb))
  | _, _, _, _, .mo c h _ r, g => .ob c ((g _ List.mem_cons_self).trans h) (MRepA.froze e r fun b hb => g b (List.mem_cons_of_mem _ hb))
theorem MReps.froze {F H F' : Hp} (e : Same F F') : ∀ {s : Sh} {v : List V} {d : List D} {fp : List Addr}, MReps K ct F H s v d fp → (∀ b ∈ fp, F' b = H b) → Reps K ct F' v d
  | _, _, _, _, .nil, _ => .nil
  | _, _, _, _, .cons h r, g => .cons (MRep.froze e h fun b hb => g b (List.mem_append_left _ hb)) (MReps.froze e r fun b hb => g b (List.mem_append_right _ hb))
theorem MRepA.froze {F H F' : Hp} (e : Same F F') : ∀ {κ : Type} {s : κ → Sh} {v : List (κ × V)} {d : List (κ × D)} {fp : List Addr}, MRepA K ct F H s v d fp → (∀ b ∈ fp, F' b = H b) → RepA K ct F' v d
  | _, _, _, _, _, .nil, _ => .nil
  | _, _, _, _, _, .cons h r, g => .cons (MRep.froze e h fun b hb => g b (List.mem_append_left _ hb)) (MRepA.froze e r fun b hb => g b (List.mem_append_right _ hb))
end
/- owned things that nobody touched -/
mutual
theorem MRep.frame {F H F' H' : Hp} (e : Same F F') : ∀ {s : Sh} {v : V} {d : D} {fp : List Addr}, MRep K ct F H s v d fp → (∀ b ∈ fp, H' b = H b ∧ F' b = none) → MRep K ct F' H' s v d fp
  | _, _, _, _, .fz h, _ => .fz (Rep.mono e h)
  | _, _, _, _, .ml h _ r, g => .ml ((g _ List.mem_cons_self).1.trans h) (g _ List.mem_cons_self).2 (MReps.frame e r fun b hb => g b (List.mem_cons_of_mem _ hb))
  | _, _, _, _, .mK h _ r, g => .mK ((g _ List.mem_cons_self).1.trans h) (g _ List.mem_cons_self).2 (MRepA.frame e r fun b hb => g b (List.mem_cons_of_mem _ hb))
  | _, _, _, _, .mT h _ r, g => .mT ((g _ List.mem_cons_self).1.trans h) (g _ List.mem_cons_self).2 (MRepA.frame e r fun b hb => g b (List.mem_cons_of_mem _ hb))
  | _, _, _, _, .mo c h _ r, g => .mo c ((g _ List.mem_cons_self).1.trans h) (g _ List.mem_cons_self).2 (MRepA.frame e r fun b hb => g b (List.mem_cons_of_mem _ hb))
theorem MReps.frame {F H F' H' : Hp} (e : Same F F') : ∀ {s : Sh} {v : List V} {d : List D} {fp : List Addr}, MReps K ct F H s v d fp → (∀ b ∈ fp, H' b = H b ∧ F' b = none) → MReps K ct F' H' s v d fp
  | _, _, _, _, .nil, _ => .nil
  | _, _, _, _, .cons h r, g => .cons (MRep.frame e h fun b hb => g b (List.mem_append_left _ hb)) (MReps.frame e r fun b hb => g b (List.mem_append_right _ hb))
theorem MRepA.frame {F H F' H' : Hp} (e : Same F F') : ∀ {κ : Type} {s : κ → Sh} {v : List (κ × V)} {d : List (κ × D)} {fp : List Addr}, MRepA K ct F H s v d fp → (∀ b ∈ fp, H' b = H b ∧ F' b = none) → MRepA K ct F' H' s v d fp
  | _, _, _, _, _, .nil, _ => .nil
  | _, _, _, _, _, .cons h r, g => .cons (MRep.frame e h fun b hb => g b (List.mem_append_left _ hb)) (MRepA.frame e r fun b hb => g b (List.mem_append_right _ hb))
end
/- owned things stand in the heap, not in the frozen part -/
mutual
theorem MRep.there {F H : Hp} : ∀ {s : Sh} {v : V} {d : D} {fp : List Addr}, MRep K ct F H s v d fp → ∀ b ∈ fp, H b ≠ none ∧ F b = none
  | _, _, _, _, .fz _, _, hb => absurd hb (by simp)
  | _, _, _, _, .ml h f r, b, hb => (List.mem_cons.mp hb).elim (fun e => by subst e; exact ⟨by rw [h]; simp, f⟩) fun hb => MReps.there r b hb
  | _, _, _, _, .mK h f r, b, hb => (List.mem_cons.mp hb).elim (fun e => by subst e; exact ⟨by rw [h]; simp, f⟩) fun hb => MRepA.there r b hb
  | _, _, _, _, .mT h f r, b, hb => (List.mem_cons.mp hb).elim (fun e => by subst e; exact ⟨by rw [h]; simp, f⟩) fun hb => MRepA.there r b hb
  | _, _, _, _, .mo c h f r, b, hb => (List.mem_cons.mp hb).elim (fun e => by subst e; exact ⟨by rw [h]; simp, f⟩) fun hb => MRepA.there r b hb
theorem MReps.there {F H : Hp} : ∀ {s : Sh} {v : List V} {d : List D} {fp : List Addr}, MReps K ct F H s v d fp → ∀ b ∈ fp, H b ≠ none ∧ F b = none
  | _, _, _, _, .nil, _, hb => absurd hb (by simp)
  | _, _, _, _, .cons h r, b, hb => (List.mem_append.mp hb).elim (fun hb => MRep.there h b hb) fun hb => MReps.there r b hb
theorem MRepA.there {F H : Hp} : ∀ {κ : Type} {s : κ → Sh} {v : List (κ × V)} {d : List (κ × D)} {fp : List Addr}, MRepA K ct F H s v d fp → ∀ b ∈ fp, H b ≠ none ∧ F b = none
  | _, _, _, _, _, .nil, _, hb => absurd hb (by simp)
  | _, _, _, _, _, .cons h r, b, hb => (List.mem_append.mp hb).elim (fun hb => MRep.there h b hb) fun hb => MRepA.there r b hb
end
end
end DL
namespace DL
open PySem Spec PyProof.Rows L2
/-! ## steps of the state -/
structure Tr (F : Hp) (fp : List Addr) (H : Hp) (F' : Hp) (fp' : List Addr) (H' : Hp) : Prop where
  keep : ∀ b o, H b = some o → b ∉ fp → H' b = some o
  dom : ∀ b, H b ≠ none → H' b ≠ none
  grow : Same F F'
  fnew : ∀ b, F' b ≠ none → F b = none → H b = none ∨ b ∈ fp
  pnew : ∀ b ∈ fp', b ∈ fp ∨ H b = none
theorem Tr.refl {F : Hp} {fp : List Addr} {H : Hp} : Tr F fp H F fp H :=
  ⟨fun _ _ h _ => h, fun _ h => h, Same.refl F, fun _ h e => absurd e h, fun _ h => .inl h⟩
theorem Tr.trans {F F1 F2 H H1 H2 : Hp} {fp fp1 fp2 : List Addr} (a : Tr F fp H F1 fp1 H1) (b : Tr F1 fp1 H1 F2 fp2 H2) : Tr F fp H F2 fp2 H2 where
  keep := fun c o h n => b.keep c o (a.keep c o h n) fun hc => by
    rcases a.pnew c hc with z | z
    · exact n z
    · rw [h] at z; cases z
  dom := fun c h => b.dom c (a.dom c h)
  grow := a.grow.trans b.grow
  fnew := fun c h e => by
    by_cases q : F1 c = none
    · rcases b.fnew c h q with z | z
      · left
        by_cases y : H c = none
        · exact y
        · exact absurd z (a.dom c y)
      · exact (a.pnew c z).symm
    · exact a.fnew c q e
  pnew := fun c hc => by
    rcases b.pnew c hc with z | z
    · exact a.pnew c z
    · right
      by_cases y : H c = none
      · exact y
      · exact absurd z (a.dom c y)
/-- fewer owned things -/
theorem Tr.less {F H F1 H1 : Hp} {fp fp1 fp2 : List Addr} (a : Tr F fp H F1 fp1 H1) (h : ∀ b ∈ fp2, b ∈ fp1) : Tr F fp H F1 fp2 H1 :=
  ⟨a.keep, a.dom, a.grow, a.fnew, fun b hb => a.pnew b (h b hb)⟩
/-- owned things of others, beside -/
theorem Tr.beside {F H F1 H1 : Hp} {fp fp1 q : List Addr} (a : Tr F fp H F1 fp1 H1) : Tr F (fp ++ q) H F1 (fp1 ++ q) H1 :=
  ⟨fun b o h n => a.keep b o h fun z => n (List.mem_append_left _ z), a.dom, a.grow, fun b h e => (a.fnew b h e).imp id fun z => List.mem_append_left _ z,
   fun b hb => (List.mem_append.mp hb).elim (fun z => (a.pnew b z).imp (fun z => List.mem_append_left _ z) id) fun z => .inl (List.mem_append_right _ z)⟩
theorem same_new {H : Hp} {p : Addr} {o : HO} (h : H p = none) : Same H (upd H p o) := fun b x e => by
  rw [upd_ne (ne_of_none e h)]; exact e
theorem same_upd2 {F H : Hp} {p : Addr} {o : HO} (e : Same F H) (h : H p = none) : Same (upd F p o) (upd H p o) := fun b x q => by
  by_cases hb : b = p
  · subst hb; rw [upd_same] at q ⊢; exact q
  · rw [upd_ne hb] at q ⊢; exact e b x q
theorem free_of {F H : Hp} {p : Addr} (e : Same F H) (h : H p = none) : F p = none := e.free h
/-- a new thing, owned -/
theorem Tr.newO {F H : Hp} {fp : List Addr} {p : Addr} {o : HO} (h : H p = none) : Tr F fp H F (fp ++ [p]) (upd H p o) where
  keep := fun b x e n => same_new h b x e
  dom := fun b e => by
    by_cases hb : b = p
    · subst hb; rw [upd_same]; simp
    · rw [upd_ne hb]; exact e
  grow := Same.refl F
  fnew := fun _ a e => absurd e a
  pnew := fun b hb => (List.mem_append.mp hb).elim .inl fun z => .inr (by rw [List.mem_singleton.mp z]; exact h)
/-- a new thing, frozen at once -/
theorem Tr.newF {F H : Hp} {fp : List Addr} {p : Addr} {o : HO} (e : Same F H) (h : H p = none) : Tr F fp H (upd F p o) fp (upd H p o) where
  keep := fun b x e n => same_new h b x e
  dom := fun b e => by
    by_cases hb : b = p
    · subst hb; rw [upd_same]; simp
    · rw [upd_ne hb]; exact e
  grow := same_new (e.free h)
  fnew := fun b a q => by
    by_cases hb : b = p
    · subst hb; exact .inl h
    · rw [upd_ne hb] at a; exact absurd q a
  pnew := fun _ hb => .inl hb
/-- a new thing that is forgotten -/
theorem Tr.newX {F H : Hp} {fp : List Addr} {p : Addr} {o : HO} (h : H p = none) : Tr F fp H F fp (upd H p o) := (Tr.newO h).less fun b hb => List.mem_append_left _ hb
/-- an owned thing is changed -/
theorem Tr.put {F H : Hp} {fp : List Addr} {p : Addr} {o : HO} (h : p ∈ fp) : Tr F fp H F fp (upd H p o) where
  keep := fun b x e n => by
    have hb : b ≠ p := fun z => n (by rw [z]; exact h)
    rw [upd_ne hb]; exact e
  dom := fun b e => by
    by_cases hb : b = p
    · subst hb; rw [upd_same]; simp
    · rw [upd_ne hb]; exact e
  grow := Same.refl F
  fnew := fun _ a e => absurd e a
  pnew := fun b hb => .inl hb
/-- some owned things are frozen -/
def frzH (F H : Hp) (q : List Addr) : Hp := fun b => if b ∈ q then H b else F b
theorem frzH_in {F H : Hp} {q : List Addr} {b : Addr} (h : b ∈ q) : frzH F H q b = H b := by unfold frzH; rw [if_pos h]
theorem frzH_out {F H : Hp} {q : List Addr} {b : Addr} (h : b ∉ q) : frzH F H q b = F b := by unfold frzH; rw [if_neg h]
theorem frzH_grow {F H : Hp} {q : List Addr} (e : Same F H) : Same F (frzH F H q) := fun b o h => by
  by_cases hb : b ∈ q
  · rw [frzH_in hb]; exact e b o h
  · rw [frzH_out hb]; exact h
theorem frzH_sub {F H : Hp} {q : List Addr} (e : Same F H) : Same (frzH F H q) H := fun b o h => by
  by_cases hb : b ∈ q
  · rw [frzH_in hb] at h; exact h
  · rw [frzH_out hb] at h; exact e b o h
theorem Tr.freeze {F H : Hp} {fp q fp' : List Addr} (e : Same F H) (hq : ∀ b ∈ q, b ∈ fp) (h' : ∀ b ∈ fp', b ∈ fp) : Tr F fp H (frzH F H q) fp' H where
  keep := fun _ _ h _ => h
  dom := fun _ h => h
  grow := frzH_grow e
  fnew := fun b a n => by
    by_cases hb : b ∈ q
    · exact .inr (hq b hb)
    · rw [frzH_out hb] at a; exact absurd n a
  pnew := fun b hb => .inl (h' b hb)
/-! ## the slots -/
section
variable (K : PySem.W.Frag) (ct : String → Option Addr)
inductive SlotR (F H : Hp) : Sh → Option V → Option D → List Addr → Prop
  | no {s : Sh} {v : Option V} : SlotR F H s v none []
  | yes {s : Sh} {v : V} {d : D} {fp : List Addr} : MRep K ct F H s v d fp → SlotR F H s (some v) (some d) fp
inductive SlotsR (F H : Hp) : List Sh → L2.St → Ro → List Addr → Prop
  | nil : SlotsR F H [] [] [] []
  | cons {s : Sh} {v : Option V} {d : Option D} {ss : List Sh} {vs : L2.St} {ds : Ro} {p q : List Addr} : SlotR K ct F H s v d p → SlotsR F H ss vs ds q → SlotsR F H (s :: ss) (v :: vs) (d :: ds) (p ++ q)
end
section
variable {K : PySem.W.Frag} {ct : String → Option Addr}
theorem SlotR.frame {F H F' H' : Hp} (e : Same F F') {s : Sh} {v : Option V} {d : Option D} {fp : List Addr} (h : SlotR K ct F H s v d fp) (g : ∀ b ∈ fp, H' b = H b ∧ F' b = none) : SlotR K ct F' H' s v d fp := by
  cases h with
  | no => exact .no
  | yes m => exact .yes (m.frame e g)
theorem SlotR.there {F H : Hp} {s : Sh} {v : Option V} {d : Option D} {fp : List Addr} (h : SlotR K ct F H s v d fp) : ∀ b ∈ fp, H b ≠ none ∧ F b = none := by
  cases h with
  | no => intro b hb; exact absurd hb (by simp)
  | yes m => exact m.there
theorem SlotsR.frame {F H F' H' : Hp} (e : Same F F') : ∀ {s : List Sh} {v : L2.St} {d : Ro} {fp : List Addr}, SlotsR K ct F H s v d fp → (∀ b ∈ fp, H' b = H b ∧ F' b = none) → SlotsR K ct F' H' s v d fp
  | _, _, _, _, .nil, _ => .nil
  | _, _, _, _, .cons h r, g => .cons (h.frame e fun b hb => g b (List.mem_append_left _ hb)) (SlotsR.frame e r fun b hb => g b (List.mem_append_right _ hb))
theorem SlotsR.there {F H : Hp} : ∀ {s : List Sh} {v : L2.St} {d : Ro} {fp : List Addr}, SlotsR K ct F H s v d fp → ∀ b ∈ fp, H b ≠ none ∧ F b = none
  | _, _, _, _, .nil, _, hb => absurd hb (by simp)
  | _, _, _, _, .cons h r, b, hb => (List.mem_append.mp hb).elim (fun hb => h.there b hb) fun hb => SlotsR.there r b hb
theorem SlotsR.lens {F H : Hp} : ∀ {s : List Sh} {v : L2.St} {d : Ro} {fp : List Addr}, SlotsR K ct F H s v d fp → s.length = d.length ∧ v.length = d.length
  | _, _, _, _, .nil => ⟨rfl, rfl⟩
  | _, _, _, _, .cons h r => by
    have := SlotsR.lens r
    simp only [List.length_cons]
    omega
/-- one slot, and the others around it -/
theorem SlotsR.at {F H : Hp} : ∀ {s : List Sh} {v : L2.St} {d : Ro} {fp : List Addr}, SlotsR K ct F H s v d fp → ∀ {i : Nat} {x : Option D}, d[i]? = some x →
    ∃ (t : Sh) (u : Option V) (l p r : List Addr), s[i]? = some t ∧ v[i]? = some u ∧ fp = l ++ (p ++ r) ∧ SlotR K ct F H t u x p ∧
      ∀ {F' H' : Hp} {t' : Sh} {u' : Option V} {x' : Option D} {p' : List Addr}, Same F F' → (∀ b, b ∈ l ∨ b ∈ r → H' b = H b ∧ F' b = none) → SlotR K ct F' H' t' u' x' p' → SlotsR K ct F' H' (s.set i t') (v.set i u') (d.set i x') (l ++ (p' ++ r))
  | _, _, _, _, .nil, i, x, h => by simp at h
  | _, _, _, _, .cons (p := p) (q := q) h r, 0, x, e => by
    simp at e; subst e
    refine ⟨_, _, [], p, q, rfl, rfl, rfl, h, fun e g h' => ?_⟩
    show SlotsR K ct _ _ (_ :: _) (_ :: _) (_ :: _) (_ ++ q)
    exact .cons h' (SlotsR.frame e r fun b hb => g b (.inr hb))
  | _, _, _, _, .cons (p := p) (q := q) h r, i + 1, x, e => by
    obtain ⟨t, u, l, m, n, h1, h2, h3, h4, h5⟩ := SlotsR.at r (i := i) (x := x) (by simpa using e)
    refine ⟨t, u, p ++ l, m, n, by simpa using h1, by simpa using h2, by rw [h3, List.append_assoc], h4, fun {F' H' t' u' x' p'} e g h' => ?_⟩
    rw [List.append_assoc]
    exact .cons (h.frame e fun b hb => g b (.inl (List.mem_append_left _ hb))) (h5 e (fun b hb => g b (hb.imp (fun z => List.mem_append_right _ z) id)) h')
end
/-- what is static of a def: the parameters that it changes -/
structure SR (K : PySem.W.Frag) (ct : String → Option Addr) (Γ : List Sh) (pm : List Bool) (pv : List V) (ρ : Ro) (F : Hp) (fp : List Addr) (σ : L2.St) (H : Hp) : Prop where
  sub : Same F H
  slots : SlotsR K ct F H Γ σ ρ fp
  nd : fp.Nodup
  pins : ∀ (i : Nat) (v : V), pm[i]? = some true → pv[i]? = some v → σ[i]? = some (some v)
section
variable {K : PySem.W.Frag} {ct : String → Option Addr} {Γ : List Sh} {pm : List Bool} {pv : List V} {ρ : Ro} {F F' : Hp} {fp fp' : List Addr} {σ : L2.St} {H H' : Hp}
theorem SR.there (h : SR K ct Γ pm pv ρ F fp σ H) : ∀ b ∈ fp, H b ≠ none ∧ F b = none := h.slots.there
/-- the owned things of the slots where others have worked -/
theorem Tr.quiet {q q' : List Addr} (t : Tr F q H F' q' H') (ht : ∀ b ∈ fp, H b ≠ none ∧ F b = none) (hd : ∀ b ∈ fp, b ∉ q) : ∀ b ∈ fp, H' b = H b ∧ F' b = none := fun b hb => by
  obtain ⟨h1, h2⟩ := ht b hb
  cases e : H b with
  | none => exact absurd e h1
  | some o =>
    refine ⟨t.keep b o e (hd b hb), ?_⟩
    by_cases z : F' b = none
    · exact z
    · rcases t.fnew b z h2 with y | y
      · exact absurd y h1
      · exact absurd y (hd b hb)
/-- nothing of the slots changed: a new thing owned by nobody, or by a temporary -/
theorem SR.calm (h : SR K ct Γ pm pv ρ F fp σ H) (hs : Same H H') : SR K ct Γ pm pv ρ F fp σ H' :=
  ⟨h.sub.trans hs, h.slots.frame (Same.refl F) fun b hb => by
    obtain ⟨h1, h2⟩ := h.there b hb
    cases e : H b with
    | none => exact absurd e h1
    | some o => exact ⟨hs b o e, h2⟩, h.nd, h.pins⟩
theorem SR.calmF (h : SR K ct Γ pm pv ρ F fp σ H) {p : Addr} {o : HO} (hp : H p = none) : SR K ct Γ pm pv ρ (upd F p o) fp σ (upd H p o) :=
  ⟨same_upd2 h.sub hp, h.slots.frame (same_new (h.sub.free hp)) fun b hb => by
    obtain ⟨h1, h2⟩ := h.there b hb
    have hb : b ≠ p := fun e => by subst e; exact h1 hp
    exact ⟨upd_ne hb, by rw [upd_ne hb]; exact h2⟩, h.nd, h.pins⟩
end
end DL
namespace DL
open PySem Spec PyProof.Rows L2
/-! ## new things alone -/
structure Grow (F H F' H' : Hp) : Prop where
  hh : Same H H'
  ff : Same F F'
  fh : Same F' H'
  fnew : ∀ b, F' b ≠ none → F b = none → H b = none
theorem Grow.refl {F H : Hp} (e : Same F H) : Grow F H F H := ⟨Same.refl H, Same.refl F, e, fun _ h q => absurd q h⟩
theorem Grow.newX {F H : Hp} {p : Addr} {o : HO} (e : Same F H) (h : H p = none) : Grow F H F (upd H p o) := ⟨same_new h, Same.refl F, e.trans (same_new h), fun _ a q => absurd q a⟩
theorem Grow.newF {F H : Hp} {p : Addr} {o : HO} (e : Same F H) (h : H p = none) : Grow F H (upd F p o) (upd H p o) :=
  ⟨same_new h, same_new (e.free h), same_upd2 e h, fun b a q => by
    by_cases hb : b = p
    · subst hb; exact h
    · rw [upd_ne hb] at a; exact absurd q a⟩
theorem same_dom {H H' : Hp} (e : Same H H') (b : Addr) (h : H b ≠ none) : H' b ≠ none := by
  cases q : H b with
  | none => exact absurd q h
  | some o => rw [e b o q]; simp
theorem Grow.trans {F H F1 H1 F2 H2 : Hp} (a : Grow F H F1 H1) (b : Grow F1 H1 F2 H2) : Grow F H F2 H2 :=
  ⟨a.hh.trans b.hh, a.ff.trans b.ff, b.fh, fun c h q => by
    by_cases z : F1 c = none
    · have := b.fnew c h z
      by_cases y : H c = none
      · exact y
      · exact absurd this (same_dom a.hh c y)
    · exact a.fnew c z q⟩
theorem Grow.tr {F H F' H' : Hp} {fp fv : List Addr} (g : Grow F H F' H') (hv : ∀ b ∈ fv, H b = none) : Tr F fp H F' (fp ++ fv) H' :=
  ⟨fun b o h _ => g.hh b o h, fun b h => same_dom g.hh b h, g.ff, fun b h q => .inl (g.fnew b h q), fun b hb => (List.mem_append.mp hb).elim .inl fun z => .inr (hv b z)⟩
theorem Grow.sr {K : PySem.W.Frag} {ct : String → Option Addr} {Γ : List Sh} {pm : List Bool} {pv : List V} {ρ : Ro} {F F' : Hp} {fp : List Addr} {σ : L2.St} {H H' : Hp} (g : Grow F H F' H') (h : SR K ct Γ pm pv ρ F fp σ H) : SR K ct Γ pm pv ρ F' fp σ H' :=
  ⟨g.fh, h.slots.frame g.ff fun b hb => by
    obtain ⟨h1, h2⟩ := h.there b hb
    refine ⟨?_, ?_⟩
    · cases e : H b with
      | none => exact absurd e h1
      | some o => exact g.hh b o e
    · by_cases z : F' b = none
      · exact z
      · exact absurd (g.fnew b z h2) h1, h.nd, h.pins⟩
/-! ## the judgements -/
def XRep (K : PySem.W.Frag) (ct : String → Option Addr) (F : Hp) (x : Exc) (cls : Value) (da : Option Addr) : Prop :=
  ∃ C, ct x.cls = some C ∧ cls = .ref C ∧ ((x.fs = [] ∧ da = none) ∨ ∃ a vs, da = some a ∧ F a = some (.xd vs) ∧ RepA K ct F vs x.fs)
theorem XRep.mono {K : PySem.W.Frag} {ct : String → Option Addr} {F F' : Hp} (e : Same F F') {x : Exc} {cls : Value} {da : Option Addr} (h : XRep K ct F x cls da) : XRep K ct F' x cls da := by
  obtain ⟨C, h1, h2, h3⟩ := h
  refine ⟨C, h1, h2, h3.imp id ?_⟩
  rintro ⟨a, vs, q1, q2, q3⟩
  exact ⟨a, vs, q1, e _ _ q2, q3.mono e⟩
def EO.bnd : EO → (D → Ro → EO) → EO
  | .ok d ρ, k => k d ρ
  | .exc x ρ, _ => .exc x ρ
  | .stk, _ => .stk
structure PC' where
  K : PySem.W.Frag
  ct : String → Option Addr
  Γ : List Sh
  pm : List Bool
  pv : List V
abbrev PC'.SR (c : PC') (ρ : Ro) (F : Hp) (fp : List Addr) (σ : L2.St) (H : Hp) : Prop := DL.SR c.K c.ct c.Γ c.pm c.pv ρ F fp σ H
def Pu (pu : Bool) (ρ : Ro) (fp : List Addr) (H : Hp) (ρ' : Ro) (fp' : List Addr) (H' : Hp) : Prop := pu = true → Same H H' ∧ fp' = fp ∧ ρ' = ρ
theorem Pu.refl {pu : Bool} {ρ : Ro} {fp : List Addr} {H : Hp} : Pu pu ρ fp H ρ fp H := fun _ => ⟨Same.refl H, rfl, rfl⟩
theorem Pu.trans {p1 p2 : Bool} {ρ ρ1 ρ2 : Ro} {fp fp1 fp2 : List Addr} {H H1 H2 : Hp} (a : Pu p1 ρ fp H ρ1 fp1 H1) (b : Pu p2 ρ1 fp1 H1 ρ2 fp2 H2) : Pu (p1 && p2) ρ fp H ρ2 fp2 H2 := fun e => by
  rw [Bool.and_eq_true] at e
  obtain ⟨a1, a2, a3⟩ := a e.1
  obtain ⟨b1, b2, b3⟩ := b e.2
  exact ⟨a1.trans b1, b2.trans a2, b3.trans a3⟩
theorem Pu.grow {pu : Bool} {ρ : Ro} {fp : List Addr} {F H F' H' : Hp} (g : Grow F H F' H') : Pu pu ρ fp H ρ fp H' := fun _ => ⟨g.hh, rfl, rfl⟩
/-- what is wanted of an expression's outcome -/
def EPost (c : PC') (pu : Bool) (s : Sh) (ρ : Ro) (F : Hp) (fp : List Addr) (H : Hp) (σ : L2.St) (W : WX) (Q : VK) : EO → Prop
  | .ok d ρ' => ∀ v F' fp' fv H', c.SR ρ' F' fp' σ H' → Tr F fp H F' (fp' ++ fv) H' → MRep c.K c.ct F' H' s v d fv → (fp' ++ fv).Nodup → Pu pu ρ fp H ρ' fp' H' → Q v H'
  | .exc x ρ' => ∀ cls da F' fp' H', c.SR ρ' F' fp' σ H' → Tr F fp H F' fp' H' → XRep c.K c.ct F' x cls da → W cls da σ H'
  | .stk => False
/-- a test's -/
def TPost (c : PC') (pu : Bool) (ρ : Ro) (F : Hp) (fp : List Addr) (H : Hp) (σ : L2.St) (W : WX) (Q : Bool → Hp → Prop) : EO → Prop
  | .ok (.bl b) ρ' => ∀ F' fp' H', c.SR ρ' F' fp' σ H' → Tr F fp H F' fp' H' → Pu pu ρ fp H ρ' fp' H' → Q b H'
  | .exc x ρ' => ∀ cls da F' fp' H', c.SR ρ' F' fp' σ H' → Tr F fp H F' fp' H' → XRep c.K c.ct F' x cls da → W cls da σ H'
  | _ => False
inductive AO where
  | ok (ds : List D) (ρ : Ro) | exc (x : Exc) (ρ : Ro) | stk
def AO.bnd : AO → (List D → Ro → EO) → EO
  | .ok d ρ, k => k d ρ
  | .exc x ρ, _ => .exc x ρ
  | .stk, _ => .stk
def APost (c : PC') (pu : Bool) (ρ : Ro) (F : Hp) (fp : List Addr) (H : Hp) (σ : L2.St) (W : WX) (Q : List V → Hp → Prop) : AO → Prop
  | .ok ds ρ' => ∀ vs F' fp' H', c.SR ρ' F' fp' σ H' → Tr F fp H F' fp' H' → Reps c.K c.ct F' vs ds → Pu pu ρ fp H ρ' fp' H' → Q vs H'
  | .exc x ρ' => ∀ cls da F' fp' H', c.SR ρ' F' fp' σ H' → Tr F fp H F' fp' H' → XRep c.K c.ct F' x cls da → W cls da σ H'
  | .stk => False
section
variable {c : PC'} {pu pu1 pu2 : Bool} {s : Sh} {ρ ρ1 : Ro} {F F1 H H1 : Hp} {fp fp1 : List Addr} {σ : L2.St} {W : WX} {Q : VK}
theorem EPost.weaken {o : EO} (h : EPost c (pu1 && pu2) s ρ F fp H σ W Q o) (t : Tr F fp H F1 fp1 H1) (p : Pu pu1 ρ fp H ρ1 fp1 H1) : EPost c pu2 s ρ1 F1 fp1 H1 σ W Q o := by
  cases o with
  | ok d ρ' => exact fun v F' fp' fv H' sr tr m nd q => h v F' fp' fv H' sr (t.trans tr) m nd (p.trans q)
  | exc x ρ' => exact fun cls da F' fp' H' sr tr x => h cls da F' fp' H' sr (t.trans tr) x
  | stk => exact h
theorem TPost.weaken {Q : Bool → Hp → Prop} {o : EO} (h : TPost c (pu1 && pu2) ρ F fp H σ W Q o) (t : Tr F fp H F1 fp1 H1) (p : Pu pu1 ρ fp H ρ1 fp1 H1) : TPost c pu2 ρ1 F1 fp1 H1 σ W Q o := by
  cases o with
  | ok d ρ' =>
    cases d with
    | bl b => exact fun F' fp' H' sr tr q => h F' fp' H' sr (t.trans tr) (p.trans q)
    | _ => exact h
  | exc x ρ' => exact fun cls da F' fp' H' sr tr x => h cls da F' fp' H' sr (t.trans tr) x
  | stk => exact h
theorem APost.weaken {Q : List V → Hp → Prop} {o : AO} (h : APost c (pu1 && pu2) ρ F fp H σ W Q o) (t : Tr F fp H F1 fp1 H1) (p : Pu pu1 ρ fp H ρ1 fp1 H1) : APost c pu2 ρ1 F1 fp1 H1 σ W Q o := by
  cases o with
  | ok d ρ' => exact fun vs F' fp' H' sr tr m q => h vs F' fp' H' sr (t.trans tr) m (p.trans q)
  | exc x ρ' => exact fun cls da F' fp' H' sr tr x => h cls da F' fp' H' sr (t.trans tr) x
  | stk => exact h
/-- one frozen value, then more -/
theorem EPost.bind {Q1 : VK} {k : D → Ro → EO} {o : EO} (h : EPost c (pu1 && pu2) s ρ F fp H σ W Q (o.bnd k))
    (g : ∀ d ρ1 v F1 fp1 H1, c.SR ρ1 F1 fp1 σ H1 → Tr F fp H F1 fp1 H1 → Rep c.K c.ct F1 v d → EPost c pu2 s ρ1 F1 fp1 H1 σ W Q (k d ρ1) → Q1 v H1) : EPost c pu1 .fz ρ F fp H σ W Q1 o := by
  cases o with
  | ok d ρ' =>
    intro v F' fp' fv H' sr tr m nd q
    cases m with
    | fz m =>
      rw [List.append_nil] at tr
      exact g d ρ' v F' fp' H' sr tr m (EPost.weaken (show EPost c (pu1 && pu2) s ρ F fp H σ W Q (k d ρ') from h) tr q)
  | exc x ρ' => exact h
  | stk => exact h
theorem EPost.bindT {Q1 : VK} {Q : Bool → Hp → Prop} {k : D → Ro → EO} {o : EO} (h : TPost c (pu1 && pu2) ρ F fp H σ W Q (o.bnd k))
    (g : ∀ d ρ1 v F1 fp1 H1, c.SR ρ1 F1 fp1 σ H1 → Tr F fp H F1 fp1 H1 → Rep c.K c.ct F1 v d → TPost c pu2 ρ1 F1 fp1 H1 σ W Q (k d ρ1) → Q1 v H1) : EPost c pu1 .fz ρ F fp H σ W Q1 o := by
  cases o with
  | ok d ρ' =>
    intro v F' fp' fv H' sr tr m nd q
    cases m with
    | fz m =>
      rw [List.append_nil] at tr
      exact g d ρ' v F' fp' H' sr tr m (TPost.weaken (show TPost c (pu1 && pu2) ρ F fp H σ W Q (k d ρ') from h) tr q)
  | exc x ρ' => exact h
  | stk => exact h
/-- a test, then an expression -/
theorem TPost.bind {Q1 : Bool → Hp → Prop} {k : D → Ro → EO} {o : EO} (hk : ∀ d ρ, (∀ b, d ≠ .bl b) → k d ρ = .stk) (h : EPost c (pu1 && pu2) s ρ F fp H σ W Q (o.bnd k))
    (g : ∀ b ρ1 F1 fp1 H1, c.SR ρ1 F1 fp1 σ H1 → Tr F fp H F1 fp1 H1 → EPost c pu2 s ρ1 F1 fp1 H1 σ W Q (k (.bl b) ρ1) → Q1 b H1) : TPost c pu1 ρ F fp H σ W Q1 o := by
  cases o with
  | ok d ρ' =>
    cases d with
    | bl b =>
      intro F' fp' H' sr tr q
      exact g b ρ' F' fp' H' sr tr (EPost.weaken (show EPost c (pu1 && pu2) s ρ F fp H σ W Q (k (.bl b) ρ') from h) tr q)
    | _ =>
      have h : EPost c (pu1 && pu2) s ρ F fp H σ W Q (k _ ρ') := h
      rw [hk _ _ (by intro b z; cases z)] at h
      exact h
  | exc x ρ' => exact h
  | stk => exact h
theorem TPost.bindT {Q1 Q : Bool → Hp → Prop} {k : D → Ro → EO} {o : EO} (hk : ∀ d ρ, (∀ b, d ≠ .bl b) → k d ρ = .stk) (h : TPost c (pu1 && pu2) ρ F fp H σ W Q (o.bnd k))
    (g : ∀ b ρ1 F1 fp1 H1, c.SR ρ1 F1 fp1 σ H1 → Tr F fp H F1 fp1 H1 → TPost c pu2 ρ1 F1 fp1 H1 σ W Q (k (.bl b) ρ1) → Q1 b H1) : TPost c pu1 ρ F fp H σ W Q1 o := by
  cases o with
  | ok d ρ' =>
    cases d with
    | bl b =>
      intro F' fp' H' sr tr q
      exact g b ρ' F' fp' H' sr tr (TPost.weaken (show TPost c (pu1 && pu2) ρ F fp H σ W Q (k (.bl b) ρ') from h) tr q)
    | _ =>
      have h : TPost c (pu1 && pu2) ρ F fp H σ W Q (k _ ρ') := h
      rw [hk _ _ (by intro b z; cases z)] at h
      exact h
  | exc x ρ' => exact h
  | stk => exact h
theorem APost.bind {Q1 : List V → Hp → Prop} {k : List D → Ro → EO} {o : AO} (h : EPost c (pu1 && pu2) s ρ F fp H σ W Q (o.bnd k))
    (g : ∀ ds ρ1 vs F1 fp1 H1, c.SR ρ1 F1 fp1 σ H1 → Tr F fp H F1 fp1 H1 → Reps c.K c.ct F1 vs ds → EPost c pu2 s ρ1 F1 fp1 H1 σ W Q (k ds ρ1) → Q1 vs H1) : APost c pu1 ρ F fp H σ W Q1 o := by
  cases o with
  | ok d ρ' =>
    intro v F' fp' H' sr tr m q
    exact g d ρ' v F' fp' H' sr tr m (EPost.weaken (show EPost c (pu1 && pu2) s ρ F fp H σ W Q (k d ρ') from h) tr q)
  | exc x ρ' => exact h
  | stk => exact h
/-- the end of an expression: new things, a value -/
theorem EPost.fin {d : D} (h : EPost c pu s ρ F fp H σ W Q (.ok d ρ)) (sr : c.SR ρ F fp σ H) {F' H' : Hp} {v : V} {fv : List Addr} (g : Grow F H F' H') (m : MRep c.K c.ct F' H' s v d fv) (hv : ∀ b ∈ fv, H b = none) (nd : fv.Nodup) : Q v H' := by
  refine h v F' fp fv H' (g.sr sr) (g.tr hv) m (List.nodup_append.mpr ⟨sr.nd, nd, fun a ha b hb e => ?_⟩) (Pu.grow g)
  subst e
  exact (sr.there a ha).1 (hv a hb)
end
structure DE (X : Cx) (ct : String → Option Addr) (pm : List Bool) (Γ : List Sh) (e : Expr) (pu : Bool) (s : Sh) (den : Ro → EO) : Prop where
  run : ∀ W, Takes X W → ∃ t, PE X e t ∧ ∀ pv ρ F fp σ H Q, SR X.K ct Γ pm pv ρ F fp σ H → EPost ⟨X.K, ct, Γ, pm, pv⟩ pu s ρ F fp H σ W Q (den ρ) → t σ H Q
structure DT (X : Cx) (ct : String → Option Addr) (pm : List Bool) (Γ : List Sh) (e : Expr) (pu : Bool) (den : Ro → EO) : Prop where
  run : ∀ W, Takes X W → ∃ t, PT X e t ∧ ∀ pv ρ F fp σ H Q, SR X.K ct Γ pm pv ρ F fp σ H → TPost ⟨X.K, ct, Γ, pm, pv⟩ pu ρ F fp H σ W Q (den ρ) → t σ H Q
structure DW (X : Cx) (ct : String → Option Addr) (pm : List Bool) (Γ : List Sh) (e : Expr) (pu : Bool) (den : Ro → EO) : Prop where
  run : ∀ W, Takes X W → ∃ t, PW X e t ∧ ∀ pv ρ F fp σ H Q, SR X.K ct Γ pm pv ρ F fp σ H → TPost ⟨X.K, ct, Γ, pm, pv⟩ pu ρ F fp H σ W Q (den ρ) → t σ H Q
structure DA (X : Cx) (ct : String → Option Addr) (pm : List Bool) (Γ : List Sh) (es : List Expr) (pu : Bool) (den : Ro → AO) : Prop where
  run : ∀ W, Takes X W → ∃ t, PA X es t ∧ ∀ pv ρ F fp σ H Q, SR X.K ct Γ pm pv ρ F fp σ H → APost ⟨X.K, ct, Γ, pm, pv⟩ pu ρ F fp H σ W Q (den ρ) → t σ H Q
end DL
namespace DL
open PySem Spec PyProof.Rows L2
section
variable {X : Cx} {ct : String → Option Addr} {pm : List Bool} {Γ : List Sh} {pu pu1 pu2 : Bool} {s : Sh} {pos : Pos} {a b e : Expr}
def EO.of : Option D → Ro → EO
  | some d, ρ => .ok d ρ
  | none, _ => .stk
/-! ### constants and names -/
def eC (d : D) : Ro → EO := fun ρ => .ok d ρ
theorem de_c {v : V} {d : D} (h : PE X e (tC v)) (r : ∀ F, Rep X.K ct F v d) : DE X ct pm Γ e pu .fz (eC d) :=
  ⟨fun W tk => ⟨_, h, fun pv ρ F fp σ H Q sr p => EPost.fin (d := d) p sr (Grow.refl sr.sub) (.fz (r F)) (by simp) .nil⟩⟩
theorem de_int {i j} : DE X ct pm Γ (.Constant (.int i) j pos) pu .fz (eC (.int i)) := de_c pe_int fun _ => .int i
theorem de_bl {i j} : DE X ct pm Γ (.Constant (.bool i) j pos) pu .fz (eC (.bl i)) := de_c pe_bl fun _ => .bl i
theorem de_non {j} : DE X ct pm Γ (.Constant .none j pos) pu .fz (eC .non) := de_c pe_non fun _ => .non
theorem de_str {x j} : DE X ct pm Γ (.Constant (.str x) j pos) pu .fz (eC (.str x)) := de_c pe_str fun _ => .str x
def eV (i : Nat) : Ro → EO := fun ρ => match ρ[i]? with
  | some (some d) => .ok d ρ
  | _ => .stk
theorem SR.get {c : PC'} {ρ : Ro} {F : Hp} {fp : List Addr} {σ : L2.St} {H : Hp} (sr : c.SR ρ F fp σ H) {i : Nat} {d : D} {t : Sh} (h : ρ[i]? = some (some d)) (g : c.Γ[i]? = some t) :
    ∃ v l p r, σ[i]? = some (some v) ∧ fp = l ++ (p ++ r) ∧ MRep c.K c.ct F H t v d p ∧
      ∀ {F' H' : Hp} {t' : Sh} {u' : Option V} {x' : Option D} {p' : List Addr}, Same F F' → (∀ b, b ∈ l ∨ b ∈ r → H' b = H b ∧ F' b = none) → SlotR c.K c.ct F' H' t' u' x' p' → SlotsR c.K c.ct F' H' (c.Γ.set i t') (σ.set i u') (ρ.set i x') (l ++ (p' ++ r)) := by
  obtain ⟨t', u, l, p, r, h1, h2, h3, h4, h5⟩ := sr.slots.at h
  rw [g] at h1
  cases h1
  cases h4 with
  | yes m => exact ⟨_, l, p, r, h2, h3, m, h5⟩
theorem de_var (i : Nat) {x : Str} (hg : Γ[i]? = some .fz := by rfl) (hN : X.N[i]? = some x := by rfl) (hv : Vis X.env.scope x := by first | exact Or.inl rfl | exact Or.inr (Or.inl rfl) | exact Or.inr (Or.inr rfl)) (hd : (x == ("__debug__" : Str)) = false := by decide)
    (hcd : (x == ("__classdict__" : Str)) = false := by decide) : DE X ct pm Γ (.Name x pos) pu .fz (eV i) := by
  refine ⟨fun W tk => ⟨_, pe_var hN hv hd hcd, fun pv ρ F fp σ H Q sr p => ?_⟩⟩
  unfold eV at p
  split at p
  · rename_i d hd
    obtain ⟨v, l, q, r, h1, h2, h3, _⟩ := SR.get (c := ⟨X.K, ct, Γ, pm, pv⟩) sr hd hg
    cases h3 with
    | fz h3 => exact ⟨v, h1, EPost.fin p sr (Grow.refl sr.sub) (.fz h3) (by simp) .nil⟩
  · exact p.elim
/-- a global thing that stands in the written part -/
theorem de_glob {x : Str} {v : V} {u : Value} {d : D} (hg : Gl X x) (hm : X.mg x = some u) (r : RelV v u) (q : ∀ F, Rep X.K ct F v d) (hd : (x == ("__debug__" : Str)) = false := by decide) : DE X ct pm Γ (.Name x pos) pu .fz (eC d) :=
  de_c (pe_glob hg hm r hd) q
/-- purity forgotten -/
theorem DE.imp {den : Ro → EO} (h : DE X ct pm Γ e true s den) : DE X ct pm Γ e pu s den := by
  refine ⟨fun W tk => ?_⟩
  obtain ⟨t, pe, r⟩ := h.run W tk
  refine ⟨t, pe, fun pv ρ F fp σ H Q sr p => r pv ρ F fp σ H Q sr ?_⟩
  cases q : den ρ with
  | ok d ρ' => rw [q] at p; exact fun v F' fp' fv H' sr tr m nd z => p v F' fp' fv H' sr tr m nd fun _ => z rfl
  | exc x ρ' => rw [q] at p; exact p
  | stk => rw [q] at p; exact p
/-- an owned new thing is frozen -/
theorem EPost.unfrz {c : PC'} {ρ : Ro} {F H : Hp} {fp : List Addr} {σ : L2.St} {W : WX} {Q : VK} {o : EO} (p : EPost c pu .fz ρ F fp H σ W Q o) : EPost c pu s ρ F fp H σ W Q o := by
  cases o with
  | ok d ρ' =>
    intro v F' fp' fv H' sr' tr m nd z
    have gr := frzH_grow (q := fv) sr'.sub
    have dj := List.nodup_append.mp nd
    have out : ∀ b ∈ fp', frzH F' H' fv b = none := fun b hb => by
      rw [frzH_out (fun hv => dj.2.2 b hb b hv rfl)]
      exact (sr'.there b hb).2
    refine p v (frzH F' H' fv) fp' [] H' ⟨frzH_sub sr'.sub, sr'.slots.frame gr fun b hb => ⟨rfl, out b hb⟩, sr'.nd, sr'.pins⟩ ?_ (.fz (m.froze gr fun b hb => frzH_in hb)) (by rw [List.append_nil]; exact sr'.nd) z
    rw [List.append_nil]
    exact tr.trans (Tr.freeze sr'.sub (fun b hb => List.mem_append_right _ hb) fun b hb => List.mem_append_left _ hb)
  | exc x ρ' => exact p
  | stk => exact p
theorem DE.frz {den : Ro → EO} (h : DE X ct pm Γ e pu s den) : DE X ct pm Γ e pu .fz den := by
  refine ⟨fun W tk => ?_⟩
  obtain ⟨t, pe, r⟩ := h.run W tk
  exact ⟨t, pe, fun pv ρ F fp σ H Q sr p => r pv ρ F fp σ H Q sr (EPost.unfrz p)⟩
/-! ### operators by values -/
def Op2 (K : PySem.W.Frag) (ct : String → Option Addr) (r : R2) (s : Sh) (f : D → D → Option D) : Prop := ∀ (F H : Hp) (v w : V) (x y z : D) (Q : VK), Same F H → Rep K ct F v x → Rep K ct F w y → f x y = some z →
  (∀ u F' fv H', Grow F H F' H' → MRep K ct F' H' s u z fv → (∀ b ∈ fv, H b = none) → fv.Nodup → Q u H') → r v w H Q
def Op1 (K : PySem.W.Frag) (ct : String → Option Addr) (r : V → Hp → VK → Prop) (s : Sh) (f : D → Option D) : Prop := ∀ (F H : Hp) (v : V) (x z : D) (Q : VK), Same F H → Rep K ct F v x → f x = some z →
  (∀ u F' fv H', Grow F H F' H' → MRep K ct F' H' s u z fv → (∀ b ∈ fv, H b = none) → fv.Nodup → Q u H') → r v H Q
def OpA (K : PySem.W.Frag) (ct : String → Option Addr) (r : List V → Hp → VK → Prop) (s : Sh) (f : List D → Option D) : Prop := ∀ (F H : Hp) (vs : List V) (xs : List D) (z : D) (Q : VK), Same F H → Reps K ct F vs xs → f xs = some z →
  (∀ u F' fv H', Grow F H F' H' → MRep K ct F' H' s u z fv → (∀ b ∈ fv, H b = none) → fv.Nodup → Q u H') → r vs H Q
def eBin (f : D → D → Option D) (da db : Ro → EO) : Ro → EO := fun ρ => (da ρ).bnd fun x ρ1 => (db ρ1).bnd fun y ρ2 => EO.of (f x y) ρ2
def eUn (f : D → Option D) (da : Ro → EO) : Ro → EO := fun ρ => (da ρ).bnd fun x ρ1 => EO.of (f x) ρ1
def eArg (f : List D → Option D) (da : Ro → AO) : Ro → EO := fun ρ => (da ρ).bnd fun x ρ1 => EO.of (f x) ρ1
variable {da db dc : Ro → EO}
theorem op2_run {r : R2} {f : D → D → Option D} (o : Op2 X.K ct r s f) {W : WX} {ta tb : TE}
    (ea : ∀ pv ρ F fp σ H Q, SR X.K ct Γ pm pv ρ F fp σ H → EPost ⟨X.K, ct, Γ, pm, pv⟩ pu1 .fz ρ F fp H σ W Q (da ρ) → ta σ H Q)
    (eb : ∀ pv ρ F fp σ H Q, SR X.K ct Γ pm pv ρ F fp σ H → EPost ⟨X.K, ct, Γ, pm, pv⟩ pu2 .fz ρ F fp H σ W Q (db ρ) → tb σ H Q) :
    ∀ pv ρ F fp σ H Q, SR X.K ct Γ pm pv ρ F fp σ H → EPost ⟨X.K, ct, Γ, pm, pv⟩ (pu1 && (pu2 && true)) s ρ F fp H σ W Q (eBin f da db ρ) → tOp r ta tb σ H Q := by
  intro pv ρ F fp σ H Q sr p
  refine ea pv ρ F fp σ H _ sr (EPost.bind p fun x ρ1 v F1 fp1 H1 sr1 tr1 m1 p1 => ?_)
  refine eb pv ρ1 F1 fp1 σ H1 _ sr1 (EPost.bind p1 fun y ρ2 w F2 fp2 H2 sr2 tr2 m2 p2 => ?_)
  cases q : f x y with
  | none => rw [q] at p2; exact p2.elim
  | some z =>
    rw [q] at p2
    exact o F2 H2 v w x y z Q sr2.sub (m1.mono tr2.grow) m2 q fun u F' fv H' g m hv nd => EPost.fin p2 sr2 g m hv nd
theorem puAnd (x y : Bool) : (x && (y && true)) = (x && y) := by cases x <;> cases y <;> rfl
theorem de_op {op : Operator} {r : R2} {f : D → D → Option D} (ho : OpR X (binaryOp op) r) (o : Op2 X.K ct r s f) (ha : DE X ct pm Γ a pu1 .fz da) (hb : DE X ct pm Γ b pu2 .fz db) : DE X ct pm Γ (.BinOp a op b pos) (pu1 && pu2) s (eBin f da db) := by
  refine ⟨fun W tk => ?_⟩
  obtain ⟨ta, pa, ea⟩ := ha.run W tk
  obtain ⟨tb, pb, eb⟩ := hb.run W tk
  have := op2_run o ea eb
  rw [puAnd] at this
  exact ⟨_, pe_op ho pa pb, this⟩
theorem de_cmp {op : CmpOp} {r : R2} {f : D → D → Option D} (ho : OpR X (compareOp op) r) (o : Op2 X.K ct r s f) (ha : DE X ct pm Γ a pu1 .fz da) (hb : DE X ct pm Γ b pu2 .fz db) (hm : behindInMarks op b = false) : DE X ct pm Γ (.Compare a [op] [b] pos) (pu1 && pu2) s (eBin f da db) := by
  refine ⟨fun W tk => ?_⟩
  obtain ⟨ta, pa, ea⟩ := ha.run W tk
  obtain ⟨tb, pb, eb⟩ := hb.run W tk
  have := op2_run o ea eb
  rw [puAnd] at this
  exact ⟨_, pe_cmpR ho pa pb hm, this⟩
theorem tpost_of {c : PC'} {ρ : Ro} {F H : Hp} {fp : List Addr} {σ : L2.St} {W : WX} {Q : Bool → Hp → Prop} {o : EO} (h : TPost c pu ρ F fp H σ W Q o) : EPost c pu .fz ρ F fp H σ W (fun x H' => ∃ k, x = .bl k ∧ Q k H') o := by
  cases o with
  | ok d ρ' =>
    intro v F' fp' fv H' sr tr m nd z
    cases d with
    | bl k =>
      cases m with
      | fz m =>
        cases m
        rw [List.append_nil] at tr
        exact ⟨k, rfl, h F' fp' H' sr tr z⟩
    | _ => exact False.elim h
  | exc x ρ' => exact h
  | stk => exact h
theorem dt_cmp {op : CmpOp} {r : R2} {f : D → D → Option D} (ho : OpR X (compareOp op) r) (o : Op2 X.K ct r .fz f) (ha : DE X ct pm Γ a pu1 .fz da) (hb : DE X ct pm Γ b pu2 .fz db) (hm : behindInMarks op b = false) : DT X ct pm Γ (.Compare a [op] [b] pos) (pu1 && pu2) (eBin f da db) := by
  refine ⟨fun W tk => ?_⟩
  obtain ⟨ta, pa, ea⟩ := ha.run W tk
  obtain ⟨tb, pb, eb⟩ := hb.run W tk
  have := op2_run o ea eb
  rw [puAnd] at this
  exact ⟨_, pt_cmpR ho pa pb hm, fun pv ρ F fp σ H Q sr p => this pv ρ F fp σ H _ sr (tpost_of p)⟩
theorem dt_val (h : DE X ct pm Γ e pu .fz da) (he : ∀ whole, isTrue e X.env whole = (do let v ← whole; standAt e.pos; holding [v] (truthy v)) := by intro _; rfl) : DT X ct pm Γ e pu da := by
  refine ⟨fun W tk => ?_⟩
  obtain ⟨t, p, r⟩ := h.run W tk
  exact ⟨_, pt_val p he, fun pv ρ F fp σ H Q sr q => r pv ρ F fp σ H _ sr (tpost_of q)⟩
theorem de_un {op : UnaryOp} {r : V → Hp → VK → Prop} {f : D → Option D} (ho : UnR X (unaryOp op) r) (o : Op1 X.K ct r s f) (ha : DE X ct pm Γ a pu .fz da) : DE X ct pm Γ (.UnaryOp op a pos) pu s (eUn f da) := by
  refine ⟨fun W tk => ?_⟩
  obtain ⟨ta, pa, ea⟩ := ha.run W tk
  refine ⟨_, pe_un ho pa, fun pv ρ F fp σ H Q sr p => ?_⟩
  refine ea pv ρ F fp σ H _ sr (EPost.bind (pu2 := true) (k := fun x ρ1 => EO.of (f x) ρ1) (Q := Q) (s := s) (by rw [Bool.and_true]; exact p) fun x ρ1 v F1 fp1 H1 sr1 tr1 m1 p1 => ?_)
  cases q : f x with
  | none => rw [q] at p1; exact p1.elim
  | some z =>
    rw [q] at p1
    exact o F1 H1 v x z Q sr1.sub m1 q fun u F' fv H' g m hv nd => EPost.fin p1 sr1 g m hv nd
/-! ### the operators' functions -/
theorem rep_int {K : PySem.W.Frag} {F : Hp} {v : V} {i : Int} (h : Rep K ct F v (.int i)) : v = .int i := by cases h; rfl
theorem rep_str {K : PySem.W.Frag} {F : Hp} {v : V} {i : Str} (h : Rep K ct F v (.str i)) : v = .str i := by cases h; rfl
theorem rep_bl {K : PySem.W.Frag} {F : Hp} {v : V} {i : Bool} (h : Rep K ct F v (.bl i)) : v = .bl i := by cases h; rfl
theorem op2_flat {K : PySem.W.Frag} {r : R2} {f : D → D → Option D} (h : ∀ (F H : Hp) (v w : V) (x y z : D) (Q : VK), Same F H → Rep K ct F v x → Rep K ct F w y → f x y = some z → (∀ u, Rep K ct F u z → Q u H) → r v w H Q) : Op2 K ct r .fz f :=
  fun F H v w x y z Q e a b q k => h F H v w x y z Q e a b q fun u m => k u F [] H (Grow.refl e) (.fz m) (by simp) .nil
def fI2 (g : Int → Int → Option D) : D → D → Option D
  | .int i, .int j => g i j
  | _, _ => none
theorem op2_I {K : PySem.W.Frag} {C : Int → Int → Prop} {g : Int → Int → V} {f : Int → Int → Option D} (h : ∀ i j z, f i j = some z → C i j ∧ ∀ F, Rep K ct F (g i j) z) : Op2 K ct (rI C g) .fz (fI2 f) :=
  op2_flat fun F H v w x y z Q e a b q k => by
    cases x with
    | int i =>
      cases y with
      | int j =>
        cases a; cases b
        obtain ⟨h1, h2⟩ := h i j z q
        exact ⟨i, j, rfl, rfl, h1, k _ (h2 F)⟩
      | _ => cases q
    | _ => cases q
theorem op2_I0 {K : PySem.W.Frag} {g : Int → Int → V} {f : Int → Int → Option D} (h : ∀ i j z, f i j = some z → ∀ F, Rep K ct F (g i j) z) : Op2 K ct (rI0 g) .fz (fI2 f) :=
  op2_flat fun F H v w x y z Q e a b q k => by
    cases x with
    | int i =>
      cases y with
      | int j =>
        cases a; cases b
        exact ⟨i, j, rfl, rfl, k _ (h i j z q F)⟩
      | _ => cases q
    | _ => cases q
def fAddI : Int → Int → Option D := fun i j => some (.int (i + j))
def fSubI : Int → Int → Option D := fun i j => some (.int (i - j))
def mulOk (i j : Int) : Bool := (decide (-(2 ^ 64) < i) && decide (i < 2 ^ 64)) || (decide (-(2 ^ 64) < j) && decide (j < 2 ^ 64))
def fMulI : Int → Int → Option D := fun i j => if mulOk i j then some (.int (i * j)) else none
def fDivI : Int → Int → Option D := fun i j => if 0 < j ∧ j < 2 ^ 64 then some (.int (i / j)) else none
def fModI : Int → Int → Option D := fun i j => if 0 < j then some (.int (i % j)) else none
instance (i j : Int) : Decidable (CPow i j) := by unfold CPow; infer_instance
def fShlI : Int → Int → Option D := fun i j => if CPow i j then some (.int (i * 2 ^ j.toNat)) else none
def fShrI : Int → Int → Option D := fun i j => if 0 ≤ j then some (.int (i / 2 ^ j.toNat)) else none
def fPowI : Int → Int → Option D := fun i j => if 0 ≤ j ∧ j ≤ 1000000 ∧ i.natAbs < 2 ^ 64 then some (.int (i ^ j.toNat)) else none
def fAndI : Int → Int → Option D := fun i j => some (.int (Builtin.bitAnd i j))
def fOrI : Int → Int → Option D := fun i j => some (.int (Builtin.bitOr i j))
theorem de_addI (ha : DE X ct pm Γ a pu1 .fz da) (hb : DE X ct pm Γ b pu2 .fz db) : DE X ct pm Γ (.BinOp a .Add b pos) (pu1 && pu2) .fz (eBin (fI2 fAddI) da db) :=
  de_op op_add (op2_I0 fun i j z q F => by cases q; exact .int _) ha hb
theorem de_sub (ha : DE X ct pm Γ a pu1 .fz da) (hb : DE X ct pm Γ b pu2 .fz db) : DE X ct pm Γ (.BinOp a .Sub b pos) (pu1 && pu2) .fz (eBin (fI2 fSubI) da db) :=
  de_op op_sub (op2_I0 fun i j z q F => by cases q; exact .int _) ha hb
theorem de_mulI (ha : DE X ct pm Γ a pu1 .fz da) (hb : DE X ct pm Γ b pu2 .fz db) : DE X ct pm Γ (.BinOp a .Mult b pos) (pu1 && pu2) .fz (eBin (fI2 fMulI) da db) :=
  de_op op_mul (op2_I fun i j z q => by
    unfold fMulI at q
    split at q
    · rename_i h
      cases q
      refine ⟨?_, fun F => .int _⟩
      unfold mulOk at h
      simpa [CMul] using h
    · cases q) ha hb
theorem log2_64 {j : Int} (h0 : 0 < j) (h : j < 2 ^ 64) : j.natAbs.log2 < 9000 := Nat.lt_of_lt_of_le (PySem.Flt.log2_lt_of (k := 64) (by decide) (by omega)) (by decide)
theorem de_div (ha : DE X ct pm Γ a pu1 .fz da) (hb : DE X ct pm Γ b pu2 .fz db) : DE X ct pm Γ (.BinOp a .FloorDiv b pos) (pu1 && pu2) .fz (eBin (fI2 fDivI) da db) :=
  de_op op_fdivW (op2_I fun i j z q => by
    unfold fDivI at q
    split at q
    · rename_i h
      cases q
      exact ⟨⟨h.1, log2_64 h.1 h.2⟩, fun F => .int _⟩
    · cases q) ha hb
theorem de_mod (ha : DE X ct pm Γ a pu1 .fz da) (hb : DE X ct pm Γ b pu2 .fz db) : DE X ct pm Γ (.BinOp a .Mod b pos) (pu1 && pu2) .fz (eBin (fI2 fModI) da db) :=
  de_op op_mod (op2_I fun i j z q => by
    unfold fModI at q
    split at q
    · rename_i h
      cases q
      exact ⟨h, fun F => .int _⟩
    · cases q) ha hb
theorem de_shl (ha : DE X ct pm Γ a pu1 .fz da) (hb : DE X ct pm Γ b pu2 .fz db) : DE X ct pm Γ (.BinOp a .LShift b pos) (pu1 && pu2) .fz (eBin (fI2 fShlI) da db) :=
  de_op op_shl (op2_I fun i j z q => by
    unfold fShlI at q
    split at q
    · rename_i h
      cases q
      exact ⟨h, fun F => .int _⟩
    · cases q) ha hb
theorem de_shr (ha : DE X ct pm Γ a pu1 .fz da) (hb : DE X ct pm Γ b pu2 .fz db) : DE X ct pm Γ (.BinOp a .RShift b pos) (pu1 && pu2) .fz (eBin (fI2 fShrI) da db) :=
  de_op op_shr (op2_I fun i j z q => by
    unfold fShrI at q
    split at q
    · rename_i h
      cases q
      exact ⟨h, fun F => .int _⟩
    · cases q) ha hb
theorem de_pow (ha : DE X ct pm Γ a pu1 .fz da) (hb : DE X ct pm Γ b pu2 .fz db) : DE X ct pm Γ (.BinOp a .Pow b pos) (pu1 && pu2) .fz (eBin (fI2 fPowI) da db) :=
  de_op op_pow (op2_I fun i j z q => by
    unfold fPowI at q
    split at q
    · rename_i h
      cases q
      exact ⟨h, fun F => .int _⟩
    · cases q) ha hb
theorem de_and2 (ha : DE X ct pm Γ a pu1 .fz da) (hb : DE X ct pm Γ b pu2 .fz db) : DE X ct pm Γ (.BinOp a .BitAnd b pos) (pu1 && pu2) .fz (eBin (fI2 fAndI) da db) :=
  de_op op_and (op2_I0 fun i j z q F => by cases q; exact .int _) ha hb
theorem de_or2 (ha : DE X ct pm Γ a pu1 .fz da) (hb : DE X ct pm Γ b pu2 .fz db) : DE X ct pm Γ (.BinOp a .BitOr b pos) (pu1 && pu2) .fz (eBin (fI2 fOrI) da db) :=
  de_op op_or (op2_I0 fun i j z q F => by cases q; exact .int _) ha hb
def fNegI : D → Option D
  | .int i => some (.int (-i))
  | _ => none
theorem de_neg (ha : DE X ct pm Γ a pu .fz da) : DE X ct pm Γ (.UnaryOp .USub a pos) pu .fz (eUn fNegI da) :=
  de_un un_neg (fun F H v x z Q e r q k => by
    cases x with
    | int i => cases q; cases r; exact ⟨i, rfl, k _ F [] H (Grow.refl e) (.fz (.int _)) (by simp) .nil⟩
    | _ => cases q) ha
/-! ### + of texts, lists, tuples -/
def fAddS : D → D → Option D
  | .str i, .str j => if i.length + j.length ≤ sizeLine then some (.str (i ++ j)) else none
  | _, _ => none
theorem de_addS (ha : DE X ct pm Γ a pu1 .fz da) (hb : DE X ct pm Γ b pu2 .fz db) : DE X ct pm Γ (.BinOp a .Add b pos) (pu1 && pu2) .fz (eBin fAddS da db) :=
  de_op op_add_str (op2_flat fun F H v w x y z Q e r1 r2 q k => by
    cases x with
    | str i =>
      cases y with
      | str j =>
        cases r1; cases r2
        simp only [fAddS] at q
        split at q
        · rename_i h; cases q; exact ⟨i, j, rfl, rfl, h, k _ (.str _)⟩
        · cases q
      | _ => cases q
    | _ => cases q) ha hb
theorem Reps.app {K : PySem.W.Frag} {F : Hp} : ∀ {vs ws : List V} {xs ys : List D}, Reps K ct F vs xs → Reps K ct F ws ys → Reps K ct F (vs ++ ws) (xs ++ ys)
  | _, _, _, _, .nil, s => s
  | _, _, _, _, .cons r t, s => .cons r (Reps.app t s)
theorem Reps.len {K : PySem.W.Frag} {F : Hp} : ∀ {vs : List V} {xs : List D}, Reps K ct F vs xs → vs.length = xs.length
  | _, _, .nil => rfl
  | _, _, .cons r t => by simp only [List.length_cons, Reps.len t]
theorem Reps.at {K : PySem.W.Frag} {F : Hp} : ∀ {vs : List V} {xs : List D} {i : Nat} {d : D}, Reps K ct F vs xs → xs[i]? = some d → ∃ v, vs[i]? = some v ∧ Rep K ct F v d
  | _, _, _, _, .nil, e => by simp at e
  | _, _, 0, _, .cons r _, e => by simp at e; subst e; exact ⟨_, rfl, r⟩
  | _, _, i + 1, _, .cons _ t, e => by
    obtain ⟨v, h1, h2⟩ := Reps.at (i := i) t (by simpa using e)
    exact ⟨v, by simpa using h1, h2⟩
theorem Reps.take {K : PySem.W.Frag} {F : Hp} : ∀ {vs : List V} {xs : List D} (n : Nat), Reps K ct F vs xs → Reps K ct F (vs.take n) (xs.take n)
  | _, _, 0, _ => by simpa using Reps.nil
  | _, _, _ + 1, .nil => .nil
  | _, _, n + 1, .cons r t => .cons r (Reps.take n t)
theorem Reps.drop {K : PySem.W.Frag} {F : Hp} : ∀ {vs : List V} {xs : List D} (n : Nat), Reps K ct F vs xs → Reps K ct F (vs.drop n) (xs.drop n)
  | _, _, 0, r => by simpa using r
  | _, _, _ + 1, .nil => .nil
  | _, _, n + 1, .cons r t => Reps.drop n t
theorem Reps.rev {K : PySem.W.Frag} {F : Hp} {vs : List V} {xs : List D} (h : Reps K ct F vs xs) : Reps K ct F vs.reverse xs.reverse := by
  induction vs generalizing xs with
  | nil => cases h; exact .nil
  | cons v vs ih =>
    cases h with
    | cons r t =>
      rw [List.reverse_cons, List.reverse_cons]
      exact Reps.app (ih t) (.cons r .nil)
/-- frozen items in an owned list -/
theorem MReps.ofR {K : PySem.W.Frag} {F H : Hp} : ∀ {vs : List V} {xs : List D}, Reps K ct F vs xs → MReps K ct F H .fz vs xs []
  | _, _, .nil => .nil
  | _, _, .cons r t => by
    have := MReps.cons (p := []) (MRep.fz (H := H) r) (MReps.ofR t)
    exact this
theorem MRep.newL {K : PySem.W.Frag} {F H : Hp} {p : Addr} {vs : List V} {xs : List D} (h : H p = some (.lst vs)) (n : F p = none) (r : Reps K ct F vs xs) : MRep K ct F H (.ml .fz) (.ref p) (.lst xs) [p] := .ml h n (MReps.ofR r)
/-- the answer is a new list, owned -/
theorem newList_k {K : PySem.W.Frag} {F H : Hp} {p : Addr} {vs : List V} {xs : List D} {Q : VK} (e : Same F H) (hp : H p = none) (r : Reps K ct F vs xs)
    (k : ∀ u F' fv H', Grow F H F' H' → MRep K ct F' H' (.ml .fz) u (.lst xs) fv → (∀ b ∈ fv, H b = none) → fv.Nodup → Q u H') : Q (.ref p) (upd H p (.lst vs)) :=
  k _ F [p] _ (Grow.newX e hp) (MRep.newL upd_same (e.free hp) r) (fun b hb => by rw [List.mem_singleton.mp hb]; exact hp) (by simp)
theorem newTup_k {K : PySem.W.Frag} {F H : Hp} {p : Addr} {vs : List V} {xs : List D} {Q : VK} (e : Same F H) (hp : H p = none) (r : Reps K ct F vs xs)
    (k : ∀ u F' fv H', Grow F H F' H' → MRep K ct F' H' .fz u (.tup xs) fv → (∀ b ∈ fv, H b = none) → fv.Nodup → Q u H') : Q (.ref p) (upd H p (.tup vs)) :=
  k _ (upd F p (.tup vs)) [] _ (Grow.newF e hp) (.fz (.tup (.inl (.inl upd_same)) (r.mono (same_new (e.free hp))))) (by simp) .nil
def fAddL : D → D → Option D
  | .lst i, .lst j => if i.length + j.length ≤ sizeLine then some (.lst (i ++ j)) else none
  | _, _ => none
theorem de_addL (ha : DE X ct pm Γ a pu1 .fz da) (hb : DE X ct pm Γ b pu2 .fz db) : DE X ct pm Γ (.BinOp a .Add b pos) (pu1 && pu2) (.ml .fz) (eBin fAddL da db) :=
  de_op op_cat (fun F H v w x y z Q e r1 r2 q k => by
    cases x with
    | lst i =>
      cases y with
      | lst j =>
        cases r1 with
        | lst h1 t1 =>
          cases r2 with
          | lst h2 t2 =>
            simp only [fAddL] at q
            split at q
            · rename_i h
              cases q
              exact ⟨_, _, _, _, rfl, rfl, e _ _ h1, e _ _ h2, by rw [t1.len, t2.len]; exact h, fun p hp => newList_k e hp (t1.app t2) k⟩
            · cases q
      | _ => cases q
    | _ => cases q) ha hb
def fAddT : D → D → Option D
  | .tup i, .tup j => if i.length + j.length ≤ sizeLine ∧ i ≠ [] then some (.tup (i ++ j)) else none
  | _, _ => none
theorem de_addT (ha : DE X ct pm Γ a pu1 .fz da) (hb : DE X ct pm Γ b pu2 .fz db) : DE X ct pm Γ (.BinOp a .Add b pos) (pu1 && pu2) .fz (eBin fAddT da db) :=
  de_op op_catT (fun F H v w x y z Q e r1 r2 q k => by
    cases x with
    | tup i =>
      cases y with
      | tup j =>
        cases r1 with
        | tup h1 t1 =>
          cases r2 with
          | tup h2 t2 =>
            simp only [fAddT] at q
            split at q
            · rename_i h
              cases q
              refine ⟨_, _, _, _, rfl, rfl, sqT_mono e h1, sqT_mono e h2, ?_, by rw [t1.len, t2.len]; exact h.1, fun z => ?_, fun z p hp => newTup_k e hp (t1.app t2) k⟩
              · rintro rfl; cases t1; exact h.2 rfl
              · subst z
                cases t2
                exact k _ F [] H (Grow.refl e) (.fz (by rw [List.append_nil]; exact .tup h1 t1)) (by simp) .nil
            · cases q
      | _ => cases q
    | _ => cases q) ha hb
/-- [x, ..] * n -/
def fRep : D → D → Option D
  | .lst i, .int k => if -(2 ^ 63) ≤ k ∧ k < 2 ^ 63 ∧ i.length * k.toNat ≤ sizeLine then some (.lst (List.replicate k.toNat i).flatten) else none
  | _, _ => none
theorem Reps.rep {K : PySem.W.Frag} {F : Hp} {vs : List V} {xs : List D} (h : Reps K ct F vs xs) : ∀ k : Nat, Reps K ct F (List.replicate k vs).flatten (List.replicate k xs).flatten
  | 0 => by simpa using Reps.nil
  | k + 1 => by
    rw [List.replicate_succ, List.replicate_succ, List.flatten_cons, List.flatten_cons]
    exact h.app (Reps.rep h k)
theorem de_rep (ha : DE X ct pm Γ a pu1 .fz da) (hb : DE X ct pm Γ b pu2 .fz db) : DE X ct pm Γ (.BinOp a .Mult b pos) (pu1 && pu2) (.ml .fz) (eBin fRep da db) :=
  de_op op_rep (fun F H v w x y z Q e r1 r2 q k => by
    cases x with
    | lst i =>
      cases y with
      | int j =>
        cases r1 with
        | lst h1 t1 =>
          cases r2
          simp only [fRep] at q
          split at q
          · rename_i h
            cases q
            exact ⟨_, _, _, rfl, rfl, e _ _ h1, h.1, h.2.1, by rw [t1.len]; exact h.2.2, fun p hp => newList_k e hp (t1.rep _) k⟩
          · cases q
      | _ => cases q
    | _ => cases q) ha hb
end
end DL
namespace DL
open PySem Spec PyProof.Rows L2
/-! ### equality of data -/
def D.flat? : D → Option V
  | .non => some .non
  | .bl b => some (.bl b)
  | .int i => some (.int i)
  | .str x => some (.str x)
  | _ => none
mutual
def D.py : D → Option PyData
  | .non => some .none
  | .bl b => some (.bool b)
  | .int i => some (.int i)
  | .str x => some (.str x)
  | .lst xs => (D.pys xs).map .list
  | .tup xs => (D.pys xs).map .tuple
  | .scr ns => some (.list (ns.map .int))
  | .dK _ => none
  | .dT _ => none
  | .ob _ _ => none
def D.pys : List D → Option (List PyData)
  | [] => some []
  | x :: xs => (D.py x).bind fun p => (D.pys xs).map fun q => p :: q
end
section
variable {K : PySem.W.Frag} {ct : String → Option Addr}
theorem flat_rep {F : Hp} {v w : V} {d : D} (r : Rep K ct F v d) (h : d.flat? = some w) : v = w := by
  cases d <;> cases h <;> cases r <;> rfl
theorem dp_ints {H : Hp} : ∀ ns : List Int, DpAll K H (ns.map V.int) (ns.map PyData.int)
  | [] => .nil
  | n :: ns => .cons (.int n) (dp_ints ns)
theorem sqL_same {F H : Hp} (e : Same F H) {a : Addr} {xs : List V} (h : SqL K F a xs) : SqL K H a xs := e.seq h
mutual
theorem Rep.dp {F H : Hp} (e : Same F H) : ∀ {v : V} {d : D} {p : PyData}, Rep K ct F v d → d.py = some p → Dp K H v p
  | _, _, _, .non, h => by cases h; exact .non
  | _, _, _, .bl b, h => by cases h; exact .bl b
  | _, _, _, .int b, h => by cases h; exact .int b
  | _, _, _, .str b, h => by cases h; exact .str b
  | _, .lst ds, _, .lst h r, q => by
    rw [D.py] at q
    cases z : D.pys ds with
    | none => rw [z] at q; cases q
    | some ps => rw [z] at q; cases q; exact .lst (.inl (.inl (e _ _ h))) (Reps.dp e r z)
  | _, .tup ds, _, .tup h r, q => by
    rw [D.py] at q
    cases z : D.pys ds with
    | none => rw [z] at q; cases q
    | some ps => rw [z] at q; cases q; exact .tup (sqT_mono e h) (Reps.dp e r z)
  | _, .scr ns, _, .scr h, q => by cases q; exact .lst (e.seq h) (dp_ints ns)
  | _, .dK ds, _, .dK h r, q => by cases q
  | _, .dT ds, _, .dT h r, q => by cases q
  | _, .ob c ds, _, .ob _ h r, q => by cases q
theorem Reps.dp {F H : Hp} (e : Same F H) : ∀ {v : List V} {d : List D} {p : List PyData}, Reps K ct F v d → D.pys d = some p → DpAll K H v p
  | _, _, _, .nil, h => by cases h; exact .nil
  | _, d :: ds, _, .cons r t, h => by
    rw [D.pys] at h
    cases z : D.py d with
    | none => rw [z] at h; cases h
    | some p =>
      rw [z] at h
      cases y : D.pys ds with
      | none => rw [y] at h; cases h
      | some ps => rw [y] at h; cases h; exact .cons (Rep.dp e r z) (Reps.dp e t y)
end
end
def fEq (neg : Bool) (x y : D) : Option D :=
  match x.flat?, y.flat? with
  | some a, some b => if scal a b = true then some (.bl (neg ^^ decide (a = b))) else none
  | _, _ => match x.py, y.py with
    | some p, some q => if SeqAt.shaped p = true ∧ SeqAt.shaped q = true then some (.bl (neg ^^ PyData.eqv p q)) else none
    | _, _ => none
section
variable {X : Cx} {ct : String → Option Addr} {pm : List Bool} {Γ : List Sh} {pu pu1 pu2 pu3 : Bool} {s : Sh} {pos : Pos} {a b e : Expr} {da db dc : Ro → EO}
theorem op2_or {K : PySem.W.Frag} {r r' : R2} {f : D → D → Option D} (h : ∀ (F H : Hp) (v w : V) (x y z : D) (Q : VK), Same F H → Rep K ct F v x → Rep K ct F w y → f x y = some z →
    (∀ u F' fv H', Grow F H F' H' → MRep K ct F' H' s u z fv → (∀ b ∈ fv, H b = none) → fv.Nodup → Q u H') → r v w H Q ∨ r' v w H Q) : Op2 K ct (fun x y H Q => r x y H Q ∨ r' x y H Q) s f := h
theorem op2_eq {K : PySem.W.Frag} : Op2 K ct (fun x y H Q => rEq x y H Q ∨ rEqD K x y H Q) .fz (fEq false) := by
  intro F H v w x y z Q e r1 r2 q k
  unfold fEq at q
  split at q
  · rename_i a b h1 h2
    split at q
    · rename_i hs
      cases q
      rw [flat_rep r1 h1, flat_rep r2 h2]
      exact .inl ⟨hs, k _ F [] H (Grow.refl e) (.fz (by rw [Bool.false_xor]; exact .bl _)) (by simp) .nil⟩
    · cases q
  · split at q
    · rename_i p1 p2 h1 h2
      split at q
      · rename_i hs
        cases q
        exact .inr ⟨p1, p2, r1.dp e h1, r2.dp e h2, hs.1, hs.2, k _ F [] H (Grow.refl e) (.fz (by rw [Bool.false_xor]; exact .bl _)) (by simp) .nil⟩
      · cases q
    · cases q
theorem op2_ne {K : PySem.W.Frag} : Op2 K ct (fun x y H Q => rNe x y H Q ∨ rNeD K x y H Q) .fz (fEq true) := by
  intro F H v w x y z Q e r1 r2 q k
  unfold fEq at q
  split at q
  · rename_i a b h1 h2
    split at q
    · rename_i hs
      cases q
      rw [flat_rep r1 h1, flat_rep r2 h2]
      exact .inl ⟨hs, k _ F [] H (Grow.refl e) (.fz (by rw [Bool.true_xor]; exact .bl _)) (by simp) .nil⟩
    · cases q
  · split at q
    · rename_i p1 p2 h1 h2
      split at q
      · rename_i hs
        cases q
        exact .inr ⟨p1, p2, r1.dp e h1, r2.dp e h2, hs.1, hs.2, k _ F [] H (Grow.refl e) (.fz (by rw [Bool.true_xor]; exact .bl _)) (by simp) .nil⟩
      · cases q
    · cases q
def fCmpI (p : Int → Int → Bool) : Int → Int → Option D := fun i j => some (.bl (p i j))
theorem op2_cmpI {K : PySem.W.Frag} {p : Int → Int → Bool} : Op2 K ct (rI0 fun i j => .bl (p i j)) .fz (fI2 (fCmpI p)) := op2_I0 fun i j z q F => by cases q; exact .bl _
/-- the comparisons: op, its rule, its function -/
structure Cmp (X : Cx) (ct : String → Option Addr) (op : CmpOp) (f : D → D → Option D) : Prop where
  ok : ∃ r, OpR X (compareOp op) r ∧ Op2 X.K ct r .fz f
theorem c_lt : Cmp X ct .Lt (fI2 (fCmpI fun i j => decide (i < j))) := ⟨_, op_lt, op2_cmpI⟩
theorem c_le : Cmp X ct .LtE (fI2 (fCmpI fun i j => decide (i ≤ j))) := ⟨_, op_le, op2_cmpI⟩
theorem c_gt : Cmp X ct .Gt (fI2 (fCmpI fun i j => decide (j < i))) := ⟨_, op_gt, op2_cmpI⟩
theorem c_ge : Cmp X ct .GtE (fI2 (fCmpI fun i j => decide (j ≤ i))) := ⟨_, op_ge, op2_cmpI⟩
theorem c_eq (hu : X.A.units + 64 < cLine) : Cmp X ct .Eq (fEq false) := ⟨_, op_eq.or (op_eqD hu), op2_eq⟩
theorem c_ne (hu : X.A.units + 64 < cLine) : Cmp X ct .NotEq (fEq true) := ⟨_, op_ne.or (op_neD hu), op2_ne⟩
def D.isN : D → Bool
  | .non => true
  | _ => false
def fIsN (neg : Bool) : D → D → Option D
  | x, .non => some (.bl (neg ^^ D.isN x))
  | _, _ => none
theorem rep_non {K : PySem.W.Frag} {F : Hp} {v : V} {d : D} (r : Rep K ct F v d) : decide (v = .non) = D.isN d := by
  cases r <;> rfl
theorem c_is : Cmp X ct .Is (fIsN false) := ⟨_, op_isN, op2_flat fun F H v w x y z Q e r1 r2 q k => by
  cases y with
  | non => cases r2; cases q; exact ⟨rfl, k _ (by rw [rep_non r1, Bool.false_xor]; exact .bl _)⟩
  | _ => cases q⟩
theorem c_isnot : Cmp X ct .IsNot (fIsN true) := ⟨_, op_notN, op2_flat fun F H v w x y z Q e r1 r2 q k => by
  cases y with
  | non => cases r2; cases q; exact ⟨rfl, k _ (by rw [rep_non r1, Bool.true_xor]; exact .bl _)⟩
  | _ => cases q⟩
def flats : List D → Option (List V)
  | [] => some []
  | x :: xs => (D.flat? x).bind fun p => (flats xs).map fun q => p :: q
theorem flats_rep {K : PySem.W.Frag} {F : Hp} : ∀ {vs ws : List V} {ds : List D}, Reps K ct F vs ds → flats ds = some ws → vs = ws
  | _, _, _, .nil, h => by cases h; rfl
  | _, _, d :: ds, .cons r t, h => by
    rw [flats] at h
    cases z : D.flat? d with
    | none => rw [z] at h; cases h
    | some p =>
      rw [z] at h
      cases y : flats ds with
      | none => rw [y] at h; cases h
      | some ps => rw [y] at h; cases h; rw [flat_rep r z, flats_rep t y]
theorem flat_flat {d : D} {w : V} (h : d.flat? = some w) : flatV w = true := by cases d <;> cases h <;> rfl
theorem flats_flat : ∀ {ds : List D} {ws : List V}, flats ds = some ws → ws.all flatV = true
  | [], _, h => by cases h; rfl
  | d :: ds, _, h => by
    rw [flats] at h
    cases z : D.flat? d with
    | none => rw [z] at h; cases h
    | some p =>
      rw [z] at h
      cases y : flats ds with
      | none => rw [y] at h; cases h
      | some ps => rw [y] at h; cases h; rw [List.all_cons, flat_flat z, flats_flat y]; rfl
/-- x in a list or tuple of flat things -/
def fIn (neg : Bool) : D → D → Option D
  | x, .lst ys => match x.flat?, flats ys with
    | some v, some ws => some (.bl (neg ^^ inV v ws))
    | _, _ => none
  | x, .tup ys => match x.flat?, flats ys with
    | some v, some ws => some (.bl (neg ^^ inV v ws))
    | _, _ => none
  | _, _ => none
theorem op2_in {K : PySem.W.Frag} {neg : Bool} : Op2 K ct (rIn K neg) .fz (fIn neg) := op2_flat fun F H v w x y z Q e r1 r2 q k => by
  have fin : ∀ (w' : V) (ws : List V), z = .bl (neg ^^ inV w' ws) → Rep K ct F (.bl (if neg = true then !inV w' ws else inV w' ws)) z := fun w' ws e => by
    subst e; cases neg <;> simp <;> exact .bl _
  cases y with
  | lst ys =>
    cases r2 with
    | lst h2 t2 =>
      simp only [fIn] at q
      split at q
      · rename_i a ws h1 h3
        have q := Option.some.inj q
        have := flats_rep t2 h3
        subst this
        rw [flat_rep r1 h1]
        exact ⟨_, _, rfl, .inl (.inl (.inl (e _ _ h2))), flat_flat h1, flats_flat h3, k _ (fin _ _ q.symm)⟩
      · cases q
  | tup ys =>
    cases r2 with
    | tup h2 t2 =>
      simp only [fIn] at q
      split at q
      · rename_i a ws h1 h3
        have q := Option.some.inj q
        have := flats_rep t2 h3
        subst this
        rw [flat_rep r1 h1]
        exact ⟨_, _, rfl, .inr (sqT_mono e h2), flat_flat h1, flats_flat h3, k _ (fin _ _ q.symm)⟩
      · cases q
  | _ => cases q
theorem c_in : Cmp X ct .In (fIn false) := ⟨_, op_in_seq, op2_in⟩
theorem c_notin : Cmp X ct .NotIn (fIn true) := ⟨_, op_notIn_seq, op2_in⟩
def fInS (neg : Bool) : D → D → Option D
  | .str x, .str y => some (.bl (neg ^^ (!(Builtin.Str.occurrences y x 0 y.length 1).isEmpty)))
  | _, _ => none
theorem c_inS : Cmp X ct .In (fInS false) := ⟨_, op_in_str, op2_flat fun F H v w x y z Q e r1 r2 q k => by
  cases x with
  | str i =>
    cases y with
    | str j => cases r1; cases r2; cases q; exact ⟨i, j, rfl, rfl, k _ (by rw [Bool.false_xor]; exact .bl _)⟩
    | _ => cases q
  | _ => cases q⟩
theorem c_notinS : Cmp X ct .NotIn (fInS true) := ⟨_, op_notIn_str, op2_flat fun F H v w x y z Q e r1 r2 q k => by
  cases x with
  | str i =>
    cases y with
    | str j => cases r1; cases r2; cases q; exact ⟨i, j, rfl, rfl, k _ (by rw [Bool.true_xor]; exact .bl _)⟩
    | _ => cases q
  | _ => cases q⟩
theorem de_c1 {op : CmpOp} {f : D → D → Option D} (c : Cmp X ct op f) (ha : DE X ct pm Γ a pu1 .fz da) (hb : DE X ct pm Γ b pu2 .fz db) (hm : behindInMarks op b = false := by first | exact nomark _ | rfl) : DE X ct pm Γ (.Compare a [op] [b] pos) (pu1 && pu2) .fz (eBin f da db) := by
  obtain ⟨r, h1, h2⟩ := c.ok
  exact de_cmp h1 h2 ha hb hm
theorem dt_c1 {op : CmpOp} {f : D → D → Option D} (c : Cmp X ct op f) (ha : DE X ct pm Γ a pu1 .fz da) (hb : DE X ct pm Γ b pu2 .fz db) (hm : behindInMarks op b = false := by first | exact nomark _ | rfl) : DT X ct pm Γ (.Compare a [op] [b] pos) (pu1 && pu2) (eBin f da db) := by
  obtain ⟨r, h1, h2⟩ := c.ok
  exact dt_cmp h1 h2 ha hb hm
/-! ### chains a < b < c, pure ones -/
def eChain (f g : D → D → Option D) (da db dc : Ro → EO) : Ro → EO := fun ρ => (da ρ).bnd fun x ρ1 => (db ρ1).bnd fun y ρ2 => match f x y with
  | some (.bl true) => (dc ρ2).bnd fun z ρ3 => EO.of (g y z) ρ3
  | some (.bl false) => .ok (.bl false) ρ2
  | _ => .stk
theorem chain_run {op op' : CmpOp} {r r' : R2} {f g : D → D → Option D} (o : Op2 X.K ct r .fz f) (o' : Op2 X.K ct r' .fz g) {W : WX} {ta tb tc : TE}
    (ea : ∀ pv ρ F fp σ H Q, SR X.K ct Γ pm pv ρ F fp σ H → EPost ⟨X.K, ct, Γ, pm, pv⟩ pu1 .fz ρ F fp H σ W Q (da ρ) → ta σ H Q)
    (eb : ∀ pv ρ F fp σ H Q, SR X.K ct Γ pm pv ρ F fp σ H → EPost ⟨X.K, ct, Γ, pm, pv⟩ pu2 .fz ρ F fp H σ W Q (db ρ) → tb σ H Q)
    (ec : ∀ pv ρ F fp σ H Q, SR X.K ct Γ pm pv ρ F fp σ H → EPost ⟨X.K, ct, Γ, pm, pv⟩ pu3 .fz ρ F fp H σ W Q (dc ρ) → tc σ H Q) :
    ∀ pv ρ F fp σ H Q, SR X.K ct Γ pm pv ρ F fp σ H → EPost ⟨X.K, ct, Γ, pm, pv⟩ (pu1 && (pu2 && (pu3 && true))) .fz ρ F fp H σ W Q (eChain f g da db dc ρ) → tChain r r' ta tb tc σ H Q := by
  intro pv ρ F fp σ H Q sr p
  refine ea pv ρ F fp σ H _ sr (EPost.bind p fun x ρ1 v F1 fp1 H1 sr1 tr1 m1 p1 => ?_)
  refine eb pv ρ1 F1 fp1 σ H1 _ sr1 (EPost.bind p1 fun y ρ2 w F2 fp2 H2 sr2 tr2 m2 p2 => ?_)
  cases q : f x y with
  | none => rw [q] at p2; exact p2.elim
  | some z =>
    rw [q] at p2
    refine o F2 H2 v w x y z _ sr2.sub (m1.mono tr2.grow) m2 q fun u F' fv H' gr m hv nd => ?_
    cases z with
    | bl k =>
      cases m with
      | fz m =>
        cases m
        refine ⟨k, rfl, ?_⟩
        have tr' := gr.tr (fp := fp2) hv
        rw [List.append_nil] at tr'
        cases k with
        | true =>
          refine iteT ?_
          refine ec pv ρ2 F' fp2 σ H' _ (gr.sr sr2) (EPost.bind (EPost.weaken (pu1 := true) (by rw [Bool.true_and]; exact p2) tr' (Pu.grow gr)) fun z ρ3 w' F3 fp3 H3 sr3 tr3 m3 p3 => ?_)
          cases q2 : g y z with
          | none => rw [q2] at p3; exact p3.elim
          | some z2 =>
            rw [q2] at p3
            exact o' F3 H3 w w' y z z2 Q sr3.sub ((m2.mono gr.ff).mono tr3.grow) m3 q2 fun u F' fv H' g m hv nd => EPost.fin p3 sr3 g m hv nd
        | false =>
          refine iteF ?_
          have p3 : EPost ⟨X.K, ct, Γ, pm, pv⟩ (pu3 && true) .fz ρ2 F2 fp2 H2 σ W Q (.ok (.bl false) ρ2) := p2
          exact EPost.fin p3 sr2 gr (.fz (.bl false)) (by simp) .nil
    | _ => exact p2.elim
theorem puAnd3 (x y z : Bool) : (x && (y && (z && true))) = (x && (y && z)) := by cases x <;> cases y <;> cases z <;> rfl
theorem de_chain {c : Expr} {op op' : CmpOp} {f g : D → D → Option D} (c1 : Cmp X ct op f) (c2 : Cmp X ct op' g) (ha : DE X ct pm Γ a pu1 .fz da) (hb : DE X ct pm Γ b pu2 .fz db) (hc : DE X ct pm Γ c pu3 .fz dc)
    (hm : lastMarks [op, op'] [b, c] = false := by with_unfolding_all rfl) : DE X ct pm Γ (.Compare a [op, op'] [b, c] pos) (pu1 && (pu2 && pu3)) .fz (eChain f g da db dc) := by
  obtain ⟨r, h1, h2⟩ := c1.ok
  obtain ⟨r', h1', h2'⟩ := c2.ok
  refine ⟨fun W tk => ?_⟩
  obtain ⟨ta, pa, ea⟩ := ha.run W tk
  obtain ⟨tb, pb, eb⟩ := hb.run W tk
  obtain ⟨tc, pc, ec⟩ := hc.run W tk
  have := chain_run (op := op) (op' := op') h2 h2' ea eb ec
  rw [puAnd3] at this
  exact ⟨_, pe_chain h1 h1' pa pb pc hm, this⟩
theorem dt_chain {c : Expr} {op op' : CmpOp} {f g : D → D → Option D} (c1 : Cmp X ct op f) (c2 : Cmp X ct op' g) (ha : DE X ct pm Γ a pu1 .fz da) (hb : DE X ct pm Γ b pu2 .fz db) (hc : DE X ct pm Γ c pu3 .fz dc)
    (hm : lastMarks [op, op'] [b, c] = false := by with_unfolding_all rfl) : DT X ct pm Γ (.Compare a [op, op'] [b, c] pos) (pu1 && (pu2 && pu3)) (eChain f g da db dc) := by
  obtain ⟨r, h1, h2⟩ := c1.ok
  obtain ⟨r', h1', h2'⟩ := c2.ok
  refine ⟨fun W tk => ?_⟩
  obtain ⟨ta, pa, ea⟩ := ha.run W tk
  obtain ⟨tb, pb, eb⟩ := hb.run W tk
  obtain ⟨tc, pc, ec⟩ := hc.run W tk
  have := chain_run (op := op) (op' := op') h2 h2' ea eb ec
  rw [puAnd3] at this
  exact ⟨_, pt_chain h1 h1' pa pb pc hm, fun pv ρ F fp σ H Q sr p => this pv ρ F fp σ H _ sr (tpost_of p)⟩
/-! ### and, or, not, if -/
def kAnd (db : Ro → EO) : D → Ro → EO
  | .bl true, ρ => db ρ
  | .bl false, ρ => .ok (.bl false) ρ
  | _, _ => .stk
def kOr (db : Ro → EO) : D → Ro → EO
  | .bl true, ρ => .ok (.bl true) ρ
  | .bl false, ρ => db ρ
  | _, _ => .stk
def kNot : D → Ro → EO
  | .bl b, ρ => .ok (.bl (!b)) ρ
  | _, _ => .stk
def kIf (da db : Ro → EO) : D → Ro → EO
  | .bl true, ρ => da ρ
  | .bl false, ρ => db ρ
  | _, _ => .stk
def eAnd (da db : Ro → EO) : Ro → EO := fun ρ => (da ρ).bnd (kAnd db)
def eOr (da db : Ro → EO) : Ro → EO := fun ρ => (da ρ).bnd (kOr db)
def eNot (da : Ro → EO) : Ro → EO := fun ρ => (da ρ).bnd kNot
def eIf (dt da db : Ro → EO) : Ro → EO := fun ρ => (dt ρ).bnd (kIf da db)
theorem TPost.fin {c : PC'} {ρ : Ro} {F H : Hp} {fp : List Addr} {σ : L2.St} {W : WX} {Q : Bool → Hp → Prop} {b : Bool} (h : TPost c pu ρ F fp H σ W Q (.ok (.bl b) ρ)) (sr : c.SR ρ F fp σ H) : Q b H := h F fp H sr Tr.refl Pu.refl
theorem dw_and1 (h : DT X ct pm Γ a pu da) : DW X ct pm Γ (.BoolOp .And [a] pos) pu da := ⟨fun W tk => by
  obtain ⟨t, p, r⟩ := h.run W tk
  exact ⟨t, pw_and1 p, r⟩⟩
theorem dw_or1 (h : DT X ct pm Γ a pu da) : DW X ct pm Γ (.BoolOp .Or [a] pos) pu da := ⟨fun W tk => by
  obtain ⟨t, p, r⟩ := h.run W tk
  exact ⟨t, pw_or1 p, r⟩⟩
theorem DW.pt (h : DW X ct pm Γ e pu da) : DT X ct pm Γ e pu da := ⟨fun W tk => by
  obtain ⟨t, p, r⟩ := h.run W tk
  exact ⟨t, p.pt, r⟩⟩
theorem and_k (db : Ro → EO) : ∀ d ρ, (∀ b, d ≠ D.bl b) → kAnd db d ρ = .stk := fun d ρ h => by
  cases d with
  | bl b => exact absurd rfl (h b)
  | _ => rfl
theorem or_k (db : Ro → EO) : ∀ d ρ, (∀ b, d ≠ D.bl b) → kOr db d ρ = .stk := fun d ρ h => by
  cases d with
  | bl b => exact absurd rfl (h b)
  | _ => rfl
theorem if_k (da db : Ro → EO) : ∀ d ρ, (∀ b, d ≠ D.bl b) → kIf da db d ρ = .stk := fun d ρ h => by
  cases d with
  | bl b => exact absurd rfl (h b)
  | _ => rfl
theorem not_k : ∀ d ρ, (∀ b, d ≠ D.bl b) → kNot d ρ = .stk := fun d ρ h => by
  cases d with
  | bl b => exact absurd rfl (h b)
  | _ => rfl
theorem dw_and {rest : List Expr} (ha : DT X ct pm Γ a pu1 da) (hb : DW X ct pm Γ (.BoolOp .And (b :: rest) pos) pu2 db) : DW X ct pm Γ (.BoolOp .And (a :: b :: rest) pos) (pu1 && pu2) (eAnd da db) := ⟨fun W tk => by
  obtain ⟨ta, pa, ea⟩ := ha.run W tk
  obtain ⟨tb, pb, eb⟩ := hb.run W tk
  refine ⟨_, pw_and pa pb, fun pv ρ F fp σ H Q sr p => ?_⟩
  refine ea pv ρ F fp σ H _ sr (TPost.bindT (and_k db) p fun x ρ1 F1 fp1 H1 sr1 tr1 p1 => ?_)
  cases x with
  | true => exact iteT (eb pv ρ1 F1 fp1 σ H1 Q sr1 p1)
  | false => exact iteF (TPost.fin p1 sr1)⟩
theorem dw_or {rest : List Expr} (ha : DT X ct pm Γ a pu1 da) (hb : DW X ct pm Γ (.BoolOp .Or (b :: rest) pos) pu2 db) : DW X ct pm Γ (.BoolOp .Or (a :: b :: rest) pos) (pu1 && pu2) (eOr da db) := ⟨fun W tk => by
  obtain ⟨ta, pa, ea⟩ := ha.run W tk
  obtain ⟨tb, pb, eb⟩ := hb.run W tk
  refine ⟨_, pw_or pa pb, fun pv ρ F fp σ H Q sr p => ?_⟩
  refine ea pv ρ F fp σ H _ sr (TPost.bindT (or_k db) p fun x ρ1 F1 fp1 H1 sr1 tr1 p1 => ?_)
  cases x with
  | true => exact iteT (TPost.fin p1 sr1)
  | false => exact iteF (eb pv ρ1 F1 fp1 σ H1 Q sr1 p1)⟩
theorem dt_not (ha : DT X ct pm Γ a pu da) : DT X ct pm Γ (.UnaryOp .Not a pos) pu (eNot da) := ⟨fun W tk => by
  obtain ⟨ta, pa, ea⟩ := ha.run W tk
  refine ⟨_, pt_not pa, fun pv ρ F fp σ H Q sr p => ?_⟩
  refine ea pv ρ F fp σ H _ sr (TPost.bindT (pu2 := true) not_k (by rw [Bool.and_true]; exact p) fun x ρ1 F1 fp1 H1 sr1 tr1 p1 => ?_)
  exact TPost.fin p1 sr1⟩
theorem epost_bl {c : PC'} {ρ : Ro} {F H : Hp} {fp : List Addr} {σ : L2.St} {W : WX} {Q : VK} {o : EO} {Q1 : VK} (h : EPost c pu .fz ρ F fp H σ W Q o) (g : ∀ v H', Q v H' → Q1 v H') : EPost c pu .fz ρ F fp H σ W Q1 o := by
  cases o with
  | ok d ρ' => exact fun v F' fp' fv H' sr tr m nd z => g _ _ (h v F' fp' fv H' sr tr m nd z)
  | exc x ρ' => exact h
  | stk => exact h
theorem de_one {op : BoolOp} (h : DE X ct pm Γ a pu s da) : DE X ct pm Γ (.BoolOp op [a] pos) pu s da := ⟨fun W tk => by
  obtain ⟨t, p, r⟩ := h.run W tk
  exact ⟨t, pe_one p, r⟩⟩
theorem de_and {rest : List Expr} (ha : DE X ct pm Γ a pu1 .fz da) (hb : DE X ct pm Γ (.BoolOp .And (b :: rest) pos) pu2 .fz db) : DE X ct pm Γ (.BoolOp .And (a :: b :: rest) pos) (pu1 && pu2) .fz (eAnd da db) := ⟨fun W tk => by
  obtain ⟨ta, pa, ea⟩ := ha.run W tk
  obtain ⟨tb, pb, eb⟩ := hb.run W tk
  refine ⟨_, pe_and pa pb, fun pv ρ F fp σ H Q sr p => ?_⟩
  refine ea pv ρ F fp σ H _ sr (EPost.bind p fun x ρ1 v F1 fp1 H1 sr1 tr1 m1 p1 => ?_)
  cases x with
  | bl k =>
    cases m1
    refine ⟨k, rfl, ?_⟩
    cases k with
    | true => exact iteT (eb pv ρ1 F1 fp1 σ H1 Q sr1 p1)
    | false => exact iteF (EPost.fin (d := .bl false) p1 sr1 (Grow.refl sr1.sub) (.fz (.bl false)) (by simp) .nil)
  | _ => exact p1.elim⟩
theorem de_or {rest : List Expr} (ha : DE X ct pm Γ a pu1 .fz da) (hb : DE X ct pm Γ (.BoolOp .Or (b :: rest) pos) pu2 .fz db) : DE X ct pm Γ (.BoolOp .Or (a :: b :: rest) pos) (pu1 && pu2) .fz (eOr da db) := ⟨fun W tk => by
  obtain ⟨ta, pa, ea⟩ := ha.run W tk
  obtain ⟨tb, pb, eb⟩ := hb.run W tk
  refine ⟨_, pe_or pa pb, fun pv ρ F fp σ H Q sr p => ?_⟩
  refine ea pv ρ F fp σ H _ sr (EPost.bind p fun x ρ1 v F1 fp1 H1 sr1 tr1 m1 p1 => ?_)
  cases x with
  | bl k =>
    cases m1
    refine ⟨k, rfl, ?_⟩
    cases k with
    | true => exact iteT (EPost.fin (d := .bl true) p1 sr1 (Grow.refl sr1.sub) (.fz (.bl true)) (by simp) .nil)
    | false => exact iteF (eb pv ρ1 F1 fp1 σ H1 Q sr1 p1)
  | _ => exact p1.elim⟩
theorem de_not (ha : DE X ct pm Γ a pu .fz da) : DE X ct pm Γ (.UnaryOp .Not a pos) pu .fz (eNot da) := ⟨fun W tk => by
  obtain ⟨ta, pa, ea⟩ := ha.run W tk
  refine ⟨_, pe_not pa, fun pv ρ F fp σ H Q sr p => ?_⟩
  have p : EPost ⟨X.K, ct, Γ, pm, pv⟩ (pu && true) .fz ρ F fp H σ W Q ((da ρ).bnd kNot) := by rw [Bool.and_true]; exact p
  refine ea pv ρ F fp σ H _ sr (EPost.bind p fun x ρ1 v F1 fp1 H1 sr1 tr1 m1 p1 => ?_)
  cases x with
  | bl k =>
    cases m1
    exact ⟨k, rfl, EPost.fin (d := .bl (!k)) p1 sr1 (Grow.refl sr1.sub) (.fz (.bl _)) (by simp) .nil⟩
  | _ => exact p1.elim⟩
theorem de_if {c : Expr} (hc : DT X ct pm Γ c pu1 dc) (ha : DE X ct pm Γ a pu2 s da) (hb : DE X ct pm Γ b pu2 s db) : DE X ct pm Γ (.IfExp c a b pos) (pu1 && pu2) s (eIf dc da db) := ⟨fun W tk => by
  obtain ⟨tc, pc, ec⟩ := hc.run W tk
  obtain ⟨ta, pa, ea⟩ := ha.run W tk
  obtain ⟨tb, pb, eb⟩ := hb.run W tk
  refine ⟨_, pe_ifExp pc pa pb, fun pv ρ F fp σ H Q sr p => ?_⟩
  refine ec pv ρ F fp σ H _ sr (TPost.bind (if_k da db) p fun x ρ1 F1 fp1 H1 sr1 tr1 p1 => ?_)
  cases x with
  | true => exact iteT (ea pv ρ1 F1 fp1 σ H1 Q sr1 p1)
  | false => exact iteF (eb pv ρ1 F1 fp1 σ H1 Q sr1 p1)⟩
/-! ### subscripts -/
def fIx : D → D → Option D
  | .lst xs, .int i => atI xs i
  | .tup xs, .int i => atI xs i
  | .scr ns, .int i => (atI ns i).map .int
  | .str z, .int i => if z.length ≤ sizeLine then (atI z.cps.toList i).map fun c => .str ⟨#[c]⟩ else none
  | _, _ => none
theorem Reps.atI {K : PySem.W.Frag} {F : Hp} {vs : List V} {xs : List D} {i : Int} {d : D} (r : Reps K ct F vs xs) (h : L2.atI xs i = some d) : ∃ v, L2.atI vs i = some v ∧ Rep K ct F v d := by
  unfold L2.atI at h ⊢
  rw [r.len]
  cases q : ixN xs.length i with
  | none => rw [q] at h; cases h
  | some j => rw [q] at h; exact r.at h
theorem atI_map {α β : Type} (f : α → β) (xs : List α) (i : Int) : L2.atI (xs.map f) i = (L2.atI xs i).map f := by
  unfold L2.atI
  rw [List.length_map]
  cases ixN xs.length i with
  | none => rfl
  | some j => simp
theorem op2_ix {K : PySem.W.Frag} : Op2 K ct (rIx K) .fz fIx := op2_flat fun F H v w x y z Q e r1 r2 q k => by
  cases y with
  | int i =>
    cases r2
    cases x with
    | lst xs =>
      cases r1 with
      | lst h t =>
        obtain ⟨v, h1, h2⟩ := t.atI (show L2.atI xs i = some z from q)
        exact .inl ⟨_, _, i, v, rfl, rfl, .inl (.inl (e _ _ h)), h1, k _ h2⟩
    | tup xs =>
      cases r1 with
      | tup h t =>
        obtain ⟨v, h1, h2⟩ := t.atI (show L2.atI xs i = some z from q)
        exact .inr (.inl ⟨_, _, i, v, rfl, rfl, sqT_mono e h, h1, k _ h2⟩)
    | scr ns =>
      cases r1 with
      | scr h =>
        have q : (L2.atI ns i).map D.int = some z := q
        cases g : L2.atI ns i with
        | none => rw [g] at q; cases q
        | some n =>
          rw [g] at q
          cases q
          exact .inl ⟨_, _, i, .int n, rfl, rfl, e.seq h, by rw [atI_map, g]; rfl, k _ (.int n)⟩
    | str t =>
      cases r1
      simp only [fIx] at q
      split at q
      · rename_i hz
        cases g : L2.atI t.cps.toList i with
        | none => rw [g] at q; cases q
        | some n =>
          rw [g] at q
          cases q
          exact .inr (.inr ⟨t, i, n, rfl, rfl, hz, g, k _ (.str _)⟩)
      · cases q
    | _ => cases q
  | _ => cases x <;> cases q
theorem de_ix (ha : DE X ct pm Γ a pu1 .fz da) (hb : DE X ct pm Γ b pu2 .fz db) (hs : PlainIx b := by exact fun _ _ => rfl) : DE X ct pm Γ (.Subscript a b pos) (pu1 && pu2) .fz (eBin fIx da db) := by
  refine ⟨fun W tk => ?_⟩
  obtain ⟨ta, pa, ea⟩ := ha.run W tk
  obtain ⟨tb, pb, eb⟩ := hb.run W tk
  have := op2_run op2_ix ea eb
  rw [puAnd] at this
  exact ⟨_, pe_ix ix_seq pa pb hs, this⟩
end
end DL
namespace DL
open PySem Spec PyProof.Rows L2
section
variable {X : Cx} {ct : String → Option Addr} {pm : List Bool} {Γ : List Sh} {pu pu1 pu2 pu3 : Bool} {s : Sh} {pos : Pos} {a b e : Expr} {es : List Expr} {da db dc : Ro → EO} {dr : Ro → AO}
/-! ### argument lists -/
def aNil : Ro → AO := fun ρ => .ok [] ρ
def AO.cons (d : D) : AO → AO
  | .ok ds ρ => .ok (d :: ds) ρ
  | .exc x ρ => .exc x ρ
  | .stk => .stk
def aCons (da : Ro → EO) (dr : Ro → AO) : Ro → AO := fun ρ => match da ρ with
  | .ok d ρ1 => (dr ρ1).cons d
  | .exc x ρ1 => .exc x ρ1
  | .stk => .stk
theorem da_nil : DA X ct pm Γ [] pu aNil := ⟨fun W tk => ⟨_, pa_nil, fun pv ρ F fp σ H Q sr p => p [] F fp H sr Tr.refl .nil Pu.refl⟩⟩
theorem da_cons (ha : DE X ct pm Γ e pu1 .fz da) (hr : DA X ct pm Γ es pu2 dr) (hs : starEach (e :: es) X.env = (false, eval e X.env) :: starEach es X.env := by rfl) : DA X ct pm Γ (e :: es) (pu1 && pu2) (aCons da dr) := ⟨fun W tk => by
  obtain ⟨ta, pa, ea⟩ := ha.run W tk
  obtain ⟨tr, pr, er⟩ := hr.run W tk
  refine ⟨_, pa_cons pa pr hs, fun pv ρ F fp σ H Q sr p => ?_⟩
  refine ea pv ρ F fp σ H _ sr ?_
  unfold aCons at p
  cases q : da ρ with
  | stk => rw [q] at p; exact p
  | exc x ρ1 => rw [q] at p; exact p
  | ok d ρ1 =>
    rw [q] at p
    intro v F1 fp1 fv H1 sr1 tr1 m1 nd1 z1
    cases m1 with
    | fz m1 =>
      rw [List.append_nil] at tr1
      refine er pv ρ1 F1 fp1 σ H1 _ sr1 ?_
      have p : APost ⟨X.K, ct, Γ, pm, pv⟩ (pu1 && pu2) ρ F fp H σ W Q ((dr ρ1).cons d) := p
      cases q2 : dr ρ1 with
      | stk => rw [q2] at p; exact p
      | exc x ρ2 => rw [q2] at p; exact fun cls da F' fp' H' sr' tr' x => p cls da F' fp' H' sr' (tr1.trans tr') x
      | ok ds ρ2 =>
        rw [q2] at p
        exact fun vs F' fp' H' sr' tr' ms z2 => p (v :: vs) F' fp' H' sr' (tr1.trans tr') (.cons (m1.mono tr'.grow) ms) (z1.trans z2)⟩
theorem opA_run {r : List V → Hp → VK → Prop} {f : List D → Option D} (o : OpA X.K ct r s f) {W : WX} {t : TA} {dr : Ro → AO}
    (ea : ∀ pv ρ F fp σ H Q, SR X.K ct Γ pm pv ρ F fp σ H → APost ⟨X.K, ct, Γ, pm, pv⟩ pu ρ F fp H σ W Q (dr ρ) → t σ H Q) :
    ∀ pv ρ F fp σ H Q, SR X.K ct Γ pm pv ρ F fp σ H → EPost ⟨X.K, ct, Γ, pm, pv⟩ pu s ρ F fp H σ W Q (eArg f dr ρ) → (t σ H fun vs H1 => r vs H1 Q) := by
  intro pv ρ F fp σ H Q sr p
  have p : EPost ⟨X.K, ct, Γ, pm, pv⟩ (pu && true) s ρ F fp H σ W Q (eArg f dr ρ) := by rw [Bool.and_true]; exact p
  refine ea pv ρ F fp σ H _ sr (APost.bind p fun xs ρ1 vs F1 fp1 H1 sr1 tr1 m1 p1 => ?_)
  cases q : f xs with
  | none => rw [q] at p1; exact p1.elim
  | some z =>
    rw [q] at p1
    exact o F1 H1 vs xs z Q sr1.sub m1 q fun u F' fv H' g m hv nd => EPost.fin p1 sr1 g m hv nd
/-! ### displays -/
def fTup (xs : List D) : Option D := if xs.length ≤ sizeLine then some (.tup xs) else none
def fLst (xs : List D) : Option D := if xs.length ≤ sizeLine then some (.lst xs) else none
theorem de_tup {x1} (h : DA X ct pm Γ es pu dr) : DE X ct pm Γ (.Tuple es x1 pos) pu .fz (eArg fTup dr) := ⟨fun W tk => by
  obtain ⟨t, p, r⟩ := h.run W tk
  refine ⟨_, pe_tup p, opA_run (r := fun xs H1 Q => xs.length ≤ sizeLine ∧ ∀ p, H1 p = none → Q (.ref p) (upd H1 p (.tup xs))) (fun F H vs xs z Q e m q k => ?_) r⟩
  unfold fTup at q
  split at q
  · rename_i hl
    cases q
    exact ⟨by rw [m.len]; exact hl, fun p hp => newTup_k e hp m k⟩
  · cases q⟩
theorem de_lst (h : DA X ct pm Γ es pu dr) : DE X ct pm Γ (.List es pos) pu (.ml .fz) (eArg fLst dr) := ⟨fun W tk => by
  obtain ⟨t, p, r⟩ := h.run W tk
  refine ⟨_, pe_lst p, opA_run (r := fun xs H1 Q => xs.length ≤ sizeLine ∧ ∀ p, H1 p = none → Q (.ref p) (upd H1 p (.lst xs))) (fun F H vs xs z Q e m q k => ?_) r⟩
  unfold fLst at q
  split at q
  · rename_i hl
    cases q
    exact ⟨by rw [m.len]; exact hl, fun p hp => newList_k e hp m k⟩
  · cases q⟩
/-! ### built-in functions -/
theorem de_cb {x : Str} {id : String} {p : Pos} {r : List V → Hp → VK → Prop} {f : List D → Option D} (hc : CallR X (.builtin id) r) (o : OpA X.K ct r s f) (hg : Gl X x) (hm : X.mg x = none) (hv : bootBuiltins x = some (.builtin id)) (ha : DA X ct pm Γ (e :: es) pu dr)
    (hn : x ≠ "__name__" := by decide) (hdb : (x == ("__debug__" : Str)) = false := by decide)
    (he : starEach (e :: es) X.env = (false, eval e X.env) :: starEach es X.env := by rfl) (hpl : (backTo pos (starEach es X.env)).any (·.1) = false := by rfl) : DE X ct pm Γ (.Call (.Name x p) (e :: es) [] pos) pu s (eArg f dr) := ⟨fun W tk => by
  obtain ⟨t, pa, ra⟩ := ha.run W tk
  exact ⟨_, pe_callB hc hg hm hv pa hn hdb he hpl, opA_run o ra⟩⟩
theorem de_cty {x : Str} {T : String} {p : Pos} {r : List V → Hp → VK → Prop} {f : List D → Option D} (hc : CallR X (.type T) r) (o : OpA X.K ct r s f) (hg : Gl X x) (hm : X.mg x = none) (hv : bootBuiltins x = some (.type T)) (ha : DA X ct pm Γ (e :: es) pu dr)
    (hn : x ≠ "__name__" := by decide) (hdb : (x == ("__debug__" : Str)) = false := by decide)
    (he : starEach (e :: es) X.env = (false, eval e X.env) :: starEach es X.env := by rfl) (hpl : (backTo pos (starEach es X.env)).any (·.1) = false := by rfl) : DE X ct pm Γ (.Call (.Name x p) (e :: es) [] pos) pu s (eArg f dr) := ⟨fun W tk => by
  obtain ⟨t, pa, ra⟩ := ha.run W tk
  exact ⟨_, pe_callTy hc hg hm hv pa hn hdb he hpl, opA_run o ra⟩⟩
theorem opA_flat {K : PySem.W.Frag} {r : List V → Hp → VK → Prop} {f : List D → Option D} (h : ∀ (F H : Hp) (vs : List V) (xs : List D) (z : D) (Q : VK), Same F H → Reps K ct F vs xs → f xs = some z → (∀ u, Rep K ct F u z → Q u H) → r vs H Q) : OpA K ct r .fz f :=
  fun F H vs xs z Q e m q k => h F H vs xs z Q e m q fun u m' => k u F [] H (Grow.refl e) (.fz m') (by simp) .nil
def fLen : List D → Option D
  | [.lst xs] => some (.int xs.length)
  | [.tup xs] => some (.int xs.length)
  | [.scr xs] => some (.int xs.length)
  | [.str z] => if z.length ≤ sizeLine then some (.int z.length) else none
  | _ => none
theorem reps1 {K : PySem.W.Frag} {F : Hp} {vs : List V} {x : D} (r : Reps K ct F vs [x]) : ∃ v, vs = [v] ∧ Rep K ct F v x := by
  cases r with
  | cons a t => cases t; exact ⟨_, rfl, a⟩
theorem reps2 {K : PySem.W.Frag} {F : Hp} {vs : List V} {x y : D} (r : Reps K ct F vs [x, y]) : ∃ v w, vs = [v, w] ∧ Rep K ct F v x ∧ Rep K ct F w y := by
  cases r with
  | cons a t =>
    obtain ⟨w, rfl, b⟩ := reps1 t
    exact ⟨_, _, rfl, a, b⟩
theorem a_len {K : PySem.W.Frag} : OpA K ct (fun xs H Q => ∃ x n, xs = [x] ∧ LenV K x H n ∧ Q (.int n) H) .fz fLen := opA_flat fun F H vs xs z Q e m q k => by
  match xs, q with
  | [.lst ys], q =>
    obtain ⟨v, rfl, r⟩ := reps1 m
    cases q
    cases r with
    | lst h t => exact ⟨_, _, rfl, .inl ⟨_, .inl (.inl (e _ _ h)), rfl⟩, by rw [t.len]; exact k _ (.int _)⟩
  | [.tup ys], q =>
    obtain ⟨v, rfl, r⟩ := reps1 m
    cases q
    cases r with
    | tup h t => exact ⟨_, _, rfl, .inr ⟨_, sqT_mono e h, rfl⟩, by rw [t.len]; exact k _ (.int _)⟩
  | [.scr ys], q =>
    obtain ⟨v, rfl, r⟩ := reps1 m
    cases q
    cases r with
    | scr h => exact ⟨_, _, rfl, .inl ⟨_, e.seq h, rfl⟩, by rw [List.length_map]; exact k _ (.int _)⟩
  | [.str y], q =>
    obtain ⟨v, rfl, r⟩ := reps1 m
    simp only [fLen] at q
    split at q
    · rename_i hl
      cases q
      cases r
      exact ⟨_, _, rfl, ⟨hl, rfl⟩, k _ (.int _)⟩
    · cases q
theorem de_len {p : Pos} (ha : DA X ct pm Γ [e] pu dr) (hm : X.mg "len" = none) (hg : Gl X "len" := by rfl) (he : starEach [e] X.env = (false, eval e X.env) :: starEach [] X.env := by rfl) (hpl : (backTo pos (starEach [] X.env)).any (·.1) = false := by rfl) :
    DE X ct pm Γ (.Call (.Name "len" p) [e] [] pos) pu .fz (eArg fLen dr) := de_cb call_len a_len hg hm PySem.boot_len ha (by decide) (by decide) he hpl
def fAbs : List D → Option D
  | [.int i] => some (.int (if i < 0 then -i else i))
  | _ => none
theorem de_abs {p : Pos} (ha : DA X ct pm Γ [e] pu dr) (hm : X.mg "abs" = none) (hg : Gl X "abs" := by rfl) (he : starEach [e] X.env = (false, eval e X.env) :: starEach [] X.env := by rfl) (hpl : (backTo pos (starEach [] X.env)).any (·.1) = false := by rfl) :
    DE X ct pm Γ (.Call (.Name "abs" p) [e] [] pos) pu .fz (eArg fAbs dr) := de_cb call_abs (opA_flat fun F H vs xs z Q e m q k => by
  match xs, q with
  | [.int i], q => obtain ⟨v, rfl, r⟩ := reps1 m; cases q; cases r; exact ⟨i, rfl, k _ (.int _)⟩) hg hm (by decide +kernel) ha (by decide) (by decide) he hpl
def fMax2 : List D → Option D
  | [.int i, .int j] => some (.int (if j > i then j else i))
  | _ => none
def fMin2 : List D → Option D
  | [.int i, .int j] => some (.int (if j < i then j else i))
  | _ => none
theorem de_max2 {e2 : Expr} {p : Pos} (hc : X.calm = true) (ha : DA X ct pm Γ [e, e2] pu dr) (hm : X.mg "max" = none) (hg : Gl X "max" := by rfl) (he : starEach [e, e2] X.env = (false, eval e X.env) :: starEach [e2] X.env := by rfl) (hpl : (backTo pos (starEach [e2] X.env)).any (·.1) = false := by rfl) :
    DE X ct pm Γ (.Call (.Name "max" p) [e, e2] [] pos) pu .fz (eArg fMax2 dr) := de_cb (call_max2 hc) (opA_flat fun F H vs xs z Q e m q k => by
  match xs, q with
  | [.int i, .int j], q => obtain ⟨v, w, rfl, r, r'⟩ := reps2 m; cases q; cases r; cases r'; exact ⟨i, j, rfl, k _ (.int _)⟩) hg hm (by decide +kernel) ha (by decide) (by decide) he hpl
theorem de_min2 {e2 : Expr} {p : Pos} (hc : X.calm = true) (ha : DA X ct pm Γ [e, e2] pu dr) (hm : X.mg "min" = none) (hg : Gl X "min" := by rfl) (he : starEach [e, e2] X.env = (false, eval e X.env) :: starEach [e2] X.env := by rfl) (hpl : (backTo pos (starEach [e2] X.env)).any (·.1) = false := by rfl) :
    DE X ct pm Γ (.Call (.Name "min" p) [e, e2] [] pos) pu .fz (eArg fMin2 dr) := de_cb (call_min2 hc) (opA_flat fun F H vs xs z Q e m q k => by
  match xs, q with
  | [.int i, .int j], q => obtain ⟨v, w, rfl, r, r'⟩ := reps2 m; cases q; cases r; cases r'; exact ⟨i, j, rfl, k _ (.int _)⟩) hg hm (by decide +kernel) ha (by decide) (by decide) he hpl
def fInt : List D → Option D
  | [.int i] => some (.int i)
  | [.bl b] => some (.int (if b then 1 else 0))
  | [.str x] => if x.length ≤ 640 then (PySem.intText? x).map .int else none
  | _ => none
theorem de_intc {p : Pos} (ha : DA X ct pm Γ [e] pu dr) (hm : X.mg "int" = none) (hg : Gl X "int" := by rfl) (he : starEach [e] X.env = (false, eval e X.env) :: starEach [] X.env := by rfl) (hpl : (backTo pos (starEach [] X.env)).any (·.1) = false := by rfl) :
    DE X ct pm Γ (.Call (.Name "int" p) [e] [] pos) pu .fz (eArg fInt dr) := de_cty (call_int1.or call_int_str) (opA_flat fun F H vs xs z Q e m q k => by
  match xs, q with
  | [.int i], q => obtain ⟨v, rfl, r⟩ := reps1 m; cases q; cases r; exact .inl (.inl ⟨i, rfl, k _ (.int _)⟩)
  | [.bl i], q => obtain ⟨v, rfl, r⟩ := reps1 m; cases q; cases r; exact .inl (.inr ⟨i, rfl, k _ (.int _)⟩)
  | [.str x], q =>
    obtain ⟨v, rfl, r⟩ := reps1 m
    cases r
    simp only [fInt] at q
    split at q
    · rename_i hl
      cases g : intText? x with
      | none => rw [g] at q; cases q
      | some n => rw [g] at q; cases q; exact .inr ⟨x, n, rfl, g, hl, k _ (.int _)⟩
    · cases q) hg hm (by decide +kernel) ha (by decide) (by decide) he hpl
def fStr : List D → Option D
  | [.int i] => if i.natAbs.log2 < 1920 then some (.str (toString i)) else none
  | _ => none
theorem de_strc {p : Pos} (ha : DA X ct pm Γ [e] pu dr) (hm : X.mg "str" = none) (hg : Gl X "str" := by rfl) (he : starEach [e] X.env = (false, eval e X.env) :: starEach [] X.env := by rfl) (hpl : (backTo pos (starEach [] X.env)).any (·.1) = false := by rfl) :
    DE X ct pm Γ (.Call (.Name "str" p) [e] [] pos) pu .fz (eArg fStr dr) := de_cty call_str_int (opA_flat fun F H vs xs z Q e m q k => by
  match xs, q with
  | [.int i], q =>
    obtain ⟨v, rfl, r⟩ := reps1 m
    cases r
    simp only [fStr] at q
    split at q
    · rename_i hl; cases q; exact ⟨i, rfl, hl, k _ (.str _)⟩
    · cases q) hg hm (by decide +kernel) ha (by decide) (by decide) he hpl
def fOrd : List D → Option D
  | [.str x] => if x.length = 1 then some (.int (x.cps.getD 0 0 : Nat)) else none
  | _ => none
theorem de_ord {p : Pos} (ha : DA X ct pm Γ [e] pu dr) (hm : X.mg "ord" = none) (hg : Gl X "ord" := by rfl) (he : starEach [e] X.env = (false, eval e X.env) :: starEach [] X.env := by rfl) (hpl : (backTo pos (starEach [] X.env)).any (·.1) = false := by rfl) :
    DE X ct pm Γ (.Call (.Name "ord" p) [e] [] pos) pu .fz (eArg fOrd dr) := de_cb call_ord (opA_flat fun F H vs xs z Q e m q k => by
  match xs, q with
  | [.str i], q =>
    obtain ⟨v, rfl, r⟩ := reps1 m
    cases r
    simp only [fOrd] at q
    split at q
    · rename_i hl; cases q; exact ⟨i, rfl, hl, k _ (.int _)⟩
    · cases q) hg hm (by decide +kernel) ha (by decide) (by decide) he hpl
/-- list(..): a new list -/
def fList : List D → Option D
  | [.lst xs] => some (.lst xs)
  | [.tup xs] => some (.lst xs)
  | [.scr ns] => some (.lst (ns.map .int))
  | _ => none
theorem Reps.ints {K : PySem.W.Frag} {F : Hp} : ∀ ns : List Int, Reps K ct F (ns.map V.int) (ns.map D.int)
  | [] => .nil
  | n :: ns => .cons (.int n) (Reps.ints ns)
theorem de_list {p : Pos} (ha : DA X ct pm Γ [e] pu dr) (hm : X.mg "list" = none) (hg : Gl X "list" := by rfl) (he : starEach [e] X.env = (false, eval e X.env) :: starEach [] X.env := by rfl) (hpl : (backTo pos (starEach [] X.env)).any (·.1) = false := by rfl) :
    DE X ct pm Γ (.Call (.Name "list" p) [e] [] pos) pu (.ml .fz) (eArg fList dr) := de_cty call_list_of (fun F H vs xs z Q e m q k => by
  match xs, q with
  | [.lst xs], q =>
    obtain ⟨v, rfl, r⟩ := reps1 m
    cases q
    cases r with
    | lst h t => exact ⟨_, _, rfl, .inl (.inl (.inl (e _ _ h))), fun l hl => newList_k e hl t k⟩
  | [.tup xs], q =>
    obtain ⟨v, rfl, r⟩ := reps1 m
    cases q
    cases r with
    | tup h t => exact ⟨_, _, rfl, .inr (sqT_mono e h), fun l hl => newList_k e hl t k⟩
  | [.scr xs], q =>
    obtain ⟨v, rfl, r⟩ := reps1 m
    cases q
    cases r with
    | scr h => exact ⟨_, _, rfl, .inl (e.seq h), fun l hl => newList_k e hl (Reps.ints xs) k⟩) hg hm (by decide +kernel) ha (by decide) (by decide) he hpl
def fTuple : List D → Option D
  | [.lst xs] => some (.tup xs)
  | [.tup xs] => some (.tup xs)
  | _ => none
theorem de_tuple {p : Pos} (ha : DA X ct pm Γ [e] pu dr) (hm : X.mg "tuple" = none) (hg : Gl X "tuple" := by rfl) (he : starEach [e] X.env = (false, eval e X.env) :: starEach [] X.env := by rfl) (hpl : (backTo pos (starEach [] X.env)).any (·.1) = false := by rfl) :
    DE X ct pm Γ (.Call (.Name "tuple" p) [e] [] pos) pu .fz (eArg fTuple dr) := de_cty call_tuple_of (fun F H vs xs z Q e m q k => by
  match xs, q with
  | [.lst xs], q =>
    obtain ⟨v, rfl, r⟩ := reps1 m
    cases q
    cases r with
    | lst h t => exact ⟨_, _, rfl, .inl ⟨.inl (.inl (e _ _ h)), fun l hl => newTup_k e hl t k⟩⟩
  | [.tup xs], q =>
    obtain ⟨v, rfl, r⟩ := reps1 m
    cases q
    cases r with
    | tup h t => exact ⟨_, _, rfl, .inr ⟨sqT_mono e h, k _ F [] H (Grow.refl e) (.fz (.tup h t)) (by simp) .nil⟩⟩) hg hm (by decide +kernel) ha (by decide) (by decide) he hpl
/-! ### sums, any, all over lists -/
def D.int? : D → Option Int
  | .int i => some i
  | _ => none
def D.bl? : D → Option Bool
  | .bl i => some i
  | _ => none
def ints? (xs : List D) : Option (List Int) := xs.mapM D.int?
def bls? (xs : List D) : Option (List Bool) := xs.mapM D.bl?
theorem ints_map : ∀ {xs : List D} {ns : List Int}, ints? xs = some ns → xs = ns.map .int
  | [], ns, h => by simp [ints?] at h; subst h; rfl
  | x :: xs, ns, h => by
    unfold ints? at h
    rw [List.mapM_cons] at h
    cases x with
    | int i =>
      cases q : xs.mapM D.int? with
      | none => rw [q] at h; cases h
      | some m =>
        rw [q] at h
        cases h
        rw [List.map_cons, ← ints_map (xs := xs) q]
    | _ => cases h
theorem bls_map : ∀ {xs : List D} {ns : List Bool}, bls? xs = some ns → xs = ns.map .bl
  | [], ns, h => by simp [bls?] at h; subst h; rfl
  | x :: xs, ns, h => by
    unfold bls? at h
    rw [List.mapM_cons] at h
    cases x with
    | bl i =>
      cases q : xs.mapM D.bl? with
      | none => rw [q] at h; cases h
      | some m =>
        rw [q] at h
        cases h
        rw [List.map_cons, ← bls_map (xs := xs) q]
    | _ => cases h
theorem ints?_map : ∀ ns : List Int, ints? (ns.map .int) = some ns
  | [] => rfl
  | n :: ns => by
    have := ints?_map ns
    unfold ints? at this ⊢
    rw [List.map_cons, List.mapM_cons, this]
    rfl
theorem bls?_map : ∀ ns : List Bool, bls? (ns.map .bl) = some ns
  | [] => rfl
  | n :: ns => by
    have := bls?_map ns
    unfold bls? at this ⊢
    rw [List.map_cons, List.mapM_cons, this]
    rfl
theorem Reps.intsV {K : PySem.W.Frag} {F : Hp} : ∀ {ns : List Int} {vs : List V}, Reps K ct F vs (ns.map D.int) → vs = ns.map V.int
  | [], _, .nil => rfl
  | n :: ns, _, .cons r t => by cases r; rw [Reps.intsV t]; rfl
theorem Reps.blsV {K : PySem.W.Frag} {F : Hp} : ∀ {ns : List Bool} {vs : List V}, Reps K ct F vs (ns.map D.bl) → vs = ns.map V.bl
  | [], _, .nil => rfl
  | n :: ns, _, .cons r t => by cases r; rw [Reps.blsV t]; rfl
theorem Reps.strsV {K : PySem.W.Frag} {F : Hp} : ∀ {ns : List Str} {vs : List V}, Reps K ct F vs (ns.map D.str) → vs = ns.map V.str
  | [], _, .nil => rfl
  | n :: ns, _, .cons r t => by cases r; rw [Reps.strsV t]; rfl
def fSum : List D → Option D
  | [.lst xs] => (ints? xs).map fun ns => .int ns.sum
  | _ => none
def fAny : List D → Option D
  | [.lst xs] => (bls? xs).map fun ns => .bl (ns.any id)
  | _ => none
def fAll : List D → Option D
  | [.lst xs] => (bls? xs).map fun ns => .bl (ns.all id)
  | _ => none
theorem de_sum {p : Pos} (hc : X.calm = true) (ha : DA X ct pm Γ [e] pu dr) (hm : X.mg "sum" = none) (hg : Gl X "sum" := by rfl) (he : starEach [e] X.env = (false, eval e X.env) :: starEach [] X.env := by rfl) (hpl : (backTo pos (starEach [] X.env)).any (·.1) = false := by rfl) :
    DE X ct pm Γ (.Call (.Name "sum" p) [e] [] pos) pu .fz (eArg fSum dr) := de_cb (cr_sum hc) (opA_flat fun F H vs xs z Q e m q k => by
  match xs, q with
  | [.lst xs], q =>
    obtain ⟨v, rfl, r⟩ := reps1 m
    have q : (ints? xs).map (fun ns => D.int ns.sum) = some z := q
    cases g : ints? xs with
    | none => rw [g] at q; cases q
    | some ns =>
      rw [g] at q
      cases q
      rw [ints_map g] at r
      cases r with
      | lst h t => rw [t.intsV] at h; exact ⟨_, ns, rfl, .inl (.inl (e _ _ h)), k _ (.int _)⟩) hg hm (by decide +kernel) ha (by decide) (by decide) he hpl
theorem de_any {p : Pos} (hc : X.calm = true) (ha : DA X ct pm Γ [e] pu dr) (hm : X.mg "any" = none) (hg : Gl X "any" := by rfl) (he : starEach [e] X.env = (false, eval e X.env) :: starEach [] X.env := by rfl) (hpl : (backTo pos (starEach [] X.env)).any (·.1) = false := by rfl) :
    DE X ct pm Γ (.Call (.Name "any" p) [e] [] pos) pu .fz (eArg fAny dr) := de_cb (cr_any hc) (opA_flat fun F H vs xs z Q e m q k => by
  match xs, q with
  | [.lst xs], q =>
    obtain ⟨v, rfl, r⟩ := reps1 m
    have q : (bls? xs).map (fun ns => D.bl (ns.any id)) = some z := q
    cases g : bls? xs with
    | none => rw [g] at q; cases q
    | some ns =>
      rw [g] at q
      cases q
      rw [bls_map g] at r
      cases r with
      | lst h t => rw [t.blsV] at h; exact ⟨_, ns, rfl, .inl (.inl (e _ _ h)), k _ (.bl _)⟩) hg hm (by decide +kernel) ha (by decide) (by decide) he hpl
theorem de_all {p : Pos} (hc : X.calm = true) (ha : DA X ct pm Γ [e] pu dr) (hm : X.mg "all" = none) (hg : Gl X "all" := by rfl) (he : starEach [e] X.env = (false, eval e X.env) :: starEach [] X.env := by rfl) (hpl : (backTo pos (starEach [] X.env)).any (·.1) = false := by rfl) :
    DE X ct pm Γ (.Call (.Name "all" p) [e] [] pos) pu .fz (eArg fAll dr) := de_cb (cr_all hc) (opA_flat fun F H vs xs z Q e m q k => by
  match xs, q with
  | [.lst xs], q =>
    obtain ⟨v, rfl, r⟩ := reps1 m
    have q : (bls? xs).map (fun ns => D.bl (ns.all id)) = some z := q
    cases g : bls? xs with
    | none => rw [g] at q; cases q
    | some ns =>
      rw [g] at q
      cases q
      rw [bls_map g] at r
      cases r with
      | lst h t => rw [t.blsV] at h; exact ⟨_, ns, rfl, .inl (.inl (e _ _ h)), k _ (.bl _)⟩) hg hm (by decide +kernel) ha (by decide) (by decide) he hpl
/-! ### slices -/
inductive OO where
  | ok (o : Option Int) (ρ : Ro) | exc (x : Exc) (ρ : Ro) | stk
def OO.bnd : OO → (Option Int → Ro → EO) → EO
  | .ok d ρ, k => k d ρ
  | .exc x ρ, _ => .exc x ρ
  | .stk, _ => .stk
def OPost (c : PC') (pu : Bool) (ρ : Ro) (F : Hp) (fp : List Addr) (H : Hp) (σ : L2.St) (W : WX) (Q : Option Int → Hp → Prop) : OO → Prop
  | .ok o ρ' => ∀ F' fp' H', c.SR ρ' F' fp' σ H' → Tr F fp H F' fp' H' → Pu pu ρ fp H ρ' fp' H' → Q o H'
  | .exc x ρ' => ∀ cls da F' fp' H', c.SR ρ' F' fp' σ H' → Tr F fp H F' fp' H' → XRep c.K c.ct F' x cls da → W cls da σ H'
  | .stk => False
theorem OPost.bind {c : PC'} {ρ : Ro} {F H : Hp} {fp : List Addr} {σ : L2.St} {W : WX} {Q : VK} {Q1 : Option Int → Hp → Prop} {k : Option Int → Ro → EO} {o : OO} (h : EPost c (pu1 && pu2) s ρ F fp H σ W Q (o.bnd k))
    (g : ∀ d ρ1 F1 fp1 H1, c.SR ρ1 F1 fp1 σ H1 → Tr F fp H F1 fp1 H1 → EPost c pu2 s ρ1 F1 fp1 H1 σ W Q (k d ρ1) → Q1 d H1) : OPost c pu1 ρ F fp H σ W Q1 o := by
  cases o with
  | ok d ρ' => exact fun F' fp' H' sr tr q => g d ρ' F' fp' H' sr tr (EPost.weaken (show EPost c (pu1 && pu2) s ρ F fp H σ W Q (k d ρ') from h) tr q)
  | exc x ρ' => exact h
  | stk => exact h
structure DO (X : Cx) (ct : String → Option Addr) (pm : List Bool) (Γ : List Sh) (e : Option Expr) (pu : Bool) (den : Ro → OO) : Prop where
  run : ∀ W, Takes X W → ∃ t, PO X e t ∧ ∀ pv ρ F fp σ H Q, SR X.K ct Γ pm pv ρ F fp σ H → OPost ⟨X.K, ct, Γ, pm, pv⟩ pu ρ F fp H σ W Q (den ρ) → t σ H Q
def oNone : Ro → OO := fun ρ => .ok none ρ
def oSome (da : Ro → EO) : Ro → OO := fun ρ => match da ρ with
  | .ok (.int i) ρ1 => .ok (some i) ρ1
  | .exc x ρ1 => .exc x ρ1
  | _ => .stk
theorem do_none : DO X ct pm Γ none pu oNone := ⟨fun W tk => ⟨_, po_none, fun pv ρ F fp σ H Q sr p => p F fp H sr Tr.refl Pu.refl⟩⟩
theorem do_some (h : DE X ct pm Γ e pu .fz da) : DO X ct pm Γ (some e) pu (oSome da) := ⟨fun W tk => by
  obtain ⟨t, p, r⟩ := h.run W tk
  refine ⟨_, po_some p, fun pv ρ F fp σ H Q sr q => ?_⟩
  refine r pv ρ F fp σ H _ sr ?_
  unfold oSome at q
  cases g : da ρ with
  | stk => rw [g] at q; exact q
  | exc x ρ1 => rw [g] at q; exact q
  | ok d ρ1 =>
    rw [g] at q
    cases d with
    | int i =>
      intro v F1 fp1 fv H1 sr1 tr1 m1 nd1 z1
      cases m1 with
      | fz m1 =>
        cases m1
        rw [List.append_nil] at tr1
        exact ⟨i, rfl, q F1 fp1 H1 sr1 tr1 z1⟩
    | _ => exact q.elim⟩
def cutD {α : Type} (xs : List α) (lo hi : Option Int) : List α := (xs.drop (HT.sIx xs.length 0 lo)).take (HT.sIx xs.length xs.length hi - HT.sIx xs.length 0 lo)
def eSl (f : D → Option Int → Option Int → Option D) (da : Ro → EO) (dl dh : Ro → OO) : Ro → EO := fun ρ => (da ρ).bnd fun x ρ1 => (dl ρ1).bnd fun l ρ2 => (dh ρ2).bnd fun h ρ3 => EO.of (f x l h) ρ3
def OpS (K : PySem.W.Frag) (ct : String → Option Addr) (r : V → Option Int → Option Int → Hp → VK → Prop) (s : Sh) (f : D → Option Int → Option Int → Option D) : Prop := ∀ (F H : Hp) (v : V) (lo hi : Option Int) (x z : D) (Q : VK), Same F H → Rep K ct F v x → f x lo hi = some z →
  (∀ u F' fv H', Grow F H F' H' → MRep K ct F' H' s u z fv → (∀ b ∈ fv, H b = none) → fv.Nodup → Q u H') → r v lo hi H Q
theorem de_slR {r : V → Option Int → Option Int → Hp → VK → Prop} {f : D → Option Int → Option Int → Option D} {lo hi : Option Expr} {p2 : Pos} {dl dh : Ro → OO} (hr : SlR X r) (o : OpS X.K ct r s f) (ha : DE X ct pm Γ a pu1 .fz da) (hl : DO X ct pm Γ lo pu2 dl) (hh : DO X ct pm Γ hi pu3 dh) :
    DE X ct pm Γ (.Subscript a (.Slice lo hi none p2) pos) (pu1 && (pu2 && pu3)) s (eSl f da dl dh) := ⟨fun W tk => by
  obtain ⟨ta, pa, ea⟩ := ha.run W tk
  obtain ⟨tl, pl, el⟩ := hl.run W tk
  obtain ⟨th, ph, eh⟩ := hh.run W tk
  refine ⟨_, pe_slice hr pa pl ph, fun pv ρ F fp σ H Q sr p => ?_⟩
  rw [← puAnd3] at p
  refine ea pv ρ F fp σ H _ sr (EPost.bind p fun x ρ1 v F1 fp1 H1 sr1 tr1 m1 p1 => ?_)
  refine el pv ρ1 F1 fp1 σ H1 _ sr1 (OPost.bind p1 fun l ρ2 F2 fp2 H2 sr2 tr2 p2 => ?_)
  refine eh pv ρ2 F2 fp2 σ H2 _ sr2 (OPost.bind p2 fun h ρ3 F3 fp3 H3 sr3 tr3 p3 => ?_)
  cases g : f x l h with
  | none => rw [g] at p3; exact p3.elim
  | some z =>
    rw [g] at p3
    exact o F3 H3 v l h x z Q sr3.sub ((m1.mono tr2.grow).mono tr3.grow) g fun u F' fv H' gr m hv nd => EPost.fin p3 sr3 gr m hv nd⟩
theorem Reps.cut {K : PySem.W.Frag} {F : Hp} {vs : List V} {xs : List D} (r : Reps K ct F vs xs) (lo hi : Option Int) : Reps K ct F (cutV vs lo hi) (cutD xs lo hi) := by
  unfold cutV cutD
  rw [r.len]
  exact (r.drop _).take _
def fSlL : D → Option Int → Option Int → Option D
  | .lst xs, lo, hi => some (.lst (cutD xs lo hi))
  | .scr ns, lo, hi => some (.lst (cutD (ns.map .int) lo hi))
  | _, _, _ => none
def fSlS : D → Option Int → Option Int → Option D
  | .str z, lo, hi => if z.length ≤ sizeLine then some (.str (cutS z lo hi)) else none
  | _, _, _ => none
def fSlT : D → Option Int → Option Int → Option D
  | .tup xs, lo, hi => if HT.sIx xs.length 0 lo = 0 ∧ HT.sIx xs.length xs.length hi = xs.length then none else some (.tup (cutD xs lo hi))
  | _, _, _ => none
variable {lo hi : Option Expr} {p2 : Pos} {dl dh : Ro → OO}
theorem de_slL (ha : DE X ct pm Γ a pu1 .fz da) (hl : DO X ct pm Γ lo pu2 dl) (hh : DO X ct pm Γ hi pu3 dh) : DE X ct pm Γ (.Subscript a (.Slice lo hi none p2) pos) (pu1 && (pu2 && pu3)) (.ml .fz) (eSl fSlL da dl dh) :=
  de_slR sl_list (fun F H v lo hi x z Q e r q k => by
    cases x with
    | lst xs =>
      cases q
      cases r with
      | lst h t => exact ⟨_, _, rfl, .inl (.inl (e _ _ h)), fun p hp => newList_k e hp (t.cut lo hi) k⟩
    | scr xs =>
      cases q
      cases r with
      | scr h => exact ⟨_, _, rfl, e.seq h, fun p hp => newList_k e hp ((Reps.ints xs).cut lo hi) k⟩
    | _ => cases q) ha hl hh
theorem de_slS (ha : DE X ct pm Γ a pu1 .fz da) (hl : DO X ct pm Γ lo pu2 dl) (hh : DO X ct pm Γ hi pu3 dh) : DE X ct pm Γ (.Subscript a (.Slice lo hi none p2) pos) (pu1 && (pu2 && pu3)) .fz (eSl fSlS da dl dh) :=
  de_slR sl_str (fun F H v lo hi x z Q e r q k => by
    cases x with
    | str xs =>
      cases r
      simp only [fSlS] at q
      split at q
      · rename_i hl; cases q; exact ⟨_, rfl, hl, k _ F [] H (Grow.refl e) (.fz (.str _)) (by simp) .nil⟩
      · cases q
    | _ => cases q) ha hl hh
theorem de_slT (ha : DE X ct pm Γ a pu1 .fz da) (hl : DO X ct pm Γ lo pu2 dl) (hh : DO X ct pm Γ hi pu3 dh) : DE X ct pm Γ (.Subscript a (.Slice lo hi none p2) pos) (pu1 && (pu2 && pu3)) .fz (eSl fSlT da dl dh) :=
  de_slR sl_tup (fun F H v lo hi x z Q e r q k => by
    cases x with
    | tup xs =>
      cases r with
      | tup h t =>
        simp only [fSlT] at q
        split at q
        · cases q
        · rename_i hl; cases q; exact ⟨_, _, rfl, sqT_mono e h, by rw [t.len]; exact hl, fun p hp => newTup_k e hp (t.cut lo hi) k⟩
    | _ => cases q) ha hl hh
/-- xs[::-1] -/
def fRevL : D → Option D
  | .lst xs => some (.lst xs.reverse)
  | _ => none
theorem de_revL {k : Nat} {p1 p2 p3 : Pos} (ha : DE X ct pm Γ e pu .fz da) : DE X ct pm Γ (.Subscript e (.Slice none none (some (.UnaryOp .USub (.Constant (.int 1) k p1) p2)) p3) pos) pu (.ml .fz) (eUn fRevL da) := ⟨fun W tk => by
  obtain ⟨ta, pa, ea⟩ := ha.run W tk
  refine ⟨_, pe_revL pa, fun pv ρ F fp σ H Q sr p => ?_⟩
  refine ea pv ρ F fp σ H _ sr (EPost.bind (pu2 := true) (k := fun x ρ1 => EO.of (fRevL x) ρ1) (Q := Q) (s := .ml .fz) (by rw [Bool.and_true]; exact p) fun x ρ1 v F1 fp1 H1 sr1 tr1 m1 p1 => ?_)
  cases x with
  | lst xs =>
    cases m1 with
    | lst h t => exact ⟨_, _, rfl, .inl (.inl (sr1.sub _ _ h)), fun p hp => newList_k sr1.sub hp t.rev fun u F' fv H' g m hv nd => EPost.fin p1 sr1 g m hv nd⟩
  | _ => exact p1.elim⟩
end
end DL
namespace DL
open PySem Spec PyProof.Rows L2
/-! ### slots set and wiped -/
section
variable {K : PySem.W.Frag} {ct : String → Option Addr} {Γ : List Sh} {pm : List Bool} {pv : List V} {ρ : Ro} {F F' : Hp} {fp fp' : List Addr} {σ : L2.St} {H H' : Hp}
/-- slot i is overwritten, or moved out -/
theorem SR.put (h : SR K ct Γ pm pv ρ F fp σ H) {i : Nat} (hi : i < Γ.length) (hp : pm[i]? ≠ some true) {s : Sh} {v : Option V} {d : Option D} {fv : List Addr} (hs : SlotR K ct F H s v d fv) (nd : (fp ++ fv).Nodup) :
    ∃ fp', SR K ct (Γ.set i s) pm pv (ρ.set i d) F fp' (σ.set i v) H ∧ ∀ b ∈ fp', b ∈ fp ++ fv := by
  obtain ⟨hl1, hl2⟩ := h.slots.lens
  have hx : ρ[i]? = some ρ[i] := List.getElem?_eq_getElem (by omega)
  obtain ⟨t, u, l, p, r, h1, h2, h3, h4, h5⟩ := h.slots.at hx
  have q := h5 (Same.refl F) (F' := F) (H' := H) (fun b hb => ⟨rfl, (h.there b (by rw [h3]; rcases hb with z | z <;> simp [z])).2⟩) hs
  refine ⟨l ++ (fv ++ r), ⟨h.sub, q, ?_, fun j w hj hw => ?_⟩, fun b hb => ?_⟩
  · have : (l ++ (fv ++ r)).Sublist (l ++ (fv ++ (p ++ r))) := (List.Sublist.refl l).append ((List.Sublist.refl fv).append (List.sublist_append_right p r))
    have pm' : (l ++ (fv ++ (p ++ r))).Perm (fp ++ fv) := by
      rw [h3, List.append_assoc]
      exact List.Perm.append_left l List.perm_append_comm
    exact this.nodup (pm'.nodup_iff.mpr nd)
  · have hij : i ≠ j := fun e => by subst e; exact hp hj
    rw [List.getElem?_set_ne hij]
    exact h.pins j w hj hw
  · rw [h3]
    simp only [List.mem_append] at hb ⊢
    rcases hb with z | z | z <;> simp [z]
/-- a frozen slot gets a frozen value -/
theorem SR.setF (h : SR K ct Γ pm pv ρ F fp σ H) {i : Nat} (hg : Γ[i]? = some .fz) (hp : pm[i]? ≠ some true) {v : Option V} {d : Option D} (hs : SlotR K ct F H .fz v d []) : SR K ct Γ pm pv (ρ.set i d) F fp (σ.set i v) H := by
  obtain ⟨hl1, hl2⟩ := h.slots.lens
  have hi : i < Γ.length := (List.getElem?_eq_some_iff.mp hg).1
  obtain ⟨x, hx⟩ : ∃ x, ρ[i]? = some x := ⟨_, List.getElem?_eq_getElem (by omega)⟩
  obtain ⟨t, u, l, p, r, h1, h2, h3, h4, h5⟩ := h.slots.at hx
  have et : t = .fz := by rw [h1] at hg; exact Option.some.inj hg
  subst et
  have ep : p = [] := by
    cases h4 with
    | no => rfl
    | yes m => cases m; rfl
  subst ep
  have q := h5 (Same.refl F) (F' := F) (H' := H) (fun b hb => ⟨rfl, (h.there b (by rw [h3]; rcases hb with z | z <;> simp [z])).2⟩) hs
  have eg : Γ.set i .fz = Γ := by
    apply List.ext_getElem?
    intro j
    by_cases e : i = j
    · subst e; rw [List.getElem?_set_self hi, hg]
    · rw [List.getElem?_set_ne e]
  rw [eg] at q
  rw [h3]
  refine ⟨h.sub, q, by rw [← h3]; exact h.nd, fun j w hj hw => ?_⟩
  have hij : i ≠ j := fun e => by subst e; exact hp hj
  rw [List.getElem?_set_ne hij]
  exact h.pins j w hj hw
def wipeR (ρ : Ro) : List Nat → Ro
  | [] => ρ
  | v :: vs => (wipeR ρ vs).set v none
def restR (ρ0 ρ : Ro) : List Nat → Ro
  | [] => ρ
  | v :: vs => (restR ρ0 ρ vs).set v (ρ0[v]?.getD none)
/-- the slots vs may be wiped -/
def Wip (Γ : List Sh) (pm : List Bool) (vs : List Nat) : Prop := ∀ i ∈ vs, Γ[i]? = some .fz ∧ pm[i]? ≠ some true
theorem SR.wipe : ∀ {vs : List Nat}, Wip Γ pm vs → SR K ct Γ pm pv ρ F fp σ H → SR K ct Γ pm pv (wipeR ρ vs) F fp (L2.wipe σ vs) H
  | [], _, h => h
  | v :: vs, w, h => (SR.wipe (fun i hi => w i (List.mem_cons_of_mem _ hi)) h).setF (w v List.mem_cons_self).1 (w v List.mem_cons_self).2 .no
theorem wipe_get {σ : L2.St} {i : Nat} : ∀ {vs : List Nat}, i ∈ vs → i < σ.length → (L2.wipe σ vs)[i]? = some none
  | v :: vs, h, hl => by
    unfold L2.wipe
    by_cases e : v = i
    · subst e; rw [List.getElem?_set_self (by rw [L2.wipe_length]; exact hl)]
    · rw [List.getElem?_set_ne e]
      exact wipe_get ((List.mem_cons.mp h).resolve_left fun z => e z.symm) hl
theorem wipe_eq {σ τ : L2.St} {vs : List Nat} (hl : σ.length = τ.length) (h : ∀ i, i ∉ vs → σ[i]? = τ[i]?) : L2.wipe σ vs = L2.wipe τ vs := by
  apply List.ext_getElem?
  intro i
  by_cases hi : i ∈ vs
  · by_cases hb : i < σ.length
    · rw [wipe_get hi hb, wipe_get hi (by omega)]
    · rw [List.getElem?_eq_none (by rw [L2.wipe_length]; omega), List.getElem?_eq_none (by rw [L2.wipe_length]; omega)]
  · rw [L2.wipe_out hi, L2.wipe_out hi, h i hi]
theorem wipe_wipe {σ : L2.St} {vs : List Nat} : L2.wipe (L2.wipe σ vs) vs = L2.wipe σ vs := wipe_eq (by rw [L2.wipe_length]) fun i hi => L2.wipe_out hi
end
/-! ### targets -/
inductive Tgt where
  | nm (i : Nat) | tp (is : List Nat)
def Tgt.ix : Tgt → List Nat
  | .nm i => [i]
  | .tp is => is
def gSeq : List Nat → TGs
  | [] => gNil
  | i :: is => gCons (gName i) (gSeq is)
def Tgt.g (K : PySem.W.Frag) : Tgt → TG
  | .nm i => gName i
  | .tp is => gTup K is.length (gSeq is)
def setSeq : List Nat → List D → Ro → Option Ro
  | [], [], ρ => some ρ
  | i :: is, d :: ds, ρ => setSeq is ds (ρ.set i (some d))
  | _, _, _ => none
def Tgt.s : Tgt → D → Ro → Option Ro
  | .nm i, d, ρ => some (ρ.set i (some d))
  | .tp is, .tup ds, ρ => setSeq is ds ρ
  | .tp _, _, _ => none
section
variable {K : PySem.W.Frag} {ct : String → Option Addr} {Γ : List Sh} {pm : List Bool} {pv : List V} {ρ ρ' : Ro} {F : Hp} {fp : List Addr} {σ : L2.St} {H : Hp}
theorem setSeq_run : ∀ {is : List Nat} {ds : List D} {vs : List V} {ρ : Ro} {σ : L2.St} {Q : L2.St → Hp → Prop}, SR K ct Γ pm pv ρ F fp σ H → Wip Γ pm is → Reps K ct F vs ds → setSeq is ds ρ = some ρ' →
    (∀ σ', SR K ct Γ pm pv ρ' F fp σ' H → σ'.length = σ.length → (∀ j, j ∉ is → σ'[j]? = σ[j]?) → Q σ' H) → gSeq is vs σ H Q
  | [], [], _, ρ, σ, Q, sr, w, r, e, k => by
    cases r; cases e
    exact ⟨rfl, k σ sr rfl fun _ _ => rfl⟩
  | i :: is, d :: ds, _, ρ, σ, Q, sr, w, r, e, k => by
    cases r with
    | cons r t =>
      obtain ⟨w1, w2⟩ := w i List.mem_cons_self
      refine ⟨_, _, rfl, ?_⟩
      refine setSeq_run (sr.setF w1 w2 (.yes (.fz r))) (fun j hj => w j (List.mem_cons_of_mem _ hj)) t e fun σ' sr' hl hn => k σ' sr' (by rw [hl, List.length_set]) fun j hj => ?_
      rw [hn j fun z => hj (List.mem_cons_of_mem _ z), List.getElem?_set_ne fun z => hj (by rw [z]; exact List.mem_cons_self)]
  | [], _ :: _, _, _, _, _, _, _, _, e, _ => by cases e
  | _ :: _, [], _, _, _, _, _, _, _, e, _ => by cases e
theorem setSeq_len : ∀ {is : List Nat} {ds : List D} {ρ ρ' : Ro}, setSeq is ds ρ = some ρ' → ds.length = is.length
  | [], [], _, _, _ => rfl
  | i :: is, d :: ds, _, _, e => by rw [List.length_cons, List.length_cons, setSeq_len (is := is) (ds := ds) e]
  | [], _ :: _, _, _, e => by cases e
  | _ :: _, [], _, _, e => by cases e
theorem Tgt.run {t : Tgt} {d : D} {v : V} {Q : L2.St → Hp → Prop} (sr : SR K ct Γ pm pv ρ F fp σ H) (w : Wip Γ pm t.ix) (r : Rep K ct F v d) (e : t.s d ρ = some ρ')
    (k : ∀ σ', SR K ct Γ pm pv ρ' F fp σ' H → σ'.length = σ.length → (∀ j, j ∉ t.ix → σ'[j]? = σ[j]?) → Q σ' H) : t.g K v σ H Q := by
  cases t with
  | nm i =>
    obtain ⟨w1, w2⟩ := w i (by simp [Tgt.ix])
    cases e
    exact k _ (sr.setF w1 w2 (.yes (.fz r))) (by rw [List.length_set]) fun j hj => by rw [List.getElem?_set_ne (by simpa [Tgt.ix, eq_comm] using hj)]
  | tp is =>
    cases d with
    | tup ds =>
      cases r with
      | tup h t => exact ⟨_, _, rfl, sqT_mono sr.sub h, by rw [t.len]; exact setSeq_len e, setSeq_run sr w t e k⟩
    | _ => cases e
end
/-- the rule for a target in a context -/
structure TG' (X : Cx) (tg : Expr) (t : Tgt) : Prop where
  ok : PG X tg (t.g X.K)
theorem tg_nm {X : Cx} {i : Nat} {x : Str} {pos : Pos} (hN : X.N.Nodup) (hi : X.N[i]? = some x := by rfl) (hx : Loc X.env.scope x := by first | exact Or.inl rfl | exact Or.inr rfl) (hf : X.fn x = true ∨ X.env.scope.names.lookup x = some .local := by first | exact .inl rfl | exact .inr rfl) : TG' X (.Name x pos) (.nm i) := ⟨pg_name hN hi hx hf⟩
/-! ### what is walked -/
def YR (K : PySem.W.Frag) (ct : String → Option Addr) (F : Hp) (d : D) (H2 : Hp) (x : V) (H3 : Hp) : Prop := ∀ F2, Same F F2 → Same F2 H2 → ∃ F3, Grow F2 H2 F3 H3 ∧ Rep K ct F3 x d
def IPost (c : PC') (pu : Bool) (ρ : Ro) (F : Hp) (fp : List Addr) (H : Hp) (σ : L2.St) (W : WX) (R : It → Hp → Prop) : EO → Prop
  | .ok (.lst ds) ρ' => ∀ J F' fp' H' Y (A : List Addr), c.SR ρ' F' fp' σ H' → Tr F fp H F' fp' H' → (∀ b ∈ A, (H' b ≠ none ∧ F' b = none) ∧ b ∉ fp') → Walk J ds.length (fun H2 => Same F' H2 ∧ ∀ b ∈ A, H2 b = H' b) Y → (∀ i d x H2 H3, ds[i]? = some d → Same F' H2 → Y i H2 x H3 → YR c.K c.ct F' d H2 x H3) → Pu pu ρ fp H ρ' fp' H' → R J H'
  | .exc x ρ' => ∀ cls da F' fp' H', c.SR ρ' F' fp' σ H' → Tr F fp H F' fp' H' → XRep c.K c.ct F' x cls da → W cls da σ H'
  | _ => False
structure DI (X : Cx) (ct : String → Option Addr) (pm : List Bool) (Γ : List Sh) (tg iter : Expr) (pu : Bool) (den : Ro → EO) : Prop where
  run : ∀ W, Takes X W → ∃ t, PI X tg iter t ∧ ∀ pv ρ F fp σ H R, SR X.K ct Γ pm pv ρ F fp σ H → IPost ⟨X.K, ct, Γ, pm, pv⟩ pu ρ F fp H σ W R (den ρ) → t σ H R
section
variable {X : Cx} {ct : String → Option Addr} {pm : List Bool} {Γ : List Sh} {pu pu1 pu2 pu3 : Bool} {s : Sh} {pos : Pos} {tg a b e : Expr} {es : List Expr} {da db dc : Ro → EO} {dr : Ro → AO}
theorem yr_same {K : PySem.W.Frag} {F : Hp} {d : D} {H2 : Hp} {x : V} (r : Rep K ct F x d) : YR K ct F d H2 x H2 := fun F2 e1 e2 => ⟨F2, Grow.refl e2, r.mono e1⟩
def eBnd (da : Ro → EO) (f : D → Option D) : Ro → EO := fun ρ => (da ρ).bnd fun x ρ1 => EO.of (f x) ρ1
def itL : D → Option D
  | .lst xs => some (.lst xs)
  | .scr ns => some (.lst (ns.map .int))
  | _ => none
def itT : D → Option D
  | .tup xs => some (.lst xs)
  | _ => none
def itS : D → Option D
  | .str z => some (.lst (z.cps.toList.map fun c => .str ⟨#[c]⟩))
  | _ => none
theorem IPost.bind {c : PC'} {ρ : Ro} {F H : Hp} {fp : List Addr} {σ : L2.St} {W : WX} {R : It → Hp → Prop} {Q1 : VK} {f : D → Option D} (h : IPost c pu ρ F fp H σ W R (eBnd da f ρ))
    (g : ∀ d ds ρ1 v F1 fp1 H1, f d = some (.lst ds) → c.SR ρ1 F1 fp1 σ H1 → Tr F fp H F1 fp1 H1 → Rep c.K c.ct F1 v d →
      (∀ J Y, Walk J ds.length (fun H2 => Same F1 H2) Y → (∀ i d x H2 H3, ds[i]? = some d → Same F1 H2 → Y i H2 x H3 → YR c.K c.ct F1 d H2 x H3) → R J H1) → Q1 v H1) : EPost c pu .fz ρ F fp H σ W Q1 (da ρ) := by
  unfold eBnd at h
  cases q : da ρ with
  | stk => rw [q] at h; exact h
  | exc x ρ1 => rw [q] at h; exact h
  | ok d ρ1 =>
    rw [q] at h
    intro v F1 fp1 fv H1 sr1 tr1 m1 nd1 z1
    cases m1 with
    | fz m1 =>
      rw [List.append_nil] at tr1
      have h : IPost c pu ρ F fp H σ W R (EO.of (f d) ρ1) := h
      cases q2 : f d with
      | none => rw [q2] at h; exact h.elim
      | some z =>
        rw [q2] at h
        cases z with
        | lst ds => exact g d ds ρ1 v F1 fp1 H1 q2 sr1 tr1 m1 fun J Y w y => h J F1 fp1 H1 Y [] sr1 tr1 (by simp) (w.mono (fun H g => g.1) fun i H x H' hi g y => y) y z1
        | _ => exact h.elim
theorem di_list (ha : DE X ct pm Γ e pu .fz da) : DI X ct pm Γ tg e pu (eBnd da itL) := ⟨fun W tk => by
  obtain ⟨t, p, r⟩ := ha.run W tk
  refine ⟨_, pi_list p, fun pv ρ F fp σ H R sr q => r pv ρ F fp σ H _ sr (IPost.bind q fun d ds ρ1 v F1 fp1 H1 ef sr1 tr1 m1 k => ?_)⟩
  cases d with
  | lst xs =>
    cases ef
    cases m1 with
    | lst h t =>
      have hL : SqL X.K F1 _ _ := .inl (.inl h)
      refine ⟨_, rfl, ⟨_, sr1.sub.seq hL⟩, k _ _ ((t.len ▸ walk_list).mono (fun H g => g.seq hL) fun i H x H' hi g y => y) fun i d x H2 H3 hd hs y => ?_⟩
      obtain ⟨rfl, y2⟩ := y
      obtain ⟨v, h1, h2⟩ := t.at hd
      rw [h1] at y2
      cases y2
      exact yr_same h2
  | scr ns =>
    cases ef
    cases m1 with
    | @scr a1 _ hL =>
      have wl : Walk (Itl X.K a1) (ns.map D.int).length (fun H2 => Same F1 H2) (YAt (ns.map V.int)) := by
        have := (walk_list (K := X.K) (a := a1) (xs := ns.map V.int)).mono (G' := fun H => Same F1 H) (Y' := YAt (ns.map V.int)) (fun H g => g.seq hL) fun i H x H' hi g y => y
        rw [List.length_map] at this ⊢
        exact this
      refine ⟨_, rfl, ⟨_, sr1.sub.seq hL⟩, k _ _ wl fun i d x H2 H3 hd hs y => ?_⟩
      obtain ⟨rfl, y2⟩ := y
      rw [List.getElem?_map] at hd y2
      cases g : ns[i]? with
      | none => rw [g] at hd; cases hd
      | some n => rw [g] at hd y2; cases hd; cases y2; exact yr_same (.int n)
  | _ => cases ef⟩
theorem di_tup (ha : DE X ct pm Γ e pu .fz da) : DI X ct pm Γ tg e pu (eBnd da itT) := ⟨fun W tk => by
  obtain ⟨t, p, r⟩ := ha.run W tk
  refine ⟨_, pi_tup p, fun pv ρ F fp σ H R sr q => r pv ρ F fp σ H _ sr (IPost.bind q fun d ds ρ1 v F1 fp1 H1 ef sr1 tr1 m1 k => ?_)⟩
  cases d with
  | tup xs =>
    cases ef
    cases m1 with
    | tup h t =>
      refine ⟨_, rfl, ⟨_, sqT_mono sr1.sub h⟩, k _ _ ((t.len ▸ walk_tup).mono (fun H g => sqT_mono g h) fun i H x H' hi g y => y) fun i d x H2 H3 hd hs y => ?_⟩
      obtain ⟨rfl, y2⟩ := y
      obtain ⟨v, h1, h2⟩ := t.at hd
      rw [h1] at y2
      cases y2
      exact yr_same h2
  | _ => cases ef⟩
theorem di_str (ha : DE X ct pm Γ e pu .fz da) : DI X ct pm Γ tg e pu (eBnd da itS) := ⟨fun W tk => by
  obtain ⟨t, p, r⟩ := ha.run W tk
  refine ⟨_, pi_str p, fun pv ρ F fp σ H R sr q => r pv ρ F fp σ H _ sr (IPost.bind q fun d ds ρ1 v F1 fp1 H1 ef sr1 tr1 m1 k => ?_)⟩
  cases d with
  | str x =>
    cases ef
    cases m1
    have wl : Walk (Its x) (x.cps.toList.map fun c => D.str ⟨#[c]⟩).length (fun H2 => Same F1 H2) (fun i H v H' => H' = H ∧ ∃ c, x.cps[i]? = some c ∧ v = .str ⟨#[c]⟩) := by
      have := (walk_str (z := x)).mono (G' := fun H => Same F1 H) (fun H g => trivial) fun i H x H' hi g y => y
      rw [List.length_map, Array.length_toList]
      exact this
    refine ⟨x, rfl, k _ _ wl fun i d v H2 H3 hd hs y => ?_⟩
    obtain ⟨rfl, c, y1, rfl⟩ := y
    rw [List.getElem?_map, Array.getElem?_toList, y1] at hd
    cases hd
    exact yr_same (.str _)
  | _ => cases ef⟩
/-! ranges -/
def rangeD (lo : Int) (n : Nat) (c : Int) : List D := (List.range n).map fun (k : Nat) => .int (lo + k * c)
def aBnd (dr : Ro → AO) (f : List D → Option D) : Ro → EO := fun ρ => (dr ρ).bnd fun x ρ1 => EO.of (f x) ρ1
theorem IPost.bindA {c : PC'} {ρ : Ro} {F H : Hp} {fp : List Addr} {σ : L2.St} {W : WX} {R : It → Hp → Prop} {Q1 : List V → Hp → Prop} {f : List D → Option D} (h : IPost c pu ρ F fp H σ W R (aBnd dr f ρ))
    (g : ∀ d ds ρ1 v F1 fp1 H1, f d = some (.lst ds) → c.SR ρ1 F1 fp1 σ H1 → Tr F fp H F1 fp1 H1 → Reps c.K c.ct F1 v d →
      (∀ J Y, Walk J ds.length (fun H2 => Same F1 H2) Y → (∀ i d x H2 H3, ds[i]? = some d → Same F1 H2 → Y i H2 x H3 → YR c.K c.ct F1 d H2 x H3) → R J H1) → Q1 v H1) : APost c pu ρ F fp H σ W Q1 (dr ρ) := by
  unfold aBnd at h
  cases q : dr ρ with
  | stk => rw [q] at h; exact h
  | exc x ρ1 => rw [q] at h; exact h
  | ok d ρ1 =>
    rw [q] at h
    intro v F1 fp1 H1 sr1 tr1 m1 z1
    have h : IPost c pu ρ F fp H σ W R (EO.of (f d) ρ1) := h
    cases q2 : f d with
    | none => rw [q2] at h; exact h.elim
    | some z =>
      rw [q2] at h
      cases z with
      | lst ds => exact g d ds ρ1 v F1 fp1 H1 q2 sr1 tr1 m1 fun J Y w y => h J F1 fp1 H1 Y [] sr1 tr1 (by simp) (w.mono (fun H g => g.1) fun i H x H' hi g y => y) y z1
      | _ => exact h.elim
def rOk (i : Int) : Prop := -(2 ^ 62) ≤ i ∧ i < 2 ^ 62
instance (i : Int) : Decidable (rOk i) := by unfold rOk; infer_instance
def itR1 : List D → Option D
  | [.int n] => if rOk n then some (.lst (rangeD 0 n.toNat 1)) else none
  | _ => none
def itR2 : List D → Option D
  | [.int i, .int j] => if rOk i ∧ rOk j then some (.lst (rangeD i (j - i).toNat 1)) else none
  | _ => none
theorem walk_fn {J : It} {n : Nat} {F1 : Hp} {f : Nat → Int} {ds : List D} (w : Walk J n (fun _ => True) (YFn fun i => .int (f i))) (hl : ds.length = n) (hd : ∀ i, i < n → ds[i]? = some (.int (f i))) {K : PySem.W.Frag} {R : It → Hp → Prop} {H1 : Hp}
    (k : ∀ J Y, Walk J ds.length (fun H2 => Same F1 H2) Y → (∀ i d x H2 H3, ds[i]? = some d → Same F1 H2 → Y i H2 x H3 → YR K ct F1 d H2 x H3) → R J H1) : R J H1 := by
  have wl := w.mono (G' := fun H => Same F1 H) (fun H g => trivial) fun i H x H' hi g y => y
  rw [← hl] at wl
  refine k _ _ wl fun i d x H2 H3 h1 hs y => ?_
  obtain ⟨rfl, rfl⟩ := y
  have hi : i < ds.length := (List.getElem?_eq_some_iff.mp h1).1
  rw [hd i (by omega)] at h1
  cases h1
  exact yr_same (.int _)
theorem rangeD_len (lo : Int) (n : Nat) (c : Int) : (rangeD lo n c).length = n := by simp [rangeD]
theorem rangeD_get (lo : Int) (n : Nat) (c : Int) (i : Nat) (h : i < n) : (rangeD lo n c)[i]? = some (.int (lo + i * c)) := by
  unfold rangeD
  rw [List.getElem?_map, List.getElem?_range h]
  rfl
theorem di_range1 {p : Pos} (ha : DA X ct pm Γ [a] pu dr) (hm : X.mg "range" = none) (hg : Gl X "range" := by rfl) (hs : starEach [a] X.env = [(false, eval a X.env)] := by rfl) : DI X ct pm Γ tg (.Call (.Name "range" p) [a] [] pos) pu (aBnd dr itR1) := ⟨fun W tk => by
  obtain ⟨t, p, r⟩ := ha.run W tk
  refine ⟨_, pi_range1 hg hm p hs, fun pv ρ F fp σ H R sr q => r pv ρ F fp σ H _ sr (IPost.bindA q fun d ds ρ1 v F1 fp1 H1 ef sr1 tr1 m1 k => ?_)⟩
  match d, ef with
  | [.int n], ef =>
    obtain ⟨w, rfl, r⟩ := reps1 m1
    cases r
    simp only [itR1] at ef
    split at ef
    · rename_i hn
      cases ef
      exact ⟨n, rfl, hn.1, hn.2, walk_fn (walk_range (lo := 0)) (rangeD_len _ _ _) (fun i hi => by rw [rangeD_get _ _ _ _ hi, Int.mul_one]) k⟩
    · cases ef⟩
theorem di_range2 {p : Pos} (ha : DA X ct pm Γ [a, b] pu dr) (hm : X.mg "range" = none) (hg : Gl X "range" := by rfl) (hs : starEach [a, b] X.env = [(false, eval a X.env), (false, eval b X.env)] := by rfl) (hs2 : starEach [b] X.env = [(false, eval b X.env)] := by rfl) : DI X ct pm Γ tg (.Call (.Name "range" p) [a, b] [] pos) pu (aBnd dr itR2) := ⟨fun W tk => by
  obtain ⟨t, p, r⟩ := ha.run W tk
  refine ⟨_, pi_range2 hg hm p hs hs2, fun pv ρ F fp σ H R sr q => r pv ρ F fp σ H _ sr (IPost.bindA q fun d ds ρ1 v F1 fp1 H1 ef sr1 tr1 m1 k => ?_)⟩
  match d, ef with
  | [.int i, .int j], ef =>
    obtain ⟨w, w2, rfl, r, r'⟩ := reps2 m1
    cases r; cases r'
    simp only [itR2] at ef
    split at ef
    · rename_i hn
      cases ef
      exact ⟨i, j, rfl, ⟨hn.1.1, hn.1.2, hn.2.1, hn.2.2⟩, walk_fn (walk_range (lo := i)) (rangeD_len _ _ _) (fun i hi => by rw [rangeD_get _ _ _ _ hi, Int.mul_one]) k⟩
    · cases ef⟩
def itR3 (c : Int) (hc : c ≠ 0 := by decide) : List D → Option D
  | [.int i, .int j, .int k] => if k = c ∧ rOk i ∧ rOk j then some (.lst (rangeD i (Builtin.Range.rangeSize i j c).toNat c)) else none
  | _ => none
/-! zip and enumerate -/
def zipD : List D → List D → List D
  | a :: as, b :: bs => .tup [a, b] :: zipD as bs
  | _, _ => []
theorem zipD_len : ∀ (xs ys : List D), (zipD xs ys).length = min xs.length ys.length
  | [], _ => by simp [zipD]
  | _ :: _, [] => by simp [zipD]
  | a :: as, b :: bs => by simp only [zipD, List.length_cons, zipD_len as bs]; omega
theorem zipD_get : ∀ {xs ys : List D} {i : Nat} {d : D}, (zipD xs ys)[i]? = some d → ∃ a b, d = .tup [a, b] ∧ xs[i]? = some a ∧ ys[i]? = some b
  | [], _, _, _, h => by simp [zipD] at h
  | _ :: _, [], _, _, h => by simp [zipD] at h
  | a :: as, b :: bs, 0, d, h => by simp [zipD] at h; exact ⟨a, b, h.symm, rfl, rfl⟩
  | a :: as, b :: bs, i + 1, d, h => by
    obtain ⟨x, y, h1, h2, h3⟩ := zipD_get (xs := as) (ys := bs) (i := i) (by simpa [zipD] using h)
    exact ⟨x, y, h1, by simpa using h2, by simpa using h3⟩
def itZ : List D → Option D
  | [.lst xs, .lst ys] => some (.lst (zipD xs ys))
  | _ => none
def enumD : Nat → List D → List D
  | _, [] => []
  | n, a :: as => .tup [.int n, a] :: enumD (n + 1) as
theorem enumD_len : ∀ (n : Nat) (xs : List D), (enumD n xs).length = xs.length
  | _, [] => rfl
  | n, a :: as => by simp only [enumD, List.length_cons, enumD_len (n + 1) as]
theorem enumD_get : ∀ {n : Nat} {xs : List D} {i : Nat} {d : D}, (enumD n xs)[i]? = some d → ∃ a, d = .tup [.int (n + i : Nat), a] ∧ xs[i]? = some a
  | _, [], _, _, h => by simp [enumD] at h
  | n, a :: as, 0, d, h => by simp [enumD] at h; exact ⟨a, h.symm, rfl⟩
  | n, a :: as, i + 1, d, h => by
    obtain ⟨x, h1, h2⟩ := enumD_get (n := n + 1) (xs := as) (i := i) (by simpa [enumD] using h)
    exact ⟨x, by rw [h1]; congr 4; omega, by simpa using h2⟩
def itE : List D → Option D
  | [.lst xs] => some (.lst (enumD 0 xs))
  | _ => none
theorem yr_pair {K : PySem.W.Frag} {F : Hp} {a b : D} {H2 : Hp} {T : Addr} {x y : V} (r : Rep K ct F x a) (q : Rep K ct F y b) (hT : H2 T = none) : YR K ct F (.tup [a, b]) H2 (.ref T) (upd H2 T (.tup [x, y])) := fun F2 e1 e2 =>
  have e3 := same_new (o := .tup [x, y]) (e2.free hT)
  ⟨upd F2 T (.tup [x, y]), Grow.newF e2 hT, .tup (.inl (.inl upd_same)) (.cons ((r.mono e1).mono e3) (.cons ((q.mono e1).mono e3) .nil))⟩
theorem di_zip {p tpos : Pos} {elts : List Expr} {kk : Nat} (ha : DA X ct pm Γ [a, b] pu dr) (hm : X.mg "zip" = none) (hg : Gl X "zip" := by rfl)
    (hp : ∀ {t : TA}, PA X [a, b] t → PI X (.Tuple elts kk tpos) (.Call (.Name "zip" p) [a, b] [] pos) (iZip X.K t) := by exact fun h => pi_zip (by rfl) (by assumption) h) : DI X ct pm Γ (.Tuple elts kk tpos) (.Call (.Name "zip" p) [a, b] [] pos) pu (aBnd dr itZ) := ⟨fun W tk => by
  obtain ⟨t, p, r⟩ := ha.run W tk
  refine ⟨_, hp p, fun pv ρ F fp σ H R sr q => r pv ρ F fp σ H _ sr (IPost.bindA q fun d ds ρ1 v F1 fp1 H1 ef sr1 tr1 m1 k => ?_)⟩
  match d, ef with
  | [.lst xs, .lst ys], ef =>
    obtain ⟨w, w2, rfl, r, r'⟩ := reps2 m1
    cases ef
    cases r with
    | lst h1 t1 =>
      cases r' with
      | lst h2 t2 =>
        have L1 : SqL X.K F1 _ _ := .inl (.inl h1)
        have L2 : SqL X.K F1 _ _ := .inl (.inl h2)
        refine ⟨_, _, _, _, rfl, sr1.sub.seq L1, sr1.sub.seq L2, ?_⟩
        have wl := (walk_zip (K := X.K) rfl).mono (G' := fun H => Same F1 H) (fun H g => ⟨g.seq L1, g.seq L2⟩) fun i H x H' hi g y => y
        rw [show min _ _ = (zipD xs ys).length by rw [zipD_len, t1.len, t2.len]] at wl
        refine k _ _ wl fun i d x H2 H3 hd hs y => ?_
        obtain ⟨T, u1, u2, rfl, hT, rfl, y1, y2⟩ := y
        obtain ⟨d1, d2, rfl, g1, g2⟩ := zipD_get hd
        obtain ⟨v1, q1, q2⟩ := t1.at g1
        obtain ⟨v2, q3, q4⟩ := t2.at g2
        dsimp only at y1 y2
        rw [q1] at y1; rw [q3] at y2
        cases y1; cases y2
        exact yr_pair q2 q4 hT⟩
theorem di_enum {p tpos : Pos} {elts : List Expr} {kk : Nat} (ha : DA X ct pm Γ [a] pu dr) (hm : X.mg "enumerate" = none) (hg : Gl X "enumerate" := by rfl)
    (hp : ∀ {t : TA}, PA X [a] t → PI X (.Tuple elts kk tpos) (.Call (.Name "enumerate" p) [a] [] pos) (iEnum X.K t) := by exact fun h => pi_enum (by rfl) (by assumption) h) : DI X ct pm Γ (.Tuple elts kk tpos) (.Call (.Name "enumerate" p) [a] [] pos) pu (aBnd dr itE) := ⟨fun W tk => by
  obtain ⟨t, p, r⟩ := ha.run W tk
  refine ⟨_, hp p, fun pv ρ F fp σ H R sr q => r pv ρ F fp σ H _ sr (IPost.bindA q fun d ds ρ1 v F1 fp1 H1 ef sr1 tr1 m1 k => ?_)⟩
  match d, ef with
  | [.lst xs], ef =>
    obtain ⟨w, rfl, r⟩ := reps1 m1
    cases ef
    cases r with
    | @lst a1 vs1 _ h1 t1 =>
      have L1 : SqL X.K F1 a1 vs1 := .inl (.inl h1)
      refine ⟨_, _, rfl, sr1.sub.seq L1, ?_⟩
      have wl := (walk_enum (K := X.K) (a := a1) (xs := vs1)).mono (G' := fun H => Same F1 H) (fun H g => g.seq L1) fun i H x H' hi g y => y
      rw [show vs1.length = (enumD 0 xs).length by rw [enumD_len, ← t1.len]] at wl
      refine k _ _ wl fun i d x H2 H3 hd hs y => ?_
      obtain ⟨T, u1, u2, rfl, hT, rfl, y1, y2⟩ := y
      obtain ⟨d2, rfl, g2⟩ := enumD_get hd
      obtain ⟨v2, q3, q4⟩ := t1.at g2
      dsimp only at y1 y2
      rw [q3] at y2
      cases y1; cases y2
      rw [Nat.zero_add]
      exact yr_pair (.int _) q4 hT⟩
end
end DL
namespace DL
open PySem Spec PyProof.Rows L2
/-! ### comprehensions -/
def lcL (bd : D → Ro → Option Ro) (tt te : Ro → EO) (vs : List Nat) : List D → List D → Ro → EO
  | [], acc, ρ => .ok (.lst acc) ρ
  | x :: xs, acc, ρ => match bd x ρ with
    | none => .stk
    | some ρ1 => match tt ρ1 with
      | .ok (.bl true) ρ2 => match te ρ2 with
        | .ok d ρ3 => if acc.length < sizeLine then lcL bd tt te vs xs (acc ++ [d]) (wipeR ρ3 vs) else .stk
        | _ => .stk
      | .ok (.bl false) ρ2 => lcL bd tt te vs xs acc (wipeR ρ2 vs)
      | _ => .stk
def kLc (bd : D → Ro → Option Ro) (tt te : Ro → EO) (vs : List Nat) (ρ0 : Ro) : D → Ro → EO
  | .lst ds, ρ => match lcL bd tt te vs ds [] (wipeR ρ vs) with
    | .ok d ρ1 => .ok d (restR ρ ρ1 vs)
    | _ => .stk
  | _, _ => .stk
def eLc (di : Ro → EO) (t : Tgt) (tt te : Ro → EO) (vs : List Nat) : Ro → EO := fun ρ => (di ρ).bnd (kLc t.s tt te vs ρ)
def tYesD : Ro → EO := fun ρ => .ok (.bl true) ρ
structure DTs (X : Cx) (ct : String → Option Addr) (pm : List Bool) (Γ : List Sh) (es : List Expr) (pu : Bool) (den : Ro → EO) : Prop where
  run : ∀ W, Takes X W → ∃ t, PTs X es t ∧ ∀ pv ρ F fp σ H Q, SR X.K ct Γ pm pv ρ F fp σ H → TPost ⟨X.K, ct, Γ, pm, pv⟩ pu ρ F fp H σ W Q (den ρ) → t σ H Q
theorem dts_nil {X : Cx} {ct : String → Option Addr} {pm : List Bool} {Γ : List Sh} {pu : Bool} : DTs X ct pm Γ [] pu tYesD := ⟨fun W tk => ⟨_, pts_nil, fun pv ρ F fp σ H Q sr p => TPost.fin p sr⟩⟩
theorem dts_one {X : Cx} {ct : String → Option Addr} {pm : List Bool} {Γ : List Sh} {pu : Bool} {e : Expr} {d : Ro → EO} (h : DT X ct pm Γ e pu d) : DTs X ct pm Γ [e] pu d := ⟨fun W tk => by
  obtain ⟨t, p, r⟩ := h.run W tk
  exact ⟨t, pts_one p, r⟩⟩
section
variable {K : PySem.W.Frag} {ct : String → Option Addr} {Γ : List Sh} {pm : List Bool} {pv : List V} {ρ ρ' : Ro} {F F' : Hp} {fp : List Addr} {σ : L2.St} {H H' : Hp}
theorem MReps.snoc {s : Sh} : ∀ {vs : List V} {ds : List D} {p : List Addr} {v : V} {d : D} {q : List Addr}, MReps K ct F H s vs ds p → MRep K ct F H s v d q → MReps K ct F H s (vs ++ [v]) (ds ++ [d]) (p ++ q)
  | _, _, _, v, d, q, .nil, m => by
    have := MReps.cons m (MReps.nil (s := s) (F := F) (H := H))
    rw [List.append_nil] at this
    exact this
  | _, _, _, v, d, q, .cons h r, m => by
    rw [List.append_assoc]
    exact .cons h (MReps.snoc r m)
theorem MReps.lens {s : Sh} : ∀ {vs : List V} {ds : List D} {p : List Addr}, MReps K ct F H s vs ds p → vs.length = ds.length
  | _, _, _, .nil => rfl
  | _, _, _, .cons h r => by simp only [List.length_cons, MReps.lens r]
/-- the slots wiped get back what they had -/
theorem SR.rest {ρ0 : Ro} {F0 : Hp} {fp0 : List Addr} {H0 : Hp} (h0 : SR K ct Γ pm pv ρ0 F0 fp0 σ H0) (e : Same F0 F) : ∀ {vs : List Nat} {τ : L2.St} {ρ : Ro}, Wip Γ pm vs → (∀ i, i ∉ vs → τ[i]? = σ[i]?) → τ.length = σ.length → SR K ct Γ pm pv ρ F fp τ H →
    SR K ct Γ pm pv (restR ρ0 ρ vs) F fp σ H
  | [], τ, ρ, w, hn, hl, h => by
    have : τ = σ := List.ext_getElem? fun i => hn i (by simp)
    subst this
    exact h
  | v :: vs, τ, ρ, w, hn, hl, h => by
    obtain ⟨w1, w2⟩ := w v List.mem_cons_self
    -- first slot v, then the others
    have hv : v < ρ0.length := by
      have := (List.getElem?_eq_some_iff.mp w1).1
      obtain ⟨z1, z2⟩ := h0.slots.lens
      omega
    obtain ⟨x, hx⟩ : ∃ x, ρ0[v]? = some x := ⟨_, List.getElem?_eq_getElem hv⟩
    obtain ⟨t, u, l, p, r, h1, h2, h3, h4, _⟩ := h0.slots.at hx
    have et : t = .fz := by rw [h1] at w1; exact Option.some.inj w1
    subst et
    have sl : SlotR K ct F H .fz u x [] := by
      cases h4 with
      | no => exact .no
      | yes m => cases m with | fz m => exact .yes (.fz (m.mono e))
    have q := SR.rest (vs := vs) (τ := τ.set v u) (ρ := ρ.set v x) h0 e (fun i hi => w i (List.mem_cons_of_mem _ hi)) (fun i hi => ?_) (by rw [List.length_set]; exact hl) ((h.setF w1 w2 (v := u) (d := x) sl))
    · show SR K ct Γ pm pv ((restR ρ0 ρ vs).set v (ρ0[v]?.getD none)) F fp σ H
      rw [hx]
      show SR K ct Γ pm pv ((restR ρ0 ρ vs).set v x) F fp σ H
      have q2 := (q.setF w1 w2 (v := u) (d := x) sl)
      have es : σ.set v u = σ := by
        apply List.ext_getElem?
        intro i
        by_cases hi : v = i
        · subst hi
          rw [List.getElem?_set_self (List.getElem?_eq_some_iff.mp h2).1, h2]
        · rw [List.getElem?_set_ne hi]
      rw [es] at q2
      have comm : ∀ (vs : List Nat), (restR ρ0 (ρ.set v x) vs).set v x = (restR ρ0 ρ vs).set v x := by
        intro vs
        induction vs with
        | nil => show (ρ.set v x).set v x = ρ.set v x; rw [List.set_set]
        | cons a vs ih =>
          show ((restR ρ0 (ρ.set v x) vs).set a _).set v x = ((restR ρ0 ρ vs).set a _).set v x
          by_cases ha : a = v
          · subst ha
            rw [List.set_set, List.set_set, ih]
          · rw [List.set_comm _ _ ha, List.set_comm _ _ ha, ih]
      rw [comm] at q2
      exact q2
    · by_cases hi2 : v = i
      · subst hi2
        rw [List.getElem?_set_self (by rw [hl]; exact (List.getElem?_eq_some_iff.mp h2).1), h2]
      · rw [List.getElem?_set_ne hi2]
        exact hn i fun z => hi ((List.mem_cons.mp z).resolve_left fun z => hi2 z.symm)
end
section
variable {X : Cx} {ct : String → Option Addr} {pm : List Bool} {Γ : List Sh} {pu pu1 pu2 pu3 : Bool} {s : Sh} {pos : Pos}
/-- the reading of a comprehension -/
theorem lc_run1 {wi : TI} {di tt te : Ro → EO} {t : Tgt} {ttR : TT} {teR : TE} {vs : List Nat} {W W' : WX} {pv : List V} {ρ : Ro} {F H : Hp} {fp : List Addr} {σ : L2.St} {Q : VK} (hi : ∀ R, IPost ⟨X.K, ct, Γ, pm, pv⟩ pu1 ρ F fp H σ W R (di ρ) → wi σ H R) (wv : Wip Γ pm vs) (ht : ∀ i ∈ t.ix, i ∈ vs)
    (htt : ∀ pv ρ F fp σ H Q, SR X.K ct Γ pm pv ρ F fp σ H → TPost ⟨X.K, ct, Γ, pm, pv⟩ pu2 ρ F fp H σ W' Q (tt ρ) → ttR σ H Q)
    (hte : ∀ pv ρ F fp σ H Q, SR X.K ct Γ pm pv ρ F fp σ H → EPost ⟨X.K, ct, Γ, pm, pv⟩ pu3 s ρ F fp H σ W' Q (te ρ) → teR σ H Q) :
    SR X.K ct Γ pm pv ρ F fp σ H → EPost ⟨X.K, ct, Γ, pm, pv⟩ false (.ml s) ρ F fp H σ W Q (eLc di t tt te vs ρ) → tLc wi (t.g X.K) ttR teR vs σ H Q := by
  intro sr p
  refine hi _ ?_
  unfold eLc at p
  cases q : di ρ with
  | stk => rw [q] at p; exact p
  | exc x ρ1 => rw [q] at p; exact p
  | ok d ρ1 =>
    rw [q] at p
    cases d with
    | lst ds =>
      intro J F1 fp1 H1 Y A0 sr1 tr1 hA0 wk yr _
      have p : EPost ⟨X.K, ct, Γ, pm, pv⟩ false (.ml s) ρ F fp H σ W Q (match lcL t.s tt te vs ds [] (wipeR ρ1 vs) with
        | .ok d ρ2 => .ok d (restR ρ1 ρ2 vs)
        | _ => .stk) := p
      show ∀ D, H1 D = none → _
      intro A hA
      -- the invariant
      refine lc_it wk (Qd := fun H => Q (.ref A) H) (te := teR) (tt := ttR) (vs := vs) (σ := σ) (g := t.g X.K)
        (fun i H2 => ∃ ρ2 F2 fp2 acc vacc fa, SR X.K ct Γ pm pv ρ2 F2 fp2 (L2.wipe σ vs) H2 ∧ Tr F1 fp1 H1 F2 (fp2 ++ (A :: fa)) H2 ∧ H2 A = some (.lst vacc) ∧ F2 A = none ∧ MReps X.K ct F2 H2 s vacc acc fa ∧ (fp2 ++ (A :: fa)).Nodup ∧
          EPost ⟨X.K, ct, Γ, pm, pv⟩ false (.ml s) ρ F fp H σ W Q (match lcL t.s tt te vs (ds.drop i) acc ρ2 with
            | .ok d ρ2 => .ok d (restR ρ1 ρ2 vs)
            | _ => .stk)) ?_ ?_ ?_ ?_
      · have sw := sr1.wipe wv
        have hAn : A ∉ fp1 := fun z => (sr1.there A z).1 hA
        refine ⟨wipeR ρ1 vs, F1, fp1, [], [], [], (Grow.newX sw.sub hA).sr sw, Tr.newO hA, upd_same, sr1.sub.free hA, .nil, ?_, p⟩
        exact List.nodup_append.mpr ⟨sr1.nd, by simp, fun a ha b hb e => by
          rw [List.mem_singleton.mp hb] at e
          subst e
          exact hAn ha⟩
      · rintro i H2 hi ⟨ρ2, F2, fp2, acc, vacc, fa, sr2, tr2, _⟩
        exact ⟨tr2.grow.trans sr2.sub, fun b hb => (Tr.quiet (fp := A0) tr2 (fun b hb => (hA0 b hb).1) (fun b hb => (hA0 b hb).2) b hb).1⟩
      · rintro i x H2 H3 hi ⟨ρ2, F2, fp2, acc, vacc, fa, sr2, tr2, hA2, hF2, ms, nd2, p2⟩ y
        obtain ⟨F3, g3, r3⟩ := yr i (ds[i]'hi) x H2 H3 (List.getElem?_eq_getElem hi) (tr2.grow.trans sr2.sub) y F2 tr2.grow sr2.sub
        rw [List.drop_eq_getElem_cons hi] at p2
        have sr3 := g3.sr sr2
        cases hb : t.s ds[i] ρ2 with
        | none => simp only [lcL, hb] at p2; exact p2.elim
        | some ρ3 =>
          simp only [lcL, hb] at p2
          refine Tgt.run sr3 (fun j hj => wv j (ht j hj)) r3 hb fun σ3 sr3' hl3 hn3 => ?_
          have e3 : L2.wipe σ3 vs = L2.wipe σ vs := by
            rw [← wipe_wipe (σ := σ)]
            exact wipe_eq hl3 fun j hj => hn3 j fun z => hj (ht j z)
          refine ⟨e3, ?_⟩
          -- what is known of the owned things beside the slots
          have there2 : ∀ b ∈ A :: fa, H2 b ≠ none ∧ F2 b = none := fun b hb => (List.mem_cons.mp hb).elim (fun e => by subst e; exact ⟨by rw [hA2]; simp, hF2⟩) fun z => ms.there b z
          have dj2 : ∀ b ∈ A :: fa, b ∉ fp2 := fun b hb z => (List.nodup_append.mp nd2).2.2 b z b hb rfl
          have tr3 : Tr F1 fp1 H1 F3 (fp2 ++ (A :: fa)) H3 := tr2.trans ((g3.tr (fp := fp2 ++ (A :: fa)) (fv := []) (by simp)).less (by simp))
          have q3 : ∀ b ∈ A :: fa, H3 b = H2 b ∧ F3 b = none := Tr.quiet (fp := A :: fa) (q := []) (g3.tr (fp := []) (fv := []) (by simp)) there2 (by simp)
          have hA3 : H3 A = some (.lst vacc) := (q3 A List.mem_cons_self).1.trans hA2
          have hF3 : F3 A = none := (q3 A List.mem_cons_self).2
          have ms3 : MReps X.K ct F3 H3 s vacc acc fa := ms.frame g3.ff fun b hb => q3 b (List.mem_cons_of_mem _ hb)
          have there3 : ∀ b ∈ A :: fa, H3 b ≠ none ∧ F3 b = none := fun b hb => (List.mem_cons.mp hb).elim (fun e => by subst e; exact ⟨by rw [hA3]; simp, hF3⟩) fun z => ms3.there b z
          refine htt pv ρ3 F3 fp2 σ3 H3 _ sr3' ?_
          cases q4 : tt ρ3 with
          | stk => simp only [q4] at p2; exact p2.elim
          | exc z ρ4 => simp only [q4] at p2; exact p2.elim
          | ok d ρ4 =>
            cases d with
            | bl k =>
              intro F4 fp4 H4 sr4 tr4 _
              have q4' : ∀ b ∈ A :: fa, H4 b = H3 b ∧ F4 b = none := Tr.quiet tr4 there3 dj2
              have hA4 : H4 A = some (.lst vacc) := (q4' A List.mem_cons_self).1.trans hA3
              have hF4 : F4 A = none := (q4' A List.mem_cons_self).2
              have ms4 : MReps X.K ct F4 H4 s vacc acc fa := ms3.frame tr4.grow fun b hb => q4' b (List.mem_cons_of_mem _ hb)
              have there4 : ∀ b ∈ A :: fa, H4 b ≠ none ∧ F4 b = none := fun b hb => (List.mem_cons.mp hb).elim (fun e => by subst e; exact ⟨by rw [hA4]; simp, hF4⟩) fun z => ms4.there b z
              have dj4 : ∀ b ∈ A :: fa, b ∉ fp4 := fun b hb z => (tr4.pnew b z).elim (dj2 b hb) fun w => (there3 b hb).1 w
              have nd4 : (fp4 ++ (A :: fa)).Nodup := List.nodup_append.mpr ⟨sr4.nd, (List.nodup_append.mp nd2).2.1, fun a ha b hb e => by subst e; exact dj4 a hb ha⟩
              have tr4' : Tr F1 fp1 H1 F4 (fp4 ++ (A :: fa)) H4 := tr3.trans tr4.beside
              cases k with
              | false =>
                refine iteF ?_
                simp only [q4] at p2
                have sr5 := sr4.wipe wv
                rw [e3] at sr5
                exact ⟨_, F4, fp4, acc, vacc, fa, sr5, tr4', hA4, hF4, ms4, nd4, p2⟩
              | true =>
                refine iteT ?_
                simp only [q4] at p2
                refine hte pv ρ4 F4 fp4 σ3 H4 _ sr4 ?_
                cases q5 : te ρ4 with
                | stk => simp only [q5] at p2; exact p2.elim
                | exc z ρ5 => simp only [q5] at p2; exact p2.elim
                | ok d ρ5 =>
                  simp only [q5] at p2
                  intro y F5 fp5 fv H5 sr5 tr5 m5 nd5 _
                  have q5' : ∀ b ∈ A :: fa, H5 b = H4 b ∧ F5 b = none := Tr.quiet tr5 there4 dj4
                  have hA5 : H5 A = some (.lst vacc) := (q5' A List.mem_cons_self).1.trans hA4
                  have hF5 : F5 A = none := (q5' A List.mem_cons_self).2
                  have ms5 : MReps X.K ct F5 H5 s vacc acc fa := ms4.frame tr5.grow fun b hb => q5' b (List.mem_cons_of_mem _ hb)
                  by_cases hz : acc.length < sizeLine
                  · rw [if_pos hz] at p2
                    refine ⟨vacc, hA5, by rw [ms5.lens]; exact hz, ?_⟩
                    have out5 : ∀ b, b ∈ fp5 ++ fv → b ∉ A :: fa := fun b hb z => (tr5.pnew b hb).elim (dj4 b z) fun w => (there4 b z).1 w
                    have nA5 : A ∉ fp5 ++ fv := fun z => out5 A z List.mem_cons_self
                    have ndA : (A :: fa).Nodup := (List.nodup_append.mp nd2).2.1
                    have same5 : ∀ b, b ≠ A → (upd H5 A (.lst (vacc ++ [y]))) b = H5 b := fun b hb => upd_ne hb
                    have sr6 := sr5.wipe wv
                    rw [e3] at sr6
                    have sr7 : SR X.K ct Γ pm pv (wipeR ρ5 vs) F5 fp5 (L2.wipe σ vs) (upd H5 A (.lst (vacc ++ [y]))) :=
                      ⟨fun b o h => by
                        have hb : b ≠ A := fun e => by subst e; rw [hF5] at h; cases h
                        rw [same5 b hb]
                        exact sr6.sub b o h,
                       sr6.slots.frame (Same.refl _) fun b hb => ⟨same5 b fun e => nA5 (by rw [← e]; exact List.mem_append_left _ hb), (sr6.there b hb).2⟩, sr6.nd, sr6.pins⟩
                    refine ⟨_, F5, fp5, acc ++ [d], vacc ++ [y], fa ++ fv, sr7, ?_, upd_same, hF5, ?_, ?_, p2⟩
                    · refine ((tr4'.trans (tr5.beside (q := A :: fa))).trans (Tr.put (p := A) (by simp))).less fun b hb => ?_
                      simp only [List.mem_append, List.mem_cons] at hb ⊢
                      rcases hb with z | z | z | z <;> simp [z]
                    · refine MReps.snoc (ms5.frame (Same.refl _) fun b hb => ⟨same5 b fun e => ?_, (q5' b (List.mem_cons_of_mem _ hb)).2⟩) (m5.frame (Same.refl _) fun b hb => ⟨same5 b fun e => nA5 (by rw [← e]; exact List.mem_append_right _ hb), (m5.there b hb).2⟩)
                      subst e
                      exact (List.nodup_cons.mp ndA).1 hb
                    · obtain ⟨n1, n2, n3⟩ := List.nodup_append.mp nd5
                      obtain ⟨m1, m2⟩ := List.nodup_cons.mp ndA
                      refine List.nodup_append.mpr ⟨n1, List.nodup_cons.mpr ⟨fun z => (List.mem_append.mp z).elim m1 fun z => nA5 (List.mem_append_right _ z), List.nodup_append.mpr ⟨m2, n2, fun a ha b hb e => ?_⟩⟩, fun a ha b hb e => ?_⟩
                      · subst e
                        exact out5 a (List.mem_append_right _ hb) (List.mem_cons_of_mem _ ha)
                      · subst e
                        rcases List.mem_cons.mp hb with z | z
                        · exact nA5 (by rw [← z]; exact List.mem_append_left _ ha)
                        · rcases List.mem_append.mp z with z | z
                          · exact out5 a (List.mem_append_left _ ha) (List.mem_cons_of_mem _ z)
                          · exact n3 a ha a z rfl
                  · rw [if_neg hz] at p2; exact p2.elim
            | _ => simp only [q4] at p2; exact p2.elim
      · rintro H2 ⟨ρ2, F2, fp2, acc, vacc, fa, sr2, tr2, hA2, hF2, ms, nd2, p2⟩
        rw [List.drop_length] at p2
        have p2 : EPost ⟨X.K, ct, Γ, pm, pv⟩ false (.ml s) ρ F fp H σ W Q (.ok (.lst acc) (restR ρ1 ρ2 vs)) := p2
        have sr3 := SR.rest sr1 tr2.grow wv (τ := L2.wipe σ vs) (fun i hi => L2.wipe_out hi) (L2.wipe_length _ _) sr2
        refine p2 (.ref A) F2 fp2 (A :: fa) H2 sr3 (tr1.trans tr2) (.ml hA2 hF2 ms) nd2 (fun e => by cases e)
    | _ => exact p.elim
theorem lc_run {wi : TI} {di tt te : Ro → EO} {t : Tgt} {ttR : TT} {teR : TE} {vs : List Nat} {W W' : WX}
    (hi : ∀ pv ρ F fp σ H R, SR X.K ct Γ pm pv ρ F fp σ H → IPost ⟨X.K, ct, Γ, pm, pv⟩ pu1 ρ F fp H σ W R (di ρ) → wi σ H R) (wv : Wip Γ pm vs) (ht : ∀ i ∈ t.ix, i ∈ vs)
    (htt : ∀ pv ρ F fp σ H Q, SR X.K ct Γ pm pv ρ F fp σ H → TPost ⟨X.K, ct, Γ, pm, pv⟩ pu2 ρ F fp H σ W' Q (tt ρ) → ttR σ H Q)
    (hte : ∀ pv ρ F fp σ H Q, SR X.K ct Γ pm pv ρ F fp σ H → EPost ⟨X.K, ct, Γ, pm, pv⟩ pu3 s ρ F fp H σ W' Q (te ρ) → teR σ H Q) :
    ∀ pv ρ F fp σ H Q, SR X.K ct Γ pm pv ρ F fp σ H → EPost ⟨X.K, ct, Γ, pm, pv⟩ false (.ml s) ρ F fp H σ W Q (eLc di t tt te vs ρ) → tLc wi (t.g X.K) ttR teR vs σ H Q := fun pv ρ F fp σ H Q sr p =>
  lc_run1 (fun R q => hi pv ρ F fp σ H R sr q) wv ht htt hte sr p
end
end DL
namespace DL
open PySem Spec PyProof.Rows L2
/-! ### weaker shapes -/
inductive LeS : List Sh → List Sh → Prop
  | nil : LeS [] []
  | same {s : Sh} {a b : List Sh} : LeS a b → LeS (s :: a) (s :: b)
  | frz {s : Sh} {a b : List Sh} : LeS a b → LeS (.fz :: a) (s :: b)
theorem LeS.refl : ∀ Γ : List Sh, LeS Γ Γ
  | [] => .nil
  | _ :: Γ => .same (LeS.refl Γ)
section
variable {K : PySem.W.Frag} {ct : String → Option Addr} {Γ Γ' : List Sh} {pm : List Bool} {pv : List V} {ρ ρ' : Ro} {F F' : Hp} {fp fp' : List Addr} {σ : L2.St} {H H' : Hp}
theorem SlotsR.weak : ∀ {Γ' Γ : List Sh} {σ : L2.St} {ρ : Ro} {fp : List Addr}, LeS Γ' Γ → SlotsR K ct F H Γ σ ρ fp →
    ∃ q fp', (q ++ fp').Perm fp ∧ fp'.Sublist fp ∧ ∀ F', Same F F' → (∀ b ∈ q, F' b = H b) → (∀ b ∈ fp', F' b = none) → SlotsR K ct F' H Γ' σ ρ fp'
  | _, _, _, _, _, .nil, .nil => ⟨[], [], .refl _, .refl _, fun _ _ _ _ => .nil⟩
  | _, _, _, _, _, .same l, .cons (p := p) (q := r) h t => by
    obtain ⟨q, fp', h1, h2, h3⟩ := SlotsR.weak l t
    refine ⟨q, p ++ fp', ?_, (List.Sublist.refl p).append h2, fun F' e g n => .cons (h.frame e fun b hb => ⟨rfl, n b (List.mem_append_left _ hb)⟩) (h3 F' e g fun b hb => n b (List.mem_append_right _ hb))⟩
    have : (q ++ (p ++ fp')).Perm (p ++ (q ++ fp')) := by
      rw [← List.append_assoc, ← List.append_assoc]
      exact List.Perm.append_right _ List.perm_append_comm
    exact this.trans (List.Perm.append_left p h1)
  | _, _, _, _, _, .frz l, .cons (p := p) (q := r) h t => by
    obtain ⟨q, fp', h1, h2, h3⟩ := SlotsR.weak l t
    refine ⟨p ++ q, fp', ?_, (List.nil_sublist p).append h2, fun F' e g n => ?_⟩
    · rw [List.append_assoc]; exact List.Perm.append_left p h1
    · have z := h3 F' e (fun b hb => g b (List.mem_append_right _ hb)) n
      cases h with
      | no => exact SlotsR.cons (p := []) (.no (s := .fz)) z
      | yes m => exact SlotsR.cons (p := []) (.yes (.fz (m.froze e fun b hb => g b (List.mem_append_left _ hb)))) z
theorem SR.weak (l : LeS Γ' Γ) (h : SR K ct Γ pm pv ρ F fp σ H) : ∃ F' fp', SR K ct Γ' pm pv ρ F' fp' σ H ∧ Tr F fp H F' fp' H ∧ fp'.Sublist fp ∧ ∀ q : List Addr, (∀ b ∈ q, b ∉ fp) → ∀ b ∈ q, F' b = F b := by
  obtain ⟨q, fp', h1, h2, h3⟩ := h.slots.weak l
  have nd : (q ++ fp').Nodup := h1.nodup_iff.mpr h.nd
  have hq : ∀ b ∈ q, b ∈ fp := fun b hb => h1.subset (List.mem_append_left _ hb)
  have out : ∀ b ∈ fp', frzH F H q b = none := fun b hb => by
    rw [frzH_out fun z => (List.nodup_append.mp nd).2.2 b z b hb rfl]
    exact (h.there b (h2.subset hb)).2
  exact ⟨frzH F H q, fp', ⟨frzH_sub h.sub, h3 _ (frzH_grow h.sub) (fun b hb => frzH_in hb) out, h2.nodup h.nd, h.pins⟩, Tr.freeze h.sub hq fun b hb => h2.subset hb, h2, fun q' hq' b hb => frzH_out fun z => hq' b hb (hq b z)⟩
end
/-! ### statements -/
structure SCx where
  rs : Sh
  Γr : List Sh
  Γx : List Sh
  Γb : List Sh
def SPost (K : PySem.W.Frag) (ct : String → Option Addr) (pm : List Bool) (pv : List V) (S : SCx) (Γ' : List Sh) (F : Hp) (fp : List Addr) (H : Hp) (W : WX) (D : Ends) : SO → Prop
  | .nx ρ' => ∀ σ' F' fp' H', SR K ct Γ' pm pv ρ' F' fp' σ' H' → Tr F fp H F' fp' H' → D.nx σ' H'
  | .ret d ρ' => ∀ v σ' F' fp' fv H', SR K ct S.Γr pm pv ρ' F' fp' σ' H' → Tr F fp H F' (fp' ++ fv) H' → MRep K ct F' H' S.rs v d fv → (fp' ++ fv).Nodup → D.rt v H'
  | .brk ρ' => ∀ σ' F' fp' H', SR K ct S.Γb pm pv ρ' F' fp' σ' H' → Tr F fp H F' fp' H' → D.bk σ' H'
  | .ct ρ' => ∀ σ' F' fp' H', SR K ct S.Γb pm pv ρ' F' fp' σ' H' → Tr F fp H F' fp' H' → D.ct σ' H'
  | .exc x ρ' => ∀ cls da σ' F' fp' H', SR K ct S.Γx pm pv ρ' F' fp' σ' H' → Tr F fp H F' fp' H' → XRep K ct F' x cls da → W cls da σ' H'
  | .stk => False
structure DS (X : Cx) (ct : String → Option Addr) (pm : List Bool) (S : SCx) (Γ : List Sh) (st : Stmt) (Γ' : List Sh) (den : Ro → SO) : Prop where
  run : ∀ W, Takes X W → PassesOwn (model X.prog X.w) X.A X.env X.xe → ∃ t, PS X st t ∧ ∀ pv ρ F fp σ H D, SR X.K ct Γ pm pv ρ F fp σ H → SPost X.K ct pm pv S Γ' F fp H W D (den ρ) → t D σ H
structure DSs (X : Cx) (ct : String → Option Addr) (pm : List Bool) (S : SCx) (Γ : List Sh) (st : List Stmt) (Γ' : List Sh) (den : Ro → SO) : Prop where
  run : ∀ W, Takes X W → PassesOwn (model X.prog X.w) X.A X.env X.xe → ∃ t, PSs X st t ∧ ∀ pv ρ F fp σ H D, SR X.K ct Γ pm pv ρ F fp σ H → SPost X.K ct pm pv S Γ' F fp H W D (den ρ) → t D σ H
def sNil : Ro → SO := fun ρ => .nx ρ
def SO.bnd : SO → (Ro → SO) → SO
  | .nx ρ, k => k ρ
  | o, _ => o
def sSeq (d1 d2 : Ro → SO) : Ro → SO := fun ρ => (d1 ρ).bnd d2
section
variable {X : Cx} {ct : String → Option Addr} {pm : List Bool} {S : SCx} {Γ Γ1 Γ2 : List Sh} {st : Stmt} {sts : List Stmt} {d1 d2 : Ro → SO} {pu pu1 pu2 : Bool} {s : Sh} {pos : Pos} {e a b : Expr} {de da db : Ro → EO}
theorem SPost.tr {K : PySem.W.Frag} {pv : List V} {F F1 H H1 : Hp} {fp fp1 : List Addr} {W : WX} {D : Ends} {o : SO} (h : SPost K ct pm pv S Γ1 F fp H W D o) (t : Tr F fp H F1 fp1 H1) : SPost K ct pm pv S Γ1 F1 fp1 H1 W D o := by
  cases o with
  | nx ρ => exact fun σ' F' fp' H' sr tr => h σ' F' fp' H' sr (t.trans tr)
  | ret d ρ => exact fun v σ' F' fp' fv H' sr tr => h v σ' F' fp' fv H' sr (t.trans tr)
  | brk ρ => exact fun σ' F' fp' H' sr tr => h σ' F' fp' H' sr (t.trans tr)
  | ct ρ => exact fun σ' F' fp' H' sr tr => h σ' F' fp' H' sr (t.trans tr)
  | exc x ρ => exact fun cls da σ' F' fp' H' sr tr => h cls da σ' F' fp' H' sr (t.trans tr)
  | stk => exact h
theorem dss_nil : DSs X ct pm S Γ [] Γ sNil := ⟨fun W tk ps => ⟨_, pss_nil, fun pv ρ F fp σ H D sr p => p σ F fp H sr Tr.refl⟩⟩
theorem dss_cons (h1 : DS X ct pm S Γ st Γ1 d1) (h2 : DSs X ct pm S Γ1 sts Γ2 d2) : DSs X ct pm S Γ (st :: sts) Γ2 (sSeq d1 d2) := ⟨fun W tk ps => by
  obtain ⟨t1, p1, r1⟩ := h1.run W tk ps
  obtain ⟨t2, p2, r2⟩ := h2.run W tk ps
  refine ⟨_, pss_cons p1 p2, fun pv ρ F fp σ H D sr p => ?_⟩
  refine r1 pv ρ F fp σ H _ sr ?_
  have p : SPost X.K ct pm pv S Γ2 F fp H W D ((d1 ρ).bnd d2) := p
  cases q : d1 ρ with
  | nx ρ1 =>
    rw [q] at p
    exact fun σ' F' fp' H' sr' tr => r2 pv ρ1 F' fp' σ' H' D sr' (p.tr tr)
  | ret d ρ1 => rw [q] at p; exact p
  | brk ρ1 => rw [q] at p; exact p
  | ct ρ1 => rw [q] at p; exact p
  | exc x ρ1 => rw [q] at p; exact p
  | stk => rw [q] at p; exact p⟩
theorem dss_one (h : DS X ct pm S Γ st Γ1 d1) : DSs X ct pm S Γ [st] Γ1 d1 := ⟨fun W tk ps => by
  obtain ⟨t1, p1, r1⟩ := h.run W tk ps
  exact ⟨_, pss_one p1, r1⟩⟩
/-- shapes are weakened behind, or ahead -/
theorem DS.post (h : DS X ct pm S Γ st Γ1 d1) (l : LeS Γ2 Γ1) : DS X ct pm S Γ st Γ2 d1 := ⟨fun W tk ps => by
  obtain ⟨t1, p1, r1⟩ := h.run W tk ps
  refine ⟨t1, p1, fun pv ρ F fp σ H D sr p => r1 pv ρ F fp σ H D sr ?_⟩
  cases q : d1 ρ with
  | nx ρ1 =>
    rw [q] at p
    intro σ' F' fp' H' sr' tr
    obtain ⟨F2, fp2, sr2, tr2, _⟩ := sr'.weak l
    exact p σ' F2 fp2 H' sr2 (tr.trans tr2)
  | ret d ρ1 => rw [q] at p; exact p
  | brk ρ1 => rw [q] at p; exact p
  | ct ρ1 => rw [q] at p; exact p
  | exc x ρ1 => rw [q] at p; exact p
  | stk => rw [q] at p; exact p⟩
theorem DSs.post (h : DSs X ct pm S Γ sts Γ1 d1) (l : LeS Γ2 Γ1) : DSs X ct pm S Γ sts Γ2 d1 := ⟨fun W tk ps => by
  obtain ⟨t1, p1, r1⟩ := h.run W tk ps
  refine ⟨t1, p1, fun pv ρ F fp σ H D sr p => r1 pv ρ F fp σ H D sr ?_⟩
  cases q : d1 ρ with
  | nx ρ1 =>
    rw [q] at p
    intro σ' F' fp' H' sr' tr
    obtain ⟨F2, fp2, sr2, tr2, _⟩ := sr'.weak l
    exact p σ' F2 fp2 H' sr2 (tr.trans tr2)
  | ret d ρ1 => rw [q] at p; exact p
  | brk ρ1 => rw [q] at p; exact p
  | ct ρ1 => rw [q] at p; exact p
  | exc x ρ1 => rw [q] at p; exact p
  | stk => rw [q] at p; exact p⟩
theorem DSs.pre (h : DSs X ct pm S Γ1 sts Γ2 d1) (l : LeS Γ1 Γ) : DSs X ct pm S Γ sts Γ2 d1 := ⟨fun W tk ps => by
  obtain ⟨t1, p1, r1⟩ := h.run W tk ps
  refine ⟨t1, p1, fun pv ρ F fp σ H D sr p => ?_⟩
  obtain ⟨F2, fp2, sr2, tr2, _⟩ := sr.weak l
  exact r1 pv ρ F2 fp2 σ H D sr2 (p.tr tr2)⟩
theorem DS.pre (h : DS X ct pm S Γ1 st Γ2 d1) (l : LeS Γ1 Γ) : DS X ct pm S Γ st Γ2 d1 := ⟨fun W tk ps => by
  obtain ⟨t1, p1, r1⟩ := h.run W tk ps
  refine ⟨t1, p1, fun pv ρ F fp σ H D sr p => ?_⟩
  obtain ⟨F2, fp2, sr2, tr2, _⟩ := sr.weak l
  exact r1 pv ρ F2 fp2 σ H D sr2 (p.tr tr2)⟩
/-- an expression in a statement -/
theorem SPost.ofE {pv : List V} {ρ : Ro} {F H : Hp} {fp : List Addr} {σ : L2.St} {W : WX} {D : Ends} {Q : VK} {k : DL.D → Ro → SO} {o : EO} (hx : LeS S.Γx Γ)
    (h : SPost X.K ct pm pv S Γ1 F fp H W D (match o with | .ok d ρ1 => k d ρ1 | .exc x ρ1 => .exc x ρ1 | .stk => .stk))
    (g : ∀ d ρ1 v F1 fp1 fv H1, SR X.K ct Γ pm pv ρ1 F1 fp1 σ H1 → Tr F fp H F1 (fp1 ++ fv) H1 → MRep X.K ct F1 H1 s v d fv → (fp1 ++ fv).Nodup → SPost X.K ct pm pv S Γ1 F1 (fp1 ++ fv) H1 W D (k d ρ1) → Q v H1) :
    EPost ⟨X.K, ct, Γ, pm, pv⟩ pu s ρ F fp H σ W Q o := by
  cases o with
  | ok d ρ1 => exact fun v F1 fp1 fv H1 sr1 tr1 m nd z => g d ρ1 v F1 fp1 fv H1 sr1 tr1 m nd (SPost.tr h tr1)
  | exc x ρ1 =>
    intro cls da F' fp' H' sr' tr xr
    obtain ⟨F2, fp2, sr2, tr2, _⟩ := SR.weak hx sr'
    exact h cls da σ F2 fp2 H' sr2 (tr.trans tr2) (xr.mono tr2.grow)
  | stk => exact h
theorem SPost.ofT {pv : List V} {ρ : Ro} {F H : Hp} {fp : List Addr} {σ : L2.St} {W : WX} {D : Ends} {Q : Bool → Hp → Prop} {k1 k2 : Ro → SO} {o : EO} (hx : LeS S.Γx Γ)
    (h : SPost X.K ct pm pv S Γ1 F fp H W D (match o with | .ok (.bl true) ρ1 => k1 ρ1 | .ok (.bl false) ρ1 => k2 ρ1 | .exc x ρ1 => .exc x ρ1 | _ => .stk))
    (g : ∀ b ρ1 F1 fp1 H1, SR X.K ct Γ pm pv ρ1 F1 fp1 σ H1 → Tr F fp H F1 fp1 H1 → SPost X.K ct pm pv S Γ1 F1 fp1 H1 W D ((if b = true then k1 else k2) ρ1) → Q b H1) :
    TPost ⟨X.K, ct, Γ, pm, pv⟩ pu ρ F fp H σ W Q o := by
  cases o with
  | ok d ρ1 =>
    cases d with
    | bl b =>
      intro F1 fp1 H1 sr1 tr1 z
      refine g b ρ1 F1 fp1 H1 sr1 tr1 (SPost.tr ?_ tr1)
      cases b with
      | true => exact h
      | false => exact h
    | _ => exact h
  | exc x ρ1 =>
    intro cls da F' fp' H' sr' tr xr
    obtain ⟨F2, fp2, sr2, tr2, _⟩ := SR.weak hx sr'
    exact h cls da σ F2 fp2 H' sr2 (tr.trans tr2) (xr.mono tr2.grow)
  | stk => exact h
def sE (de : Ro → EO) (k : D → Ro → SO) : Ro → SO := fun ρ => match de ρ with
  | .ok d ρ1 => k d ρ1
  | .exc x ρ1 => .exc x ρ1
  | .stk => .stk
def kSet (i : Nat) : D → Ro → SO := fun d ρ => .nx (ρ.set i (some d))
/-- x = e -/
theorem set_run {i : Nat} (hi : i < Γ.length) (hp : pm[i]? ≠ some true) (hx : LeS S.Γx Γ) {te : TE} {W : WX}
    (r : ∀ pv ρ F fp σ H Q, SR X.K ct Γ pm pv ρ F fp σ H → EPost ⟨X.K, ct, Γ, pm, pv⟩ pu s ρ F fp H σ W Q (de ρ) → te σ H Q) :
    ∀ pv ρ F fp σ H D, SR X.K ct Γ pm pv ρ F fp σ H → SPost X.K ct pm pv S (Γ.set i s) F fp H W D (sE de (kSet i) ρ) → tAsg te (gName i) D σ H := by
  intro pv ρ F fp σ H D sr p
  refine r pv ρ F fp σ H _ sr (SPost.ofE hx p fun d ρ1 v F1 fp1 fv H1 sr1 tr1 m nd p1 => ?_)
  obtain ⟨fp2, sr2, h2⟩ := sr1.put hi hp (v := some v) (.yes m) nd
  exact p1 _ F1 fp2 H1 sr2 (Tr.refl.less h2)
theorem ds_set (i : Nat) {x : Str} {pos' : Pos} (hN : X.N.Nodup) (h : DE X ct pm Γ e pu s de) (hx : LeS S.Γx Γ) (hi : i < Γ.length := by decide) (hp : pm[i]? ≠ some true := by decide) (hNi : X.N[i]? = some x := by rfl) (hl : Loc X.env.scope x := by first | exact Or.inl rfl | exact Or.inr rfl)
    (hs : swapsWith e (some (.Name x pos')) pos.line X.env = pure false := by rfl) (hf : X.fn x = true ∨ X.env.scope.names.lookup x = some .local := by first | exact .inl rfl | exact .inr rfl) :
    DS X ct pm S Γ (.Assign [.Name x pos'] e pos) (Γ.set i s) (sE de (kSet i)) := ⟨fun W tk ps => by
  obtain ⟨t, p, r⟩ := h.run W tk
  exact ⟨_, L2.ps_set hN hNi hl p hs hf, set_run hi hp hx r⟩⟩
def kDrop : D → Ro → SO := fun _ ρ => .nx ρ
theorem ds_expr (h : DE X ct pm Γ e pu s de) (hx : LeS S.Γx Γ) (hs : swapsWith e none pos.line X.env = pure false := by rfl) : DS X ct pm S Γ (.Expr e pos) Γ (sE de kDrop) := ⟨fun W tk ps => by
  obtain ⟨t, p, r⟩ := h.run W tk
  refine ⟨_, ps_expr p hs, fun pv ρ F fp σ H D sr p => ?_⟩
  refine r pv ρ F fp σ H _ sr (SPost.ofE hx p fun d ρ1 v F1 fp1 fv H1 sr1 tr1 m nd p1 => ?_)
  exact p1 σ F1 fp1 H1 sr1 (Tr.refl.less fun b hb => List.mem_append_left _ hb)⟩
def kRet : D → Ro → SO := fun d ρ => .ret d ρ
theorem ds_ret (h : DE X ct pm Γ e pu S.rs de) (hx : LeS S.Γx Γ) (hr : LeS S.Γr Γ) : DS X ct pm S Γ (.Return (some e) pos) Γ1 (sE de kRet) := ⟨fun W tk ps => by
  obtain ⟨t, p, r⟩ := h.run W tk
  refine ⟨_, ps_ret p, fun pv ρ F fp σ H D sr p => ?_⟩
  refine r pv ρ F fp σ H _ sr (SPost.ofE hx p fun d ρ1 v F1 fp1 fv H1 sr1 tr1 m nd p1 => ?_)
  obtain ⟨F2, fp2, sr2, tr2, sb2, out2⟩ := SR.weak hr sr1
  obtain ⟨n1, n2, n3⟩ := List.nodup_append.mp nd
  have hv : ∀ b ∈ fv, F2 b = none := fun b hb => (out2 fv (fun b hb z => n3 b z b hb rfl) b hb).trans (m.there b hb).2
  exact p1 v σ F2 fp2 fv H1 sr2 (tr2.beside (q := fv)) (m.frame tr2.grow fun b hb => ⟨rfl, hv b hb⟩) (List.nodup_append.mpr ⟨sr2.nd, n2, fun a ha b hb => n3 a (sb2.subset ha) b hb⟩)⟩
def sRetN : Ro → SO := fun ρ => .ret .non ρ
theorem ds_retN (hr : LeS S.Γr Γ) (hs : S.rs = .fz := by rfl) : DS X ct pm S Γ (.Return none pos) Γ1 sRetN := ⟨fun W tk ps => by
  refine ⟨_, ps_retN, fun pv ρ F fp σ H D sr p => ?_⟩
  obtain ⟨F2, fp2, sr2, tr2, sb2, out2⟩ := SR.weak hr sr
  exact p .non σ F2 fp2 [] H sr2 (by rw [List.append_nil]; exact tr2) (by rw [hs]; exact .fz .non) (by rw [List.append_nil]; exact sr2.nd)⟩
def sIf (dt : Ro → EO) (k1 k2 : Ro → SO) : Ro → SO := fun ρ => match dt ρ with
  | .ok (.bl true) ρ1 => k1 ρ1
  | .ok (.bl false) ρ1 => k2 ρ1
  | .exc x ρ1 => .exc x ρ1
  | _ => .stk
theorem ds_if {c : Expr} {st1 st2 : List Stmt} {dt : Ro → EO} (hc : DT X ct pm Γ c pu dt) (h1 : DSs X ct pm S Γ st1 Γ1 d1) (h2 : DSs X ct pm S Γ st2 Γ1 d2) (hx : LeS S.Γx Γ) : DS X ct pm S Γ (.If c st1 st2 pos) Γ1 (sIf dt d1 d2) := ⟨fun W tk ps => by
  obtain ⟨t, p, r⟩ := hc.run W tk
  obtain ⟨t1, p1, r1⟩ := h1.run W tk ps
  obtain ⟨t2, p2, r2⟩ := h2.run W tk ps
  refine ⟨_, ps_if p p1 p2, fun pv ρ F fp σ H D sr p => ?_⟩
  refine r pv ρ F fp σ H _ sr (SPost.ofT hx p fun b ρ1 F1 fp1 H1 sr1 tr1 q => ?_)
  cases b with
  | true => exact iteT (r1 pv ρ1 F1 fp1 σ H1 D sr1 q)
  | false => exact iteF (r2 pv ρ1 F1 fp1 σ H1 D sr1 q)⟩
theorem ds_pass : DS X ct pm S Γ (.Pass pos) Γ sNil := ⟨fun W tk ps => ⟨_, ps_pass, fun pv ρ F fp σ H D sr p => p σ F fp H sr Tr.refl⟩⟩
theorem ds_doc {x : Str} {j pos'} : DS X ct pm S Γ (.Expr (.Constant (.str x) j pos) pos') Γ sNil := ⟨fun W tk ps => ⟨_, ps_doc, fun pv ρ F fp σ H D sr p => p σ F fp H sr Tr.refl⟩⟩
def sBrk : Ro → SO := fun ρ => .brk ρ
def sCt : Ro → SO := fun ρ => .ct ρ
theorem ds_break (hb : LeS S.Γb Γ) : DS X ct pm S Γ (.Break pos) Γ1 sBrk := ⟨fun W tk ps => by
  refine ⟨_, ps_break, fun pv ρ F fp σ H D sr p => ?_⟩
  obtain ⟨F2, fp2, sr2, tr2, sb2, out2⟩ := SR.weak hb sr
  exact p σ F2 fp2 H sr2 tr2⟩
theorem ds_continue (hb : LeS S.Γb Γ) : DS X ct pm S Γ (.Continue pos) Γ1 sCt := ⟨fun W tk ps => by
  refine ⟨_, ps_continue, fun pv ρ F fp σ H D sr p => ?_⟩
  obtain ⟨F2, fp2, sr2, tr2, sb2, out2⟩ := SR.weak hb sr
  exact p σ F2 fp2 H sr2 tr2⟩
/-- code that is not come to -/
def sStk : Ro → SO := fun _ => .stk
theorem ds_never : DS X ct pm S Γ st Γ1 sStk := ⟨fun W tk ps => ⟨_, ps_never, fun pv ρ F fp σ H D sr p => p.elim⟩⟩
/-! ### loops -/
def forL (bd : D → Ro → Option Ro) (body : Ro → SO) : List D → Ro → SO
  | [], ρ => .nx ρ
  | x :: xs, ρ => match bd x ρ with
    | none => .stk
    | some ρ1 => match body ρ1 with
      | .nx ρ2 => forL bd body xs ρ2
      | .ct ρ2 => forL bd body xs ρ2
      | .brk ρ2 => .nx ρ2
      | o => o
def kFor (bd : D → Ro → Option Ro) (body : Ro → SO) : D → Ro → SO
  | .lst ds, ρ => forL bd body ds ρ
  | _, _ => .stk
theorem ds_for {tg iter : Expr} {body : List Stmt} {di : Ro → EO} {t : Tgt} (hc : X.calm = true) (hi : DI X ct pm Γ tg iter pu di) (hg : TG' X tg t) (hb : DSs X ct pm ⟨S.rs, S.Γr, S.Γx, Γ⟩ Γ body Γ d1) (hx : LeS S.Γx Γ) (hw : Wip Γ pm t.ix)
    (hs : ∀ x, foldedSetIterable iter X.env x = pure x := by intro _; rfl) : DS X ct pm S Γ (.For tg iter body [] pos) Γ (sE di (kFor t.s d1)) := ⟨fun W tk ps => by
  obtain ⟨ti, pi, ri⟩ := hi.run W tk
  obtain ⟨tb, pb, rb⟩ := hb.run W tk ps
  refine ⟨_, ps_for ps hc pi hg.ok pb hs, fun pv ρ F fp σ H D sr p => ?_⟩
  refine ri pv ρ F fp σ H _ sr ?_
  unfold sE at p
  cases q : di ρ with
  | stk => rw [q] at p; exact p
  | exc x ρ1 =>
    rw [q] at p
    intro cls da F' fp' H' sr' tr xr
    obtain ⟨F2, fp2, sr2, tr2, _⟩ := SR.weak hx sr'
    exact p cls da σ F2 fp2 H' sr2 (tr.trans tr2) (xr.mono tr2.grow)
  | ok d ρ1 =>
    rw [q] at p
    cases d with
    | lst ds =>
      intro J F1 fp1 H1 Y A0 sr1 tr1 hA0 wk yr _
      have p : SPost X.K ct pm pv S Γ F fp H W D (forL t.s d1 ds ρ1) := p
      have p := p.tr tr1
      refine for_it wk (fun i σ2 H2 => ∃ ρ2 F2 fp2, SR X.K ct Γ pm pv ρ2 F2 fp2 σ2 H2 ∧ Tr F1 fp1 H1 F2 fp2 H2 ∧ SPost X.K ct pm pv S Γ F2 fp2 H2 W D (forL t.s d1 (ds.drop i) ρ2)) ⟨ρ1, F1, fp1, sr1, Tr.refl, p⟩ ?_ ?_ ?_
      · rintro i σ2 H2 hi ⟨ρ2, F2, fp2, sr2, tr2, _⟩
        exact ⟨tr2.grow.trans sr2.sub, fun b hb => (Tr.quiet (fp := A0) tr2 (fun b hb => (hA0 b hb).1) (fun b hb => (hA0 b hb).2) b hb).1⟩
      · rintro i x σ2 H2 H3 hi ⟨ρ2, F2, fp2, sr2, tr2, p2⟩ y
        obtain ⟨F3, g3, r3⟩ := yr i (ds[i]'hi) x H2 H3 (List.getElem?_eq_getElem hi) (tr2.grow.trans sr2.sub) y F2 tr2.grow sr2.sub
        rw [List.drop_eq_getElem_cons hi] at p2
        have sr3 := g3.sr sr2
        have tg3 : Tr F2 fp2 H2 F3 fp2 H3 := (g3.tr (fp := fp2) (fv := []) (by simp)).less (by simp)
        have p2 := p2.tr tg3
        cases hb : t.s ds[i] ρ2 with
        | none => simp only [forL, hb] at p2; exact p2.elim
        | some ρ3 =>
          simp only [forL, hb] at p2
          refine Tgt.run sr3 hw r3 hb fun σ3 sr3' hl3 hn3 => ?_
          refine rb pv ρ3 F3 fp2 σ3 H3 _ sr3' ?_
          cases q4 : d1 ρ3 with
          | nx ρ4 => simp only [q4] at p2; exact fun σ' F' fp' H' sr' tr => ⟨ρ4, F', fp', sr', (tr2.trans tg3).trans tr, p2.tr tr⟩
          | ct ρ4 => simp only [q4] at p2; exact fun σ' F' fp' H' sr' tr => ⟨ρ4, F', fp', sr', (tr2.trans tg3).trans tr, p2.tr tr⟩
          | brk ρ4 => simp only [q4] at p2; exact p2
          | ret d ρ4 => simp only [q4] at p2; exact p2
          | exc x ρ4 => simp only [q4] at p2; exact p2
          | stk => simp only [q4] at p2; exact p2
      · rintro σ2 H2 ⟨ρ2, F2, fp2, sr2, tr2, p2⟩
        rw [List.drop_length] at p2
        exact p2 σ2 F2 fp2 H2 sr2 Tr.refl
    | _ => exact p.elim⟩
def whileL (dt : Ro → EO) (body : Ro → SO) : Nat → Ro → SO
  | 0, _ => .stk
  | n + 1, ρ => match dt ρ with
    | .ok (.bl true) ρ1 => (match body ρ1 with
      | .nx ρ2 => whileL dt body n ρ2
      | .ct ρ2 => whileL dt body n ρ2
      | .brk ρ2 => .nx ρ2
      | o => o)
    | .ok (.bl false) ρ1 => .nx ρ1
    | .exc x ρ1 => .exc x ρ1
    | _ => .stk
theorem ds_while {c : Expr} {body : List Stmt} {dt : Ro → EO} (n : Nat) (hc : DT X ct pm Γ c pu dt) (hb : DSs X ct pm ⟨S.rs, S.Γr, S.Γx, Γ⟩ Γ body Γ d1) (hx : LeS S.Γx Γ) : DS X ct pm S Γ (.While c body [] pos) Γ (whileL dt d1 n) := ⟨fun W tk ps => by
  obtain ⟨tt, pt, rt⟩ := hc.run W tk
  obtain ⟨tb, pb, rb⟩ := hb.run W tk ps
  refine ⟨_, ps_while ps pt pb, fun pv ρ F fp σ H D sr p => ?_⟩
  refine ⟨fun m σ2 H2 => ∃ ρ2 F2 fp2, SR X.K ct Γ pm pv ρ2 F2 fp2 σ2 H2 ∧ SPost X.K ct pm pv S Γ F2 fp2 H2 W D (whileL dt d1 m ρ2), ⟨n, ρ, F, fp, sr, p⟩, ?_⟩
  rintro m σ2 H2 ⟨ρ2, F2, fp2, sr2, p2⟩
  cases m with
  | zero => exact p2.elim
  | succ m =>
    have p2 : SPost X.K ct pm pv S Γ F2 fp2 H2 W D (match dt ρ2 with
      | .ok (.bl true) ρ1 => (fun ρ1 => match d1 ρ1 with
        | .nx ρ2 => whileL dt d1 m ρ2
        | .ct ρ2 => whileL dt d1 m ρ2
        | .brk ρ2 => .nx ρ2
        | o => o) ρ1
      | .ok (.bl false) ρ1 => (fun ρ1 => .nx ρ1) ρ1
      | .exc x ρ1 => .exc x ρ1
      | _ => .stk) := p2
    refine rt pv ρ2 F2 fp2 σ2 H2 _ sr2 (SPost.ofT (Γ1 := Γ) hx p2 fun b ρ3 F3 fp3 H3 sr3 tr3 q => ?_)
    cases b with
    | false => exact iteF (q σ2 F3 fp3 H3 sr3 Tr.refl)
    | true =>
      refine iteT ?_
      have q : SPost X.K ct pm pv S Γ F3 fp3 H3 W D (match d1 ρ3 with
        | .nx ρ2 => whileL dt d1 m ρ2
        | .ct ρ2 => whileL dt d1 m ρ2
        | .brk ρ2 => .nx ρ2
        | o => o) := q
      refine ⟨fun σ' H' => ∃ ρ' F' fp', SR X.K ct Γ pm pv ρ' F' fp' σ' H' ∧ SPost X.K ct pm pv S Γ F' fp' H' W D (whileL dt d1 m ρ'), fun σ' H' h => ⟨m, Nat.lt_succ_self m, h⟩, ?_⟩
      refine rb pv ρ3 F3 fp3 σ2 H3 _ sr3 ?_
      cases q4 : d1 ρ3 with
      | nx ρ4 => rw [q4] at q; exact fun σ' F' fp' H' sr' tr => ⟨ρ4, F', fp', sr', q.tr tr⟩
      | ct ρ4 => rw [q4] at q; exact fun σ' F' fp' H' sr' tr => ⟨ρ4, F', fp', sr', q.tr tr⟩
      | brk ρ4 => rw [q4] at q; exact q
      | ret d ρ4 => rw [q4] at q; exact q
      | exc x ρ4 => rw [q4] at q; exact q
      | stk => rw [q4] at q; exact q⟩
end
end DL
namespace DL
open PySem Spec PyProof.Rows L2
/-! ### a def's promise -/
structure Sig where
  ps : List Sh
  pm : List Bool
  rs : Sh
section
variable (K : PySem.W.Frag) (ct : String → Option Addr)
inductive ArgsR (F H : Hp) : List Sh → List V → List D → List Addr → Prop
  | nil : ArgsR F H [] [] [] []
  | cons {s : Sh} {v : V} {d : D} {ss : List Sh} {vs : List V} {ds : List D} {p q : List Addr} : MRep K ct F H s v d p → ArgsR F H ss vs ds q → ArgsR F H (s :: ss) (v :: vs) (d :: ds) (p ++ q)
end
section
variable {K : PySem.W.Frag} {ct : String → Option Addr} {F F' H H' : Hp}
theorem ArgsR.frame (e : Same F F') : ∀ {ss : List Sh} {vs : List V} {ds : List D} {p : List Addr}, ArgsR K ct F H ss vs ds p → (∀ b ∈ p, H' b = H b ∧ F' b = none) → ArgsR K ct F' H' ss vs ds p
  | _, _, _, _, .nil, _ => .nil
  | _, _, _, _, .cons h r, g => .cons (h.frame e fun b hb => g b (List.mem_append_left _ hb)) (ArgsR.frame e r fun b hb => g b (List.mem_append_right _ hb))
theorem ArgsR.there : ∀ {ss : List Sh} {vs : List V} {ds : List D} {p : List Addr}, ArgsR K ct F H ss vs ds p → ∀ b ∈ p, H b ≠ none ∧ F b = none
  | _, _, _, _, .nil, _, hb => absurd hb (by simp)
  | _, _, _, _, .cons h r, b, hb => (List.mem_append.mp hb).elim (fun hb => h.there b hb) fun hb => ArgsR.there r b hb
theorem ArgsR.lens : ∀ {ss : List Sh} {vs : List V} {ds : List D} {p : List Addr}, ArgsR K ct F H ss vs ds p → vs.length = ss.length ∧ ds.length = ss.length
  | _, _, _, _, .nil => ⟨rfl, rfl⟩
  | _, _, _, _, .cons h r => by
    obtain ⟨a, b⟩ := ArgsR.lens r
    simp only [List.length_cons, a, b, and_self]
theorem ArgsR.slots : ∀ {ss : List Sh} {vs : List V} {ds : List D} {p : List Addr}, ArgsR K ct F H ss vs ds p → SlotsR K ct F H ss (vs.map some) (ds.map some) p
  | _, _, _, _, .nil => .nil
  | _, _, _, _, .cons h r => .cons (.yes h) (ArgsR.slots r)
theorem ArgsR.ofR : ∀ {ss : List Sh} {vs : List V} {ds : List D}, (∀ s ∈ ss, s = .fz) → ss.length = ds.length → Reps K ct F vs ds → ArgsR K ct F H ss vs ds []
  | [], _, _, _, hl, .nil => .nil
  | s :: ss, _, _, hs, hl, .cons r t => by
    have := hs s List.mem_cons_self
    subst this
    exact ArgsR.cons (p := []) (.fz r) (ArgsR.ofR (fun s h => hs s (List.mem_cons_of_mem _ h)) (by simpa using hl) t)
  | [], _, _, _, hl, .cons _ _ => by simp at hl
  | _ :: _, _, _, _, hl, .nil => by simp at hl
end
def FPost (K : PySem.W.Frag) (ct : String → Option Addr) (sg : Sig) (vs : List V) (F : Hp) (fp : List Addr) (H : Hp) (Q : VK) (E : XK) : FO → Prop
  | .ret d ps => ∀ v F' fp' fv H', Same F' H' → Tr F fp H F' (fp' ++ fv) H' → SlotsR K ct F' H' sg.ps (vs.map some) ps fp' → MRep K ct F' H' sg.rs v d fv → (fp' ++ fv).Nodup → Q v H'
  | .exc x ps => ∀ cls da F' fp' H', Same F' H' → Tr F fp H F' fp' H' → SlotsR K ct F' H' sg.ps (vs.map some) ps fp' → fp'.Nodup → XRep K ct F' x cls da → E cls da H'
  | .stk => False
def spD (K : PySem.W.Frag) (ct : String → Option Addr) (sg : Sig) (Fn : FD) : Sp := fun vs H Q E => ∃ ds F fp, Same F H ∧ ArgsR K ct F H sg.ps vs ds fp ∧ fp.Nodup ∧ FPost K ct sg vs F fp H Q E (Fn ds)
def maskR : List Bool → Ro → Ro
  | true :: bs, d :: ρ => d :: maskR bs ρ
  | false :: bs, _ :: ρ => none :: maskR bs ρ
  | _ :: bs, [] => none :: maskR bs []
  | [], _ => []
def maskS : List Bool → List Sh → List Sh
  | true :: bs, d :: ρ => d :: maskS bs ρ
  | false :: bs, _ :: ρ => .fz :: maskS bs ρ
  | _ :: bs, [] => []
  | [], ρ => ρ.map fun _ => .fz
def bodyF (pm : List Bool) (n : Nat) (den : Ro → SO) : FD := fun ds => match den (ds.map some ++ List.replicate n none) with
  | .nx ρ => .ret .non (maskR pm ρ)
  | .ret d ρ => .ret d (maskR pm ρ)
  | .exc x ρ => .exc x (maskR pm ρ)
  | _ => .stk
section
variable {K : PySem.W.Frag} {ct : String → Option Addr} {F F' H H' : Hp}
theorem slots_fz : ∀ {ss : List Sh} {σ : L2.St} {ρ : Ro} {fp : List Addr}, (∀ s ∈ ss, s = .fz) → SlotsR K ct F H ss σ ρ fp → fp = []
  | _, _, _, _, _, .nil => rfl
  | _, _, _, _, hs, .cons h r => by
    rw [slots_fz (fun s h => hs s (List.mem_cons_of_mem _ h)) r]
    have e := hs _ List.mem_cons_self
    subst e
    cases h with
    | no => rfl
    | yes m => cases m; rfl
theorem mask_out : ∀ {pm : List Bool} {ss rest : List Sh} {σ : L2.St} {ρ : Ro} {fp : List Addr} {vs : List V}, pm.length = ss.length → vs.length = ss.length → (∀ s ∈ rest, s = .fz) → SlotsR K ct F H (maskS pm (ss ++ rest)) σ ρ fp →
    (∀ (i : Nat) (v : V), pm[i]? = some true → vs[i]? = some v → σ[i]? = some (some v)) → SlotsR K ct F H ss (vs.map some) (maskR pm ρ) fp
  | [], [], rest, σ, ρ, fp, [], _, _, hr, h, _ => by
    have e : maskS [] ([] ++ rest) = rest.map fun _ => .fz := rfl
    rw [e] at h
    rw [slots_fz (fun s hs => by obtain ⟨_, _, e⟩ := List.mem_map.mp hs; exact e.symm) h]
    exact .nil
  | b :: pm, s :: ss, rest, σ, ρ, fp, v :: vs, hp, hv, hr, h, hpin => by
    cases b with
    | true =>
      have e : maskS (true :: pm) ((s :: ss) ++ rest) = s :: maskS pm (ss ++ rest) := rfl
      rw [e] at h
      cases h with
      | cons h r =>
        have := hpin 0 v rfl rfl
        simp at this
        subst this
        exact .cons h (mask_out (by simpa using hp) (by simpa using hv) hr r fun i w h1 h2 => by simpa using hpin (i + 1) w (by simpa using h1) (by simpa using h2))
    | false =>
      have e : maskS (false :: pm) ((s :: ss) ++ rest) = .fz :: maskS pm (ss ++ rest) := rfl
      rw [e] at h
      cases h with
      | cons h r =>
        have q := mask_out (vs := vs) (by simpa using hp) (by simpa using hv) hr r fun i w h1 h2 => by simpa using hpin (i + 1) w (by simpa using h1) (by simpa using h2)
        have ep : ∀ {v : Option V} {d : Option D} {p : List Addr}, SlotR K ct F H .fz v d p → p = [] := fun z => by
          cases z with
          | no => rfl
          | yes m => cases m; rfl
        rw [ep h]
        exact SlotsR.cons (p := []) .no q
  | [], _ :: _, _, _, _, _, _, hp, _, _, _, _ => by simp at hp
  | _ :: _, [], _, _, _, _, _, hp, _, _, _, _ => by simp at hp
  | [], [], _, _, _, _, _ :: _, _, hv, _, _, _ => by simp at hv
  | _ :: _, _ :: _, _, _, _, _, [], _, hv, _, _, _ => by simp at hv
end
section
variable {P : Program} {w : World} {K : PySem.W.Frag} {mg : Str → Option Value} {base : Heap} {ct : String → Option Addr}
/-- THE RULE for a def -/
theorem fn_ok {x qual : Str} {st : Stmt} {f : Addr} {fd : FuncData} {N ps : List Str} {k : Nat} (sg : Sig) {Γ1 : List Sh} {den : Ro → SO} (F : Fun K x qual st f fd) (S : FnScope N ps (defScope st)) (n : Nat) (hn : N.length = ps.length + n) (hp : sg.pm.length = ps.length) (hs : sg.ps.length = ps.length)
    (hbody : ∀ (cdv : Value) (A : Around) (outer : List Env) (s : Shared) (H : Hp) (E : XK), Room k (A.deeper (envOfC qual (defScope st) s.heap.objs.size f cdv)) →
      DSs (cxOf (L2.CX P w) P w K mg base N qual (defScope st) f cdv A outer s H E) ct sg.pm ⟨sg.rs, maskS sg.pm (sg.ps ++ List.replicate n .fz), maskS sg.pm (sg.ps ++ List.replicate n .fz), []⟩ (sg.ps ++ List.replicate n .fz) (defBody st) Γ1 den)
    (hnx : sg.rs = .fz ∧ LeS (maskS sg.pm (sg.ps ++ List.replicate n .fz)) Γ1 ∨ ∀ ρ ρ', den ρ ≠ .nx ρ') : FnOk P w K mg base (L2.CX P w) (k + 1) f fd ps (spD K ct sg (bodyF sg.pm n den)) := by
  refine F.okX S (fun vs H Q E h => ?_) fun cdv A outer s H vs Q E hr h => ?_
  · obtain ⟨ds, F0, fp, _, a, _⟩ := h
    rw [a.lens.1, hs]
  · obtain ⟨ds, F0, fp, sub, ar, nd, po⟩ := h
    obtain ⟨t, p, r⟩ := (hbody cdv A outer s H E hr).run _ (takes_of rfl rfl rfl rfl) (passes_of rfl)
    have hvl : vs.length = ps.length := by rw [ar.lens.1, hs]
    refine ⟨t, p, r vs (ds.map some ++ List.replicate n none) F0 fp (L2.start N vs) H _ ⟨sub, ?_, nd, ?_⟩ ?_⟩
    · unfold L2.start
      rw [show N.length - vs.length = n by omega]
      have app : ∀ {ss : List Sh} {σ : L2.St} {ρ : Ro} {fp : List Addr}, SlotsR K ct F0 H ss σ ρ fp → ∀ n : Nat, SlotsR K ct F0 H (ss ++ List.replicate n .fz) (σ ++ List.replicate n none) (ρ ++ List.replicate n none) fp := by
        intro ss σ ρ fp h
        induction h with
        | nil =>
          intro n
          induction n with
          | zero => exact .nil
          | succ n ih => exact SlotsR.cons (p := []) .no ih
        | cons h _ ih => exact fun n => .cons h (ih n)
      exact app ar.slots n
    · intro i v h1 h2
      unfold L2.start
      have hi : i < vs.length := (List.getElem?_eq_some_iff.mp h2).1
      rw [List.getElem?_append_left (by simpa using hi), List.getElem?_map, h2]
      rfl
    · have out : ∀ {ρ' : Ro} {F' : Hp} {fp' : List Addr} {σ' : L2.St} {H' : Hp}, SR K ct (maskS sg.pm (sg.ps ++ List.replicate n .fz)) sg.pm vs ρ' F' fp' σ' H' → SlotsR K ct F' H' sg.ps (vs.map some) (maskR sg.pm ρ') fp' := fun {ρ' F' fp' σ' H'} sr =>
        mask_out (rest := List.replicate n .fz) (by omega) (by omega) (fun s hs => (List.mem_replicate.mp hs).2) sr.slots sr.pins
      unfold bodyF at po
      cases q : den (ds.map some ++ List.replicate n none) with
      | nx ρ' =>
        rw [q] at po
        rcases hnx with ⟨h1, h2⟩ | h2
        · intro σ' F' fp' H' sr tr
          obtain ⟨F2, fp2, sr2, tr2, _⟩ := SR.weak h2 sr
          exact po .non F2 fp2 [] H' sr2.sub (by rw [List.append_nil]; exact tr.trans tr2) (out sr2) (by rw [h1]; exact .fz .non) (by rw [List.append_nil]; exact sr2.nd)
        · exact absurd q (h2 _ _)
      | ret d ρ' => rw [q] at po; exact fun v σ' F' fp' fv H' sr tr m nd => po v F' fp' fv H' sr.sub tr (out sr) m nd
      | exc x ρ' => rw [q] at po; exact fun cls da σ' F' fp' H' sr tr xr => po cls da F' fp' H' sr.sub tr (out sr) sr.nd xr
      | brk ρ' => rw [q] at po; exact po.elim
      | ct ρ' => rw [q] at po; exact po.elim
      | stk => rw [q] at po; exact po.elim
/-- a promise told by another function that says less -/
def FLe (G F : FD) : Prop := ∀ ds, G ds = .stk ∨ G ds = F ds
theorem fn_imp {f : Addr} {fd : FuncData} {ps : List Str} {k : Nat} {sg : Sig} {Fn Gn : FD} {CX : CXT} (h : FnOk P w K mg base CX k f fd ps (spD K ct sg Fn)) (l : FLe Gn Fn) : FnOk P w K mg base CX k f fd ps (spD K ct sg Gn) :=
  h.imp fun vs H Q E ⟨ds, F0, fp, a, b, c, d⟩ => ⟨ds, F0, fp, a, b, c, by
    rcases l ds with e | e
    · rw [e] at d; exact d.elim
    · rw [← e]; exact d⟩
end
/-! ### calls -/
section
variable {X : Cx} {ct : String → Option Addr} {pm : List Bool} {Γ : List Sh} {pu pu1 pu2 pu3 : Bool} {s : Sh} {pos : Pos} {a b e : Expr} {es : List Expr} {da db dc : Ro → EO} {dr : Ro → AO}
def kCall (Fn : FD) (ds : List D) (ρ : Ro) : EO := match Fn ds with
  | .ret d _ => .ok d ρ
  | .exc x _ => .exc x ρ
  | .stk => .stk
def eCall (Fn : FD) (dr : Ro → AO) : Ro → EO := fun ρ => (dr ρ).bnd (kCall Fn)
/-- all arguments frozen -/
theorem call_run {sg : Sig} {Fn : FD} (hsg : ∀ s ∈ sg.ps, s = .fz) (hlen : ∀ ds, Fn ds ≠ .stk → ds.length = sg.ps.length) {pv : List V} {ρ : Ro} {F H : Hp} {fp : List Addr} {σ : L2.St} {W : WX} {Q : VK} {ds : List D} {vs : List V} (sr : SR X.K ct Γ pm pv ρ F fp σ H) (m : Reps X.K ct F vs ds)
    (p : EPost ⟨X.K, ct, Γ, pm, pv⟩ pu sg.rs ρ F fp H σ W Q (kCall Fn ds ρ)) : spD X.K ct sg Fn vs H Q (WE W σ) := by
  have hne : Fn ds ≠ .stk := fun z => by unfold kCall at p; rw [z] at p; exact p.elim
  refine ⟨ds, F, [], sr.sub, .ofR hsg (hlen ds hne).symm m, .nil, ?_⟩
  unfold kCall at p
  cases q : Fn ds with
  | stk => exact absurd q hne
  | ret d ps =>
    rw [q] at p
    intro v F' fp' fv H' sub tr sl mm nd
    have g : Grow F H F' H' := ⟨fun b o h => tr.keep b o h (by simp), tr.grow, sub, fun b h1 h2 => (tr.fnew b h1 h2).resolve_right (by simp)⟩
    exact EPost.fin p sr g mm (fun b hb => (tr.pnew b (List.mem_append_right _ hb)).resolve_left (by simp)) (List.nodup_append.mp nd).2.1
  | exc x ps =>
    rw [q] at p
    intro cls da F' fp' H' sub tr sl nd xr
    have g : Grow F H F' H' := ⟨fun b o h => tr.keep b o h (by simp), tr.grow, sub, fun b h1 h2 => (tr.fnew b h1 h2).resolve_right (by simp)⟩
    exact p cls da F' fp H' (g.sr sr) ((g.tr (fv := []) (by simp)).less (by simp)) xr
/-- a def of the module as it is known to its callers -/
structure DF (X : Cx) (ct : String → Option Addr) (k : Nat) (x : Str) (sg : Sig) (Fn : FD) : Prop where
  ok : ∃ f fd ps, FnOk X.prog X.w X.K X.mg X.base (L2.CX X.prog X.w) k f fd ps (spD X.K ct sg Fn) ∧ X.mg x = some (.ref f) ∧ PySem.W.keepIn X.K (.ref f) = true ∧ Binds X.K fd ps [] ∧ sg.ps.length = ps.length
theorem DF.hlen {k : Nat} {x : Str} {sg : Sig} {Fn : FD} (_h : DF X ct k x sg Fn) : True := trivial
def lenOk (sg : Sig) (Fn : FD) : Prop := ∀ ds, Fn ds ≠ .stk → ds.length = sg.ps.length
theorem de_call {x : Str} {p : Pos} {sg : Sig} {Fn : FD} {k : Nat} (G : DF X ct k x sg Fn) (hr : Room k X.A) (ha : DA X ct pm Γ (e :: es) pu dr) (hl : lenOk sg Fn) (hsg : ∀ s ∈ sg.ps, s = .fz := by decide) (hg : Gl X x := by rfl) (hdb : (x == ("__debug__" : Str)) = false := by decide)
    (he : starEach (e :: es) X.env = (false, eval e X.env) :: starEach es X.env := by rfl) (hpl : (backTo pos (starEach es X.env)).any (·.1) = false := by rfl) : DE X ct pm Γ (.Call (.Name x p) (e :: es) [] pos) pu sg.rs (eCall Fn dr) := ⟨fun W tk => by
  obtain ⟨f, fd, ps, F, hm, hk, hb, _⟩ := G.ok
  obtain ⟨t, pa, ra⟩ := ha.run W tk
  refine ⟨_, pe_callS F hr hg hm hk hb (fun σ => passAt tk σ) pa hdb he hpl, fun pv ρ F fp σ H Q sr q => ?_⟩
  have q : EPost ⟨X.K, ct, Γ, pm, pv⟩ (pu && true) sg.rs ρ F fp H σ W Q (eCall Fn dr ρ) := by rw [Bool.and_true]; exact q
  exact ra pv ρ F fp σ H _ sr (APost.bind q fun ds ρ1 vs F1 fp1 H1 sr1 tr1 m1 p1 => call_run hsg hl sr1 m1 p1)⟩
def kCall0 (Fn : FD) (ρ : Ro) : EO := match Fn [] with
  | .ret d _ => .ok d ρ
  | _ => .stk
theorem de_call0 {x : Str} {p : Pos} {sg : Sig} {Fn : FD} {k : Nat} (G : DF X ct k x sg Fn) (hr : Room k X.A) (hsg : sg.ps = [] := by rfl) (hg : Gl X x := by rfl) (hdb : (x == ("__debug__" : Str)) = false := by decide) :
    DE X ct pm Γ (.Call (.Name x p) [] [] pos) pu sg.rs (kCall0 Fn) := ⟨fun W tk => by
  obtain ⟨f, fd, ps, F, hm, hk, hb, _⟩ := G.ok
  refine ⟨_, pe_call0 F hr hg hm hk hb .nil passL hdb, fun pv ρ F fp σ H Q sr q => ?_⟩
  show spD X.K ct sg Fn ([] ++ []) H Q E0
  refine ⟨[], F, [], sr.sub, by rw [hsg]; exact .nil, .nil, ?_⟩
  unfold kCall0 at q
  cases z : Fn [] with
  | stk => rw [z] at q; exact q.elim
  | exc x ps => rw [z] at q; exact q.elim
  | ret d ps =>
    rw [z] at q
    intro v F' fp' fv H' sub tr sl mm nd
    have g : Grow F H F' H' := ⟨fun b o h => tr.keep b o h (by simp), tr.grow, sub, fun b h1 h2 => (tr.fnew b h1 h2).resolve_right (by simp)⟩
    exact EPost.fin q sr g mm (fun b hb => (tr.pnew b (List.mem_append_right _ hb)).resolve_left (by simp)) (List.nodup_append.mp nd).2.1⟩
/-! ### comprehensions, as values and stored -/
def own2 (own : List (Str × Nat)) : List Nat := own.map (·.2)
def tStar (K : PySem.W.Frag) (ct : String → Option Addr) (pm : List Bool) (Γ : List Sh) (pu : Bool) (s : Sh) (W : WX) (den : Ro → EO) : TE := fun σ H Q => ∃ pv ρ F fp, SR K ct Γ pm pv ρ F fp σ H ∧ EPost ⟨K, ct, Γ, pm, pv⟩ pu s ρ F fp H σ W Q (den ρ)
def tStarT (K : PySem.W.Frag) (ct : String → Option Addr) (pm : List Bool) (Γ : List Sh) (pu : Bool) (W : WX) (den : Ro → EO) : TT := fun σ H Q => ∃ pv ρ F fp, SR K ct Γ pm pv ρ F fp σ H ∧ TPost ⟨K, ct, Γ, pm, pv⟩ pu ρ F fp H σ W Q (den ρ)
theorem DE.star (h : DE X ct pm Γ e pu s da) {W : WX} (tk : Takes X W) : PE X e (tStar X.K ct pm Γ pu s W da) := by
  obtain ⟨t, p, r⟩ := h.run W tk
  exact ⟨fun pins s σ H Q I ⟨pv, ρ, F, fp, sr, q⟩ => p.run pins s σ H Q I (r pv ρ F fp σ H Q sr q)⟩
theorem DTs.star (h : DTs X ct pm Γ es pu da) {W : WX} (tk : Takes X W) : PTs X es (tStarT X.K ct pm Γ pu W da) := by
  obtain ⟨t, p, r⟩ := h.run W tk
  exact ⟨fun pins s σ H Q I ⟨pv, ρ, F, fp, sr, q⟩ => p.run pins s σ H Q I (r pv ρ F fp σ H Q sr q)⟩
abbrev W0 : WX := fun _ _ _ _ => False
theorem lc_star {di tt te : Ro → EO} {t : Tgt} {wi : TI} {vs : List Nat} {W : WX}
    (hi : ∀ pv ρ F fp σ H R, SR X.K ct Γ pm pv ρ F fp σ H → IPost ⟨X.K, ct, Γ, pm, pv⟩ pu1 ρ F fp H σ W R (di ρ) → wi σ H R) (wv : Wip Γ pm vs) (hti : ∀ i ∈ t.ix, i ∈ vs) :
    ∀ pv ρ F fp σ H Q, SR X.K ct Γ pm pv ρ F fp σ H → EPost ⟨X.K, ct, Γ, pm, pv⟩ false (.ml s) ρ F fp H σ W Q (eLc di t tt te vs ρ) → tLc wi (t.g X.K) (tStarT X.K ct pm Γ pu2 W0 tt) (tStar X.K ct pm Γ pu3 s W0 te) vs σ H Q :=
  lc_run (W' := W0) hi wv hti (fun pv ρ F fp σ H Q sr p => ⟨pv, ρ, F, fp, sr, p⟩) (fun pv ρ F fp σ H Q sr p => ⟨pv, ρ, F, fp, sr, p⟩)
theorem de_lc {elt tg iter : Expr} {ifs : List Expr} {scope : Scope} {own : List (Str × Nat)} {di tt te : Ro → EO} {t : Tgt} (hc : X.calm = true) (hN : X.N.Nodup) (hi : DI X ct pm Γ tg iter pu1 di) (ok : blkC X.N X.env.scope scope own = true)
    (hg : ∀ (s : Shared) (H : Hp) (C : Addr) (cl : List (Str × Addr)) (fp : List Addr), TG' (X.blk s H scope (compEnvC scope cl C X.env) fp) tg t)
    (ht : ∀ (s : Shared) (H : Hp) (C : Addr) (cl : List (Str × Addr)) (fp : List Addr), DTs (X.blk s H scope (compEnvC scope cl C X.env) fp) ct pm Γ ifs pu2 tt)
    (he : ∀ (s' : Shared) (H : Hp) (C : Addr) (cl : List (Str × Addr)) (fp : List Addr), DE (X.blk s' H scope (compEnvC scope cl C X.env) fp) ct pm Γ elt pu3 s te) (wv : Wip Γ pm (own2 own)) (hti : ∀ i ∈ t.ix, i ∈ own2 own) (hs : ∀ x, foldedSetIterable iter X.env x = pure x := by intro _; rfl) :
    DE X ct pm Γ (.ListComp elt [⟨tg, iter, ifs, 0⟩] scope pos) false (.ml s) (eLc di t tt te (own2 own)) := ⟨fun W tk => by
  obtain ⟨ti, pi, ri⟩ := hi.run W tk
  exact ⟨_, pe_lc hc hN pi (blkOk_by ok) (fun s H C cl fp => (hg s H C cl fp).ok) (fun s H C cl fp => (ht s H C cl fp).star (W := W0) takes0) (fun s H C cl fp => (he s H C cl fp).star (W := W0) takes0) hs, lc_star ri wv hti⟩⟩
theorem ds_setLc {S : SCx} {i : Nat} {y : Str} {py spos : Pos} {elt tg iter : Expr} {ifs : List Expr} {scope : Scope} {own : List (Str × Nat)} {di tt te : Ro → EO} {t : Tgt} (hc : X.calm = true) (hN : X.N.Nodup) (hi : DI X ct pm Γ tg iter pu1 di) (ok : blkC X.N X.env.scope scope own = true)
    (hg : ∀ (s : Shared) (H : Hp) (C : Addr) (cl : List (Str × Addr)) (fp : List Addr), TG' (X.blk s H scope (compEnvC scope cl C X.env) fp) tg t)
    (ht : ∀ (s : Shared) (H : Hp) (C : Addr) (cl : List (Str × Addr)) (fp : List Addr), DTs (X.blk s H scope (compEnvC scope cl C X.env) fp) ct pm Γ ifs pu2 tt)
    (he : ∀ (s' : Shared) (H : Hp) (C : Addr) (cl : List (Str × Addr)) (fp : List Addr), DE (X.blk s' H scope (compEnvC scope cl C X.env) fp) ct pm Γ elt pu3 s te) (wv : Wip Γ pm (own2 own)) (hti : ∀ i ∈ t.ix, i ∈ own2 own)
    (hx : LeS S.Γx Γ) (hil : i < Γ.length) (hp : pm[i]? ≠ some true) (hy : X.N[i]? = some y) (hyl : X.env.scope.names.lookup y = some .local) (hsw : swapsWith (.ListComp elt [⟨tg, iter, ifs, 0⟩] scope pos) (some (.Name y py)) spos.line X.env = pure true)
    (hs : ∀ x, foldedSetIterable iter X.env x = pure x := by intro _; rfl) :
    DS X ct pm S Γ (.Assign [.Name y py] (.ListComp elt [⟨tg, iter, ifs, 0⟩] scope pos) spos) (Γ.set i (.ml s)) (sE (eLc di t tt te (own2 own)) (kSet i)) := ⟨fun W tk ps => by
  obtain ⟨ti, pi, ri⟩ := hi.run W tk
  exact ⟨_, ps_setLc hc hN hy hyl hsw pi (blkOk_by ok) (fun s H C cl fp => (hg s H C cl fp).ok) (fun s H C cl fp => (ht s H C cl fp).star (W := W0) takes0) (fun s H C cl fp => (he s H C cl fp).star (W := W0) takes0) hs, set_run hil hp hx (lc_star ri wv hti)⟩⟩
/-! ### an owned name is moved out -/
def eMv (i : Nat) : Ro → EO := fun ρ => match ρ[i]? with
  | some (some d) => .ok d (ρ.set i none)
  | _ => .stk
theorem SR.take {K : PySem.W.Frag} {pv : List V} {ρ : Ro} {F H : Hp} {fp : List Addr} {σ : L2.St} (sr : SR K ct Γ pm pv ρ F fp σ H) {i : Nat} {d : D} {t : Sh} (h : ρ[i]? = some (some d)) (g : Γ[i]? = some t) :
    ∃ v p fp', σ[i]? = some (some v) ∧ MRep K ct F H t v d p ∧ SR K ct Γ pm pv (ρ.set i none) F fp' σ H ∧ (fp' ++ p).Perm fp := by
  obtain ⟨v, l, p, r, h1, h2, h3, h4⟩ := SR.get (c := ⟨K, ct, Γ, pm, pv⟩) sr h g
  have q := h4 (Same.refl F) (F' := F) (H' := H) (fun b hb => ⟨rfl, (sr.there b (by rw [h2]; rcases hb with z | z <;> simp [z])).2⟩) (SlotR.no (s := t) (v := some v))
  have eg : Γ.set i t = Γ := by
    apply List.ext_getElem?
    intro j
    by_cases e : i = j
    · subst e; rw [List.getElem?_set_self (List.getElem?_eq_some_iff.mp g).1, g]
    · rw [List.getElem?_set_ne e]
  have es : σ.set i (some v) = σ := by
    apply List.ext_getElem?
    intro j
    by_cases e : i = j
    · subst e; rw [List.getElem?_set_self (List.getElem?_eq_some_iff.mp h1).1, h1]
    · rw [List.getElem?_set_ne e]
  have q : SlotsR K ct F H (Γ.set i t) (σ.set i (some v)) (ρ.set i none) (l ++ ([] ++ r)) := q
  rw [eg, es] at q
  have pm' : ((l ++ ([] ++ r)) ++ p).Perm fp := by
    rw [h2, List.nil_append, List.append_assoc]
    exact List.Perm.append_left l List.perm_append_comm
  exact ⟨v, p, l ++ ([] ++ r), h1, h3, ⟨sr.sub, q, (List.nodup_append.mp (pm'.nodup_iff.mpr sr.nd)).1, sr.pins⟩, pm'⟩
theorem de_mv (i : Nat) {x : Str} {t : Sh} (hg : Γ[i]? = some t := by rfl) (hN : X.N[i]? = some x := by rfl) (hv : Vis X.env.scope x := by first | exact Or.inl rfl | exact Or.inr (Or.inl rfl) | exact Or.inr (Or.inr rfl)) (hd : (x == ("__debug__" : Str)) = false := by decide)
    (hcd : (x == ("__classdict__" : Str)) = false := by decide) : DE X ct pm Γ (.Name x pos) false t (eMv i) := by
  refine ⟨fun W tk => ⟨_, pe_var hN hv hd hcd, fun pv ρ F fp σ H Q sr p => ?_⟩⟩
  unfold eMv at p
  split at p
  · rename_i d hd
    obtain ⟨v, q, fp', h1, h2, h3, h4⟩ := sr.take hd hg
    exact ⟨v, h1, p v F fp' q H h3 (Tr.refl.less fun b hb => h4.subset hb) h2 (h4.nodup_iff.mpr sr.nd) fun e => by cases e⟩
  · exact p.elim
end
end DL
namespace DL
open PySem Spec PyProof.Rows L2
/-! ### reading an owned name for a moment: flat answers -/
def D.isFlat : D → Bool
  | .non => true
  | .bl _ => true
  | .int _ => true
  | .str _ => true
  | _ => false
def flatS : Sh → D → Bool
  | .fz, d => d.isFlat
  | .ml .fz, .lst xs => xs.all D.isFlat
  | _, _ => false
def eFlat (s : Sh) (den : Ro → EO) : Ro → EO := fun ρ => match den ρ with
  | .ok d _ => if flatS s d = true then .ok d ρ else .stk
  | _ => .stk
section
variable {K : PySem.W.Frag} {ct : String → Option Addr}
theorem flat_any {F F' : Hp} {v : V} {d : D} (h : d.isFlat = true) (r : Rep K ct F v d) : Rep K ct F' v d := by
  cases r <;> first | exact .non | exact .bl _ | exact .int _ | exact .str _ | cases h
theorem flats_any {F F' : Hp} : ∀ {vs : List V} {ds : List D}, ds.all D.isFlat = true → Reps K ct F vs ds → Reps K ct F' vs ds
  | _, _, _, .nil => .nil
  | _, _, h, .cons r t => by
    rw [List.all_cons, Bool.and_eq_true] at h
    exact .cons (flat_any h.1 r) (flats_any h.2 t)
theorem MReps.toR {F H : Hp} : ∀ {vs : List V} {ds : List D} {p : List Addr}, MReps K ct F H .fz vs ds p → Reps K ct F vs ds ∧ p = []
  | _, _, _, .nil => ⟨.nil, rfl⟩
  | _, _, _, .cons (.fz r) t => by
    obtain ⟨a, b⟩ := MReps.toR t
    exact ⟨.cons r a, by rw [b]; rfl⟩
theorem flatS_any {F F' H : Hp} {s : Sh} {v : V} {d : D} {fv : List Addr} (h : flatS s d = true) (m : MRep K ct F' H s v d fv) (n : ∀ b ∈ fv, F b = none) : MRep K ct F H s v d fv := by
  cases m with
  | fz r => exact .fz (flat_any h r)
  | @ml s a xs ds fp h1 h2 r =>
    cases s with
    | fz =>
      obtain ⟨t, e⟩ := MReps.toR r
      subst e
      exact .ml h1 (n a List.mem_cons_self) (MReps.ofR (flats_any h t))
    | _ => cases h
  | mK => cases h
  | mT => cases h
  | mo => cases h
end
section
variable {K : PySem.W.Frag} {ct : String → Option Addr} {F H : Hp}
mutual
theorem MRep_fp : ∀ {s : Sh} {v : V} {d : D} {p q : List Addr}, MRep K ct F H s v d p → MRep K ct F H s v d q → p = q
  | _, _, _, _, _, .fz _, .fz _ => rfl
  | _, _, _, _, _, .ml h _ r, .ml h' _ r' => by rw [h] at h'; cases h'; rw [MReps_fp r r']
  | _, _, _, _, _, .mK h _ r, .mK h' _ r' => by rw [h] at h'; cases h'; rw [MRepA_fp r r']
  | _, _, _, _, _, .mT h _ r, .mT h' _ r' => by rw [h] at h'; cases h'; rw [MRepA_fp r r']
  | _, _, _, _, _, .mo _ h _ r, .mo _ h' _ r' => by rw [h] at h'; cases h'; rw [MRepA_fp r r']
theorem MReps_fp : ∀ {s : Sh} {v : List V} {d : List D} {p q : List Addr}, MReps K ct F H s v d p → MReps K ct F H s v d q → p = q
  | _, _, _, _, _, .nil, .nil => rfl
  | _, _, _, _, _, .cons m r, .cons m' r' => by rw [MRep_fp m m', MReps_fp r r']
theorem MRepA_fp : ∀ {κ : Type} {s : κ → Sh} {v : List (κ × V)} {d : List (κ × D)} {p q : List Addr}, MRepA K ct F H s v d p → MRepA K ct F H s v d q → p = q
  | _, _, _, _, _, _, .nil, .nil => rfl
  | _, _, _, _, _, _, .cons m r, .cons m' r' => by rw [MRep_fp m m', MRepA_fp r r']
end
end
section
variable {X : Cx} {ct : String → Option Addr} {pm : List Bool} {Γ Γ' : List Sh} {pu pu1 pu2 pu3 : Bool} {s : Sh} {pos : Pos} {a b e : Expr} {es : List Expr} {da db dc : Ro → EO} {dr : Ro → AO}
theorem de_bor (h : DE X ct pm Γ' e true s da) (l : LeS Γ' Γ) : DE X ct pm Γ e pu s (eFlat s da) := ⟨fun W tk => by
  obtain ⟨t, p, r⟩ := h.run W tk
  refine ⟨t, p, fun pv ρ F fp σ H Q sr q => ?_⟩
  obtain ⟨F1, fp1, sr1, tr1, sb, out⟩ := SR.weak l sr
  refine r pv ρ F1 fp1 σ H Q sr1 ?_
  unfold eFlat at q
  cases z : da ρ with
  | stk => rw [z] at q; exact q.elim
  | exc x ρ1 => rw [z] at q; exact q.elim
  | ok d ρ1 =>
    rw [z] at q
    have q : EPost ⟨X.K, ct, Γ, pm, pv⟩ pu s ρ F fp H σ W Q (if flatS s d = true then .ok d ρ else .stk) := q
    by_cases hf : flatS s d = true
    · rw [if_pos hf] at q
      intro v F' fp' fv H' sr' tr' m nd pz
      obtain ⟨p1, p2, p3⟩ := pz rfl
      subst p2 p3
      have hv : ∀ b ∈ fv, H b = none := fun b hb => by
        rcases tr'.pnew b (List.mem_append_right _ hb) with y | y
        · exact absurd rfl ((List.nodup_append.mp nd).2.2 b y b hb)
        · exact y
      exact EPost.fin q sr (Grow.mk p1 (Same.refl F) (sr.sub.trans p1) fun b a n => absurd n a) (flatS_any hf m fun b hb => sr.sub.free (hv b hb)) hv (List.nodup_append.mp nd).2.1
    · rw [if_neg hf] at q; exact q.elim⟩
theorem dt_bor (h : DT X ct pm Γ' e true da) (l : LeS Γ' Γ) : DT X ct pm Γ e pu (eFlat .fz da) := ⟨fun W tk => by
  obtain ⟨t, p, r⟩ := h.run W tk
  refine ⟨t, p, fun pv ρ F fp σ H Q sr q => ?_⟩
  obtain ⟨F1, fp1, sr1, tr1, sb, out⟩ := SR.weak l sr
  refine r pv ρ F1 fp1 σ H Q sr1 ?_
  unfold eFlat at q
  cases z : da ρ with
  | stk => rw [z] at q; exact q.elim
  | exc x ρ1 => rw [z] at q; exact q.elim
  | ok d ρ1 =>
    rw [z] at q
    cases d with
    | bl b =>
      intro F' fp' H' sr' tr' pz
      obtain ⟨p1, p2, p3⟩ := pz rfl
      have g : Grow F H F H' := ⟨p1, Same.refl F, sr.sub.trans p1, fun b a n => absurd n a⟩
      have q : TPost ⟨X.K, ct, Γ, pm, pv⟩ pu ρ F fp H σ W Q (.ok (.bl b) ρ) := q
      exact q F fp H' (g.sr sr) ((g.tr (fv := []) (by simp)).less (by simp)) (Pu.grow g)
    | int => exact q.elim
    | str => exact q.elim
    | non => exact q.elim
    | _ => exact q.elim⟩
/-! ### places: something owned within a name -/
/-- within a thing of shape s0, value v0, data d0: one of shape s, value v, data d; plug: the data with other data there -/
def MZ (K : PySem.W.Frag) (ct : String → Option Addr) (F H : Hp) (s0 : Sh) (v0 : V) (d0 : D) (s : Sh) (v : V) (d : D) (plug : D → D) : Prop :=
  ∀ p0, MRep K ct F H s0 v0 d0 p0 → ∃ l p r, p0 = l ++ (p ++ r) ∧ MRep K ct F H s v d p ∧
    ∀ {F' H' : Hp} {d' : D} {p' : List Addr}, Same F F' → (∀ b, b ∈ l ∨ b ∈ r → H' b = H b ∧ F' b = none) → MRep K ct F' H' s v d' p' → MRep K ct F' H' s0 v0 (plug d') (l ++ (p' ++ r))
structure Zip (K : PySem.W.Frag) (ct : String → Option Addr) (Γ : List Sh) (i : Nat) (ρ : Ro) (F : Hp) (σ : L2.St) (H : Hp) (s : Sh) (v : V) (d : D) (plug : D → D) : Prop where
  ok : ∃ s0 v0 d0, Γ[i]? = some s0 ∧ ρ[i]? = some (some d0) ∧ σ[i]? = some (some v0) ∧ MZ K ct F H s0 v0 d0 s v d plug
theorem MZ.here {K : PySem.W.Frag} {F H : Hp} {s : Sh} {v : V} {d : D} : MZ K ct F H s v d s v d id := fun p0 m => ⟨[], p0, [], by simp, m, fun e n m' => by simpa using m'⟩
theorem set_same {α : Type} {xs : List α} {i : Nat} {x : α} (h : xs[i]? = some x) : xs.set i x = xs := by
  apply List.ext_getElem?
  intro j
  by_cases e : i = j
  · subst e; rw [List.getElem?_set_self (List.getElem?_eq_some_iff.mp h).1, h]
  · rw [List.getElem?_set_ne e]
theorem MReps.at {K : PySem.W.Frag} {F H : Hp} {s : Sh} : ∀ {vs : List V} {ds : List D} {fp : List Addr} {j : Nat} {d : D}, MReps K ct F H s vs ds fp → ds[j]? = some d →
    ∃ v l p r, vs[j]? = some v ∧ fp = l ++ (p ++ r) ∧ MRep K ct F H s v d p ∧
      ∀ {F' H' : Hp} {d' : D} {p' : List Addr}, Same F F' → (∀ b, b ∈ l ∨ b ∈ r → H' b = H b ∧ F' b = none) → MRep K ct F' H' s v d' p' → MReps K ct F' H' s vs (ds.set j d') (l ++ (p' ++ r))
  | _, _, _, _, _, .nil, h => by simp at h
  | _, _, _, 0, _, .cons (p := p) (q := q) m t, h => by
    simp at h; subst h
    refine ⟨_, [], p, q, rfl, rfl, m, fun e n m' => ?_⟩
    show MReps _ _ _ _ _ (_ :: _) (_ :: _) (_ ++ q)
    exact .cons m' (t.frame e fun b hb => n b (.inr hb))
  | _, _, _, j + 1, _, .cons (p := p) (q := q) m t, h => by
    obtain ⟨v, l, p1, r, h1, h2, h3, h4⟩ := MReps.at t (j := j) (by simpa using h)
    refine ⟨v, p ++ l, p1, r, by simpa using h1, by rw [h2, List.append_assoc], h3, fun e n m' => ?_⟩
    rw [List.append_assoc]
    exact .cons (m.frame e fun b hb => n b (.inl (List.mem_append_left _ hb))) (h4 e (fun b hb => n b (hb.imp (fun z => List.mem_append_right _ z) id)) m')
def valG {κ α : Type} [DecidableEq κ] : List (κ × α) → κ → Option α
  | [], _ => none
  | (a, x) :: r, k => if a = k then some x else valG r k
def setG {κ α : Type} [DecidableEq κ] : List (κ × α) → κ → α → List (κ × α)
  | [], _, _ => []
  | (a, x) :: r, k, y => if a = k then (a, y) :: r else (a, x) :: setG r k y
theorem MRepA.at {K : PySem.W.Frag} {F H : Hp} {κ : Type} [DecidableEq κ] {g : κ → Sh} : ∀ {vs : List (κ × V)} {ds : List (κ × D)} {fp : List Addr} {k : κ} {d : D}, MRepA K ct F H g vs ds fp → valG ds k = some d →
    ∃ v l p r, valG vs k = some v ∧ fp = l ++ (p ++ r) ∧ MRep K ct F H (g k) v d p ∧
      ∀ {F' H' : Hp} {d' : D} {p' : List Addr}, Same F F' → (∀ b, b ∈ l ∨ b ∈ r → H' b = H b ∧ F' b = none) → MRep K ct F' H' (g k) v d' p' → MRepA K ct F' H' g vs (setG ds k d') (l ++ (p' ++ r))
  | _, _, _, _, _, .nil, h => by simp [valG] at h
  | _, _, _, k, _, .cons (k := a) (p := p) (q := q) m t, h => by
    by_cases e : a = k
    · subst e
      simp only [valG, if_true] at h
      cases h
      refine ⟨_, [], p, q, by simp only [valG, if_true], rfl, m, fun e n m' => ?_⟩
      simp only [setG, if_true]
      show MRepA _ _ _ _ _ (_ :: _) (_ :: _) (_ ++ q)
      exact .cons m' (t.frame e fun b hb => n b (.inr hb))
    · simp only [valG, if_neg e] at h
      obtain ⟨v, l, p1, r, h1, h2, h3, h4⟩ := MRepA.at t h
      refine ⟨v, p ++ l, p1, r, by simp only [valG, if_neg e]; exact h1, by rw [h2, List.append_assoc], h3, fun e' n m' => ?_⟩
      rw [List.append_assoc]
      simp only [setG, if_neg e]
      exact .cons (m.frame e' fun b hb => n b (.inl (List.mem_append_left _ hb))) (h4 e' (fun b hb => n b (hb.imp (fun z => List.mem_append_right _ z) id)) m')
section
variable {K : PySem.W.Frag} {F H : Hp} {s0 : Sh} {v0 v : V} {d0 d : D} {plug : D → D}
/-- the parts of a place: value facts need the thing to stand there -/
theorem MZ.ix {ds : List D} {j : Nat} {p0 : List Addr} (z : MZ K ct F H s0 v0 d0 (.ml s) v (.lst ds) plug) (h : ds[j]? = some d) (m0 : MRep K ct F H s0 v0 d0 p0) :
    ∃ a vs w, v = .ref a ∧ H a = some (.lst vs) ∧ vs[j]? = some w ∧ vs.length = ds.length ∧ MZ K ct F H s0 v0 d0 s w d fun d' => plug (.lst (ds.set j d')) := by
  obtain ⟨_, _, _, _, h2', _⟩ := z p0 m0
  cases h2' with
  | @ml _ a vs _ fp2 h4 h5 h6 =>
    obtain ⟨w, _, _, _, q1, _⟩ := h6.at h
    refine ⟨a, vs, w, rfl, h4, q1, h6.lens, fun p1 m1 => ?_⟩
    obtain ⟨l, p, r, h1, h2, h3⟩ := z p1 m1
    cases h2 with
    | @ml _ _ vs' _ fp2' g4 g5 g6 =>
      rw [h4] at g4
      cases g4
      obtain ⟨w', l1, p1', r1, q1', q2, q3, q4⟩ := g6.at h
      rw [q1] at q1'
      cases q1'
      refine ⟨l ++ (a :: l1), p1', r1 ++ r, by rw [h1, q2]; simp, q3, fun {F' H' d' p'} e n m => ?_⟩
      have := h3 (d' := .lst (ds.set j d')) (p' := a :: (l1 ++ (p' ++ r1))) e (fun b hb => n b (by rcases hb with y | y <;> simp [y])) (.ml ((n a (by simp)).1.trans h4) (n a (by simp)).2 (q4 e (fun b hb => n b (by rcases hb with y | y <;> simp [y])) m))
      simpa using this
theorem MZ.dk {ds : List (Key × D)} {k : Key} {p0 : List Addr} (z : MZ K ct F H s0 v0 d0 (.mK s) v (.dK ds) plug) (h : valG ds k = some d) (m0 : MRep K ct F H s0 v0 d0 p0) :
    ∃ a vs w, v = .ref a ∧ H a = some (.dK vs) ∧ valG vs k = some w ∧ MZ K ct F H s0 v0 d0 s w d fun d' => plug (.dK (setG ds k d')) := by
  obtain ⟨_, _, _, _, h2', _⟩ := z p0 m0
  cases h2' with
  | @mK _ a vs _ fp2 h4 h5 h6 =>
    obtain ⟨w, _, _, _, q1, _⟩ := h6.at h
    refine ⟨a, vs, w, rfl, h4, q1, fun p1 m1 => ?_⟩
    obtain ⟨l, p, r, h1, h2, h3⟩ := z p1 m1
    cases h2 with
    | @mK _ _ vs' _ fp2' g4 g5 g6 =>
      rw [h4] at g4
      cases g4
      obtain ⟨w', l1, p1', r1, q1', q2, q3, q4⟩ := g6.at h
      rw [q1] at q1'
      cases q1'
      refine ⟨l ++ (a :: l1), p1', r1 ++ r, by rw [h1, q2]; simp, q3, fun {F' H' d' p'} e n m => ?_⟩
      have := h3 (d' := .dK (setG ds k d')) (p' := a :: (l1 ++ (p' ++ r1))) e (fun b hb => n b (by rcases hb with y | y <;> simp [y])) (.mK ((n a (by simp)).1.trans h4) (n a (by simp)).2 (q4 e (fun b hb => n b (by rcases hb with y | y <;> simp [y])) m))
      simpa using this
theorem MZ.fld {c : String} {ss : List (Str × Sh)} {ds : List (Str × D)} {f : Str} {p0 : List Addr} (z : MZ K ct F H s0 v0 d0 (.mo c ss) v (.ob c ds) plug) (h : valG ds f = some d) (m0 : MRep K ct F H s0 v0 d0 p0) :
    ∃ a C dx vs w, v = .ref a ∧ ct c = some C ∧ H a = some (.ins C dx vs) ∧ valG vs f = some w ∧ MZ K ct F H s0 v0 d0 (shOf ss f) w d fun d' => plug (.ob c (setG ds f d')) := by
  obtain ⟨_, _, _, _, h2', _⟩ := z p0 m0
  cases h2' with
  | @mo _ _ C a dx vs _ fp2 hc h4 h5 h6 =>
    obtain ⟨w, _, _, _, q1, _⟩ := h6.at h
    refine ⟨a, C, dx, vs, w, rfl, hc, h4, q1, fun p1 m1 => ?_⟩
    obtain ⟨l, p, r, h1, h2, h3⟩ := z p1 m1
    cases h2 with
    | @mo _ _ C' _ dx' vs' _ fp2' hc' g4 g5 g6 =>
      rw [h4] at g4
      cases g4
      obtain ⟨w', l1, p1', r1, q1', q2, q3, q4⟩ := g6.at h
      rw [q1] at q1'
      cases q1'
      refine ⟨l ++ (a :: l1), p1', r1 ++ r, by rw [h1, q2]; simp, q3, fun {F' H' d' p'} e n m => ?_⟩
      have := h3 (d' := .ob c (setG ds f d')) (p' := a :: (l1 ++ (p' ++ r1))) e (fun b hb => n b (by rcases hb with y | y <;> simp [y])) (.mo hc ((n a (by simp)).1.trans h4) (n a (by simp)).2 (q4 e (fun b hb => n b (by rcases hb with y | y <;> simp [y])) m))
      simpa using this
/-- under new things -/
theorem MZ.grow {F1 H1 : Hp} {p0 : List Addr} (z : MZ K ct F H s0 v0 d0 s v d plug) (g : Grow F H F1 H1) (m0 : MRep K ct F H s0 v0 d0 p0) : MZ K ct F1 H1 s0 v0 d0 s v d plug := fun p1 m1 => by
  -- the footprint is the same
  obtain ⟨l, p, r, h1, h2, h3⟩ := z p0 m0
  have qt : ∀ b ∈ p0, H1 b = H b ∧ F1 b = none := Tr.quiet (q := []) (q' := []) ((g.tr (fp := []) (fv := []) (by simp))) m0.there (by simp)
  have e : p1 = p0 := by
    have m0' := m0.frame g.ff qt
    exact MRep_fp m1 m0'
  subst e
  refine ⟨l, p, r, h1, h2.frame g.ff fun b hb => qt b (by rw [h1]; simp [hb]), fun {F' H' d' p'} e n m => h3 (g.ff.trans e) (fun b hb => ?_) m⟩
  obtain ⟨n1, n2⟩ := n b hb
  exact ⟨n1.trans (qt b (by rw [h1]; rcases hb with y | y <;> simp [y])).1, n2⟩
end
/-- the slot's thing -/
theorem SR.root {K : PySem.W.Frag} {pv : List V} {ρ : Ro} {F H : Hp} {fp : List Addr} {σ : L2.St} (sr : SR K ct Γ pm pv ρ F fp σ H) {i : Nat} {d0 : D} {s0 : Sh} {v0 : V} (h : ρ[i]? = some (some d0)) (g : Γ[i]? = some s0) (q : σ[i]? = some (some v0)) :
    ∃ l p r, fp = l ++ (p ++ r) ∧ MRep K ct F H s0 v0 d0 p ∧ ∀ {F' H' : Hp} {x' : Option D} {p' : List Addr}, Same F F' → (∀ b, b ∈ l ∨ b ∈ r → H' b = H b ∧ F' b = none) → SlotR K ct F' H' s0 (some v0) x' p' → SlotsR K ct F' H' Γ σ (ρ.set i x') (l ++ (p' ++ r)) := by
  obtain ⟨v, l, p, r, h1, h2, h3, h4⟩ := SR.get (c := ⟨K, ct, Γ, pm, pv⟩) sr h g
  rw [q] at h1
  cases h1
  refine ⟨l, p, r, h2, h3, fun e n m => ?_⟩
  have q2 := h4 e n m
  have q2 : SlotsR _ _ _ _ (Γ.set i s0) (σ.set i (some v0)) _ _ := q2
  rw [set_same g, set_same q] at q2
  exact q2
inductive PlO where
  | ok (d : D) (plug : D → D) | stk
structure DP (X : Cx) (ct : String → Option Addr) (pm : List Bool) (Γ : List Sh) (e : Expr) (i : Nat) (s : Sh) (den : Ro → PlO) : Prop where
  run : ∀ W, Takes X W → ∃ t, PE X e t ∧ ∀ pv ρ F fp σ H Q, SR X.K ct Γ pm pv ρ F fp σ H → (∃ d plug, den ρ = .ok d plug ∧ ∀ v F' H', Grow F H F' H' → SR X.K ct Γ pm pv ρ F' fp σ H' → Zip X.K ct Γ i ρ F' σ H' s v d plug → Q v H') → t σ H Q
theorem Zip.grow {K : PySem.W.Frag} {pv : List V} {fp : List Addr} {i : Nat} {ρ : Ro} {F F1 : Hp} {σ : L2.St} {H H1 : Hp} {v : V} {d : D} {plug : D → D} (z : Zip K ct Γ i ρ F σ H s v d plug) (sr : SR K ct Γ pm pv ρ F fp σ H) (g : Grow F H F1 H1) : Zip K ct Γ i ρ F1 σ H1 s v d plug := by
  obtain ⟨s0, v0, d0, h1, h2, h3, h4⟩ := z.ok
  obtain ⟨l, p, r, q1, q2, _⟩ := sr.root h2 h1 h3
  exact ⟨s0, v0, d0, h1, h2, h3, h4.grow g q2⟩
def pNm (i : Nat) : Ro → PlO := fun ρ => match ρ[i]? with
  | some (some d) => .ok d id
  | _ => .stk
theorem dp_nm (i : Nat) {x : Str} {t : Sh} (hg : Γ[i]? = some t := by rfl) (hN : X.N[i]? = some x := by rfl) (hv : Vis X.env.scope x := by first | exact Or.inl rfl | exact Or.inr (Or.inl rfl) | exact Or.inr (Or.inr rfl)) (hd : (x == ("__debug__" : Str)) = false := by decide)
    (hcd : (x == ("__classdict__" : Str)) = false := by decide) : DP X ct pm Γ (.Name x pos) i t (pNm i) := by
  refine ⟨fun W tk => ⟨_, pe_var hN hv hd hcd, fun pv ρ F fp σ H Q sr ⟨d, plug, q, k⟩ => ?_⟩⟩
  unfold pNm at q
  split at q
  · rename_i d' hd
    cases q
    obtain ⟨v, l, p, r, h1, h2, h3, h4⟩ := SR.get (c := ⟨X.K, ct, Γ, pm, pv⟩) sr hd hg
    exact ⟨v, h1, k v F H (Grow.refl sr.sub) sr ⟨t, v, d, hg, hd, h1, MZ.here⟩⟩
  · cases q
theorem EPost.pure {c : PC'} {ρ : Ro} {F H : Hp} {fp : List Addr} {σ : L2.St} {W : WX} {Q : VK} {d : D} {ρ' : Ro} (k : ρ' = ρ → ∀ v F' H', Grow F H F' H' → c.SR ρ F' fp σ H' → Rep c.K c.ct F' v d → Q v H') : EPost c true .fz ρ F fp H σ W Q (.ok d ρ') := by
  intro v F' fp' fv H' sr tr m nd pz
  obtain ⟨p1, p2, p3⟩ := pz rfl
  subst p2 p3
  cases m with
  | fz m =>
    refine k rfl v F' H' ⟨p1, tr.grow, sr.sub, fun b h1 h2 => (tr.fnew b h1 h2).elim id fun hb => ?_⟩ sr m
    exact absurd (sr.there b hb).2 h1
/-- p[k], p an owned list -/
def pIx (dp : Ro → PlO) (da : Ro → EO) : Ro → PlO := fun ρ => match dp ρ with
  | .ok (.lst ds) plug => (match da ρ with
    | .ok (.int k) _ => (match ixN ds.length k with
      | some j => (match ds[j]? with
        | some d => .ok d fun d' => plug (.lst (ds.set j d'))
        | none => .stk)
      | none => .stk)
    | _ => .stk)
  | _ => .stk
theorem dp_ix {o : Expr} {i : Nat} {dp : Ro → PlO} (ho : DP X ct pm Γ o i (.ml s) dp) (hi : DE X ct pm Γ e true .fz da) (hs : PlainIx e := by exact fun _ _ => rfl) : DP X ct pm Γ (.Subscript o e pos) i s (pIx dp da) := ⟨fun W tk => by
  obtain ⟨t, p, r⟩ := ho.run W tk
  obtain ⟨ti, pi, ri⟩ := hi.run W tk
  refine ⟨_, pe_ix ix_list p pi hs, fun pv ρ F fp σ H Q sr ⟨d, plug, q, k⟩ => ?_⟩
  unfold pIx at q
  split at q
  · rename_i ds plug0 h0
    split at q
    · rename_i n ρ' h1
      split at q
      · rename_i j hj
        split at q
        · rename_i d' hd
          cases q
          refine r pv ρ F fp σ H _ sr ⟨_, plug0, h0, fun v F1 H1 g1 sr1 z1 => ?_⟩
          refine ri pv ρ F1 fp σ H1 _ sr1 ?_
          rw [h1]
          refine EPost.pure fun e v2 F2 H2 g2 sr2 r2 => ?_
          cases r2
          obtain ⟨s0, v0, d0, y1, y2, y3, y4⟩ := (z1.grow sr1 g2).ok
          obtain ⟨l, p, r, w1, w2, _⟩ := sr2.root y2 y1 y3
          obtain ⟨a, vs, w, rfl, q1, q2, q3, q4⟩ := y4.ix hd w2
          exact ⟨a, vs, n, w, rfl, rfl, .inl (.inl q1), by unfold atI; rw [q3, hj]; exact q2, k w F2 H2 (g1.trans g2) sr2 ⟨s0, v0, d0, y1, y2, y3, q4⟩⟩
        · cases q
      · cases q
    · cases q
  · cases q⟩
/-! ### methods that change an owned thing -/
/-- the heap's own change: at the thing's address alone -/
def OpU (K : PySem.W.Frag) (ct : String → Option Addr) (r : V → List V → Hp → VK → Prop) (s : Sh) (f : D → List D → Option (D × D)) : Prop := ∀ (F H : Hp) (v : V) (d : D) (p : List Addr) (vs : List V) (xs : List D) (d' z : D) (Q : VK), Same F H → MRep K ct F H s v d p → Reps K ct F vs xs → f d xs = some (d', z) →
  (∀ u H' p' a, a ∈ p → (∀ b, b ≠ a → H' b = H b) → H' a ≠ none → MRep K ct F H' s v d' p' → p'.Sublist p → Rep K ct F u z → Q u H') → r v vs H Q
/-- the place's thing is changed -/
theorem Zip.put {K : PySem.W.Frag} {pv : List V} {i : Nat} {ρ : Ro} {F : Hp} {fp : List Addr} {σ : L2.St} {H : Hp} {v : V} {d : D} {plug : D → D} (sr : SR K ct Γ pm pv ρ F fp σ H) (z : Zip K ct Γ i ρ F σ H s v d plug) :
    ∃ p, MRep K ct F H s v d p ∧ ∀ (H' : Hp) (p' : List Addr) (d' : D) (a : Addr), a ∈ p → (∀ b, b ≠ a → H' b = H b) → H' a ≠ none → MRep K ct F H' s v d' p' → p'.Sublist p →
      ∃ fp', SR K ct Γ pm pv (ρ.set i (some (plug d'))) F fp' σ H' ∧ Tr F fp H F fp' H' := by
  obtain ⟨s0, v0, d0, y1, y2, y3, y4⟩ := z.ok
  obtain ⟨l, p0, r, w1, w2, w3⟩ := sr.root y2 y1 y3
  obtain ⟨l1, p, r1, e1, e2, e3⟩ := y4 p0 w2
  refine ⟨p, e2, fun H' p' d' a ha hb hn m hsub => ?_⟩
  have nd := sr.nd
  rw [w1, e1] at nd
  have efp : l ++ ((l1 ++ (p ++ r1)) ++ r) = (l ++ l1) ++ (p ++ (r1 ++ r)) := by simp
  rw [efp] at nd
  obtain ⟨n1, n2, n3⟩ := List.nodup_append.mp nd
  obtain ⟨n4, n5, n6⟩ := List.nodup_append.mp n2
  have mem : ∀ b, b ∈ p ∨ b ∈ l ++ l1 ∨ b ∈ r1 ++ r → b ∈ fp := fun b hb => by
    rw [w1, e1, efp]
    simp only [List.mem_append] at hb ⊢
    rcases hb with y | y | y
    · exact .inr (.inl y)
    · exact .inl y
    · exact .inr (.inr y)
  have out : ∀ b, b ∈ l ++ l1 ∨ b ∈ r1 ++ r → H' b = H b ∧ F b = none := fun b hb' => ⟨hb b (by
    rcases hb' with y | y
    · exact fun e => n3 b y a (List.mem_append_left _ ha) e
    · exact fun e => n6 a ha b y e.symm), (sr.there b (mem b (.inr hb'))).2⟩
  have q := w3 (F' := F) (H' := H') (x' := some (plug d')) (Same.refl F) (fun b hb' => out b (by rcases hb' with y | y <;> simp [y])) (.yes (e3 (Same.refl F) (fun b hb' => out b (by rcases hb' with y | y <;> simp [y])) m))
  have ha' : a ∈ fp := mem a (.inl ha)
  have ef2 : l ++ ((l1 ++ (p' ++ r1)) ++ r) = (l ++ l1) ++ (p' ++ (r1 ++ r)) := by simp
  rw [ef2] at q
  have sb : ((l ++ l1) ++ (p' ++ (r1 ++ r))).Sublist ((l ++ l1) ++ (p ++ (r1 ++ r))) := (List.Sublist.refl _).append (hsub.append (List.Sublist.refl _))
  refine ⟨_, ⟨fun b o h => ?_, q, sb.nodup nd, sr.pins⟩, ⟨fun b o h n => ?_, fun b h => ?_, Same.refl F, fun b h n => absurd n h, fun b hb' => .inl ?_⟩⟩
  · rw [hb b (fun e => by subst e; rw [(sr.there b ha').2] at h; cases h)]
    exact sr.sub b o h
  · rw [hb b (fun e => by subst e; exact n ha')]; exact h
  · by_cases e : b = a
    · subst e; exact hn
    · rw [hb b e]; exact h
  · rw [w1, e1, efp]
    exact sb.subset hb'
def eMethP (i : Nat) (dp : Ro → PlO) (f : D → List D → Option (D × D)) (dr : Ro → AO) : Ro → EO := fun ρ => match dp ρ with
  | .ok d plug => (match dr ρ with
    | .ok xs _ => (match f d xs with
      | some (d', z) => .ok z (ρ.set i (some (plug d')))
      | none => .stk)
    | .exc x ρ' => .exc x ρ'
    | .stk => .stk)
  | .stk => .stk
theorem meth_run {i : Nat} {dp : Ro → PlO} {r : V → List V → Hp → VK → Prop} {f : D → List D → Option (D × D)} {T : String} {W : WX} {to : TE} {ta : TA} (op : OpU X.K ct r s f) (hty : ∀ {F H : Hp} {v : V} {d : D} {p : List Addr}, MRep X.K ct F H s v d p → tyV X.K T v H)
    (rp : ∀ pv ρ F fp σ H Q, SR X.K ct Γ pm pv ρ F fp σ H → (∃ d plug, dp ρ = .ok d plug ∧ ∀ v F' H', Grow F H F' H' → SR X.K ct Γ pm pv ρ F' fp σ H' → Zip X.K ct Γ i ρ F' σ H' s v d plug → Q v H') → to σ H Q)
    (ra : ∀ pv ρ F fp σ H Q, SR X.K ct Γ pm pv ρ F fp σ H → APost ⟨X.K, ct, Γ, pm, pv⟩ true ρ F fp H σ W Q (dr ρ) → ta σ H Q) :
    ∀ pv ρ F fp σ H Q, SR X.K ct Γ pm pv ρ F fp σ H → EPost ⟨X.K, ct, Γ, pm, pv⟩ false .fz ρ F fp H σ W Q (eMethP i dp f dr ρ) → tBM X.K T r to ta σ H Q := by
  intro pv ρ F fp σ H Q sr q
  unfold eMethP at q
  cases h0 : dp ρ with
  | stk => rw [h0] at q; exact q.elim
  | ok d plug =>
    rw [h0] at q
    have q : EPost ⟨X.K, ct, Γ, pm, pv⟩ false .fz ρ F fp H σ W Q (match dr ρ with
      | .ok xs _ => (match f d xs with
        | some (d', z) => .ok z (ρ.set i (some (plug d')))
        | none => .stk)
      | .exc x ρ' => .exc x ρ'
      | .stk => .stk) := q
    refine rp pv ρ F fp σ H _ sr ⟨d, plug, h0, fun v F1 H1 g1 sr1 z1 => ?_⟩
    have tr1 : Tr F fp H F1 fp H1 := (g1.tr (fv := []) (by simp)).less (by simp)
    obtain ⟨p9, m9, _⟩ := Zip.put sr1 z1
    refine ⟨hty m9, ?_⟩
    refine ra pv ρ F1 fp σ H1 _ sr1 ?_
    cases h1 : dr ρ with
    | stk => rw [h1] at q; exact q.elim
    | exc x ρ' =>
      rw [h1] at q
      exact fun cls da F' fp' H' sr' tr' xr => q cls da F' fp' H' sr' (tr1.trans tr') xr
    | ok xs ρ' =>
      rw [h1] at q
      have q : EPost ⟨X.K, ct, Γ, pm, pv⟩ false .fz ρ F fp H σ W Q (match f d xs with
        | some (d', z) => .ok z (ρ.set i (some (plug d')))
        | none => .stk) := q
      intro vs F2 fp2 H2 sr2 tr2 ms pz
      obtain ⟨p1, p2, p3⟩ := pz rfl
      subst p2 p3
      have g2 : Grow F1 H1 F2 H2 := ⟨p1, tr2.grow, sr2.sub, fun b h1 h2 => (tr2.fnew b h1 h2).elim id fun hb => absurd (sr2.there b hb).2 h1⟩
      obtain ⟨p, m, hput⟩ := Zip.put sr2 (z1.grow sr1 g2)
      cases h2 : f d xs with
      | none => rw [h2] at q; exact q.elim
      | some dz =>
        obtain ⟨d', z⟩ := dz
        rw [h2] at q
        refine op F2 H2 v d p vs xs d' z Q sr2.sub m ms h2 fun u H3 p' a ha hb hn m' hsub ru => ?_
        obtain ⟨fp3, sr3, tr3⟩ := hput H3 p' d' a ha hb hn m' hsub
        exact q u F2 fp3 [] H3 sr3 (by rw [List.append_nil]; exact (tr1.trans tr2).trans tr3) (.fz ru) (by rw [List.append_nil]; exact sr3.nd) fun e => by cases e
theorem ty_ml {K : PySem.W.Frag} {F H : Hp} {v : V} {d : D} {p : List Addr} (m : MRep K ct F H (.ml s) v d p) : tyV K "list" v H := by
  cases m with
  | ml h _ _ => exact .inl ⟨rfl, _, .inl (.inl h)⟩
theorem de_methP {o : Expr} {i : Nat} {dp : Ro → PlO} {r : V → List V → Hp → VK → Prop} {f : D → List D → Option (D × D)} {T : String} {name : Str} {apos cpos : Pos} (op : OpU X.K ct r s f) (hty : ∀ {F H : Hp} {v : V} {d : D} {p : List Addr}, MRep X.K ct F H s v d p → tyV X.K T v H)
    (ho : DP X ct pm Γ o i s dp) (ha : DA X ct pm Γ (e :: es) true dr)
    (hp : ∀ {to : TE} {t : TA}, PE X o to → PA X (e :: es) t → PE X (.Call (.Attribute o name apos) (e :: es) [] cpos) (tBM X.K T r to t)) :
    DE X ct pm Γ (.Call (.Attribute o name apos) (e :: es) [] cpos) false .fz (eMethP i dp f dr) := ⟨fun W tk => by
  obtain ⟨to, po, ro⟩ := ho.run W tk
  obtain ⟨ta, pa, ra⟩ := ha.run W tk
  exact ⟨_, hp po pa, meth_run (W := W) op hty ro ra⟩⟩
def uApp : D → List D → Option (D × D)
  | .lst ds, [x] => if ds.length < sizeLine then some (.lst (ds ++ [x]), .non) else none
  | _, _ => none
theorem op_app {K : PySem.W.Frag} : OpU K ct rAppend (.ml .fz) uApp := fun F H v d p vs xs d' z Q e m t q k => by
  match d, xs, q with
  | .lst ds, [x], q =>
    obtain ⟨w, rfl, r⟩ := reps1 t
    simp only [uApp] at q
    split at q
    · rename_i hl
      cases q
      cases m with
      | @ml _ a us _ fp h1 h2 h3 =>
        obtain ⟨h4, rfl⟩ := MReps.toR h3
        refine ⟨a, us, w, rfl, rfl, h1, by rw [h4.len]; exact hl, ?_⟩
        exact k .non _ [a] a List.mem_cons_self (fun b hb => upd_ne hb) (by rw [upd_same]; simp) (.ml upd_same h2 (MReps.ofR (h4.app (.cons r .nil)))) (List.Sublist.refl _) .non
    · cases q
theorem de_app {o : Expr} {i : Nat} {dp : Ro → PlO} {apos cpos : Pos} (ho : DP X ct pm Γ o i (.ml .fz) dp) (ha : DA X ct pm Γ [e] true dr)
    (hp : ∀ {to : TE} {t : TA}, PE X o to → PA X [e] t → PE X (.Call (.Attribute o "append" apos) [e] [] cpos) (tBM X.K "list" rAppend to t) := by exact fun h1 h2 => pe_bm PySem.F.plainAttrs_list PySem.F.slot_list_append PySem.F.type_list_append mt_append h1 h2) :
    DE X ct pm Γ (.Call (.Attribute o "append" apos) [e] [] cpos) false .fz (eMethP i dp uApp dr) := de_methP op_app ty_ml ho ha hp
end
end DL
namespace DL
open PySem Spec PyProof.Rows L2
section
variable {X : Cx} {ct : String → Option Addr} {pm : List Bool} {S : SCx} {Γ Γ' Γ1 : List Sh} {pu pu1 pu2 pu3 : Bool} {s : Sh} {pos : Pos} {a b e : Expr} {es : List Expr} {da db dc : Ro → EO} {dr : Ro → AO}
/-! ### p[k] = e, p an owned list of frozen things -/
def kSetIx (i : Nat) (dp : Ro → PlO) (dk : Ro → EO) : D → Ro → SO := fun d ρ => match dp ρ with
  | .ok (.lst ds) plug => (match dk ρ with
    | .ok (.int k) _ => (match ixN ds.length k with
      | some j => .nx (ρ.set i (some (plug (.lst (ds.set j d)))))
      | none => .stk)
    | _ => .stk)
  | _ => .stk
theorem MReps.fz {K : PySem.W.Frag} {F H : Hp} {vs : List V} {ds : List D} {p : List Addr} (m : MReps K ct F H .fz vs ds p) : Reps K ct F vs ds ∧ p = [] := MReps.toR m
theorem Reps.set {K : PySem.W.Frag} {F : Hp} {v : V} {d : D} (r : Rep K ct F v d) : ∀ {vs : List V} {ds : List D} (j : Nat), Reps K ct F vs ds → Reps K ct F (vs.set j v) (ds.set j d)
  | _, _, _, .nil => .nil
  | _, _, 0, .cons _ t => .cons r t
  | _, _, j + 1, .cons q t => .cons q (Reps.set r j t)
theorem ds_setix {o k : Expr} {i : Nat} {dp : Ro → PlO} {dk : Ro → EO} {tpos : Pos} (h : DE X ct pm Γ e pu .fz da) (ho : DP X ct pm Γ o i (.ml .fz) dp) (hk : DE X ct pm Γ k true .fz dk) (hx : LeS S.Γx Γ)
    (hp : ∀ {te to tk : TE}, PE X e te → PE X o to → PE X k tk → PS X (.Assign [.Subscript o k tpos] e pos) (tAsg te (gSub to tk rSetL)) := by exact fun h1 h2 h3 => L2.ps_asg h1 (L2.pg_sub h2 h3 set_list)) :
    DS X ct pm S Γ (.Assign [.Subscript o k tpos] e pos) Γ (sE da (kSetIx i dp dk)) := ⟨fun W tk ps => by
  obtain ⟨te, pe, re⟩ := h.run W tk
  obtain ⟨to, po, ro⟩ := ho.run W tk
  obtain ⟨ti, pk, rk⟩ := hk.run W tk
  refine ⟨_, hp pe po pk, fun pv ρ F fp σ H D sr p => ?_⟩
  refine re pv ρ F fp σ H _ sr (SPost.ofE hx p fun d ρ1 v F1 fp1 fv H1 sr1 tr1 m nd p1 => ?_)
  cases m with
  | fz m =>
  rw [List.append_nil] at p1
  unfold kSetIx at p1
  split at p1
  · rename_i ds plug h0
    split at p1
    · rename_i n ρ' h1
      split at p1
      · rename_i j hj
        refine ro pv ρ1 F1 fp1 σ H1 _ sr1 ⟨_, plug, h0, fun w F2 H2 g2 sr2 z2 => ?_⟩
        refine rk pv ρ1 F2 fp1 σ H2 _ sr2 ?_
        rw [h1]
        refine EPost.pure fun e v2 F3 H3 g3 sr3 r3 => ?_
        cases r3
        obtain ⟨q, mm, hput⟩ := Zip.put sr3 (z2.grow sr2 g3)
        cases mm with
        | @ml _ a us _ fq h4 h5 h6 =>
          obtain ⟨h7, rfl⟩ := MReps.toR h6
          refine ⟨a, us, n, j, rfl, rfl, h4, by rw [h7.len]; exact hj, ?_⟩
          have r' := (m.mono g2.ff).mono g3.ff
          obtain ⟨fp4, sr4, tr4⟩ := hput (upd H3 a (.lst (us.set j v))) [a] (.lst (ds.set j d)) a List.mem_cons_self (fun b hb => upd_ne hb) (by rw [upd_same]; simp) (.ml upd_same h5 (MReps.ofR (Reps.set r' j h7))) (List.Sublist.refl _)
          have tg : Tr F1 fp1 H1 F3 fp1 H3 := ((g2.trans g3).tr (fv := []) (by simp)).less (by simp)
          exact p1 σ F3 fp4 _ sr4 (tg.trans tr4)
      · exact p1.elim
    · exact p1.elim
  · exact p1.elim⟩
/-! ### x op= e, x a frozen name -/
def sAug (i : Nat) (f : D → D → Option D) (da : Ro → EO) : Ro → SO := fun ρ => match ρ[i]? with
  | some (some x) => sE da (fun y ρ1 => match f x y with
    | some z => .nx (ρ1.set i (some z))
    | none => .stk) ρ
  | _ => .stk
theorem ds_aug (i : Nat) {x : Str} {op : Operator} {r : TIp} {f : D → D → Option D} {pos' : Pos} (hN : X.N.Nodup) (h : DE X ct pm Γ e pu .fz da) (ho : PIp X op r) (o : Op2 X.K ct r .fz f) (hx : LeS S.Γx Γ) (hg : Γ[i]? = some .fz := by rfl) (hp : pm[i]? ≠ some true := by decide) (hi : X.N[i]? = some x := by rfl) (hl : Loc X.env.scope x := by first | exact Or.inl rfl | exact Or.inr rfl) (hf : X.fn x = true ∨ X.env.scope.names.lookup x = some .local := by first | exact .inl rfl | exact .inr rfl) :
    DS X ct pm S Γ (.AugAssign (.Name x pos') op e pos) Γ (sAug i f da) := ⟨fun W tk ps => by
  obtain ⟨t, p, re⟩ := h.run W tk
  refine ⟨_, L2.ps_aug hN hi hl p ho hf, fun pv ρ F fp σ H D sr q => ?_⟩
  unfold sAug at q
  split at q
  · rename_i d hd
    obtain ⟨v, l, pp, r', h1, h2, h3, _⟩ := SR.get (c := ⟨X.K, ct, Γ, pm, pv⟩) sr hd hg
    cases h3 with
    | fz h3 =>
    refine ⟨v, h1, re pv ρ F fp σ H _ sr (SPost.ofE hx q fun y ρ1 w F1 fp1 fv H1 sr1 tr1 m nd p1 => ?_)⟩
    cases m with
    | fz m =>
    rw [List.append_nil] at p1 tr1
    cases z : f d y with
    | none => rw [z] at p1; exact p1.elim
    | some z' =>
      rw [z] at p1
      refine o F1 H1 v w d y z' _ sr1.sub (h3.mono tr1.grow) m z fun u F' fv' H' g m' hv nd' => ?_
      cases m' with
      | fz m' =>
        exact p1 _ F' fp1 H' ((g.sr sr1).setF hg hp (.yes (.fz m'))) ((g.tr (fv := []) (by simp)).less (by simp))
  · exact q.elim⟩
theorem ds_augAdd (i : Nat) {x : Str} {pos' : Pos} (hN : X.N.Nodup) (h : DE X ct pm Γ e pu .fz da) (hx : LeS S.Γx Γ) (hg : Γ[i]? = some .fz := by rfl) (hp : pm[i]? ≠ some true := by decide) (hi : X.N[i]? = some x := by rfl) (hl : Loc X.env.scope x := by first | exact Or.inl rfl | exact Or.inr rfl) (hf : X.fn x = true ∨ X.env.scope.names.lookup x = some .local := by first | exact .inl rfl | exact .inr rfl) :
    DS X ct pm S Γ (.AugAssign (.Name x pos') .Add e pos) Γ (sAug i (fI2 fAddI) da) := ds_aug i hN h ip_add (op2_I0 fun i j z q F => by cases q; exact .int _) hx hg hp hi hl hf
theorem ds_augSub (i : Nat) {x : Str} {pos' : Pos} (hN : X.N.Nodup) (h : DE X ct pm Γ e pu .fz da) (hx : LeS S.Γx Γ) (hg : Γ[i]? = some .fz := by rfl) (hp : pm[i]? ≠ some true := by decide) (hi : X.N[i]? = some x := by rfl) (hl : Loc X.env.scope x := by first | exact Or.inl rfl | exact Or.inr rfl) (hf : X.fn x = true ∨ X.env.scope.names.lookup x = some .local := by first | exact .inl rfl | exact .inr rfl) :
    DS X ct pm S Γ (.AugAssign (.Name x pos') .Sub e pos) Γ (sAug i (fI2 fSubI) da) := ds_aug i hN h ip_sub (op2_I0 fun i j z q F => by cases q; exact .int _) hx hg hp hi hl hf
/-! ### calls that change what they are lent -/
def giveL : List (Option Nat) → Ro → Ro → Ro
  | some i :: ls, p :: ps, ρ => giveL ls ps (ρ.set i p)
  | none :: ls, _ :: ps, ρ => giveL ls ps ρ
  | _, _, ρ => ρ
inductive LentOk (Γ : List Sh) (σ : L2.St) : List (Option Nat) → List Sh → List V → Prop
  | nil : LentOk Γ σ [] [] []
  | lend {i : Nat} {s : Sh} {v : V} {ls : List (Option Nat)} {ss : List Sh} {vs : List V} : Γ[i]? = some s → σ[i]? = some (some v) → LentOk Γ σ ls ss vs → LentOk Γ σ (some i :: ls) (s :: ss) (v :: vs)
  | keep {s : Sh} {v : V} {ls : List (Option Nat)} {ss : List Sh} {vs : List V} : LentOk Γ σ ls ss vs → LentOk Γ σ (none :: ls) (s :: ss) (v :: vs)
def MPost (c : PC') (ρ : Ro) (F : Hp) (fp : List Addr) (H : Hp) (σ : L2.St) (W : WX) (lent : List (Option Nat)) (ss : List Sh) (Q : List V → Hp → Prop) : AO → Prop
  | .ok ds ρ' => ∀ vs F' fp' fv H', c.SR ρ' F' fp' σ H' → Tr F fp H F' (fp' ++ fv) H' → ArgsR c.K c.ct F' H' ss vs ds fv → (fp' ++ fv).Nodup → LentOk c.Γ σ lent ss vs → Q vs H'
  | .exc x ρ' => ∀ cls da F' fp' H', c.SR ρ' F' fp' σ H' → Tr F fp H F' fp' H' → XRep c.K c.ct F' x cls da → W cls da σ H'
  | .stk => False
structure DM (X : Cx) (ct : String → Option Addr) (pm : List Bool) (Γ : List Sh) (es : List Expr) (lent : List (Option Nat)) (ss : List Sh) (den : Ro → AO) : Prop where
  run : ∀ W, Takes X W → ∃ t, PA X es t ∧ ∀ pv ρ F fp σ H Q, SR X.K ct Γ pm pv ρ F fp σ H → MPost ⟨X.K, ct, Γ, pm, pv⟩ ρ F fp H σ W lent ss Q (den ρ) → t σ H Q
theorem dm_nil : DM X ct pm Γ [] [] [] aNil := ⟨fun W tk => ⟨_, pa_nil, fun pv ρ F fp σ H Q sr p => p [] F fp [] H sr (by rw [List.append_nil]; exact Tr.refl) .nil (by rw [List.append_nil]; exact sr.nd) .nil⟩⟩
theorem dm_cons {lent : List (Option Nat)} {ss : List Sh} (ha : DE X ct pm Γ e pu .fz da) (hr : DM X ct pm Γ es lent ss dr) (hs : starEach (e :: es) X.env = (false, eval e X.env) :: starEach es X.env := by rfl) : DM X ct pm Γ (e :: es) (none :: lent) (.fz :: ss) (aCons da dr) := ⟨fun W tk => by
  obtain ⟨ta, pa, ea⟩ := ha.run W tk
  obtain ⟨tr, pr, er⟩ := hr.run W tk
  refine ⟨_, pa_cons pa pr hs, fun pv ρ F fp σ H Q sr p => ?_⟩
  refine ea pv ρ F fp σ H _ sr ?_
  unfold aCons at p
  cases q : da ρ with
  | stk => rw [q] at p; exact p
  | exc x ρ1 => rw [q] at p; exact p
  | ok d ρ1 =>
    rw [q] at p
    intro v F1 fp1 fv H1 sr1 tr1 m1 nd1 z1
    cases m1 with
    | fz m1 =>
      rw [List.append_nil] at tr1
      refine er pv ρ1 F1 fp1 σ H1 _ sr1 ?_
      have p : MPost ⟨X.K, ct, Γ, pm, pv⟩ ρ F fp H σ W (none :: lent) (.fz :: ss) Q ((dr ρ1).cons d) := p
      cases q2 : dr ρ1 with
      | stk => rw [q2] at p; exact p
      | exc x ρ2 => rw [q2] at p; exact fun cls da F' fp' H' sr' tr' x => p cls da F' fp' H' sr' (tr1.trans tr') x
      | ok ds ρ2 =>
        rw [q2] at p
        intro vs F' fp' fv H' sr' tr' ms nd lo
        exact p (v :: vs) F' fp' fv H' sr' (tr1.trans tr') (ArgsR.cons (p := []) (.fz (m1.mono tr'.grow)) ms) nd (.keep lo)⟩
def aLend (i : Nat) (dr : Ro → AO) : Ro → AO := aCons (eMv i) dr
theorem dm_lend (i : Nat) {x : Str} {t : Sh} {lent : List (Option Nat)} {ss : List Sh} (hr : DM X ct pm Γ es lent ss dr) (hg : Γ[i]? = some t := by rfl) (hN : X.N[i]? = some x := by rfl) (hv : Vis X.env.scope x := by first | exact Or.inl rfl | exact Or.inr (Or.inl rfl) | exact Or.inr (Or.inr rfl)) (hd : (x == ("__debug__" : Str)) = false := by decide)
    (hcd : (x == ("__classdict__" : Str)) = false := by decide) (hs : starEach (.Name x pos :: es) X.env = (false, eval (.Name x pos) X.env) :: starEach es X.env := by rfl) : DM X ct pm Γ (.Name x pos :: es) (some i :: lent) (t :: ss) (aLend i dr) := ⟨fun W tk => by
  obtain ⟨tr, pr, er⟩ := hr.run W tk
  refine ⟨_, pa_cons (pe_var hN hv hd hcd) pr hs, fun pv ρ F fp σ H Q sr p => ?_⟩
  unfold aLend aCons eMv at p
  split at p
  · rename_i d ρ1 hq
    split at hq
    · rename_i d' hd
      cases hq
      obtain ⟨v, q, fp1, h1, h2, h3, h4⟩ := sr.take hd hg
      refine ⟨v, h1, er pv _ F fp1 σ H _ h3 ?_⟩
      have nd1 : (fp1 ++ q).Nodup := h4.nodup_iff.mpr sr.nd
      have t0 : Tr F fp H F (fp1 ++ q) H := Tr.refl.less fun b hb => h4.subset hb
      cases q2 : dr (ρ.set i none) with
      | stk => rw [q2] at p; exact p
      | exc x ρ2 =>
        rw [q2] at p
        exact fun cls da F' fp' H' sr' tr' x => p cls da F' fp' H' sr' ((t0.trans (tr'.beside (q := q))).less fun b hb => List.mem_append_left _ hb) x
      | ok ds ρ2 =>
        rw [q2] at p
        intro vs F' fp' fv H' sr' tr' ms nd lo
        have dj : ∀ b ∈ q, b ∉ fp1 := fun b hb z => (List.nodup_append.mp nd1).2.2 b z b hb rfl
        have qt := Tr.quiet tr' h2.there dj
        have out : ∀ b ∈ q, b ∉ fp' ++ fv := fun b hb z => (tr'.pnew b z).elim (dj b hb) fun w => (h2.there b hb).1 w
        obtain ⟨n1, n2, n3⟩ := List.nodup_append.mp nd
        refine p (v :: vs) F' fp' (q ++ fv) H' sr' ((t0.trans (tr'.beside (q := q))).less fun b hb => ?_) (.cons (h2.frame tr'.grow qt) ms) ?_ (.lend hg h1 lo)
        · simp only [List.mem_append] at hb ⊢
          rcases hb with z | z | z
          · exact .inl (.inl z)
          · exact .inr z
          · exact .inl (.inr z)
        · refine List.nodup_append.mpr ⟨n1, List.nodup_append.mpr ⟨(List.nodup_append.mp nd1).2.1, n2, fun a ha b hb e => ?_⟩, fun a ha b hb e => ?_⟩
          · subst e; exact out a ha (List.mem_append_right _ hb)
          · subst e
            rcases List.mem_append.mp hb with z | z
            · exact out a z (List.mem_append_left _ ha)
            · exact n3 a ha a z rfl
    · cases hq
  · rename_i x ρ1 hq
    split at hq <;> cases hq
  · exact p.elim⟩
/-- a slot gets its own thing back -/
theorem SR.back {K : PySem.W.Frag} {pv : List V} {ρ : Ro} {F H : Hp} {fp : List Addr} {σ : L2.St} (h : SR K ct Γ pm pv ρ F fp σ H) {i : Nat} {s : Sh} {v : V} {d : Option D} {fv : List Addr} (hg : Γ[i]? = some s) (hs : σ[i]? = some (some v)) (m : SlotR K ct F H s (some v) d fv) (nd : (fp ++ fv).Nodup) :
    ∃ fp', SR K ct Γ pm pv (ρ.set i d) F fp' σ H ∧ ∀ b ∈ fp', b ∈ fp ++ fv := by
  obtain ⟨hl1, hl2⟩ := h.slots.lens
  have hi : i < Γ.length := (List.getElem?_eq_some_iff.mp hg).1
  obtain ⟨x, hx⟩ : ∃ x, ρ[i]? = some x := ⟨_, List.getElem?_eq_getElem (by omega)⟩
  obtain ⟨t, u, l, p, r, h1, h2, h3, h4, h5⟩ := h.slots.at hx
  have q : SlotsR K ct F H (Γ.set i s) (σ.set i (some v)) (ρ.set i d) (l ++ (fv ++ r)) := h5 (Same.refl F) (fun b hb => ⟨rfl, (h.there b (by rw [h3]; rcases hb with z | z <;> simp [z])).2⟩) m
  rw [set_same hg, set_same hs] at q
  refine ⟨l ++ (fv ++ r), ⟨h.sub, q, ?_, h.pins⟩, fun b hb => ?_⟩
  · have sb : (l ++ (fv ++ r)).Sublist (l ++ (fv ++ (p ++ r))) := (List.Sublist.refl l).append ((List.Sublist.refl fv).append (List.sublist_append_right p r))
    have pm' : (l ++ (fv ++ (p ++ r))).Perm (fp ++ fv) := by
      rw [h3, List.append_assoc]
      exact List.Perm.append_left l List.perm_append_comm
    exact sb.nodup (pm'.nodup_iff.mpr nd)
  · rw [h3]
    simp only [List.mem_append] at hb ⊢
    rcases hb with z | z | z <;> simp [z]
theorem give_ok {K : PySem.W.Frag} {pv : List V} {F H : Hp} {σ : L2.St} : ∀ {lent : List (Option Nat)} {ss : List Sh} {vs : List V} {us : L2.St} {ps : Ro} {ρ : Ro} {fp fq : List Addr}, SR K ct Γ pm pv ρ F fp σ H → LentOk Γ σ lent ss vs → us = vs.map some → SlotsR K ct F H ss us ps fq → (fp ++ fq).Nodup →
    ∃ fp', SR K ct Γ pm pv (giveL lent ps ρ) F fp' σ H ∧ ∀ b ∈ fp', b ∈ fp ++ fq
  | _, _, _, _, _, ρ, fp, fq, sr, .nil, _, _, nd => ⟨fp, sr, fun b hb => List.mem_append_left _ hb⟩
  | _, _, _, _, _, ρ, fp, _, sr, .lend (i := i) hg hs lo, hu, .cons (p := p1) (q := q1) m r, nd => by
    obtain ⟨rfl, hu2⟩ := List.cons.inj hu
    have nd' : (fp ++ p1).Nodup := by
      rw [← List.append_assoc] at nd
      exact (List.nodup_append.mp nd).1
    obtain ⟨fp1, sr1, h1⟩ := sr.back hg hs m nd'
    have nd2 : (fp1 ++ q1).Nodup := by
      rw [← List.append_assoc] at nd
      obtain ⟨n1, n2, n3⟩ := List.nodup_append.mp nd
      exact List.nodup_append.mpr ⟨sr1.nd, n2, fun a ha b hb => n3 a (h1 a ha) b hb⟩
    obtain ⟨fp2, sr2, h2⟩ := give_ok sr1 lo hu2 r nd2
    refine ⟨fp2, sr2, fun b hb => ?_⟩
    rcases List.mem_append.mp (h2 b hb) with z | z
    · have := h1 b z
      simp only [List.mem_append] at this ⊢
      rcases this with y | y
      · exact .inl y
      · exact .inr (.inl y)
    · simp [z]
  | _, _, _, _, _, ρ, fp, _, sr, .keep lo, hu, .cons (p := p1) (q := q1) m r, nd => by
    obtain ⟨rfl, hu2⟩ := List.cons.inj hu
    have nd2 : (fp ++ q1).Nodup := by
      obtain ⟨n1, n2, n3⟩ := List.nodup_append.mp nd
      exact List.nodup_append.mpr ⟨n1, (List.nodup_append.mp n2).2.1, fun a ha b hb => n3 a ha b (List.mem_append_right _ hb)⟩
    obtain ⟨fp2, sr2, h2⟩ := give_ok sr lo hu2 r nd2
    refine ⟨fp2, sr2, fun b hb => ?_⟩
    rcases List.mem_append.mp (h2 b hb) with z | z <;> simp [z]
def kCallM (Fn : FD) (lent : List (Option Nat)) (ds : List D) (ρ : Ro) : EO := match Fn ds with
  | .ret d ps => .ok d (giveL lent ps ρ)
  | .exc x ps => .exc x (giveL lent ps ρ)
  | .stk => .stk
def eCallM (Fn : FD) (lent : List (Option Nat)) (dr : Ro → AO) : Ro → EO := fun ρ => (dr ρ).bnd (kCallM Fn lent)
theorem callM_run {sg : Sig} {Fn : FD} {lent : List (Option Nat)} {pv : List V} {ρ : Ro} {F H : Hp} {fp fv : List Addr} {σ : L2.St} {W : WX} {Q : VK} {ds : List D} {vs : List V} (sr : SR X.K ct Γ pm pv ρ F fp σ H) (m : ArgsR X.K ct F H sg.ps vs ds fv) (nd : (fp ++ fv).Nodup) (lo : LentOk Γ σ lent sg.ps vs)
    (p : EPost ⟨X.K, ct, Γ, pm, pv⟩ false sg.rs ρ F (fp ++ fv) H σ W Q (kCallM Fn lent ds ρ)) : spD X.K ct sg Fn vs H Q (WE W σ) := by
  refine ⟨ds, F, fv, sr.sub, m, (List.nodup_append.mp nd).2.1, ?_⟩
  have dj : ∀ b ∈ fp, b ∉ fv := fun b hb z => (List.nodup_append.mp nd).2.2 b hb b z rfl
  have step : ∀ {F' : Hp} {fp' fw : List Addr} {H' : Hp}, Same F' H' → Tr F fv H F' (fp' ++ fw) H' → (fp' ++ fw).Nodup → SR X.K ct Γ pm pv ρ F' fp σ H' ∧ (fp ++ (fp' ++ fw)).Nodup ∧ Tr F (fp ++ fv) H F' (fp ++ (fp' ++ fw)) H' := fun {F' fp' fw H'} sub tr nd' => by
    have qt := Tr.quiet tr sr.there dj
    refine ⟨⟨sub, sr.slots.frame tr.grow qt, sr.nd, sr.pins⟩, List.nodup_append.mpr ⟨sr.nd, nd', fun a ha b hb e => ?_⟩, ⟨fun b o h n => tr.keep b o h fun z => n (List.mem_append_right _ z), tr.dom, tr.grow, fun b h n => (tr.fnew b h n).imp id fun z => List.mem_append_right _ z, fun b hb => ?_⟩⟩
    · subst e
      rcases tr.pnew a hb with z | z
      · exact dj a ha z
      · exact (sr.there a ha).1 z
    · rcases List.mem_append.mp hb with z | z
      · exact .inl (List.mem_append_left _ z)
      · exact (tr.pnew b z).imp (fun z => List.mem_append_right _ z) id
  unfold kCallM at p
  cases q : Fn ds with
  | stk => rw [q] at p; exact p.elim
  | ret d ps =>
    rw [q] at p
    intro v F' fp' fw H' sub tr sl mm nd'
    obtain ⟨sr1, nd1, tr1⟩ := step sub tr nd'
    have nd2 : (fp ++ fp').Nodup := by
      rw [← List.append_assoc] at nd1
      exact (List.nodup_append.mp nd1).1
    obtain ⟨fp2, sr2, h2⟩ := give_ok sr1 lo rfl sl nd2
    refine p v F' fp2 fw H' sr2 (tr1.less fun b hb => ?_) mm ?_ fun e => by cases e
    · rcases List.mem_append.mp hb with z | z
      · have := h2 b z
        simp only [List.mem_append] at this ⊢
        rcases this with y | y
        · exact .inl y
        · exact .inr (.inl y)
      · simp [z]
    · rw [← List.append_assoc] at nd1
      obtain ⟨n1, n2, n3⟩ := List.nodup_append.mp nd1
      exact List.nodup_append.mpr ⟨sr2.nd, n2, fun a ha b hb => n3 a (h2 a ha) b hb⟩
  | exc x ps =>
    rw [q] at p
    intro cls da F' fp' H' sub tr sl nd' xr
    have tr : Tr F fv H F' (fp' ++ []) H' := by rw [List.append_nil]; exact tr
    obtain ⟨sr1, nd1, tr1⟩ := step sub tr (by rw [List.append_nil]; exact nd')
    rw [List.append_nil] at nd1 tr1
    obtain ⟨fp2, sr2, h2⟩ := give_ok sr1 lo rfl sl nd1
    exact p cls da F' fp2 H' sr2 (tr1.less h2) xr
theorem de_callM {x : Str} {p : Pos} {sg : Sig} {Fn : FD} {k : Nat} {lent : List (Option Nat)} (G : DF X ct k x sg Fn) (hr : Room k X.A) (ha : DM X ct pm Γ (e :: es) lent sg.ps dr) (hg : Gl X x := by rfl) (hdb : (x == ("__debug__" : Str)) = false := by decide)
    (he : starEach (e :: es) X.env = (false, eval e X.env) :: starEach es X.env := by rfl) (hpl : (backTo pos (starEach es X.env)).any (·.1) = false := by rfl) : DE X ct pm Γ (.Call (.Name x p) (e :: es) [] pos) false sg.rs (eCallM Fn lent dr) := ⟨fun W tk => by
  obtain ⟨f, fd, ps, F, hm, hk, hb, _⟩ := G.ok
  obtain ⟨t, pa, ra⟩ := ha.run W tk
  refine ⟨_, pe_callS F hr hg hm hk hb (fun σ => passAt tk σ) pa hdb he hpl, fun pv ρ F fp σ H Q sr q => ?_⟩
  refine ra pv ρ F fp σ H _ sr ?_
  have q : EPost ⟨X.K, ct, Γ, pm, pv⟩ false sg.rs ρ F fp H σ W Q ((dr ρ).bnd (kCallM Fn lent)) := q
  cases z : dr ρ with
  | stk => rw [z] at q; exact q
  | exc x ρ1 => rw [z] at q; exact q
  | ok ds ρ1 =>
    rw [z] at q
    have q : EPost ⟨X.K, ct, Γ, pm, pv⟩ false sg.rs ρ F fp H σ W Q (kCallM Fn lent ds ρ1) := q
    intro vs F' fp' fv H' sr' tr ms nd lo
    refine callM_run sr' ms nd lo ?_
    cases y : kCallM Fn lent ds ρ1 with
    | stk => rw [y] at q; exact q
    | exc x ρ2 => rw [y] at q; exact fun cls da F2 fp2 H2 sr2 tr2 x => q cls da F2 fp2 H2 sr2 (tr.trans tr2) x
    | ok d ρ2 => rw [y] at q; exact fun v F2 fp2 fw H2 sr2 tr2 m2 nd2 _ => q v F2 fp2 fw H2 sr2 (tr.trans tr2) m2 nd2 fun e => by cases e⟩
end
end DL
namespace DL
open PySem Spec PyProof.Rows L2
/-! ### a zip object kept by a name, then walked -/
def zipO (I a b : Nat) (j : Nat) : Heap → Prop := fun h => match j with
  | 0 => h.IsListIter I a 0
  | 1 => h.IsListIter (I + 1) b 0
  | 2 => IsPair h (I + 2) (.ref I) (.ref (I + 1))
  | 3 => ∃ x y, IsPair h (I + 3) x y
  | _ => IsZip h (I + 4) (I + 2) (I + 3) .none
def zipHp (H : Hp) (I a b : Nat) : Hp := fun (c : Nat) => if I ≤ c ∧ c < I + 5 then some (.ext (zipO I a b (c - I))) else H c
theorem zipHp_in {H : Hp} {I a b c : Nat} (h : I ≤ c ∧ c < I + 5) : zipHp H I a b c = some (.ext (zipO I a b (c - I))) := by unfold zipHp; rw [if_pos h]
theorem zipHp_out {H : Hp} {I a b c : Nat} (h : ¬ (I ≤ c ∧ c < I + 5)) : zipHp H I a b c = H c := by unfold zipHp; rw [if_neg h]
def unzipHp (H : Hp) (I : Nat) : Hp := fun (c : Nat) => if I ≤ c ∧ c < I + 5 then none else H c
theorem unzip_zip {H : Hp} {I a b : Nat} (h : ∀ c : Nat, I ≤ c ∧ c < I + 5 → H c = none) : unzipHp (zipHp H I a b) I = H := by
  funext (c : Nat)
  unfold unzipHp
  by_cases hc : I ≤ c ∧ c < I + 5
  · rw [if_pos hc, h c hc]
  · rw [if_neg hc, zipHp_out hc]
def tZip (K : PySem.W.Frag) (n : Nat) (ta : TA) : TE := fun σ H Q => ta σ H fun vs H1 => ∃ a b xs ys, vs = [.ref a, .ref b] ∧ SqL K H1 a xs ∧ SqL K H1 b ys ∧
  ∀ I : Nat, (∀ c : Nat, I ≤ c ∧ c < I + 5 → H1 c = none) → n ≤ I → ZipApart (I + 4) (I + 2) (I + 3) I (I + 1) a b → Q (.ref (I + 4)) (zipHp H1 I a b)
section
variable {X : Cx} {e e2 : Expr} {ta : TA} {p pos : Pos}
theorem zipO_one {I a b c : Nat} (hc : I ≤ c ∧ c < I + 5) {h1 h2 : Heap} (q : zipO I a b (c - I) h1) (k : ∀ o, h1.get? c = some o → h2.get? c = some o) : zipO I a b (c - I) h2 := by
  obtain ⟨j, rfl⟩ : ∃ j, c = I + j := ⟨c - I, by omega⟩
  have hj : j < 5 := by omega
  rw [Nat.add_sub_cancel_left] at q ⊢
  match j, hj with
  | 0, _ => exact Heap.IsListIter.at q fun o e => k o e
  | 1, _ => exact Heap.IsListIter.at q fun o e => k o e
  | 2, _ => exact k _ q
  | 3, _ => obtain ⟨x, y, q⟩ := q; exact ⟨x, y, k _ q⟩
  | 4, _ => exact k _ q
theorem zipO_there {I a b c : Nat} (hc : I ≤ c ∧ c < I + 5) {h : Heap} (q : zipO I a b (c - I) h) : ∃ o, h.get? c = some o ∧ ∀ v, o.data ≠ .cell v := by
  obtain ⟨j, rfl⟩ : ∃ j, c = I + j := ⟨c - I, by omega⟩
  have hj : j < 5 := by omega
  rw [Nat.add_sub_cancel_left] at q
  match j, hj with
  | 0, _ => obtain ⟨o, e, _, d⟩ := q; exact ⟨o, e, fun v z => by rw [d] at z; cases z⟩
  | 1, _ => obtain ⟨o, e, _, d⟩ := q; exact ⟨o, e, fun v z => by rw [d] at z; cases z⟩
  | 2, _ => exact ⟨_, q, fun v z => nomatch z⟩
  | 3, _ => obtain ⟨x, y, q⟩ := q; exact ⟨_, q, fun v z => nomatch z⟩
  | 4, _ => exact ⟨_, q, fun v z => nomatch z⟩
theorem pe_zip (hg : Gl X "zip") (hm : X.mg "zip" = none) (ha : PA X [e, e2] ta)
    (hs : starEach [e, e2] X.env = (false, eval e X.env) :: starEach [e2] X.env := by rfl) (hpl : (backTo pos (starEach [e2] X.env)).any (·.1) = false := by rfl) :
    PE X (.Call (.Name "zip" p) [e, e2] [] pos) (tZip X.K X.s_0.heap.objs.size ta) := by
  refine ⟨fun pins s σ H Q I h => ?_⟩
  refine Call_ (ld_blt I hg hm PyProof.Rows.boot_zip (PyProof.Rows.callWith_type1 (thn (ha.run pos pins s σ H _ I h) fun us s1 ⟨vs, H1, I1, r1, q1⟩ => ?_) hs hpl))
  obtain ⟨a, b, xs, ys, ex, hqx, hqy, q⟩ := q1
  subst ex
  cases r1 with
  | cons r rr =>
    cases rr with
    | cons r' rr =>
      cases rr
      cases r
      cases r'
      obtain ⟨its, rv, p1, _⟩ := I1.list hqx
      obtain ⟨its2, rv2, p2, _⟩ := I1.list hqy
      have la : a < s1.heap.objs.size := p1.lt
      have lb : b < s1.heap.objs.size := p2.lt
      refine call_zip_2 p1.isList p2.isList fun h' hz hTI hTO h1 h2 hsz hk => ?_
      have out : ∀ (c : Nat) (o : HO), H1 c = some o → ¬ (s1.heap.objs.size ≤ c ∧ c < s1.heap.objs.size + 5) := fun c o z w => by
        have : c < s1.heap.objs.size := I1.hok.lt z
        omega
      have fr : ∀ c : Nat, s1.heap.objs.size ≤ c ∧ c < s1.heap.objs.size + 5 → H1 c = none := fun c hc => I1.hok.fresh hc.1
      have zo : ∀ c : Nat, s1.heap.objs.size ≤ c ∧ c < s1.heap.objs.size + 5 → zipO s1.heap.objs.size a b (c - s1.heap.objs.size) h' := fun c hc => by
        obtain ⟨j, rfl⟩ : ∃ j, c = s1.heap.objs.size + j := ⟨c - s1.heap.objs.size, by omega⟩
        have hj : j < 5 := by omega
        rw [Nat.add_sub_cancel_left]
        match j, hj with
        | 0, _ => exact h1
        | 1, _ => exact h2
        | 2, _ => exact hTI
        | 3, _ => exact ⟨_, _, hTO⟩
        | 4, _ => exact hz
      have same : ∀ (c : Nat) (u : HO), H1 c = some u → zipHp H1 s1.heap.objs.size a b c = some u := fun c u z => by rw [zipHp_out (out c u z)]; exact z
      have hok : HOk X.prog X.w (zipHp H1 s1.heap.objs.size a b) h' := fun (c : Nat) u z => by
        by_cases hc : s1.heap.objs.size ≤ c ∧ c < s1.heap.objs.size + 5
        · rw [zipHp_in hc] at z
          cases z
          obtain ⟨o, e, _⟩ := zipO_there hc (zo c hc)
          exact ⟨zo c hc, ⟨o, e⟩, fun g1 g2 q1 k1 => zipO_one hc q1 k1⟩
        · rw [zipHp_out hc] at z
          exact (I1.hok c u z).stay (fun d v _ w => hk d v w) (fun d w => same d _ w) fun d xs w => same d _ w
      have un : Un X.fs [] H1 (zipHp H1 s1.heap.objs.size a b) s1.heap h' := ⟨fun b o w _ _ _ => hk b o w, fun b o w _ _ _ => ⟨o.slots, hk b o w⟩, fun (b : Nat) o w n _ => by
          have : (b : Nat) < s1.heap.objs.size := Heap.lt_size w
          rw [zipHp_out (c := b) (by omega)]
          exact n, fun b o w _ => ⟨o, hk b o w⟩, fun b xs w => same b _ w, fun b o u w => same b _ w, fun b ps w => ⟨#[], by rw [same b _ w]; simp⟩⟩
      exact ⟨.ref (s1.heap.objs.size + 4), _, I1.un (t' := s1.toks) un hok, rfl, q _ fr I1.sz (PySem.W.ktu_apart s1.heap.objs.size a b la lb)⟩
/-- several tracked things are forgotten -/
theorem inv_unzip {pins : List (Addr × Obj)} {σ : L2.St} {H : Hp} {s : Shared} {I a b : Nat} (i : Inv X pins σ H s) (h : ∀ c : Nat, I ≤ c ∧ c < I + 5 → H c = some (.ext (zipO I a b (c - I)))) : Inv X pins σ (unzipHp H I) s := by
  have other : ∀ (b : Nat) (u : HO), H b = some u → (∀ ψ, u ≠ .ext ψ) → unzipHp H I b = some u := fun c u e n => by
    unfold unzipHp
    by_cases hc : I ≤ c ∧ c < I + 5
    · rw [h c hc] at e
      exact absurd (Option.some.inj e).symm (n _)
    · rw [if_neg hc]; exact e
  have non : ∀ b : Nat, H b = none → unzipHp H I b = none := fun c e => by
    unfold unzipHp
    by_cases hc : I ≤ c ∧ c < I + 5
    · rw [if_pos hc]
    · rw [if_neg hc]; exact e
  have hok : HOk X.prog X.w (unzipHp H I) s.heap := fun (c : Nat) u e => by
    have e' : H c = some u := by
      unfold unzipHp at e
      by_cases hc : I ≤ c ∧ c < I + 5
      · rw [if_pos hc] at e; cases e
      · rw [if_neg hc] at e; exact e
    exact (i.hok c u e').stay (fun _ _ _ z => z) (fun c z => other c _ z fun _ w => (nomatch w)) fun c xs z => other c _ z fun _ w => (nomatch w)
  have u : Un X.fs [] H (unzipHp H I) s.heap s.heap := ⟨fun _ _ e _ _ _ => e, fun _ o e _ _ _ => ⟨o.slots, e⟩, fun b _ _ z _ => non b z, fun _ o e _ => ⟨o, e⟩, fun b xs z => other b _ z fun _ w => (nomatch w),
    fun b o x z => other b _ z fun _ w => (nomatch w), fun b ps z => ⟨#[], by rw [other b _ z fun _ w => (nomatch w)]; simp⟩⟩
  exact i.un (t' := s.toks) u hok
def iZv (K : PySem.W.Frag) (n k : Nat) : TI := fun σ H R => ∃ I a b : Nat, σ[k]? = some (some (.ref (I + 4))) ∧ (∀ c : Nat, I ≤ c ∧ c < I + 5 → H c = some (.ext (zipO I a b (c - I)))) ∧ n ≤ I ∧ ZipApart (I + 4) (I + 2) (I + 3) I (I + 1) a b ∧ R (Itz K a b) (unzipHp H I)
theorem pi_zv {elts : List Expr} {kk : Nat} {tpos : Pos} {k : Nat} {x : Str} (hN : X.N[k]? = some x) (hv : Vis X.env.scope x) (hd : (x == ("__debug__" : Str)) = false := by decide) (hcd : (x == ("__classdict__" : Str)) = false := by decide) : PI X (.Tuple elts kk tpos) (.Name x p) (iZv X.K X.s_0.heap.objs.size k) := by
  refine ⟨fun pins s σ H R i h => ?_⟩
  obtain ⟨I, a, b, hs, hi, hn, ap, q⟩ := h
  refine thn ((pe_var (pos := p) (i := k) hN hv hd hcd).run pins s σ H (fun v H1 => v = .ref (I + 4) ∧ H1 = H) i ⟨.ref (I + 4), hs, rfl, rfl⟩) fun u s1 ⟨v, H1, I1, r1, ev, eH⟩ => ?_
  subst ev
  rw [eH] at I1
  cases r1
  have zo : ∀ j : Nat, j < 5 → zipO I a b j s1.heap := fun j hj => by
    have := I1.hok (I + j) _ (hi (I + j) ⟨by omega, by omega⟩)
    rw [Nat.add_sub_cancel_left] at this
    exact this.1
  have hz : IsZip s1.heap (I + 4) (I + 2) (I + 3) .none := zo 4 (by omega)
  refine wpAny_pyIter_zip hz ?_
  refine ⟨I + 4, [I + 4, I + 2, I + 3, I, I + 1], _, _, unzipHp H I, rfl, inv_unzip I1 hi, turn_zip ap, ⟨hz, zo 2 (by omega), zo 3 (by omega), zo 0 (by omega), zo 1 (by omega)⟩, fun (c : Nat) hc => ?_, q⟩
  have hc' : I ≤ c ∧ c < I + 5 := by
    have e' : c = I + 4 ∨ c = I + 2 ∨ c = I + 3 ∨ c = I ∨ c = I + 1 := by simpa using hc
    rcases e' with z | z | z | z | z <;> subst z <;> exact ⟨by omega, by omega⟩
  have hH := hi c hc'
  refine ⟨by unfold unzipHp; rw [if_pos hc'], fun z => ?_, fun z => ?_, .inr (by omega), fun x c' e z => ?_, fun p hp z => ?_⟩
  · rw [z, I1.free] at hH; cases hH
  · obtain ⟨_, o, ho, _⟩ := I1.ok.funs.mem z
    have : (c : Nat) < X.s_0.heap.objs.size := Heap.lt_size ho
    omega
  · have q := I1.freeC x c' e
    rw [z, hH] at q
    cases q
  · have q := (I1.pin p hp).2.1
    rw [z, hH] at q
    cases q
end
section
variable {X : Cx} {ct : String → Option Addr} {pm : List Bool} {S : SCx} {Γ Γ' Γ1 : List Sh} {pu pu1 pu2 pu3 : Bool} {s : Sh} {pos : Pos} {a b e : Expr} {es : List Expr} {da db dc : Ro → EO} {dr : Ro → AO}
def sZipRet (i : Nat) (Fn : FD) (dr : Ro → AO) (t : Tgt) (te : Ro → EO) (vs : List Nat) : Ro → SO := sE (fun ρ => (dr ρ).bnd fun ds ρ1 => (EO.of (itZ ds) (ρ1.set i none)).bnd fun l ρ2 => (kLc t.s tYesD te vs ρ2 l ρ2).bnd fun d ρ3 => kCall Fn [d] ρ3) kRet
/-- y = zip(e1, e2); return f([elt for tg in y]) -/
theorem dss_zipret {i : Nat} {y x : Str} {py pz p1 p2 pf pc pr ps' : Pos} {elt : Expr} {elts : List Expr} {kk : Nat} {tpos : Pos} {scope : Scope} {own : List (Str × Nat)} {te : Ro → EO} {t : Tgt} {sg : Sig} {Fn : FD} {k : Nat}
    (hc : X.calm = true) (hN : X.N.Nodup) (hgz : Gl X "zip") (hmz : X.mg "zip" = none) (ha : DA X ct pm Γ [a, b] pu dr) (ok : blkC X.N X.env.scope scope own = true)
    (hg : ∀ (s : Shared) (H : Hp) (C : Addr) (cl : List (Str × Addr)) (fp : List Addr), TG' (X.blk s H scope (compEnvC scope cl C X.env) fp) (.Tuple elts kk tpos) t)
    (he : ∀ (s' : Shared) (H : Hp) (C : Addr) (cl : List (Str × Addr)) (fp : List Addr), DE (X.blk s' H scope (compEnvC scope cl C X.env) fp) ct pm Γ elt pu3 .fz te) (wv : Wip Γ pm (own2 own)) (hti : ∀ j ∈ t.ix, j ∈ own2 own)
    (G : DF X ct k x sg Fn) (hr : Room k X.A) (hl : lenOk sg Fn) (hsg : ∀ s ∈ sg.ps, s = .fz) (hgf : Gl X x) (hdb : (x == ("__debug__" : Str)) = false)
    (hx : LeS S.Γx Γ) (hrr : LeS S.Γr Γ) (hrs : S.rs = sg.rs) (hgi : Γ[i]? = some .fz) (hpi : pm[i]? ≠ some true) (hy : X.N[i]? = some y) (hly : Loc X.env.scope y) (hf : X.fn y = true ∨ X.env.scope.names.lookup y = some .local) (hvy : Vis X.env.scope y) (hd : (y == ("__debug__" : Str)) = false := by decide) (hcd : (y == ("__classdict__" : Str)) = false := by decide)
    (hs1 : starEach [a, b] X.env = (false, eval a X.env) :: starEach [b] X.env := by rfl) (hpl1 : (backTo pz (starEach [b] X.env)).any (·.1) = false := by rfl)
    (hsw : swapsWith (.Call (.Name "zip" p1) [a, b] [] pz) (some (.Name y py)) ps'.line X.env = pure false := by rfl) (hfs : ∀ z, foldedSetIterable (.Name y p2) X.env z = pure z := by intro _; rfl)
    (hs2 : starEach [.ListComp elt [⟨.Tuple elts kk tpos, .Name y p2, [], 0⟩] scope pc] X.env = (false, eval (.ListComp elt [⟨.Tuple elts kk tpos, .Name y p2, [], 0⟩] scope pc) X.env) :: starEach [] X.env := by rfl) (hpl2 : (backTo pf (starEach [] X.env)).any (·.1) = false := by rfl) :
    DSs X ct pm S Γ [.Assign [.Name y py] (.Call (.Name "zip" p1) [a, b] [] pz) ps', .Return (some (.Call (.Name x pos) [.ListComp elt [⟨.Tuple elts kk tpos, .Name y p2, [], 0⟩] scope pc] [] pf)) pr] Γ1
      (sZipRet i Fn dr t te (own2 own)) := ⟨fun W tk ps => by
  obtain ⟨f, fd, psf, F, hm, hk, hb, _⟩ := G.ok
  obtain ⟨ta, pa, ra⟩ := ha.run W tk
  have he' : ∀ (s' : Shared) (H : Hp) (C : Addr) (cl : List (Str × Addr)) (fp : List Addr), PE (X.blk s' H scope (compEnvC scope cl C X.env) fp) elt (tStar X.K ct pm Γ pu3 .fz W0 te) := fun s H C cl fp => (he s H C cl fp).star (W := W0) takes0
  have ht' : ∀ (s' : Shared) (H : Hp) (C : Addr) (cl : List (Str × Addr)) (fp : List Addr), PTs (X.blk s' H scope (compEnvC scope cl C X.env) fp) [] (tStarT X.K ct pm Γ true W0 tYesD) := fun s H C cl fp => (dts_nil (pu := true) (Γ := Γ) (pm := pm) (ct := ct)).star (W := W0) takes0
  have hg' : ∀ (s' : Shared) (H : Hp) (C : Addr) (cl : List (Str × Addr)) (fp : List Addr), PG (X.blk s' H scope (compEnvC scope cl C X.env) fp) (.Tuple elts kk tpos) (t.g X.K) := fun s H C cl fp => (hg s H C cl fp).ok
  refine ⟨_, pss_cons (L2.ps_set hN hy hly (pe_zip hgz hmz pa hs1 hpl1) hsw hf) (pss_one (ps_ret (pe_callS F hr hgf hm hk hb (fun σ => passAt tk σ)
    (pa_cons (pe_lc hc hN (pi_zv hy hvy hd hcd) (blkOk_by ok) hg' ht' he' hfs) pa_nil hs2) hdb hs2 hpl2))), fun pv ρ F0 fp σ H D sr p => ?_⟩
  refine ra pv ρ F0 fp σ H _ sr ?_
  unfold sZipRet sE at p
  cases q : dr ρ with
  | stk => simp only [q, AO.bnd] at p; exact p
  | exc z ρ1 =>
    simp only [q, AO.bnd] at p
    intro cls da F' fp' H' sr' tr xr
    obtain ⟨F2, fp2, sr2, tr2, _⟩ := SR.weak hx sr'
    exact p cls da σ F2 fp2 H' sr2 (tr.trans tr2) (xr.mono tr2.grow)
  | ok ds ρ1 =>
    simp only [q, AO.bnd] at p
    intro vs F1 fp1 H1 sr1 tr1 m1 _
    cases hz : itZ ds with
    | none => simp only [hz, EO.of, EO.bnd] at p; exact p.elim
    | some l =>
      match ds, hz with
      | [.lst xs, .lst ys], hz =>
        cases hz
        obtain ⟨w, w2, rfl, r, r'⟩ := reps2 m1
        cases r with
        | @lst a1 vs1 _ h1 t1 =>
          cases r' with
          | @lst a2 vs2 _ h2 t2 =>
            have L1 : SqL X.K F1 a1 vs1 := .inl (.inl h1)
            have L2' : SqL X.K F1 a2 vs2 := .inl (.inl h2)
            refine ⟨a1, a2, vs1, vs2, rfl, sr1.sub.seq L1, sr1.sub.seq L2', fun I fr hn ap => ?_⟩
            have sr2 : SR X.K ct Γ pm pv (ρ1.set i none) F1 fp1 (σ.set i (some (.ref (I + 4)))) H1 := sr1.setF hgi hpi .no
            have hsl : (σ.set i (some (V.ref (I + 4))))[i]? = some (some (.ref (I + 4))) := by
              obtain ⟨z1, z2⟩ := sr1.slots.lens
              have := (List.getElem?_eq_some_iff.mp hgi).1
              exact List.getElem?_set_self (by rw [z2, ← z1]; exact this)
            refine ⟨I, a1, a2, hsl, fun c hc => zipHp_in hc, hn, ap, ?_⟩
            rw [unzip_zip fr]
            have p := SPost.tr p tr1
            -- the comprehension, walked from here
            have wl := (walk_zip (K := X.K) (a := a1) (b := a2) (xs := vs1) (ys := vs2) rfl).mono (G' := fun H => Same F1 H) (fun H g => ⟨g.seq L1, g.seq L2'⟩) fun i H x H' hi g y => y
            rw [show min vs1.length vs2.length = (zipD xs ys).length by rw [zipD_len, t1.len, t2.len]] at wl
            show tLc (fun _ _ R => R (Itz X.K a1 a2) H1) (t.g X.K) (tStarT X.K ct pm Γ true W0 tYesD) (tStar X.K ct pm Γ pu3 .fz W0 te) (own2 own) (σ.set i (some (.ref (I + 4)))) H1 (fun x H2 => spD X.K ct sg Fn [x] H2 D.rt (WE W (σ.set i (some (.ref (I + 4))))))
            refine lc_run1 (X := X) (ct := ct) (pm := pm) (Γ := Γ) (s := .fz) (di := fun _ => .ok (.lst (zipD xs ys)) (ρ1.set i none)) (t := t) (tt := tYesD) (te := te) (pu1 := true) (pu2 := true) (pu3 := pu3) (W := W) (W' := W0) (wi := fun _ _ R => R (Itz X.K a1 a2) H1) (pv := pv) (ρ := ρ1.set i none) (F := F1) (fp := fp1)
              (fun R hR => hR _ F1 fp1 H1 _ [] sr2 Tr.refl (by simp) (wl.mono (fun H g => g.1) fun i H x H' hi g y => y) (fun j d x H2 H3 hd hs y => ?_) Pu.refl) wv hti (fun pv ρ F fp σ H Q sr p => ⟨pv, ρ, F, fp, sr, p⟩) (fun pv ρ F fp σ H Q sr p => ⟨pv, ρ, F, fp, sr, p⟩) sr2 ?_
            · obtain ⟨T, u1, u2, rfl, hT, rfl, y1, y2⟩ := y
              obtain ⟨d1, d2, rfl, g1, g2⟩ := zipD_get hd
              obtain ⟨v1, q1, q2⟩ := t1.at g1
              obtain ⟨v2, q3, q4⟩ := t2.at g2
              dsimp only at y1 y2
              rw [q1] at y1; rw [q3] at y2
              cases y1; cases y2
              exact yr_pair q2 q4 hT
            · refine EPost.unfrz ?_
              have P : EPost ⟨X.K, ct, Γ, pm, pv⟩ (false && true) sg.rs (ρ1.set i none) F1 fp1 H1 (σ.set i (some (.ref (I + 4)))) W D.rt ((kLc t.s tYesD te (own2 own) (ρ1.set i none) (.lst (zipD xs ys)) (ρ1.set i none)).bnd fun d ρ3 => kCall Fn [d] ρ3) := by
                refine SPost.ofE hx p fun d ρ1 v F1 fp1 fv H1 sr1 tr1 m nd p1 => ?_
                obtain ⟨F2, fp2, sr2, tr2, sb2, out2⟩ := SR.weak hrr sr1
                obtain ⟨n1, n2, n3⟩ := List.nodup_append.mp nd
                have hv : ∀ b ∈ fv, F2 b = none := fun b hb => (out2 fv (fun b hb z => n3 b z b hb rfl) b hb).trans (m.there b hb).2
                exact p1 v _ F2 fp2 fv H1 sr2 (tr2.beside (q := fv)) (by rw [hrs]; exact m.frame tr2.grow fun b hb => ⟨rfl, hv b hb⟩) (List.nodup_append.mpr ⟨sr2.nd, n2, fun a ha b hb => n3 a (sb2.subset ha) b hb⟩)
              exact EPost.bind P fun d ρ3 v F3 fp3 H3 sr3 tr3 m3 p3 => call_run hsg hl sr3 (.cons m3 .nil) p3⟩
end
end DL
namespace DL
open PySem Spec PyProof.Rows L2
/-! ### rules that ask for no type -/
section
variable {X : Cx} {ct : String → Option Addr} {pm : List Bool} {S : SCx} {Γ Γ1 Γ2 : List Sh} {pu pu1 pu2 pu3 : Bool} {s : Sh} {pos : Pos} {a b e : Expr} {es : List Expr} {da db dc : Ro → EO} {dr : Ro → AO} {sts : List Stmt} {den : Ro → SO}
theorem wip_nil : Wip Γ pm [] := fun _ h => by cases h
theorem wip_cons {i : Nat} {is : List Nat} (w : Wip Γ pm is) (hg : Γ[i]? = some .fz := by rfl) (hp : pm[i]? ≠ some true := by decide) : Wip Γ pm (i :: is) := fun j h => by
  rcases List.mem_cons.mp h with e | e
  · subst e; exact ⟨hg, hp⟩
  · exact w j e
theorem Op2.fz {K : PySem.W.Frag} {r : R2} {f : D → D → Option D} (o : Op2 K ct r s f) : Op2 K ct r .fz f := fun F H v w x y z Q e r1 r2 q k =>
  o F H v w x y z Q e r1 r2 q fun u F' fv H' g m hv nd => by
    have key : ∃ F2, Grow F H F2 H' ∧ Rep K ct F2 u z := by
      classical
      let F2 : Hp := fun (b : Addr) => if b ∈ fv then H' b else F' b
      have f2n : ∀ b, b ∉ fv → F2 b = F' b := fun b hb => if_neg hb
      have f2y : ∀ b, b ∈ fv → F2 b = H' b := fun b hb => if_pos hb
      have fno : ∀ b ∈ fv, F' b = none := fun b hb => (m.there b hb).2
      have hFF : Same F' F2 := fun b o h => by
        by_cases hb : b ∈ fv
        · rw [fno b hb] at h; cases h
        · rw [f2n b hb]; exact h
      refine ⟨F2, ⟨g.hh, g.ff.trans hFF, fun b o h => ?_, fun b h1 h2 => ?_⟩, m.froze hFF fun b hb => f2y b hb⟩
      · by_cases hb : b ∈ fv
        · rw [f2y b hb] at h; exact h
        · rw [f2n b hb] at h; exact g.fh b o h
      · by_cases hb : b ∈ fv
        · exact hv b hb
        · rw [f2n b hb] at h1; exact g.fnew b h1 h2
    obtain ⟨F2, g2, m2⟩ := key
    exact k u F2 [] H' g2 (.fz m2) (by simp) .nil
def orD (f g : D → D → Option D) : D → D → Option D := fun x y => match f x y with
  | some z => some z
  | none => g x y
theorem Op2.or {K : PySem.W.Frag} {r r' : R2} {f g : D → D → Option D} (o : Op2 K ct r s f) (o' : Op2 K ct r' s g) : Op2 K ct (fun x y H Q => r x y H Q ∨ r' x y H Q) s (orD f g) := fun F H v w x y z Q e r1 r2 q k => by
  unfold orD at q
  cases h : f x y with
  | some z' => rw [h] at q; cases q; exact .inl (o F H v w x y _ Q e r1 r2 h k)
  | none => rw [h] at q; exact .inr (o' F H v w x y _ Q e r1 r2 q k)
theorem o_addI {K : PySem.W.Frag} : Op2 K ct (rI0 fun i j => .int (i + j)) .fz (fI2 fAddI) := op2_I0 fun i j z q F => by cases q; exact .int _
theorem o_addS {K : PySem.W.Frag} : Op2 K ct (fun x y H Q => ∃ i j, x = .str i ∧ y = .str j ∧ i.length + j.length ≤ sizeLine ∧ Q (.str (i ++ j)) H) .fz fAddS := op2_flat fun F H v w x y z Q e r1 r2 q k => by
    cases x with
    | str i =>
      cases y with
      | str j =>
        cases r1; cases r2
        simp only [fAddS] at q
        split at q
        · rename_i h; cases q; exact ⟨i, j, rfl, rfl, h, k _ (.str _)⟩
        · cases q
      | _ => cases q
    | _ => cases q
theorem o_addL {K : PySem.W.Frag} : Op2 K ct rCat (.ml .fz) fAddL := fun F H v w x y z Q e r1 r2 q k => by
    cases x with
    | lst i =>
      cases y with
      | lst j =>
        cases r1 with
        | lst h1 t1 =>
          cases r2 with
          | lst h2 t2 =>
            simp only [fAddL] at q
            split at q
            · rename_i h
              cases q
              exact ⟨_, _, _, _, rfl, rfl, e _ _ h1, e _ _ h2, by rw [t1.len, t2.len]; exact h, fun p hp => newList_k e hp (t1.app t2) k⟩
            · cases q
      | _ => cases q
    | _ => cases q
theorem o_addT {K : PySem.W.Frag} : Op2 K ct (rCatT K) .fz fAddT := fun F H v w x y z Q e r1 r2 q k => by
    cases x with
    | tup i =>
      cases y with
      | tup j =>
        cases r1 with
        | tup h1 t1 =>
          cases r2 with
          | tup h2 t2 =>
            simp only [fAddT] at q
            split at q
            · rename_i h
              cases q
              refine ⟨_, _, _, _, rfl, rfl, sqT_mono e h1, sqT_mono e h2, ?_, by rw [t1.len, t2.len]; exact h.1, fun z => ?_, fun z p hp => newTup_k e hp (t1.app t2) k⟩
              · rintro rfl; cases t1; exact h.2 rfl
              · subst z
                cases t2
                exact k _ F [] H (Grow.refl e) (.fz (by rw [List.append_nil]; exact .tup h1 t1)) (by simp) .nil
            · cases q
      | _ => cases q
    | _ => cases q
theorem o_mulI {K : PySem.W.Frag} : Op2 K ct (rI CMul fun i j => .int (i * j)) .fz (fI2 fMulI) := op2_I fun i j z q => by
    unfold fMulI at q
    split at q
    · rename_i h
      cases q
      refine ⟨?_, fun F => .int _⟩
      unfold mulOk at h
      simpa [CMul] using h
    · cases q
theorem o_rep {K : PySem.W.Frag} : Op2 K ct rRep (.ml .fz) fRep := fun F H v w x y z Q e r1 r2 q k => by
    cases x with
    | lst i =>
      cases y with
      | int j =>
        cases r1 with
        | lst h1 t1 =>
          cases r2
          simp only [fRep] at q
          split at q
          · rename_i h
            cases q
            exact ⟨_, _, _, rfl, rfl, e _ _ h1, h.1, h.2.1, by rw [t1.len]; exact h.2.2, fun p hp => newList_k e hp (t1.rep _) k⟩
          · cases q
      | _ => cases q
    | _ => cases q
def fAdd : D → D → Option D := orD (fI2 fAddI) (orD fAddS (orD fAddL fAddT))
def fMul : D → D → Option D := orD (fI2 fMulI) fRep
theorem de_add (ha : DE X ct pm Γ a pu1 .fz da) (hb : DE X ct pm Γ b pu2 .fz db) : DE X ct pm Γ (.BinOp a .Add b pos) (pu1 && pu2) .fz (eBin fAdd da db) :=
  de_op (op_add.or (op_add_str.or (op_cat.or op_catT))) (o_addI.or (o_addS.or (o_addL.fz.or o_addT))) ha hb
theorem de_mul (ha : DE X ct pm Γ a pu1 .fz da) (hb : DE X ct pm Γ b pu2 .fz db) : DE X ct pm Γ (.BinOp a .Mult b pos) (pu1 && pu2) .fz (eBin fMul da db) :=
  de_op (op_mul.or op_rep) (o_mulI.or o_rep.fz) ha hb
/-! slices -/
theorem OpS.fz {K : PySem.W.Frag} {r : V → Option Int → Option Int → Hp → VK → Prop} {f : D → Option Int → Option Int → Option D} (o : OpS K ct r s f) : OpS K ct r .fz f := fun F H v lo hi x z Q e r1 q k =>
  Op2.fz (r := fun v w H Q => r v lo hi H Q) (f := fun x y => f x lo hi) (fun F H v w x y z Q e r1 r2 q k => o F H v lo hi x z Q e r1 q k) F H v (.int 0) x (.int 0) z Q e r1 (.int 0) q k
def fSl : D → Option Int → Option Int → Option D := fun x l h => match fSlL x l h with
  | some z => some z
  | none => match fSlS x l h with
    | some z => some z
    | none => fSlT x l h
theorem OpS.or {K : PySem.W.Frag} {r r' : V → Option Int → Option Int → Hp → VK → Prop} {f g : D → Option Int → Option Int → Option D} (o : OpS K ct r s f) (o' : OpS K ct r' s g) : OpS K ct (fun x lo hi H Q => r x lo hi H Q ∨ r' x lo hi H Q) s (fun x l h => match f x l h with | some z => some z | none => g x l h) := fun F H v lo hi x z Q e r1 q k => by
  dsimp only at q
  cases h : f x lo hi with
  | some z' => rw [h] at q; cases q; exact .inl (o F H v lo hi x _ Q e r1 h k)
  | none => rw [h] at q; exact .inr (o' F H v lo hi x _ Q e r1 q k)
theorem o_slL {K : PySem.W.Frag} : OpS K ct (rSlL K) (.ml .fz) fSlL := fun F H v lo hi x z Q e r q k => by
    cases x with
    | lst xs =>
      cases q
      cases r with
      | lst h t => exact ⟨_, _, rfl, .inl (.inl (e _ _ h)), fun p hp => newList_k e hp (t.cut lo hi) k⟩
    | scr xs =>
      cases q
      cases r with
      | scr h => exact ⟨_, _, rfl, e.seq h, fun p hp => newList_k e hp ((Reps.ints xs).cut lo hi) k⟩
    | _ => cases q
theorem o_slS {K : PySem.W.Frag} : OpS K ct rSlS .fz fSlS := fun F H v lo hi x z Q e r q k => by
    cases x with
    | str xs =>
      cases r
      simp only [fSlS] at q
      split at q
      · rename_i hl; cases q; exact ⟨_, rfl, hl, k _ F [] H (Grow.refl e) (.fz (.str _)) (by simp) .nil⟩
      · cases q
    | _ => cases q
theorem o_slT {K : PySem.W.Frag} : OpS K ct (rSlT K) .fz fSlT := fun F H v lo hi x z Q e r q k => by
    cases x with
    | tup xs =>
      cases r with
      | tup h t =>
        simp only [fSlT] at q
        split at q
        · cases q
        · rename_i hl; cases q; exact ⟨_, _, rfl, sqT_mono e h, by rw [t.len]; exact hl, fun p hp => newTup_k e hp (t.cut lo hi) k⟩
    | _ => cases q
theorem de_sl {lo hi : Option Expr} {p2 : Pos} {dl dh : Ro → OO} (ha : DE X ct pm Γ a pu1 .fz da) (hl : DO X ct pm Γ lo pu2 dl) (hh : DO X ct pm Γ hi pu3 dh) : DE X ct pm Γ (.Subscript a (.Slice lo hi none p2) pos) (pu1 && (pu2 && pu3)) .fz (eSl fSl da dl dh) :=
  de_slR (sl_list.or (sl_str.or sl_tup)) (o_slL.fz.or (o_slS.or o_slT)) ha hl hh
/-! in -/
def fInA (neg : Bool) : D → D → Option D := orD (fIn neg) (fInS neg)
theorem Cmp.or {op : CmpOp} {f g : D → D → Option D} (c : Cmp X ct op f) (c' : Cmp X ct op g) : Cmp X ct op (orD f g) := by
  obtain ⟨r, h1, h2⟩ := c.ok
  obtain ⟨r', h3, h4⟩ := c'.ok
  exact ⟨_, h1.or h3, h2.or h4⟩
theorem c_inA : Cmp X ct .In (fInA false) := c_in.or c_inS
theorem c_notinA : Cmp X ct .NotIn (fInA true) := c_notin.or c_notinS
/-! range with a step -/
theorem rangeSize_nn (a b c : Int) : 0 ≤ Builtin.Range.rangeSize a b c := by
  unfold Builtin.Range.rangeSize
  by_cases hc : c > 0
  · rw [if_pos hc]
    split
    · have : 0 ≤ (b - a - 1) / c := Int.ediv_nonneg (by omega) (by omega)
      omega
    · omega
  · rw [if_neg hc]
    split
    · have : 0 ≤ (a - b - 1) / (-c) := Int.ediv_nonneg (by omega) (by omega)
      omega
    · omega
theorem di_range3 {c : Expr} {p : Pos} (ha : DA X ct pm Γ [a, b, c] pu dr) (k : Int) (hm : X.mg "range" = none) (hk : k ≠ 0 := by decide) (hk2 : k.natAbs < 1073741824 := by decide) (hg : Gl X "range" := by rfl) (hs : starEach [a, b, c] X.env = (false, eval a X.env) :: starEach [b, c] X.env := by rfl) (hpl : (backTo pos (starEach [b, c] X.env)).any (·.1) = false := by rfl) {tg : Expr} (hsm : ∀ i j, rOk i → rOk j → Builtin.Range.small i j k = true := by intro i j h1 h2; exact PySem.W.small_down h1.1 h1.2 h2.1 h2.2) :
    DI X ct pm Γ tg (.Call (.Name "range" p) [a, b, c] [] pos) pu (aBnd dr (itR3 k hk)) := ⟨fun W tk => by
  obtain ⟨t, p, r⟩ := ha.run W tk
  refine ⟨_, pi_range3 hg hm p hs hpl, fun pv ρ F fp σ H R sr q => r pv ρ F fp σ H _ sr (IPost.bindA q fun d ds ρ1 vs F1 fp1 H1 ef sr1 tr1 m1 kk => ?_)⟩
  unfold itR3 at ef
  split at ef
  · rename_i i j k'
    split at ef
    · rename_i h
      cases ef
      obtain ⟨rfl, h1, h2⟩ := h
      cases m1 with
      | cons r1 t => cases t with
        | cons r2 t => cases t with
          | cons r3 t =>
            cases t; cases r1; cases r2; cases r3
            refine ⟨i, j, k', (Builtin.Range.rangeSize i j k').toNat, rfl, ⟨hk, hk2, hsm i j h1 h2, ?_⟩, walk_fn (f := fun n => i + (n : Nat) * k') walk_rangeC (rangeD_len _ _ _) (fun n hn => rangeD_get _ _ _ n hn) kk⟩
            have : 0 ≤ Builtin.Range.rangeSize i j k' := rangeSize_nn i j k'
            omega
    · cases ef
  · cases ef⟩
/-! ### the end of a def that always returns -/
def noNx (den : Ro → SO) : Ro → SO := fun ρ => match den ρ with
  | .nx _ => .stk
  | o => o
theorem DSs.noNx (h : DSs X ct pm S Γ sts Γ1 den) : DSs X ct pm S Γ sts Γ2 (noNx den) := ⟨fun W tk ps => by
  obtain ⟨t, p, r⟩ := h.run W tk ps
  refine ⟨t, p, fun pv ρ F fp σ H D sr q => r pv ρ F fp σ H D sr ?_⟩
  unfold DL.noNx at q
  cases z : den ρ with
  | nx ρ' => rw [z] at q; exact q.elim
  | _ => rw [z] at q; exact q⟩
end
def lenF (n : Nat) (Fn : FD) : FD := fun ds => if ds.length = n then Fn ds else .stk
section
variable {P : Program} {w : World} {K : PySem.W.Frag} {mg : Str → Option Value} {base : Heap} {ct : String → Option Addr}
theorem fn_okR {x qual : Str} {st : Stmt} {f : Addr} {fd : FuncData} {N ps : List Str} {k : Nat} (sg : Sig) {Γ1 : List Sh} {den : Ro → SO} (F : Fun K x qual st f fd) (S : FnScope N ps (defScope st)) (n : Nat) (hn : N.length = ps.length + n) (hp : sg.pm.length = ps.length) (hs : sg.ps.length = ps.length)
    (hbody : ∀ (cdv : Value) (A : Around) (outer : List Env) (s : Shared) (H : Hp) (E : XK), Room k (A.deeper (envOfC qual (defScope st) s.heap.objs.size f cdv)) →
      DSs (cxOf (L2.CX P w) P w K mg base N qual (defScope st) f cdv A outer s H E) ct sg.pm ⟨sg.rs, maskS sg.pm (sg.ps ++ List.replicate n .fz), maskS sg.pm (sg.ps ++ List.replicate n .fz), []⟩ (sg.ps ++ List.replicate n .fz) (defBody st) Γ1 den) : FnOk P w K mg base (L2.CX P w) (k + 1) f fd ps (spD K ct sg (bodyF sg.pm n (noNx den))) :=
  fn_ok (Γ1 := Γ1) sg F S n hn hp hs (fun cdv A outer s H E hr => (hbody cdv A outer s H E hr).noNx) (.inr fun ρ ρ' => by
    unfold noNx
    cases den ρ <;> simp)
end
/-- a def of the module, from a level on -/
structure GF (P : Program) (w : World) (K : PySem.W.Frag) (mg : Str → Option Value) (base : Heap) (ct : String → Option Addr) (n : Nat) (x : Str) (sg : Sig) (Fn : FD) : Prop where
  ok : ∃ f fd ps, FnOk P w K mg base (L2.CX P w) n f fd ps (spD K ct sg Fn) ∧ mg x = some (.ref f) ∧ PySem.W.keepIn K (.ref f) = true ∧ Binds K fd ps [] ∧ sg.ps.length = ps.length
section
variable {P : Program} {w : World} {K : PySem.W.Frag} {mg : Str → Option Value} {base : Heap} {ct : String → Option Addr} {n m : Nat} {x : Str} {sg : Sig} {Fn Gn : FD}
theorem GF.mono (g : GF P w K mg base ct n x sg Fn) (h : n ≤ m) : GF P w K mg base ct m x sg Fn := by
  obtain ⟨f, fd, ps, a, b⟩ := g.ok
  exact ⟨f, fd, ps, a.mono h, b⟩
theorem GF.imp (g : GF P w K mg base ct n x sg Fn) (l : FLe Gn Fn) : GF P w K mg base ct n x sg Gn := by
  obtain ⟨f, fd, ps, a, b⟩ := g.ok
  exact ⟨f, fd, ps, fn_imp a l, b⟩
theorem GF.df {X : Cx} {k : Nat} (g : GF X.prog X.w X.K X.mg X.base ct k x sg Fn) : DF X ct k x sg Fn := ⟨g.ok⟩
theorem GF.mk' {qual : Str} {st : Stmt} {f : Addr} {fd : FuncData} {ps : List Str} (F : Fun K x qual st f fd) (hm : mg x = some (.ref f)) (hb : Binds K fd ps []) (hs : sg.ps.length = ps.length) (ok : FnOk P w K mg base (L2.CX P w) n f fd ps (spD K ct sg Fn)) : GF P w K mg base ct n x sg Fn :=
  ⟨f, fd, ps, ok, hm, F.kp, hb, hs⟩
end
/-! ### written things -/
section
variable {K : PySem.W.Frag} {ct : String → Option Addr}
theorem rel_abs {x : V} {u : Value} (h : absV u = some x) : RelV x u := by
  cases u with
  | none => cases h; rfl
  | bool b => cases h; rfl
  | int i t => cases h; exact ⟨t, rfl⟩
  | str i t => cases h; exact ⟨t, rfl⟩
  | bytes i t => cases h; exact ⟨t, rfl⟩
  | float i t => cases h; exact ⟨t, rfl⟩
  | ref i => cases h; rfl
  | type i => cases h; rfl
  | _ => cases h
theorem vals_abs : ∀ {us : List Value} {vs : List V}, us.map absV = vs.map some → Vals vs us
  | [], [], _ => .nil
  | u :: us, v :: vs, h => by
    rw [List.map_cons, List.map_cons] at h
    obtain ⟨h1, h2⟩ := List.cons.inj h
    exact .cons (rel_abs h1) (vals_abs h2)
  | [], _ :: _, h => by cases h
  | _ :: _, [], h => by cases h
theorem rep_flat {F : Hp} {d : D} {v : V} (h : d.flat? = some v) : Rep K ct F v d := by
  cases d with
  | non => cases h; exact .non
  | bl b => cases h; exact .bl b
  | int b => cases h; exact .int b
  | str b => cases h; exact .str b
  | _ => cases h
theorem reps_flats {F : Hp} : ∀ {ds : List D} {vs : List V}, flats ds = some vs → Reps K ct F vs ds
  | [], vs, h => by cases h; exact .nil
  | d :: ds, vs, h => by
    rw [flats] at h
    cases z : D.flat? d with
    | none => rw [z] at h; cases h
    | some p =>
      rw [z] at h
      cases y : flats ds with
      | none => rw [y] at h; cases h
      | some ps => rw [y] at h; cases h; exact .cons (rep_flat z) (reps_flats y)
/-- a tuple of flat things that the module keeps -/
theorem rep_ktup {a : Addr} {od : Option Addr} {its : Array Value} {n : Nat} {sl : Array (Option Value)} {vs : List V} {ds : List D} (h : K.lookup a = some ⟨.type "tuple", od, .seq its n, sl⟩) (hz : decide (its.size ≤ sizeLine) = true) (hv : its.toList.map absV = vs.map some) (hd : flats ds = some vs) (F : Hp) : Rep K ct F (.ref a) (.tup ds) :=
  .tup (.inr ⟨_, its, n, h, rfl, rfl, of_decide_eq_true hz, vals_abs hv⟩) (reps_flats hd)
end
end DL
namespace DL
open PySem Spec PyProof.Rows L2
/-! ### targets of tuples -/
def gNames : List Nat → TGs
  | [] => gNil
  | i :: is => gCons (gName i) (gNames is)
structure TS' (X : Cx) (es : List Expr) (is : List Nat) : Prop where
  ok : PGs X es (gSeq is)
section
variable {X : Cx} {ct : String → Option Addr} {pm : List Bool} {S : SCx} {Γ Γ1 Γ2 : List Sh} {pu pu1 pu2 pu3 : Bool} {s : Sh} {pos : Pos} {a b e : Expr} {es : List Expr} {da db dc : Ro → EO} {dr : Ro → AO} {d1 : Ro → SO}
theorem ts_nil : TS' X [] [] := ⟨pgs_nil⟩
theorem ts_cons {x : Expr} {i : Nat} {is : List Nat} (h : TG' X x (.nm i)) (t : TS' X es is) (hs : (assignEach (x :: es) X.env).map (·.2) = assign x X.env :: (assignEach es X.env).map (·.2) := by rfl) : TS' X (x :: es) (i :: is) := ⟨pgs_cons h.ok t.ok hs⟩
theorem tg_tp {k : Nat} {is : List Nat} (hc : X.calm = true) (h : TS' X es is) (hn : (assignEach es X.env).length = is.length := by rfl) (hst : (assignEach es X.env).findIdx? (·.1) = none := by rfl) : TG' X (.Tuple es k pos) (.tp is) := ⟨pg_tup hc h.ok hn hst⟩
/-- a, b = e -/
def kTgt (t : Tgt) : D → Ro → SO := fun d ρ => match t.s d ρ with
  | some ρ' => .nx ρ'
  | none => .stk
theorem ds_setT {tg : Expr} {t : Tgt} (h : DE X ct pm Γ e pu .fz da) (ht : TG' X tg t) (hx : LeS S.Γx Γ) (hw : Wip Γ pm t.ix)
    (hp : ∀ {te : TE} {g : TG}, PE X e te → PG X tg g → PS X (.Assign [tg] e pos) (tAsg te g) := by exact fun h1 h2 => L2.ps_asg h1 h2) : DS X ct pm S Γ (.Assign [tg] e pos) Γ (sE da (kTgt t)) := ⟨fun W tk ps => by
  obtain ⟨te, pe, re⟩ := h.run W tk
  refine ⟨_, hp pe ht.ok, fun pv ρ F fp σ H D sr p => ?_⟩
  refine re pv ρ F fp σ H _ sr (SPost.ofE (S := S) (k := kTgt t) hx p fun d ρ1 v F1 fp1 fv H1 sr1 tr1 m1 nd1 q => ?_)
  cases m1 with
  | fz m =>
    rw [List.append_nil] at q
    unfold kTgt at q
    cases z : t.s d ρ1 with
    | none => rw [z] at q; exact q.elim
    | some ρ2 =>
      rw [z] at q
      exact Tgt.run sr1 hw m z fun σ' sr2 hl hj => q σ' F1 fp1 H1 sr2 Tr.refl⟩
/-! ### while, without fuel -/
open Classical in
noncomputable def whileD (dt : Ro → EO) (body : Ro → SO) : Ro → SO := fun ρ => if h : ∃ n, whileL dt body n ρ ≠ .stk then whileL dt body h.choose ρ else .stk
theorem whileL_mono {dt : Ro → EO} {body : Ro → SO} : ∀ {n : Nat} {ρ : Ro}, whileL dt body n ρ ≠ .stk → ∀ m, n ≤ m → whileL dt body m ρ = whileL dt body n ρ
  | 0, ρ, h, _, _ => absurd rfl h
  | n + 1, ρ, h, 0, hm => by omega
  | n + 1, ρ, h, m + 1, hm => by
    rw [whileL] at h ⊢
    rw [whileL]
    cases q : dt ρ with
    | stk => rfl
    | exc x ρ1 => rfl
    | ok d ρ1 =>
      cases d with
      | bl b =>
        cases b with
        | false => rfl
        | true =>
          rw [q] at h
          dsimp only at h ⊢
          cases z : body ρ1 with
          | nx ρ2 => rw [z] at h; exact whileL_mono h m (by omega)
          | ct ρ2 => rw [z] at h; exact whileL_mono h m (by omega)
          | _ => rfl
      | _ => rfl
theorem whileD_eq {dt : Ro → EO} {body : Ro → SO} {n : Nat} {ρ : Ro} {o : SO} (h : whileL dt body n ρ = o) (ho : o ≠ .stk) : whileD dt body ρ = o := by
  unfold whileD
  have e : ∃ n, whileL dt body n ρ ≠ .stk := ⟨n, by rw [h]; exact ho⟩
  rw [dif_pos e]
  have h1 := e.choose_spec
  rcases Nat.le_total n e.choose with l | l
  · rw [whileL_mono (by rw [h]; exact ho) _ l, h]
  · rw [← whileL_mono h1 _ l, h]
/-- the turns of a while loop -/
theorem whileD_step {dt : Ro → EO} {body : Ro → SO} {ρ ρ1 ρ2 : Ro} {o : SO} (h1 : dt ρ = .ok (.bl true) ρ1) (h2 : body ρ1 = .nx ρ2 ∨ body ρ1 = .ct ρ2) (h : whileD dt body ρ2 = o) (ho : o ≠ .stk) : whileD dt body ρ = o := by
  unfold whileD at h
  by_cases e : ∃ n, whileL dt body n ρ2 ≠ .stk
  · rw [dif_pos e] at h
    refine whileD_eq (n := e.choose + 1) ?_ ho
    rw [whileL, h1]
    dsimp only
    rcases h2 with h2 | h2 <;> rw [h2] <;> exact h
  · rw [dif_neg e] at h
    exact absurd h.symm ho
theorem whileD_end {dt : Ro → EO} {body : Ro → SO} {ρ ρ1 : Ro} (h1 : dt ρ = .ok (.bl false) ρ1) : whileD dt body ρ = .nx ρ1 :=
  whileD_eq (n := 1) (by rw [whileL, h1]) (by intro h; cases h)
theorem whileD_ret {dt : Ro → EO} {body : Ro → SO} {ρ ρ1 ρ2 : Ro} {d : D} (h1 : dt ρ = .ok (.bl true) ρ1) (h2 : body ρ1 = .ret d ρ2) : whileD dt body ρ = .ret d ρ2 :=
  whileD_eq (n := 1) (by rw [whileL, h1]; dsimp only; rw [h2]) (by intro h; cases h)
theorem whileD_brk {dt : Ro → EO} {body : Ro → SO} {ρ ρ1 ρ2 : Ro} (h1 : dt ρ = .ok (.bl true) ρ1) (h2 : body ρ1 = .brk ρ2) : whileD dt body ρ = .nx ρ2 :=
  whileD_eq (n := 1) (by rw [whileL, h1]; dsimp only; rw [h2]) (by intro h; cases h)
theorem ds_whileD {c : Expr} {body : List Stmt} {dt : Ro → EO} (hc : DT X ct pm Γ c pu dt) (hb : DSs X ct pm ⟨S.rs, S.Γr, S.Γx, Γ⟩ Γ body Γ d1) (hx : LeS S.Γx Γ) : DS X ct pm S Γ (.While c body [] pos) Γ (whileD dt d1) := ⟨fun W tk ps => by
  obtain ⟨tt, pt, rt⟩ := hc.run W tk
  obtain ⟨tb, pb, rb⟩ := hb.run W tk ps
  refine ⟨_, ps_while ps pt pb, fun pv ρ F fp σ H D sr p => ?_⟩
  unfold whileD at p
  by_cases e : ∃ n, whileL dt d1 n ρ ≠ .stk
  · rw [dif_pos e] at p
    refine ⟨fun m σ2 H2 => ∃ ρ2 F2 fp2, SR X.K ct Γ pm pv ρ2 F2 fp2 σ2 H2 ∧ SPost X.K ct pm pv S Γ F2 fp2 H2 W D (whileL dt d1 m ρ2), ⟨e.choose, ρ, F, fp, sr, p⟩, ?_⟩
    rintro m σ2 H2 ⟨ρ2, F2, fp2, sr2, p2⟩
    cases m with
    | zero => exact p2.elim
    | succ m =>
      have p2 : SPost X.K ct pm pv S Γ F2 fp2 H2 W D (match dt ρ2 with
        | .ok (.bl true) ρ1 => (fun ρ1 => match d1 ρ1 with
          | .nx ρ2 => whileL dt d1 m ρ2
          | .ct ρ2 => whileL dt d1 m ρ2
          | .brk ρ2 => .nx ρ2
          | o => o) ρ1
        | .ok (.bl false) ρ1 => (fun ρ1 => .nx ρ1) ρ1
        | .exc x ρ1 => .exc x ρ1
        | _ => .stk) := p2
      refine rt pv ρ2 F2 fp2 σ2 H2 _ sr2 (SPost.ofT (Γ1 := Γ) hx p2 fun b ρ3 F3 fp3 H3 sr3 tr3 q => ?_)
      cases b with
      | false => exact iteF (q σ2 F3 fp3 H3 sr3 Tr.refl)
      | true =>
        refine iteT ?_
        have q : SPost X.K ct pm pv S Γ F3 fp3 H3 W D (match d1 ρ3 with
          | .nx ρ2 => whileL dt d1 m ρ2
          | .ct ρ2 => whileL dt d1 m ρ2
          | .brk ρ2 => .nx ρ2
          | o => o) := q
        refine ⟨fun σ' H' => ∃ ρ' F' fp', SR X.K ct Γ pm pv ρ' F' fp' σ' H' ∧ SPost X.K ct pm pv S Γ F' fp' H' W D (whileL dt d1 m ρ'), fun σ' H' h => ⟨m, Nat.lt_succ_self m, h⟩, ?_⟩
        refine rb pv ρ3 F3 fp3 σ2 H3 _ sr3 ?_
        cases q4 : d1 ρ3 with
        | nx ρ4 => rw [q4] at q; exact fun σ' F' fp' H' sr' tr => ⟨ρ4, F', fp', sr', q.tr tr⟩
        | ct ρ4 => rw [q4] at q; exact fun σ' F' fp' H' sr' tr => ⟨ρ4, F', fp', sr', q.tr tr⟩
        | brk ρ4 => rw [q4] at q; exact q
        | ret d ρ4 => rw [q4] at q; exact q
        | exc x ρ4 => rw [q4] at q; exact q
        | stk => rw [q4] at q; exact q
  · rw [dif_neg e] at p; exact p.elim⟩
def Sh.isFz : Sh → Bool
  | .fz => true
  | _ => false
theorem fzs {ss : List Sh} (h : ss.all Sh.isFz = true) : ∀ s ∈ ss, s = .fz := fun s hs => by
  have := List.all_eq_true.mp h s hs
  cases s <;> first | rfl | cases this
/-! ### written constants -/
structure GC (K : PySem.W.Frag) (mg : Str → Option Value) (ct : String → Option Addr) (x : Str) (d : D) : Prop where
  ok : ∃ v u, mg x = some u ∧ RelV v u ∧ ∀ F, Rep K ct F v d
theorem de_gc {x : Str} {d : D} (h : GC X.K X.mg ct x d) (hg : Gl X x := by rfl) (hd : (x == ("__debug__" : Str)) = false := by decide) : DE X ct pm Γ (.Name x pos) pu .fz (eC d) := by
  obtain ⟨v, u, h1, h2, h3⟩ := h.ok
  exact de_glob hg h1 h2 h3 hd
theorem gc_flat {K : PySem.W.Frag} {mg : Str → Option Value} {x : Str} {u : Value} {d : D} {v : V} (h : mg x = some u) (hd : d.flat? = some v) (hv : absV u = some v) : GC K mg ct x d := ⟨v, u, h, rel_abs hv, fun F => rep_flat hd⟩
theorem gc_tup {K : PySem.W.Frag} {mg : Str → Option Value} {x : Str} {a : Addr} {od : Option Addr} {its : Array Value} {n : Nat} {sl : Array (Option Value)} {vs : List V} {ds : List D} (h : mg x = some (.ref a)) (hk : K.lookup a = some ⟨.type "tuple", od, .seq its n, sl⟩) (hz : decide (its.size ≤ sizeLine) = true) (hv : its.toList.map absV = vs.map some) (hd : flats ds = some vs) : GC K mg ct x (.tup ds) := ⟨.ref a, .ref a, h, rfl, fun F => rep_ktup hk hz hv hd F⟩
/-! ### isinstance -/
def D.ty? : D → Option String
  | .non => some "NoneType"
  | .bl _ => some "bool"
  | .int _ => some "int"
  | .str _ => some "str"
  | .lst _ => some "list"
  | .scr _ => some "list"
  | .tup _ => some "tuple"
  | .dK _ => some "dict"
  | .dT _ => some "dict"
  | .ob _ _ => none
def fIsi (T : String) : D → Option D := fun d => (D.ty? d).bind fun t => (kitB t T).map .bl
theorem rep_ty {K : PySem.W.Frag} {F H : Hp} {v : V} {d : D} {t : String} (e : Same F H) (r : Rep K ct F v d) (h : D.ty? d = some t) : TyX K H v (.type t) := by
  cases r with
  | non => cases h; exact .base .non
  | bl b => cases h; exact .base (.bl b)
  | int b => cases h; exact .base (.int b)
  | str b => cases h; exact .base (.str b)
  | lst q _ => cases h; exact .base (.lst (e _ _ q))
  | scr q =>
    cases h
    rcases e.seq q with (h | ⟨o, h⟩) | ⟨o, _, _, h1, h2, _⟩
    · exact .base (.lst h)
    · exact .base (.frz h)
    · exact .kList h1 h2
  | tup q _ =>
    cases h
    rcases sqT_mono e q with (h | ⟨o, h⟩) | ⟨o, _, _, h1, h2, _⟩
    · exact .base (.tup h)
    · exact .fTuple h
    · exact .kTuple h1 h2
  | dK q _ => cases h; exact .base (.dK (e _ _ q))
  | dT q _ => cases h; exact .base (.dT (e _ _ q))
  | ob _ _ _ => cases h
theorem de_isi {x : Str} {T : String} {p p2 : Pos} (h : DE X ct pm Γ e pu .fz da) (hm : X.mg "isinstance" = none) (hmT : X.mg x = none) (hT : bootBuiltins x = some (.type T)) (hg : Gl X "isinstance" := by rfl) (hgT : Gl X x := by rfl)
    (hn : x ≠ "__name__" := by decide) (hdb : (x == ("__debug__" : Str)) = false := by decide)
    (he : starEach [e, .Name x p2] X.env = (false, eval e X.env) :: starEach [.Name x p2] X.env := by rfl) (he2 : starEach [.Name x p2] X.env = (false, eval (.Name x p2) X.env) :: starEach [] X.env := by rfl) (hpl : (backTo pos (starEach [.Name x p2] X.env)).any (·.1) = false := by rfl) :
    DE X ct pm Γ (.Call (.Name "isinstance" p) [e, .Name x p2] [] pos) pu .fz (eUn (fIsi T) da) := ⟨fun W tk => by
  obtain ⟨t, pe, re⟩ := h.run W tk
  refine ⟨_, pe_callB call_isi hg hm PyProof.Rows.boot_isinstance (pa_cons pe (pa_cons (pe_bltn (v := .ty T) hgT hmT hT rfl hn hdb) pa_nil he2) he) (by decide) (by decide) he hpl, fun pv ρ F fp σ H Q sr q => ?_⟩
  refine re pv ρ F fp σ H _ sr (EPost.bind (pu2 := true) (k := fun x ρ1 => EO.of (fIsi T x) ρ1) (Q := Q) (s := .fz) (by rw [Bool.and_true]; exact q) fun d ρ1 v F1 fp1 H1 sr1 tr1 m1 p1 => ?_)
  unfold fIsi at p1
  cases z : D.ty? d with
  | none => rw [z] at p1; exact p1.elim
  | some t =>
    rw [z] at p1
    cases y : kitB t T with
    | none => simp only [Option.bind_some, y] at p1; exact p1.elim
    | some b =>
      simp only [Option.bind_some, y] at p1
      exact ⟨v, .ty T, .type t, .type T, b, rfl, .ty T, rep_ty sr1.sub m1 z, y, EPost.fin p1 sr1 (Grow.refl sr1.sub) (.fz (.bl b)) (by simp) .nil⟩⟩
end
end DL
namespace DL
open PySem Spec PyProof.Rows L2
/-! ### plain laws of loops -/
theorem forL_nx {bd : D → Ro → Option Ro} {body : Ro → SO} (I : List D → Ro → Prop) : ∀ {xs : List D} {ρ : Ro}, I xs ρ → (∀ x xs ρ, I (x :: xs) ρ → ∃ ρ1 ρ2, bd x ρ = some ρ1 ∧ (body ρ1 = .nx ρ2 ∨ body ρ1 = .ct ρ2) ∧ I xs ρ2) → ∃ ρ', forL bd body xs ρ = .nx ρ' ∧ I [] ρ'
  | [], ρ, h, _ => ⟨ρ, rfl, h⟩
  | x :: xs, ρ, h, st => by
    obtain ⟨ρ1, ρ2, h1, h2, h3⟩ := st x xs ρ h
    obtain ⟨ρ', h4, h5⟩ := forL_nx I h3 st
    refine ⟨ρ', ?_, h5⟩
    rw [forL, h1]
    dsimp only
    rcases h2 with h2 | h2 <;> rw [h2] <;> exact h4
/-- with returns and breaks -/
theorem forL_go {bd : D → Ro → Option Ro} {body : Ro → SO} (I : List D → Ro → Prop) (R : SO → Prop) : ∀ {xs : List D} {ρ : Ro}, I xs ρ → (∀ ρ, I [] ρ → R (.nx ρ)) →
    (∀ x xs ρ, I (x :: xs) ρ → ∃ ρ1, bd x ρ = some ρ1 ∧ ((∃ ρ2, (body ρ1 = .nx ρ2 ∨ body ρ1 = .ct ρ2) ∧ I xs ρ2) ∨ (∃ ρ2, body ρ1 = .brk ρ2 ∧ R (.nx ρ2)) ∨ (∃ d ρ2, body ρ1 = .ret d ρ2 ∧ R (.ret d ρ2)) ∨ (∃ e ρ2, body ρ1 = .exc e ρ2 ∧ R (.exc e ρ2)))) → R (forL bd body xs ρ)
  | [], ρ, h, h0, _ => h0 ρ h
  | x :: xs, ρ, h, h0, st => by
    obtain ⟨ρ1, h1, h2⟩ := st x xs ρ h
    rw [forL, h1]
    dsimp only
    rcases h2 with ⟨ρ2, h2, h3⟩ | ⟨ρ2, h2, h3⟩ | ⟨d, ρ2, h2, h3⟩ | ⟨d, ρ2, h2, h3⟩
    · have := forL_go I R h3 h0 st
      rcases h2 with h2 | h2 <;> rw [h2] <;> exact this
    · rw [h2]; exact h3
    · rw [h2]; exact h3
    · rw [h2]; exact h3
theorem whileD_go {dt : Ro → EO} {body : Ro → SO} (I : Nat → Ro → Prop) (R : SO → Prop) (hR : ¬ R .stk) : ∀ {n : Nat} {ρ : Ro}, I n ρ →
    (∀ n ρ, I n ρ → (∃ ρ1, dt ρ = .ok (.bl false) ρ1 ∧ R (.nx ρ1)) ∨ (∃ ρ1, dt ρ = .ok (.bl true) ρ1 ∧ ((∃ m ρ2, m < n ∧ (body ρ1 = .nx ρ2 ∨ body ρ1 = .ct ρ2) ∧ I m ρ2) ∨ (∃ ρ2, body ρ1 = .brk ρ2 ∧ R (.nx ρ2)) ∨ (∃ d ρ2, body ρ1 = .ret d ρ2 ∧ R (.ret d ρ2))))) → R (whileD dt body ρ) := by
  intro n
  induction n using Nat.strongRecOn with
  | ind n ih =>
    intro ρ h st
    rcases st n ρ h with ⟨ρ1, h1, h2⟩ | ⟨ρ1, h1, ⟨m, ρ2, hm, h2, h3⟩ | ⟨ρ2, h2, h3⟩ | ⟨d, ρ2, h2, h3⟩⟩
    · rw [whileD_end h1]; exact h2
    · have := ih m hm h3 st
      rw [whileD_step h1 h2 rfl (fun z => hR (z ▸ this))]
      exact this
    · rw [whileD_brk h1 h2]; exact h3
    · rw [whileD_ret h1 h2]; exact h3
/-- comprehensions: no test -/
theorem lcL_map {bd : D → Ro → Option Ro} {te : Ro → EO} {vs : List Nat} (P : D → Prop) (f : D → D) (ρ0 : Ro) (hs : ∀ x, P x → ∃ ρ1 ρ3, bd x ρ0 = some ρ1 ∧ te ρ1 = .ok (f x) ρ3 ∧ wipeR ρ3 vs = ρ0) : ∀ {xs acc : List D}, (∀ x ∈ xs, P x) → acc.length + xs.length ≤ sizeLine → lcL bd tYesD te vs xs acc ρ0 = .ok (.lst (acc ++ xs.map f)) ρ0
  | [], acc, _, _ => by rw [lcL, List.map_nil, List.append_nil]
  | x :: xs, acc, hp, hl => by
    obtain ⟨ρ1, ρ3, h1, h2, h3⟩ := hs x (hp x List.mem_cons_self)
    rw [List.length_cons] at hl
    rw [lcL, h1]
    dsimp only [tYesD]
    rw [h2]
    dsimp only
    rw [if_pos (by omega), h3, lcL_map P f ρ0 hs (fun y hy => hp y (List.mem_cons_of_mem _ hy)) (by rw [List.length_append, List.length_singleton]; omega), List.map_cons, List.append_assoc]
    rfl
/-- with a test -/
theorem lcL_filter {bd : D → Ro → Option Ro} {tt te : Ro → EO} {vs : List Nat} (P : D → Prop) (p : D → Bool) (f : D → D) (ρ0 : Ro)
    (hs : ∀ x, P x → ∃ ρ1 ρ2, bd x ρ0 = some ρ1 ∧ tt ρ1 = .ok (.bl (p x)) ρ2 ∧ if p x then ∃ ρ3, te ρ2 = .ok (f x) ρ3 ∧ wipeR ρ3 vs = ρ0 else wipeR ρ2 vs = ρ0) : ∀ {xs acc : List D}, (∀ x ∈ xs, P x) → acc.length + xs.length ≤ sizeLine → lcL bd tt te vs xs acc ρ0 = .ok (.lst (acc ++ (xs.filter p).map f)) ρ0
  | [], acc, _, _ => by rw [lcL, List.filter_nil, List.map_nil, List.append_nil]
  | x :: xs, acc, hp, hl => by
    obtain ⟨ρ1, ρ2, h1, h2, h3⟩ := hs x (hp x List.mem_cons_self)
    rw [List.length_cons] at hl
    rw [lcL, h1]
    dsimp only
    rw [h2]
    cases q : p x with
    | true =>
      rw [q, if_pos rfl] at h3
      obtain ⟨ρ3, h4, h5⟩ := h3
      dsimp only
      rw [h4]
      dsimp only
      rw [if_pos (by omega), h5, lcL_filter P p f ρ0 hs (fun y hy => hp y (List.mem_cons_of_mem _ hy)) (by rw [List.length_append, List.length_singleton]; omega), List.filter_cons, if_pos q, List.map_cons, List.append_assoc]
      rfl
    | false =>
      rw [q, if_neg (by simp)] at h3
      dsimp only
      rw [h3, lcL_filter P p f ρ0 hs (fun y hy => hp y (List.mem_cons_of_mem _ hy)) (by omega), List.filter_cons, if_neg (by simp [q])]
theorem lenF_one {sg : Sig} {n : Nat} {Fn : FD} (h : sg.ps.length = n) (hf : ∀ ds, Fn ds ≠ .stk → ds.length = n) : lenOk sg Fn := fun ds hd => by rw [h]; exact hf ds hd
end DL
namespace DL
open PySem Spec PyProof.Rows L2
/-! ### joining -/
def DefIn (K : PySem.W.Frag) (mg : Str → Option Value) (x qual : Str) (st : Stmt) : Prop := ∃ f fd, Fun K x qual st f fd ∧ mg x = some (.ref f)
theorem DefIn.of {K : PySem.W.Frag} {h : Heap} {mg : Str → Option Value} {x qual : Str} {st : Stmt} {f : Addr} {oc : Value} {od an : Option Addr} {osl : Array (Option Value)} {kV doc pm cdv ct : Value} (X : K.In h) (G : h.Ns mainGlobals mg) (a : PySem.W.nsIn K mainGlobals x = some (some (.ref f)))
    (l : K.lookup f = some ⟨oc, od, .func (PySem.W.fnOf x qual (defArgs st) (defBody st) (defScope st) .none kV doc pm an cdv ct), osl⟩)
    (c : PySem.W.codeIn K cdv qual = true) (k : PySem.W.keepIn K (.ref f) = true) : DefIn K mg x qual st := ⟨f, _, fun_mk l c k, PySem.W.mg_of X G a⟩
section
variable {P : Program} {w : World} {K : PySem.W.Frag} {mg : Str → Option Value} {base : Heap} {ct : String → Option Addr} {n m k : Nat} {x qual : Str} {st : Stmt} {sg : Sig} {Fn Gn : FD} {ps : List Str} {f : Addr} {fd : FuncData}
theorem fle_len {n : Nat} : FLe (lenF n Fn) Fn := fun ds => by
  unfold lenF
  by_cases h : ds.length = n
  · exact .inr (if_pos h)
  · exact .inl (if_neg h)
theorem lenOk_len {n : Nat} (h : sg.ps.length = n) : lenOk sg (lenF n Fn) := fun ds hd => by
  unfold lenF at hd
  by_cases q : ds.length = n
  · rw [q, h]
  · rw [if_neg q] at hd; exact absurd rfl hd
theorem fn_stk (hl : sg.ps.length = ps.length) : FnOk P w K mg base (L2.CX P w) k f fd ps (spD K ct sg (fun _ => .stk)) :=
  ⟨fun vs H Q E ⟨ds, F0, fp, _, ar, _⟩ => by rw [ar.lens.1, hl], fun _ _ _ _ _ _ _ _ _ _ _ h => by
    intros
    rename_i h2
    first
      | (obtain ⟨ds, F0, fp, _, _, _, h⟩ := h; exact h.elim)
      | (obtain ⟨ds, F0, fp, _, _, _, h⟩ := h2; exact h.elim)⟩
end
end DL
namespace DL
open PySem Spec PyProof.Rows L2
section
variable {P : Program} {w : World} {K : PySem.W.Frag} {mg : Str → Option Value} {base : Heap} {ct : String → Option Addr} {n m k : Nat} {x qual : Str} {st : Stmt} {sg : Sig} {Fn Gn : FD} {ps : List Str} {f : Addr} {fd : FuncData}
theorem sp_law {H : Hp} {a : Addr} {ns : List Int} {po : Ro} (h1 : sg.ps = [.fz]) (h2 : sg.rs = .fz) (hS : SqL K H a (ns.map V.int)) (e : Fn [.scr ns] = .ret (.bl true) po) : spD K ct sg Fn [.ref a] H (fun v _ => v = .bl true) fun _ _ _ => False := by
  refine ⟨[.scr ns], H, [], Same.refl H, ?_, .nil, ?_⟩
  · rw [h1]
    have := ArgsR.cons (K := K) (ct := ct) (F := H) (H := H) (s := .fz) (v := .ref a) (d := .scr ns) (p := []) (.fz (.scr hS)) .nil
    exact this
  · rw [e]
    intro v F' fp' fv H' _ _ _ m _
    rw [h2] at m
    cases m with
    | fz m => cases m; rfl
theorem cx_no {H : Hp} {s s' : Shared} {e : Value} (h : L2.CX P w [] H s (fun _ _ _ => False) e s') : False := by
  obtain ⟨_, _, _, _, _, _, _, _, _, _, _, _, h⟩ := h
  exact h
end
end DL
namespace DL
open PySem Spec PyProof.Rows L2
/-! ### evaluation by simp -/
section
variable {ρ ρ1 ρ2 : Ro} {d x y : D} {e : Exc} {o o' : EO} {k : D → Ro → EO} {f : D → D → Option D} {da db dc dt : Ro → EO} {dr : Ro → AO} {d1 d2 : Ro → SO}
@[simp] theorem bnd_ok : (EO.ok d ρ).bnd k = k d ρ := rfl
@[simp] theorem bnd_exc : (EO.exc e ρ).bnd k = .exc e ρ := rfl
@[simp] theorem bnd_stk : EO.stk.bnd k = .stk := rfl
@[simp] theorem of_some : EO.of (some d) ρ = .ok d ρ := rfl
@[simp] theorem of_none : EO.of none ρ = .stk := rfl
@[simp] theorem eC_ap : eC d ρ = .ok d ρ := rfl
def ofV : Option (Option D) → Ro → EO
  | some (some d), ρ => .ok d ρ
  | _, _ => .stk
@[simp] theorem eV_ap {i : Nat} : eV i ρ = ofV ρ[i]? ρ := by
  unfold eV ofV
  generalize ρ[i]? = o
  rcases o with _ | _ | o <;> rfl
@[simp] theorem ofV_some : ofV (some (some d)) ρ = .ok d ρ := rfl
def kOf2 (f : D → D → Option D) (x y : D) (ρ : Ro) : EO := EO.of (f x y) ρ
@[simp] theorem kOf2_ap : kOf2 f x y ρ = EO.of (f x y) ρ := rfl
def kBin1 (f : D → D → Option D) (db : Ro → EO) (x : D) (ρ : Ro) : EO := (db ρ).bnd (kOf2 f x)
@[simp] theorem kBin1_ap : kBin1 f db x ρ = (db ρ).bnd (kOf2 f x) := rfl
def kOf1 (f : D → Option D) (x : D) (ρ : Ro) : EO := EO.of (f x) ρ
@[simp] theorem kOf1_ap {f : D → Option D} : kOf1 f x ρ = EO.of (f x) ρ := rfl
def kOfA (f : List D → Option D) (x : List D) (ρ : Ro) : EO := EO.of (f x) ρ
@[simp] theorem kOfA_ap {f : List D → Option D} {x : List D} : kOfA f x ρ = EO.of (f x) ρ := rfl
@[simp] theorem eBin_ap : eBin f da db ρ = (da ρ).bnd (kBin1 f db) := rfl
@[simp] theorem eUn_ap {f : D → Option D} : eUn f da ρ = (da ρ).bnd (kOf1 f) := rfl
@[simp] theorem eBnd_ap {f : D → Option D} : eBnd da f ρ = (da ρ).bnd (kOf1 f) := rfl
@[simp] theorem abnd_ok {k : List D → Ro → EO} {ds : List D} : (AO.ok ds ρ).bnd k = k ds ρ := rfl
@[simp] theorem abnd_exc {k : List D → Ro → EO} : (AO.exc e ρ).bnd k = .exc e ρ := rfl
@[simp] theorem eArg_ap {f : List D → Option D} : eArg f dr ρ = (dr ρ).bnd (kOfA f) := rfl
@[simp] theorem aBnd_ap {f : List D → Option D} : aBnd dr f ρ = (dr ρ).bnd (kOfA f) := rfl
@[simp] theorem aNil_ap : aNil ρ = .ok [] ρ := rfl
def EO.bndA : EO → (D → Ro → AO) → AO
  | .ok d ρ, k => k d ρ
  | .exc x ρ, _ => .exc x ρ
  | .stk, _ => .stk
@[simp] theorem bndA_ok {k : D → Ro → AO} : (EO.ok d ρ).bndA k = k d ρ := rfl
@[simp] theorem bndA_exc {k : D → Ro → AO} : (EO.exc e ρ).bndA k = .exc e ρ := rfl
def kCons (dr : Ro → AO) (d : D) (ρ : Ro) : AO := (dr ρ).cons d
@[simp] theorem kCons_ap : kCons dr d ρ = (dr ρ).cons d := rfl
@[simp] theorem aCons_ap : aCons da dr ρ = (da ρ).bndA (kCons dr) := by unfold aCons; cases da ρ <;> rfl
@[simp] theorem acons_ok {ds : List D} : (AO.ok ds ρ).cons d = .ok (d :: ds) ρ := rfl
@[simp] theorem acons_exc : (AO.exc e ρ).cons d = .exc e ρ := rfl
@[simp] theorem eAnd_ap : eAnd da db ρ = (da ρ).bnd (kAnd db) := rfl
@[simp] theorem eOr_ap : eOr da db ρ = (da ρ).bnd (kOr db) := rfl
@[simp] theorem eNot_ap : eNot da ρ = (da ρ).bnd kNot := rfl
@[simp] theorem eIf_ap : eIf dt da db ρ = (dt ρ).bnd (kIf da db) := rfl
@[simp] theorem kAnd_t : kAnd db (.bl true) ρ = db ρ := rfl
@[simp] theorem kAnd_f : kAnd db (.bl false) ρ = .ok (.bl false) ρ := rfl
@[simp] theorem kOr_t : kOr db (.bl true) ρ = .ok (.bl true) ρ := rfl
@[simp] theorem kOr_f : kOr db (.bl false) ρ = db ρ := rfl
@[simp] theorem kNot_b {b : Bool} : kNot (.bl b) ρ = .ok (.bl (!b)) ρ := rfl
@[simp] theorem kIf_t : kIf da db (.bl true) ρ = da ρ := rfl
@[simp] theorem kIf_f : kIf da db (.bl false) ρ = db ρ := rfl
/-! flat reads -/
def EO.bndF (s : Sh) (ρ : Ro) : EO → EO
  | .ok d _ => if flatS s d = true then .ok d ρ else .stk
  | _ => .stk
@[simp] theorem eFlat_ap {s : Sh} : eFlat s da ρ = (da ρ).bndF s ρ := by unfold eFlat; cases da ρ <;> rfl
@[simp] theorem bndF_int {i : Int} : (EO.ok (.int i) ρ1).bndF .fz ρ = .ok (.int i) ρ := rfl
@[simp] theorem bndF_bl {i : Bool} : (EO.ok (.bl i) ρ1).bndF .fz ρ = .ok (.bl i) ρ := rfl
@[simp] theorem bndF_str {i : Str} : (EO.ok (.str i) ρ1).bndF .fz ρ = .ok (.str i) ρ := rfl
@[simp] theorem bndF_non : (EO.ok .non ρ1).bndF .fz ρ = .ok .non ρ := rfl
/-! statements -/
def EO.bndS : EO → (D → Ro → SO) → SO
  | .ok d ρ, k => k d ρ
  | .exc x ρ, _ => .exc x ρ
  | .stk, _ => .stk
@[simp] theorem bndS_ok {k : D → Ro → SO} : (EO.ok d ρ).bndS k = k d ρ := rfl
@[simp] theorem bndS_exc {k : D → Ro → SO} : (EO.exc e ρ).bndS k = .exc e ρ := rfl
@[simp] theorem sE_ap {k : D → Ro → SO} : sE da k ρ = (da ρ).bndS k := by unfold sE; cases da ρ <;> rfl
@[simp] theorem sSeq_ap : sSeq d1 d2 ρ = (d1 ρ).bnd d2 := rfl
@[simp] theorem sbnd_nx : (SO.nx ρ).bnd d2 = d2 ρ := rfl
@[simp] theorem sbnd_ret : (SO.ret d ρ).bnd d2 = .ret d ρ := rfl
@[simp] theorem sbnd_exc : (SO.exc e ρ).bnd d2 = .exc e ρ := rfl
@[simp] theorem sbnd_brk : (SO.brk ρ).bnd d2 = .brk ρ := rfl
@[simp] theorem sbnd_ct : (SO.ct ρ).bnd d2 = .ct ρ := rfl
def EO.bndI : EO → (Ro → SO) → (Ro → SO) → SO
  | .ok (.bl true) ρ, k, _ => k ρ
  | .ok (.bl false) ρ, _, k => k ρ
  | .exc x ρ, _, _ => .exc x ρ
  | _, _, _ => .stk
@[simp] theorem sIf_ap : sIf dt d1 d2 ρ = (dt ρ).bndI d1 d2 := by
  unfold sIf EO.bndI
  cases dt ρ with
  | ok d ρ => cases d <;> first | rfl | (rename_i b; cases b <;> rfl)
  | _ => rfl
@[simp] theorem bndI_t : (EO.ok (.bl true) ρ).bndI d1 d2 = d1 ρ := rfl
@[simp] theorem bndI_f : (EO.ok (.bl false) ρ).bndI d1 d2 = d2 ρ := rfl
@[simp] theorem bndI_exc : (EO.exc e ρ).bndI d1 d2 = .exc e ρ := rfl
theorem bndI_dec {p : Prop} [Decidable p] : (EO.ok (.bl (decide p)) ρ).bndI d1 d2 = if p then d1 ρ else d2 ρ := by
  by_cases h : p
  · rw [decide_eq_true h, if_pos h]; rfl
  · rw [decide_eq_false h, if_neg h]; rfl
@[simp] theorem kSet_ap {i : Nat} : kSet i d ρ = .nx (ρ.set i (some d)) := rfl
@[simp] theorem kRet_ap : kRet d ρ = .ret d ρ := rfl
@[simp] theorem kDrop_ap : kDrop d ρ = .nx ρ := rfl
@[simp] theorem sNil_ap : sNil ρ = .nx ρ := rfl
@[simp] theorem sRetN_ap : sRetN ρ = .ret .non ρ := rfl
@[simp] theorem sBrk_ap : sBrk ρ = .brk ρ := rfl
@[simp] theorem sCt_ap : sCt ρ = .ct ρ := rfl
@[simp] theorem kFor_ap {bd : D → Ro → Option Ro} {b : Ro → SO} {ds : List D} : kFor bd b (.lst ds) ρ = forL bd b ds ρ := rfl
def kT : Option Ro → SO
  | some ρ => .nx ρ
  | none => .stk
@[simp] theorem kTgt_ap {t : Tgt} : kTgt t d ρ = kT (t.s d ρ) := by unfold kTgt; cases t.s d ρ <;> rfl
@[simp] theorem kT_some : kT (some ρ) = .nx ρ := rfl
@[simp] theorem tgt_nm {i : Nat} : Tgt.s (.nm i) d ρ = some (ρ.set i (some d)) := rfl
@[simp] theorem tgt_tp {is : List Nat} {ds : List D} : Tgt.s (.tp is) (.tup ds) ρ = setSeq is ds ρ := rfl
@[simp] theorem setSeq_nil : setSeq [] [] ρ = some ρ := rfl
@[simp] theorem setSeq_cons {i : Nat} {is : List Nat} {ds : List D} : setSeq (i :: is) (d :: ds) ρ = setSeq is ds (ρ.set i (some d)) := rfl
def augW (i : Nat) (ρ : Ro) : Option D → SO
  | some z => .nx (ρ.set i (some z))
  | none => .stk
@[simp] theorem augW_some {i : Nat} : augW i ρ (some d) = .nx (ρ.set i (some d)) := rfl
def augV (i : Nat) (f : D → D → Option D) (x y : D) (ρ : Ro) : SO := augW i ρ (f x y)
@[simp] theorem augV_ap {i : Nat} : augV i f x y ρ = augW i ρ (f x y) := rfl
def augO (i : Nat) (f : D → D → Option D) (da : Ro → EO) : Option (Option D) → Ro → SO
  | some (some x), ρ => (da ρ).bndS (augV i f x)
  | _, _ => .stk
@[simp] theorem sAug_ap {i : Nat} : sAug i f da ρ = augO i f da ρ[i]? ρ := by
  unfold sAug augO
  generalize ρ[i]? = o
  rcases o with _ | _ | o
  · rfl
  · rfl
  · simp only [sE_ap]; rfl
@[simp] theorem augO_some {i : Nat} : augO i f da (some (some x)) ρ = (da ρ).bndS (augV i f x) := rfl
/-! calls -/
def FO.toE (ρ : Ro) : FO → EO
  | .ret d _ => .ok d ρ
  | .exc x _ => .exc x ρ
  | .stk => .stk
@[simp] theorem kCall_ap {Fn : FD} {ds : List D} : kCall Fn ds ρ = (Fn ds).toE ρ := by unfold kCall; cases Fn ds <;> rfl
@[simp] theorem toE_ret {ps : Ro} : (FO.ret d ps).toE ρ = .ok d ρ := rfl
@[simp] theorem toE_exc {ps : Ro} : (FO.exc e ps).toE ρ = .exc e ρ := rfl
@[simp] theorem eCall_ap {Fn : FD} : eCall Fn dr ρ = (dr ρ).bnd (kCall Fn) := rfl
def FO.toM (lent : List (Option Nat)) (ρ : Ro) : FO → EO
  | .ret d ps => .ok d (giveL lent ps ρ)
  | .exc x ps => .exc x (giveL lent ps ρ)
  | .stk => .stk
@[simp] theorem kCallM_ap {Fn : FD} {lent : List (Option Nat)} {ds : List D} : kCallM Fn lent ds ρ = (Fn ds).toM lent ρ := by unfold kCallM; cases Fn ds <;> rfl
@[simp] theorem toM_ret {ps : Ro} {lent : List (Option Nat)} : (FO.ret d ps).toM lent ρ = .ok d (giveL lent ps ρ) := rfl
@[simp] theorem toM_exc {ps : Ro} {lent : List (Option Nat)} : (FO.exc e ps).toM lent ρ = .exc e (giveL lent ps ρ) := rfl
@[simp] theorem eCallM_ap {Fn : FD} {lent : List (Option Nat)} : eCallM Fn lent dr ρ = (dr ρ).bnd (kCallM Fn lent) := rfl
@[simp] theorem giveL_s {i : Nat} {ls : List (Option Nat)} {p : Option D} {ps : Ro} : giveL (some i :: ls) (p :: ps) ρ = giveL ls ps (ρ.set i p) := rfl
@[simp] theorem giveL_n {ls : List (Option Nat)} {p : Option D} {ps : Ro} : giveL (none :: ls) (p :: ps) ρ = giveL ls ps ρ := rfl
@[simp] theorem giveL_0 {ps : Ro} : giveL [] ps ρ = ρ := by unfold giveL; rfl
@[simp] theorem aLend_ap {i : Nat} : aLend i dr ρ = aCons (eMv i) dr ρ := rfl
def mvV (i : Nat) : Option (Option D) → Ro → EO
  | some (some d), ρ => .ok d (ρ.set i none)
  | _, _ => .stk
@[simp] theorem eMv_ap {i : Nat} : eMv i ρ = mvV i ρ[i]? ρ := by
  unfold eMv mvV
  generalize ρ[i]? = o
  rcases o with _ | _ | o <;> rfl
@[simp] theorem mvV_some {i : Nat} : mvV i (some (some d)) ρ = .ok d (ρ.set i none) := rfl
def FO.to0 (ρ : Ro) : FO → EO
  | .ret d _ => .ok d ρ
  | _ => .stk
@[simp] theorem kCall0_ap {Fn : FD} : kCall0 Fn ρ = (Fn []).to0 ρ := by unfold kCall0; cases Fn [] <;> rfl
@[simp] theorem to0_ret {ps : Ro} : (FO.ret d ps).to0 ρ = .ok d ρ := rfl
/-! bodies -/
def SO.noN : SO → SO
  | .nx _ => .stk
  | o => o
@[simp] theorem noNx_ap {den : Ro → SO} : noNx den ρ = (den ρ).noN := by unfold noNx; cases den ρ <;> rfl
@[simp] theorem noN_ret : (SO.ret d ρ).noN = .ret d ρ := rfl
@[simp] theorem noN_exc : (SO.exc e ρ).noN = .exc e ρ := rfl
def SO.out (pm : List Bool) : SO → FO
  | .nx ρ => .ret .non (maskR pm ρ)
  | .ret d ρ => .ret d (maskR pm ρ)
  | .exc x ρ => .exc x (maskR pm ρ)
  | _ => .stk
@[simp] theorem bodyF_ap {pm : List Bool} {n : Nat} {den : Ro → SO} {ds : List D} : bodyF pm n den ds = (den (ds.map some ++ List.replicate n none)).out pm := by unfold bodyF; cases den (ds.map some ++ List.replicate n none) <;> rfl
@[simp] theorem out_nx {pm : List Bool} : (SO.nx ρ).out pm = .ret .non (maskR pm ρ) := rfl
@[simp] theorem out_ret {pm : List Bool} : (SO.ret d ρ).out pm = .ret d (maskR pm ρ) := rfl
@[simp] theorem out_exc {pm : List Bool} : (SO.exc e ρ).out pm = .exc e (maskR pm ρ) := rfl
@[simp] theorem maskR_t {p : Option D} {bs : List Bool} : maskR (true :: bs) (p :: ρ) = p :: maskR bs ρ := rfl
@[simp] theorem maskR_f {p : Option D} {bs : List Bool} : maskR (false :: bs) (p :: ρ) = none :: maskR bs ρ := rfl
@[simp] theorem maskR_0 : maskR [] ρ = [] := by cases ρ <;> rfl
@[simp] theorem lenF_ap {n : Nat} {Fn : FD} {ds : List D} : lenF n Fn ds = if ds.length = n then Fn ds else .stk := rfl
/-! places -/
def PlO.bndP : PlO → (D → (D → D) → SO) → SO
  | .ok d p, k => k d p
  | .stk, _ => .stk
def PlO.bndQ : PlO → (D → (D → D) → EO) → EO
  | .ok d p, k => k d p
  | .stk, _ => .stk
def PlO.bndR : PlO → (D → (D → D) → PlO) → PlO
  | .ok d p, k => k d p
  | .stk, _ => .stk
@[simp] theorem bndP_ok {p : D → D} {k : D → (D → D) → SO} : (PlO.ok d p).bndP k = k d p := rfl
@[simp] theorem bndQ_ok {p : D → D} {k : D → (D → D) → EO} : (PlO.ok d p).bndQ k = k d p := rfl
@[simp] theorem bndR_ok {p : D → D} {k : D → (D → D) → PlO} : (PlO.ok d p).bndR k = k d p := rfl
def plV : Option (Option D) → PlO
  | some (some d) => .ok d id
  | _ => .stk
@[simp] theorem pNm_ap {i : Nat} : pNm i ρ = plV ρ[i]? := by
  unfold pNm plV
  generalize ρ[i]? = o
  rcases o with _ | _ | o <;> rfl
@[simp] theorem plV_some : plV (some (some d)) = .ok d id := rfl
def EO.bndX : EO → (D → SO) → SO
  | .ok d _, k => k d
  | _, _ => .stk
def EO.bndY : EO → (D → PlO) → PlO
  | .ok d _, k => k d
  | _, _ => .stk
@[simp] theorem bndX_ok {k : D → SO} : (EO.ok d ρ).bndX k = k d := rfl
@[simp] theorem bndY_ok {k : D → PlO} : (EO.ok d ρ).bndY k = k d := rfl
def stH (i : Nat) (plug : D → D) (ds : List D) (d : D) (ρ : Ro) : Option Nat → SO
  | some j => .nx (ρ.set i (some (plug (.lst (ds.set j d)))))
  | none => .stk
def stG (i : Nat) (plug : D → D) (d : D) (ρ : Ro) : D → D → SO
  | .lst ds, .int k => stH i plug ds d ρ (ixN ds.length k)
  | _, _ => .stk
@[simp] theorem stG_ap {i : Nat} {plug : D → D} {ds : List D} {k : Int} : stG i plug d ρ (.lst ds) (.int k) = stH i plug ds d ρ (ixN ds.length k) := rfl
@[simp] theorem stH_ap {i j : Nat} {plug : D → D} {ds : List D} : stH i plug ds d ρ (some j) = .nx (ρ.set i (some (plug (.lst (ds.set j d))))) := rfl
def kSt (i : Nat) (dc : Ro → EO) (d : D) (ρ : Ro) (d0 : D) (plug : D → D) : SO := (dc ρ).bndX (stG i plug d ρ d0)
@[simp] theorem kSt_ap {i : Nat} {plug : D → D} {d0 : D} : kSt i dc d ρ d0 plug = (dc ρ).bndX (stG i plug d ρ d0) := rfl
@[simp] theorem kSetIx_ap {i : Nat} {dp : Ro → PlO} : kSetIx i dp dc d ρ = (dp ρ).bndP (kSt i dc d ρ) := by
  unfold kSetIx
  cases dp ρ with
  | stk => rfl
  | ok d0 plug =>
    cases d0 with
    | lst ds =>
      simp only [bndP_ok, kSt_ap]
      cases dc ρ with
      | ok kk _ =>
        cases kk with
        | int k => simp only [bndX_ok, stG_ap]; unfold stH; cases ixN ds.length k <;> rfl
        | _ => rfl
      | _ => rfl
    | _ =>
      simp only [bndP_ok, kSt_ap]
      cases dc ρ with
      | ok kk _ => rfl
      | _ => rfl
def plH (plug : D → D) (ds : List D) : Option Nat → PlO
  | some j => (match ds[j]? with
    | some d => .ok d fun d' => plug (.lst (ds.set j d'))
    | none => .stk)
  | none => .stk
def plG (plug : D → D) : D → D → PlO
  | .lst ds, .int k => plH plug ds (ixN ds.length k)
  | _, _ => .stk
@[simp] theorem plG_ap {plug : D → D} {ds : List D} {k : Int} : plG plug (.lst ds) (.int k) = plH plug ds (ixN ds.length k) := rfl
theorem plH_ap {j : Nat} {plug : D → D} {ds : List D} (h : ds[j]? = some d) : plH plug ds (some j) = .ok d fun d' => plug (.lst (ds.set j d')) := by simp only [plH, h]
def kPl (dc : Ro → EO) (ρ : Ro) (d0 : D) (plug : D → D) : PlO := (dc ρ).bndY (plG plug d0)
@[simp] theorem kPl_ap {plug : D → D} {d0 : D} : kPl dc ρ d0 plug = (dc ρ).bndY (plG plug d0) := rfl
@[simp] theorem pIx_ap {dp : Ro → PlO} : pIx dp dc ρ = (dp ρ).bndR (kPl dc ρ) := by
  unfold pIx
  cases dp ρ with
  | stk => rfl
  | ok d0 plug =>
    cases d0 with
    | lst ds =>
      simp only [bndR_ok, kPl_ap]
      cases dc ρ with
      | ok kk _ =>
        cases kk with
        | int k =>
          simp only [bndY_ok, plG_ap]
          unfold plH
          cases ixN ds.length k with
          | none => rfl
          | some j => cases q : ds[j]? <;> simp only [q]
        | _ => rfl
      | _ => rfl
    | _ =>
      simp only [bndR_ok, kPl_ap]
      cases dc ρ with
      | ok kk _ => rfl
      | _ => rfl
def mtG (i : Nat) (plug : D → D) (ρ : Ro) : Option (D × D) → EO
  | some (d', z) => .ok z (ρ.set i (some (plug d')))
  | none => .stk
@[simp] theorem mtG_ap {i : Nat} {plug : D → D} : mtG i plug ρ (some (x, y)) = .ok y (ρ.set i (some (plug x))) := rfl
def kMt1 (i : Nat) (f : D → List D → Option (D × D)) (ρ : Ro) (d : D) (plug : D → D) (xs : List D) (_ : Ro) : EO := mtG i plug ρ (f d xs)
@[simp] theorem kMt1_ap {i : Nat} {f : D → List D → Option (D × D)} {plug : D → D} {xs : List D} : kMt1 i f ρ d plug xs ρ1 = mtG i plug ρ (f d xs) := rfl
def kMt (i : Nat) (f : D → List D → Option (D × D)) (dr : Ro → AO) (ρ : Ro) (d : D) (plug : D → D) : EO := (dr ρ).bnd (kMt1 i f ρ d plug)
@[simp] theorem kMt_ap {i : Nat} {f : D → List D → Option (D × D)} {plug : D → D} : kMt i f dr ρ d plug = (dr ρ).bnd (kMt1 i f ρ d plug) := rfl
@[simp] theorem eMethP_ap {i : Nat} {dp : Ro → PlO} {f : D → List D → Option (D × D)} : eMethP i dp f dr ρ = (dp ρ).bndQ (kMt i f dr ρ) := by
  unfold eMethP
  cases dp ρ with
  | stk => rfl
  | ok d0 plug =>
    simp only [bndQ_ok, kMt_ap]
    cases dr ρ with
    | ok xs _ => simp only [kMt_ap, abnd_ok, kMt1_ap]; unfold mtG; cases f d0 xs <;> rfl
    | exc e _ => rfl
    | stk => rfl
@[simp] theorem uApp_ap {ds : List D} : uApp (.lst ds) [x] = if ds.length < sizeLine then some (.lst (ds ++ [x]), .non) else none := rfl
/-! comprehensions -/
def EO.lcO (ρ : Ro) (vs : List Nat) : EO → EO
  | .ok d ρ1 => .ok d (restR ρ ρ1 vs)
  | _ => .stk
@[simp] theorem lcO_ok {vs : List Nat} : (EO.ok d ρ1).lcO ρ vs = .ok d (restR ρ ρ1 vs) := rfl
@[simp] theorem eLc_ap {di tt te : Ro → EO} {t : Tgt} {vs : List Nat} : eLc di t tt te vs ρ = (di ρ).bnd (kLc t.s tt te vs ρ) := rfl
@[simp] theorem kLc_ap {bd : D → Ro → Option Ro} {tt te : Ro → EO} {vs : List Nat} {ds : List D} : kLc bd tt te vs ρ1 (.lst ds) ρ = (lcL bd tt te vs ds [] (wipeR ρ vs)).lcO ρ vs := by
  show (match lcL bd tt te vs ds [] (wipeR ρ vs) with
    | .ok d ρ1 => EO.ok d (restR ρ ρ1 vs)
    | _ => .stk) = _
  generalize lcL bd tt te vs ds [] (wipeR ρ vs) = o
  cases o <;> rfl
@[simp] theorem wipeR_0 : wipeR ρ [] = ρ := rfl
@[simp] theorem wipeR_c {v : Nat} {vs : List Nat} : wipeR ρ (v :: vs) = (wipeR ρ vs).set v none := rfl
@[simp] theorem restR_0 : restR ρ ρ1 [] = ρ1 := rfl
@[simp] theorem restR_c {v : Nat} {vs : List Nat} : restR ρ ρ1 (v :: vs) = (restR ρ ρ1 vs).set v (ρ[v]?.getD none) := rfl
/-! slices -/
@[simp] theorem oNone_ap : oNone ρ = .ok none ρ := rfl
def EO.toO : EO → OO
  | .ok (.int i) ρ => .ok (some i) ρ
  | .exc x ρ => .exc x ρ
  | _ => .stk
@[simp] theorem oSome_ap : oSome da ρ = (da ρ).toO := by
  unfold oSome EO.toO
  cases da ρ with
  | ok d _ => cases d <;> rfl
  | _ => rfl
@[simp] theorem toO_ok {i : Int} : (EO.ok (.int i) ρ).toO = .ok (some i) ρ := rfl
@[simp] theorem obnd_ok {k : Option Int → Ro → EO} {i : Option Int} : (OO.ok i ρ).bnd k = k i ρ := rfl
def kSl3 (f : D → Option Int → Option Int → Option D) (x : D) (l h : Option Int) (ρ : Ro) : EO := EO.of (f x l h) ρ
@[simp] theorem kSl3_ap {f : D → Option Int → Option Int → Option D} {l h : Option Int} : kSl3 f x l h ρ = EO.of (f x l h) ρ := rfl
def kSl2 (f : D → Option Int → Option Int → Option D) (dh : Ro → OO) (x : D) (l : Option Int) (ρ : Ro) : EO := (dh ρ).bnd (kSl3 f x l)
@[simp] theorem kSl2_ap {f : D → Option Int → Option Int → Option D} {l : Option Int} {dh : Ro → OO} : kSl2 f dh x l ρ = (dh ρ).bnd (kSl3 f x l) := rfl
def kSl1 (f : D → Option Int → Option Int → Option D) (dl dh : Ro → OO) (x : D) (ρ : Ro) : EO := (dl ρ).bnd (kSl2 f dh x)
@[simp] theorem kSl1_ap {f : D → Option Int → Option Int → Option D} {dl dh : Ro → OO} : kSl1 f dl dh x ρ = (dl ρ).bnd (kSl2 f dh x) := rfl
@[simp] theorem eSl_ap {f : D → Option Int → Option Int → Option D} {dl dh : Ro → OO} : eSl f da dl dh ρ = (da ρ).bnd (kSl1 f dl dh) := rfl
/-! chains -/
def chG (g : D → D → Option D) (dc : Ro → EO) (y : D) (ρ : Ro) : Option D → EO
  | some (.bl true) => (dc ρ).bnd (kOf2 g y)
  | some (.bl false) => .ok (.bl false) ρ
  | _ => .stk
def kCh2 (f g : D → D → Option D) (dc : Ro → EO) (x y : D) (ρ : Ro) : EO := chG g dc y ρ (f x y)
@[simp] theorem kCh2_ap {g : D → D → Option D} : kCh2 f g dc x y ρ = chG g dc y ρ (f x y) := rfl
def kCh1 (f g : D → D → Option D) (db dc : Ro → EO) (x : D) (ρ : Ro) : EO := (db ρ).bnd (kCh2 f g dc x)
@[simp] theorem kCh1_ap {g : D → D → Option D} : kCh1 f g db dc x ρ = (db ρ).bnd (kCh2 f g dc x) := rfl
@[simp] theorem eChain_ap {g : D → D → Option D} : eChain f g da db dc ρ = (da ρ).bnd (kCh1 f g db dc) := by
  unfold eChain
  congr
@[simp] theorem chG_t {g : D → D → Option D} : chG g dc y ρ (some (.bl true)) = (dc ρ).bnd (kOf2 g y) := rfl
@[simp] theorem chG_f {g : D → D → Option D} : chG g dc y ρ (some (.bl false)) = .ok (.bl false) ρ := rfl
end
/-! ### the functions -/
section
variable {i j : Int} {xs ys : List D} {a b : D}
@[simp] theorem fI2_ap {g : Int → Int → Option D} : fI2 g (.int i) (.int j) = g i j := rfl
@[simp] theorem fAdd_int : fAdd (.int i) (.int j) = some (.int (i + j)) := rfl
@[simp] theorem fAdd_str {i j : Str} (h : i.length + j.length ≤ sizeLine) : fAdd (.str i) (.str j) = some (.str (i ++ j)) := by simp [fAdd, orD, fI2, fAddS, h]
@[simp] theorem fAdd_lst (h : xs.length + ys.length ≤ sizeLine) : fAdd (.lst xs) (.lst ys) = some (.lst (xs ++ ys)) := by simp [fAdd, orD, fI2, fAddS, fAddL, h]
theorem fAdd_tup (h : xs.length + ys.length ≤ sizeLine) (h2 : xs ≠ []) : fAdd (.tup xs) (.tup ys) = some (.tup (xs ++ ys)) := by simp [fAdd, orD, fI2, fAddS, fAddL, fAddT, h, h2]
@[simp] theorem mulOk_r (h1 : -(2 ^ 64) < j) (h2 : j < 2 ^ 64) : mulOk i j = true := by
  unfold mulOk
  rw [decide_eq_true h1, decide_eq_true h2, Bool.and_self, Bool.or_true]
theorem mulOk_l (h1 : -(2 ^ 64) < i) (h2 : i < 2 ^ 64) : mulOk i j = true := by
  unfold mulOk
  rw [decide_eq_true h1, decide_eq_true h2, Bool.and_self, Bool.true_or]
@[simp] theorem fMul_int (h : mulOk i j = true) : fMul (.int i) (.int j) = some (.int (i * j)) := by simp [fMul, orD, fI2, fMulI, h]
@[simp] theorem fMul_rep (h1 : -(2 ^ 63) ≤ j) (h2 : j < 2 ^ 63) (h3 : xs.length * j.toNat ≤ sizeLine) : fMul (.lst xs) (.int j) = some (.lst (List.replicate j.toNat xs).flatten) := by
  show fRep (.lst xs) (.int j) = _
  exact if_pos ⟨h1, h2, h3⟩
@[simp] theorem fSubI_ap : fSubI i j = some (.int (i - j)) := rfl
@[simp] theorem fDivI_ap (h : 0 < j) (h2 : j < 2 ^ 64) : fDivI i j = some (.int (i / j)) := if_pos ⟨h, h2⟩
@[simp] theorem fModI_ap (h : 0 < j) : fModI i j = some (.int (i % j)) := if_pos h
@[simp] theorem fAndI_ap : fAndI i j = some (.int (Builtin.bitAnd i j)) := rfl
@[simp] theorem fOrI_ap : fOrI i j = some (.int (Builtin.bitOr i j)) := rfl
@[simp] theorem fShrI_ap (h : 0 ≤ j) : fShrI i j = some (.int (i / 2 ^ j.toNat)) := if_pos h
@[simp] theorem fNegI_ap : fNegI (.int i) = some (.int (-i)) := rfl
@[simp] theorem fCmpI_ap {p : Int → Int → Bool} : fCmpI p i j = some (.bl (p i j)) := rfl
@[simp] theorem fEq_int {neg : Bool} : fEq neg (.int i) (.int j) = some (.bl (neg ^^ decide (i = j))) := by
  show some (D.bl (neg ^^ decide (V.int i = V.int j))) = _
  rw [show decide (V.int i = V.int j) = decide (i = j) from by rw [Bool.eq_iff_iff]; simp]
@[simp] theorem fEq_str {neg : Bool} {i j : Str} : fEq neg (.str i) (.str j) = some (.bl (neg ^^ decide (i = j))) := by
  show some (D.bl (neg ^^ decide (V.str i = V.str j))) = _
  rw [show decide (V.str i = V.str j) = decide (i = j) from by rw [Bool.eq_iff_iff]; simp]
@[simp] theorem fEq_bl {neg : Bool} {i j : Bool} : fEq neg (.bl i) (.bl j) = some (.bl (neg ^^ decide (i = j))) := by
  show some (D.bl (neg ^^ decide (V.bl i = V.bl j))) = _
  rw [show decide (V.bl i = V.bl j) = decide (i = j) from by rw [Bool.eq_iff_iff]; simp]
@[simp] theorem fIsN_ap {neg : Bool} : fIsN neg a .non = some (.bl (neg ^^ D.isN a)) := rfl
@[simp] theorem isN_non : D.isN .non = true := rfl
@[simp] theorem isN_int : D.isN (.int i) = false := rfl
@[simp] theorem isN_lst : D.isN (.lst xs) = false := rfl
@[simp] theorem isN_tup : D.isN (.tup xs) = false := rfl
@[simp] theorem isN_str {i : Str} : D.isN (.str i) = false := rfl
@[simp] theorem isN_bl {i : Bool} : D.isN (.bl i) = false := rfl
theorem ixN_ok {n : Nat} (h0 : 0 ≤ i) (h1 : i < n) : ixN n i = some i.toNat := by
  unfold ixN
  rw [if_pos h0, if_pos h1]
theorem atI_ok {α : Type} {xs : List α} (h0 : 0 ≤ i) (h1 : i < xs.length) : atI xs i = xs[i.toNat]? := by
  unfold atI
  rw [ixN_ok h0 h1]
  rfl
@[simp] theorem fIx_lst : fIx (.lst xs) (.int i) = atI xs i := rfl
@[simp] theorem fIx_tup : fIx (.tup xs) (.int i) = atI xs i := rfl
@[simp] theorem fIx_scr {ns : List Int} : fIx (.scr ns) (.int i) = (atI ns i).map .int := rfl
@[simp] theorem fIx_str {z : Str} (h : z.length ≤ sizeLine) : fIx (.str z) (.int i) = (atI z.cps.toList i).map fun c => .str ⟨#[c]⟩ := if_pos h
@[simp] theorem fLen_lst : fLen [.lst xs] = some (.int xs.length) := rfl
@[simp] theorem fLen_tup : fLen [.tup xs] = some (.int xs.length) := rfl
@[simp] theorem fLen_scr {ns : List Int} : fLen [.scr ns] = some (.int ns.length) := rfl
@[simp] theorem fLen_str {z : Str} (h : z.length ≤ sizeLine) : fLen [.str z] = some (.int z.length) := if_pos h
@[simp] theorem fInt_int : fInt [.int i] = some (.int i) := rfl
@[simp] theorem fInt_bl {b : Bool} : fInt [.bl b] = some (.int (if b then 1 else 0)) := rfl
@[simp] theorem fAbs_ap : fAbs [.int i] = some (.int (if i < 0 then -i else i)) := rfl
@[simp] theorem fMax2_ap : fMax2 [.int i, .int j] = some (.int (if j > i then j else i)) := rfl
@[simp] theorem fMin2_ap : fMin2 [.int i, .int j] = some (.int (if j < i then j else i)) := rfl
@[simp] theorem fLst_ap (h : xs.length ≤ sizeLine) : fLst xs = some (.lst xs) := if_pos h
@[simp] theorem fTup_ap (h : xs.length ≤ sizeLine) : fTup xs = some (.tup xs) := if_pos h
@[simp] theorem fList_lst : fList [.lst xs] = some (.lst xs) := rfl
@[simp] theorem fList_tup : fList [.tup xs] = some (.lst xs) := rfl
@[simp] theorem fList_scr {ns : List Int} : fList [.scr ns] = some (.lst (ns.map .int)) := rfl
@[simp] theorem fTuple_lst : fTuple [.lst xs] = some (.tup xs) := rfl
@[simp] theorem fTuple_tup : fTuple [.tup xs] = some (.tup xs) := rfl
@[simp] theorem fSl_lst {l h : Option Int} : fSl (.lst xs) l h = some (.lst (DL.cutD xs l h)) := rfl
@[simp] theorem fSl_scr {ns : List Int} {l h : Option Int} : fSl (.scr ns) l h = some (.lst (DL.cutD (ns.map .int) l h)) := rfl
@[simp] theorem fSl_str {z : Str} {l h : Option Int} (hz : z.length ≤ sizeLine) : fSl (.str z) l h = some (.str (cutS z l h)) := by
  show (match fSlS (.str z) l h with | some z => some z | none => fSlT (.str z) l h) = _
  rw [show fSlS (.str z) l h = some (.str (cutS z l h)) from if_pos hz]
@[simp] theorem fRevL_ap : fRevL (.lst xs) = some (.lst xs.reverse) := rfl
@[simp] theorem itL_lst : itL (.lst xs) = some (.lst xs) := rfl
@[simp] theorem itL_scr {ns : List Int} : itL (.scr ns) = some (.lst (ns.map .int)) := rfl
@[simp] theorem itT_tup : itT (.tup xs) = some (.lst xs) := rfl
@[simp] theorem itS_str {z : Str} : itS (.str z) = some (.lst (z.cps.toList.map fun c => .str ⟨#[c]⟩)) := rfl
@[simp] theorem itR1_ap (h : rOk i) : itR1 [.int i] = some (.lst (rangeD 0 i.toNat 1)) := if_pos h
@[simp] theorem itR2_ap (h : rOk i) (h2 : rOk j) : itR2 [.int i, .int j] = some (.lst (rangeD i (j - i).toNat 1)) := if_pos ⟨h, h2⟩
@[simp] theorem itZ_ap : itZ [.lst xs, .lst ys] = some (.lst (zipD xs ys)) := rfl
@[simp] theorem itE_ap : itE [.lst xs] = some (.lst (enumD 0 xs)) := rfl
theorem cutD_map {α β : Type} (f : α → β) (xs : List α) (l h : Option Int) : DL.cutD (xs.map f) l h = (DL.cutD xs l h).map f := by
  unfold DL.cutD
  rw [List.length_map, List.map_take, List.map_drop]
def boolO : Option Bool → Option D
  | some b => some (.bl b)
  | none => none
@[simp] theorem fIsi_non {T : String} : fIsi T .non = (kitB "NoneType" T).map .bl := rfl
@[simp] theorem fIsi_int {T : String} : fIsi T (.int i) = (kitB "int" T).map .bl := rfl
@[simp] theorem fIsi_bl {T : String} {b : Bool} : fIsi T (.bl b) = (kitB "bool" T).map .bl := rfl
@[simp] theorem fIsi_str {T : String} {z : Str} : fIsi T (.str z) = (kitB "str" T).map .bl := rfl
@[simp] theorem fIsi_lst {T : String} : fIsi T (.lst xs) = (kitB "list" T).map .bl := rfl
@[simp] theorem fIsi_tup {T : String} : fIsi T (.tup xs) = (kitB "tuple" T).map .bl := rfl
end
@[simp] theorem sizeLine_eq : sizeLine = 16777216 := by unfold sizeLine; decide
@[simp] theorem rOk_iff {i : Int} : rOk i ↔ -4611686018427387904 ≤ i ∧ i < 4611686018427387904 := by unfold rOk; omega
theorem rOk_of {i : Int} (h1 : -1000000000 ≤ i) (h2 : i ≤ 1000000000) : rOk i := by unfold rOk; omega
@[simp] theorem kit_NoneType_tuple : kitB "NoneType" "tuple" = some false := by decide +kernel
@[simp] theorem kit_NoneType_list : kitB "NoneType" "list" = some false := by decide +kernel
@[simp] theorem kit_NoneType_bool : kitB "NoneType" "bool" = some false := by decide +kernel
@[simp] theorem kit_NoneType_int : kitB "NoneType" "int" = some false := by decide +kernel
@[simp] theorem kit_NoneType_str : kitB "NoneType" "str" = some false := by decide +kernel
@[simp] theorem kit_NoneType_dict : kitB "NoneType" "dict" = some false := by decide +kernel
@[simp] theorem kit_bool_tuple : kitB "bool" "tuple" = some false := by decide +kernel
@[simp] theorem kit_bool_list : kitB "bool" "list" = some false := by decide +kernel
@[simp] theorem kit_bool_bool : kitB "bool" "bool" = some true := by decide +kernel
@[simp] theorem kit_bool_int : kitB "bool" "int" = some true := by decide +kernel
@[simp] theorem kit_bool_str : kitB "bool" "str" = some false := by decide +kernel
@[simp] theorem kit_bool_dict : kitB "bool" "dict" = some false := by decide +kernel
@[simp] theorem kit_int_tuple : kitB "int" "tuple" = some false := by decide +kernel
@[simp] theorem kit_int_list : kitB "int" "list" = some false := by decide +kernel
@[simp] theorem kit_int_bool : kitB "int" "bool" = some false := by decide +kernel
@[simp] theorem kit_int_int : kitB "int" "int" = some true := by decide +kernel
@[simp] theorem kit_int_str : kitB "int" "str" = some false := by decide +kernel
@[simp] theorem kit_int_dict : kitB "int" "dict" = some false := by decide +kernel
@[simp] theorem kit_str_tuple : kitB "str" "tuple" = some false := by decide +kernel
@[simp] theorem kit_str_list : kitB "str" "list" = some false := by decide +kernel
@[simp] theorem kit_str_bool : kitB "str" "bool" = some false := by decide +kernel
@[simp] theorem kit_str_int : kitB "str" "int" = some false := by decide +kernel
@[simp] theorem kit_str_str : kitB "str" "str" = some true := by decide +kernel
@[simp] theorem kit_str_dict : kitB "str" "dict" = some false := by decide +kernel
@[simp] theorem kit_list_tuple : kitB "list" "tuple" = some false := by decide +kernel
@[simp] theorem kit_list_list : kitB "list" "list" = some true := by decide +kernel
@[simp] theorem kit_list_bool : kitB "list" "bool" = some false := by decide +kernel
@[simp] theorem kit_list_int : kitB "list" "int" = some false := by decide +kernel
@[simp] theorem kit_list_str : kitB "list" "str" = some false := by decide +kernel
@[simp] theorem kit_list_dict : kitB "list" "dict" = some false := by decide +kernel
@[simp] theorem kit_tuple_tuple : kitB "tuple" "tuple" = some true := by decide +kernel
@[simp] theorem kit_tuple_list : kitB "tuple" "list" = some false := by decide +kernel
@[simp] theorem kit_tuple_bool : kitB "tuple" "bool" = some false := by decide +kernel
@[simp] theorem kit_tuple_int : kitB "tuple" "int" = some false := by decide +kernel
@[simp] theorem kit_tuple_str : kitB "tuple" "str" = some false := by decide +kernel
@[simp] theorem kit_tuple_dict : kitB "tuple" "dict" = some false := by decide +kernel
@[simp] theorem kit_dict_tuple : kitB "dict" "tuple" = some false := by decide +kernel
@[simp] theorem kit_dict_list : kitB "dict" "list" = some false := by decide +kernel
@[simp] theorem kit_dict_bool : kitB "dict" "bool" = some false := by decide +kernel
@[simp] theorem kit_dict_int : kitB "dict" "int" = some false := by decide +kernel
@[simp] theorem kit_dict_str : kitB "dict" "str" = some false := by decide +kernel
@[simp] theorem kit_dict_dict : kitB "dict" "dict" = some true := by decide +kernel
end DL
namespace LW
open PySem Spec PyProof.Rows L2 DL
def sg_digits_of : Sig := ⟨[.fz, .fz], [false, false], .fz⟩
def b1_digits_of : Ro → SO :=
  (sSeq (sE (eMethP 2 (pNm 2) uApp (aCons (eBin (fI2 fModI) (eV 0) (eC (.int 2))) aNil)) kDrop)
  (sE (eBin (fI2 fDivI) (eV 0) (eC (.int 2))) (kSet 0)))
def den_digits_of : Ro → SO :=
  (sSeq (sE (eArg fLst aNil) (kSet 2))
  (sSeq (sE (aBnd (aCons (eV 1) aNil) itR1) (kFor (Tgt.s (.nm 3)) b1_digits_of))
  (sE (eV 2) kRet)))
def fn_digits_of : FD := bodyF sg_digits_of.pm 2 (noNx (den_digits_of))
def Fn_digits_of : FD := lenF 2 (fn_digits_of)
def sg_number_of : Sig := ⟨[.fz], [false], .fz⟩
def b1_number_of : Ro → SO :=
  (sE (eBin fAdd (eBin fMul (eC (.int 2)) (eV 1)) (eV 2)) (kSet 1))
def den_number_of : Ro → SO :=
  (sSeq (sE (eC (.int 0)) (kSet 1))
  (sSeq (sE (eBnd (eUn fRevL (eV 0)) itL) (kFor (Tgt.s (.nm 2)) b1_number_of))
  (sE (eV 1) kRet)))
def fn_number_of : FD := bodyF sg_number_of.pm 2 (noNx (den_number_of))
def Fn_number_of : FD := lenF 1 (fn_number_of)
def sg_plus : Sig := ⟨[.fz, .fz], [false, false], .fz⟩
def den_plus (F_digits_of : FD) (F_number_of : FD) : Ro → SO :=
  (sZipRet 2 F_number_of (aCons (eCall F_digits_of (aCons (eV 0) (aCons (eC (.int 5)) aNil))) (aCons (eCall F_digits_of (aCons (eV 1) (aCons (eC (.int 5)) aNil))) aNil)) (.tp [3, 4]) (eBin (fI2 fModI) (eBin fAdd (eV 3) (eV 4)) (eC (.int 2))) [3, 4])
def fn_plus (F_digits_of : FD) (F_number_of : FD) : FD := bodyF sg_plus.pm 3 (noNx (den_plus F_digits_of F_number_of))
def Fn_plus : FD := lenF 2 (fn_plus Fn_digits_of Fn_number_of)
def v_POWERS : D := (.tup [(.int 1), (.int 2), (.int 4), (.int 8), (.int 16), (.int 5), (.int 10), (.int 20), (.int 13), (.int 26), (.int 17), (.int 7), (.int 14), (.int 28), (.int 29), (.int 31), (.int 27), (.int 19), (.int 3), (.int 6), (.int 12), (.int 24), (.int 21), (.int 15), (.int 30), (.int 25), (.int 23), (.int 11), (.int 22), (.int 9), (.int 18)])
def v_EXPONENTS : D := (.tup [(.int 0), (.int 0), (.int 1), (.int 18), (.int 2), (.int 5), (.int 19), (.int 11), (.int 3), (.int 29), (.int 6), (.int 27), (.int 20), (.int 8), (.int 12), (.int 23), (.int 4), (.int 10), (.int 30), (.int 17), (.int 7), (.int 22), (.int 28), (.int 26), (.int 21), (.int 25), (.int 9), (.int 16), (.int 13), (.int 14), (.int 24), (.int 15)])
def v_SIZE : D := (.int 32)
def sg_times : Sig := ⟨[.fz, .fz], [false, false], .fz⟩
def c1_times : Ro → SO :=
  (sIf (eOr (eBin (fEq false) (eV 0) (eC (.int 0))) (eBin (fEq false) (eV 1) (eC (.int 0)))) (sE (eC (.int 0)) kRet) sNil)
def den_times : Ro → SO :=
  (sSeq c1_times
  (sE (eBin fIx (eC v_POWERS) (eBin (fI2 fModI) (eBin fAdd (eBin fIx (eC v_EXPONENTS) (eV 0)) (eBin fIx (eC v_EXPONENTS) (eV 1))) (eBin (fI2 fSubI) (eC v_SIZE) (eC (.int 1))))) kRet))
def fn_times : FD := bodyF sg_times.pm 0 (noNx (den_times))
def Fn_times : FD := lenF 2 (fn_times)
def sg__law_pool : Sig := ⟨[.fz], [false], (.ml .fz)⟩
def b1__law_pool : Ro → SO :=
  (sE (eBin (fI2 fModI) (eArg fInt (aCons (eBin fAdd (eBin fMul (eV 1) (eC (.int 31))) (eV 2)) aNil)) (eC (.int 1000003))) (kSet 1))
def den__law_pool : Ro → SO :=
  (sSeq (sE (eC (.int 7)) (kSet 1))
  (sSeq (sE (eBnd (eSl fSl (eV 0) oNone (oSome (eC (.int 63)))) itL) (kFor (Tgt.s (.nm 2)) b1__law_pool))
  (sE (eArg fLst (aCons (eArg fList (aCons (eV 0) aNil)) (aCons (eC (.int 0)) (aCons (eC (.int 0)) (aCons (eC (.int 0)) (aCons (eV 1) aNil)))))) kRet)))
def fn__law_pool : FD := bodyF sg__law_pool.pm 2 (noNx (den__law_pool))
def Fn__law_pool : FD := lenF 1 (fn__law_pool)
def sg__law_spread : Sig := ⟨[.fz], [false], .fz⟩
def b1__law_spread : Ro → SO :=
  (sSeq (sE (eBin (fI2 fModI) (eArg fInt (aCons (eBin fAdd (eBin fAdd (eBin fMul (eV 1) (eC (.int 48271))) (eC (.int 12345))) (eV 3)) aNil)) (eC (.int 2147483647))) (kSet 1))
  (sE (eBin fAdd (eBin fMul (eV 2) (eC (.int 2147483647))) (eV 1)) (kSet 2)))
def den__law_spread : Ro → SO :=
  (sSeq (sE (eBin (fI2 fModI) (eArg fInt (aCons (eV 0) aNil)) (eC (.int 2147483647))) (kSet 1))
  (sSeq (sE (eC (.int 1)) (kSet 2))
  (sSeq (sE (aBnd (aCons (eC (.int 4)) aNil) itR1) (kFor (Tgt.s (.nm 3)) b1__law_spread))
  (sE (eV 2) kRet))))
def fn__law_spread : FD := bodyF sg__law_spread.pm 3 (noNx (den__law_spread))
def Fn__law_spread : FD := lenF 1 (fn__law_spread)
def sg__law_draw : Sig := ⟨[(.ml .fz), .fz], [true, false], .fz⟩
def c1__law_draw (F__law_spread : FD) : Ro → SO :=
  (sIf (eBin (fI2 (fCmpI fun i j => decide (i < j))) (eV 2) (eC (.int 1000000000000000000))) (sE (eCall F__law_spread (aCons (eV 2) aNil)) (kSetIx 0 (pNm 0) (eC (.int 2)))) sNil)
def c2__law_draw (F__law_spread : FD) : Ro → SO :=
  (sIf (eFlat .fz (eAnd (eBin (fI2 (fCmpI fun i j => decide (i ≤ j))) (eBin fIx (eV 0) (eC (.int 2))) (eC (.int 0))) (eBin (fI2 (fCmpI fun i j => decide (i < j))) (eBin fIx (eV 0) (eC (.int 1))) (eArg fLen (aCons (eBin fIx (eV 0) (eC (.int 0))) aNil))))) (sSeq (sE (eFlat .fz (eBin fIx (eBin fIx (eV 0) (eC (.int 0))) (eBin fIx (eV 0) (eC (.int 1))))) (kSet 2))
  (sSeq (sE (eFlat .fz (eBin fAdd (eBin fIx (eV 0) (eC (.int 1))) (eC (.int 1)))) (kSetIx 0 (pNm 0) (eC (.int 1))))
  (sSeq (sE (eV 2) (kSetIx 0 (pNm 0) (eC (.int 2))))
  (c1__law_draw F__law_spread)))) sNil)
def c3__law_draw : Ro → SO :=
  (sIf (eFlat .fz (eBin (fI2 (fCmpI fun i j => decide (i ≤ j))) (eBin fIx (eV 0) (eC (.int 2))) (eC (.int 0)))) (sSeq (sE (eFlat .fz (eBin (fI2 fModI) (eArg fInt (aCons (eBin fAdd (eBin fAdd (eBin fMul (eBin fIx (eV 0) (eC (.int 4))) (eC (.int 48271))) (eBin fMul (eBin fIx (eV 0) (eC (.int 3))) (eC (.int 69621)))) (eC (.int 1))) aNil)) (eC (.int 2147483647)))) (kSet 3))
  (sSeq (sE (eFlat .fz (eBin (fI2 fModI) (eArg fInt (aCons (eBin fAdd (eBin fMul (eV 3) (eC (.int 16807))) (eBin fIx (eV 0) (eC (.int 3)))) aNil)) (eC (.int 2147483629)))) (kSet 3))
  (sE (eBin (fI2 fModI) (eBin (fI2 fDivI) (eV 3) (eC (.int 5))) (eV 1)) kRet))) sNil)
def den__law_draw (F__law_spread : FD) : Ro → SO :=
  (sSeq (c2__law_draw F__law_spread)
  (sSeq (sE (eFlat .fz (eBin fAdd (eBin fIx (eV 0) (eC (.int 3))) (eC (.int 1)))) (kSetIx 0 (pNm 0) (eC (.int 3))))
  (sSeq c3__law_draw
  (sSeq (sE (eFlat .fz (eBin (fI2 fModI) (eArg fInt (aCons (eBin fIx (eV 0) (eC (.int 2))) aNil)) (eV 1))) (kSet 4))
  (sSeq (sE (eFlat .fz (eBin (fI2 fDivI) (eBin fIx (eV 0) (eC (.int 2))) (eV 1))) (kSetIx 0 (pNm 0) (eC (.int 2))))
  (sE (eV 4) kRet))))))
def fn__law_draw (F__law_spread : FD) : FD := bodyF sg__law_draw.pm 3 (noNx (den__law_draw F__law_spread))
def Fn__law_draw : FD := lenF 2 (fn__law_draw Fn__law_spread)
def sg__law_same : Sig := ⟨[.fz, .fz], [false, false], .fz⟩
def c1__law_same : Ro → SO :=
  (sIf (eOr (eBin (fEq true) (eUn (fIsi "tuple") (eV 1)) (eUn (fIsi "tuple") (eV 0))) (eBin (fEq true) (eUn (fIsi "list") (eV 1)) (eUn (fIsi "list") (eV 0)))) (sE (eC (.bl false)) kRet) sNil)
def c2__law_same : Ro → SO :=
  (sIf (eBin (fEq true) (eArg fLen (aCons (eV 0) aNil)) (eArg fLen (aCons (eV 1) aNil))) (sE (eC (.bl false)) kRet) sNil)
def c3__law_same (F__law_same : FD) : Ro → SO :=
  (sIf (eNot (eCall F__law_same (aCons (eBin fIx (eV 0) (eV 2)) (aCons (eBin fIx (eV 1) (eV 2)) aNil)))) (sE (eC (.bl false)) kRet) sNil)
def b1__law_same (F__law_same : FD) : Ro → SO :=
  (c3__law_same F__law_same)
def c4__law_same (F__law_same : FD) : Ro → SO :=
  (sIf (eOr (eUn (fIsi "tuple") (eV 1)) (eUn (fIsi "list") (eV 1))) (sSeq c1__law_same
  (sSeq c2__law_same
  (sSeq (sE (aBnd (aCons (eArg fLen (aCons (eV 1) aNil)) aNil) itR1) (kFor (Tgt.s (.nm 2)) (b1__law_same F__law_same)))
  (sE (eC (.bl true)) kRet)))) sNil)
def c5__law_same : Ro → SO :=
  (sIf (eBin (fIsN false) (eV 1) (eC .non)) (sE (eBin (fIsN false) (eV 0) (eC .non)) kRet) sNil)
def c6__law_same : Ro → SO :=
  (sIf (eUn (fIsi "bool") (eV 1)) (sE (eAnd (eUn (fIsi "bool") (eV 0)) (eBin (fEq false) (eV 0) (eV 1))) kRet) sNil)
def c7__law_same : Ro → SO :=
  (sIf (eUn (fIsi "int") (eV 1)) (sE (eAnd (eUn (fIsi "int") (eV 0)) (eAnd (eNot (eUn (fIsi "bool") (eV 0))) (eBin (fEq false) (eV 0) (eV 1)))) kRet) sNil)
def den__law_same (F__law_same : FD) : Ro → SO :=
  (sSeq (c4__law_same F__law_same)
  (sSeq c5__law_same
  (sSeq c6__law_same
  (sSeq c7__law_same
  (sE (eAnd (eUn (fIsi "str") (eV 0)) (eBin (fEq false) (eV 0) (eV 1))) kRet)))))
def fn__law_same (F__law_same : FD) : FD := bodyF sg__law_same.pm 1 (noNx (den__law_same F__law_same))
def Fn__law_same : Nat → FD
  | 0 => fun _ => .stk
  | k + 1 => lenF 2 (fn__law_same (Fn__law_same k))
def sg__law_xor : Sig := ⟨[.fz, .fz], [false, false], .fz⟩
def den__law_xor : Ro → SO :=
  (sE (eBin (fI2 fSubI) (eBin (fI2 fOrI) (eV 0) (eV 1)) (eBin (fI2 fAndI) (eV 0) (eV 1))) kRet)
def fn__law_xor : FD := bodyF sg__law_xor.pm 0 (noNx (den__law_xor))
def Fn__law_xor : FD := lenF 2 (fn__law_xor)
def sg__law_mul : Sig := ⟨[.fz, .fz], [false, false], .fz⟩
def c1__law_mul (F__law_xor : FD) : Ro → SO :=
  (sIf (eBin (fEq false) (eBin (fI2 fAndI) (eBin (fI2 fShrI) (eV 1) (eV 3)) (eC (.int 1))) (eC (.int 1))) (sE (eCall F__law_xor (aCons (eV 2) (aCons (eBin (fI2 fShlI) (eV 0) (eV 3)) aNil))) (kSet 2)) sNil)
def b1__law_mul (F__law_xor : FD) : Ro → SO :=
  (c1__law_mul F__law_xor)
def c2__law_mul (F__law_xor : FD) : Ro → SO :=
  (sIf (eBin (fEq false) (eBin (fI2 fAndI) (eBin (fI2 fShrI) (eV 2) (eV 3)) (eC (.int 1))) (eC (.int 1))) (sE (eCall F__law_xor (aCons (eV 2) (aCons (eBin (fI2 fShlI) (eC (.int 37)) (eBin (fI2 fSubI) (eV 3) (eC (.int 5)))) aNil))) (kSet 2)) sNil)
def b2__law_mul (F__law_xor : FD) : Ro → SO :=
  (c2__law_mul F__law_xor)
def den__law_mul (F__law_xor : FD) : Ro → SO :=
  (sSeq (sE (eC (.int 0)) (kSet 2))
  (sSeq (sE (aBnd (aCons (eC (.int 5)) aNil) itR1) (kFor (Tgt.s (.nm 3)) (b1__law_mul F__law_xor)))
  (sSeq (sE (aBnd (aCons (eC (.int 8)) (aCons (eC (.int 4)) (aCons (eUn fNegI (eC (.int 1))) aNil))) (itR3 (-1))) (kFor (Tgt.s (.nm 3)) (b2__law_mul F__law_xor)))
  (sE (eV 2) kRet))))
def fn__law_mul (F__law_xor : FD) : FD := bodyF sg__law_mul.pm 2 (noNx (den__law_mul F__law_xor))
def Fn__law_mul : FD := lenF 2 (fn__law_mul Fn__law_xor)
def sg_law : Sig := ⟨[.fz], [false], .fz⟩
def c1_law (F__law_same : FD) (F__law_xor : FD) (F_plus : FD) (F__law_mul : FD) (F_times : FD) : Ro → SO :=
  (sIf (eOr (eNot (eCall F__law_same (aCons (eCall F_plus (aCons (eV 3) (aCons (eV 4) aNil))) (aCons (eCall F__law_xor (aCons (eV 3) (aCons (eV 4) aNil))) aNil)))) (eNot (eCall F__law_same (aCons (eCall F_times (aCons (eV 3) (aCons (eV 4) aNil))) (aCons (eCall F__law_mul (aCons (eV 3) (aCons (eV 4) aNil))) aNil))))) (sE (eC (.bl false)) kRet) sNil)
def b1_law (F__law_draw : FD) (F__law_same : FD) (F__law_xor : FD) (F_plus : FD) (F__law_mul : FD) (F_times : FD) : Ro → SO :=
  (sSeq (sE (eCallM F__law_draw [some 1, none] (aLend 1 (aCons (eC (.int 32)) aNil))) (kSet 3))
  (sSeq (sE (eBin fIx (eArg fLst (aCons (eCallM F__law_draw [some 1, none] (aLend 1 (aCons (eC (.int 32)) aNil))) (aCons (eV 3) (aCons (eC (.int 0)) (aCons (eC (.int 1)) aNil))))) (eArg fMin2 (aCons (eC (.int 3)) (aCons (eBin (fI2 fDivI) (eCallM F__law_draw [some 1, none] (aLend 1 (aCons (eC (.int 9)) aNil))) (eC (.int 2))) aNil)))) (kSet 4))
  (c1_law F__law_same F__law_xor F_plus F__law_mul F_times)))
def den_law (F__law_pool : FD) (F__law_draw : FD) (F__law_same : FD) (F__law_xor : FD) (F_plus : FD) (F__law_mul : FD) (F_times : FD) : Ro → SO :=
  (sSeq (sE (eCall F__law_pool (aCons (eV 0) aNil)) (kSet 1))
  (sSeq (sE (aBnd (aCons (eC (.int 40)) aNil) itR1) (kFor (Tgt.s (.nm 2)) (b1_law F__law_draw F__law_same F__law_xor F_plus F__law_mul F_times)))
  (sE (eC (.bl true)) kRet)))
def fn_law (F__law_pool : FD) (F__law_draw : FD) (F__law_same : FD) (F__law_xor : FD) (F_plus : FD) (F__law_mul : FD) (F_times : FD) : FD := bodyF sg_law.pm 4 (noNx (den_law F__law_pool F__law_draw F__law_same F__law_xor F_plus F__law_mul F_times))
def Fn_law : FD := lenF 1 (fn_law Fn__law_pool Fn__law_draw (Fn__law_same 8) Fn__law_xor Fn_plus Fn__law_mul Fn_times)
/-! the pool of drawn numbers -/
def poolD (ns : List Int) (i v c s : Int) : D := .lst [.lst (ns.map .int), .int i, .int v, .int c, .int s]
theorem pool_ok (ns : List Int) : ∃ s, Fn__law_pool [.scr ns] = .ret (poolD ns 0 0 0 s) [none] := by
  have st : ∀ s x : Int, b1__law_pool [some (.scr ns), some (.int s), some (.int x)] = .nx [some (.scr ns), some (.int ((s * 31 + x) % 1000003)), some (.int x)] := by
    intro s x; simp [b1__law_pool]
  have loop : ∀ (xs : List Int) (s : Int) (y : Option D), ∃ s' y', forL (Tgt.s (.nm 2)) b1__law_pool (xs.map .int) [some (.scr ns), some (.int s), y] = .nx [some (.scr ns), some (.int s'), y'] := by
    intro xs
    induction xs with
    | nil => intro s y; exact ⟨s, y, rfl⟩
    | cons x xs ih =>
      intro s y
      obtain ⟨s', y', h⟩ := ih ((s * 31 + x) % 1000003) (some (.int x))
      exact ⟨s', y', by simp [forL, st, h]⟩
  obtain ⟨s', y', h⟩ := loop (DL.cutD ns none (some 63)) 7 none
  refine ⟨s', ?_⟩
  have hc := cutD_map D.int ns none (some 63)
  simp [Fn__law_pool, fn__law_pool, den__law_pool, hc, h, poolD, sg__law_pool]
theorem spread_ok (n : Int) : ∃ v, Fn__law_spread [.int n] = .ret (.int v) [none] := by
  have st : ∀ m t k : Int, b1__law_spread [some (.int n), some (.int m), some (.int t), some (.int k)] = .nx [some (.int n), some (.int ((m * 48271 + 12345 + k) % 2147483647)), some (.int (t * 2147483647 + (m * 48271 + 12345 + k) % 2147483647)), some (.int k)] := by
    intro m t k; simp [b1__law_spread]
  refine ⟨?v, ?_⟩
  rotate_left
  · simp [Fn__law_spread, fn__law_spread, den__law_spread, rangeD, List.range, List.range.loop, forL, st, sg__law_spread]
    rfl
theorem fIx_pool0 (ns : List Int) (i v c s : Int) : fIx (poolD ns i v c s) (.int 0) = some (.lst (ns.map .int)) := rfl
theorem fIx_pool1 (ns : List Int) (i v c s : Int) : fIx (poolD ns i v c s) (.int 1) = some (.int i) := rfl
theorem fIx_pool2 (ns : List Int) (i v c s : Int) : fIx (poolD ns i v c s) (.int 2) = some (.int v) := rfl
theorem fIx_pool3 (ns : List Int) (i v c s : Int) : fIx (poolD ns i v c s) (.int 3) = some (.int c) := rfl
theorem fIx_pool4 (ns : List Int) (i v c s : Int) : fIx (poolD ns i v c s) (.int 4) = some (.int s) := rfl
theorem set_pool1 (ns : List Int) (i v c s x : Int) (ρ : Ro) : stG 0 id (.int x) ρ (poolD ns i v c s) (.int 1) = .nx (ρ.set 0 (some (poolD ns x v c s))) := rfl
theorem set_pool2 (ns : List Int) (i v c s x : Int) (ρ : Ro) : stG 0 id (.int x) ρ (poolD ns i v c s) (.int 2) = .nx (ρ.set 0 (some (poolD ns i x c s))) := rfl
theorem set_pool3 (ns : List Int) (i v c s x : Int) (ρ : Ro) : stG 0 id (.int x) ρ (poolD ns i v c s) (.int 3) = .nx (ρ.set 0 (some (poolD ns i v x s))) := rfl
theorem draw_c1 (ns : List Int) (i v c s many x : Int) : ∃ v', c1__law_draw Fn__law_spread [some (poolD ns i v c s), some (.int many), some (.int x), none, none] = .nx [some (poolD ns i v' c s), some (.int many), some (.int x), none, none] := by
  by_cases h : x < 1000000000000000000
  · obtain ⟨v', e⟩ := spread_ok x
    exact ⟨v', by simp [c1__law_draw, h, e, set_pool2]⟩
  · exact ⟨v, by simp [c1__law_draw, h]⟩
theorem draw_c2 (ns : List Int) (i v c s many : Int) (hi : 0 ≤ i) : ∃ i' v' y, 0 ≤ i' ∧ c2__law_draw Fn__law_spread [some (poolD ns i v c s), some (.int many), none, none, none] = .nx [some (poolD ns i' v' c s), some (.int many), y, none, none] := by
  by_cases h : v ≤ 0
  · by_cases h2 : i < ns.length
    · have hx : L2.atI (ns.map D.int) i = some (.int (ns[i.toNat]'(by omega))) := by
        rw [atI_ok hi (by rw [List.length_map]; exact h2), List.getElem?_map, List.getElem?_eq_getElem (by omega)]
        rfl
      obtain ⟨v', e⟩ := draw_c1 ns (i + 1) (ns[i.toNat]'(by omega)) c s many (ns[i.toNat]'(by omega))
      exact ⟨i + 1, v', _, by omega, by simp [c2__law_draw, h, h2, fIx_pool0, fIx_pool1, fIx_pool2, hx, set_pool1, set_pool2, e]; rfl⟩
    · exact ⟨i, v, none, hi, by simp [c2__law_draw, h, h2, fIx_pool0, fIx_pool1, fIx_pool2]⟩
  · exact ⟨i, v, none, hi, by simp [c2__law_draw, h, fIx_pool0, fIx_pool1, fIx_pool2]⟩
theorem draw_ok (ns : List Int) (i v c s many : Int) (hi : 0 ≤ i) (hm : 0 < many) (hm2 : many < 18446744073709551616) : ∃ x i' v' c', 0 ≤ i' ∧ 0 ≤ x ∧ x < many ∧ Fn__law_draw [poolD ns i v c s, .int many] = .ret (.int x) [some (poolD ns i' v' c' s), none] := by
  obtain ⟨i1, v1, y, h1, e1⟩ := draw_c2 ns i v c s many hi
  by_cases hv : v1 ≤ 0
  · refine ⟨((s * 48271 + (c + 1) * 69621 + 1) % 2147483647 * 16807 + (c + 1)) % 2147483629 / 5 % many, i1, v1, c + 1, h1, Int.emod_nonneg _ (by omega), Int.emod_lt_of_pos _ hm, ?_⟩
    simp [Fn__law_draw, fn__law_draw, den__law_draw, e1, sg__law_draw, fIx_pool2, fIx_pool3, fIx_pool4, set_pool3, c3__law_draw, hv, hm]
  · refine ⟨v1 % many, i1, v1 / many, c + 1, h1, Int.emod_nonneg _ (by omega), Int.emod_lt_of_pos _ hm, ?_⟩
    simp [Fn__law_draw, fn__law_draw, den__law_draw, e1, sg__law_draw, fIx_pool2, fIx_pool3, fIx_pool4, set_pool2, set_pool3, c3__law_draw, hv, hm, hm2]
/-! _law_same of flat things -/
theorem same_int (k : Nat) (x y : Int) : Fn__law_same (k + 1) [.int x, .int y] = .ret (.bl (decide (x = y))) [none, none] := by
  simp [Fn__law_same, fn__law_same, den__law_same, sg__law_same, c4__law_same, c5__law_same, c6__law_same, c7__law_same]
def chkP (a b : Nat) : Bool := match Fn_plus [.int a, .int b], Fn__law_xor [.int a, .int b] with
  | .ret (.int x) _, .ret (.int y) _ => x == y
  | _, _ => false
def chkT (a b : Nat) : Bool := match Fn_times [.int a, .int b], Fn__law_mul [.int a, .int b] with
  | .ret (.int x) _, .ret (.int y) _ => x == y
  | _, _ => false
theorem chk_all : ∀ a < 32, ∀ b < 32, (chkP a b && chkT a b) = true := by decide +kernel
theorem ok_P {a b : Nat} (h : chkP a b = true) : ∃ x p q, Fn_plus [.int a, .int b] = .ret (.int x) p ∧ Fn__law_xor [.int a, .int b] = .ret (.int x) q := by
  unfold chkP at h
  split at h
  · rename_i x p y q e1 e2
    rw [beq_iff_eq] at h
    subst h
    exact ⟨_, _, _, e1, e2⟩
  · cases h
theorem ok_T {a b : Nat} (h : chkT a b = true) : ∃ x p q, Fn_times [.int a, .int b] = .ret (.int x) p ∧ Fn__law_mul [.int a, .int b] = .ret (.int x) q := by
  unfold chkT at h
  split at h
  · rename_i x p y q e1 e2
    rw [beq_iff_eq] at h
    subst h
    exact ⟨_, _, _, e1, e2⟩
  · cases h
theorem pair_ok (a b : Int) (h1 : 0 ≤ a) (h2 : a < 32) (h3 : 0 ≤ b) (h4 : b < 32) : ∃ x y p q r t, Fn_plus [.int a, .int b] = .ret (.int x) p ∧ Fn__law_xor [.int a, .int b] = .ret (.int x) q ∧ Fn_times [.int a, .int b] = .ret (.int y) r ∧ Fn__law_mul [.int a, .int b] = .ret (.int y) t := by
  obtain ⟨m, rfl⟩ := Int.eq_ofNat_of_zero_le h1
  obtain ⟨n, rfl⟩ := Int.eq_ofNat_of_zero_le h3
  have := chk_all m (by omega) n (by omega)
  rw [Bool.and_eq_true] at this
  obtain ⟨x, p, q, e1, e2⟩ := ok_P this.1
  obtain ⟨y, r, t, e3, e4⟩ := ok_T this.2
  exact ⟨x, y, p, q, r, t, e1, e2, e3, e4⟩
abbrev B1 : Ro → SO := b1_law Fn__law_draw (Fn__law_same 8) Fn__law_xor Fn_plus Fn__law_mul Fn_times
theorem body_ok (ns : List Int) (i v c s : Int) (hi : 0 ≤ i) (x a b : Option D) : ∃ i' v' c' a' b', 0 ≤ i' ∧ B1 [some (.scr ns), some (poolD ns i v c s), x, a, b] = .nx [some (.scr ns), some (poolD ns i' v' c' s), x, a', b'] := by
  obtain ⟨a1, i1, v1, c1, h1, h2, h3, e1⟩ := draw_ok ns i v c s 32 hi (by decide) (by decide)
  obtain ⟨b1, i2, v2, c2, h4, h5, h6, e2⟩ := draw_ok ns i1 v1 c1 s 32 h1 (by decide) (by decide)
  obtain ⟨k, i3, v3, c3, h7, h8, h9, e3⟩ := draw_ok ns i2 v2 c2 s 9 h4 (by decide) (by decide)
  obtain ⟨j, hj, hj0, hj3⟩ : ∃ j : Int, (if k / 2 < 3 then k / 2 else 3) = j ∧ 0 ≤ j ∧ j < 4 := ⟨_, rfl, by split <;> omega, by split <;> omega⟩
  obtain ⟨bb, hb1, hb2, hb3⟩ : ∃ bb : Int, L2.atI [D.int b1, .int a1, .int 0, .int 1] j = some (.int bb) ∧ 0 ≤ bb ∧ bb < 32 := by
    rcases (by omega : j = 0 ∨ j = 1 ∨ j = 2 ∨ j = 3) with rfl | rfl | rfl | rfl
    · exact ⟨b1, rfl, h5, h6⟩
    · exact ⟨a1, rfl, h2, h3⟩
    · exact ⟨0, rfl, by decide, by decide⟩
    · exact ⟨1, rfl, by decide, by decide⟩
  obtain ⟨x, y, p, q, r, t, f1, f2, f3, f4⟩ := pair_ok a1 bb h2 h3 hb2 hb3
  refine ⟨i3, v3, c3, some (.int a1), some (.int bb), h7, ?_⟩
  have g1 := same_int 7 x x
  have g2 := same_int 7 y y
  simp only [decide_true] at g1 g2
  simp [B1, b1_law, c1_law, e1, e2, e3, hj, hb1, f1, f2, f3, f4, g1, g2]
theorem law_true (ns : List Int) : ∃ po, Fn_law [.scr ns] = .ret (.bl true) po := by
  obtain ⟨s, e⟩ := pool_ok ns
  have loop : ∀ (xs : List D) (i v c : Int) (x a b : Option D), 0 ≤ i → ∃ ρ, forL (Tgt.s (.nm 2)) B1 xs [some (.scr ns), some (poolD ns i v c s), x, a, b] = .nx ρ := by
    intro xs
    induction xs with
    | nil => intro i v c x a b _; exact ⟨_, rfl⟩
    | cons d xs ih =>
      intro i v c x a b hi
      obtain ⟨i', v', c', a', b', h1, h2⟩ := body_ok ns i v c s hi (some d) a b
      obtain ⟨ρ, h3⟩ := ih i' v' c' (some d) a' b' h1
      exact ⟨ρ, by rw [forL]; simp only [tgt_nm, List.set_cons_succ, List.set_cons_zero, h2, h3]⟩
  obtain ⟨ρ, h⟩ := loop (rangeD 0 40 1) 0 0 0 none none none (by decide)
  exact ⟨_, by simp [Fn_law, fn_law, den_law, sg_law, e, h]; rfl⟩
abbrev s_digits_of : Stmt := PySem.Challenge.pw_dapple_k01_sums_and_products.main.body.getD 4 (.Pass ⟨0, 0, 0, 0⟩)
theorem sc_digits_of : FnScope ["number", "count", "found", "_"] ["number", "count"] (defScope s_digits_of) := ⟨rfl, rfl, rfl, by decide +kernel, rfl, by decide +kernel, by decide +kernel⟩
theorem ok_digits_of {P : Program} {w : World} {K : PySem.W.Frag} {mg : Str → Option Value} {base : Heap} {ct : String → Option Addr} {f : Addr} {fd : FuncData} {k : Nat} (F : Fun K "digits_of" "digits_of" s_digits_of f fd) (m_range : mg "range" = none) :
    FnOk P w K mg base (L2.CX P w) (k + 1) f fd ["number", "count"] (spD K ct sg_digits_of (fn_digits_of)) :=
  fn_okR sg_digits_of F sc_digits_of 2 rfl rfl rfl (Γ1 := [.fz, .fz, .fz, .fz]) (fun cdv A outer s H E hr =>
  (dss_cons (ds_set 2 sc_digits_of.nd (de_lst (da_nil (pu := true))) (.same (.same (.same (.same .nil)))))
  (dss_cons (ds_for rfl (di_range1 (da_cons (de_var 1 (pu := true)) (da_nil (pu := true))) m_range) (tg_nm sc_digits_of.nd (i := 3)) (dss_cons (ds_expr (de_app (dp_nm 2) (da_cons (de_mod (de_var 0 (pu := true)) (de_int (pu := true))) (da_nil (pu := true)))) (.same (.same (.frz (.same .nil)))))
  (dss_one (ds_set 0 sc_digits_of.nd (de_div (de_var 0 (pu := true)) (de_int (pu := true))) (.same (.same (.frz (.same .nil))))))) (.same (.same (.frz (.same .nil)))) (wip_cons wip_nil))
  (DSs.pre (dss_one (ds_ret (de_var 2 (pu := true)) (.same (.same (.same (.same .nil)))) (.same (.same (.same (.same .nil)))))) (.same (.same (.frz (.same .nil))))))))
theorem gf_digits_of {P : Program} {w : World} {K : PySem.W.Frag} {mg : Str → Option Value} {base : Heap} {ct : String → Option Addr} (d_digits_of : DefIn K mg "digits_of" "digits_of" s_digits_of) (m_range : mg "range" = none) : GF P w K mg base ct 1 "digits_of" sg_digits_of Fn_digits_of := by
  obtain ⟨f, fd, F, hm⟩ := d_digits_of
  exact .mk' F hm (F.binds (ps := ["number", "count"]) fun _ _ _ _ _ _ us hl => match us, hl with | [_, _], _ => rfl) rfl (fn_imp (ok_digits_of F m_range) fle_len)
abbrev s_number_of : Stmt := PySem.Challenge.pw_dapple_k01_sums_and_products.main.body.getD 5 (.Pass ⟨0, 0, 0, 0⟩)
theorem sc_number_of : FnScope ["digits", "number", "digit"] ["digits"] (defScope s_number_of) := ⟨rfl, rfl, rfl, by decide +kernel, rfl, by decide +kernel, by decide +kernel⟩
theorem ok_number_of {P : Program} {w : World} {K : PySem.W.Frag} {mg : Str → Option Value} {base : Heap} {ct : String → Option Addr} {f : Addr} {fd : FuncData} {k : Nat} (F : Fun K "number_of" "number_of" s_number_of f fd)  :
    FnOk P w K mg base (L2.CX P w) (k + 1) f fd ["digits"] (spD K ct sg_number_of (fn_number_of)) :=
  fn_okR sg_number_of F sc_number_of 2 rfl rfl rfl (Γ1 := [.fz, .fz, .fz]) (fun cdv A outer s H E hr =>
  (dss_cons (ds_set 1 sc_number_of.nd (de_int (pu := true)) (.same (.same (.same .nil))))
  (dss_cons (ds_for rfl (di_list (DE.frz (de_revL (de_var 0 (pu := true))))) (tg_nm sc_number_of.nd (i := 2)) (dss_one (ds_set 1 sc_number_of.nd (de_add (de_mul (de_int (pu := true)) (de_var 1 (pu := true))) (de_var 2 (pu := true))) (.same (.same (.same .nil))))) (.same (.same (.same .nil))) (wip_cons wip_nil))
  (dss_one (ds_ret (de_var 1 (pu := true)) (.same (.same (.same .nil))) (.same (.same (.same .nil))))))))
theorem gf_number_of {P : Program} {w : World} {K : PySem.W.Frag} {mg : Str → Option Value} {base : Heap} {ct : String → Option Addr} (d_number_of : DefIn K mg "number_of" "number_of" s_number_of) : GF P w K mg base ct 1 "number_of" sg_number_of Fn_number_of := by
  obtain ⟨f, fd, F, hm⟩ := d_number_of
  exact .mk' F hm (F.binds (ps := ["digits"]) fun _ _ _ _ _ _ us hl => match us, hl with | [_], _ => rfl) rfl (fn_imp (ok_number_of F) fle_len)
abbrev s_plus : Stmt := PySem.Challenge.pw_dapple_k01_sums_and_products.main.body.getD 6 (.Pass ⟨0, 0, 0, 0⟩)
theorem sc_plus : FnScope ["first", "second", "pairs", "one", "other"] ["first", "second"] (defScope s_plus) := ⟨rfl, rfl, rfl, by decide +kernel, rfl, by decide +kernel, by decide +kernel⟩
theorem ok_plus {P : Program} {w : World} {K : PySem.W.Frag} {mg : Str → Option Value} {base : Heap} {ct : String → Option Addr} {f : Addr} {fd : FuncData} {k : Nat} (F : Fun K "plus" "plus" s_plus f fd) (m_zip : mg "zip" = none) {F_digits_of : FD} (G_digits_of : GF P w K mg base ct k "digits_of" sg_digits_of F_digits_of) (L_digits_of : lenOk sg_digits_of F_digits_of) {F_number_of : FD} (G_number_of : GF P w K mg base ct k "number_of" sg_number_of F_number_of) (L_number_of : lenOk sg_number_of F_number_of) :
    FnOk P w K mg base (L2.CX P w) (k + 1) f fd ["first", "second"] (spD K ct sg_plus (fn_plus F_digits_of F_number_of)) :=
  fn_okR sg_plus F sc_plus 3 rfl rfl rfl (Γ1 := [.fz, .fz, .fz, .fz, .fz]) (fun cdv A outer s H E hr =>
  (dss_zipret (i := 2) (own := [("one", 3), ("other", 4)]) rfl sc_plus.nd rfl m_zip (da_cons (de_call (sg := sg_digits_of) G_digits_of.df hr (da_cons (de_var 0 (pu := true)) (da_cons (de_int (pu := true)) (da_nil (pu := true)))) L_digits_of (fzs rfl)) (da_cons (de_call (sg := sg_digits_of) G_digits_of.df hr (da_cons (de_var 1 (pu := true)) (da_cons (de_int (pu := true)) (da_nil (pu := true)))) L_digits_of (fzs rfl)) (da_nil (pu := true)))) rfl (fun _ _ _ _ _ => (tg_tp rfl (ts_cons (tg_nm sc_plus.nd (i := 3)) (ts_cons (tg_nm sc_plus.nd (i := 4)) ts_nil)))) (fun _ _ _ _ _ => (de_mod (de_add (de_var 3 (pu := true)) (de_var 4 (pu := true))) (de_int (pu := true)))) (wip_cons (wip_cons wip_nil)) (by decide) G_number_of.df hr L_number_of (fzs rfl) rfl (by decide) (.same (.same (.same (.same (.same .nil))))) (.same (.same (.same (.same (.same .nil))))) rfl rfl (by decide) rfl (Or.inl rfl) (Or.inr rfl) (Or.inl rfl)))
theorem gf_plus {P : Program} {w : World} {K : PySem.W.Frag} {mg : Str → Option Value} {base : Heap} {ct : String → Option Addr} (d_plus : DefIn K mg "plus" "plus" s_plus) (m_zip : mg "zip" = none) (G_digits_of : GF P w K mg base ct 1 "digits_of" sg_digits_of Fn_digits_of) (G_number_of : GF P w K mg base ct 1 "number_of" sg_number_of Fn_number_of) : GF P w K mg base ct 2 "plus" sg_plus Fn_plus := by
  obtain ⟨f, fd, F, hm⟩ := d_plus
  exact .mk' F hm (F.binds (ps := ["first", "second"]) fun _ _ _ _ _ _ us hl => match us, hl with | [_, _], _ => rfl) rfl (fn_imp (ok_plus F m_zip (G_digits_of.mono (by decide)) (lenOk_len rfl) (G_number_of.mono (by decide)) (lenOk_len rfl)) fle_len)
abbrev s_times : Stmt := PySem.Challenge.pw_dapple_k01_sums_and_products.main.body.getD 7 (.Pass ⟨0, 0, 0, 0⟩)
theorem sc_times : FnScope ["first", "second"] ["first", "second"] (defScope s_times) := ⟨rfl, rfl, rfl, by decide +kernel, rfl, by decide +kernel, by decide +kernel⟩
theorem ok_times {P : Program} {w : World} {K : PySem.W.Frag} {mg : Str → Option Value} {base : Heap} {ct : String → Option Addr} {f : Addr} {fd : FuncData} {k : Nat} (F : Fun K "times" "times" s_times f fd) (c_POWERS : GC K mg ct "POWERS" v_POWERS) (c_EXPONENTS : GC K mg ct "EXPONENTS" v_EXPONENTS) (c_SIZE : GC K mg ct "SIZE" v_SIZE) :
    FnOk P w K mg base (L2.CX P w) (k + 1) f fd ["first", "second"] (spD K ct sg_times (fn_times)) :=
  fn_okR sg_times F sc_times 0 rfl rfl rfl (Γ1 := [.fz, .fz]) (fun cdv A outer s H E hr =>
  (dss_cons (ds_if (Γ1 := [.fz, .fz]) (DW.pt (dw_or (dt_c1 (c_eq hr.units) (de_var 0 (pu := true)) (de_int (pu := true))) (dw_or1 (dt_c1 (c_eq hr.units) (de_var 1 (pu := true)) (de_int (pu := true)))))) (dss_one (ds_ret (de_int (pu := true)) (.same (.same .nil)) (.same (.same .nil)))) dss_nil (.same (.same .nil)))
  (dss_one (ds_ret (de_ix (de_gc c_POWERS (pu := true)) (de_mod (de_add (de_ix (de_gc c_EXPONENTS (pu := true)) (de_var 0 (pu := true))) (de_ix (de_gc c_EXPONENTS (pu := true)) (de_var 1 (pu := true)))) (de_sub (de_gc c_SIZE (pu := true)) (de_int (pu := true))))) (.same (.same .nil)) (.same (.same .nil))))))
theorem gf_times {P : Program} {w : World} {K : PySem.W.Frag} {mg : Str → Option Value} {base : Heap} {ct : String → Option Addr} (d_times : DefIn K mg "times" "times" s_times) (c_POWERS : GC K mg ct "POWERS" v_POWERS) (c_EXPONENTS : GC K mg ct "EXPONENTS" v_EXPONENTS) (c_SIZE : GC K mg ct "SIZE" v_SIZE) : GF P w K mg base ct 1 "times" sg_times Fn_times := by
  obtain ⟨f, fd, F, hm⟩ := d_times
  exact .mk' F hm (F.binds (ps := ["first", "second"]) fun _ _ _ _ _ _ us hl => match us, hl with | [_, _], _ => rfl) rfl (fn_imp (ok_times F c_POWERS c_EXPONENTS c_SIZE) fle_len)
abbrev s__law_pool : Stmt := PySem.Challenge.pw_dapple_k01_sums_and_products.main.body.getD 9 (.Pass ⟨0, 0, 0, 0⟩)
theorem sc__law_pool : FnScope ["script", "salt", "cell"] ["script"] (defScope s__law_pool) := ⟨rfl, rfl, rfl, by decide +kernel, rfl, by decide +kernel, by decide +kernel⟩
theorem ok__law_pool {P : Program} {w : World} {K : PySem.W.Frag} {mg : Str → Option Value} {base : Heap} {ct : String → Option Addr} {f : Addr} {fd : FuncData} {k : Nat} (F : Fun K "_law_pool" "_law_pool" s__law_pool f fd) (m_int : mg "int" = none) (m_list : mg "list" = none) :
    FnOk P w K mg base (L2.CX P w) (k + 1) f fd ["script"] (spD K ct sg__law_pool (fn__law_pool)) :=
  fn_okR sg__law_pool F sc__law_pool 2 rfl rfl rfl (Γ1 := [.fz, .fz, .fz]) (fun cdv A outer s H E hr =>
  (dss_cons (ds_set 1 sc__law_pool.nd (de_int (pu := true)) (.same (.same (.same .nil))))
  (dss_cons (ds_for rfl (di_list (de_sl (de_var 0 (pu := true)) (do_none (pu := true)) (do_some (de_int (pu := true))))) (tg_nm sc__law_pool.nd (i := 2)) (dss_one (ds_set 1 sc__law_pool.nd (de_mod (de_intc (da_cons (de_add (de_mul (de_var 1 (pu := true)) (de_int (pu := true))) (de_var 2 (pu := true))) (da_nil (pu := true))) m_int) (de_int (pu := true))) (.same (.same (.same .nil))))) (.same (.same (.same .nil))) (wip_cons wip_nil))
  (dss_one (ds_ret (de_lst (da_cons (DE.frz (de_list (da_cons (de_var 0 (pu := true)) (da_nil (pu := true))) m_list)) (da_cons (de_int (pu := true)) (da_cons (de_int (pu := true)) (da_cons (de_int (pu := true)) (da_cons (de_var 1 (pu := true)) (da_nil (pu := true)))))))) (.same (.same (.same .nil))) (.same (.same (.same .nil))))))))
theorem gf__law_pool {P : Program} {w : World} {K : PySem.W.Frag} {mg : Str → Option Value} {base : Heap} {ct : String → Option Addr} (d__law_pool : DefIn K mg "_law_pool" "_law_pool" s__law_pool) (m_int : mg "int" = none) (m_list : mg "list" = none) : GF P w K mg base ct 1 "_law_pool" sg__law_pool Fn__law_pool := by
  obtain ⟨f, fd, F, hm⟩ := d__law_pool
  exact .mk' F hm (F.binds (ps := ["script"]) fun _ _ _ _ _ _ us hl => match us, hl with | [_], _ => rfl) rfl (fn_imp (ok__law_pool F m_int m_list) fle_len)
abbrev s__law_spread : Stmt := PySem.Challenge.pw_dapple_k01_sums_and_products.main.body.getD 10 (.Pass ⟨0, 0, 0, 0⟩)
theorem sc__law_spread : FnScope ["cell", "mixed", "total", "k"] ["cell"] (defScope s__law_spread) := ⟨rfl, rfl, rfl, by decide +kernel, rfl, by decide +kernel, by decide +kernel⟩
theorem ok__law_spread {P : Program} {w : World} {K : PySem.W.Frag} {mg : Str → Option Value} {base : Heap} {ct : String → Option Addr} {f : Addr} {fd : FuncData} {k : Nat} (F : Fun K "_law_spread" "_law_spread" s__law_spread f fd) (m_int : mg "int" = none) (m_range : mg "range" = none) :
    FnOk P w K mg base (L2.CX P w) (k + 1) f fd ["cell"] (spD K ct sg__law_spread (fn__law_spread)) :=
  fn_okR sg__law_spread F sc__law_spread 3 rfl rfl rfl (Γ1 := [.fz, .fz, .fz, .fz]) (fun cdv A outer s H E hr =>
  (dss_cons (ds_set 1 sc__law_spread.nd (de_mod (de_intc (da_cons (de_var 0 (pu := true)) (da_nil (pu := true))) m_int) (de_int (pu := true))) (.same (.same (.same (.same .nil)))))
  (dss_cons (ds_set 2 sc__law_spread.nd (de_int (pu := true)) (.same (.same (.same (.same .nil)))))
  (dss_cons (ds_for rfl (di_range1 (da_cons (de_int (pu := true)) (da_nil (pu := true))) m_range) (tg_nm sc__law_spread.nd (i := 3)) (dss_cons (ds_set 1 sc__law_spread.nd (de_mod (de_intc (da_cons (de_add (de_add (de_mul (de_var 1 (pu := true)) (de_int (pu := true))) (de_int (pu := true))) (de_var 3 (pu := true))) (da_nil (pu := true))) m_int) (de_int (pu := true))) (.same (.same (.same (.same .nil)))))
  (dss_one (ds_set 2 sc__law_spread.nd (de_add (de_mul (de_var 2 (pu := true)) (de_int (pu := true))) (de_var 1 (pu := true))) (.same (.same (.same (.same .nil))))))) (.same (.same (.same (.same .nil)))) (wip_cons wip_nil))
  (dss_one (ds_ret (de_var 2 (pu := true)) (.same (.same (.same (.same .nil)))) (.same (.same (.same (.same .nil))))))))))
theorem gf__law_spread {P : Program} {w : World} {K : PySem.W.Frag} {mg : Str → Option Value} {base : Heap} {ct : String → Option Addr} (d__law_spread : DefIn K mg "_law_spread" "_law_spread" s__law_spread) (m_int : mg "int" = none) (m_range : mg "range" = none) : GF P w K mg base ct 1 "_law_spread" sg__law_spread Fn__law_spread := by
  obtain ⟨f, fd, F, hm⟩ := d__law_spread
  exact .mk' F hm (F.binds (ps := ["cell"]) fun _ _ _ _ _ _ us hl => match us, hl with | [_], _ => rfl) rfl (fn_imp (ok__law_spread F m_int m_range) fle_len)
abbrev s__law_draw : Stmt := PySem.Challenge.pw_dapple_k01_sums_and_products.main.body.getD 11 (.Pass ⟨0, 0, 0, 0⟩)
theorem sc__law_draw : FnScope ["pool", "many", "cell", "mixed", "value"] ["pool", "many"] (defScope s__law_draw) := ⟨rfl, rfl, rfl, by decide +kernel, rfl, by decide +kernel, by decide +kernel⟩
theorem ok__law_draw {P : Program} {w : World} {K : PySem.W.Frag} {mg : Str → Option Value} {base : Heap} {ct : String → Option Addr} {f : Addr} {fd : FuncData} {k : Nat} (F : Fun K "_law_draw" "_law_draw" s__law_draw f fd) (m_len : mg "len" = none) (m_int : mg "int" = none) {F__law_spread : FD} (G__law_spread : GF P w K mg base ct k "_law_spread" sg__law_spread F__law_spread) (L__law_spread : lenOk sg__law_spread F__law_spread) :
    FnOk P w K mg base (L2.CX P w) (k + 1) f fd ["pool", "many"] (spD K ct sg__law_draw (fn__law_draw F__law_spread)) :=
  fn_okR sg__law_draw F sc__law_draw 3 rfl rfl rfl (Γ1 := [(.ml .fz), .fz, .fz, .fz, .fz]) (fun cdv A outer s H E hr =>
  (dss_cons (ds_if (Γ1 := [(.ml .fz), .fz, .fz, .fz, .fz]) (dt_bor (Γ' := [.fz, .fz, .fz, .fz, .fz]) (DW.pt (dw_and (dt_c1 c_le (de_ix (de_var 0 (pu := true)) (de_int (pu := true))) (de_int (pu := true))) (dw_and1 (dt_c1 c_lt (de_ix (de_var 0 (pu := true)) (de_int (pu := true))) (de_len (da_cons (de_ix (de_var 0 (pu := true)) (de_int (pu := true))) (da_nil (pu := true))) m_len))))) (.frz (.same (.same (.same (.same .nil))))) (pu := true)) (dss_cons (ds_set 2 sc__law_draw.nd (de_bor (Γ' := [.fz, .fz, .fz, .fz, .fz]) (de_ix (de_ix (de_var 0 (pu := true)) (de_int (pu := true))) (de_ix (de_var 0 (pu := true)) (de_int (pu := true)))) (.frz (.same (.same (.same (.same .nil))))) (pu := true)) (.same (.same (.same (.same (.same .nil))))))
  (dss_cons (ds_setix (de_bor (Γ' := [.fz, .fz, .fz, .fz, .fz]) (de_add (de_ix (de_var 0 (pu := true)) (de_int (pu := true))) (de_int (pu := true))) (.frz (.same (.same (.same (.same .nil))))) (pu := true)) (dp_nm 0) (de_int (pu := true)) (.same (.same (.same (.same (.same .nil))))))
  (dss_cons (ds_setix (de_var 2 (pu := true)) (dp_nm 0) (de_int (pu := true)) (.same (.same (.same (.same (.same .nil))))))
  (dss_one (ds_if (Γ1 := [(.ml .fz), .fz, .fz, .fz, .fz]) (dt_c1 c_lt (de_var 2 (pu := true)) (de_int (pu := true))) (dss_one (ds_setix (de_call (sg := sg__law_spread) G__law_spread.df hr (da_cons (de_var 2 (pu := true)) (da_nil (pu := true))) L__law_spread (fzs rfl)) (dp_nm 0) (de_int (pu := true)) (.same (.same (.same (.same (.same .nil))))))) dss_nil (.same (.same (.same (.same (.same .nil)))))))))) dss_nil (.same (.same (.same (.same (.same .nil))))))
  (dss_cons (ds_setix (de_bor (Γ' := [.fz, .fz, .fz, .fz, .fz]) (de_add (de_ix (de_var 0 (pu := true)) (de_int (pu := true))) (de_int (pu := true))) (.frz (.same (.same (.same (.same .nil))))) (pu := true)) (dp_nm 0) (de_int (pu := true)) (.same (.same (.same (.same (.same .nil))))))
  (dss_cons (ds_if (Γ1 := [(.ml .fz), .fz, .fz, .fz, .fz]) (dt_bor (Γ' := [.fz, .fz, .fz, .fz, .fz]) (dt_c1 c_le (de_ix (de_var 0 (pu := true)) (de_int (pu := true))) (de_int (pu := true))) (.frz (.same (.same (.same (.same .nil))))) (pu := true)) (dss_cons (ds_set 3 sc__law_draw.nd (de_bor (Γ' := [.fz, .fz, .fz, .fz, .fz]) (de_mod (de_intc (da_cons (de_add (de_add (de_mul (de_ix (de_var 0 (pu := true)) (de_int (pu := true))) (de_int (pu := true))) (de_mul (de_ix (de_var 0 (pu := true)) (de_int (pu := true))) (de_int (pu := true)))) (de_int (pu := true))) (da_nil (pu := true))) m_int) (de_int (pu := true))) (.frz (.same (.same (.same (.same .nil))))) (pu := true)) (.same (.same (.same (.same (.same .nil))))))
  (dss_cons (ds_set 3 sc__law_draw.nd (de_bor (Γ' := [.fz, .fz, .fz, .fz, .fz]) (de_mod (de_intc (da_cons (de_add (de_mul (de_var 3 (pu := true)) (de_int (pu := true))) (de_ix (de_var 0 (pu := true)) (de_int (pu := true)))) (da_nil (pu := true))) m_int) (de_int (pu := true))) (.frz (.same (.same (.same (.same .nil))))) (pu := true)) (.same (.same (.same (.same (.same .nil))))))
  (dss_one (ds_ret (de_mod (de_div (de_var 3 (pu := true)) (de_int (pu := true))) (de_var 1 (pu := true))) (.same (.same (.same (.same (.same .nil))))) (.same (.same (.same (.same (.same .nil))))))))) dss_nil (.same (.same (.same (.same (.same .nil))))))
  (dss_cons (ds_set 4 sc__law_draw.nd (de_bor (Γ' := [.fz, .fz, .fz, .fz, .fz]) (de_mod (de_intc (da_cons (de_ix (de_var 0 (pu := true)) (de_int (pu := true))) (da_nil (pu := true))) m_int) (de_var 1 (pu := true))) (.frz (.same (.same (.same (.same .nil))))) (pu := true)) (.same (.same (.same (.same (.same .nil))))))
  (dss_cons (ds_setix (de_bor (Γ' := [.fz, .fz, .fz, .fz, .fz]) (de_div (de_ix (de_var 0 (pu := true)) (de_int (pu := true))) (de_var 1 (pu := true))) (.frz (.same (.same (.same (.same .nil))))) (pu := true)) (dp_nm 0) (de_int (pu := true)) (.same (.same (.same (.same (.same .nil))))))
  (dss_one (ds_ret (de_var 4 (pu := true)) (.same (.same (.same (.same (.same .nil))))) (.same (.same (.same (.same (.same .nil)))))))))))))
theorem gf__law_draw {P : Program} {w : World} {K : PySem.W.Frag} {mg : Str → Option Value} {base : Heap} {ct : String → Option Addr} (d__law_draw : DefIn K mg "_law_draw" "_law_draw" s__law_draw) (m_len : mg "len" = none) (m_int : mg "int" = none) (G__law_spread : GF P w K mg base ct 1 "_law_spread" sg__law_spread Fn__law_spread) : GF P w K mg base ct 2 "_law_draw" sg__law_draw Fn__law_draw := by
  obtain ⟨f, fd, F, hm⟩ := d__law_draw
  exact .mk' F hm (F.binds (ps := ["pool", "many"]) fun _ _ _ _ _ _ us hl => match us, hl with | [_, _], _ => rfl) rfl (fn_imp (ok__law_draw F m_len m_int (G__law_spread.mono (by decide)) (lenOk_len rfl)) fle_len)
abbrev s__law_same : Stmt := PySem.Challenge.pw_dapple_k01_sums_and_products.main.body.getD 12 (.Pass ⟨0, 0, 0, 0⟩)
theorem sc__law_same : FnScope ["actual", "due", "k"] ["actual", "due"] (defScope s__law_same) := ⟨rfl, rfl, rfl, by decide +kernel, rfl, by decide +kernel, by decide +kernel⟩
theorem ok__law_same {P : Program} {w : World} {K : PySem.W.Frag} {mg : Str → Option Value} {base : Heap} {ct : String → Option Addr} {f : Addr} {fd : FuncData} {k : Nat} (F : Fun K "_law_same" "_law_same" s__law_same f fd) (m_isinstance : mg "isinstance" = none) (m_tuple : mg "tuple" = none) (m_list : mg "list" = none) (m_len : mg "len" = none) (m_range : mg "range" = none) (m_bool : mg "bool" = none) (m_int : mg "int" = none) (m_str : mg "str" = none) {F__law_same : FD} (G__law_same : GF P w K mg base ct k "_law_same" sg__law_same F__law_same) (L__law_same : lenOk sg__law_same F__law_same) :
    FnOk P w K mg base (L2.CX P w) (k + 1) f fd ["actual", "due"] (spD K ct sg__law_same (fn__law_same F__law_same)) :=
  fn_okR sg__law_same F sc__law_same 1 rfl rfl rfl (Γ1 := [.fz, .fz, .fz]) (fun cdv A outer s H E hr =>
  (dss_cons (ds_if (Γ1 := [.fz, .fz, .fz]) (DW.pt (dw_or (dt_val (de_isi (T := "tuple") (de_var 1 (pu := true)) m_isinstance m_tuple (by decide +kernel))) (dw_or1 (dt_val (de_isi (T := "list") (de_var 1 (pu := true)) m_isinstance m_list (by decide +kernel)))))) (dss_cons (ds_if (Γ1 := [.fz, .fz, .fz]) (DW.pt (dw_or (dt_c1 (c_ne hr.units) (de_isi (T := "tuple") (de_var 1 (pu := true)) m_isinstance m_tuple (by decide +kernel)) (de_isi (T := "tuple") (de_var 0 (pu := true)) m_isinstance m_tuple (by decide +kernel))) (dw_or1 (dt_c1 (c_ne hr.units) (de_isi (T := "list") (de_var 1 (pu := true)) m_isinstance m_list (by decide +kernel)) (de_isi (T := "list") (de_var 0 (pu := true)) m_isinstance m_list (by decide +kernel)))))) (dss_one (ds_ret (de_bl (pu := true)) (.same (.same (.same .nil))) (.same (.same (.same .nil))))) dss_nil (.same (.same (.same .nil))))
  (dss_cons (ds_if (Γ1 := [.fz, .fz, .fz]) (dt_c1 (c_ne hr.units) (de_len (da_cons (de_var 0 (pu := true)) (da_nil (pu := true))) m_len) (de_len (da_cons (de_var 1 (pu := true)) (da_nil (pu := true))) m_len)) (dss_one (ds_ret (de_bl (pu := true)) (.same (.same (.same .nil))) (.same (.same (.same .nil))))) dss_nil (.same (.same (.same .nil))))
  (dss_cons (ds_for rfl (di_range1 (da_cons (de_len (da_cons (de_var 1 (pu := true)) (da_nil (pu := true))) m_len) (da_nil (pu := true))) m_range) (tg_nm sc__law_same.nd (i := 2)) (dss_one (ds_if (Γ1 := [.fz, .fz, .fz]) (dt_not (dt_val (de_call (sg := sg__law_same) G__law_same.df hr (da_cons (de_ix (de_var 0 (pu := true)) (de_var 2 (pu := true))) (da_cons (de_ix (de_var 1 (pu := true)) (de_var 2 (pu := true))) (da_nil (pu := true)))) L__law_same (fzs rfl)))) (dss_one (ds_ret (de_bl (pu := true)) (.same (.same (.same .nil))) (.same (.same (.same .nil))))) dss_nil (.same (.same (.same .nil))))) (.same (.same (.same .nil))) (wip_cons wip_nil))
  (dss_one (ds_ret (de_bl (pu := true)) (.same (.same (.same .nil))) (.same (.same (.same .nil)))))))) dss_nil (.same (.same (.same .nil))))
  (dss_cons (ds_if (Γ1 := [.fz, .fz, .fz]) (dt_c1 c_is (de_var 1 (pu := true)) (de_non (pu := true))) (dss_one (ds_ret (de_c1 c_is (de_var 0 (pu := true)) (de_non (pu := true))) (.same (.same (.same .nil))) (.same (.same (.same .nil))))) dss_nil (.same (.same (.same .nil))))
  (dss_cons (ds_if (Γ1 := [.fz, .fz, .fz]) (dt_val (de_isi (T := "bool") (de_var 1 (pu := true)) m_isinstance m_bool (by decide +kernel))) (dss_one (ds_ret (de_and (de_isi (T := "bool") (de_var 0 (pu := true)) m_isinstance m_bool (by decide +kernel)) (de_one (de_c1 (c_eq hr.units) (de_var 0 (pu := true)) (de_var 1 (pu := true))))) (.same (.same (.same .nil))) (.same (.same (.same .nil))))) dss_nil (.same (.same (.same .nil))))
  (dss_cons (ds_if (Γ1 := [.fz, .fz, .fz]) (dt_val (de_isi (T := "int") (de_var 1 (pu := true)) m_isinstance m_int (by decide +kernel))) (dss_one (ds_ret (de_and (de_isi (T := "int") (de_var 0 (pu := true)) m_isinstance m_int (by decide +kernel)) (de_and (de_not (de_isi (T := "bool") (de_var 0 (pu := true)) m_isinstance m_bool (by decide +kernel))) (de_one (de_c1 (c_eq hr.units) (de_var 0 (pu := true)) (de_var 1 (pu := true)))))) (.same (.same (.same .nil))) (.same (.same (.same .nil))))) dss_nil (.same (.same (.same .nil))))
  (dss_one (ds_ret (de_and (de_isi (T := "str") (de_var 0 (pu := true)) m_isinstance m_str (by decide +kernel)) (de_one (de_c1 (c_eq hr.units) (de_var 0 (pu := true)) (de_var 1 (pu := true))))) (.same (.same (.same .nil))) (.same (.same (.same .nil))))))))))
theorem gfr__law_same {P : Program} {w : World} {K : PySem.W.Frag} {mg : Str → Option Value} {base : Heap} {ct : String → Option Addr} (d__law_same : DefIn K mg "_law_same" "_law_same" s__law_same) (m_isinstance : mg "isinstance" = none) (m_tuple : mg "tuple" = none) (m_list : mg "list" = none) (m_len : mg "len" = none) (m_range : mg "range" = none) (m_bool : mg "bool" = none) (m_int : mg "int" = none) (m_str : mg "str" = none) : ∀ d : Nat, GF P w K mg base ct (1 + d) "_law_same" sg__law_same (Fn__law_same d) := by
  obtain ⟨f, fd, F, hm⟩ := d__law_same
  intro d
  induction d with
  | zero => exact .mk' F hm (F.binds (ps := ["actual", "due"]) fun _ _ _ _ _ _ us hl => match us, hl with | [_, _], _ => rfl) rfl (fn_stk rfl)
  | succ d ih => exact .mk' F hm (F.binds (ps := ["actual", "due"]) fun _ _ _ _ _ _ us hl => match us, hl with | [_, _], _ => rfl) rfl (fn_imp (ok__law_same F m_isinstance m_tuple m_list m_len m_range m_bool m_int m_str ih (by cases d with | zero => exact fun ds h => absurd rfl h | succ d => exact lenOk_len rfl)) fle_len)
theorem gf__law_same {P : Program} {w : World} {K : PySem.W.Frag} {mg : Str → Option Value} {base : Heap} {ct : String → Option Addr} (d__law_same : DefIn K mg "_law_same" "_law_same" s__law_same) (m_isinstance : mg "isinstance" = none) (m_tuple : mg "tuple" = none) (m_list : mg "list" = none) (m_len : mg "len" = none) (m_range : mg "range" = none) (m_bool : mg "bool" = none) (m_int : mg "int" = none) (m_str : mg "str" = none) : GF P w K mg base ct 9 "_law_same" sg__law_same (Fn__law_same 8) := gfr__law_same d__law_same m_isinstance m_tuple m_list m_len m_range m_bool m_int m_str 8
abbrev s__law_xor : Stmt := PySem.Challenge.pw_dapple_k01_sums_and_products.main.body.getD 13 (.Pass ⟨0, 0, 0, 0⟩)
theorem sc__law_xor : FnScope ["a", "b"] ["a", "b"] (defScope s__law_xor) := ⟨rfl, rfl, rfl, by decide +kernel, rfl, by decide +kernel, by decide +kernel⟩
theorem ok__law_xor {P : Program} {w : World} {K : PySem.W.Frag} {mg : Str → Option Value} {base : Heap} {ct : String → Option Addr} {f : Addr} {fd : FuncData} {k : Nat} (F : Fun K "_law_xor" "_law_xor" s__law_xor f fd)  :
    FnOk P w K mg base (L2.CX P w) (k + 1) f fd ["a", "b"] (spD K ct sg__law_xor (fn__law_xor)) :=
  fn_okR sg__law_xor F sc__law_xor 0 rfl rfl rfl (Γ1 := [.fz, .fz]) (fun cdv A outer s H E hr =>
  (dss_one (ds_ret (de_sub (de_or2 (de_var 0 (pu := true)) (de_var 1 (pu := true))) (de_and2 (de_var 0 (pu := true)) (de_var 1 (pu := true)))) (.same (.same .nil)) (.same (.same .nil)))))
theorem gf__law_xor {P : Program} {w : World} {K : PySem.W.Frag} {mg : Str → Option Value} {base : Heap} {ct : String → Option Addr} (d__law_xor : DefIn K mg "_law_xor" "_law_xor" s__law_xor) : GF P w K mg base ct 1 "_law_xor" sg__law_xor Fn__law_xor := by
  obtain ⟨f, fd, F, hm⟩ := d__law_xor
  exact .mk' F hm (F.binds (ps := ["a", "b"]) fun _ _ _ _ _ _ us hl => match us, hl with | [_, _], _ => rfl) rfl (fn_imp (ok__law_xor F) fle_len)
abbrev s__law_mul : Stmt := PySem.Challenge.pw_dapple_k01_sums_and_products.main.body.getD 14 (.Pass ⟨0, 0, 0, 0⟩)
theorem sc__law_mul : FnScope ["a", "b", "total", "k"] ["a", "b"] (defScope s__law_mul) := ⟨rfl, rfl, rfl, by decide +kernel, rfl, by decide +kernel, by decide +kernel⟩
theorem ok__law_mul {P : Program} {w : World} {K : PySem.W.Frag} {mg : Str → Option Value} {base : Heap} {ct : String → Option Addr} {f : Addr} {fd : FuncData} {k : Nat} (F : Fun K "_law_mul" "_law_mul" s__law_mul f fd) (m_range : mg "range" = none) {F__law_xor : FD} (G__law_xor : GF P w K mg base ct k "_law_xor" sg__law_xor F__law_xor) (L__law_xor : lenOk sg__law_xor F__law_xor) :
    FnOk P w K mg base (L2.CX P w) (k + 1) f fd ["a", "b"] (spD K ct sg__law_mul (fn__law_mul F__law_xor)) :=
  fn_okR sg__law_mul F sc__law_mul 2 rfl rfl rfl (Γ1 := [.fz, .fz, .fz, .fz]) (fun cdv A outer s H E hr =>
  (dss_cons (ds_set 2 sc__law_mul.nd (de_int (pu := true)) (.same (.same (.same (.same .nil)))))
  (dss_cons (ds_for rfl (di_range1 (da_cons (de_int (pu := true)) (da_nil (pu := true))) m_range) (tg_nm sc__law_mul.nd (i := 3)) (dss_one (ds_if (Γ1 := [.fz, .fz, .fz, .fz]) (dt_c1 (c_eq hr.units) (de_and2 (de_shr (de_var 1 (pu := true)) (de_var 3 (pu := true))) (de_int (pu := true))) (de_int (pu := true))) (dss_one (ds_set 2 sc__law_mul.nd (de_call (sg := sg__law_xor) G__law_xor.df hr (da_cons (de_var 2 (pu := true)) (da_cons (de_shl (de_var 0 (pu := true)) (de_var 3 (pu := true))) (da_nil (pu := true)))) L__law_xor (fzs rfl)) (.same (.same (.same (.same .nil)))))) dss_nil (.same (.same (.same (.same .nil)))))) (.same (.same (.same (.same .nil)))) (wip_cons wip_nil))
  (dss_cons (ds_for rfl (di_range3 (da_cons (de_int (pu := true)) (da_cons (de_int (pu := true)) (da_cons (de_neg (de_int (pu := true))) (da_nil (pu := true))))) (-1) m_range) (tg_nm sc__law_mul.nd (i := 3)) (dss_one (ds_if (Γ1 := [.fz, .fz, .fz, .fz]) (dt_c1 (c_eq hr.units) (de_and2 (de_shr (de_var 2 (pu := true)) (de_var 3 (pu := true))) (de_int (pu := true))) (de_int (pu := true))) (dss_one (ds_set 2 sc__law_mul.nd (de_call (sg := sg__law_xor) G__law_xor.df hr (da_cons (de_var 2 (pu := true)) (da_cons (de_shl (de_int (pu := true)) (de_sub (de_var 3 (pu := true)) (de_int (pu := true)))) (da_nil (pu := true)))) L__law_xor (fzs rfl)) (.same (.same (.same (.same .nil)))))) dss_nil (.same (.same (.same (.same .nil)))))) (.same (.same (.same (.same .nil)))) (wip_cons wip_nil))
  (dss_one (ds_ret (de_var 2 (pu := true)) (.same (.same (.same (.same .nil)))) (.same (.same (.same (.same .nil))))))))))
theorem gf__law_mul {P : Program} {w : World} {K : PySem.W.Frag} {mg : Str → Option Value} {base : Heap} {ct : String → Option Addr} (d__law_mul : DefIn K mg "_law_mul" "_law_mul" s__law_mul) (m_range : mg "range" = none) (G__law_xor : GF P w K mg base ct 1 "_law_xor" sg__law_xor Fn__law_xor) : GF P w K mg base ct 2 "_law_mul" sg__law_mul Fn__law_mul := by
  obtain ⟨f, fd, F, hm⟩ := d__law_mul
  exact .mk' F hm (F.binds (ps := ["a", "b"]) fun _ _ _ _ _ _ us hl => match us, hl with | [_, _], _ => rfl) rfl (fn_imp (ok__law_mul F m_range (G__law_xor.mono (by decide)) (lenOk_len rfl)) fle_len)
abbrev s_law : Stmt := PySem.Challenge.pw_dapple_k01_sums_and_products.main.body.getD 15 (.Pass ⟨0, 0, 0, 0⟩)
theorem sc_law : FnScope ["script", "pool", "turn", "a", "b"] ["script"] (defScope s_law) := ⟨rfl, rfl, rfl, by decide +kernel, rfl, by decide +kernel, by decide +kernel⟩
theorem ok_law {P : Program} {w : World} {K : PySem.W.Frag} {mg : Str → Option Value} {base : Heap} {ct : String → Option Addr} {f : Addr} {fd : FuncData} {k : Nat} (F : Fun K "law" "law" s_law f fd) (m_range : mg "range" = none) (m_min : mg "min" = none) {F__law_pool : FD} (G__law_pool : GF P w K mg base ct k "_law_pool" sg__law_pool F__law_pool) (L__law_pool : lenOk sg__law_pool F__law_pool) {F__law_draw : FD} (G__law_draw : GF P w K mg base ct k "_law_draw" sg__law_draw F__law_draw) {F__law_same : FD} (G__law_same : GF P w K mg base ct k "_law_same" sg__law_same F__law_same) (L__law_same : lenOk sg__law_same F__law_same) {F__law_xor : FD} (G__law_xor : GF P w K mg base ct k "_law_xor" sg__law_xor F__law_xor) (L__law_xor : lenOk sg__law_xor F__law_xor) {F_plus : FD} (G_plus : GF P w K mg base ct k "plus" sg_plus F_plus) (L_plus : lenOk sg_plus F_plus) {F__law_mul : FD} (G__law_mul : GF P w K mg base ct k "_law_mul" sg__law_mul F__law_mul) (L__law_mul : lenOk sg__law_mul F__law_mul) {F_times : FD} (G_times : GF P w K mg base ct k "times" sg_times F_times) (L_times : lenOk sg_times F_times) :
    FnOk P w K mg base (L2.CX P w) (k + 1) f fd ["script"] (spD K ct sg_law (fn_law F__law_pool F__law_draw F__law_same F__law_xor F_plus F__law_mul F_times)) :=
  fn_okR sg_law F sc_law 4 rfl rfl rfl (Γ1 := [.fz, (.ml .fz), .fz, .fz, .fz]) (fun cdv A outer s H E hr =>
  (dss_cons (ds_set 1 sc_law.nd (de_call (sg := sg__law_pool) G__law_pool.df hr (da_cons (de_var 0 (pu := true)) (da_nil (pu := true))) L__law_pool (fzs rfl)) (.same (.same (.same (.same (.same .nil))))))
  (dss_cons (ds_for rfl (di_range1 (da_cons (de_int (pu := true)) (da_nil (pu := true))) m_range) (tg_nm sc_law.nd (i := 2)) (dss_cons (ds_set 3 sc_law.nd (de_callM (sg := sg__law_draw) G__law_draw.df hr (dm_lend 1 (dm_cons (de_int (pu := true)) dm_nil))) (.same (.frz (.same (.same (.same .nil))))))
  (dss_cons (ds_set 4 sc_law.nd (de_ix (DE.frz (de_lst (da_cons (de_callM (sg := sg__law_draw) G__law_draw.df hr (dm_lend 1 (dm_cons (de_int (pu := true)) dm_nil))) (da_cons (de_var 3 (pu := true)) (da_cons (de_int (pu := true)) (da_cons (de_int (pu := true)) (da_nil (pu := true)))))))) (de_min2 rfl (da_cons (de_int (pu := true)) (da_cons (de_div (de_callM (sg := sg__law_draw) G__law_draw.df hr (dm_lend 1 (dm_cons (de_int (pu := true)) dm_nil))) (de_int (pu := true))) (da_nil (pu := true)))) m_min)) (.same (.frz (.same (.same (.same .nil))))))
  (dss_one (ds_if (Γ1 := [.fz, (.ml .fz), .fz, .fz, .fz]) (DW.pt (dw_or (dt_not (dt_val (de_call (sg := sg__law_same) G__law_same.df hr (da_cons (de_call (sg := sg_plus) G_plus.df hr (da_cons (de_var 3 (pu := true)) (da_cons (de_var 4 (pu := true)) (da_nil (pu := true)))) L_plus (fzs rfl)) (da_cons (de_call (sg := sg__law_xor) G__law_xor.df hr (da_cons (de_var 3 (pu := true)) (da_cons (de_var 4 (pu := true)) (da_nil (pu := true)))) L__law_xor (fzs rfl)) (da_nil (pu := true)))) L__law_same (fzs rfl)))) (dw_or1 (dt_not (dt_val (de_call (sg := sg__law_same) G__law_same.df hr (da_cons (de_call (sg := sg_times) G_times.df hr (da_cons (de_var 3 (pu := true)) (da_cons (de_var 4 (pu := true)) (da_nil (pu := true)))) L_times (fzs rfl)) (da_cons (de_call (sg := sg__law_mul) G__law_mul.df hr (da_cons (de_var 3 (pu := true)) (da_cons (de_var 4 (pu := true)) (da_nil (pu := true)))) L__law_mul (fzs rfl)) (da_nil (pu := true)))) L__law_same (fzs rfl))))))) (dss_one (ds_ret (de_bl (pu := true)) (.same (.frz (.same (.same (.same .nil))))) (.same (.frz (.same (.same (.same .nil))))))) dss_nil (.same (.frz (.same (.same (.same .nil))))))))) (.same (.frz (.same (.same (.same .nil))))) (wip_cons wip_nil))
  (dss_one (ds_ret (de_bl (pu := true)) (.same (.frz (.same (.same (.same .nil))))) (.same (.frz (.same (.same (.same .nil))))))))))
theorem gf_law {P : Program} {w : World} {K : PySem.W.Frag} {mg : Str → Option Value} {base : Heap} {ct : String → Option Addr} (d_law : DefIn K mg "law" "law" s_law) (m_range : mg "range" = none) (m_min : mg "min" = none) (G__law_pool : GF P w K mg base ct 1 "_law_pool" sg__law_pool Fn__law_pool) (G__law_draw : GF P w K mg base ct 2 "_law_draw" sg__law_draw Fn__law_draw) (G__law_same : GF P w K mg base ct 9 "_law_same" sg__law_same (Fn__law_same 8)) (G__law_xor : GF P w K mg base ct 1 "_law_xor" sg__law_xor Fn__law_xor) (G_plus : GF P w K mg base ct 2 "plus" sg_plus Fn_plus) (G__law_mul : GF P w K mg base ct 2 "_law_mul" sg__law_mul Fn__law_mul) (G_times : GF P w K mg base ct 1 "times" sg_times Fn_times) : GF P w K mg base ct 10 "law" sg_law Fn_law := by
  obtain ⟨f, fd, F, hm⟩ := d_law
  exact .mk' F hm (F.binds (ps := ["script"]) fun _ _ _ _ _ _ us hl => match us, hl with | [_], _ => rfl) rfl (fn_imp (ok_law F m_range m_min (G__law_pool.mono (by decide)) (lenOk_len rfl) (G__law_draw.mono (by decide)) (G__law_same.mono (by decide)) (by first | exact lenOk_len rfl | (intro ds h; exact absurd rfl h)) (G__law_xor.mono (by decide)) (lenOk_len rfl) (G_plus.mono (by decide)) (lenOk_len rfl) (G__law_mul.mono (by decide)) (lenOk_len rfl) (G_times.mono (by decide)) (lenOk_len rfl)) fle_len)
theorem all_mk {P : Program} {w : World} {K : PySem.W.Frag} {h : Heap} {mg : Str → Option Value} {fa : Addr} (X : K.In h) (G : h.Ns mainGlobals mg) (hfa : mg "law" = some (.ref fa))
    {f_digits_of : Addr} {od_digits_of an_digits_of : Option Addr} {sl_digits_of : Array (Option Value)} {oc_digits_of kV_digits_of dc_digits_of pm_digits_of cd_digits_of ct_digits_of : Value}
    {f_number_of : Addr} {od_number_of an_number_of : Option Addr} {sl_number_of : Array (Option Value)} {oc_number_of kV_number_of dc_number_of pm_number_of cd_number_of ct_number_of : Value}
    {f_plus : Addr} {od_plus an_plus : Option Addr} {sl_plus : Array (Option Value)} {oc_plus kV_plus dc_plus pm_plus cd_plus ct_plus : Value}
    {f_times : Addr} {od_times an_times : Option Addr} {sl_times : Array (Option Value)} {oc_times kV_times dc_times pm_times cd_times ct_times : Value}
    {f__law_pool : Addr} {od__law_pool an__law_pool : Option Addr} {sl__law_pool : Array (Option Value)} {oc__law_pool kV__law_pool dc__law_pool pm__law_pool cd__law_pool ct__law_pool : Value}
    {f__law_spread : Addr} {od__law_spread an__law_spread : Option Addr} {sl__law_spread : Array (Option Value)} {oc__law_spread kV__law_spread dc__law_spread pm__law_spread cd__law_spread ct__law_spread : Value}
    {f__law_draw : Addr} {od__law_draw an__law_draw : Option Addr} {sl__law_draw : Array (Option Value)} {oc__law_draw kV__law_draw dc__law_draw pm__law_draw cd__law_draw ct__law_draw : Value}
    {f__law_same : Addr} {od__law_same an__law_same : Option Addr} {sl__law_same : Array (Option Value)} {oc__law_same kV__law_same dc__law_same pm__law_same cd__law_same ct__law_same : Value}
    {f__law_xor : Addr} {od__law_xor an__law_xor : Option Addr} {sl__law_xor : Array (Option Value)} {oc__law_xor kV__law_xor dc__law_xor pm__law_xor cd__law_xor ct__law_xor : Value}
    {f__law_mul : Addr} {od__law_mul an__law_mul : Option Addr} {sl__law_mul : Array (Option Value)} {oc__law_mul kV__law_mul dc__law_mul pm__law_mul cd__law_mul ct__law_mul : Value}
    {f_law : Addr} {od_law an_law : Option Addr} {sl_law : Array (Option Value)} {oc_law kV_law dc_law pm_law cd_law ct_law : Value}
    {p_POWERS : Addr} {od_POWERS : Option Addr} {it_POWERS : Array Value} {n_POWERS : Nat} {sl_POWERS : Array (Option Value)}
    {p_EXPONENTS : Addr} {od_EXPONENTS : Option Addr} {it_EXPONENTS : Array Value} {n_EXPONENTS : Nat} {sl_EXPONENTS : Array (Option Value)}
    {u_SIZE : Value}
    (a_digits_of : PySem.W.nsIn K mainGlobals "digits_of" = some (some (.ref f_digits_of)))
    (l_digits_of : K.lookup f_digits_of = some ⟨oc_digits_of, od_digits_of, .func (PySem.W.fnOf "digits_of" "digits_of" (defArgs s_digits_of) (defBody s_digits_of) (defScope s_digits_of) .none kV_digits_of dc_digits_of pm_digits_of an_digits_of cd_digits_of ct_digits_of), sl_digits_of⟩)
    (c_digits_of : PySem.W.codeIn K cd_digits_of "digits_of" = true)
    (k_digits_of : PySem.W.keepIn K (.ref f_digits_of) = true)
    (a_number_of : PySem.W.nsIn K mainGlobals "number_of" = some (some (.ref f_number_of)))
    (l_number_of : K.lookup f_number_of = some ⟨oc_number_of, od_number_of, .func (PySem.W.fnOf "number_of" "number_of" (defArgs s_number_of) (defBody s_number_of) (defScope s_number_of) .none kV_number_of dc_number_of pm_number_of an_number_of cd_number_of ct_number_of), sl_number_of⟩)
    (c_number_of : PySem.W.codeIn K cd_number_of "number_of" = true)
    (k_number_of : PySem.W.keepIn K (.ref f_number_of) = true)
    (a_plus : PySem.W.nsIn K mainGlobals "plus" = some (some (.ref f_plus)))
    (l_plus : K.lookup f_plus = some ⟨oc_plus, od_plus, .func (PySem.W.fnOf "plus" "plus" (defArgs s_plus) (defBody s_plus) (defScope s_plus) .none kV_plus dc_plus pm_plus an_plus cd_plus ct_plus), sl_plus⟩)
    (c_plus : PySem.W.codeIn K cd_plus "plus" = true)
    (k_plus : PySem.W.keepIn K (.ref f_plus) = true)
    (a_times : PySem.W.nsIn K mainGlobals "times" = some (some (.ref f_times)))
    (l_times : K.lookup f_times = some ⟨oc_times, od_times, .func (PySem.W.fnOf "times" "times" (defArgs s_times) (defBody s_times) (defScope s_times) .none kV_times dc_times pm_times an_times cd_times ct_times), sl_times⟩)
    (c_times : PySem.W.codeIn K cd_times "times" = true)
    (k_times : PySem.W.keepIn K (.ref f_times) = true)
    (a__law_pool : PySem.W.nsIn K mainGlobals "_law_pool" = some (some (.ref f__law_pool)))
    (l__law_pool : K.lookup f__law_pool = some ⟨oc__law_pool, od__law_pool, .func (PySem.W.fnOf "_law_pool" "_law_pool" (defArgs s__law_pool) (defBody s__law_pool) (defScope s__law_pool) .none kV__law_pool dc__law_pool pm__law_pool an__law_pool cd__law_pool ct__law_pool), sl__law_pool⟩)
    (c__law_pool : PySem.W.codeIn K cd__law_pool "_law_pool" = true)
    (k__law_pool : PySem.W.keepIn K (.ref f__law_pool) = true)
    (a__law_spread : PySem.W.nsIn K mainGlobals "_law_spread" = some (some (.ref f__law_spread)))
    (l__law_spread : K.lookup f__law_spread = some ⟨oc__law_spread, od__law_spread, .func (PySem.W.fnOf "_law_spread" "_law_spread" (defArgs s__law_spread) (defBody s__law_spread) (defScope s__law_spread) .none kV__law_spread dc__law_spread pm__law_spread an__law_spread cd__law_spread ct__law_spread), sl__law_spread⟩)
    (c__law_spread : PySem.W.codeIn K cd__law_spread "_law_spread" = true)
    (k__law_spread : PySem.W.keepIn K (.ref f__law_spread) = true)
    (a__law_draw : PySem.W.nsIn K mainGlobals "_law_draw" = some (some (.ref f__law_draw)))
    (l__law_draw : K.lookup f__law_draw = some ⟨oc__law_draw, od__law_draw, .func (PySem.W.fnOf "_law_draw" "_law_draw" (defArgs s__law_draw) (defBody s__law_draw) (defScope s__law_draw) .none kV__law_draw dc__law_draw pm__law_draw an__law_draw cd__law_draw ct__law_draw), sl__law_draw⟩)
    (c__law_draw : PySem.W.codeIn K cd__law_draw "_law_draw" = true)
    (k__law_draw : PySem.W.keepIn K (.ref f__law_draw) = true)
    (a__law_same : PySem.W.nsIn K mainGlobals "_law_same" = some (some (.ref f__law_same)))
    (l__law_same : K.lookup f__law_same = some ⟨oc__law_same, od__law_same, .func (PySem.W.fnOf "_law_same" "_law_same" (defArgs s__law_same) (defBody s__law_same) (defScope s__law_same) .none kV__law_same dc__law_same pm__law_same an__law_same cd__law_same ct__law_same), sl__law_same⟩)
    (c__law_same : PySem.W.codeIn K cd__law_same "_law_same" = true)
    (k__law_same : PySem.W.keepIn K (.ref f__law_same) = true)
    (a__law_xor : PySem.W.nsIn K mainGlobals "_law_xor" = some (some (.ref f__law_xor)))
    (l__law_xor : K.lookup f__law_xor = some ⟨oc__law_xor, od__law_xor, .func (PySem.W.fnOf "_law_xor" "_law_xor" (defArgs s__law_xor) (defBody s__law_xor) (defScope s__law_xor) .none kV__law_xor dc__law_xor pm__law_xor an__law_xor cd__law_xor ct__law_xor), sl__law_xor⟩)
    (c__law_xor : PySem.W.codeIn K cd__law_xor "_law_xor" = true)
    (k__law_xor : PySem.W.keepIn K (.ref f__law_xor) = true)
    (a__law_mul : PySem.W.nsIn K mainGlobals "_law_mul" = some (some (.ref f__law_mul)))
    (l__law_mul : K.lookup f__law_mul = some ⟨oc__law_mul, od__law_mul, .func (PySem.W.fnOf "_law_mul" "_law_mul" (defArgs s__law_mul) (defBody s__law_mul) (defScope s__law_mul) .none kV__law_mul dc__law_mul pm__law_mul an__law_mul cd__law_mul ct__law_mul), sl__law_mul⟩)
    (c__law_mul : PySem.W.codeIn K cd__law_mul "_law_mul" = true)
    (k__law_mul : PySem.W.keepIn K (.ref f__law_mul) = true)
    (a_law : PySem.W.nsIn K mainGlobals "law" = some (some (.ref f_law)))
    (l_law : K.lookup f_law = some ⟨oc_law, od_law, .func (PySem.W.fnOf "law" "law" (defArgs s_law) (defBody s_law) (defScope s_law) .none kV_law dc_law pm_law an_law cd_law ct_law), sl_law⟩)
    (c_law : PySem.W.codeIn K cd_law "law" = true)
    (k_law : PySem.W.keepIn K (.ref f_law) = true)
    (z_range : PySem.W.nsIn K mainGlobals "range" = some none)
    (z_zip : PySem.W.nsIn K mainGlobals "zip" = some none)
    (z_int : PySem.W.nsIn K mainGlobals "int" = some none)
    (z_list : PySem.W.nsIn K mainGlobals "list" = some none)
    (z_len : PySem.W.nsIn K mainGlobals "len" = some none)
    (z_isinstance : PySem.W.nsIn K mainGlobals "isinstance" = some none)
    (z_tuple : PySem.W.nsIn K mainGlobals "tuple" = some none)
    (z_bool : PySem.W.nsIn K mainGlobals "bool" = some none)
    (z_str : PySem.W.nsIn K mainGlobals "str" = some none)
    (z_min : PySem.W.nsIn K mainGlobals "min" = some none)
    (a_POWERS : PySem.W.nsIn K mainGlobals "POWERS" = some (some (.ref p_POWERS)))
    (l_POWERS : K.lookup p_POWERS = some ⟨.type "tuple", od_POWERS, .seq it_POWERS n_POWERS, sl_POWERS⟩)
    (e_POWERS : it_POWERS.toList.map absV = ([(.int 1), (.int 2), (.int 4), (.int 8), (.int 16), (.int 5), (.int 10), (.int 20), (.int 13), (.int 26), (.int 17), (.int 7), (.int 14), (.int 28), (.int 29), (.int 31), (.int 27), (.int 19), (.int 3), (.int 6), (.int 12), (.int 24), (.int 21), (.int 15), (.int 30), (.int 25), (.int 23), (.int 11), (.int 22), (.int 9), (.int 18)] : List V).map some)
    (y_POWERS : decide (it_POWERS.size ≤ sizeLine) = true)
    (a_EXPONENTS : PySem.W.nsIn K mainGlobals "EXPONENTS" = some (some (.ref p_EXPONENTS)))
    (l_EXPONENTS : K.lookup p_EXPONENTS = some ⟨.type "tuple", od_EXPONENTS, .seq it_EXPONENTS n_EXPONENTS, sl_EXPONENTS⟩)
    (e_EXPONENTS : it_EXPONENTS.toList.map absV = ([(.int 0), (.int 0), (.int 1), (.int 18), (.int 2), (.int 5), (.int 19), (.int 11), (.int 3), (.int 29), (.int 6), (.int 27), (.int 20), (.int 8), (.int 12), (.int 23), (.int 4), (.int 10), (.int 30), (.int 17), (.int 7), (.int 22), (.int 28), (.int 26), (.int 21), (.int 25), (.int 9), (.int 16), (.int 13), (.int 14), (.int 24), (.int 15)] : List V).map some)
    (y_EXPONENTS : decide (it_EXPONENTS.size ≤ sizeLine) = true)
    (a_SIZE : PySem.W.nsIn K mainGlobals "SIZE" = some (some u_SIZE))
    (e_SIZE : absV u_SIZE = some (.int 32)) :
    ∃ fd : FuncData, (∀ (s : Shared) (v : Value), BindsTo s fd ⟨[v], []⟩ [("script", v)]) ∧ ∀ base : Heap, K.In base → base.Ns mainGlobals mg → FnOk P w K mg base (L2.CX P w) 10 fa fd ["script"] (spD K (fun _ => none) sg_law Fn_law) := by
  have d_digits_of : DefIn K mg "digits_of" "digits_of" s_digits_of := .of X G a_digits_of l_digits_of c_digits_of k_digits_of
  have d_number_of : DefIn K mg "number_of" "number_of" s_number_of := .of X G a_number_of l_number_of c_number_of k_number_of
  have d_plus : DefIn K mg "plus" "plus" s_plus := .of X G a_plus l_plus c_plus k_plus
  have d_times : DefIn K mg "times" "times" s_times := .of X G a_times l_times c_times k_times
  have d__law_pool : DefIn K mg "_law_pool" "_law_pool" s__law_pool := .of X G a__law_pool l__law_pool c__law_pool k__law_pool
  have d__law_spread : DefIn K mg "_law_spread" "_law_spread" s__law_spread := .of X G a__law_spread l__law_spread c__law_spread k__law_spread
  have d__law_draw : DefIn K mg "_law_draw" "_law_draw" s__law_draw := .of X G a__law_draw l__law_draw c__law_draw k__law_draw
  have d__law_same : DefIn K mg "_law_same" "_law_same" s__law_same := .of X G a__law_same l__law_same c__law_same k__law_same
  have d__law_xor : DefIn K mg "_law_xor" "_law_xor" s__law_xor := .of X G a__law_xor l__law_xor c__law_xor k__law_xor
  have d__law_mul : DefIn K mg "_law_mul" "_law_mul" s__law_mul := .of X G a__law_mul l__law_mul c__law_mul k__law_mul
  have d_law : DefIn K mg "law" "law" s_law := .of X G a_law l_law c_law k_law
  have m_range := PySem.W.mg_none_of X G z_range
  have m_zip := PySem.W.mg_none_of X G z_zip
  have m_int := PySem.W.mg_none_of X G z_int
  have m_list := PySem.W.mg_none_of X G z_list
  have m_len := PySem.W.mg_none_of X G z_len
  have m_isinstance := PySem.W.mg_none_of X G z_isinstance
  have m_tuple := PySem.W.mg_none_of X G z_tuple
  have m_bool := PySem.W.mg_none_of X G z_bool
  have m_str := PySem.W.mg_none_of X G z_str
  have m_min := PySem.W.mg_none_of X G z_min
  have c_POWERS : GC K mg _ "POWERS" v_POWERS := gc_tup (ct := fun _ => none) (PySem.W.mg_of X G a_POWERS) l_POWERS y_POWERS e_POWERS rfl
  have c_EXPONENTS : GC K mg _ "EXPONENTS" v_EXPONENTS := gc_tup (ct := fun _ => none) (PySem.W.mg_of X G a_EXPONENTS) l_EXPONENTS y_EXPONENTS e_EXPONENTS rfl
  have c_SIZE : GC K mg _ "SIZE" v_SIZE := gc_flat (ct := fun _ => none) (PySem.W.mg_of X G a_SIZE) rfl e_SIZE
  have e := hfa.symm.trans (PySem.W.mg_of X G a_law)
  cases e
  refine ⟨PySem.W.fnOf "law" "law" (defArgs s_law) (defBody s_law) (defScope s_law) .none kV_law dc_law pm_law an_law cd_law ct_law, fun s v => .of_eq rfl, fun base _ _ => ?_⟩
  have g_digits_of := gf_digits_of (P := P) (w := w) (base := base) (ct := fun _ => none) d_digits_of m_range
  have g_number_of := gf_number_of (P := P) (w := w) (base := base) (ct := fun _ => none) d_number_of
  have g_plus := gf_plus (P := P) (w := w) (base := base) (ct := fun _ => none) d_plus m_zip g_digits_of g_number_of
  have g_times := gf_times (P := P) (w := w) (base := base) (ct := fun _ => none) d_times c_POWERS c_EXPONENTS c_SIZE
  have g__law_pool := gf__law_pool (P := P) (w := w) (base := base) (ct := fun _ => none) d__law_pool m_int m_list
  have g__law_spread := gf__law_spread (P := P) (w := w) (base := base) (ct := fun _ => none) d__law_spread m_int m_range
  have g__law_draw := gf__law_draw (P := P) (w := w) (base := base) (ct := fun _ => none) d__law_draw m_len m_int g__law_spread
  have g__law_same := gf__law_same (P := P) (w := w) (base := base) (ct := fun _ => none) d__law_same m_isinstance m_tuple m_list m_len m_range m_bool m_int m_str
  have g__law_xor := gf__law_xor (P := P) (w := w) (base := base) (ct := fun _ => none) d__law_xor
  have g__law_mul := gf__law_mul (P := P) (w := w) (base := base) (ct := fun _ => none) d__law_mul m_range g__law_xor
  exact (fn_imp (ok_law (k := 9) (fun_mk l_law c_law k_law) m_range m_min (g__law_pool.mono (by decide)) (lenOk_len rfl) (g__law_draw.mono (by decide)) (g__law_same.mono (by decide)) (lenOk_len rfl) (g__law_xor.mono (by decide)) (lenOk_len rfl) (g_plus.mono (by decide)) (lenOk_len rfl) (g__law_mul.mono (by decide)) (lenOk_len rfl) (g_times.mono (by decide)) (lenOk_len rfl)) fle_len)
end LW
open PySem PySem.W PyProof.Rows
set_option maxHeartbeats 0 in
theorem PySem.Challenge.cw_dapple_k01_sums_and_products_holds : PySem.Challenge.rw_dapple_k01_sums_and_products.Holds := by
  w_on; o_law; k_head; (case hw => w_witness2)
  k_fill
  refine L2.walk_of (l := PySem.Challenge.rw_dapple_k01_sums_and_products) (n := 63) (k := 10) (x := "script") (CX := fun w => L2.CX PySem.Challenge.rw_dapple_k01_sums_and_products.prog w) (sp := fun w => DL.spD _ (fun _ => none) LW.sg_law LW.Fn_law) rfl (by decide) rfl ⟨rfl, by decide, by decide⟩ (fun w h Y => PySem.W.kIn_of Y) ?F (fun _ _ a ns hl _ hS => DL.sp_law rfl rfl hS (LW.law_true ns).choose_spec) (fun _ _ _ _ _ h => DL.cx_no h)
  case F =>
    intro w mg fa h KX G hmg
    refine' LW.all_mk KX G hmg ?a_digits_of ?l_digits_of ?c_digits_of ?k_digits_of ?a_number_of ?l_number_of ?c_number_of ?k_number_of ?a_plus ?l_plus ?c_plus ?k_plus ?a_times ?l_times ?c_times ?k_times ?a__law_pool ?l__law_pool ?c__law_pool ?k__law_pool ?a__law_spread ?l__law_spread ?c__law_spread ?k__law_spread ?a__law_draw ?l__law_draw ?c__law_draw ?k__law_draw ?a__law_same ?l__law_same ?c__law_same ?k__law_same ?a__law_xor ?l__law_xor ?c__law_xor ?k__law_xor ?a__law_mul ?l__law_mul ?c__law_mul ?k__law_mul ?a_law ?l_law ?c_law ?k_law ?z_range ?z_zip ?z_int ?z_list ?z_len ?z_isinstance ?z_tuple ?z_bool ?z_str ?z_min ?a_POWERS ?l_POWERS ?e_POWERS ?y_POWERS ?a_EXPONENTS ?l_EXPONENTS ?e_EXPONENTS ?y_EXPONENTS ?a_SIZE ?e_SIZE
    (case a_digits_of => k_is); (case l_digits_of => k_is); (case c_digits_of => k_is); (case k_digits_of => k_is); (case a_number_of => k_is); (case l_number_of => k_is)
    (case c_number_of => k_is); (case k_number_of => k_is); (case a_plus => k_is); (case l_plus => k_is); (case c_plus => k_is); (case k_plus => k_is)
    (case a_times => k_is); (case l_times => k_is); (case c_times => k_is); (case k_times => k_is); (case a__law_pool => k_is); (case l__law_pool => k_is)
    (case c__law_pool => k_is); (case k__law_pool => k_is); (case a__law_spread => k_is); (case l__law_spread => k_is); (case c__law_spread => k_is); (case k__law_spread => k_is)
    (case a__law_draw => k_is); (case l__law_draw => k_is); (case c__law_draw => k_is); (case k__law_draw => k_is); (case a__law_same => k_is); (case l__law_same => k_is)
    (case c__law_same => k_is); (case k__law_same => k_is); (case a__law_xor => k_is); (case l__law_xor => k_is); (case c__law_xor => k_is); (case k__law_xor => k_is)
    (case a__law_mul => k_is); (case l__law_mul => k_is); (case c__law_mul => k_is); (case k__law_mul => k_is); (case a_law => k_is); (case l_law => k_is)
    (case c_law => k_is); (case k_law => k_is); (case z_range => k_is); (case z_zip => k_is); (case z_int => k_is); (case z_list => k_is)
    (case z_len => k_is); (case z_isinstance => k_is); (case z_tuple => k_is); (case z_bool => k_is); (case z_str => k_is); (case z_min => k_is)
    (case a_POWERS => k_is); (case l_POWERS => k_is); (case e_POWERS => rfl); (case y_POWERS => first | rfl | decide +kernel); (case a_EXPONENTS => k_is); (case l_EXPONENTS => k_is)
    (case e_EXPONENTS => rfl); (case y_EXPONENTS => first | rfl | decide +kernel); (case a_SIZE => k_is); (case e_SIZE => rfl)
