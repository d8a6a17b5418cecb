import PyProof.Rows.All
import Wide.All
import OpenK.AllK
import Wide.FinOn
import HandS.ForMost
import HandS.Exc
import HandS.TryOnly
import HandS.TryMany
import HandS.ExcOwn
import HandS.WordsExc
import HandS.IsInst
import HandS.Wide
import HandS.WideBits
import HandS.Flow
import HandS.More
import HandS.SortRule
import HandS.Defaults
import HandS.DictTup
import KE.KDictKeyed
import HandS.Iter
import PyProof.LongRange
import HandS.HeadEnd
import PySem.Challenge.RW_namehouses_k22_let_of_any_house
import HandS.HeadHook1
import HandS.HeadHook2
import HandS.Head0
import HandS.Head1
import HandS.Head2
set_option Elab.async false
set_option linter.all false
set_option maxRecDepth 100000
/-! The ledger: what is known of the heap, as two lists. -/
namespace Lg
open PySem L2

abbrev Led := List (Addr × HO)
abbrev Tps := List (Addr × List V)
def mutO : HO → Bool
  | .tup _ => false
  | _ => true
structure Hs (H : Hp) (L : Led) (T : Tps) : Prop where
  nd : (L.map (·.1)).Nodup
  at_ : ∀ x, x ∈ L → H x.1 = some x.2
  tp : ∀ x, x ∈ T → H x.1 = some (.tup x.2)
/-- P holds of every heap that the ledger tells -/
def Wp (L : Led) (T : Tps) (P : Hp → Prop) : Prop := ∀ H, Hs H L T → P H

/-! ### the ledger's moves -/
inductive Up : Led → Addr → HO → HO → Led → Prop
  | here {p o o' L} : Up ((p, o) :: L) p o o' ((p, o') :: L)
  | there {x L p o o' L'} : Up L p o o' L' → Up (x :: L) p o o' (x :: L')
  | app {C L p o o' L'} : Up L p o o' L' → Up (C ++ L) p o o' (C ++ L')
  | appL {C C' L p o o'} : Up C p o o' C' → Up (C ++ L) p o o' (C' ++ L)
theorem Up.mem {L L' : Led} {p : Addr} {o o' : HO} (u : Up L p o o' L') : (p, o) ∈ L := by
  induction u with
  | here => exact List.mem_cons_self
  | there _ ih => exact List.mem_cons_of_mem _ ih
  | app _ ih => exact List.mem_append_right _ ih
  | appL _ ih => exact List.mem_append_left _ ih
theorem Up.keys {L L' : Led} {p : Addr} {o o' : HO} (u : Up L p o o' L') : L'.map (·.1) = L.map (·.1) := by
  induction u with
  | here => rfl
  | there _ ih => simp only [List.map_cons, ih]
  | app _ ih => simp only [List.map_append, ih]
  | appL _ ih => simp only [List.map_append, ih]
theorem Up.new {L L' : Led} {p : Addr} {o o' : HO} (u : Up L p o o' L') : (p, o') ∈ L' := by
  induction u with
  | here => exact List.mem_cons_self
  | there _ ih => exact List.mem_cons_of_mem _ ih
  | app _ ih => exact List.mem_append_right _ ih
  | appL _ ih => exact List.mem_append_left _ ih
theorem Up.old {L L' : Led} {p : Addr} {o o' : HO} (u : Up L p o o' L') : ∀ x, x ∈ L' → x = (p, o') ∨ x ∈ L := by
  induction u with
  | here =>
    intro x hx
    rcases List.mem_cons.mp hx with e | e
    · exact .inl e
    · exact .inr (List.mem_cons_of_mem _ e)
  | there _ ih =>
    intro x hx
    rcases List.mem_cons.mp hx with e | e
    · exact .inr (e ▸ List.mem_cons_self)
    · rcases ih x e with z | z
      · exact .inl z
      · exact .inr (List.mem_cons_of_mem _ z)
  | app _ ih =>
    intro x hx
    rcases List.mem_append.mp hx with e | e
    · exact .inr (List.mem_append_left _ e)
    · rcases ih x e with z | z
      · exact .inl z
      · exact .inr (List.mem_append_right _ z)
  | appL _ ih =>
    intro x hx
    rcases List.mem_append.mp hx with e | e
    · rcases ih x e with z | z
      · exact .inl z
      · exact .inr (List.mem_append_left _ z)
    · exact .inr (List.mem_append_right _ e)
theorem key_inj {L : Led} (nd : (L.map (·.1)).Nodup) {x y : Addr × HO} (hx : x ∈ L) (hy : y ∈ L) (e : x.1 = y.1) : x = y := by
  obtain ⟨i, hi, ei⟩ := List.mem_iff_getElem.mp hx
  obtain ⟨j, hj, ej⟩ := List.mem_iff_getElem.mp hy
  have hi' : i < (L.map (·.1)).length := by simpa using hi
  have hj' : j < (L.map (·.1)).length := by simpa using hj
  have e2 : (L.map (·.1))[i] = (L.map (·.1))[j] := by simp only [List.getElem_map, ei, ej, e]
  have e3 : i = j := (List.getElem_inj nd).mp e2
  subst e3
  exact ei.symm.trans ej
theorem Hs.up {H : Hp} {L L' : Led} {T : Tps} {p : Addr} {o o' : HO} (h : Hs H L T) (u : Up L p o o' L') (m : mutO o = true) : Hs (upd H p o') L' T where
  nd := by rw [u.keys]; exact h.nd
  at_ := fun x hx => by
    have nd' : (L'.map (·.1)).Nodup := by rw [u.keys]; exact h.nd
    by_cases e : x.1 = p
    · have e2 := key_inj nd' hx u.new e
      rw [e2]; exact upd_same
    · rw [upd_ne e]
      rcases u.old x hx with z | z
      · exact absurd (congrArg (·.1) z) e
      · exact h.at_ x z
  tp := fun x hx => by
    have e : x.1 ≠ p := fun e => by
      have h1 := h.tp x hx
      have h2 := h.at_ _ u.mem
      rw [e] at h1
      have h3 : some (HO.tup x.2) = some o := h1.symm.trans h2
      injection h3 with h3
      rw [← h3] at m
      cases m
    rw [upd_ne e]
    exact h.tp x hx
theorem Hs.new {H : Hp} {L : Led} {T : Tps} {p : Addr} {o : HO} (h : Hs H L T) (hp : H p = none) : Hs (upd H p o) ((p, o) :: L) T where
  nd := by
    rw [List.map_cons, List.nodup_cons]
    refine ⟨fun hm => ?_, h.nd⟩
    obtain ⟨x, hx, e⟩ := List.mem_map.mp hm
    have h1 := h.at_ x hx
    rw [e, hp] at h1
    cases h1
  at_ := fun x hx => by
    rcases List.mem_cons.mp hx with e | e
    · rw [e]; exact upd_same
    · rw [upd_ne (ne_of_none (h.at_ x e) hp)]
      exact h.at_ x e
  tp := fun x hx => by
    rw [upd_ne (ne_of_none (h.tp x hx) hp)]
    exact h.tp x hx
theorem Hs.newT {H : Hp} {L : Led} {T : Tps} {p : Addr} {xs : List V} (h : Hs H L T) (hp : H p = none) : Hs (upd H p (.tup xs)) L ((p, xs) :: T) where
  nd := h.nd
  at_ := fun x hx => by
    rw [upd_ne (ne_of_none (h.at_ x hx) hp)]
    exact h.at_ x hx
  tp := fun x hx => by
    rcases List.mem_cons.mp hx with e | e
    · rw [e]; exact upd_same
    · rw [upd_ne (ne_of_none (h.tp x e) hp)]
      exact h.tp x e
/-- an object that the ledger does not tell -/
theorem Hs.aside {H : Hp} {L : Led} {T : Tps} {p : Addr} {o : HO} (h : Hs H L T) (hp : H p = none) : Hs (upd H p o) L T where
  nd := h.nd
  at_ := fun x hx => by
    rw [upd_ne (ne_of_none (h.at_ x hx) hp)]
    exact h.at_ x hx
  tp := fun x hx => by
    rw [upd_ne (ne_of_none (h.tp x hx) hp)]
    exact h.tp x hx

/-- one entry taken out -/
inductive Rm : Led → Addr × HO → Led → Prop
  | here {x L} : Rm (x :: L) x L
  | there {y L x L'} : Rm L x L' → Rm (y :: L) x (y :: L')
  | app {C L x L'} : Rm L x L' → Rm (C ++ L) x (C ++ L')
  | appL {C C' L x} : Rm C x C' → Rm (C ++ L) x (C' ++ L)
theorem Rm.perm {L L' : Led} {x : Addr × HO} (r : Rm L x L') : L.Perm (x :: L') := by
  induction r with
  | here => exact .refl _
  | there _ ih => exact (ih.cons _).trans (.swap _ _ _)
  | app _ ih => exact (ih.append_left _).trans List.perm_middle
  | appL _ ih => exact ih.append_right _
/-- a part of the ledger taken out -/
inductive RmC : Led → Led → Led → Prop
  | here {C L} : RmC (C ++ L) C L
  | there {y L C L'} : RmC L C L' → RmC (y :: L) C (y :: L')
  | app {D L C L'} : RmC L C L' → RmC (D ++ L) C (D ++ L')
theorem RmC.perm {L L' C : Led} (r : RmC L C L') : L.Perm (C ++ L') := by
  induction r with
  | here => exact .refl _
  | there _ ih => exact (ih.cons _).trans List.perm_middle.symm
  | @app D L C L' _ ih =>
    refine (ih.append_left D).trans ?_
    rw [← List.append_assoc, ← List.append_assoc]
    exact List.perm_append_comm.append_right _
/-- P stands ahead, F is the rest -/
inductive Pk : Led → Led → Led → Prop
  | nil {L} : Pk L [] L
  | cons {L x L1 P F} : Rm L x L1 → Pk L1 P F → Pk L (x :: P) F
  | chunk {L C L1 P F} : RmC L C L1 → Pk L1 P F → Pk L (C ++ P) F
  | chunk1 {L C L1} : RmC L C L1 → Pk L C L1
theorem Pk.perm {L P F : Led} (k : Pk L P F) : L.Perm (P ++ F) := by
  induction k with
  | nil => exact .refl _
  | cons r _ ih => exact r.perm.trans (ih.cons _)
  | chunk r _ ih =>
    rw [List.append_assoc]
    exact r.perm.trans (ih.append_left _)
  | chunk1 r => exact r.perm
theorem Hs.perm {H : Hp} {L L' : Led} {T : Tps} (h : Hs H L T) (p : L.Perm L') : Hs H L' T where
  nd := ((p.map _).nodup_iff).mp h.nd
  at_ := fun x hx => h.at_ x (p.mem_iff.mpr hx)
  tp := h.tp
theorem Hs.pk {H : Hp} {L P F : Led} {T : Tps} (h : Hs H L T) (k : Pk L P F) : Hs H (P ++ F) T := h.perm k.perm
inductive Dr : Led → Led → Prop
  | refl {L} : Dr L L
  | drop {x L F} : Dr L F → Dr (x :: L) F
  | dropC {C L F} : Dr L F → Dr (C ++ L) F
theorem Dr.sub {L F : Led} (d : Dr L F) : F.Sublist L := by
  induction d with
  | refl => exact .refl _
  | drop _ ih => exact .cons _ ih
  | dropC _ ih => exact ih.trans (List.sublist_append_right _ _)
theorem Hs.sub {H : Hp} {L L' : Led} {T : Tps} (h : Hs H L T) (s : L'.Sublist L) : Hs H L' T where
  nd := h.nd.sublist (s.map _)
  at_ := fun x hx => h.at_ x (s.subset hx)
  tp := h.tp
/-- the ledger L tells all that M tells -/
inductive Sb : Led → Led → Prop
  | done {L F} : Dr L F → Sb L F
  | take {L x L1 M} : Rm L x L1 → Sb L1 M → Sb L (x :: M)
  | chunk {L C L1 M} : RmC L C L1 → Sb L1 M → Sb L (C ++ M)
theorem Sb.get {L M : Led} (s : Sb L M) : ∃ R, L.Perm (M ++ R) := by
  induction s with
  | done d =>
    have s := d.sub
    exact ⟨_, (List.Sublist.exists_perm_append s).choose_spec⟩
  | take r _ ih =>
    obtain ⟨R, p⟩ := ih
    exact ⟨R, r.perm.trans (p.cons _)⟩
  | chunk r _ ih =>
    obtain ⟨R, p⟩ := ih
    exact ⟨R, by rw [List.append_assoc]; exact r.perm.trans (p.append_left _)⟩
theorem Hs.sb {H : Hp} {L M : Led} {T : Tps} (h : Hs H L T) (s : Sb L M) : Hs H M T := by
  obtain ⟨R, p⟩ := s.get
  exact (h.perm p).sub (List.sublist_append_left _ _)
def Ts (T T' : Tps) : Prop := ∀ x, x ∈ T' → x ∈ T
theorem Hs.ts {H : Hp} {L : Led} {T T' : Tps} (h : Hs H L T) (s : Ts T T') : Hs H L T' := ⟨h.nd, h.at_, fun x hx => h.tp x (s x hx)⟩
theorem Ts.refl {T : Tps} : Ts T T := fun _ h => h
theorem Ts.cons {T T' : Tps} {x : Addr × List V} (h : Ts T T') : Ts (x :: T) T' := fun y hy => List.mem_cons_of_mem _ (h y hy)
theorem Ts.app {T T' C : Tps} (h : Ts T T') : Ts (C ++ T) T' := fun y hy => List.mem_append_right _ (h y hy)
theorem Ts.nil {T : Tps} : Ts T [] := fun _ h => nomatch h
theorem Ts.add {T T' : Tps} {x : Addr × List V} (h : x ∈ T) (s : Ts T T') : Ts T (x :: T') := fun y hy => by
  rcases List.mem_cons.mp hy with e | e
  · rw [e]; exact h
  · exact s y e
theorem Ts.addC {T T' C : Tps} (h : Ts T C) (s : Ts T T') : Ts T (C ++ T') := fun y hy => (List.mem_append.mp hy).elim (h y) (s y)
theorem Ts.trans {T T' T'' : Tps} (h : Ts T T') (s : Ts T' T'') : Ts T T'' := fun y hy => h y (s y hy)
section
variable {L L' : Led} {T T' : Tps} {P : Hp → Prop}
theorem Wp.weak (s : Sb L L') (t : Ts T T') (h : Wp L' T' P) : Wp L T P := fun H hs => h H ((hs.sb s).ts t)
theorem Wp.ts (t : Ts T T') (h : Wp L T' P) : Wp L T P := fun H hs => h H (hs.ts t)
theorem Wp.perm (p : L.Perm L') (h : Wp L' T P) : Wp L T P := fun H hs => h H (hs.perm p)
theorem Wp.pk {F Q : Led} (k : Pk L Q F) (h : Wp (Q ++ F) T P) : Wp L T P := fun H hs => h H (hs.pk k)
theorem Wp.of (h : ∀ H, P H) : Wp L T P := fun H _ => h H
end
end Lg
/-! The readings over the ledger, one step a lemma. -/
namespace Lg
open PySem L2

/-! ### what stands where -/
def WE (L : Led) (T : Tps) (te : TE) (σ : St) (k : VK) : Prop := ∀ H, Hs H L T → te σ H k
def WV (L : Led) (T : Tps) (k : VK) (v : V) : Prop := ∀ H, Hs H L T → k v H
def WT (L : Led) (T : Tps) (t : TT) (σ : St) (k : Bool → Hp → Prop) : Prop := ∀ H, Hs H L T → t σ H k
def WB (L : Led) (T : Tps) (k : Bool → Hp → Prop) (b : Bool) : Prop := ∀ H, Hs H L T → k b H
def WA (L : Led) (T : Tps) (t : TA) (σ : St) (k : List V → Hp → Prop) : Prop := ∀ H, Hs H L T → t σ H k
def WVs (L : Led) (T : Tps) (k : List V → Hp → Prop) (vs : List V) : Prop := ∀ H, Hs H L T → k vs H
def WS (L : Led) (T : Tps) (t : TS) (D : Ends) (σ : St) : Prop := ∀ H, Hs H L T → t D σ H
def WN (L : Led) (T : Tps) (n : St → Hp → Prop) (σ : St) : Prop := ∀ H, Hs H L T → n σ H
def WG (L : Led) (T : Tps) (g : TG) (v : V) (σ : St) (n : St → Hp → Prop) : Prop := ∀ H, Hs H L T → g v σ H n
def WGs (L : Led) (T : Tps) (g : TGs) (vs : List V) (σ : St) (n : St → Hp → Prop) : Prop := ∀ H, Hs H L T → g vs σ H n
def WR (L : Led) (T : Tps) (r : R2) (x y : V) (k : VK) : Prop := ∀ H, Hs H L T → r x y H k
def WU (L : Led) (T : Tps) (r : V → Hp → VK → Prop) (x : V) (k : VK) : Prop := ∀ H, Hs H L T → r x H k
def WC (L : Led) (T : Tps) (r : List V → Hp → VK → Prop) (vs : List V) (k : VK) : Prop := ∀ H, Hs H L T → r vs H k
def WM (L : Led) (T : Tps) (r : V → List V → Hp → VK → Prop) (x : V) (vs : List V) (k : VK) : Prop := ∀ H, Hs H L T → r x vs H k
def WSp (L : Led) (T : Tps) (sp : Sp) (vs : List V) (k : VK) (E : XK) : Prop := ∀ H, Hs H L T → sp vs H k E
def WX' (L : Led) (T : Tps) (E : XK) (c : Value) (d : Option Addr) : Prop := ∀ H, Hs H L T → E c d H
def WO (L : Led) (T : Tps) (t : TO) (σ : St) (k : Option Int → Hp → Prop) : Prop := ∀ H, Hs H L T → t σ H k
def WI (L : Led) (T : Tps) (wi : TI) (σ : St) (R : It → Hp → Prop) : Prop := ∀ H, Hs H L T → wi σ H R
def WJ (L : Led) (T : Tps) (R : It → Hp → Prop) (J : It) : Prop := ∀ H, Hs H L T → R J H

/-! ### what waits for a value -/
def kOpA (r : R2) (tb : TE) (σ : St) (k : VK) : VK := fun x H => tb σ H fun y H2 => r x y H2 k
def kOpB (r : R2) (x : V) (k : VK) : VK := fun y H => r x y H k
def kUn (r : V → Hp → VK → Prop) (k : VK) : VK := fun x H => r x H k
def kB (k : Bool → Hp → Prop) : VK := fun x H => ∃ b, x = .bl b ∧ k b H
def kAndV (tb : TE) (σ : St) (k : VK) : VK := fun x H => ∃ c, x = .bl c ∧ if c = true then tb σ H k else k (.bl false) H
def kOrV (tb : TE) (σ : St) (k : VK) : VK := fun x H => ∃ c, x = .bl c ∧ if c = true then k (.bl true) H else tb σ H k
def kNotV (k : VK) : VK := fun x H => ∃ c, x = .bl c ∧ k (.bl (!c)) H
def kChA (r r' : R2) (tb tc : TE) (σ : St) (k : VK) : VK := fun x H => tb σ H fun y H2 => r x y H2 fun z H3 => ∃ c, z = .bl c ∧ (if c = true then tc σ H3 fun w H4 => r' y w H4 k else k (.bl false) H3)
def kChB (r r' : R2) (x : V) (tc : TE) (σ : St) (k : VK) : VK := fun y H2 => r x y H2 fun z H3 => ∃ c, z = .bl c ∧ (if c = true then tc σ H3 fun w H4 => r' y w H4 k else k (.bl false) H3)
def kChC (r' : R2) (y : V) (tc : TE) (σ : St) (k : VK) : VK := fun z H3 => ∃ c, z = .bl c ∧ (if c = true then tc σ H3 fun w H4 => r' y w H4 k else k (.bl false) H3)
def kAnd (u : TT) (σ : St) (k : Bool → Hp → Prop) : Bool → Hp → Prop := fun c H => if c = true then u σ H k else k false H
def kOr (u : TT) (σ : St) (k : Bool → Hp → Prop) : Bool → Hp → Prop := fun c H => if c = true then k true H else u σ H k
def kNot (k : Bool → Hp → Prop) : Bool → Hp → Prop := fun c H => k (!c) H
def kIf (ta tb : TE) (σ : St) (k : VK) : Bool → Hp → Prop := fun c H => if c = true then ta σ H k else tb σ H k
def kIfS (t u : TS) (D : Ends) (σ : St) : Bool → Hp → Prop := fun b H => if b = true then t D σ H else u D σ H
def kCons (tr : TA) (σ : St) (k : List V → Hp → Prop) : VK := fun x H => tr σ H fun xs H2 => k (x :: xs) H2
def kConsB (x : V) (k : List V → Hp → Prop) : List V → Hp → Prop := fun xs H => k (x :: xs) H
def kTup (k : VK) : List V → Hp → Prop := fun xs H => xs.length ≤ sizeLine ∧ ∀ p, H p = none → k (.ref p) (upd H p (.tup xs))
def kLst (k : VK) : List V → Hp → Prop := fun xs H => xs.length ≤ sizeLine ∧ ∀ p, H p = none → k (.ref p) (upd H p (.lst xs))
def kCB (r : List V → Hp → VK → Prop) (k : VK) : List V → Hp → Prop := fun vs H => r vs H k
def kCall (sp : Sp) (dvs : List V) (E : XK) (k : VK) : List V → Hp → Prop := fun vs H => sp (vs ++ dvs) H k E
def kAsg (g : TG) (σ : St) (n : St → Hp → Prop) : VK := fun x H => g x σ H n
def kDrop (n : St → Hp → Prop) (σ : St) : VK := fun _ H => n σ H
def kFld (K : PySem.W.Frag) (f : Str) (k : VK) : VK := fun x H1 => ∃ a C dx fs v, x = .ref a ∧ H1 a = some (.ins C dx fs) ∧ Cls K C ∧ NoAttr K C f ∧ fs.lookup f = some v ∧ k v H1
def kSFldA (K : PySem.W.Frag) (ta : TE) (f : Str) (D : Ends) (σ : St) : VK := fun y H1 => ta σ H1 fun x H2 => ∃ a C dx fs, x = .ref a ∧ H2 a = some (.ins C dx fs) ∧ Cls K C ∧ NoAttr K C f ∧ fs.length < 1000 ∧ D.nx σ (upd H2 a (.ins C dx (putF f y fs)))
def kSFldB (K : PySem.W.Frag) (y : V) (f : Str) (D : Ends) (σ : St) : VK := fun x H2 => ∃ a C dx fs, x = .ref a ∧ H2 a = some (.ins C dx fs) ∧ Cls K C ∧ NoAttr K C f ∧ fs.length < 1000 ∧ D.nx σ (upd H2 a (.ins C dx (putF f y fs)))
def kMeth (C : Addr) (m : Str) (sp : Sp) (dvs : List V) (E : XK) (t : TA) (σ : St) (k : VK) : VK := fun x H1 => ∃ a dx fs, x = .ref a ∧ H1 a = some (.ins C dx fs) ∧ fs.lookup m = none ∧ t σ H1 fun vs H2 => sp (x :: (vs ++ dvs)) H2 k E
def kMethB (a : Addr) (sp : Sp) (dvs : List V) (E : XK) (k : VK) : List V → Hp → Prop := fun vs H2 => sp (.ref a :: (vs ++ dvs)) H2 k E
def kMake (C : Addr) (sp : Sp) (dvs : List V) (E : XK) (k : VK) : List V → Hp → Prop := fun vs H1 => ∀ x dx, H1 x = none → H1 dx = none → dx ≠ x → sp (.ref x :: (vs ++ dvs)) (upd (upd H1 dx (.own x)) x (.ins C dx [])) (fun v H2 => v = .non ∧ k (.ref x) H2) E
def kMade (p : Addr) (k : VK) : VK := fun v H2 => v = .non ∧ k (.ref p) H2
def kBM (K : PySem.W.Frag) (T' : String) (r : V → List V → Hp → VK → Prop) (t : TA) (σ : St) (k : VK) : VK := fun x H1 => tyV K T' x H1 ∧ t σ H1 fun xs H2 => r x xs H2 k
def kBMB (r : V → List V → Hp → VK → Prop) (x : V) (k : VK) : List V → Hp → Prop := fun xs H2 => r x xs H2 k
def kBM0 (K : PySem.W.Frag) (T' : String) (r : V → List V → Hp → VK → Prop) (k : VK) : VK := fun x H1 => tyV K T' x H1 ∧ r x [] H1 k
def kPart (k : Option Int → Hp → Prop) : VK := fun x H => ∃ i, x = .int i ∧ k (some i) H
def kSlA (r : V → Option Int → Option Int → Hp → VK → Prop) (tl th : TO) (σ : St) (k : VK) : VK := fun x H => tl σ H fun l H2 => th σ H2 fun u H3 => r x l u H3 k
def kSlB (r : V → Option Int → Option Int → Hp → VK → Prop) (x : V) (th : TO) (σ : St) (k : VK) : Option Int → Hp → Prop := fun l H2 => th σ H2 fun u H3 => r x l u H3 k
def kSlC (r : V → Option Int → Option Int → Hp → VK → Prop) (x : V) (l : Option Int) (k : VK) : Option Int → Hp → Prop := fun u H3 => r x l u H3 k
def kAug (i : Nat) (x : V) (ti : TIp) (σ : St) (n : St → Hp → Prop) : VK := fun y H1 => ti x y H1 fun z H2 => n (σ.set i (some z)) H2
def kAugB (i : Nat) (σ : St) (n : St → Hp → Prop) : VK := fun z H2 => n (σ.set i (some z)) H2
def kTru (K : PySem.W.Frag) (k : Bool → Hp → Prop) : VK := fun x H => ∃ b, TruV K x H b ∧ k b H

/-! ### slots -/
inductive SetAt : St → Nat → V → St → Prop
  | z {x t v} : SetAt (x :: t) 0 v (some v :: t)
  | s {x t i v t'} : SetAt t i v t' → SetAt (x :: t) (i + 1) v (x :: t')
theorem SetAt.eq {σ σ' : St} {i : Nat} {v : V} (h : SetAt σ i v σ') : σ.set i (some v) = σ' := by
  induction h with
  | z => rfl
  | s _ ih => rw [List.set_cons_succ, ih]

section
variable {L L' : Led} {T T' : Tps} {σ σ' : St} {k : VK} {kb : Bool → Hp → Prop} {ks : List V → Hp → Prop} {ta tb tc te tx : TE} {t u : TT} {x y z v : V} {r r' : R2} {n : St → Hp → Prop} {D : Ends} {K : PySem.W.Frag}

/-! ### names, constants -/
theorem we_var {i : Nat} (h : σ[i]? = some (some v)) (q : WV L T k v) : WE L T (tVar i) σ k := fun H hs => ⟨v, h, q H hs⟩
theorem we_c (q : WV L T k v) : WE L T (tC v) σ k := fun H hs => q H hs

/-! ### operators -/
theorem we_op (q : WE L T ta σ (kOpA r tb σ k)) : WE L T (tOp r ta tb) σ k := q
theorem wv_opA (q : WE L T tb σ (kOpB r x k)) : WV L T (kOpA r tb σ k) x := q
theorem wv_opB (q : WR L T r x y k) : WV L T (kOpB r x k) y := q
theorem we_un {r : V → Hp → VK → Prop} (q : WE L T ta σ (kUn r k)) : WE L T (tUn r ta) σ k := q
theorem wv_un {r : V → Hp → VK → Prop} (q : WU L T r x k) : WV L T (kUn r k) x := q
theorem wu_rU {g : Int → V} {i : Int} (q : WV L T k (g i)) : WU L T (rU g) (.int i) k := fun H hs => ⟨i, rfl, q H hs⟩
theorem wr_I0 {g : Int → Int → V} {i j : Int} (q : WV L T k (g i j)) : WR L T (rI0 g) (.int i) (.int j) k := fun H hs => ⟨i, j, rfl, rfl, q H hs⟩
theorem wr_I {C : Int → Int → Prop} {g : Int → Int → V} {i j : Int} (hc : C i j) (q : WV L T k (g i j)) : WR L T (rI C g) (.int i) (.int j) k := fun H hs => ⟨i, j, rfl, rfl, hc, q H hs⟩
theorem wr_eqI {i j : Int} (q : WV L T k (.bl (decide (i = j)))) : WR L T rEq (.int i) (.int j) k := fun H hs => ⟨rfl, by
  have e : decide (V.int i = V.int j) = decide (i = j) := by rw [decide_eq_decide]; exact ⟨fun z => V.int.inj z, fun z => by rw [z]⟩
  rw [e]; exact q H hs⟩
theorem wr_neI {i j : Int} (q : WV L T k (.bl (!decide (i = j)))) : WR L T rNe (.int i) (.int j) k := fun H hs => ⟨rfl, by
  have e : decide (V.int i = V.int j) = decide (i = j) := by rw [decide_eq_decide]; exact ⟨fun z => V.int.inj z, fun z => by rw [z]⟩
  rw [e]; exact q H hs⟩
theorem wr_eqS {i j : Str} (q : WV L T k (.bl (decide (i = j)))) : WR L T rEq (.str i) (.str j) k := fun H hs => ⟨rfl, by
  have e : decide (V.str i = V.str j) = decide (i = j) := by rw [decide_eq_decide]; exact ⟨fun z => V.str.inj z, fun z => by rw [z]⟩
  rw [e]; exact q H hs⟩
theorem wr_neS {i j : Str} (q : WV L T k (.bl (!decide (i = j)))) : WR L T rNe (.str i) (.str j) k := fun H hs => ⟨rfl, by
  have e : decide (V.str i = V.str j) = decide (i = j) := by rw [decide_eq_decide]; exact ⟨fun z => V.str.inj z, fun z => by rw [z]⟩
  rw [e]; exact q H hs⟩
theorem wr_eq (h : scal x y = true) (q : WV L T k (.bl (decide (x = y)))) : WR L T rEq x y k := fun H hs => ⟨h, q H hs⟩
theorem wr_ne (h : scal x y = true) (q : WV L T k (.bl (!decide (x = y)))) : WR L T rNe x y k := fun H hs => ⟨h, q H hs⟩
/-! is None -/
theorem we_isN (q : WE L T ta σ (kUn (fun x H k => k (.bl (decide (x = .non))) H) k)) : WE L T (tIsN ta) σ k := q
theorem we_notN (q : WE L T ta σ (kUn (fun x H k => k (.bl (!decide (x = .non))) H) k)) : WE L T (tNotN ta) σ k := q
theorem wu_isN (q : WV L T k (.bl (decide (x = .non)))) : WU L T (fun x H k => k (.bl (decide (x = .non))) H) x k := q
theorem wu_notN (q : WV L T k (.bl (!decide (x = .non)))) : WU L T (fun x H k => k (.bl (!decide (x = .non))) H) x k := q

/-! ### chains -/
theorem we_chain (q : WE L T ta σ (kChA r r' tb tc σ k)) : WE L T (tChain r r' ta tb tc) σ k := q
theorem wv_chA (q : WE L T tb σ (kChB r r' x tc σ k)) : WV L T (kChA r r' tb tc σ k) x := q
theorem wv_chB (q : WR L T r x y (kChC r' y tc σ k)) : WV L T (kChB r r' x tc σ k) y := q
theorem wv_chC {c : Bool} (h1 : c = true → WE L T tc σ (kOpB r' y k)) (h2 : c = false → WV L T k (.bl false)) : WV L T (kChC r' y tc σ k) (.bl c) := fun H hs => ⟨c, rfl, by
  cases c with
  | true => exact h1 rfl H hs
  | false => exact h2 rfl H hs⟩

/-! ### tests -/
theorem wt_test (q : WE L T te σ (kB kb)) : WT L T (tTest te) σ kb := q
theorem wt_B (q : WE L T te σ (kB kb)) : WT L T (tB te) σ kb := q
theorem wv_kB {b : Bool} (q : WB L T kb b) : WV L T (kB kb) (.bl b) := fun H hs => ⟨b, rfl, q H hs⟩
theorem wt_and (q : WT L T t σ (kAnd u σ kb)) : WT L T (tAnd t u) σ kb := q
theorem wt_or (q : WT L T t σ (kOr u σ kb)) : WT L T (tOr t u) σ kb := q
theorem wt_not (q : WT L T t σ (kNot kb)) : WT L T (tNot t) σ kb := q
theorem wb_not {b : Bool} (q : WB L T kb (!b)) : WB L T (kNot kb) b := q
theorem wb_and {b : Bool} (h1 : b = true → WT L T u σ kb) (h2 : b = false → WB L T kb false) : WB L T (kAnd u σ kb) b := fun H hs => by
  cases b with
  | true => exact h1 rfl H hs
  | false => exact h2 rfl H hs
theorem wb_or {b : Bool} (h1 : b = true → WB L T kb true) (h2 : b = false → WT L T u σ kb) : WB L T (kOr u σ kb) b := fun H hs => by
  cases b with
  | true => exact h1 rfl H hs
  | false => exact h2 rfl H hs
theorem we_andV (q : WE L T ta σ (kAndV tb σ k)) : WE L T (tAndV ta tb) σ k := q
theorem we_orV (q : WE L T ta σ (kOrV tb σ k)) : WE L T (tOrV ta tb) σ k := q
theorem we_notV (q : WE L T ta σ (kNotV k)) : WE L T (tNotV ta) σ k := q
theorem wv_andV {b : Bool} (h1 : b = true → WE L T tb σ k) (h2 : b = false → WV L T k (.bl false)) : WV L T (kAndV tb σ k) (.bl b) := fun H hs => ⟨b, rfl, by
  cases b with
  | true => exact h1 rfl H hs
  | false => exact h2 rfl H hs⟩
theorem wv_orV {b : Bool} (h1 : b = true → WV L T k (.bl true)) (h2 : b = false → WE L T tb σ k) : WV L T (kOrV tb σ k) (.bl b) := fun H hs => ⟨b, rfl, by
  cases b with
  | true => exact h1 rfl H hs
  | false => exact h2 rfl H hs⟩
theorem wv_notV {b : Bool} (q : WV L T k (.bl (!b))) : WV L T (kNotV k) (.bl b) := fun H hs => ⟨b, rfl, q H hs⟩
theorem we_if (q : WT L T t σ (kIf ta tb σ k)) : WE L T (tIf t ta tb) σ k := q
theorem wb_if {b : Bool} (h1 : b = true → WE L T ta σ k) (h2 : b = false → WE L T tb σ k) : WB L T (kIf ta tb σ k) b := fun H hs => by
  cases b with
  | true => exact h1 rfl H hs
  | false => exact h2 rfl H hs
/-- truth of a value -/
theorem wt_tru {K : PySem.W.Frag} (q : WE L T te σ (kTru K kb)) : WT L T (fun σ H Q => te σ H fun x H' => ∃ b, TruV K x H' b ∧ Q b H') σ kb := q
theorem wv_truB {K : PySem.W.Frag} {b : Bool} (q : WB L T kb b) : WV L T (kTru K kb) (.bl b) := fun H hs => ⟨b, rfl, q H hs⟩
theorem wv_truI {K : PySem.W.Frag} {i : Int} (q : WB L T kb (i != 0)) : WV L T (kTru K kb) (.int i) := fun H hs => ⟨_, rfl, q H hs⟩
theorem wv_truN {K : PySem.W.Frag} (q : WB L T kb false) : WV L T (kTru K kb) .non := fun H hs => ⟨_, rfl, q H hs⟩

/-! ### argument lists, displays -/
theorem wa_nil (q : WVs L T ks []) : WA L T tNil σ ks := q
theorem wa_cons {tr : TA} (q : WE L T ta σ (kCons tr σ ks)) : WA L T (tCons ta tr) σ ks := q
theorem wv_cons {tr : TA} (q : WA L T tr σ (kConsB x ks)) : WV L T (kCons tr σ ks) x := q
theorem wvs_cons {xs : List V} (q : WVs L T ks (x :: xs)) : WVs L T (kConsB x ks) xs := q
theorem we_tup {t : TA} (q : WA L T t σ (kTup k)) : WE L T (tTup t) σ k := q
theorem we_lst {t : TA} (q : WA L T t σ (kLst k)) : WE L T (tLst t) σ k := q
theorem wvs_tup {xs : List V} (h : xs.length ≤ sizeLine) (q : ∀ p, WV L ((p, xs) :: T) k (.ref p)) : WVs L T (kTup k) xs := fun H hs => ⟨h, fun p hp => q p _ (hs.newT hp)⟩
theorem wvs_lst {xs : List V} (h : xs.length ≤ sizeLine) (q : ∀ p, WV ((p, .lst xs) :: L) T k (.ref p)) : WVs L T (kLst k) xs := fun H hs => ⟨h, fun p hp => q p _ (hs.new hp)⟩

/-! ### attributes -/
theorem we_fld {f : Str} (q : WE L T ta σ (kFld K f k)) : WE L T (tFld K ta f) σ k := q
theorem wv_fld {a C dx : Addr} {fs : List (Str × V)} {f : Str} (h : (a, HO.ins C dx fs) ∈ L) (hc : Cls K C) (hn : NoAttr K C f) (hl : fs.lookup f = some v) (q : WV L T k v) : WV L T (kFld K f k) (.ref a) :=
  fun H hs => ⟨a, C, dx, fs, v, rfl, hs.at_ _ h, hc, hn, hl, q H hs⟩
theorem ws_fld {f : Str} (q : WE L T tx σ (kSFldA K ta f D σ)) : WS L T (sFld K ta tx f) D σ := q
theorem wv_sfldA {f : Str} (q : WE L T ta σ (kSFldB K y f D σ)) : WV L T (kSFldA K ta f D σ) y := q
theorem wv_sfldB {a C dx : Addr} {fs fs' : List (Str × V)} {f : Str} (u : Up L a (.ins C dx fs) (.ins C dx fs') L') (hc : Cls K C) (hn : NoAttr K C f) (hl : fs.length < 1000) (hp : putF f y fs = fs') (q : WN L' T D.nx σ) : WV L T (kSFldB K y f D σ) (.ref a) :=
  fun H hs => ⟨a, C, dx, fs, rfl, hs.at_ _ u.mem, hc, hn, hl, by rw [hp]; exact q _ (hs.up u rfl)⟩

/-! ### calls -/
theorem we_call {sp : Sp} {dvs : List V} {E : XK} {t : TA} (q : WA L T t σ (kCall sp dvs E k)) : WE L T (tCall sp dvs E t) σ k := q
theorem wvs_call {sp : Sp} {dvs vs : List V} {E : XK} (q : WSp L T sp (vs ++ dvs) k E) : WVs L T (kCall sp dvs E k) vs := q
theorem we_meth {C : Addr} {m : Str} {sp : Sp} {dvs : List V} {E : XK} {t : TA} (q : WE L T ta σ (kMeth C m sp dvs E t σ k)) : WE L T (tMeth C m sp dvs E ta t) σ k := q
theorem wv_meth {C a dx : Addr} {fs : List (Str × V)} {m : Str} {sp : Sp} {dvs : List V} {E : XK} {t : TA} (h : (a, HO.ins C dx fs) ∈ L) (hl : fs.lookup m = none) (q : WA L T t σ (kMethB a sp dvs E k)) : WV L T (kMeth C m sp dvs E t σ k) (.ref a) :=
  fun H hs => ⟨a, dx, fs, rfl, hs.at_ _ h, hl, q H hs⟩
theorem wvs_meth {a : Addr} {sp : Sp} {dvs vs : List V} {E : XK} (q : WSp L T sp (.ref a :: (vs ++ dvs)) k E) : WVs L T (kMethB a sp dvs E k) vs := q
theorem we_make {C : Addr} {sp : Sp} {dvs : List V} {E : XK} {t : TA} (q : WA L T t σ (kMake C sp dvs E k)) : WE L T (tMake C sp dvs E t) σ k := q
theorem wvs_make {C : Addr} {sp : Sp} {dvs vs : List V} {E : XK} (q : ∀ p dx, WSp ((p, .ins C dx []) :: L) T sp (.ref p :: (vs ++ dvs)) (kMade p k) E) : WVs L T (kMake C sp dvs E k) vs :=
  fun H hs p dx hp hd hne => q p dx _ ((hs.aside hd).new (by rw [upd_ne hne.symm]; exact hp))
theorem wv_made {p : Addr} (q : WV L T k (.ref p)) : WV L T (kMade p k) .non := fun H hs => ⟨rfl, q H hs⟩
theorem we_cb {r : List V → Hp → VK → Prop} {t : TA} (q : WA L T t σ (kCB r k)) : WE L T (tCB r t) σ k := q
theorem wvs_cb {r : List V → Hp → VK → Prop} {vs : List V} (q : WC L T r vs k) : WVs L T (kCB r k) vs := q
theorem we_bm {T' : String} {r : V → List V → Hp → VK → Prop} {t : TA} (q : WE L T ta σ (kBM K T' r t σ k)) : WE L T (tBM K T' r ta t) σ k := q
theorem we_bm0 {T' : String} {r : V → List V → Hp → VK → Prop} (q : WE L T ta σ (kBM0 K T' r k)) : WE L T (tBM0 K T' r ta) σ k := q
theorem wvs_bm {r : V → List V → Hp → VK → Prop} {vs : List V} (q : WM L T r x vs k) : WVs L T (kBMB r x k) vs := q
theorem wv_bmL {r : V → List V → Hp → VK → Prop} {t : TA} {p : Addr} {xs : List V} (h : (p, HO.lst xs) ∈ L) (q : WA L T t σ (kBMB r (.ref p) k)) : WV L T (kBM K "list" r t σ k) (.ref p) := fun H hs => ⟨.inl ⟨rfl, _, SqL.of (hs.at_ _ h)⟩, q H hs⟩
theorem wv_bm0L {r : V → List V → Hp → VK → Prop} {p : Addr} {xs : List V} (h : (p, HO.lst xs) ∈ L) (q : WM L T r (.ref p) [] k) : WV L T (kBM0 K "list" r k) (.ref p) := fun H hs => ⟨.inl ⟨rfl, _, SqL.of (hs.at_ _ h)⟩, q H hs⟩
theorem wv_bmS {r : V → List V → Hp → VK → Prop} {t : TA} {w : Str} (q : WA L T t σ (kBMB r (.str w) k)) : WV L T (kBM K "str" r t σ k) (.str w) := fun H hs => ⟨rfl, q H hs⟩
theorem wv_bm0S {r : V → List V → Hp → VK → Prop} {w : Str} (q : WM L T r (.str w) [] k) : WV L T (kBM0 K "str" r k) (.str w) := fun H hs => ⟨rfl, q H hs⟩

/-! ### lists -/
theorem wr_ixL {p : Addr} {xs : List V} {i : Int} (h : (p, HO.lst xs) ∈ L) (ha : atI xs i = some v) (q : WV L T k v) : WR L T (rIx K) (.ref p) (.int i) k := fun H hs => .inl ⟨p, xs, i, v, rfl, rfl, SqL.of (hs.at_ _ h), ha, q H hs⟩
theorem wr_ixT {p : Addr} {xs : List V} {i : Int} (h : (p, xs) ∈ T) (ha : atI xs i = some v) (q : WV L T k v) : WR L T (rIx K) (.ref p) (.int i) k := fun H hs => .inr (.inl ⟨p, xs, i, v, rfl, rfl, SqT.of (hs.tp _ h), ha, q H hs⟩)
theorem wr_ixS {w : Str} {i : Int} {c : Nat} (h : w.length ≤ sizeLine) (ha : atI w.cps.toList i = some c) (q : WV L T k (.str ⟨#[c]⟩)) : WR L T (rIx K) (.str w) (.int i) k := fun H hs => .inr (.inr ⟨w, i, c, rfl, rfl, h, ha, q H hs⟩)
theorem wm_append {p : Addr} {xs : List V} (u : Up L p (.lst xs) (.lst (xs ++ [y])) L') (h : xs.length < sizeLine) (q : WV L' T k .non) : WM L T rAppend (.ref p) [y] k := fun H hs => ⟨p, xs, y, rfl, rfl, hs.at_ _ u.mem, h, q _ (hs.up u rfl)⟩
theorem wm_extend {p b : Addr} {xs zs : List V} (u : Up L p (.lst xs) (.lst (xs ++ zs)) L') (hb : (b, HO.lst zs) ∈ L) (h : xs.length + zs.length ≤ sizeLine) (q : WV L' T k .non) : WM L T rExtend (.ref p) [.ref b] k :=
  fun H hs => ⟨p, b, xs, zs, rfl, rfl, hs.at_ _ u.mem, hs.at_ _ hb, h, q _ (hs.up u rfl)⟩
theorem wm_clear {p : Addr} {xs : List V} (u : Up L p (.lst xs) (.lst []) L') (q : WV L' T k .non) : WM L T rClear (.ref p) [] k := fun H hs => ⟨p, xs, rfl, rfl, hs.at_ _ u.mem, q _ (hs.up u rfl)⟩
theorem wm_popAt {p : Addr} {xs : List V} {i : Int} {j : Nat} (u : Up L p (.lst xs) (.lst (xs.eraseIdx j)) L') (h1 : -(2 ^ 63) ≤ i) (h2 : i < 2 ^ 63) (h3 : seqIndex? i xs.length = some j) (h4 : xs[j]? = some y) (q : WV L' T k y) : WM L T rPopAt (.ref p) [.int i] k :=
  fun H hs => ⟨p, xs, i, j, y, rfl, rfl, hs.at_ _ u.mem, h1, h2, h3, h4, q _ (hs.up u rfl)⟩
theorem wo_none {kk : Option Int → Hp → Prop} (q : ∀ H, Hs H L T → kk none H) : WO L T tNoPart σ kk := q
theorem wo_some {kk : Option Int → Hp → Prop} (q : WE L T te σ (kPart kk)) : WO L T (tPart te) σ kk := q
theorem we_sl {r : V → Option Int → Option Int → Hp → VK → Prop} {tl th : TO} (q : WE L T te σ (kSlA r tl th σ k)) : WE L T (tSl r te tl th) σ k := q
theorem wv_slA {r : V → Option Int → Option Int → Hp → VK → Prop} {tl th : TO} (q : WO L T tl σ (kSlB r x th σ k)) : WV L T (kSlA r tl th σ k) x := q
def WOV (L : Led) (T : Tps) (kk : Option Int → Hp → Prop) (o : Option Int) : Prop := ∀ H, Hs H L T → kk o H
theorem wo_none' {kk : Option Int → Hp → Prop} (q : WOV L T kk none) : WO L T tNoPart σ kk := q
theorem wv_part {kk : Option Int → Hp → Prop} {i : Int} (q : WOV L T kk (some i)) : WV L T (kPart kk) (.int i) := fun H hs => ⟨i, rfl, q H hs⟩
theorem wov_slB {r : V → Option Int → Option Int → Hp → VK → Prop} {th : TO} {o : Option Int} (q : WO L T th σ (kSlC r x o k)) : WOV L T (kSlB r x th σ k) o := q
theorem wov_slL {p : Addr} {xs : List V} {lo hi : Option Int} (h : (p, HO.lst xs) ∈ L) (q : ∀ a, WV ((a, .lst (cutV xs lo hi)) :: L) T k (.ref a)) : WOV L T (kSlC (rSlL K) (.ref p) lo k) hi :=
  fun H hs => ⟨p, xs, rfl, SqL.of (hs.at_ _ h), fun a ha => q a _ (hs.new ha)⟩
theorem wr_cat {a b : Addr} {xs ys : List V} (h1 : (a, HO.lst xs) ∈ L) (h2 : (b, HO.lst ys) ∈ L) (hl : xs.length + ys.length ≤ sizeLine) (q : ∀ p, WV ((p, .lst (xs ++ ys)) :: L) T k (.ref p)) : WR L T rCat (.ref a) (.ref b) k :=
  fun H hs => ⟨a, b, xs, ys, rfl, rfl, hs.at_ _ h1, hs.at_ _ h2, hl, fun p hp => q p _ (hs.new hp)⟩

/-! ### statements -/
theorem ws_seq {t u : TS} {n : St → Hp → Prop} {rt : VK} {bk ct : St → Hp → Prop} (q : WS L T t ⟨u ⟨n, rt, bk, ct⟩, rt, bk, ct⟩ σ) : WS L T (tSeq t u) ⟨n, rt, bk, ct⟩ σ := q
theorem wn_ts {u : TS} (q : WS L T u D σ) : WN L T (u D) σ := q
theorem ws_next (q : WN L T D.nx σ) : WS L T tNext D σ := q
theorem ws_brk (q : WN L T D.bk σ) : WS L T tBreak D σ := q
theorem ws_cont (q : WN L T D.ct σ) : WS L T tCont D σ := q
theorem ws_asg {g : TG} (q : WE L T te σ (kAsg g σ D.nx)) : WS L T (tAsg te g) D σ := q
theorem wv_asg {g : TG} (q : WG L T g x σ n) : WV L T (kAsg g σ n) x := q
theorem wg_name {i : Nat} (h : SetAt σ i x σ') (q : WN L T n σ') : WG L T (gName i) x σ n := fun H hs => by
  show n (σ.set i (some x)) H
  rw [h.eq]
  exact q H hs
theorem wg_tup {g : TGs} {a : Addr} {xs : List V} {m : Nat} (h : (a, xs) ∈ T) (hl : xs.length = m) (q : WGs L T g xs σ n) : WG L T (gTup K m g) (.ref a) σ n := fun H hs => ⟨a, xs, rfl, SqT.of (hs.tp _ h), hl, q H hs⟩
theorem wgs_nil (q : WN L T n σ) : WGs L T gNil [] σ n := fun H hs => ⟨rfl, q H hs⟩
def kGs (g : TGs) (r : List V) (n : St → Hp → Prop) : St → Hp → Prop := fun σ H => g r σ H n
theorem wgs_cons {g : TG} {gs : TGs} {xs : List V} (q : WG L T g x σ (kGs gs xs n)) : WGs L T (gCons g gs) (x :: xs) σ n := fun H hs => ⟨x, xs, rfl, q H hs⟩
theorem wn_gs {gs : TGs} {xs : List V} (q : WGs L T gs xs σ n) : WN L T (kGs gs xs n) σ := q
theorem ws_drop (q : WE L T te σ (kDrop D.nx σ)) : WS L T (tDrop te) D σ := q
theorem wv_drop (q : WN L T n σ) : WV L T (kDrop n σ) x := q
theorem ws_ret (q : WE L T te σ D.rt) : WS L T (tRet te) D σ := q
theorem ws_retN (q : WV L T D.rt .non) : WS L T tRetN D σ := q
theorem ws_if {c : TT} {t u : TS} (q : WT L T c σ (kIfS t u D σ)) : WS L T (tIfS c t u) D σ := q
theorem wb_ifs {t u : TS} {b : Bool} (h1 : b = true → WS L T t D σ) (h2 : b = false → WS L T u D σ) : WB L T (kIfS t u D σ) b := fun H hs => by
  cases b with
  | true => exact h1 rfl H hs
  | false => exact h2 rfl H hs
theorem ws_aug {i : Nat} {ti : TIp} (h : σ[i]? = some (some x)) (q : WE L T te σ (kAug i x ti σ D.nx)) : WS L T (tAug i te ti) D σ := fun H hs => ⟨x, h, q H hs⟩
theorem wv_augI {i : Nat} {f : Int → Int → Int} {a b : Int} (h : SetAt σ i (.int (f a b)) σ') (q : WN L T n σ') : WV L T (kAug i (.int a) (ipI f) σ n) (.int b) := fun H hs => ⟨a, b, rfl, rfl, by
  show n (σ.set i (some (V.int (f a b)))) H
  rw [h.eq]
  exact q H hs⟩

/-! ### promises over the ledger -/
abbrev SpL := List V → Led → Tps → (V → Led → Tps → Prop) → (Value → Option Addr → Led → Tps → Prop) → Prop
def toSp (S : SpL) : Sp := fun vs H Q E => ∃ L T, Hs H L T ∧ S vs L T (fun v L' T' => WV L' T' Q v) (fun c d L' T' => WX' L' T' E c d)
theorem wsp {S : SpL} {vs : List V} {E : XK} (q : S vs L T (fun v L' T' => WV L' T' k v) (fun c d L' T' => WX' L' T' E c d)) : WSp L T (toSp S) vs k E := fun H hs => ⟨L, T, hs, q⟩
/-- a promise's end -/
theorem wv_end (s : Sb L L') (t : Ts T T') (q : WV L' T' k v) : WV L T k v := fun H hs => q H ((hs.sb s).ts t)
theorem wx_end {E : XK} {c : Value} {d : Option Addr} (s : Sb L L') (t : Ts T T') (q : WX' L' T' E c d) : WX' L T E c d := fun H hs => q H ((hs.sb s).ts t)
theorem wn_end (s : Sb L L') (t : Ts T T') (q : WN L' T' n σ) : WN L T n σ := fun H hs => q H ((hs.sb s).ts t)
theorem wn_rtN {Q : VK} (q : WV L T Q .non) : WN L T (fun _ H' => Q .non H') σ := q

/-! ### loops -/
/-- what a turn is to bring: some ledger of which I holds -/
def Nx (I : St → Led → Tps → Prop) : St → Hp → Prop := fun σ H => ∃ L T, Hs H L T ∧ I σ L T
theorem wn_nx {I : St → Led → Tps → Prop} (s : Sb L L') (t : Ts T T') (q : I σ L' T') : WN L T (Nx I) σ := fun H hs => ⟨L', T', (hs.sb s).ts t, q⟩
def IsL (K : PySem.W.Frag) (L : Led) (T : Tps) (a : Addr) (xs : List V) : Prop := ∀ H, Hs H L T → SqL K H a xs
def IsT (K : PySem.W.Frag) (L : Led) (T : Tps) (a : Addr) (xs : List V) : Prop := ∀ H, Hs H L T → SqT K H a xs
theorem IsL.of {a : Addr} {xs : List V} (h : (a, HO.lst xs) ∈ L) : IsL K L T a xs := fun H hs => SqL.of (hs.at_ _ h)
theorem IsT.of {a : Addr} {xs : List V} (h : (a, xs) ∈ T) : IsT K L T a xs := fun H hs => SqT.of (hs.tp _ h)
def kIList (K : PySem.W.Frag) (R : It → Hp → Prop) : VK := fun x H1 => ∃ a, x = .ref a ∧ (∃ xs, SqL K H1 a xs) ∧ R (Itl K a) H1
def kITup (K : PySem.W.Frag) (R : It → Hp → Prop) : VK := fun x H1 => ∃ a, x = .ref a ∧ (∃ xs, SqT K H1 a xs) ∧ R (Itt K a) H1
def kIR1 (R : It → Hp → Prop) : List V → Hp → Prop := fun vs H1 => ∃ j : Int, vs = [.int j] ∧ -(2 ^ 62) ≤ j ∧ j < 2 ^ 62 ∧ R (Itr 0 j.toNat) H1
def kIR2 (R : It → Hp → Prop) : List V → Hp → Prop := fun vs H1 => ∃ i j : Int, vs = [.int i, .int j] ∧ (-(2 ^ 62) ≤ i ∧ i < 2 ^ 62 ∧ -(2 ^ 62) ≤ j ∧ j < 2 ^ 62) ∧ R (Itr i (j - i).toNat) H1
theorem wi_list {R : It → Hp → Prop} (q : WE L T te σ (kIList K R)) : WI L T (iList K te) σ R := q
theorem wi_tup {R : It → Hp → Prop} (q : WE L T te σ (kITup K R)) : WI L T (iTup K te) σ R := q
theorem wi_r1 {R : It → Hp → Prop} {t : TA} (q : WA L T t σ (kIR1 R)) : WI L T (iRng1 t) σ R := q
theorem wi_r2 {R : It → Hp → Prop} {t : TA} (q : WA L T t σ (kIR2 R)) : WI L T (iRng2 t) σ R := q
theorem wv_iList {R : It → Hp → Prop} {a : Addr} {xs : List V} (h : IsL K L T a xs) (q : WJ L T R (Itl K a)) : WV L T (kIList K R) (.ref a) := fun H hs => ⟨a, rfl, ⟨xs, h H hs⟩, q H hs⟩
theorem wv_iTup {R : It → Hp → Prop} {a : Addr} {xs : List V} (h : IsT K L T a xs) (q : WJ L T R (Itt K a)) : WV L T (kITup K R) (.ref a) := fun H hs => ⟨a, rfl, ⟨xs, h H hs⟩, q H hs⟩
theorem wvs_r1 {R : It → Hp → Prop} {j : Int} (h1 : -(2 ^ 62) ≤ j) (h2 : j < 2 ^ 62) (q : WJ L T R (Itr 0 j.toNat)) : WVs L T (kIR1 R) [.int j] := fun H hs => ⟨j, rfl, h1, h2, q H hs⟩
theorem wvs_r2 {R : It → Hp → Prop} {i j : Int} (h1 : -(2 ^ 62) ≤ i ∧ i < 2 ^ 62 ∧ -(2 ^ 62) ≤ j ∧ j < 2 ^ 62) (q : WJ L T R (Itr i (j - i).toNat)) : WVs L T (kIR2 R) [.int i, .int j] := fun H hs => ⟨i, j, rfl, h1, q H hs⟩
def kFor (g : TG) (tb : TS) (D : Ends) (σ : St) : It → Hp → Prop := fun J H1 => ∃ W : Nat → Nat → St → Hp → Prop, (∃ m, W 0 m σ H1) ∧ ∀ i m σ H, W i m σ H →
  (J.stop i H ∧ D.nx σ H) ∨ (J.go i H ∧ ∃ N : St → Hp → Prop, (∀ σ' H', N σ' H' → ∃ m', m' < m ∧ W (i + 1) m' σ' H') ∧ ∀ x H', J.yld i H x H' → g x σ H' fun σ2 H2 => tb { D with nx := N, ct := N, bk := D.nx } σ2 H2)
theorem ws_for {wi : TI} {g : TG} {tb : TS} (q : WI L T wi σ (kFor g tb D σ)) : WS L T (tFor wi g tb) D σ := q
/-- what waits behind a for's target -/
def kBody (tb : TS) (D : Ends) : St → Hp → Prop := fun σ2 H2 => tb D σ2 H2
theorem wn_body {tb : TS} (q : WS L T tb D σ) : WN L T (kBody tb D) σ := q
theorem wj_list {a : Addr} {xs : List V} {g : TG} {tb : TS} (I : Nat → St → Led → Tps → Prop) (h0 : I 0 σ L T) (hl : ∀ i σ L T, I i σ L T → IsL K L T a xs)
    (hs : ∀ i x σ L T, xs[i]? = some x → I i σ L T → WG L T g x σ (kBody tb ⟨Nx (I (i + 1)), D.rt, D.nx, Nx (I (i + 1))⟩)) (hd : ∀ σ L T, I xs.length σ L T → WN L T D.nx σ) : WJ L T (kFor g tb D σ) (Itl K a) := fun H hH =>
  for_list (K := K) (a := a) (xs := xs) (fun i σ H => Nx (I i) σ H) ⟨L, T, hH, h0⟩ (fun i σ H _ ⟨L, T, h1, h2⟩ => hl i σ L T h2 H h1) (fun i x σ H hx ⟨L, T, h1, h2⟩ => hs i x σ L T hx h2 H h1) (fun σ H ⟨L, T, h1, h2⟩ => hd σ L T h2 H h1)
theorem wj_tup {a : Addr} {xs : List V} {g : TG} {tb : TS} (I : Nat → St → Led → Tps → Prop) (h0 : I 0 σ L T) (hl : ∀ i σ L T, I i σ L T → IsT K L T a xs)
    (hs : ∀ i x σ L T, xs[i]? = some x → I i σ L T → WG L T g x σ (kBody tb ⟨Nx (I (i + 1)), D.rt, D.nx, Nx (I (i + 1))⟩)) (hd : ∀ σ L T, I xs.length σ L T → WN L T D.nx σ) : WJ L T (kFor g tb D σ) (Itt K a) := fun H hH =>
  for_tup (K := K) (a := a) (xs := xs) (fun i σ H => Nx (I i) σ H) ⟨L, T, hH, h0⟩ (fun i σ H _ ⟨L, T, h1, h2⟩ => hl i σ L T h2 H h1) (fun i x σ H hx ⟨L, T, h1, h2⟩ => hs i x σ L T hx h2 H h1) (fun σ H ⟨L, T, h1, h2⟩ => hd σ L T h2 H h1)
theorem wj_range {lo : Int} {m : Nat} {g : TG} {tb : TS} (I : Nat → St → Led → Tps → Prop) (h0 : I 0 σ L T)
    (hs : ∀ i σ L T, i < m → I i σ L T → WG L T g (.int (lo + i)) σ (kBody tb ⟨Nx (I (i + 1)), D.rt, D.nx, Nx (I (i + 1))⟩)) (hd : ∀ σ L T, I m σ L T → WN L T D.nx σ) : WJ L T (kFor g tb D σ) (Itr lo m) := fun H hH =>
  for_range (lo := lo) (n := m) (fun i σ H => Nx (I i) σ H) ⟨L, T, hH, h0⟩ (fun i σ H hi ⟨L, T, h1, h2⟩ => hs i σ L T hi h2 H h1) (fun σ H ⟨L, T, h1, h2⟩ => hd σ L T h2 H h1)
/-- while: I by a number that falls -/
def kWh (I : Nat → St → Led → Tps → Prop) (m : Nat) (tb : TS) (D : Ends) (σ : St) : Bool → Hp → Prop := fun b H1 =>
  if b = true then ∃ N : St → Hp → Prop, (∀ σ' H', N σ' H' → ∃ m', m' < m ∧ Nx (I m') σ' H') ∧ tb { D with nx := N, ct := N, bk := D.nx } σ H1 else D.nx σ H1
theorem ws_while {c : TT} {tb : TS} (I : Nat → St → Led → Tps → Prop) (m0 : Nat) (h0 : I m0 σ L T) (hs : ∀ m σ L T, I m σ L T → WT L T c σ (kWh I m tb D σ)) : WS L T (tWhile c tb) D σ := fun H hH =>
  ⟨fun m σ H => Nx (I m) σ H, ⟨m0, L, T, hH, h0⟩, fun m σ H ⟨L, T, h1, h2⟩ => hs m σ L T h2 H h1⟩
theorem wb_wh {I : Nat → St → Led → Tps → Prop} {m : Nat} {tb : TS} {b : Bool} (h1 : b = true → WS L T tb ⟨Nx (fun σ L T => ∃ m', m' < m ∧ I m' σ L T), D.rt, D.nx, Nx (fun σ L T => ∃ m', m' < m ∧ I m' σ L T)⟩ σ) (h2 : b = false → WN L T D.nx σ) : WB L T (kWh I m tb D σ) b := fun H hs => by
  cases b with
  | true => exact ⟨_, fun σ' H' ⟨L, T, a, m', lt, z⟩ => ⟨m', lt, L, T, a, z⟩, h1 rfl H hs⟩
  | false => exact h2 rfl H hs
end
end Lg
/-! Rules with short premises: defs, methods, makers, raises; ints of any size. -/
namespace Lg
open PySem PySem.Spec PyProof.Rows L2

section
variable (P : Program) (w : World) (K : PySem.W.Frag) (mg : Str → Option Value) (base : Heap)
/-- the module's def x -/
def FdOk (k : Nat) (x : Str) (ps : List Str) (dvs : List V) (sp : Sp) : Prop :=
  ∃ f fd ds, mg x = some (.ref f) ∧ FnOk P w K mg base (L2.CX P w) k f fd ps sp ∧ PySem.W.keepIn K (.ref f) = true ∧ Binds K fd ps ds ∧ Vals dvs ds
/-- the method m of the class at C -/
def MtOk (k : Nat) (C : Addr) (m : Str) (ps : List Str) (dvs : List V) (sp : Sp) : Prop :=
  Cls K C ∧ ∃ f fd ds, Meth K C m f ∧ FnOk P w K mg base (L2.CX P w) k f fd ps sp ∧ Binds K fd ps ds ∧ Vals dvs ds
/-- the class x at C and its __init__ -/
def MkOk (k : Nat) (x : Str) (C : Addr) (ps : List Str) (dvs : List V) (sp : Sp) : Prop :=
  ∃ f fd ds, mg x = some (.ref C) ∧ Mk K C f ∧ FnOk P w K mg base (L2.CX P w) k f fd ps sp ∧ Binds K fd ps ds ∧ Vals dvs ds
end
/-- an own error class without own __init__ -/
structure ExOk (K : PySem.W.Frag) (mg : Str → Option Value) (x : Str) (C : Addr) : Prop where
  g : mg x = some (.ref C)
  ex : PySem.W.excIn K C [.type "ValueError", .type "Exception", .type "BaseException", .type "object"] "ValueError.__new__" = true
  kp : PySem.W.keepIn K (.ref C) = true
  sb : PySem.W.subIn K (.ref C) (.type "BaseException") = some true
  ty : PySem.W.typeIn K (.ref C) = some (.type "type")

/-! ### calls; what is raised is wished for at the caller's slots -/
def tCallW (sp : Sp) (dvs : List V) (W : WX) (t : TA) : TE := fun σ H Q => t σ H fun vs H1 => sp (vs ++ dvs) H1 Q (fun c d H => W c d σ H)
def tMethW (C : Addr) (m : Str) (sp : Sp) (dvs : List V) (W : WX) (ta : TE) (t : TA) : TE := fun σ H Q => ta σ H fun x H1 => ∃ a dx fs, x = .ref a ∧ H1 a = some (.ins C dx fs) ∧ fs.lookup m = none ∧
  t σ H1 fun vs H2 => sp (x :: (vs ++ dvs)) H2 Q (fun c d H => W c d σ H)
def tMakeW (C : Addr) (sp : Sp) (dvs : List V) (W : WX) (t : TA) : TE := fun σ H Q => t σ H fun vs H1 => ∀ x dx, H1 x = none → H1 dx = none → dx ≠ x →
  sp (.ref x :: (vs ++ dvs)) (upd (upd H1 dx (.own x)) x (.ins C dx [])) (fun v H2 => v = .non ∧ Q (.ref x) H2) (fun c d H => W c d σ H)
section
variable {X : Cx} {E : XK} {k j : Nat} {x m : Str} {ps : List Str} {dvs vs : List V} {sp : Sp} {C f : Addr} {e o : Expr} {es : List Expr} {t : TA} {ta : TE} {p pos apos : Pos} {W : WX} {fd : FuncData} {ds us : List Value}
  {pins : List (Addr × Obj)} {σ : L2.St} {H : Hp} {s : Shared} {Q : VK}
theorem run_fnW (F : FnOk X.prog X.w X.K X.mg X.base (L2.CX X.prog X.w) k f fd ps sp) (hr : Room k X.A) (hb : Binds X.K fd ps ds) (hd : Vals dvs ds) (hx : Takes X W) (I : Inv X pins σ H s) (r : Vals vs us)
    (h : sp (vs ++ dvs) H Q (fun c d H => W c d σ H)) : wpAny (model X.prog X.w) X.A (call (.ref f) us) (EP X pins σ Q) X.xe s := by
  have r2 := r.append hd
  have hl : (us ++ ds).length = ps.length := by rw [← r2.length]; exact F.len _ _ _ _ h
  have b := hb s us I.kIn hl
  refine wpAny_call (codeAny_mono (F.run X.A X.stack s H ⟨us, []⟩ (us ++ ds) (vs ++ dvs) Q _ hr I.env0 b r2 h) fun r s' hq => ?_)
  cases r with
  | error e => exact passAt hx σ pins H s e s' I hq
  | ok fl =>
    cases fl with
    | ret u => exact I.after hq
    | next => exact False.elim hq
    | brk => exact False.elim hq
    | cont => exact False.elim hq
theorem pe_fn (h : FdOk X.prog X.w X.K X.mg X.base k x ps dvs sp) (hr : Room j X.A) (hx : Takes X W) (ha : PA X (e :: es) t) (hk : k ≤ j := by decide) (hg : Gl X x := by rfl) (hdb : (x == ("__debug__" : Str)) = false := by decide)
    (he : starEach (e :: es) X.env = (false, eval e X.env) :: starEach es X.env := by rfl) (hpl : (backTo pos (starEach es X.env)).any (·.1) = false := by rfl) : PE X (.Call (.Name x p) (e :: es) [] pos) (tCallW sp dvs W t) := by
  obtain ⟨f, fd, ds, hm, F, kp, b, d⟩ := h
  refine ⟨fun pins s σ H Q I h => ?_⟩
  refine wpAny_Call_Name_kw (ld_glob I hg hm ?_ hdb)
  refine PySem.W.callWith_K (h₀ := X.base) I.ok.mod.kin kp (thn (ha.run pos pins s σ H _ I h) fun us s1 ⟨vs, H1, I1, r, q⟩ => ⟨I1.kIn, ?_⟩) he hpl
  exact run_fnW F (hr.mono hk) b d hx I1 r q
theorem pe_fn0 (h : FdOk X.prog X.w X.K X.mg X.base k x ps dvs sp) (hr : Room j X.A) (hx : Takes X W) (hk : k ≤ j := by decide) (hg : Gl X x := by rfl) (hdb : (x == ("__debug__" : Str)) = false := by decide) : PE X (.Call (.Name x p) [] [] pos) (tCallW sp dvs W tNil) := by
  obtain ⟨f, fd, ds, hm, F, kp, b, d⟩ := h
  refine ⟨fun pins s σ H Q I h => ?_⟩
  refine wpAny_Call_Name_kw (ld_glob I hg hm ?_ hdb)
  exact PySem.W.callWith_K0 I.kIn kp (run_fnW (us := []) F (hr.mono hk) b d hx I .nil h)
theorem pe_mt {pl : Sem Bool} (h : MtOk X.prog X.w X.K X.mg X.base k C m ps dvs sp) (hr : Room j X.A) (hx : Takes X W) (he : PE X o ta) (ha : PA X (e :: es) t) (hk : k ≤ j := by decide)
    (hst : starEach (e :: es) X.env = (false, eval e X.env) :: starEach es X.env := by rfl) (hpl : (backTo pos (starEach es X.env)).any (·.1) = false := by rfl)
    (ht : eval (.Call (.Attribute o m apos) (e :: es) [] pos) X.env = (do
      let ov ← eval o X.env
      standAt apos.atName
      let (f, first) ← holding [ov] (getMethod ov m pl)
      callWith pos f first (backTo pos (starEach (e :: es) X.env)) (backToKw pos (keywordEach [] X.env))) := by rfl) : PE X (.Call (.Attribute o m apos) (e :: es) [] pos) (tMethW C m sp dvs W ta t) := by
  obtain ⟨c, f, fd, ds, hm, F, b, d⟩ := h
  refine ⟨fun pins s σ H Q I h => ?_⟩
  refine PySem.W.methodCall_KW (pl := pl) (thn (he.run pins s σ H _ I h) fun u s1 ⟨x, H1, I1, rx, a, dx, fs, ex, ea, l, q⟩ => ?_) ht
  subst ex
  obtain rfl : u = Value.ref a := rx
  refine getmeth_ok I1 ea c hm l ?_
  refine PySem.W.callWith_K (first := [.ref a]) (h₀ := X.base) I.ok.mod.kin hm.kp (thn (ha.run pos pins s1 σ H1 _ I1 q) fun us s2 ⟨vs, H2, I2, r, q2⟩ => ⟨I2.kIn, ?_⟩) hst hpl
  exact run_fnW (us := .ref a :: us) (vs := .ref a :: vs) F (hr.mono hk) b d hx I2 (.cons rfl r) q2
theorem pe_mt0 {pl : Sem Bool} (h : MtOk X.prog X.w X.K X.mg X.base k C m ps dvs sp) (hr : Room j X.A) (hx : Takes X W) (he : PE X o ta) (hk : k ≤ j := by decide)
    (ht : eval (.Call (.Attribute o m apos) [] [] pos) X.env = (do
      let ov ← eval o X.env
      standAt apos.atName
      let (f, first) ← holding [ov] (getMethod ov m pl)
      callWith pos f first (backTo pos (starEach [] X.env)) (backToKw pos (keywordEach [] X.env))) := by rfl) : PE X (.Call (.Attribute o m apos) [] [] pos) (tMethW C m sp dvs W ta tNil) := by
  obtain ⟨c, f, fd, ds, hm, F, b, d⟩ := h
  refine ⟨fun pins s σ H Q I h => ?_⟩
  refine PySem.W.methodCall_KW (pl := pl) (thn (he.run pins s σ H _ I h) fun u s1 ⟨x, H1, I1, rx, a, dx, fs, ex, ea, l, q⟩ => ?_) ht
  subst ex
  obtain rfl : u = Value.ref a := rx
  refine getmeth_ok I1 ea c hm l ?_
  exact PySem.W.callWith_K0 (first := [.ref a]) I1.kIn hm.kp (run_fnW (us := [.ref a]) (vs := [.ref a]) F (hr.mono hk) b d hx I1 (.cons rfl .nil) q)
theorem run_mkW (M : Mk X.K C f) (F : FnOk X.prog X.w X.K X.mg X.base (L2.CX X.prog X.w) k f fd ps sp) (hr : Room (k + 1) X.A) (hb : Binds X.K fd ps ds) (hd : Vals dvs ds) (hx : Takes X W) (I : Inv X pins σ H s) (r : Vals vs us)
    (h : ∀ x dx, H x = none → H dx = none → dx ≠ x → sp (.ref x :: (vs ++ dvs)) (upd (upd H dx (.own x)) x (.ins C dx [])) (fun v H2 => v = .non ∧ Q (.ref x) H2) (fun c d H => W c d σ H)) :
    wpAny (model X.prog X.w) X.A (call (.ref C) us) (EP X pins σ Q) X.xe s := by
  have hq := h (s.heap.objs.size + 1) s.heap.objs.size (I.hok.fresh (Nat.le_succ _)) (I.hok.fresh (Nat.le_refl _)) (Nat.ne_of_lt (Nat.lt_succ_self _))
  have I2 := Inv.made (C := C) I
  have r2 : Vals (V.ref (s.heap.objs.size + 1) :: (vs ++ dvs)) (Value.ref (s.heap.objs.size + 1) :: (us ++ ds)) := .cons rfl (r.append hd)
  have hl : (Value.ref (s.heap.objs.size + 1) :: us ++ ds).length = ps.length := by
    have e := r2.length
    rw [F.len _ _ _ _ hq] at e
    exact e.symm
  refine wpAny_call (make_map (f := f) I.kIn M.makes M.init (beq_iff_eq.mp M.fn) (codeAny_mono (F.run _ X.stack _ _ ⟨Value.ref (s.heap.objs.size + 1) :: us, []⟩ (Value.ref (s.heap.objs.size + 1) :: (us ++ ds)) _ _ _ (hr.make C us [])
    (I2.env0.make C us []) (hb _ (Value.ref (s.heap.objs.size + 1) :: us) I2.kIn hl) r2 hq) fun r s' hq' => ?_))
  cases r with
  | error e => exact passAt hx σ pins _ _ e s' I2 hq'
  | ok fl =>
    cases fl with
    | ret u =>
      obtain ⟨v, H', I3, rv, ev, q3⟩ := I2.after hq'
      subst ev
      exact ⟨rv, ⟨V.ref (s.heap.objs.size + 1), H', I3, rfl, q3⟩⟩
    | next => exact False.elim hq'
    | brk => exact False.elim hq'
    | cont => exact False.elim hq'
theorem pe_mk (h : MkOk X.prog X.w X.K X.mg X.base k x C ps dvs sp) (hr : Room j X.A) (hx : Takes X W) (ha : PA X (e :: es) t) (hk : k + 1 ≤ j := by decide) (hg : Gl X x := by rfl) (hdb : (x == ("__debug__" : Str)) = false := by decide)
    (he : starEach (e :: es) X.env = (false, eval e X.env) :: starEach es X.env := by rfl) (hpl : (backTo pos (starEach es X.env)).any (·.1) = false := by rfl) : PE X (.Call (.Name x p) (e :: es) [] pos) (tMakeW C sp dvs W t) := by
  obtain ⟨f, fd, ds, hm, M, F, b, d⟩ := h
  refine ⟨fun pins s σ H Q I h => ?_⟩
  refine wpAny_Call_Name_kw (ld_glob I hg hm ?_ hdb)
  refine PySem.W.callWith_K (h₀ := X.base) I.ok.mod.kin M.kp (thn (ha.run pos pins s σ H _ I h) fun us s1 ⟨vs, H1, I1, r, q⟩ => ⟨I1.kIn, ?_⟩) he hpl
  exact run_mkW M F (hr.mono hk) b d hx I1 r q
theorem pe_mk0 (h : MkOk X.prog X.w X.K X.mg X.base k x C ps dvs sp) (hr : Room j X.A) (hx : Takes X W) (hk : k + 1 ≤ j := by decide) (hg : Gl X x := by rfl) (hdb : (x == ("__debug__" : Str)) = false := by decide) : PE X (.Call (.Name x p) [] [] pos) (tMakeW C sp dvs W tNil) := by
  obtain ⟨f, fd, ds, hm, M, F, b, d⟩ := h
  refine ⟨fun pins s σ H Q I h => ?_⟩
  refine wpAny_Call_Name_kw (ld_glob I hg hm ?_ hdb)
  exact PySem.W.callWith_K0 I.kIn M.kp (run_mkW (us := []) M F (hr.mono hk) b d hx I .nil h)
/-! ### raise C('..') -/
def tRaiseW (C : Addr) (W : WX) : TS := fun _ σ H => W (.ref C) none σ H
theorem ps_rs {p p2 p3 pos : Pos} {i : Nat} (h : ExOk X.K X.mg x C) (tk : Takes X W) (hc : X.calm = true := by rfl) (hg : Gl X x := by rfl) (hdb : (x == ("__debug__" : Str)) = false := by decide) :
    PS X (.Raise (some (.Call (.Name x p) [.Constant (.str m) i p2] [] p3)) none pos) (tRaiseW C W) :=
  ps_raise hc tk (pmk_own PySem.F.excBase_ValueError h.ex h.g h.kp (raises_own h.sb h.ty) hg hdb)
end
/-! ### ints of any size -/
def CDivA (_ j : Int) : Prop := 0 < j ∧ j.natAbs.log2 < 9000
theorem op_mulA {X : Cx} : OpR X (binaryOp .Mult) (rI IntMulOk fun i j => .int (i * j)) := opI fun _ _ _ _ _ _ _ hc q => mul_int q hc
theorem op_divA {X : Cx} : OpR X (binaryOp .FloorDiv) (rI CDivA fun i j => .int (i / j)) := op_fdivW
theorem op_modA {X : Cx} : OpR X (binaryOp .Mod) (rI (fun _ j => 0 < j) fun i j => .int (i % j)) := op_mod
theorem divA {i j : Int} (h : 0 < j) (h2 : j < 10 ^ 60) : CDivA i j := by
  refine ⟨h, ?_⟩
  have e : j.natAbs < 2 ^ 200 := by
    have : (10 : Int) ^ 60 < 2 ^ 200 := by decide
    omega
  exact Nat.lt_trans (PySem.Flt.log2_lt_of (by decide) e) (by decide)
theorem mulL {i j : Int} (h1 : -(2 ^ 64) < i) (h2 : i < 2 ^ 64) : IntMulOk i j := CMul.ok (.inl ⟨h1, h2⟩)
theorem mulR {i j : Int} (h1 : -(2 ^ 64) < j) (h2 : j < 2 ^ 64) : IntMulOk i j := CMul.ok (.inr ⟨h1, h2⟩)
theorem mulB {i j : Int} (h1 : -(10 ^ 60) < i) (h2 : i < 10 ^ 60) (h3 : -(10 ^ 60) < j) (h4 : j < 10 ^ 60) : IntMulOk i j := by
  have e : (10 : Int) ^ 60 < 2 ^ 200 := by decide
  exact (wide_mul (a := 200) (b := 200) (by omega) (by omega) (by decide) (by decide) (by decide)).ok
end Lg
/-! More steps: decided tests, types of values, calls by slots, raises. -/
namespace Lg
open PySem PySem.Spec PyProof.Rows L2

/-! ### kinds of values -/
inductive Tn where
  | non | bl | int | str | lst | tup | dct
  deriving DecidableEq
def Tn.name : Tn → String
  | .non => "NoneType"
  | .bl => "bool"
  | .int => "int"
  | .str => "str"
  | .lst => "list"
  | .tup => "tuple"
  | .dct => "dict"
inductive TyL (L : Led) (T : Tps) : V → Tn → Prop
  | non : TyL L T .non .non
  | bl (b : Bool) : TyL L T (.bl b) .bl
  | int (i : Int) : TyL L T (.int i) .int
  | str (x : Str) : TyL L T (.str x) .str
  | lst {a : Addr} {xs : List V} (h : (a, HO.lst xs) ∈ L) : TyL L T (.ref a) .lst
  | tup {a : Addr} {xs : List V} (h : (a, xs) ∈ T) : TyL L T (.ref a) .tup
  | dK {a : Addr} {kvs : List (Key × V)} (h : (a, HO.dK kvs) ∈ L) : TyL L T (.ref a) .dct
theorem TyL.x {L : Led} {T : Tps} {v : V} {n : Tn} (t : TyL L T v n) {K : PySem.W.Frag} {H : Hp} (hs : Hs H L T) : TyX K H v (.type n.name) := by
  cases t with
  | non => exact .base .non
  | bl b => exact .base (.bl b)
  | int i => exact .base (.int i)
  | str x => exact .base (.str x)
  | lst h => exact .base (.lst (hs.at_ _ h))
  | tup h => exact .base (.tup (hs.tp _ h))
  | dK h => exact .base (.dK (hs.at_ _ h))
def wholeB : V → Bool
  | .int _ => true
  | _ => false
theorem wholeB_int {i : Int} : wholeB (.int i) = true := rfl
theorem wholeB_bl {b : Bool} : wholeB (.bl b) = false := rfl
theorem wholeB_non : wholeB .non = false := rfl
theorem wholeB_str {w : Str} : wholeB (.str w) = false := rfl
theorem wholeB_ref {a : Addr} : wholeB (.ref a) = false := rfl
theorem TyL.whole {L : Led} {T : Tps} {v : V} {n : Tn} (t : TyL L T v n) : wholeB v = decide (n = .int) := by
  cases t <;> rfl
def belowB (v : V) (m : Int) : Bool := match v with
  | .int i => decide (0 ≤ i) && decide (i < m)
  | _ => false

section
variable {L L' : Led} {T T' : Tps} {σ σ' : L2.St} {k : VK} {kb : Bool → Hp → Prop} {ks : List V → Hp → Prop} {ta tb tc te tx : TE} {t u : TT} {x y z v : V} {r r' : R2} {n : L2.St → Hp → Prop} {D : Ends} {K : PySem.W.Frag}

theorem wc_isi {m : Tn} {c : String} {b : Bool} (h : TyL L T x m) (e : kitB m.name c = some b) (q : WV L T k (.bl b)) : WC L T (rIsi K) [x, .ty c] k := fun H hs => ⟨x, .ty c, _, _, b, rfl, .ty c, h.x hs, kit_ty e, q H hs⟩

/-! ### tests that are decided, or open -/
theorem wb_notT (q : WB L T kb false) : WB L T (kNot kb) true := q
theorem wb_notF (q : WB L T kb true) : WB L T (kNot kb) false := q
theorem wb_ifsT {t u : TS} (q : WS L T t D σ) : WB L T (kIfS t u D σ) true := fun H hs => by
  show (if true = true then t D σ H else u D σ H)
  rw [if_pos rfl]
  exact q H hs
theorem wb_ifsF {t u : TS} (q : WS L T u D σ) : WB L T (kIfS t u D σ) false := fun H hs => by
  show (if false = true then t D σ H else u D σ H)
  rw [if_neg Bool.false_ne_true]
  exact q H hs
theorem wb_andT (q : WT L T u σ kb) : WB L T (kAnd u σ kb) true := wb_and (fun _ => q) (fun z => nomatch z)
theorem wb_andF (q : WB L T kb false) : WB L T (kAnd u σ kb) false := wb_and (fun z => nomatch z) (fun _ => q)
theorem wb_orT (q : WB L T kb true) : WB L T (kOr u σ kb) true := wb_or (fun _ => q) (fun z => nomatch z)
theorem wb_orF (q : WT L T u σ kb) : WB L T (kOr u σ kb) false := wb_or (fun z => nomatch z) (fun _ => q)
theorem wb_ifT (q : WE L T ta σ k) : WB L T (kIf ta tb σ k) true := wb_if (fun _ => q) (fun z => nomatch z)
theorem wb_ifF (q : WE L T tb σ k) : WB L T (kIf ta tb σ k) false := wb_if (fun z => nomatch z) (fun _ => q)
theorem wv_andT (q : WE L T tb σ k) : WV L T (kAndV tb σ k) (.bl true) := wv_andV (fun _ => q) (fun z => nomatch z)
theorem wv_andF (q : WV L T k (.bl false)) : WV L T (kAndV tb σ k) (.bl false) := wv_andV (fun z => nomatch z) (fun _ => q)
theorem wv_orT (q : WV L T k (.bl true)) : WV L T (kOrV tb σ k) (.bl true) := wv_orV (fun _ => q) (fun z => nomatch z)
theorem wv_orF (q : WE L T tb σ k) : WV L T (kOrV tb σ k) (.bl false) := wv_orV (fun z => nomatch z) (fun _ => q)
theorem wv_notT (q : WV L T k (.bl false)) : WV L T (kNotV k) (.bl true) := wv_notV q
theorem wv_notF (q : WV L T k (.bl true)) : WV L T (kNotV k) (.bl false) := wv_notV q
theorem wv_chT (q : WE L T tc σ (kOpB r' y k)) : WV L T (kChC r' y tc σ k) (.bl true) := wv_chC (fun _ => q) (fun z => nomatch z)
theorem wv_chF (q : WV L T k (.bl false)) : WV L T (kChC r' y tc σ k) (.bl false) := wv_chC (fun z => nomatch z) (fun _ => q)
/-- a test's value turned into true or false -/
theorem wb_dec {p : Prop} [Decidable p] (h1 : p → WB L T kb true) (h2 : ¬ p → WB L T kb false) : WB L T kb (decide p) := by
  by_cases h : p
  · rw [decide_eq_true h]; exact h1 h
  · rw [decide_eq_false h]; exact h2 h
theorem wb_ndec {p : Prop} [Decidable p] (h1 : p → WB L T kb false) (h2 : ¬ p → WB L T kb true) : WB L T kb (!decide p) := by
  by_cases h : p
  · rw [decide_eq_true h]; exact h1 h
  · rw [decide_eq_false h]; exact h2 h
theorem wb_bool {b : Bool} (h1 : b = true → WB L T kb true) (h2 : b = false → WB L T kb false) : WB L T kb b := by
  cases b with
  | true => exact h1 rfl
  | false => exact h2 rfl
theorem wv_dec {p : Prop} [Decidable p] (h1 : p → WV L T k (.bl true)) (h2 : ¬ p → WV L T k (.bl false)) : WV L T k (.bl (decide p)) := by
  by_cases h : p
  · rw [decide_eq_true h]; exact h1 h
  · rw [decide_eq_false h]; exact h2 h
theorem wv_ndec {p : Prop} [Decidable p] (h1 : p → WV L T k (.bl false)) (h2 : ¬ p → WV L T k (.bl true)) : WV L T k (.bl (!decide p)) := by
  by_cases h : p
  · rw [decide_eq_true h]; exact h1 h
  · rw [decide_eq_false h]; exact h2 h
theorem wv_bool {b : Bool} (h1 : b = true → WV L T k (.bl true)) (h2 : b = false → WV L T k (.bl false)) : WV L T k (.bl b) := by
  cases b with
  | true => exact h1 rfl
  | false => exact h2 rfl

/-! ### the rules of Lg3 -/
def kCallW (sp : Sp) (dvs : List V) (W : WX) (σ : L2.St) (k : VK) : List V → Hp → Prop := fun vs H1 => sp (vs ++ dvs) H1 k (fun c d H => W c d σ H)
def kMethW (C : Addr) (m : Str) (sp : Sp) (dvs : List V) (W : WX) (t : TA) (σ : L2.St) (k : VK) : VK := fun x H1 => ∃ a dx fs, x = .ref a ∧ H1 a = some (.ins C dx fs) ∧ fs.lookup m = none ∧
  t σ H1 fun vs H2 => sp (x :: (vs ++ dvs)) H2 k (fun c d H => W c d σ H)
def kMethWB (a : Addr) (sp : Sp) (dvs : List V) (W : WX) (σ : L2.St) (k : VK) : List V → Hp → Prop := fun vs H2 => sp (.ref a :: (vs ++ dvs)) H2 k (fun c d H => W c d σ H)
def kMakeW (C : Addr) (sp : Sp) (dvs : List V) (W : WX) (σ : L2.St) (k : VK) : List V → Hp → Prop := fun vs H1 => ∀ x dx, H1 x = none → H1 dx = none → dx ≠ x →
  sp (.ref x :: (vs ++ dvs)) (upd (upd H1 dx (.own x)) x (.ins C dx [])) (fun v H2 => v = .non ∧ k (.ref x) H2) (fun c d H => W c d σ H)
theorem we_callW {sp : Sp} {dvs : List V} {W : WX} {t : TA} (q : WA L T t σ (kCallW sp dvs W σ k)) : WE L T (tCallW sp dvs W t) σ k := q
theorem wvs_callW {sp : Sp} {dvs vs : List V} {W : WX} (q : WSp L T sp (vs ++ dvs) k (fun c d H => W c d σ H)) : WVs L T (kCallW sp dvs W σ k) vs := q
theorem we_methW {C : Addr} {m : Str} {sp : Sp} {dvs : List V} {W : WX} {t : TA} (q : WE L T ta σ (kMethW C m sp dvs W t σ k)) : WE L T (tMethW C m sp dvs W ta t) σ k := q
theorem wv_methW {C a dx : Addr} {fs : List (Str × V)} {m : Str} {sp : Sp} {dvs : List V} {W : WX} {t : TA} (h : (a, HO.ins C dx fs) ∈ L) (hl : fs.lookup m = none) (q : WA L T t σ (kMethWB a sp dvs W σ k)) : WV L T (kMethW C m sp dvs W t σ k) (.ref a) :=
  fun H hs => ⟨a, dx, fs, rfl, hs.at_ _ h, hl, q H hs⟩
theorem wvs_methW {a : Addr} {sp : Sp} {dvs vs : List V} {W : WX} (q : WSp L T sp (.ref a :: (vs ++ dvs)) k (fun c d H => W c d σ H)) : WVs L T (kMethWB a sp dvs W σ k) vs := q
theorem we_makeW {C : Addr} {sp : Sp} {dvs : List V} {W : WX} {t : TA} (q : WA L T t σ (kMakeW C sp dvs W σ k)) : WE L T (tMakeW C sp dvs W t) σ k := q
theorem wvs_makeW {C : Addr} {sp : Sp} {dvs vs : List V} {W : WX} (q : ∀ p dx, WSp ((p, .ins C dx []) :: L) T sp (.ref p :: (vs ++ dvs)) (kMade p k) (fun c d H => W c d σ H)) : WVs L T (kMakeW C sp dvs W σ k) vs :=
  fun H hs p dx hp hd hne => q p dx _ ((hs.aside hd).new (by rw [upd_ne hne.symm]; exact hp))
def WXs (L : Led) (T : Tps) (W : WX) (c : Value) (d : Option Addr) (σ : L2.St) : Prop := ∀ H, Hs H L T → W c d σ H
theorem ws_rs {C : Addr} {W : WX} (q : WXs L T W (.ref C) none σ) : WS L T (tRaiseW C W) D σ := q
/-- at a def's own level -/
theorem wxs_E {E : XK} {c : Value} {d : Option Addr} (q : WX' L T E c d) : WXs L T (fun c d _ H => E c d H) c d σ := q

/-! ### the start -/
theorem ws_start {N : List Str} {vs : List V} {t : TS} (h : start N vs = σ) (q : WS L T t D σ) : WS L T t D (start N vs) := by rw [h]; exact q
/-! ### len -/
def rLenA (K : PySem.W.Frag) : List V → Hp → VK → Prop := fun xs H Q => ∃ x n, xs = [x] ∧ LenV K x H n ∧ Q (.int n) H
theorem call_lenA {X : Cx} : CallR X (.builtin "len") (rLenA X.K) := call_len
theorem wc_lenL {p : Addr} {xs : List V} (h : (p, HO.lst xs) ∈ L) (q : WV L T k (.int xs.length)) : WC L T (rLenA K) [.ref p] k := fun H hs => ⟨_, _, rfl, .inl ⟨_, SqL.of (hs.at_ _ h), rfl⟩, q H hs⟩
theorem wc_lenT {p : Addr} {xs : List V} (h : (p, xs) ∈ T) (q : WV L T k (.int xs.length)) : WC L T (rLenA K) [.ref p] k := fun H hs => ⟨_, _, rfl, .inr ⟨_, SqT.of (hs.tp _ h), rfl⟩, q H hs⟩
theorem wc_lenS {w : Str} (h : w.length ≤ sizeLine) (q : WV L T k (.int w.length)) : WC L T (rLenA K) [.str w] k := fun H hs => ⟨_, _, rfl, ⟨h, rfl⟩, q H hs⟩
/-! ### max, min of two -/
theorem wc_max2 {i j : Int} (q : WV L T k (.int (if j > i then j else i))) : WC L T (fun xs H Q => ∃ i j, xs = [.int i, .int j] ∧ Q (.int (if j > i then j else i)) H) [.int i, .int j] k := fun H hs => ⟨i, j, rfl, q H hs⟩
theorem wc_min2 {i j : Int} (q : WV L T k (.int (if j < i then j else i))) : WC L T (fun xs H Q => ∃ i j, xs = [.int i, .int j] ∧ Q (.int (if j < i then j else i)) H) [.int i, .int j] k := fun H hs => ⟨i, j, rfl, q H hs⟩
end
end Lg
/-! The steps that ask nothing, as equations for simp. -/
namespace Lg
open PySem PySem.Spec PyProof.Rows L2

def kSeq (u : TS) (D : Ends) : L2.St → Hp → Prop := u D
def kRtN (Q : VK) : L2.St → Hp → Prop := fun _ H' => Q .non H'
def kNo : L2.St → Hp → Prop := fun _ _ => False
def WFn (E : XK) : WX := fun cls d _ H => E cls d H
def atS (W : WX) (σ : L2.St) : XK := fun c d H => W c d σ H
/-- a def's wish about what leaves it -/
theorem tk_fn {X : Cx} {E : XK} (hs : X.stack = X.env :: X.outer) (hf : X.env.frame = some X.env.locals) (hex : X.ex = []) {E1 : Value → Shared → Prop}
    (hx : X.xe = fun e s' => wpAny (model X.prog X.w) X.A (leaving X.env e) (fun _ s'' => L2.CX X.prog X.w X.outer X.H_0 X.s_0 E e s'') E1 s') : Takes X (WFn E) := takes_of hs hf hex hx
theorem ok_go {vs : List V} {Q : VK} {H : Hp} {t : TS} {N : List Str} {L : Led} {T : Tps} (σ0 : L2.St) (hσ : start N vs = σ0) (hs : Hs H L T) (q : WS L T t ⟨kRtN Q, Q, kNo, kNo⟩ σ0) : t { nx := fun _ H' => Q .non H', rt := Q } (start N vs) H := by
  rw [hσ]
  exact q H hs
section
variable {L L' : Led} {T T' : Tps} {σ σ' : L2.St} {k : VK} {kb : Bool → Hp → Prop} {ks : List V → Hp → Prop} {ta tb tc te tx : TE} {t u : TT} {x y z v : V} {r r' : R2} {n : L2.St → Hp → Prop} {D : Ends} {K : PySem.W.Frag}
theorem e_var0 {s : L2.St} : WE L T (tVar 0) (some v :: s) k = WV L T k v := propext ⟨fun q H hs => by
  obtain ⟨v', e, q⟩ := q H hs
  have e2 : v = v' := by simpa using e
  rw [e2]; exact q, fun q H hs => ⟨v, rfl, q H hs⟩⟩
theorem e_varS {i : Nat} {o : Option V} {s : L2.St} : WE L T (tVar (i + 1)) (o :: s) k = WE L T (tVar i) s k := rfl
theorem e_c : WE L T (tC v) σ k = WV L T k v := rfl
theorem e_op : WE L T (tOp r ta tb) σ k = WE L T ta σ (kOpA r tb σ k) := rfl
theorem e_opA : WV L T (kOpA r tb σ k) x = WE L T tb σ (kOpB r x k) := rfl
theorem e_opB : WV L T (kOpB r x k) y = WR L T r x y k := rfl
theorem e_un {r : V → Hp → VK → Prop} : WE L T (tUn r ta) σ k = WE L T ta σ (kUn r k) := rfl
theorem e_kUn {r : V → Hp → VK → Prop} : WV L T (kUn r k) x = WU L T r x k := rfl
theorem e_rU {g : Int → V} {i : Int} : WU L T (rU g) (.int i) k = WV L T k (g i) := propext ⟨fun q H hs => by
  obtain ⟨i', e, q⟩ := q H hs
  cases e; exact q, fun q => wu_rU q⟩
theorem e_I0 {g : Int → Int → V} {i j : Int} : WR L T (rI0 g) (.int i) (.int j) k = WV L T k (g i j) := propext ⟨fun q H hs => by
  obtain ⟨i', j', e, e2, q⟩ := q H hs
  cases e; cases e2; exact q, fun q => wr_I0 q⟩
theorem e_eqI {i j : Int} : WR L T rEq (.int i) (.int j) k = WV L T k (.bl (decide (i = j))) := propext ⟨fun q H hs => by
  obtain ⟨_, q⟩ := q H hs
  have e : decide (V.int i = V.int j) = decide (i = j) := by rw [decide_eq_decide]; exact ⟨fun z => V.int.inj z, fun z => by rw [z]⟩
  rw [e] at q; exact q, fun q => wr_eqI q⟩
theorem e_neI {i j : Int} : WR L T rNe (.int i) (.int j) k = WV L T k (.bl (!decide (i = j))) := propext ⟨fun q H hs => by
  obtain ⟨_, q⟩ := q H hs
  have e : decide (V.int i = V.int j) = decide (i = j) := by rw [decide_eq_decide]; exact ⟨fun z => V.int.inj z, fun z => by rw [z]⟩
  rw [e] at q; exact q, fun q => wr_neI q⟩
theorem e_eqS {i j : Str} : WR L T rEq (.str i) (.str j) k = WV L T k (.bl (decide (i = j))) := propext ⟨fun q H hs => by
  obtain ⟨_, q⟩ := q H hs
  have e : decide (V.str i = V.str j) = decide (i = j) := by rw [decide_eq_decide]; exact ⟨fun z => V.str.inj z, fun z => by rw [z]⟩
  rw [e] at q; exact q, fun q => wr_eqS q⟩
theorem e_neS {i j : Str} : WR L T rNe (.str i) (.str j) k = WV L T k (.bl (!decide (i = j))) := propext ⟨fun q H hs => by
  obtain ⟨_, q⟩ := q H hs
  have e : decide (V.str i = V.str j) = decide (i = j) := by rw [decide_eq_decide]; exact ⟨fun z => V.str.inj z, fun z => by rw [z]⟩
  rw [e] at q; exact q, fun q => wr_neS q⟩
def rUIsN : V → Hp → VK → Prop := fun x H k => k (.bl (decide (x = .non))) H
def rUNotN : V → Hp → VK → Prop := fun x H k => k (.bl (!decide (x = .non))) H
theorem e_isN : WE L T (tIsN ta) σ k = WE L T ta σ (kUn rUIsN k) := rfl
theorem e_notN : WE L T (tNotN ta) σ k = WE L T ta σ (kUn rUNotN k) := rfl
theorem e_isNN : WU L T rUIsN .non k = WV L T k (.bl true) := rfl
theorem e_isNI {i : Int} : WU L T rUIsN (.int i) k = WV L T k (.bl false) := rfl
theorem e_isNR {a : Addr} : WU L T rUIsN (.ref a) k = WV L T k (.bl false) := rfl
theorem e_isNS {w : Str} : WU L T rUIsN (.str w) k = WV L T k (.bl false) := rfl
theorem e_isNB {b : Bool} : WU L T rUIsN (.bl b) k = WV L T k (.bl false) := rfl
theorem e_notNN : WU L T rUNotN .non k = WV L T k (.bl false) := rfl
theorem e_notNI {i : Int} : WU L T rUNotN (.int i) k = WV L T k (.bl true) := rfl
theorem e_notNR {a : Addr} : WU L T rUNotN (.ref a) k = WV L T k (.bl true) := rfl
theorem e_notNS {w : Str} : WU L T rUNotN (.str w) k = WV L T k (.bl true) := rfl
theorem e_notNB {b : Bool} : WU L T rUNotN (.bl b) k = WV L T k (.bl true) := rfl
theorem e_chain : WE L T (tChain r r' ta tb tc) σ k = WE L T ta σ (kChA r r' tb tc σ k) := rfl
theorem e_chA : WV L T (kChA r r' tb tc σ k) x = WE L T tb σ (kChB r r' x tc σ k) := rfl
theorem e_chB : WV L T (kChB r r' x tc σ k) y = WR L T r x y (kChC r' y tc σ k) := rfl
theorem e_chT : WV L T (kChC r' y tc σ k) (.bl true) = WE L T tc σ (kOpB r' y k) := propext ⟨fun q H hs => by
  obtain ⟨c, e, q⟩ := q H hs
  cases e; exact q, fun q => wv_chT q⟩
theorem e_chF : WV L T (kChC r' y tc σ k) (.bl false) = WV L T k (.bl false) := propext ⟨fun q H hs => by
  obtain ⟨c, e, q⟩ := q H hs
  cases e; exact q, fun q => wv_chF q⟩
theorem e_test : WT L T (tTest te) σ kb = WE L T te σ (kB kb) := rfl
theorem e_tB : WT L T (tB te) σ kb = WE L T te σ (kB kb) := rfl
theorem e_kB {b : Bool} : WV L T (kB kb) (.bl b) = WB L T kb b := propext ⟨fun q H hs => by
  obtain ⟨c, e, q⟩ := q H hs
  cases e; exact q, fun q => wv_kB q⟩
theorem e_and : WT L T (tAnd t u) σ kb = WT L T t σ (kAnd u σ kb) := rfl
theorem e_or : WT L T (tOr t u) σ kb = WT L T t σ (kOr u σ kb) := rfl
theorem e_not : WT L T (tNot t) σ kb = WT L T t σ (kNot kb) := rfl
theorem e_kNotT : WB L T (kNot kb) true = WB L T kb false := rfl
theorem e_kNotF : WB L T (kNot kb) false = WB L T kb true := rfl
theorem e_kNot {b : Bool} : WB L T (kNot kb) b = WB L T kb (!b) := rfl
theorem e_kAndT : WB L T (kAnd u σ kb) true = WT L T u σ kb := propext ⟨fun q H hs => q H hs, fun q => wb_andT q⟩
theorem e_kAndF : WB L T (kAnd u σ kb) false = WB L T kb false := propext ⟨fun q H hs => q H hs, fun q => wb_andF q⟩
theorem e_kOrT : WB L T (kOr u σ kb) true = WB L T kb true := propext ⟨fun q H hs => q H hs, fun q => wb_orT q⟩
theorem e_kOrF : WB L T (kOr u σ kb) false = WT L T u σ kb := propext ⟨fun q H hs => q H hs, fun q => wb_orF q⟩
theorem e_andV : WE L T (tAndV ta tb) σ k = WE L T ta σ (kAndV tb σ k) := rfl
theorem e_orV : WE L T (tOrV ta tb) σ k = WE L T ta σ (kOrV tb σ k) := rfl
theorem e_notV : WE L T (tNotV ta) σ k = WE L T ta σ (kNotV k) := rfl
theorem e_kAndVT : WV L T (kAndV tb σ k) (.bl true) = WE L T tb σ k := propext ⟨fun q H hs => by
  obtain ⟨c, e, q⟩ := q H hs
  cases e; exact q, fun q => wv_andT q⟩
theorem e_kAndVF : WV L T (kAndV tb σ k) (.bl false) = WV L T k (.bl false) := propext ⟨fun q H hs => by
  obtain ⟨c, e, q⟩ := q H hs
  cases e; exact q, fun q => wv_andF q⟩
theorem e_kOrVT : WV L T (kOrV tb σ k) (.bl true) = WV L T k (.bl true) := propext ⟨fun q H hs => by
  obtain ⟨c, e, q⟩ := q H hs
  cases e; exact q, fun q => wv_orT q⟩
theorem e_kOrVF : WV L T (kOrV tb σ k) (.bl false) = WE L T tb σ k := propext ⟨fun q H hs => by
  obtain ⟨c, e, q⟩ := q H hs
  cases e; exact q, fun q => wv_orF q⟩
theorem e_kNotV {b : Bool} : WV L T (kNotV k) (.bl b) = WV L T k (.bl (!b)) := propext ⟨fun q H hs => by
  obtain ⟨c, e, q⟩ := q H hs
  cases e; exact q, fun q => wv_notV q⟩
theorem e_if : WE L T (tIf t ta tb) σ k = WT L T t σ (kIf ta tb σ k) := rfl
theorem e_kIfT : WB L T (kIf ta tb σ k) true = WE L T ta σ k := propext ⟨fun q H hs => q H hs, fun q => wb_ifT q⟩
theorem e_kIfF : WB L T (kIf ta tb σ k) false = WE L T tb σ k := propext ⟨fun q H hs => q H hs, fun q => wb_ifF q⟩
theorem e_nil : WA L T tNil σ ks = WVs L T ks [] := rfl
theorem e_cons {tr : TA} : WA L T (tCons ta tr) σ ks = WE L T ta σ (kCons tr σ ks) := rfl
theorem e_kCons {tr : TA} : WV L T (kCons tr σ ks) x = WA L T tr σ (kConsB x ks) := rfl
theorem e_kConsB {xs : List V} : WVs L T (kConsB x ks) xs = WVs L T ks (x :: xs) := rfl
theorem e_tup {t : TA} : WE L T (tTup t) σ k = WA L T t σ (kTup k) := rfl
theorem e_lst {t : TA} : WE L T (tLst t) σ k = WA L T t σ (kLst k) := rfl
theorem e_fld {f : Str} : WE L T (tFld K ta f) σ k = WE L T ta σ (kFld K f k) := rfl
theorem e_sfld {f : Str} : WS L T (sFld K ta tx f) D σ = WE L T tx σ (kSFldA K ta f D σ) := rfl
theorem e_sfldA {f : Str} : WV L T (kSFldA K ta f D σ) y = WE L T ta σ (kSFldB K y f D σ) := rfl
theorem e_callW {sp : Sp} {dvs : List V} {W : WX} {t : TA} : WE L T (tCallW sp dvs W t) σ k = WA L T t σ (kCallW sp dvs W σ k) := rfl
theorem e_kCallW {sp : Sp} {dvs vs : List V} {W : WX} : WVs L T (kCallW sp dvs W σ k) vs = WSp L T sp (vs ++ dvs) k (atS W σ) := rfl
theorem e_methW {C : Addr} {m : Str} {sp : Sp} {dvs : List V} {W : WX} {t : TA} : WE L T (tMethW C m sp dvs W ta t) σ k = WE L T ta σ (kMethW C m sp dvs W t σ k) := rfl
theorem e_kMethWB {a : Addr} {sp : Sp} {dvs vs : List V} {W : WX} : WVs L T (kMethWB a sp dvs W σ k) vs = WSp L T sp (.ref a :: (vs ++ dvs)) k (atS W σ) := rfl
theorem e_makeW {C : Addr} {sp : Sp} {dvs : List V} {W : WX} {t : TA} : WE L T (tMakeW C sp dvs W t) σ k = WA L T t σ (kMakeW C sp dvs W σ k) := rfl
theorem e_made {p : Addr} : WV L T (kMade p k) .non = WV L T k (.ref p) := propext ⟨fun q H hs => (q H hs).2, fun q => wv_made q⟩
theorem e_atFn {E : XK} : atS (WFn E) σ = E := rfl
theorem e_cb {r : List V → Hp → VK → Prop} {t : TA} : WE L T (tCB r t) σ k = WA L T t σ (kCB r k) := rfl
theorem e_kCB {r : List V → Hp → VK → Prop} {vs : List V} : WVs L T (kCB r k) vs = WC L T r vs k := rfl
theorem e_bm {T' : String} {r : V → List V → Hp → VK → Prop} {t : TA} : WE L T (tBM K T' r ta t) σ k = WE L T ta σ (kBM K T' r t σ k) := rfl
theorem e_bm0 {T' : String} {r : V → List V → Hp → VK → Prop} : WE L T (tBM0 K T' r ta) σ k = WE L T ta σ (kBM0 K T' r k) := rfl
theorem e_kBMB {r : V → List V → Hp → VK → Prop} {vs : List V} : WVs L T (kBMB r x k) vs = WM L T r x vs k := rfl
theorem e_bmS {r : V → List V → Hp → VK → Prop} {t : TA} {w : Str} : WV L T (kBM K "str" r t σ k) (.str w) = WA L T t σ (kBMB r (.str w) k) := propext ⟨fun q H hs => (q H hs).2, fun q => wv_bmS q⟩
theorem e_bm0S {r : V → List V → Hp → VK → Prop} {w : Str} : WV L T (kBM0 K "str" r k) (.str w) = WM L T r (.str w) [] k := propext ⟨fun q H hs => (q H hs).2, fun q => wv_bm0S q⟩
theorem e_oNone {kk : Option Int → Hp → Prop} : WO L T tNoPart σ kk = WOV L T kk none := rfl
theorem e_oSome {kk : Option Int → Hp → Prop} : WO L T (tPart te) σ kk = WE L T te σ (kPart kk) := rfl
theorem e_part {kk : Option Int → Hp → Prop} {i : Int} : WV L T (kPart kk) (.int i) = WOV L T kk (some i) := propext ⟨fun q H hs => by
  obtain ⟨c, e, q⟩ := q H hs
  cases e; exact q, fun q => wv_part q⟩
theorem e_sl {r : V → Option Int → Option Int → Hp → VK → Prop} {tl th : TO} : WE L T (tSl r te tl th) σ k = WE L T te σ (kSlA r tl th σ k) := rfl
theorem e_slA {r : V → Option Int → Option Int → Hp → VK → Prop} {tl th : TO} : WV L T (kSlA r tl th σ k) x = WO L T tl σ (kSlB r x th σ k) := rfl
theorem e_slB {r : V → Option Int → Option Int → Hp → VK → Prop} {th : TO} {o : Option Int} : WOV L T (kSlB r x th σ k) o = WO L T th σ (kSlC r x o k) := rfl
theorem e_seq {t u : TS} {n : L2.St → Hp → Prop} {rt : VK} {bk ct : L2.St → Hp → Prop} : WS L T (tSeq t u) ⟨n, rt, bk, ct⟩ σ = WS L T t ⟨kSeq u ⟨n, rt, bk, ct⟩, rt, bk, ct⟩ σ := rfl
theorem e_kSeq {u : TS} : WN L T (kSeq u D) σ = WS L T u D σ := rfl
theorem e_next : WS L T tNext D σ = WN L T D.nx σ := rfl
theorem e_brk : WS L T tBreak D σ = WN L T D.bk σ := rfl
theorem e_cont : WS L T tCont D σ = WN L T D.ct σ := rfl
theorem e_asg {g : TG} : WS L T (tAsg te g) D σ = WE L T te σ (kAsg g σ D.nx) := rfl
theorem e_kAsg {g : TG} : WV L T (kAsg g σ n) x = WG L T g x σ n := rfl
theorem e_gName {i : Nat} : WG L T (gName i) x σ n = WN L T n (σ.set i (some x)) := rfl
theorem e_gNil : WGs L T gNil [] σ n = WN L T n σ := propext ⟨fun q H hs => (q H hs).2, fun q => wgs_nil q⟩
theorem e_gCons {g : TG} {gs : TGs} {xs : List V} : WGs L T (gCons g gs) (x :: xs) σ n = WG L T g x σ (kGs gs xs n) := propext ⟨fun q H hs => by
  obtain ⟨v, r, e, q⟩ := q H hs
  cases e; exact q, fun q => wgs_cons q⟩
theorem e_kGs {gs : TGs} {xs : List V} : WN L T (kGs gs xs n) σ = WGs L T gs xs σ n := rfl
theorem e_drop : WS L T (tDrop te) D σ = WE L T te σ (kDrop D.nx σ) := rfl
theorem e_kDrop : WV L T (kDrop n σ) x = WN L T n σ := rfl
theorem e_ret : WS L T (tRet te) D σ = WE L T te σ D.rt := rfl
theorem e_retN : WS L T tRetN D σ = WV L T D.rt .non := rfl
theorem e_rtN {Q : VK} : WN L T (kRtN Q) σ = WV L T Q .non := rfl
theorem e_ifs {c : TT} {t u : TS} : WS L T (tIfS c t u) D σ = WT L T c σ (kIfS t u D σ) := rfl
theorem e_kIfST {t u : TS} : WB L T (kIfS t u D σ) true = WS L T t D σ := propext ⟨fun q H hs => q H hs, fun q => wb_ifsT q⟩
theorem e_kIfSF {t u : TS} : WB L T (kIfS t u D σ) false = WS L T u D σ := propext ⟨fun q H hs => q H hs, fun q => wb_ifsF q⟩
theorem e_for {wi : TI} {g : TG} {tb : TS} : WS L T (tFor wi g tb) D σ = WI L T wi σ (kFor g tb D σ) := rfl
theorem e_iList {R : It → Hp → Prop} : WI L T (iList K te) σ R = WE L T te σ (kIList K R) := rfl
theorem e_iTup {R : It → Hp → Prop} : WI L T (iTup K te) σ R = WE L T te σ (kITup K R) := rfl
theorem e_iR1 {R : It → Hp → Prop} {t : TA} : WI L T (iRng1 t) σ R = WA L T t σ (kIR1 R) := rfl
theorem e_iR2 {R : It → Hp → Prop} {t : TA} : WI L T (iRng2 t) σ R = WA L T t σ (kIR2 R) := rfl
theorem e_body {tb : TS} : WN L T (kBody tb D) σ = WS L T tb D σ := rfl
theorem e_rs {C : Addr} {W : WX} : WS L T (tRaiseW C W) D σ = WX' L T (atS W σ) (.ref C) none := rfl
theorem e_truB {b : Bool} : WV L T (kTru K kb) (.bl b) = WB L T kb b := propext ⟨fun q H hs => by
  obtain ⟨c, e, q⟩ := q H hs
  cases (show c = b from e); exact q, fun q => wv_truB q⟩
theorem d_chD {p : Prop} [Decidable p] (h1 : p → WE L T tc σ (kOpB r' y k)) (h2 : ¬ p → WV L T k (.bl false)) : WV L T (kChC r' y tc σ k) (.bl (decide p)) := wv_dec (fun h => wv_chT (h1 h)) (fun h => wv_chF (h2 h))
theorem d_chB {b : Bool} (h1 : b = true → WE L T tc σ (kOpB r' y k)) (h2 : b = false → WV L T k (.bl false)) : WV L T (kChC r' y tc σ k) (.bl b) := wv_chC h1 h2
theorem d_andD {p : Prop} [Decidable p] (h1 : p → WE L T tb σ k) (h2 : ¬ p → WV L T k (.bl false)) : WV L T (kAndV tb σ k) (.bl (decide p)) := wv_dec (fun h => wv_andT (h1 h)) (fun h => wv_andF (h2 h))
theorem d_andN {p : Prop} [Decidable p] (h1 : p → WV L T k (.bl false)) (h2 : ¬ p → WE L T tb σ k) : WV L T (kAndV tb σ k) (.bl (!decide p)) := wv_ndec (fun h => wv_andF (h1 h)) (fun h => wv_andT (h2 h))
theorem d_orD {p : Prop} [Decidable p] (h1 : p → WV L T k (.bl true)) (h2 : ¬ p → WE L T tb σ k) : WV L T (kOrV tb σ k) (.bl (decide p)) := wv_dec (fun h => wv_orT (h1 h)) (fun h => wv_orF (h2 h))
theorem d_orN {p : Prop} [Decidable p] (h1 : p → WE L T tb σ k) (h2 : ¬ p → WV L T k (.bl true)) : WV L T (kOrV tb σ k) (.bl (!decide p)) := wv_ndec (fun h => wv_orF (h1 h)) (fun h => wv_orT (h2 h))
end
end Lg
set_option maxHeartbeats 2000000
/-! Dicts whose keys are tuples: pop, dict(pairs), update. -/
namespace Lg
open PySem PySem.Spec PyProof.Rows L2

section
variable {X : Cx}
/-- d.pop(k), the key is there -/
def rPopT1 : V → List V → Hp → VK → Prop := fun x xs H Q => ∃ (a : Addr) (kvs : List (List L2.Key × V)) (k : List L2.Key) (b : Addr) (v : V), x = .ref a ∧ xs = [.ref b] ∧ H a = some (.dT kvs) ∧ H b = some (.tup (k.map kV)) ∧
  valV kvs k = some v ∧ Q v (upd H a (.dT (dropK kvs k)))
theorem mt_popT1 (hu : X.A.units + 1 < cLine) : MtR X "dict.pop" rPopT1 := by
  intro pins s σ H x xs v us Q I rx rxs h
  obtain ⟨a, kvs, k, b, d, rfl, rfl, ha, hb, hv, q1⟩ := h
  cases rx
  obtain ⟨u1, rfl, r1⟩ := vals1 rxs
  cases r1
  obtain ⟨z, hd, xs', rel, dd⟩ := dt_of I.hok ha
  have hz : xs'.length ≤ sizeLine := by rw [← Paired.length rel]; exact z
  have r := rel.val k
  rw [hv] at r
  obtain ⟨u, hu', rv⟩ := RelO.some_of r
  obtain ⟨p, hp, ep⟩ := Option.map_eq_some_iff.mp hu'
  refine call_pop_heap (hsz := hz) (.inl rfl) (PySem.F.args_dict_pop_2 _ _) (tupleKind_room_in1 hu) (key_of I.hok hb) hd dd hp fun h' dd' hs => ?_
  obtain ⟨o, es, ep', hq, h2, h3, h4, _, h5⟩ := dd'
  have I2 : Inv X pins σ (upd H a (.dT (dropK kvs k))) { s with heap := h', toks := s.toks + (tupleKind (mixKind X.prog X.w)).draws k } :=
    d_write I (by rw [ha]; exact True.intro) hs ⟨o, hq⟩ ⟨Nat.le_trans (dropK_le kvs k) z, hd, _, (L2.DX.KT_drop k rel).keeps (fun c ys ec => (by rw [upd_ne (ne_of ec ha (fun z => nomatch z))]; exact ec)), o, es, ep', hq, h2, h3, h4, h5⟩
  exact ⟨d, _, I2, by rw [ep]; exact rv, q1⟩

/-- pairs laid one by one -/
def putAllT (kvs : List (List L2.Key × V)) (ps : List (List L2.Key × V)) : List (List L2.Key × V) := ps.foldl (fun acc p => putK acc p.1 p.2) kvs
theorem kt_putAll {H : Hp} {ps : List (List L2.Key × V)} {ys : List (List L2.Key × Addr × Value)} (r : KT H ps ys) : ∀ {kvs : List (List L2.Key × V)} {xs : List (List L2.Key × Addr × Value)}, KT H kvs xs → KT H (putAllT kvs ps) (storedAllH xs ys) := by
  induction r with
  | nil => intro kvs xs t; exact t
  | @cons p y ps ys r rest ih =>
    intro kvs xs t
    obtain ⟨e1, e2, e3⟩ := r
    have t2 := KT.put t p.1 e2 e3
    have t3 := ih t2
    show KT H (putAllT (putK kvs p.1 p.2) ps) (storedAllH (storedH xs y.1 y.2.1 y.2.2) ys)
    rw [← e1]
    exact t3
theorem putAllT_length (ps : List (List L2.Key × V)) : ∀ kvs : List (List L2.Key × V), (putAllT kvs ps).length ≤ kvs.length + ps.length := by
  induction ps with
  | nil => intro kvs; exact Nat.le_refl _
  | cons p ps ih =>
    intro kvs
    have h1 := ih (putK kvs p.1 p.2)
    have h2 := length_putK kvs p.1 p.2
    show (putAllT (putK kvs p.1 p.2) ps).length ≤ kvs.length + (ps.length + 1)
    omega
/-- at t stands the pair of the key's tuple and the value -/
def PairKT (H : Hp) (t : Addr) (kv : List L2.Key × V) : Prop := ∃ b, H t = some (.tup [.ref b, kv.2]) ∧ H b = some (.tup (kv.1.map kV))
theorem pairsT_of {pins : List (Addr × Obj)} {σ : L2.St} {H : Hp} {s : Shared} (I : Inv X pins σ H s) : ∀ {ps : List Addr} {kvs : List (List L2.Key × V)}, Paired (PairKT H) ps kvs →
    ∃ ys : List (List L2.Key × Addr × Value), KT H kvs ys ∧ ys.length = ps.length ∧ ∀ (j : Nat) (q : List L2.Key × Addr × Value), ys[j]? = some q → ∃ t : Addr, ps[j]? = some t ∧ IsTup s.heap t #[.ref q.2.1, q.2.2]
  | _, _, .nil => ⟨[], .nil, rfl, fun j q e => by simp at e⟩
  | _, _, .cons (a := p) (b := kv) h t => by
    obtain ⟨ys, r, hl, hp⟩ := pairsT_of I t
    obtain ⟨b, h1, h2⟩ := h
    obtain ⟨its, rv, ht, _⟩ := I.tuple (SqT.of h1)
    obtain ⟨u, y, ei, ru, ry⟩ := vals2 rv
    subst ei
    cases ru
    refine ⟨(kv.1, b, y) :: ys, .cons ⟨rfl, h2, ry⟩ r, by rw [List.length_cons, List.length_cons, hl], fun j q e => ?_⟩
    cases j with
    | zero =>
      have e' : (kv.1, b, y) = q := Option.some.inj e
      subst e'
      exact ⟨p, rfl, ht⟩
    | succ j =>
      obtain ⟨t', e1, e2⟩ := hp j q (by simpa using e)
      exact ⟨t', by simpa using e1, e2⟩
theorem kt_len {H : Hp} {kvs : List (List L2.Key × V)} {xs : List (List L2.Key × Addr × Value)} (r : KT H kvs xs) : kvs.length = xs.length := Paired.length r
/-- dict(xs): xs a list of pairs (a tuple that is the key, a value) -/
def rDictT (K : PySem.W.Frag) : List V → Hp → VK → Prop := fun xs H Q => ∃ (a : Addr) (ps : List Addr) (kvs : List (List L2.Key × V)), xs = [.ref a] ∧ SqL K H a (ps.map V.ref) ∧ Paired (PairKT H) ps kvs ∧
  ∀ p, H p = none → Q (.ref p) (upd H p (.dT (putAllT [] kvs)))
theorem call_dictT (hcalm : X.calm = true) (hu : X.A.units + 8 < cLine) : CallR X (.type "dict") (rDictT X.K) := by
  intro pins s σ H xs us Q I r q
  obtain ⟨a, ps, kvs, ex, hq, hp, q⟩ := q
  subst ex
  obtain ⟨u, eu, rx⟩ := vals1 r
  subst eu
  cases rx
  obtain ⟨its, rv, pl, hz⟩ := I.list hq
  have ei := refs_at rv
  subst ei
  rw [List.length_map] at hz
  obtain ⟨ys, rel, hl, hpr⟩ := pairsT_of I hp
  obtain ⟨o, n, ho, hc, hd, hdat⟩ := pl
  have isk : ∀ h' : Heap, (∀ b o, b ≠ s.heap.objs.size → b ∉ ([] : List Addr) → s.heap.get? b = some o → h'.get? b = some o) → ∀ x ∈ ys, (tupleKind (mixKind X.prog X.w)).is h' x.1 x.2.1 := by
    intro h' hk
    have all : ∀ {l : List (List L2.Key × V)} {m : List (List L2.Key × Addr × Value)}, KT H l m → ∀ x ∈ m, (tupleKind (mixKind X.prog X.w)).is h' x.1 x.2.1 := by
      intro l m qq
      induction qq with
      | nil => intro x hx; exact nomatch hx
      | @cons p q ps qs hq t ih =>
        intro x hx
        rcases List.mem_cons.mp hx with e | hx
        · subst e
          have k1 : (tupleKind (mixKind X.prog X.w)).is s.heap x.1 x.2.1 := key_of I.hok (by rw [← hq.1]; exact hq.2.1)
          exact tupleKind_stays.stays (fun b o vs n e _ => hk b o (Nat.ne_of_lt (Heap.lt_size e)) (fun z => nomatch z) e) k1
        · exact ih x hx
    exact all rel
  refine call_dict_pairsH (knd := tupleKind (mixKind X.prog X.w)) (ps := ys) (PairArg.list a (ps.map Value.ref).toArray (fun j => ps.getD j 0) (ys.map fun y => (Value.ref y.2.1, y.2.2))) (I.ok.hd hcalm) ?_ ⟨⟨o, n, ho, hc, hd, hdat⟩, ?_, ?_⟩ ?_ isk ?_ fun h' tk hd' k => ?_
  · show X.A.in1.in1.units < cLine
    have e : X.A.in1.in1.units = X.A.units + 2 := rfl
    omega
  · simp [hl]
  · intro j k v hj
    rw [List.getElem?_map] at hj
    cases ey : ys[j]? with
    | none => rw [ey] at hj; cases hj
    | some y =>
      rw [ey] at hj
      obtain ⟨t, e1, e2⟩ := hpr j y ey
      have e3 : (Value.ref y.2.1, y.2.2) = (k, v) := Option.some.inj hj
      cases e3
      refine ⟨?_, .inl ?_⟩
      · simp [e1]
      · have e4 : ps.getD j 0 = t := by simp [List.getD, e1]
        show s.heap.IsTuple (ps.getD j 0) _
        rw [e4]
        exact e2
  · refine ⟨by simp, fun i key v hr => ?_⟩
    have hr : (ys.map fun y => (Value.ref y.2.1, y.2.2))[i]? = some (key, v) := hr
    rw [List.getElem?_map] at hr
    cases ey : ys[i]? with
    | none => rw [ey] at hr; cases hr
    | some y =>
      rw [ey] at hr
      have e3 : (Value.ref y.2.1, y.2.2) = (key, v) := Option.some.inj hr
      cases e3
      exact ⟨y.1, y.2.1, rfl, rfl⟩
  · rw [List.length_map, hl]
    exact hz
  · have hm : (s.heap.objs.size == sysModules) = false := beq_eq_false_iff_ne.mpr (Nat.ne_of_gt I.big)
    obtain ⟨od, es, ep, hq1, h2, h3, h4, _, h5⟩ := hd'
    have nf : H s.heap.objs.size = none := I.hok.fresh (Nat.le_refl _)
    have rel2 := kt_putAll rel (kvs := []) (xs := []) .nil
    have hlen : (putAllT [] kvs).length ≤ sizeLine := by
      have e1 := putAllT_length kvs []
      have e2 := kt_len rel
      simp only [List.length_nil] at e1
      omega
    exact ⟨.ref s.heap.objs.size, upd H s.heap.objs.size (.dT (putAllT [] kvs)), I.laid (t' := tk) (fun b o e => k b o (fun z => nomatch z) e) (Nat.le_refl _)
      (show ObjOk X.prog X.w _ _ _ (.dT (putAllT [] kvs)) from ⟨hlen, hm, _, rel2.keeps (fun c ys ec => by rw [upd_ne (ne_of_none ec nf)]; exact ec), od, es, ep, hq1, h2, h3, h4, h5⟩), rfl, q _ nf⟩

/-! ### d.update(d2) -/
def kH (ks : List L2.Key) : List Int := ks.map fun k => match k with
  | .inl i => hashInt i
  | .inr _ => 0
def noTx (ks : List L2.Key) : Bool := ks.all fun k => match k with
  | .inl _ => true
  | .inr _ => false
theorem kH_eq {P : Program} {w : World} : ∀ {ks : List L2.Key}, noTx ks = true → ks.map (mixKind P w).hash = kH ks
  | [], _ => rfl
  | .inl i :: ks, h => by
    have h2 : noTx ks = true := by simpa [noTx] using h
    show hashInt i :: ks.map (mixKind P w).hash = hashInt i :: kH ks
    rw [kH_eq h2]
  | .inr _ :: ks, h => by simp [noTx] at h
def tupH (ks : List L2.Key) : Int := reduceHash (Builtin.Tuple.tupleHashOf (kH ks))
/-- d.update(d2), where d is not empty or the keys of d2 are apart by their hashes -/
def rUpdT : V → List V → Hp → VK → Prop := fun x xs H Q => ∃ (a b : Addr) (kvs ms : List (List L2.Key × V)), x = .ref a ∧ xs = [.ref b] ∧ a ≠ b ∧ H a = some (.dT kvs) ∧ H b = some (.dT ms) ∧ kvs.length + ms.length ≤ sizeLine ∧
  (∀ m ∈ ms, noTx m.1 = true) ∧ (ms.map fun m => tupH m.1).Nodup ∧ Q .non (upd H a (.dT (putAllT kvs ms)))
theorem mt_updT (hu : X.A.units + 8 < cLine) : MtR X "dict.update" rUpdT := by
  intro pins s σ H x xs v us Q I rx rxs h
  obtain ⟨a, b, kvs, ms, rfl, rfl, hne, ha, hb, hz, htx, hnd, q⟩ := h
  cases rx
  obtain ⟨u1, rfl, r1⟩ := vals1 rxs
  cases r1
  obtain ⟨z1, hd1, xs1, rel1, dd1⟩ := dt_of I.hok ha
  obtain ⟨z2, hd2, xs2, rel2, dd2⟩ := dt_of I.hok hb
  have l1 := kt_len rel1
  have l2 := kt_len rel2
  have hk : (xs2.map fun x => (tupleKind (mixKind X.prog X.w)).hash x.1) = ms.map fun m => tupH m.1 := by
    have all : ∀ {l : List (List L2.Key × V)} {m : List (List L2.Key × Addr × Value)}, KT H l m → (∀ z ∈ l, noTx z.1 = true) → (m.map fun x => (tupleKind (mixKind X.prog X.w)).hash x.1) = l.map fun m => tupH m.1 := by
      intro l m qq
      induction qq with
      | nil => intro _; rfl
      | @cons p q ps qs hq t ih =>
        intro hh
        rw [List.map_cons, List.map_cons, ih fun z hz => hh z (List.mem_cons_of_mem _ hz)]
        have e : (tupleKind (mixKind X.prog X.w)).hash q.1 = tupH p.1 := by
          show reduceHash (Builtin.Tuple.tupleHashOf (q.1.map (mixKind X.prog X.w).hash)) = _
          rw [← hq.1, kH_eq (hh p List.mem_cons_self)] <;> rfl
        rw [e]
    exact all rel2 htx
  refine call_update_dictH (knd := tupleKind (mixKind X.prog X.w)) ?_ hne hd2 dd1 dd2 (.inr ⟨keyed_apart tupleKind_stays dd2, by rw [hk]; exact hnd⟩) (by omega) fun h' d1 d2 hs => ?_
  · show X.A.in1.units < cLine
    have e : X.A.in1.units = X.A.units + 1 := rfl
    omega
  · obtain ⟨od, es, ep, hq1, h2, h3, h4, _, h5⟩ := d1
    have rel3 := kt_putAll rel2 rel1
    have hlen : (putAllT kvs ms).length ≤ sizeLine := Nat.le_trans (putAllT_length ms kvs) hz
    have I2 : Inv X pins σ (upd H a (.dT (putAllT kvs ms))) { s with heap := h', toks := s.toks } :=
      d_write I (by rw [ha]; exact True.intro) hs ⟨od, hq1⟩ ⟨hlen, hd1, _, rel3.keeps (fun c ys ec => (by rw [upd_ne (ne_of ec ha (fun z => nomatch z))]; exact ec)), od, es, ep, hq1, h2, h3, h4, h5⟩
    exact ⟨.non, _, I2, rfl, q⟩
end
end Lg
set_option maxHeartbeats 4000000
/-! The hashes of the pairs (house, moment), moments near each other, are apart. -/
namespace Lg
open PySem PySem.Spec PyProof.Rows L2
abbrev M64 : Nat := 18446744073709551616
abbrev P1 : Nat := 11400714785074694791
abbrev P2 : Nat := 14029467366897019727
abbrev P5 : Nat := 2870177450012600261
def rot (a : Nat) : Nat := (a * 2147483648) % M64 + a / 8589934592
def stp (acc h : Nat) : Nat := rot ((acc + h * P2) % M64) * P1 % M64
theorem mul_inj {p q x y : Nat} (hp : p * q % M64 = 1) (hx : x < M64) (hy : y < M64) (h : x * p % M64 = y * p % M64) : x = y := by
  have e : ∀ z : Nat, z < M64 → z * p % M64 * q % M64 = z := fun z hz => by
    rw [Nat.mod_mul_mod, Nat.mul_assoc, Nat.mul_mod, hp, Nat.mul_one, Nat.mod_mod]
    exact Nat.mod_eq_of_lt hz
  rw [← e x hx, ← e y hy, h]
theorem rot_lt {a : Nat} (h : a < M64) : rot a < M64 := by unfold rot M64 at *; omega
theorem rot_mod (a : Nat) : (a * 2147483648) % M64 = (a % 8589934592) * 2147483648 := by
  have e : M64 = 8589934592 * 2147483648 := by decide
  rw [e, Nat.mul_mod_mul_right]
theorem rot_inj {a b : Nat} (ha : a < M64) (hb : b < M64) (h : rot a = rot b) : a = b := by
  unfold rot at h
  rw [rot_mod, rot_mod] at h
  unfold M64 at *
  omega
def inv1 : Nat := 614540362697595703
def inv2 : Nat := 839798700976720815
theorem add_inj {c x y : Nat} (hx : x < M64) (hy : y < M64) (h : (c + x) % M64 = (c + y) % M64) : x = y := by unfold M64 at *; omega
theorem i1 : P1 * inv1 % M64 = 1 := by decide +kernel
theorem i2 : P2 * inv2 % M64 = 1 := by decide +kernel
theorem stp_inj {acc x y : Nat} (hx : x < M64) (hy : y < M64) (h : stp acc x = stp acc y) : x = y := by
  have m0 : 0 < M64 := by decide
  have r : ∀ z, rot ((acc + z * P2) % M64) < M64 := fun z => rot_lt (Nat.mod_lt _ m0)
  have h1 := mul_inj i1 (r x) (r y) h
  have h2 := rot_inj (Nat.mod_lt _ m0) (Nat.mod_lt _ m0) h1
  rw [← Nat.add_mod_mod, ← Nat.add_mod_mod acc (y * P2)] at h2
  have h3 := add_inj (Nat.mod_lt _ m0) (Nat.mod_lt _ m0) h2
  exact mul_inj i2 hx hy h3
theorem stp_lt (a x : Nat) : stp a x < M64 := Nat.mod_lt _ (by decide)
abbrev CC : Nat := 2870177450013471924
def lane1 : Nat → Nat
  | 0 => 8439652683406997565
  | 1 => 3327692275447938918
  | 2 => 5696237001796224472
  | 3 => 7749503207994117377
  | 4 => 10118047934342402931
  | _ => 5006087526383344284
def bad : Nat := M64 - 1 - CC
theorem lane_ok : ∀ h, h < 6 → stp (stp P5 h) (lane1 h) = bad ∧ 2305843009213693951 ≤ lane1 h ∧ lane1 h < M64 := by decide +kernel
theorem not_bad {h x : Nat} (hh : h < 6) (hx : x < 2305843009213693951) : stp (stp P5 h) x ≠ bad := fun e => by
  obtain ⟨a, b, c⟩ := lane_ok h hh
  have := stp_inj (by unfold M64; omega) c (e.trans a.symm)
  omega
def fin2 (a : Nat) : Int := if (a + CC) % M64 == M64 - 1 then 1546275796 else if (a + CC) % M64 < 9223372036854775808 then (((a + CC) % M64 : Nat) : Int) else (((a + CC) % M64 : Nat) : Int) - 18446744073709551616
theorem fin_inj {a b : Nat} (ha : a < M64) (hb : b < M64) (na : a ≠ bad) (nb : b ≠ bad) (h : fin2 a = fin2 b) : a = b := by
  unfold fin2 bad M64 CC at *
  have x1 : ((a + 2870177450013471924) % 18446744073709551616 == 18446744073709551616 - 1) = false := by
    rw [beq_eq_false_iff_ne]; omega
  have x2 : ((b + 2870177450013471924) % 18446744073709551616 == 18446744073709551616 - 1) = false := by
    rw [beq_eq_false_iff_ne]; omega
  rw [x1, x2] at h
  simp only [Bool.false_eq_true, if_false] at h
  split at h <;> split at h <;> omega
theorem fin_rng {a : Nat} (ha : a < M64) (na : a ≠ bad) : -9223372036854775808 ≤ fin2 a ∧ fin2 a < 9223372036854775808 ∧ fin2 a ≠ -1 := by
  unfold fin2 bad M64 CC at *
  have x1 : ((a + 2870177450013471924) % 18446744073709551616 == 18446744073709551616 - 1) = false := by
    rw [beq_eq_false_iff_ne]; omega
  rw [x1]
  simp only [Bool.false_eq_true, if_false]
  split <;> omega
theorem hashInt_nn {k : Int} (h : 0 ≤ k) : hashInt k = ((k.toNat % 2305843009213693951 : Nat) : Int) := by
  have e : rawHash k = ((k.toNat % 2305843009213693951 : Nat) : Int) := by
    have e1 : k.natAbs = k.toNat := by omega
    have e2 : ¬ k < 0 := by omega
    have e4 : (2 ^ 61 - 1 : Nat) = 2305843009213693951 := by decide
    unfold rawHash
    rw [e1, e4]
    simp only [if_neg e2]
    split
    · rename_i z
      have z := eq_of_beq z
      omega
    · omega
  unfold hashInt
  rw [e]
  split
  · rename_i z
    have z := eq_of_beq z
    omega
  · rfl
def stpI (acc : Nat) (h : Int) : Nat :=
  let a : Nat := (acc + (h % ((2 ^ 64 : Nat) : Int)).toNat * 14029467366897019727) % (2 ^ 64)
  let a : Nat := (a * 2 ^ 31) % (2 ^ 64) + a / 2 ^ 33
  (a * 11400714785074694791) % (2 ^ 64)
theorem stp_eq (acc : Nat) (x : Nat) (hx : x < M64) : stpI acc (x : Int) = stp acc x := by
  have e : (((x : Nat) : Int) % ((2 ^ 64 : Nat) : Int)).toNat = x := by
    have e1 : ((2 ^ 64 : Nat) : Int) = 18446744073709551616 := by decide
    rw [e1]
    unfold M64 at hx
    omega
  have e1 : (2 : Nat) ^ 64 = 18446744073709551616 := by decide
  have e2 : (2 : Nat) ^ 31 = 2147483648 := by decide
  have e3 : (2 : Nat) ^ 33 = 8589934592 := by decide
  unfold stpI stp rot
  simp only [e, e1, e2, e3]
def fin3 (acc : Nat) (n : Nat) : Int :=
  let acc : Nat := (acc + (n ^^^ (2870177450012600261 ^^^ 3527539))) % (2 ^ 64)
  if acc == 2 ^ 64 - 1 then 1546275796 else if acc < 2 ^ 63 then (acc : Int) else (acc : Int) - ((2 ^ 64 : Nat) : Int)
theorem hash_unf (hs : List Int) : Builtin.Tuple.tupleHashOf hs = fin3 (hs.foldl stpI 2870177450012600261) hs.length := rfl
theorem fin3_two (x : Nat) : fin3 x 2 = fin2 x := by
  have e1 : (2 : Nat) ^ 64 = 18446744073709551616 := by decide
  have e2 : (2 ^^^ (2870177450012600261 ^^^ 3527539) : Nat) = 2870177450013471924 := by decide
  have e3 : (2 : Nat) ^ 63 = 9223372036854775808 := by decide
  unfold fin3 fin2 CC M64
  rw [e2, e1, e3]
  generalize (x + 2870177450013471924) % 18446744073709551616 = y
  have e5 : ((18446744073709551616 : Nat) : Int) = 18446744073709551616 := by decide
  rw [e5]
theorem hashOf_two (a b : Int) : Builtin.Tuple.tupleHashOf [a, b] = fin2 (stpI (stpI 2870177450012600261 a) b) := by
  rw [hash_unf, List.foldl_cons, List.foldl_cons, List.foldl_nil, List.length_cons, List.length_cons, List.length_nil]
  generalize stpI (stpI 2870177450012600261 a) b = x
  rw [Nat.zero_add]
  exact fin3_two x
theorem reduceHash_id {v : Int} (h1 : -9223372036854775808 ≤ v) (h2 : v < 9223372036854775808) (h3 : v ≠ -1) : reduceHash v = v := by
  unfold reduceHash
  have p : (2 ^ 63 : Int) = 9223372036854775808 := by decide
  rw [p]
  have c1 : (decide (-9223372036854775808 ≤ v) && decide (v < 9223372036854775808)) = true := by rw [decide_eq_true h1, decide_eq_true h2]; rfl
  have c2 : (v == -1) = false := beq_eq_false_iff_ne.mpr h3
  rw [if_pos c1, c2]
  simp only [Bool.false_eq_true, if_false]
theorem tupH_two {h : Nat} {k : Int} (hh : h < 6) (hk : 0 ≤ k) : tupH [.inl (h : Int), .inl k] = fin2 (stp (stp P5 h) (k.toNat % 2305843009213693951)) := by
  have hx : k.toNat % 2305843009213693951 < 2305843009213693951 := Nat.mod_lt _ (by decide)
  have e0 : hashInt (h : Int) = (h : Int) := by
    rw [hashInt_nn (by omega)]
    omega
  have e1 : kH [.inl (h : Int), .inl k] = [((h : Nat) : Int), ((k.toNat % 2305843009213693951 : Nat) : Int)] := by
    show [hashInt (h : Int), hashInt k] = _
    rw [e0, hashInt_nn hk]
  have e2 : Builtin.Tuple.tupleHashOf [((h : Nat) : Int), ((k.toNat % 2305843009213693951 : Nat) : Int)] = fin2 (stp (stp P5 h) (k.toNat % 2305843009213693951)) := by
    have s1 := stp_eq 2870177450012600261 h (by unfold M64; omega)
    have s2 := stp_eq (stp 2870177450012600261 h) (k.toNat % 2305843009213693951) (by unfold M64; omega)
    rw [hashOf_two, s1, s2]
  unfold tupH
  rw [e1, e2]
  obtain ⟨r1, r2, r3⟩ := fin_rng (stp_lt (stp P5 h) (k.toNat % 2305843009213693951)) (not_bad hh hx)
  exact reduceHash_id r1 r2 r3
theorem tupH_near {h : Nat} {b : Int} {i j : Nat} (hh : h < 6) (hb : 0 ≤ b) (hi : i < 1000) (hj : j < 1000) (e : tupH [.inl (h : Int), .inl (b + i)] = tupH [.inl (h : Int), .inl (b + j)]) : i = j := by
  rw [tupH_two hh (by omega), tupH_two hh (by omega)] at e
  have x : ∀ z : Nat, z % 2305843009213693951 < 2305843009213693951 := fun z => Nat.mod_lt _ (by decide)
  have e1 := fin_inj (stp_lt _ _) (stp_lt _ _) (not_bad hh (x _)) (not_bad hh (x _)) e
  have e2 := stp_inj (by have := x (b + i).toNat; unfold M64; omega) (by have := x (b + j).toNat; unfold M64; omega) e1
  omega
end Lg
set_option maxHeartbeats 1000000
/-! Loops over written tuples, comprehensions, sorted, dicts over the ledger. -/
namespace Lg
open PySem PySem.Spec PyProof.Rows L2

section
variable {L L' : Led} {T T' : Tps} {σ σ' : L2.St} {k : VK} {kb : Bool → Hp → Prop} {ks : List V → Hp → Prop} {ta tb' tc te tx : TE} {t u : TT} {x y z v : V} {r r' : R2} {n : L2.St → Hp → Prop} {D : Ends} {K : PySem.W.Frag}
/-! ### a loop over a written tuple, turn by turn -/
def kUnr (K : PySem.W.Frag) (a : Addr) (xs : List V) (g : TG) (tb : TS) (D : Ends) : List V → L2.St → Hp → Prop
  | [], σ, H => SqT K H a xs ∧ D.nx σ H
  | x :: r, σ, H => SqT K H a xs ∧ g x σ H (kBody tb ⟨kUnr K a xs g tb D r, D.rt, D.nx, kUnr K a xs g tb D r⟩)
theorem kUnr_sq {a : Addr} {xs : List V} {g : TG} {tb : TS} : ∀ {r : List V} {σ : L2.St} {H : Hp}, kUnr K a xs g tb D r σ H → SqT K H a xs
  | [], _, _, h => h.1
  | _ :: _, _, _, h => h.1
theorem wj_tupU {a : Addr} {xs : List V} {g : TG} {tb : TS} (q : WN L T (kUnr K a xs g tb D xs) σ) : WJ L T (kFor g tb D σ) (Itt K a) := fun H hH =>
  for_tup (K := K) (a := a) (xs := xs) (fun i σ H => kUnr K a xs g tb D (xs.drop i) σ H) (q H hH) (fun i σ H _ h => kUnr_sq h) (fun i x σ H hx h => by
    have hi : i < xs.length := (List.getElem?_eq_some_iff.mp hx).1
    have e : xs.drop i = x :: xs.drop (i + 1) := by
      rw [List.drop_eq_getElem_cons hi]
      have : xs[i] = x := (List.getElem?_eq_some_iff.mp hx).2
      rw [this]
    rw [e] at h
    exact h.2) (fun σ H h => by
    rw [List.drop_length] at h
    exact h.2)
theorem wn_unr0 {a : Addr} {xs : List V} {g : TG} {tb : TS} (h : (a, xs) ∈ T) (q : WN L T D.nx σ) : WN L T (kUnr K a xs g tb D []) σ := fun H hs => ⟨SqT.of (hs.tp _ h), q H hs⟩
theorem wn_unr1 {a : Addr} {xs ys : List V} {g : TG} {tb : TS} (h : (a, xs) ∈ T) (q : WG L T g x σ (kBody tb ⟨kUnr K a xs g tb D ys, D.rt, D.nx, kUnr K a xs g tb D ys⟩)) : WN L T (kUnr K a xs g tb D (x :: ys)) σ := fun H hs => ⟨SqT.of (hs.tp _ h), q H hs⟩

/-! ### comprehensions -/
def kLc (g : TG) (tt : TT) (te : TE) (vs : List Nat) (σ : L2.St) (k : VK) : It → Hp → Prop := fun J H1 => ∀ D, H1 D = none → ∃ W : Nat → Nat → Hp → Prop, (∃ m, W 0 m (upd H1 D (.lst []))) ∧ ∀ i m H, W i m H →
  (J.stop i H ∧ k (.ref D) H) ∨ (J.go i H ∧ ∃ Nx : Hp → Prop, (∀ H', Nx H' → ∃ m', m' < m ∧ W (i + 1) m' H') ∧ ∀ x H', J.yld i H x H' → g x (wipe σ vs) H' fun σ2 H2 => wipe σ2 vs = wipe σ vs ∧ tt σ2 H2 fun b H3 =>
    if b = true then te σ2 H3 fun y H4 => ∃ acc, H4 D = some (.lst acc) ∧ acc.length < sizeLine ∧ Nx (upd H4 D (.lst (acc ++ [y]))) else Nx H3)
theorem e_lc {wi : TI} {g : TG} {tt : TT} {vs : List Nat} : WE L T (tLc wi g tt te vs) σ k = WI L T wi σ (kLc g tt te vs σ k) := rfl
/-- what waits behind the target, behind the test, behind the element -/
def kLcG (tt : TT) (te : TE) (vs : List Nat) (σ : L2.St) (D : Addr) (Nx : Hp → Prop) : L2.St → Hp → Prop := fun σ2 H2 => wipe σ2 vs = wipe σ vs ∧ tt σ2 H2 fun b H3 =>
    if b = true then te σ2 H3 fun y H4 => ∃ acc, H4 D = some (.lst acc) ∧ acc.length < sizeLine ∧ Nx (upd H4 D (.lst (acc ++ [y]))) else Nx H3
def kLcT (te : TE) (σ2 : L2.St) (D : Addr) (Nx : Hp → Prop) : Bool → Hp → Prop := fun b H3 =>
    if b = true then te σ2 H3 fun y H4 => ∃ acc, H4 D = some (.lst acc) ∧ acc.length < sizeLine ∧ Nx (upd H4 D (.lst (acc ++ [y]))) else Nx H3
def kLcE (D : Addr) (Nx : Hp → Prop) : VK := fun y H4 => ∃ acc, H4 D = some (.lst acc) ∧ acc.length < sizeLine ∧ Nx (upd H4 D (.lst (acc ++ [y])))
/-- a turn is to bring a ledger of which I holds -/
def Nc (I : Led → Tps → Prop) : Hp → Prop := fun H => ∃ L T, Hs H L T ∧ I L T
theorem wn_lcG {tt : TT} {vs : List Nat} {σ0 : L2.St} {Dl : Addr} {Nx : Hp → Prop} (h : wipe σ vs = wipe σ0 vs) (q : WT L T tt σ (kLcT te σ Dl Nx)) : WN L T (kLcG tt te vs σ0 Dl Nx) σ := fun H hs => ⟨h, q H hs⟩
theorem wt_yes (q : WB L T kb true) : WT L T tYes σ kb := q
theorem wb_lcT {Dl : Addr} {Nx : Hp → Prop} (q : WE L T te σ (kLcE Dl Nx)) : WB L T (kLcT te σ Dl Nx) true := fun H hs => by
  show (if true = true then _ else _)
  rw [if_pos rfl]
  exact q H hs
theorem wb_lcF {Dl : Addr} {I : Led → Tps → Prop} (s : Sb L L') (t : Ts T T') (q : I L' T') : WB L T (kLcT te σ Dl (Nc I)) false := fun H hs => by
  show (if false = true then _ else _)
  rw [if_neg Bool.false_ne_true]
  exact ⟨L', T', (hs.sb s).ts t, q⟩
theorem wv_lcE {Dl : Addr} {I : Led → Tps → Prop} {acc : List V} {L2' : Led} (u : Up L Dl (.lst acc) (.lst (acc ++ [x])) L') (h : acc.length < sizeLine) (s : Sb L' L2') (t : Ts T T') (q : I L2' T') : WV L T (kLcE Dl (Nc I)) x := fun H hs =>
  ⟨acc, hs.at_ _ u.mem, h, L2', T', ((hs.up u rfl).sb s).ts t, q⟩
theorem wj_lcL {a : Addr} {xs : List V} {g : TG} {tt : TT} {vs : List Nat} (I : Addr → Nat → Led → Tps → Prop) (h0 : ∀ Dl, I Dl 0 ((Dl, .lst []) :: L) T) (hl : ∀ Dl i L T, I Dl i L T → IsL K L T a xs)
    (hs : ∀ Dl i x L T, xs[i]? = some x → I Dl i L T → WG L T g x (wipe σ vs) (kLcG tt te vs σ Dl (Nc (I Dl (i + 1))))) (hd : ∀ Dl L T, I Dl xs.length L T → WV L T k (.ref Dl)) : WJ L T (kLc g tt te vs σ k) (Itl K a) := fun H hH Dl hD =>
  lc_list (K := K) (a := a) (xs := xs) (fun i H => Nc (I Dl i) H) ⟨_, _, hH.new hD, h0 Dl⟩ (fun i H _ ⟨L, T, h1, h2⟩ => hl Dl i L T h2 H h1) (fun i x H hx ⟨L, T, h1, h2⟩ => hs Dl i x L T hx h2 H h1) (fun H ⟨L, T, h1, h2⟩ => hd Dl L T h2 H h1)
theorem wj_lcT {a : Addr} {xs : List V} {g : TG} {tt : TT} {vs : List Nat} (I : Addr → Nat → Led → Tps → Prop) (h0 : ∀ Dl, I Dl 0 ((Dl, .lst []) :: L) T) (hl : ∀ Dl i L T, I Dl i L T → IsT K L T a xs)
    (hs : ∀ Dl i x L T, xs[i]? = some x → I Dl i L T → WG L T g x (wipe σ vs) (kLcG tt te vs σ Dl (Nc (I Dl (i + 1))))) (hd : ∀ Dl L T, I Dl xs.length L T → WV L T k (.ref Dl)) : WJ L T (kLc g tt te vs σ k) (Itt K a) := fun H hH Dl hD =>
  lc_tup (K := K) (a := a) (xs := xs) (fun i H => Nc (I Dl i) H) ⟨_, _, hH.new hD, h0 Dl⟩ (fun i H _ ⟨L, T, h1, h2⟩ => hl Dl i L T h2 H h1) (fun i x H hx ⟨L, T, h1, h2⟩ => hs Dl i x L T hx h2 H h1) (fun H ⟨L, T, h1, h2⟩ => hd Dl L T h2 H h1)
theorem wj_lcR {lo : Int} {m : Nat} {g : TG} {tt : TT} {vs : List Nat} (I : Addr → Nat → Led → Tps → Prop) (h0 : ∀ Dl, I Dl 0 ((Dl, .lst []) :: L) T)
    (hs : ∀ Dl i L T, i < m → I Dl i L T → WG L T g (.int (lo + i)) (wipe σ vs) (kLcG tt te vs σ Dl (Nc (I Dl (i + 1))))) (hd : ∀ Dl L T, I Dl m L T → WV L T k (.ref Dl)) : WJ L T (kLc g tt te vs σ k) (Itr lo m) := fun H hH Dl hD =>
  lc_range (lo := lo) (n := m) (fun i H => Nc (I Dl i) H) ⟨_, _, hH.new hD, h0 Dl⟩ (fun i H hi ⟨L, T, h1, h2⟩ => hs Dl i L T hi h2 H h1) (fun H ⟨L, T, h1, h2⟩ => hd Dl L T h2 H h1)

/-! ### sorted of pairs of ints; any, all of truths -/
theorem wc_sortP {a : Addr} {xs : List V} (kf : V → Int × Int) (h : (a, HO.lst xs) ∈ L) (hx : ∀ x ∈ xs, ∃ t, x = V.ref t ∧ (t, [V.int (kf x).1, V.int (kf x).2]) ∈ T)
    (q : ∀ ys p, SrtO.Srtd (ltP kf) ys → SrtO.Stb (ltP kf) ys xs → WV ((p, .lst ys) :: L) T k (.ref p)) : WC L T (rSortedPO K) [.ref a] k := fun H hs =>
  ⟨a, xs, kf, rfl, SqL.of (hs.at_ _ h), fun x hm => by
    obtain ⟨t, e, m⟩ := hx x hm
    exact ⟨t, e, hs.tp _ m⟩, fun ys p h1 h2 hp => q ys p h1 h2 _ (hs.new hp)⟩
theorem wc_any {a : Addr} {bs : List Bool} (h : (a, HO.lst (bs.map V.bl)) ∈ L) (q : WV L T k (.bl (bs.any id))) : WC L T (rAny K) [.ref a] k := fun H hs => ⟨a, bs, rfl, SqL.of (hs.at_ _ h), q H hs⟩
theorem wc_all {a : Addr} {bs : List Bool} (h : (a, HO.lst (bs.map V.bl)) ∈ L) (q : WV L T k (.bl (bs.all id))) : WC L T (rAll K) [.ref a] k := fun H hs => ⟨a, bs, rfl, SqL.of (hs.at_ _ h), q H hs⟩

/-! ### dicts -/
def kDInA (td : TE) (neg : Bool) (σ : L2.St) (k : VK) : VK := fun y H1 => td σ H1 fun x H2 => ∃ a o, x = .ref a ∧ DGet H2 a y o ∧ k (.bl (if neg then !o.isSome else o.isSome)) H2
def kDInB (y : V) (neg : Bool) (k : VK) : VK := fun x H2 => ∃ a o, x = .ref a ∧ DGet H2 a y o ∧ k (.bl (if neg then !o.isSome else o.isSome)) H2
theorem e_din {ty td : TE} : WE L T (tDIn ty td) σ k = WE L T ty σ (kDInA td false σ k) := rfl
theorem e_dnotin {ty td : TE} : WE L T (tDNotIn ty td) σ k = WE L T ty σ (kDInA td true σ k) := rfl
theorem e_dinA {td : TE} {neg : Bool} : WV L T (kDInA td neg σ k) y = WE L T td σ (kDInB y neg k) := rfl
theorem wv_dinK {a : Addr} {kvs : List (L2.Key × V)} {ky : L2.Key} {neg : Bool} (h : (a, HO.dK kvs) ∈ L) (e : y = kV ky) (q : WV L T k (.bl (if neg then !(valV kvs ky).isSome else (valV kvs ky).isSome))) : WV L T (kDInB y neg k) (.ref a) := fun H hs => by
  subst e
  exact ⟨a, _, rfl, DGet.k (hs.at_ _ h), q H hs⟩
theorem wv_dinT {a b : Addr} {kvs : List (List L2.Key × V)} {ky : List L2.Key} {xs : List V} {neg : Bool} (h : (a, HO.dT kvs) ∈ L) (hb : (b, xs) ∈ T) (e : xs = ky.map kV) (q : WV L T k (.bl (if neg then !(valV kvs ky).isSome else (valV kvs ky).isSome))) : WV L T (kDInB (.ref b) neg k) (.ref a) := fun H hs => by
  subst e
  exact ⟨a, _, rfl, DGet.t (hs.at_ _ h) (hs.tp _ hb), q H hs⟩
theorem wm_popT1 {a b : Addr} {kvs : List (List L2.Key × V)} {ky : List L2.Key} {xs : List V} (u : Up L a (.dT kvs) (.dT (dropK kvs ky)) L') (hb : (b, xs) ∈ T) (e : xs = ky.map kV) (hv : valV kvs ky = some v) (q : WV L' T k v) : WM L T rPopT1 (.ref a) [.ref b] k := fun H hs => by
  subst e
  exact ⟨a, kvs, ky, b, v, rfl, rfl, hs.at_ _ u.mem, hs.tp _ hb, hv, q _ (hs.up u rfl)⟩
theorem wm_updT {a b : Addr} {kvs ms : List (List L2.Key × V)} (u : Up L a (.dT kvs) (.dT (putAllT kvs ms)) L') (hb : (b, HO.dT ms) ∈ L) (hne : a ≠ b) (hz : kvs.length + ms.length ≤ sizeLine) (ht : ∀ m ∈ ms, noTx m.1 = true) (hn : (ms.map fun m => tupH m.1).Nodup)
    (q : WV L' T k .non) : WM L T rUpdT (.ref a) [.ref b] k := fun H hs => ⟨a, b, kvs, ms, rfl, rfl, hne, hs.at_ _ u.mem, hs.at_ _ hb, hz, ht, hn, q _ (hs.up u rfl)⟩
theorem wc_dictT {a : Addr} {ps : List Addr} {kvs : List (List L2.Key × V)} (h : (a, HO.lst (ps.map V.ref)) ∈ L) (hp : Paired (fun t kv => ∃ b, (t, [V.ref b, kv.2]) ∈ T ∧ (b, kv.1.map kV) ∈ T) ps kvs)
    (q : ∀ p, WV ((p, .dT (putAllT [] kvs)) :: L) T k (.ref p)) : WC L T (rDictT K) [.ref a] k := fun H hs =>
  ⟨a, ps, kvs, rfl, SqL.of (hs.at_ _ h), Paired.mapP hp fun t kv ⟨b, h1, h2⟩ => ⟨b, hs.tp _ h1, hs.tp _ h2⟩, fun p hp => q p _ (hs.new hp)⟩
theorem we_dnewK (q : ∀ p, WV ((p, .dK []) :: L) T k (.ref p)) : WE L T tDNewK σ k := fun H hs p hp => q p _ (hs.new hp)
theorem we_dnewT (q : ∀ p, WV ((p, .dT []) :: L) T k (.ref p)) : WE L T tDNewT σ k := fun H hs p hp => q p _ (hs.new hp)
theorem wv_bmD {r : V → List V → Hp → VK → Prop} {t : TA} {p : Addr} {kvs : List (List L2.Key × V)} (h : (p, HO.dT kvs) ∈ L) (q : WA L T t σ (kBMB r (.ref p) k)) : WV L T (kBM K "dict" r t σ k) (.ref p) := fun H hs => ⟨.inr (.inr (.inl ⟨rfl, .inr ⟨_, hs.at_ _ h⟩⟩)), q H hs⟩
theorem wv_bmDK {r : V → List V → Hp → VK → Prop} {t : TA} {p : Addr} {kvs : List (L2.Key × V)} (h : (p, HO.dK kvs) ∈ L) (q : WA L T t σ (kBMB r (.ref p) k)) : WV L T (kBM K "dict" r t σ k) (.ref p) := fun H hs => ⟨.inr (.inr (.inl ⟨rfl, .inl ⟨_, hs.at_ _ h⟩⟩)), q H hs⟩
/-! ### == of data at any depth -/
mutual
inductive DpL (K : PySem.W.Frag) (L : Led) (T : Tps) : V → PyData → Prop
  | non : DpL K L T .non .none
  | bl (b : Bool) : DpL K L T (.bl b) (.bool b)
  | int (i : Int) : DpL K L T (.int i) (.int i)
  | str (x : Str) : DpL K L T (.str x) (.str x)
  | lst {a : Addr} {xs : List V} {ds : List PyData} : (a, HO.lst xs) ∈ L → DpLs K L T xs ds → DpL K L T (.ref a) (.list ds)
  | tup {a : Addr} {xs : List V} {ds : List PyData} : (a, xs) ∈ T → DpLs K L T xs ds → DpL K L T (.ref a) (.tuple ds)
inductive DpLs (K : PySem.W.Frag) (L : Led) (T : Tps) : List V → List PyData → Prop
  | nil : DpLs K L T [] []
  | cons {v : V} {vs : List V} {d : PyData} {ds : List PyData} : DpL K L T v d → DpLs K L T vs ds → DpLs K L T (v :: vs) (d :: ds)
end
mutual
theorem DpL.d {H : Hp} (hs : Hs H L T) : ∀ {v : V} {d : PyData}, DpL K L T v d → Dp K H v d
  | _, _, .non => .non
  | _, _, .bl b => .bl b
  | _, _, .int i => .int i
  | _, _, .str x => .str x
  | _, _, .lst h r => .lst (SqL.of (hs.at_ _ h)) (DpLs.d hs r)
  | _, _, .tup h r => .tup (SqT.of (hs.tp _ h)) (DpLs.d hs r)
theorem DpLs.d {H : Hp} (hs : Hs H L T) : ∀ {vs : List V} {ds : List PyData}, DpLs K L T vs ds → DpAll K H vs ds
  | _, _, .nil => .nil
  | _, _, .cons h r => .cons (DpL.d hs h) (DpLs.d hs r)
end
theorem wr_eqD {d e : PyData} (hx : DpL K L T x d) (hy : DpL K L T y e) (h1 : SeqAt.shaped d = true) (h2 : SeqAt.shaped e = true) (q : WV L T k (.bl (PyData.eqv d e))) : WR L T (rEqD K) x y k := fun H hs => ⟨d, e, hx.d hs, hy.d hs, h1, h2, q H hs⟩
theorem wr_neD {d e : PyData} (hx : DpL K L T x d) (hy : DpL K L T y e) (h1 : SeqAt.shaped d = true) (h2 : SeqAt.shaped e = true) (q : WV L T k (.bl (!PyData.eqv d e))) : WR L T (rNeD K) x y k := fun H hs => ⟨d, e, hx.d hs, hy.d hs, h1, h2, q H hs⟩
end
end Lg
set_option maxHeartbeats 1000000
/-! Text turned sign by sign; tuples stand but once; try with one clause. -/
namespace Lg
open PySem PySem.Spec PyProof.Rows L2

def TFun (T : Tps) : Prop := ∀ x ∈ T, ∀ y ∈ T, x.1 = y.1 → x.2 = y.2
section
variable {L L' : Led} {T T' : Tps} {σ σ' : L2.St} {k : VK} {kb : Bool → Hp → Prop} {ks : List V → Hp → Prop} {ta tb' tc te tx : TE} {t u : TT} {x y z v : V} {r r' : R2} {n : L2.St → Hp → Prop} {D : Ends} {K : PySem.W.Frag}
theorem Hs.tfun {H : Hp} (hs : Hs H L T) : TFun T := fun x hx y hy e => by
  have h1 := hs.tp x hx
  have h2 := hs.tp y hy
  rw [e, h2] at h1
  injection h1 with h1
  injection h1 with h1
  exact h1.symm
theorem wv_tfun (q : TFun T → WV L T k v) : WV L T k v := fun H hs => q hs.tfun H hs
theorem wn_tfun (q : TFun T → WN L T n σ) : WN L T n σ := fun H hs => q hs.tfun H hs
theorem ws_tfun {t : TS} (q : TFun T → WS L T t D σ) : WS L T t D σ := fun H hs => q hs.tfun H hs
theorem wc_tfun {r : List V → Hp → VK → Prop} {vs : List V} (q : TFun T → WC L T r vs k) : WC L T r vs k := fun H hs => q hs.tfun H hs
theorem ws_pk {t : TS} {P F : Led} (p : Pk L P F) (q : WS (P ++ F) T t D σ) : WS L T t D σ := fun H hs => q H (hs.pk p)
/-- the addresses of the ledger are apart -/
theorem wv_nd (q : (L.map (·.1)).Nodup → WV L T k v) : WV L T k v := fun H hs => q hs.nd H hs
theorem wn_nd (q : (L.map (·.1)).Nodup → WN L T n σ) : WN L T n σ := fun H hs => q hs.nd H hs
theorem wm_nd {r : V → List V → Hp → VK → Prop} {vs : List V} (q : (L.map (·.1)).Nodup → WM L T r x vs k) : WM L T r x vs k := fun H hs => q hs.nd H hs

theorem e_cxK {CX : CXT} {P : Program} {w : World} {mg : Str → Option Value} {base : Heap} {N : List Str} {qual : Str} {scope : Scope} {f : Addr} {cd : Value} {A : Around} {outer : List Env} {s : Shared} {H : Hp} {E : XK} :
    (cxOf CX P w K mg base N qual scope f cd A outer s H E).K = K := rfl
theorem e_trK {X : Cx} {pn : List (Addr × Obj)} {xe : Value → Shared → Prop} : (X.tr pn xe).K = X.K := rfl
theorem e_suK {X : Cx} {a : Addr} {pn : List (Addr × Obj)} : (X.suite a pn).K = X.K := rfl
theorem names_ex {X : Cx} {x : Str} {C : Addr} (h : ExOk X.K X.mg x C) (hg : Gl X x := by rfl) (hdb : (x == ("__debug__" : Str)) = false := by decide) : Names X x (.ref C) := ⟨hg, hdb, .inl h.g⟩
theorem TyL.ts {m : Tn} (h : TyL L T v m) (t : Ts T' T) : TyL L T' v m := by
  cases h with
  | non => exact .non
  | bl b => exact .bl b
  | int i => exact .int i
  | str x => exact .str x
  | lst h => exact .lst h
  | tup h => exact .tup (t _ h)
  | dK h => exact .dK h
theorem TyL.cons {m : Tn} {e : Addr × HO} (h : TyL L T v m) : TyL (e :: L) T v m := by
  cases h with
  | non => exact .non
  | bl b => exact .bl b
  | int i => exact .int i
  | str x => exact .str x
  | lst h => exact .lst (List.mem_cons_of_mem _ h)
  | tup h => exact .tup h
  | dK h => exact .dK (List.mem_cons_of_mem _ h)
theorem TyL.app {m : Tn} {C : Led} (h : TyL L T v m) : TyL (C ++ L) T v m := by
  cases h with
  | non => exact .non
  | bl b => exact .bl b
  | int i => exact .int i
  | str x => exact .str x
  | lst h => exact .lst (List.mem_append_right _ h)
  | tup h => exact .tup h
  | dK h => exact .dK (List.mem_append_right _ h)
theorem wu_notNO (h : x ≠ .non) (q : WV L T k (.bl true)) : WU L T rUNotN x k := by
  show WV L T k (.bl (!decide (x = .non)))
  rw [decide_eq_false h]; exact q
theorem wu_isNO (h : x ≠ .non) (q : WV L T k (.bl false)) : WU L T rUIsN x k := by
  show WV L T k (.bl (decide (x = .non)))
  rw [decide_eq_false h]; exact q
theorem TyL.cs {m : Tn} (h : TyL L T x m) : x = .non ∨ (∃ i, x = .int i) ∨ (x ≠ .non ∧ wholeB x = false ∧ ∀ j, belowB x j = false) := by
  cases h with
  | non => exact .inl rfl
  | int i => exact .inr (.inl ⟨i, rfl⟩)
  | bl b => exact .inr (.inr ⟨(by intro z; cases z), rfl, fun _ => rfl⟩)
  | str x => exact .inr (.inr ⟨(by intro z; cases z), rfl, fun _ => rfl⟩)
  | lst h => exact .inr (.inr ⟨(by intro z; cases z), rfl, fun _ => rfl⟩)
  | tup h => exact .inr (.inr ⟨(by intro z; cases z), rfl, fun _ => rfl⟩)
  | dK h => exact .inr (.inr ⟨(by intro z; cases z), rfl, fun _ => rfl⟩)
/-- a field laid -/
inductive SetF : List (Str × V) → Str → V → List (Str × V) → Prop
  | nil {f y} : SetF [] f y [(f, y)]
  | here {f v y r} : SetF ((f, v) :: r) f y ((f, y) :: r)
  | there {g v f y r r'} : (g == f) = false → SetF r f y r' → SetF ((g, v) :: r) f y ((g, v) :: r')
theorem SetF.eq {fs fs' : List (Str × V)} {f : Str} {y : V} (s : SetF fs f y fs') : putF f y fs = fs' := by
  induction s with
  | nil => rfl
  | here => simp [putF]
  | @there g v f y r r' h _ ih =>
    have h2 : ¬ g = f := by
      intro e
      rw [e] at h
      simp at h
    show (if g = f then _ else _) = _
    rw [if_neg h2, ih]
theorem wv_sfldS {a C dx : Addr} {fs fs' : List (Str × V)} {f : Str} (u : Up L a (.ins C dx fs) (.ins C dx fs') L') (hc : Cls K C) (hn : NoAttr K C f) (hl : fs.length < 1000) (hp : SetF fs f y fs') (q : WN L' T D.nx σ) : WV L T (kSFldB K y f D σ) (.ref a) := wv_sfldB u hc hn hl hp.eq q
/-! the readings within a block or a try: freed of what the block's context binds -/
theorem pe_te {X : Cx} {e : Expr} {t t' : TE} (h : PE X e t) (q : t = t') : PE X e t' := q ▸ h
theorem pts_te {X : Cx} {e : List Expr} {t t' : TT} (h : PTs X e t) (q : t = t') : PTs X e t' := q ▸ h
theorem pg_te {X : Cx} {e : Expr} {t t' : TG} (h : PG X e t) (q : t = t') : PG X e t' := q ▸ h
theorem pss_te {X : Cx} {e : List Stmt} {t t' : TS} (h : PSs X e t) (q : t = t') : PSs X e t' := q ▸ h
/-! ### sign by sign -/
def kIStr (R : It → Hp → Prop) : VK := fun v H1 => ∃ x, v = .str x ∧ R (Its x) H1
theorem e_iStr {R : It → Hp → Prop} : WI L T (iStr te) σ R = WE L T te σ (kIStr R) := rfl
theorem e_kIStr {R : It → Hp → Prop} {w : Str} : WV L T (kIStr R) (.str w) = WJ L T R (Its w) := propext ⟨fun q H hs => by
  obtain ⟨c, e, q⟩ := q H hs
  cases e; exact q, fun q H hs => ⟨w, rfl, q H hs⟩⟩
theorem wj_lcS {w : Str} {g : TG} {tt : TT} {vs : List Nat} (I : Addr → Nat → Led → Tps → Prop) (h0 : ∀ Dl, I Dl 0 ((Dl, .lst []) :: L) T)
    (hs : ∀ Dl i c L T, w.cps[i]? = some c → I Dl i L T → WG L T g (.str ⟨#[c]⟩) (wipe σ vs) (kLcG tt te vs σ Dl (Nc (I Dl (i + 1))))) (hd : ∀ Dl L T, I Dl w.cps.size L T → WV L T k (.ref Dl)) : WJ L T (kLc g tt te vs σ k) (Its w) := fun H hH Dl hD => by
  refine ⟨fun i m H => m = w.cps.size - i ∧ i ≤ w.cps.size ∧ Nc (I Dl i) H, ⟨w.cps.size, by simp, Nat.zero_le _, _, _, hH.new hD, h0 Dl⟩, ?_⟩
  rintro i m H2 ⟨rfl, hi, p⟩
  by_cases hlt : i < w.cps.size
  · refine .inr ⟨hlt, Nc (I Dl (i + 1)), fun H' p' => ⟨w.cps.size - (i + 1), by omega, rfl, hlt, p'⟩, fun x H' yy => ?_⟩
    obtain ⟨e, c, hc, ex⟩ := yy
    subst e ex
    obtain ⟨L, T, h1, h2⟩ := p
    exact hs Dl i c L T hc h2 _ h1
  · have e : i = w.cps.size := by omega
    subst e
    obtain ⟨L, T, h1, h2⟩ := p
    exact .inl ⟨Nat.le_refl _, hd Dl L T h2 _ h1⟩
theorem wj_str {w : Str} {g : TG} {tb : TS} (I : Nat → L2.St → Led → Tps → Prop) (h0 : I 0 σ L T)
    (hs : ∀ i c σ L T, w.cps[i]? = some c → I i σ L T → WG L T g (.str ⟨#[c]⟩) σ (kBody tb ⟨Nx (I (i + 1)), D.rt, D.nx, Nx (I (i + 1))⟩)) (hd : ∀ σ L T, I w.cps.size σ L T → WN L T D.nx σ) : WJ L T (kFor g tb D σ) (Its w) := fun H hH => by
  refine ⟨fun i m σ H => m = w.cps.size - i ∧ i ≤ w.cps.size ∧ Nx (I i) σ H, ⟨w.cps.size, by simp, Nat.zero_le _, _, _, hH, h0⟩, ?_⟩
  rintro i m σ2 H2 ⟨rfl, hi, p⟩
  by_cases hlt : i < w.cps.size
  · refine .inr ⟨hlt, Nx (I (i + 1)), fun σ' H' p' => ⟨w.cps.size - (i + 1), by omega, rfl, hlt, p'⟩, fun x H' yy => ?_⟩
    obtain ⟨e, c, hc, ex⟩ := yy
    subst e ex
    obtain ⟨L, T, h1, h2⟩ := p
    exact hs i c σ2 L T hc h2 _ h1
  · have e : i = w.cps.size := by omega
    subst e
    obtain ⟨L, T, h1, h2⟩ := p
    exact .inl ⟨Nat.le_refl _, hd σ2 L T h2 _ h1⟩
theorem e_wipe1 {s : Str} {i : Nat} : wipe σ (List.map (fun x => x.snd) [(s, i)]) = σ.set i none := rfl
theorem e_wipe2 {s s2 : Str} {i i2 : Nat} : wipe σ (List.map (fun x => x.snd) [(s, i), (s2, i2)]) = (σ.set i2 none).set i none := rfl
theorem e_wipe3 {s s2 s3 : Str} {i i2 i3 : Nat} : wipe σ (List.map (fun x => x.snd) [(s, i), (s2, i2), (s3, i3)]) = ((σ.set i3 none).set i2 none).set i none := rfl
/-! ### d[k] = v -/
def kDPutA (td ty : TE) (D : Ends) (σ : L2.St) : VK := fun v H1 => td σ H1 fun x H2 => ty σ H2 fun y H3 => ∃ a H4, x = .ref a ∧ DPut H3 a y v H4 ∧ D.nx σ H4
def kDPutB (ty : TE) (v : V) (D : Ends) (σ : L2.St) : VK := fun x H2 => ty σ H2 fun y H3 => ∃ a H4, x = .ref a ∧ DPut H3 a y v H4 ∧ D.nx σ H4
def kDPutC (x v : V) (D : Ends) (σ : L2.St) : VK := fun y H3 => ∃ a H4, x = .ref a ∧ DPut H3 a y v H4 ∧ D.nx σ H4
theorem e_dput {td ty tv : TE} : WS L T (sDPut td ty tv) D σ = WE L T tv σ (kDPutA td ty D σ) := rfl
theorem e_dputA {td ty : TE} : WV L T (kDPutA td ty D σ) v = WE L T td σ (kDPutB ty v D σ) := rfl
theorem e_dputB {ty : TE} : WV L T (kDPutB ty v D σ) x = WE L T ty σ (kDPutC x v D σ) := rfl
theorem wv_dputK {a : Addr} {kvs : List (L2.Key × V)} {ky : L2.Key} (u : Up L a (.dK kvs) (.dK (putK kvs ky v)) L') (e : y = kV ky) (h : kvs.length < sizeLine) (q : WN L' T D.nx σ) : WV L T (kDPutC (.ref a) v D σ) y := fun H hs =>
  ⟨a, _, rfl, .inl ⟨kvs, ky, hs.at_ _ u.mem, e, h, rfl⟩, q _ (hs.up u rfl)⟩
theorem wv_dputT {a b : Addr} {kvs : List (List L2.Key × V)} {ky : List L2.Key} {xs : List V} (u : Up L a (.dT kvs) (.dT (putK kvs ky v)) L') (hb : (b, xs) ∈ T) (e : xs = ky.map kV) (h : kvs.length < sizeLine) (q : WN L' T D.nx σ) : WV L T (kDPutC (.ref a) v D σ) (.ref b) := fun H hs =>
  ⟨a, _, rfl, .inr ⟨kvs, ky, b, hs.at_ _ u.mem, rfl, by rw [← e]; exact hs.tp _ hb, h, rfl⟩, q _ (hs.up u rfl)⟩
theorem eqv3 {a b c a' b' c' : Int} : PyData.eqv (.tuple [.int a, .int b, .int c]) (.tuple [.int a', .int b', .int c']) = (decide (a = a') && (decide (b = b') && decide (c = c'))) := by
  by_cases h1 : a = a' <;> by_cases h2 : b = b' <;> by_cases h3 : c = c' <;> simp [PyData.eqv, PyData.eqvAll, h1, h2, h3]
/-! ### sorted pairs -/
def adV : V → Addr
  | .ref a => a
  | _ => 0
def prK (prs : List (Addr × Int × Int)) (v : V) : Int × Int := ((prs.find? fun q => decide (q.1 = adV v)).map (·.2)).getD (0, 0)
theorem prK_eq {prs : List (Addr × Int × Int)} (tf : TFun T) (hP : ∀ q ∈ prs, (q.1, [V.int q.2.1, V.int q.2.2]) ∈ T) {q : Addr × Int × Int} (hq : q ∈ prs) : prK prs (.ref q.1) = q.2 := by
  unfold prK
  cases e : prs.find? fun q' => decide (q'.1 = adV (.ref q.1)) with
  | none =>
    have := List.find?_eq_none.mp e q hq
    simp [adV] at this
  | some q' =>
    have h1 : q'.1 = q.1 := of_decide_eq_true (List.find?_some (p := fun q' : Addr × Int × Int => decide (q'.1 = adV (.ref q.1))) e)
    have h2 := tf _ (hP q' (List.mem_of_find?_eq_some e)) _ (hP q hq) h1
    simp only [List.cons.injEq, V.int.injEq, and_true] at h2
    show q'.2 = q.2
    exact Prod.ext h2.1 h2.2
theorem wc_sortQ {a : Addr} {prs : List (Addr × Int × Int)} (h : (a, HO.lst (prs.map fun q => V.ref q.1)) ∈ L) (hP : ∀ q ∈ prs, (q.1, [V.int q.2.1, V.int q.2.2]) ∈ T)
    (q : ∀ p (prs' : List (Addr × Int × Int)), prs'.Pairwise (fun a b => a.2.1 ≤ b.2.1) → (∀ x, x ∈ prs' ↔ x ∈ prs) → WV ((p, .lst (prs'.map fun q => V.ref q.1)) :: L) T k (.ref p)) : WC L T (rSortedPO K) [.ref a] k := wc_tfun fun tf => by
  refine wc_sortP (prK prs) h (fun x hx => ?_) fun ys p h1 h2 => ?_
  · obtain ⟨z, hz, rfl⟩ := List.mem_map.mp hx
    exact ⟨z.1, rfl, by rw [prK_eq tf hP hz]; exact hP z hz⟩
  · have hm : ∀ y ∈ ys, ∃ z ∈ prs, y = V.ref z.1 ∧ prK prs y = z.2 := fun y hy => by
      obtain ⟨z, hz, rfl⟩ := List.mem_map.mp (h2.perm.mem_iff.mp hy)
      exact ⟨z, hz, rfl, prK_eq tf hP hz⟩
    have e : ys = (ys.map fun y => (adV y, prK prs y)).map fun q => V.ref q.1 := by
      rw [List.map_map]
      conv => lhs; rw [← List.map_id ys]
      refine List.map_congr_left fun y hy => ?_
      obtain ⟨z, hz, rfl, _⟩ := hm y hy
      rfl
    rw [e]
    refine q p (ys.map fun y => (adV y, prK prs y)) ?_ fun x => ⟨fun hx => ?_, fun hx => ?_⟩
    · rw [List.pairwise_map]
      refine h1.imp fun {x y} hxy => ?_
      have hxy := SrtO.lexB_no.mp hxy
      show (prK prs x).1 ≤ (prK prs y).1
      omega
    · obtain ⟨y, hy, rfl⟩ := List.mem_map.mp hx
      obtain ⟨z, hz, rfl, e2⟩ := hm y hy
      rw [e2]; exact hz
    · refine List.mem_map.mpr ⟨V.ref x.1, h2.perm.mem_iff.mpr (List.mem_map.mpr ⟨x, hx, rfl⟩), ?_⟩
      rw [prK_eq tf hP hx]; rfl
theorem wv_dinI {a : Addr} {kvs : List (L2.Key × V)} {i : Int} {neg : Bool} (h : (a, HO.dK kvs) ∈ L) (q : WV L T k (.bl (if neg then !(valV kvs (.inl i)).isSome else (valV kvs (.inl i)).isSome))) : WV L T (kDInB (.int i) neg k) (.ref a) := wv_dinK (ky := .inl i) h rfl q
theorem wv_dinS {a : Addr} {kvs : List (L2.Key × V)} {i : Str} {neg : Bool} (h : (a, HO.dK kvs) ∈ L) (q : WV L T k (.bl (if neg then !(valV kvs (.inr i)).isSome else (valV kvs (.inr i)).isSome))) : WV L T (kDInB (.str i) neg k) (.ref a) := wv_dinK (ky := .inr i) h rfl q
theorem wv_dinII {a b : Addr} {kvs : List (List L2.Key × V)} {i j : Int} {neg : Bool} (h : (a, HO.dT kvs) ∈ L) (hb : (b, [V.int i, .int j]) ∈ T) (q : WV L T k (.bl (if neg then !(valV kvs [.inl i, .inl j]).isSome else (valV kvs [.inl i, .inl j]).isSome))) : WV L T (kDInB (.ref b) neg k) (.ref a) :=
  wv_dinT (ky := [.inl i, .inl j]) h hb rfl q
/-! ### a text in a text -/
def inS (i j : Str) : Bool := !(Builtin.Str.occurrences j i 0 j.length 1).isEmpty
def rInS : R2 := fun x y H Q => ∃ i j, x = .str i ∧ y = .str j ∧ Q (.bl (!(Builtin.Str.occurrences j i 0 j.length 1).isEmpty)) H
theorem op_inS {X : Cx} : OpR X (compareOp .In) rInS := op_in_str
theorem e_inS {i j : Str} : WR L T rInS (.str i) (.str j) k = WV L T k (.bl (inS i j)) := propext ⟨fun q H hs => by
  obtain ⟨i', j', e, e2, q⟩ := q H hs
  cases e; cases e2; exact q, fun q H hs => ⟨i, j, rfl, rfl, q H hs⟩⟩
end
end Lg
/-! More steps. -/
namespace Lg
open PySem PySem.Spec PyProof.Rows L2
section
variable {L L' : Led} {T T' : Tps} {σ σ' : L2.St} {k : VK} {kb : Bool → Hp → Prop} {ks : List V → Hp → Prop} {ta tb' tc te tx : TE} {t u : TT} {x y z v : V} {r r' : R2} {n : L2.St → Hp → Prop} {D : Ends} {K : PySem.W.Frag}
theorem e_wipeA {i : Nat} : wipe σ (i :: List.map (fun x : Str × Nat => x.snd) []) = σ.set i none := rfl
theorem wc_maxM {i j : Int} (q : WV L T k (.int (max i j))) : WC L T (fun xs H Q => ∃ i j, xs = [V.int i, V.int j] ∧ Q (V.int (if j > i then j else i)) H) [.int i, .int j] k := wc_max2 (by
  have e : (if j > i then j else i) = max i j := by split <;> omega
  rw [e]; exact q)
theorem wc_minM {i j : Int} (q : WV L T k (.int (min i j))) : WC L T (fun xs H Q => ∃ i j, xs = [V.int i, V.int j] ∧ Q (V.int (if j < i then j else i)) H) [.int i, .int j] k := wc_min2 (by
  have e : (if j < i then j else i) = min i j := by split <;> omega
  rw [e]; exact q)
/-! ### try .. except X -/
def tTry (K : PySem.W.Frag) (c : Value) (tb : WX → TS) (ts : Addr → Value → Option Addr → TS) (W : WX) : TS := fun D σ H => tb (wOnly K c ts W D) D σ H
theorem e_try {c : Value} {tb : WX → TS} {ts : Addr → Value → Option Addr → TS} {W : WX} : WS L T (tTry K c tb ts W) D σ = WS L T (tb (wOnly K c ts W D)) D σ := rfl
theorem ps_tryW {X : Cx} {x : Str} {c : Value} {body suite : List Stmt} {b₀ : Stmt} {np pos pos' : Pos} {tb : WX → TS} {ts : Addr → Value → Option Addr → TS} {Wout : WX} (hs : X.stack = X.env :: X.outer) (hf : X.env.frame = some X.env.locals) (hc : Names X x c) (tk : Takes X Wout)
    (hb : ∀ (W : WX) (pn : List (Addr × Obj)) (xe : Value → Shared → Prop), Takes (X.tr pn xe) W → PassesOwn (model X.prog X.w) X.A X.env xe → PSs (X.tr pn xe) body (tb W))
    (hsu : ∀ (a : Addr) (oe : Obj) (cls : Value) (d : Option Addr) (pn : List (Addr × Obj)), Zc cls d oe → (∃ vs, oe.data = .fields vs) → PSs (X.suite a ((a, oe) :: pn)) (b₀ :: suite) (ts a cls d)) :
    PS X (.Try body [.ExceptHandler (some (.Name x np)) none (b₀ :: suite) pos'] [] [] pos) (tTry X.K c tb ts Wout) := ps_try_only hs hf hc tk hb hsu
theorem wx_try1 {c cls : Value} {d : Option Addr} {ts : Addr → Value → Option Addr → TS} {W : WX} (h : PySem.W.exmOne K cls c = some true) (q : ∀ a, WS L T (ts a cls d) D σ) : WX' L T (atS (wOnly K c ts W D) σ) cls d := fun H hs =>
  ⟨true, h, fun _ a _ => q a H hs, fun z => nomatch z⟩
theorem wx_try0 {c cls : Value} {d : Option Addr} {ts : Addr → Value → Option Addr → TS} {W : WX} (h : PySem.W.exmOne K cls c = some false) (q : WX' L T (atS W σ) cls d) : WX' L T (atS (wOnly K c ts W D) σ) cls d := fun H hs =>
  ⟨false, h, (fun z => nomatch z), fun _ => q H hs⟩
end
end Lg
/-! for k in range(a, b) at bounds of any size. -/
namespace Lg
open PySem PySem.Spec PyProof.Rows L2
theorem turn_long {P : Program} {w : World} {K : PySem.W.Frag} {tg : Expr} (it : Addr) (lo : Int) (n : Nat) : Turn P w K tg (Itr lo n) [it] it (fun i h => IsLongIter h it (lo + (i : Nat) * 1) ((n : Int) - (i : Nat)) 1) where
  mem := by simp
  obj := fun i h st b hb => by
    have e : b = it := by simpa using hb
    subst e
    exact ⟨_, st, fun v z => by
      have z' : Data.fields _ = Data.cell v := z
      cases z'⟩
  keep := fun i h h' st k => k it (by simp) _ st
  item := by
    intro X hP hw hK hc i pins s σ H E I hf st hg
    subst hP hw hK
    obtain ⟨f0, f1, f2, f3, f4, f5⟩ := hf it (by simp)
    have W := Walks.longrange (prog := X.prog) (w := X.w) (I.ok.hd hc) it lo 1 n
    refine W.item i s _ _ hg st fun v h' tk hv st' kk => ?_
    obtain ⟨t, rfl⟩ := hv
    have I1 : Inv X pins σ H { s with heap := h', toks := tk } := I.turned (fun b o hb e => kk b o (by simpa using hb) e) f0 f1 f3 f4 f5
    refine ⟨_, rfl, go_of (s := { s with heap := h', toks := tk }) (n := "longrange_iterator") st' rfl rfl (by decide) ⟨.int (lo + i), H, I1, ⟨t, ?_⟩, ⟨rfl, rfl⟩, st', fun b hb => (hf b hb).1⟩⟩
    rw [Int.mul_one]
  done := by
    intro X hP hw hK hc i pins s σ H E I hf st hg
    subst hP hw hK
    obtain ⟨f0, f1, f2, f3, f4, f5⟩ := hf it (by simp)
    exact wpAny_pyNext_long_end (I.ok.hd hc) st (by have : n ≤ i := hg; omega) fun h' eb => ⟨rfl, I.turned (t' := s.toks) (fun b o hb e => eb b o hb e) f0 f1 f3 f4 f5⟩
  self := fun A i s Q E st h => wpAny_pyIter_longiter st h
section
variable {X : Cx} {tg : Expr}
theorem range_itA {pins : List (Addr × Obj)} {σ : L2.St} {H : Hp} {s : Shared} {R : It → Hp → Prop} {E : Value → Shared → Prop} {lo hi : Int} {t u v : Tok} {tk : Nat} (I : Inv X pins σ H s)
    (q : R (Itr lo (hi - lo).toNat) H) : wpAny (model X.prog X.w) X.A (pyIter (.ref s.heap.objs.size)) (PIE X pins σ tg R) E { s with heap := s.heap.push { cls := .type "range", data := .fields #[.int lo t, .int hi u, .int 1 v] }, toks := tk } := by
  have I1 : Inv X pins σ H { s with heap := s.heap.push { cls := .type "range", data := .fields #[.int lo t, .int hi u, .int 1 v] }, toks := tk } := I.kept fun b o e => Heap.get?_push_of_some _ e
  have e1 : lo + ((0 : Nat) : Int) * 1 = lo := by simp
  have e2 : (((hi - lo).toNat : Nat) : Int) - ((0 : Nat) : Int) = Builtin.Range.rangeSize lo hi 1 := by rw [rangeSize_one]; split <;> omega
  cases hs : Builtin.Range.small lo hi 1 with
  | true =>
    refine wpAny_pyIter_range (IsRange.new ..) hs ?_
    refine ⟨_, [(s.heap.push { cls := .type "range", data := .fields #[.int lo t, .int hi u, .int 1 v] }).objs.size], _, _, H, rfl, I1.kept (t' := tk) fun b o e => Heap.get?_push_of_some _ e, turn_range _ lo (hi - lo).toNat, ?_, fun b hb => ?_, q⟩
    · show IsRangeIter _ _ (lo + ((0 : Nat) : Int) * 1) ((((hi - lo).toNat : Nat) : Int) - ((0 : Nat) : Int)) 1
      rw [e1, e2]
      exact Heap.get?_push_size _ rfl
    · have e : b = (s.heap.push { cls := .type "range", data := .fields #[.int lo t, .int hi u, .int 1 v] }).objs.size := by simpa using hb
      subst e
      exact I1.fpOk (Nat.le_refl _) (I1.hok.fresh (Nat.le_refl _))
  | false =>
    refine wpAny_pyIter_longrange (IsRange.new ..) hs ?_
    refine ⟨_, [(s.heap.push { cls := .type "range", data := .fields #[.int lo t, .int hi u, .int 1 v] }).objs.size], _, _, H, rfl, I1.kept (t' := tk) fun b o e => Heap.get?_push_of_some _ e, turn_long _ lo (hi - lo).toNat, ?_, fun b hb => ?_, q⟩
    · show IsLongIter _ _ (lo + ((0 : Nat) : Int) * 1) ((((hi - lo).toNat : Nat) : Int) - ((0 : Nat) : Int)) 1
      rw [e1, e2]
      exact Heap.get?_push_size _ rfl
    · have e : b = (s.heap.push { cls := .type "range", data := .fields #[.int lo t, .int hi u, .int 1 v] }).objs.size := by simpa using hb
      subst e
      exact I1.fpOk (Nat.le_refl _) (I1.hok.fresh (Nat.le_refl _))
def iRng2A (ta : TA) : TI := fun σ H R => ta σ H fun vs H1 => ∃ i j : Int, vs = [.int i, .int j] ∧ R (Itr i (j - i).toNat) H1
theorem pi_range2A {a b : Expr} {ta : TA} {p pos : Pos} (hg : Gl X "range") (hm : X.mg "range" = none) (ha : PA X [a, b] ta) (hs : starEach [a, b] X.env = [(false, eval a X.env), (false, eval b X.env)] := by rfl) (hs2 : starEach [b] X.env = [(false, eval b X.env)] := by rfl) :
    PI X tg (.Call (.Name "range" p) [a, b] [] pos) (iRng2A ta) := by
  refine ⟨fun pins s σ H R I h => ?_⟩
  refine Call_ (ld_blt I hg hm boot_range (PyProof.Rows.callWith_type1 (thn (ha.run pos pins s σ H _ I h) fun us s1 ⟨vs, H1, I1, r1, q1⟩ => ?_) (by rw [hs, hs2]) (by rw [hs2]; rfl)))
  obtain ⟨i, j, e, q⟩ := q1
  subst e
  cases r1 with
  | cons r rr =>
    cases rr with
    | cons r' rr =>
      cases rr
      obtain ⟨t, rfl⟩ := r
      obtain ⟨t', rfl⟩ := r'
      exact call_range_2 (range_itA I1 q)
end
section
variable {L L' : Led} {T T' : Tps} {σ σ' : L2.St}
theorem wc_lenI {K : PySem.W.Frag} {k : VK} {p : Addr} {xs : List V} (h : IsL K L T p xs) (q : WV L T k (.int xs.length)) : WC L T (rLenA K) [.ref p] k := fun H hs => ⟨_, _, rfl, .inl ⟨_, h H hs, rfl⟩, q H hs⟩
theorem wr_ixI {K : PySem.W.Frag} {k : VK} {p : Addr} {xs : List V} {i : Int} {v : V} (h : IsL K L T p xs) (ha : atI xs i = some v) (q : WV L T k v) : WR L T (rIx K) (.ref p) (.int i) k := fun H hs => .inl ⟨p, xs, i, v, rfl, rfl, h H hs, ha, q H hs⟩
theorem wov_slI {K : PySem.W.Frag} {k : VK} {p : Addr} {xs : List V} {lo hi : Option Int} (h : IsL K L T p xs) (q : ∀ a, WV ((a, .lst (cutV xs lo hi)) :: L) T k (.ref a)) : WOV L T (kSlC (rSlL K) (.ref p) lo k) hi :=
  fun H hs => ⟨p, xs, rfl, h H hs, fun a ha => q a _ (hs.new ha)⟩
/-- the script, where it stands at the law's begin: a part of the ledger, and what tells it -/
theorem script_at {K : PySem.W.Frag} {H : Hp} {a : Addr} {xs : List V} (h : SqL K H a xs) : ∃ F0 : Led, Hs H F0 [] ∧ ∀ L T, (∀ x ∈ F0, x ∈ L) → IsL K L T a xs := by
  rcases h with h | h
  · rcases h with h | ⟨o, h⟩
    · exact ⟨[(a, .lst xs)], ⟨by simp, fun x hx => by rw [List.mem_singleton.mp hx]; exact h, fun x hx => nomatch hx⟩, fun L T hL H hs => .inl (.inl (hs.at_ _ (hL _ List.mem_cons_self)))⟩
    · exact ⟨[(a, .frz o (.lst xs))], ⟨by simp, fun x hx => by rw [List.mem_singleton.mp hx]; exact h, fun x hx => nomatch hx⟩, fun L T hL H hs => .inl (.inr ⟨o, hs.at_ _ (hL _ List.mem_cons_self)⟩)⟩
  · exact ⟨[], ⟨by simp, (fun x hx => nomatch hx), (fun x hx => nomatch hx)⟩, fun L T _ H _ => .inr h⟩
def kIR2A (R : It → Hp → Prop) : List V → Hp → Prop := fun vs H1 => ∃ i j : Int, vs = [.int i, .int j] ∧ R (Itr i (j - i).toNat) H1
theorem e_iR2A {R : It → Hp → Prop} {t : TA} : WI L T (iRng2A t) σ R = WA L T t σ (kIR2A R) := rfl
theorem e_kIR2A {R : It → Hp → Prop} {i j : Int} : WVs L T (kIR2A R) [.int i, .int j] = WJ L T R (Itr i (j - i).toNat) := propext ⟨fun q H hs => by
  obtain ⟨i', j', e, q⟩ := q H hs
  cases e; exact q, fun q H hs => ⟨i, j, rfl, q H hs⟩⟩
end
theorem walk_W {l : PySem.W.OpenLaw} {n k : Nat} {q : Program} {loose : List Str} {XP : (Str → Option Value) → Heap → Prop} {YP : World → Heap → Prop} {d : DefRec} {x : Str}
    (hn : l.most = some n) (hn2 : n ≤ sizeLine) (hdf : d.params.defaults = []) (hr : Room k callerA)
    (F : ∀ (w : World) (mg : Str → Option Value) (fa : Addr) (h : Heap), YP w h → h.Ns mainGlobals mg → mg d.name = some (.ref fa) →
      ∃ (K : PySem.W.Frag) (fd : FuncData) (sp : Sp), K.In h ∧ (∀ (s : Shared) (u : Value), BindsTo s fd ⟨[u], []⟩ [(x, u)]) ∧
        (∀ (H : Hp) (a : Addr) (ns : List Int), ns.length ≤ n → SqL K H a (ns.map V.int) → sp [.ref a] H (fun v _ => v = .bl true) fun _ _ _ => False) ∧
        ∀ base : Heap, K.In base → base.Ns mainGlobals mg → FnOk l.prog w K mg base (L2.CX l.prog w) k fa fd [x] sp) :
    PySem.W.WalkO q loose XP YP l.row.toRowW d [] (fun f vs => PySem.call f vs) := by
  refine Att.attach_call hn hdf fun w s₀ s₁ mg mb fa o pm cd doc a vs ns G Y ho hd hcd hmg hobj hints hlen hg => ?_
  obtain ⟨K, fd, sp, KX, hb, hsp, hF⟩ := F w mg fa _ Y G.T.g hmg
  exact law_call KX G.T.g G.T.b G.T.builtins G.T.nolimit hg hobj hints (Nat.le_trans hlen hn2) hr hF hb (fun H hO hS => hsp H a ns hlen hS) fun H e s' ⟨_, _, _, _, _, _, _, _, _, _, _, _, z⟩ => z
end Lg
/-! int of a truth. -/
namespace Lg
open PySem PySem.Spec PyProof.Rows L2
section
variable {L L' : Led} {T T' : Tps} {k : VK}
theorem wc_intB {b : Bool} (q : WV L T k (.int (if b = true then 1 else 0))) : WC L T (fun xs H Q => (∃ i, xs = [.int i] ∧ Q (.int i) H) ∨ ∃ k, xs = [.bl k] ∧ Q (.int (if k then 1 else 0)) H) [.bl b] k := fun H hs => .inr ⟨b, rfl, q H hs⟩
theorem wc_intI {i : Int} (q : WV L T k (.int i)) : WC L T (fun xs H Q => (∃ i, xs = [.int i] ∧ Q (.int i) H) ∨ ∃ k, xs = [.bl k] ∧ Q (.int (if k then 1 else 0)) H) [.int i] k := fun H hs => .inl ⟨i, rfl, q H hs⟩
end
end Lg
set_option maxHeartbeats 4000000
namespace K22
open PySem PySem.Spec PyProof.Rows L2 Lg
/-! ### the walk, in steps -/
local macro_rules | `(tactic| fail "lk") => `(tactic| first
  | with_reducible exact List.mem_cons_self
  | assumption
  | (with_reducible apply List.mem_cons_of_mem; fail "lk")
  | (with_reducible apply List.mem_append_right; fail "lk")
  | (with_reducible apply List.mem_append_left; fail "lk"))
local macro_rules | `(tactic| fail "up") => `(tactic| first
  | with_reducible exact Lg.Up.here
  | (with_reducible apply Lg.Up.there; fail "up")
  | (with_reducible apply Lg.Up.app; fail "up"))
local macro_rules | `(tactic| fail "rm") => `(tactic| first
  | with_reducible exact Lg.Rm.here
  | (with_reducible apply Lg.Rm.there; fail "rm")
  | (with_reducible apply Lg.Rm.app; fail "rm"))
local macro_rules | `(tactic| fail "rmc") => `(tactic| first
  | with_reducible exact Lg.RmC.here
  | (with_reducible apply Lg.RmC.there; fail "rmc")
  | (with_reducible apply Lg.RmC.app; fail "rmc"))
local macro_rules | `(tactic| fail "pk") => `(tactic| first
  | with_reducible exact Lg.Pk.nil
  | (with_reducible apply Lg.Pk.cons; focus (fail "rm"); fail "pk")
  | (with_reducible apply Lg.Pk.chunk; focus (fail "rmc"); fail "pk"))
local macro_rules | `(tactic| fail "dr") => `(tactic| first
  | with_reducible exact Lg.Dr.refl
  | (with_reducible refine Lg.Dr.drop ?_; fail "dr")
  | (with_reducible refine Lg.Dr.dropC ?_; fail "dr"))
local macro_rules | `(tactic| fail "sb") => `(tactic| first
  | (with_reducible apply Lg.Sb.take; focus (fail "rm"); fail "sb")
  | (with_reducible apply Lg.Sb.chunk; focus (fail "rmc"); fail "sb")
  | (with_reducible refine Lg.Sb.done ?_; fail "dr"))
local macro_rules | `(tactic| fail "ts") => `(tactic| first
  | with_reducible exact Lg.Ts.refl
  | with_reducible exact Lg.Ts.nil
  | (with_reducible refine Lg.Ts.add ?_ ?_; focus (fail "lk"); fail "ts")
  | (with_reducible refine Lg.Ts.cons ?_; fail "ts")
  | (with_reducible refine Lg.Ts.app ?_; fail "ts")
  | assumption)
local macro_rules | `(tactic| fail "set") => `(tactic| first
  | with_reducible exact Lg.SetAt.z
  | (with_reducible apply Lg.SetAt.s; fail "set"))
local macro_rules | `(tactic| fail "sf") => `(tactic| first
  | with_reducible exact Lg.SetF.nil
  | with_reducible exact Lg.SetF.here
  | (with_reducible apply Lg.SetF.there; with_unfolding_all decide +kernel; fail "sf"))
local macro_rules | `(tactic| fail "te") => `(tactic| (first | exact rfl | (dsimp only [L2.Cx.blk, L2.Cx.tr, L2.Cx.suite]; done) | (dsimp only [L2.Cx.blk, L2.Cx.tr, L2.Cx.suite]; exact rfl)))
local macro_rules | `(tactic| fail "ty") => `(tactic| first
  | assumption
  | with_reducible exact Lg.TyL.int _
  | with_reducible exact Lg.TyL.non
  | with_reducible exact Lg.TyL.bl _
  | with_reducible exact Lg.TyL.str _
  | (with_reducible apply Lg.TyL.tup; fail "lk")
  | (with_reducible apply Lg.TyL.lst; fail "lk")
  | (with_reducible apply Lg.TyL.dK; fail "lk")
  | (with_reducible apply Lg.TyL.ts; assumption; focus (fail "ts"))
  | (with_reducible apply Lg.TyL.cons; fail "ty"))
/-- arithmetic sides -/
local macro_rules | `(tactic| fail "ar") => `(tactic| first
  | assumption
  | omega
  | decide
  | (simp only [List.length_cons, List.length_nil, List.length_append, List.length_map] at *; omega))
local macro_rules | `(tactic| fail "mul") => `(tactic| first
  | exact Lg.mulL (by omega) (by omega)
  | exact Lg.mulR (by omega) (by omega)
  | exact Lg.mulB (by omega) (by omega) (by omega) (by omega))
/-- conditions of int operators -/
local macro_rules | `(tactic| fail "ci") => `(tactic| first
  | omega
  | fail "mul"
  | exact Lg.divA (by omega) (by omega)
  | assumption
  | exact ⟨by omega, by omega, by decide⟩
  | decide)
local macro_rules | `(tactic| fail "sim") => `(tactic| simp only [Lg.e_var0, Lg.e_varS, Lg.e_c, Lg.e_op, Lg.e_opA, Lg.e_opB, Lg.e_un, Lg.e_kUn, Lg.e_rU, Lg.e_I0, Lg.e_eqI, Lg.e_neI, Lg.e_eqS, Lg.e_neS, Lg.e_isN, Lg.e_notN, Lg.e_isNN, Lg.e_isNI, Lg.e_isNR, Lg.e_isNS, Lg.e_isNB, Lg.e_notNN, Lg.e_notNI, Lg.e_notNR, Lg.e_notNS, Lg.e_notNB, Lg.e_chain, Lg.e_chA, Lg.e_chB, Lg.e_chT, Lg.e_chF, Lg.e_test, Lg.e_tB, Lg.e_kB, Lg.e_and, Lg.e_or, Lg.e_not, Lg.e_kNotT, Lg.e_kNotF, Lg.e_kAndT, Lg.e_kAndF, Lg.e_kOrT, Lg.e_kOrF, Lg.e_andV, Lg.e_orV, Lg.e_notV, Lg.e_kAndVT, Lg.e_kAndVF, Lg.e_kOrVT, Lg.e_kOrVF, Lg.e_kNotV, Lg.e_if, Lg.e_kIfT, Lg.e_kIfF, Lg.e_nil, Lg.e_cons, Lg.e_kCons, Lg.e_kConsB, Lg.e_tup, Lg.e_lst, Lg.e_fld, Lg.e_sfld, Lg.e_sfldA, Lg.e_callW, Lg.e_kCallW, Lg.e_methW, Lg.e_kMethWB, Lg.e_makeW, Lg.e_made, Lg.e_atFn, Lg.e_cb, Lg.e_kCB, Lg.e_bm, Lg.e_bm0, Lg.e_kBMB, Lg.e_bmS, Lg.e_bm0S, Lg.e_oNone, Lg.e_oSome, Lg.e_part, Lg.e_sl, Lg.e_slA, Lg.e_slB, Lg.e_seq, Lg.e_kSeq, Lg.e_next, Lg.e_brk, Lg.e_cont, Lg.e_asg, Lg.e_kAsg, Lg.e_gName, Lg.e_gNil, Lg.e_gCons, Lg.e_kGs, Lg.e_drop, Lg.e_kDrop, Lg.e_ret, Lg.e_retN, Lg.e_rtN, Lg.e_ifs, Lg.e_kIfST, Lg.e_kIfSF, Lg.e_for, Lg.e_iList, Lg.e_iTup, Lg.e_iR1, Lg.e_iR2, Lg.e_body, Lg.e_rs, Lg.e_truB, Lg.e_cxK, Lg.e_trK, Lg.e_suK, Lg.e_dput, Lg.e_dputA, Lg.e_dputB, Lg.e_wipe1, Lg.e_iR2A, Lg.e_kIR2A, Lg.e_try, Lg.e_wipeA, Lg.e_wipe2, Lg.e_wipe3, Lg.e_iStr, Lg.e_kIStr, Lg.e_inS, Lg.e_lc, Lg.e_din, Lg.e_dnotin, Lg.e_dinA, Lg.wholeB_int, Lg.wholeB_bl, Lg.wholeB_non, Lg.wholeB_str, Lg.wholeB_ref, List.set_cons_zero, List.set_cons_succ, List.append_nil, Bool.not_true, Bool.not_false, Bool.not_not])
local macro_rules | `(tactic| fail "t") => `(tactic| with_reducible first
  | (apply Lg.wv_fld; fail "lk"; assumption; assumption; with_unfolding_all first | rfl | decide +kernel)
  | (apply Lg.wr_I; with_unfolding_all fail "ci")
  | (apply Lg.wvs_tup; with_unfolding_all exact Nat.le_of_ble_eq_true rfl; intros)
  | (apply Lg.wvs_lst; with_unfolding_all exact Nat.le_of_ble_eq_true rfl; intros)
  | (apply Lg.wr_ixT; fail "lk"; with_unfolding_all rfl)
  | (apply Lg.wr_ixL; fail "lk"; with_unfolding_all rfl)
  | (apply Lg.wv_sfldS; fail "up"; assumption; assumption; with_unfolding_all exact Nat.le_of_ble_eq_true rfl; fail "sf")
  | (apply Lg.wv_methW; fail "lk"; with_unfolding_all first | rfl | decide +kernel)
  | (apply Lg.wc_isi (b := true); fail "ty"; with_unfolding_all decide +kernel)
  | (apply Lg.wc_isi (b := false); fail "ty"; with_unfolding_all decide +kernel)
  | (apply Lg.wu_notNO; assumption)
  | (apply Lg.wu_isNO; assumption)
  | (apply Lg.wx_try1; assumption; intros)
  | (apply Lg.wx_try0; assumption)
  | (apply Lg.wc_lenL; fail "lk")
  | (apply Lg.wc_lenT; fail "lk")
  | (apply Lg.wc_lenS; assumption)
  | apply Lg.wc_maxM
  | apply Lg.wc_intB
  | apply Lg.wc_intI
  | apply Lg.wc_minM
  | (apply Lg.wvs_makeW; intros)
  | (apply Lg.wg_tup; fail "lk"; with_unfolding_all rfl)
  | (apply Lg.wm_append; fail "up"; with_unfolding_all fail "ar")
  | (apply Lg.wm_extend; fail "up"; fail "lk"; with_unfolding_all fail "ar")
  | (apply Lg.wm_clear; fail "up")
  | (apply Lg.wv_bmL; fail "lk")
  | (apply Lg.wv_bm0L; fail "lk")
  | (apply Lg.wv_iList; apply Lg.IsL.of; fail "lk")
  | (apply Lg.wv_iTup; apply Lg.IsT.of; fail "lk")
  | (apply Lg.wj_tupU)
  | (apply Lg.wn_unr1; fail "lk")
  | (apply Lg.wn_unr0; fail "lk")
  | (apply Lg.wn_lcG; with_unfolding_all rfl)
  | apply Lg.wt_yes
  | apply Lg.wb_lcT
  | (apply Lg.wv_dinI; fail "lk")
  | (apply Lg.wv_dinS; fail "lk")
  | (apply Lg.wv_dinII; fail "lk"; fail "lk")
  | (apply Lg.we_dnewK; intros)
  | (apply Lg.we_dnewT; intros)
  | (apply Lg.wv_bmD; fail "lk")
  | (apply Lg.wv_bmDK; fail "lk")
  | (apply Lg.wov_slL; fail "lk"; intros)
  | (apply Lg.ws_aug; with_unfolding_all rfl)
  | (apply Lg.wv_augI; fail "set"))
/-- a test on which nothing decides: two ways; a way that can't be is shut -/
local macro_rules | `(tactic| fail "dec") => `(tactic| ((with_reducible first
  | apply Lg.wb_dec
  | apply Lg.wb_ndec
  | apply Lg.d_chD
  | apply Lg.d_andD
  | apply Lg.d_andN
  | apply Lg.d_orD
  | apply Lg.d_orN) <;> intros <;> try (exfalso; omega)))
/-- .. where nothing is known of the truth value -/
local macro_rules | `(tactic| fail "bool") => `(tactic| ((with_reducible first
  | apply Lg.wb_bool
  | apply Lg.wv_andV
  | apply Lg.wv_orV
  | apply Lg.d_chB) <;> intros))
local macro_rules | `(tactic| fail "u") => `(tactic| fail)
local macro_rules | `(tactic| fail "w") => `(tactic| first | fail "sim" | fail "t" | fail "u")
local macro_rules | `(tactic| fail "go") => `(tactic| repeat' (first | fail "w" | fail "dec"))
local macro_rules | `(tactic| fail "gos") => `(tactic| repeat' (fail "w"))

def top (i : Nat) : Stmt := PySem.Challenge.pw_namehouses_k22_let_of_any_house.main.body.getD i (.Pass ⟨0, 0, 0, 0⟩)
/-- where the classes stand -/
structure Cs where
  (HouseError NoShape NoName NoTime NoHolder NoLease Ended Shape Let Common : Addr)
structure At_Shape (K : PySem.W.Frag) (cs : Cs) : Prop where
  c : Cls K cs.Shape
  f_moments : NoAttr K cs.Shape "moments"
  f_houses : NoAttr K cs.Shape "houses"
  f_counts : NoAttr K cs.Shape "counts"
structure At_Let (K : PySem.W.Frag) (cs : Cs) : Prop where
  c : Cls K cs.Let
  f_holder : NoAttr K cs.Let "holder"
  f_lease : NoAttr K cs.Let "lease"
  f_end : NoAttr K cs.Let "end"
  f_is_cut : NoAttr K cs.Let "is_cut"
structure At_Common (K : PySem.W.Frag) (cs : Cs) : Prop where
  c : Cls K cs.Common
  f_shape : NoAttr K cs.Common "shape"
  f_lets : NoAttr K cs.Common "lets"
abbrev s_is_whole : Stmt := top 10
abbrev N_is_whole : List Str := ["thing"]
theorem sc_is_whole : FnScope N_is_whole ["thing"] (defScope s_is_whole) := ⟨rfl, rfl, rfl, by decide +kernel, rfl, by decide +kernel, by decide +kernel⟩
def sp_is_whole (K : PySem.W.Frag) (cs : Cs) : SpL := fun vs L T Q _ => ∃ x n, vs = [x] ∧ TyL L T x n ∧ Q (.bl (wholeB x)) L T
theorem ok_is_whole {P : Program} {w : World} {K : PySem.W.Frag} {mg : Str → Option Value} {base : Heap} {cs : Cs} {f : Addr} {fd : FuncData}
    (F : FunD K "is_whole" "is_whole" (defArgs s_is_whole) (defBody s_is_whole) (defScope s_is_whole) [] [] f fd)
    (n_isinstance : mg "isinstance" = none)
    (n_int : mg "int" = none)
    (n_bool : mg "bool" = none)
    : FnOk P w K mg base (L2.CX P w) 1 f fd ["thing"] (toSp (sp_is_whole K cs)) := by
  refine F.ok (k := 0) sc_is_whole (fun vs H Q E h => ?_) (fun cdv A outer s H vs Q E hr h => ?_)
  · obtain ⟨L, T, hs, h⟩ := h
    unfold sp_is_whole at h
    repeat (obtain ⟨_, h⟩ := h)
    subst_vars
    rfl
  have hu := hu_of hr
  obtain ⟨L, T, hs, h⟩ := h
  unfold sp_is_whole at h
  obtain ⟨x, n, rfl, h, q⟩ := h
  refine ⟨_, (pss_one (ps_ret (pe_and (pe_callB call_isi (by rfl) n_isinstance (by decide +kernel) (pa_cons (pv 0) (pa_cons (pe_bltn (v := .ty "int") (by rfl) n_int (by decide +kernel) rfl) pa_nil))) (pe_one (pe_not (pe_callB call_isi (by rfl) n_isinstance (by decide +kernel) (pa_cons (pv 0) (pa_cons (pe_bltn (v := .ty "bool") (by rfl) n_bool (by decide +kernel) rfl) pa_nil)))))))), ok_go [some _] rfl hs ?_⟩
  clear hs
  rw [h.whole] at q
  cases n <;> fail "gos" <;> exact q
theorem u_is_whole {K : PySem.W.Frag} {cs : Cs} {L : Led} {T : Tps} {k : VK} {E : XK} {x : V} {n : Tn} (h : TyL L T x n) (q : WV L T k (.bl (wholeB x))) : WSp L T (toSp (sp_is_whole K cs)) [x] k E := wsp ⟨x, n, rfl, h, q⟩
local macro_rules | `(tactic| fail "u") => `(tactic| with_reducible (apply u_is_whole; fail "ty"))
abbrev s_is_below : Stmt := top 11
abbrev N_is_below : List Str := ["thing", "most"]
theorem sc_is_below : FnScope N_is_below ["thing", "most"] (defScope s_is_below) := ⟨rfl, rfl, rfl, by decide +kernel, rfl, by decide +kernel, by decide +kernel⟩
def sp_is_below (K : PySem.W.Frag) (cs : Cs) : SpL := fun vs L T Q _ => ∃ x n m, vs = [x, .int m] ∧ TyL L T x n ∧ Q (.bl (belowB x m)) L T
theorem ok_is_below {P : Program} {w : World} {K : PySem.W.Frag} {mg : Str → Option Value} {base : Heap} {cs : Cs} {f : Addr} {fd : FuncData}
    (F : FunD K "is_below" "is_below" (defArgs s_is_below) (defBody s_is_below) (defScope s_is_below) [] [] f fd)
    (h_is_whole : FdOk P w K mg base 1 "is_whole" ["thing"] [] (toSp (sp_is_whole K cs)))
    : FnOk P w K mg base (L2.CX P w) 2 f fd ["thing", "most"] (toSp (sp_is_below K cs)) := by
  refine F.ok (k := 1) sc_is_below (fun vs H Q E h => ?_) (fun cdv A outer s H vs Q E hr h => ?_)
  · obtain ⟨L, T, hs, h⟩ := h
    unfold sp_is_below at h
    repeat (obtain ⟨_, h⟩ := h)
    subst_vars
    rfl
  have hu := hu_of hr
  obtain ⟨L, T, hs, h⟩ := h
  unfold sp_is_below at h
  obtain ⟨x, n, m, rfl, h, q⟩ := h
  refine ⟨_, (pss_one (ps_ret (pe_and (pe_fn h_is_whole hr (tk_fn rfl rfl rfl rfl) (pa_cons (pv 0) pa_nil)) (pe_one (pe_chain op_le op_lt pe_int (pv 0) (pv 1)))))), ok_go [some _, some _] rfl hs ?_⟩
  clear hs
  cases h <;> fail "go" <;> first | exact q | (simp [belowB, *] at q; exact q)
theorem u_is_below {K : PySem.W.Frag} {cs : Cs} {L : Led} {T : Tps} {k : VK} {E : XK} {x : V} {n : Tn} {m : Int} (h : TyL L T x n) (q : WV L T k (.bl (belowB x m))) : WSp L T (toSp (sp_is_below K cs)) [x, .int m] k E := wsp ⟨x, n, m, rfl, h, q⟩
local macro_rules | `(tactic| fail "u") => `(tactic| with_reducible (apply u_is_below; fail "ty"))
def posB (v : V) : Bool := match v with
  | .int i => decide (1 ≤ i)
  | _ => false
theorem pos_cs {L : Led} {T : Tps} {v : V} {n : Tn} (h : TyL L T v n) : (∃ i, v = .int i ∧ (posB v = true ↔ 1 ≤ i)) ∨ (wholeB v = false ∧ posB v = false) := by
  cases h with
  | int i => exact .inl ⟨i, rfl, by simp [posB]⟩
  | _ => exact .inr ⟨rfl, rfl⟩
abbrev s_Shape_init : Stmt := inClass (top 12) 0
abbrev N_Shape_init : List Str := ["self", "moments", "houses", "counts", "number"]
theorem sc_Shape_init : FnScope N_Shape_init ["self", "moments", "houses", "counts"] (defScope s_Shape_init) := ⟨rfl, rfl, rfl, by decide +kernel, rfl, by decide +kernel, by decide +kernel⟩
def sp_Shape_init (K : PySem.W.Frag) (cs : Cs) : SpL := fun vs L T Q E => ∃ p dx x1 x2 x3 n1 n2 n3 L0, vs = [.ref p, x1, x2, x3] ∧ L = (p, .ins cs.Shape dx []) :: L0 ∧ TyL L T x1 n1 ∧ TyL L T x2 n2 ∧ TyL L T x3 n3 ∧
  (posB x1 = true → posB x2 = true → posB x3 = true → Q .non ((p, .ins cs.Shape dx [("moments", x1), ("houses", x2), ("counts", x3)]) :: L0) T) ∧ ((posB x1 = false ∨ posB x2 = false ∨ posB x3 = false) → E (.ref cs.NoShape) none L T)
theorem ok_Shape_init {P : Program} {w : World} {K : PySem.W.Frag} {mg : Str → Option Value} {base : Heap} {cs : Cs} {f : Addr} {fd : FuncData}
    (F : FunD K "__init__" "Shape.__init__" (defArgs s_Shape_init) (defBody s_Shape_init) (defScope s_Shape_init) [] [] f fd)
    (h_is_whole : FdOk P w K mg base 1 "is_whole" ["thing"] [] (toSp (sp_is_whole K cs)))
    (ex_NoShape : ExOk K mg "NoShape" cs.NoShape)
    (at_Shape : At_Shape K cs)
    : FnOk P w K mg base (L2.CX P w) 2 f fd ["self", "moments", "houses", "counts"] (toSp (sp_Shape_init K cs)) := by
  refine F.ok (k := 1) sc_Shape_init (fun vs H Q E h => ?_) (fun cdv A outer s H vs Q E hr h => ?_)
  · obtain ⟨L, T, hs, h⟩ := h
    unfold sp_Shape_init at h
    repeat (obtain ⟨_, h⟩ := h)
    subst_vars
    rfl
  have hu := hu_of hr
  obtain ⟨cl_Shape, na_Shape_moments, na_Shape_houses, na_Shape_counts⟩ := at_Shape
  obtain ⟨L, T, hs, h⟩ := h
  unfold sp_Shape_init at h
  obtain ⟨p, dx, x1, x2, x3, n1, n2, n3, L0, rfl, rfl, h1, h2, h3, q, qe⟩ := h
  refine ⟨_, (pss_cons (ps_for (passes_of rfl) rfl (pi_tup (pe_tup (pa_cons (pv 1) (pa_cons (pv 2) (pa_cons (pv 3) pa_nil))))) (pg_name (i := 4) sc_Shape_init.nd rfl (Or.inl rfl))
      (pss_one (ps_if (PW.pt (pw_or (pt_not (pt_val (pe_fn h_is_whole hr (tk_fn rfl rfl rfl rfl) (pa_cons (pv 4) pa_nil)))) (pw_or1 (pt_cmpR op_lt (pv 4) pe_int (nomark _)))))
      (pss_one (ps_rs ex_NoShape (tk_fn rfl rfl rfl rfl)))
      pss_nil)))
      (pss_cons (ps_fld (pv 0) (pv 1) rfl)
      (pss_cons (ps_fld (pv 0) (pv 2) rfl)
      (pss_one (ps_fld (pv 0) (pv 3) rfl))))), ok_go [some _, some _, some _, some _, none] rfl hs ?_⟩
  clear hs
  have c1 := pos_cs h1
  have c2 := pos_cs h2
  have c3 := pos_cs h3
  have qx : (posB x1 = false ∨ posB x2 = false ∨ posB x3 = false) → ∀ T', Ts T' T → WX' ((p, .ins cs.Shape dx []) :: L0) T' E (.ref cs.NoShape) none := fun z T' t => wx_end (.done .refl) t (qe z)
  rcases c1 with ⟨i1, rfl, c1⟩ | ⟨e1, c1⟩
  · rcases c2 with ⟨i2, rfl, c2⟩ | ⟨e2, c2⟩
    · rcases c3 with ⟨i3, rfl, c3⟩ | ⟨e3, c3⟩
      · fail "go"
        · exact qx (.inl (by simp only [posB, decide_eq_false_iff_not]; omega)) _ (by fail "ts")
        · exact qx (.inr (.inl (by simp only [posB, decide_eq_false_iff_not]; omega))) _ (by fail "ts")
        · exact qx (.inr (.inr (by simp only [posB, decide_eq_false_iff_not]; omega))) _ (by fail "ts")
        · exact wv_end (by fail "sb") (by fail "ts") (q (by simp only [posB, decide_eq_true_eq]; omega) (by simp only [posB, decide_eq_true_eq]; omega) (by simp only [posB, decide_eq_true_eq]; omega))
      · fail "go" <;> (try rw [e3]) <;> fail "go" <;> exact qx (.inr (.inr c3)) _ (by fail "ts")
    · fail "go" <;> (try rw [e2]) <;> fail "go" <;> exact qx (.inr (.inl c2)) _ (by fail "ts")
  · fail "go" <;> (try rw [e1]) <;> fail "go" <;> exact qx (.inl c1) _ (by fail "ts")
theorem u_Shape_init {K : PySem.W.Frag} {cs : Cs} {L : Led} {T : Tps} {k : VK} {E : XK} {p dx : Addr} {x1 x2 x3 : V} {n1 n2 n3 : Tn} (h1 : TyL ((p, .ins cs.Shape dx []) :: L) T x1 n1) (h2 : TyL ((p, .ins cs.Shape dx []) :: L) T x2 n2) (h3 : TyL ((p, .ins cs.Shape dx []) :: L) T x3 n3)
    (q : posB x1 = true → posB x2 = true → posB x3 = true → WV ((p, .ins cs.Shape dx [("moments", x1), ("houses", x2), ("counts", x3)]) :: L) T k .non)
    (qe : (posB x1 = false ∨ posB x2 = false ∨ posB x3 = false) → WX' ((p, .ins cs.Shape dx []) :: L) T E (.ref cs.NoShape) none) : WSp ((p, .ins cs.Shape dx []) :: L) T (toSp (sp_Shape_init K cs)) [.ref p, x1, x2, x3] k E :=
  wsp ⟨p, dx, x1, x2, x3, n1, n2, n3, L, rfl, rfl, h1, h2, h3, q, qe⟩
/-- .. of numbers that are right -/
theorem u_Shape_int {K : PySem.W.Frag} {cs : Cs} {L : Led} {T : Tps} {k : VK} {E : XK} {p dx : Addr} {i1 i2 i3 : Int} (h1 : 1 ≤ i1) (h2 : 1 ≤ i2) (h3 : 1 ≤ i3)
    (q : WV ((p, .ins cs.Shape dx [("moments", .int i1), ("houses", .int i2), ("counts", .int i3)]) :: L) T k .non) : WSp ((p, .ins cs.Shape dx []) :: L) T (toSp (sp_Shape_init K cs)) [.ref p, .int i1, .int i2, .int i3] k E :=
  u_Shape_init (.int _) (.int _) (.int _) (fun _ _ _ => q) (fun z => by simp only [posB, decide_eq_false_iff_not] at z; omega)

/-! ### the common book -/
structure LetR where
  (p dx t : Addr)
  who : Str
  (h b u e : Int)
  c : Bool
abbrev letO (cs : Cs) (l : LetR) : HO := .ins cs.Let l.dx [("holder", .str l.who), ("lease", .ref l.t), ("end", .int l.e), ("is_cut", .bl l.c)]
abbrev letE (cs : Cs) (l : LetR) : Addr × HO := (l.p, letO cs l)
structure ShR where
  (p dx : Addr)
  (m h k : Int)
abbrev shE (cs : Cs) (s : ShR) : Addr × HO := (s.p, .ins cs.Shape s.dx [("moments", .int s.m), ("houses", .int s.h), ("counts", .int s.k)])
structure ComR where
  (P dx lp sh : Addr)
abbrev comE (cs : Cs) (c : ComR) : Addr × HO := (c.P, .ins cs.Common c.dx [("shape", .ref c.sh), ("lets", .ref c.lp)])
/-- the ledger of a common book -/
abbrev comL (cs : Cs) (c : ComR) (ls : List LetR) (F : Led) : Led := comE cs c :: (c.lp, .lst (ls.map fun l => V.ref l.p)) :: (ls.map (letE cs) ++ F)
abbrev comP (cs : Cs) (c : ComR) (ls : List LetR) : Led := comE cs c :: (c.lp, .lst (ls.map fun l => V.ref l.p)) :: ls.map (letE cs)
def LeT (T : Tps) (ls : List LetR) : Prop := ∀ l ∈ ls, (l.t, [V.int l.h, .int l.b, .int l.u]) ∈ T
theorem LeT.ts {T T' : Tps} {ls : List LetR} (h : LeT T ls) (t : Ts T' T) : LeT T' ls := fun l hl => t _ (h l hl)
/-- some stretch let meets the n moments from b on -/
def Lap (ls : List LetR) (h b n : Int) : Prop := ∃ l ∈ ls, l.h = h ∧ l.b < l.e ∧ l.b < b + n ∧ b < l.e
def FirstFree (ls : List LetR) (h m n b : Int) : Prop := m ≤ b ∧ ¬ Lap ls h b n ∧ ∀ b', m ≤ b' → b' < b → Lap ls h b' n
def LeastHouse (ls : List LetR) (m n k : Int) : Prop := 0 ≤ k ∧ ¬ Lap ls k m n ∧ ∀ j, 0 ≤ j → j < k → Lap ls j m n
abbrev LETS : Str := "abcdefghijklmnopqrstuvwxyz"
def holderB : V → Bool
  | .str w => decide (1 ≤ (w.length : Int)) && decide ((w.length : Int) ≤ 8) && (w.cps.toList.map fun c => inS ⟨#[c]⟩ LETS).all id
  | _ => false
theorem take_one {α : Type} {l : List α} {i : Nat} {x : α} (h : l[i]? = some x) : l.take (i + 1) = l.take i ++ [x] := by
  rw [List.take_succ, h]; rfl
abbrev s_is_holder : Stmt := top 16
abbrev N_is_holder : List Str := ["thing", "sign"]
theorem sc_is_holder : FnScope N_is_holder ["thing"] (defScope s_is_holder) := ⟨rfl, rfl, rfl, by decide +kernel, rfl, by decide +kernel, by decide +kernel⟩
def sp_is_holder (K : PySem.W.Frag) (cs : Cs) : SpL := fun vs L T Q _ => ∃ x n, vs = [x] ∧ TyL L T x n ∧ (∀ w, x = .str w → w.length ≤ sizeLine) ∧ Q (.bl (holderB x)) L T
theorem ok_is_holder {P : Program} {w : World} {K : PySem.W.Frag} {mg : Str → Option Value} {base : Heap} {cs : Cs} {f : Addr} {fd : FuncData}
    (F : FunD K "is_holder" "is_holder" (defArgs s_is_holder) (defBody s_is_holder) (defScope s_is_holder) [] [] f fd)
    (n_isinstance : mg "isinstance" = none)
    (n_str : mg "str" = none)
    (n_len : mg "len" = none)
    (g_MOST_LETTERS : ∃ t, mg "MOST_LETTERS" = some (.int 8 t))
    (n_all : mg "all" = none)
    (g_LETTERS : ∃ t, mg "LETTERS" = some (.str "abcdefghijklmnopqrstuvwxyz" t))
    : FnOk P w K mg base (L2.CX P w) 1 f fd ["thing"] (toSp (sp_is_holder K cs)) := by
  refine F.ok (k := 0) sc_is_holder (fun vs H Q E h => ?_) (fun cdv A outer s H vs Q E hr h => ?_)
  · obtain ⟨L, T, hs, h⟩ := h
    unfold sp_is_holder at h
    repeat (obtain ⟨_, h⟩ := h)
    subst_vars
    rfl
  have hu := hu_of hr
  obtain ⟨L, T, hs, h⟩ := h
  unfold sp_is_holder at h
  obtain ⟨x, n, rfl, h, hl, q⟩ := h
  refine ⟨_, (pss_cons (ps_if (PW.pt (pw_or (pt_not (pt_val (pe_callB call_isi (by rfl) n_isinstance (by decide +kernel) (pa_cons (pv 0) (pa_cons (pe_bltn (v := .ty "str") (by rfl) n_str (by decide +kernel) rfl) pa_nil))))) (pw_or (pt_cmpR op_lt (pe_callB call_lenA (by rfl) n_len (by decide +kernel) (pa_cons (pv 0) pa_nil)) pe_int (nomark _)) (pw_or1 (pt_cmpR op_gt (pe_callB call_lenA (by rfl) n_len (by decide +kernel) (pa_cons (pv 0) pa_nil)) (pe_glob (v := .int 8) rfl (g_MOST_LETTERS).choose_spec ⟨_, rfl⟩) (nomark _))))))
      (pss_one (ps_ret pe_bl))
      pss_nil)
      (pss_one (ps_ret (pe_callB (cr_all rfl) (by rfl) n_all (by decide +kernel) (pa_cons (pe_lc (own := [("sign", 1)]) (g := gName 1) (tt := tYes) rfl sc_is_holder.nd (pi_str (pv 0)) (blkOk_by (own := [("sign", 1)]) (N := N_is_holder) (sc := defScope s_is_holder) (by decide +kernel)) (fun _ _ _ _ _ => by exact Lg.pg_te (pg_name (i := 1) sc_is_holder.nd rfl (Or.inl rfl)) (by fail "te")) (fun _ _ _ _ _ => pts_nil) (fun _ _ _ _ _ => by exact Lg.pe_te (pe_cmpR op_inS (pv 1) (pe_glob (v := .str "abcdefghijklmnopqrstuvwxyz") rfl (g_LETTERS).choose_spec ⟨_, rfl⟩) (by rfl)) (by fail "te"))) pa_nil))))), ok_go [some _, none] rfl hs ?_⟩
  clear hs
  cases h with
  | str w =>
    have hw := hl w rfl
    fail "go"
    · have e : holderB (.str w) = false := by simp only [holderB]; rw [Bool.and_eq_false_iff, Bool.and_eq_false_iff]; left; left; simpa using by omega
      rw [e] at q; exact q
    · have e : holderB (.str w) = false := by simp only [holderB]; rw [Bool.and_eq_false_iff, Bool.and_eq_false_iff]; left; right; simpa using by omega
      rw [e] at q; exact q
    · rename_i h1 h2
      refine wj_lcS (I := fun Dl i L' T' => L' = (Dl, .lst ((w.cps.toList.take i).map fun c => V.bl (inS ⟨#[c]⟩ LETS))) :: L ∧ T' = T) (fun Dl => ⟨rfl, rfl⟩) (fun Dl i c L' T' hc hI => ?_) (fun Dl L' T' hI => ?_)
      · obtain ⟨rfl, rfl⟩ := hI
        have hi : i < w.cps.size := (Array.getElem?_eq_some_iff.mp hc).1
        fail "go"
        refine wv_lcE .here (by rw [List.length_map, List.length_take]; exact Nat.lt_of_le_of_lt (Nat.min_le_left _ _) (Nat.lt_of_lt_of_le hi hw)) (.done .refl) .refl ⟨?_, rfl⟩
        rw [take_one (by simpa using hc), List.map_append]; rfl
      · obtain ⟨rfl, rfl⟩ := hI
        fail "go"
        refine wc_all (bs := w.cps.toList.map fun c => inS ⟨#[c]⟩ LETS) (by rw [List.map_map, List.take_of_length_le (by simp)]; exact List.mem_cons_self) ?_
        refine wv_end (.done (.drop .refl)) .refl ?_
        have e : holderB (.str w) = (w.cps.toList.map fun c => inS ⟨#[c]⟩ LETS).all id := by
          simp only [holderB]
          rw [decide_eq_true (by omega), decide_eq_true (by omega)]; rfl
        rw [e] at q; exact q
  | _ => fail "go" <;> exact q
theorem u_is_holder {K : PySem.W.Frag} {cs : Cs} {L : Led} {T : Tps} {k : VK} {E : XK} {x : V} {n : Tn} (h : TyL L T x n) (hl : ∀ w, x = .str w → w.length ≤ sizeLine) (q : WV L T k (.bl (holderB x))) : WSp L T (toSp (sp_is_holder K cs)) [x] k E := wsp ⟨x, n, rfl, h, hl, q⟩
local macro_rules | `(tactic| fail "u") => `(tactic| with_reducible (apply u_is_holder; fail "ty"; assumption))
abbrev s_Let_init : Stmt := inClass (top 17) 0
abbrev N_Let_init : List Str := ["self", "holder", "lease"]
theorem sc_Let_init : FnScope N_Let_init ["self", "holder", "lease"] (defScope s_Let_init) := ⟨rfl, rfl, rfl, by decide +kernel, rfl, by decide +kernel, by decide +kernel⟩
def sp_Let_init (K : PySem.W.Frag) (cs : Cs) : SpL := fun vs L T Q _ => ∃ p dx t L0 w h b u, vs = [.ref p, .str w, .ref t] ∧ L = (p, .ins cs.Let dx []) :: L0 ∧ (t, [V.int h, .int b, .int u]) ∈ T ∧ Q .non (letE cs ⟨p, dx, t, w, h, b, u, u, false⟩ :: L0) T
theorem ok_Let_init {P : Program} {w : World} {K : PySem.W.Frag} {mg : Str → Option Value} {base : Heap} {cs : Cs} {f : Addr} {fd : FuncData}
    (F : FunD K "__init__" "Let.__init__" (defArgs s_Let_init) (defBody s_Let_init) (defScope s_Let_init) [] [] f fd)
    (at_Let : At_Let K cs)
    : FnOk P w K mg base (L2.CX P w) 1 f fd ["self", "holder", "lease"] (toSp (sp_Let_init K cs)) := by
  refine F.ok (k := 0) sc_Let_init (fun vs H Q E h => ?_) (fun cdv A outer s H vs Q E hr h => ?_)
  · obtain ⟨L, T, hs, h⟩ := h
    unfold sp_Let_init at h
    repeat (obtain ⟨_, h⟩ := h)
    subst_vars
    rfl
  have hu := hu_of hr
  obtain ⟨cl_Let, na_Let_holder, na_Let_lease, na_Let_end, na_Let_is_cut⟩ := at_Let
  obtain ⟨L, T, hs, h⟩ := h
  unfold sp_Let_init at h
  obtain ⟨p, dx, t, L0, w, h, b, u, rfl, rfl, ht, q⟩ := h
  refine ⟨_, (pss_cons (ps_fld (pv 0) (pv 1) rfl)
      (pss_cons (ps_fld (pv 0) (pv 2) rfl)
      (pss_cons (ps_fld (pv 0) (pe_ix ix_seq (pv 2) pe_int (fun _ _ => rfl)) rfl)
      (pss_one (ps_fld (pv 0) pe_bl rfl))))), ok_go [some _, some _, some _] rfl hs ?_⟩
  clear hs
  fail "go"
  exact wv_end (by fail "sb") (by fail "ts") q
theorem u_Let_init {K : PySem.W.Frag} {cs : Cs} {L : Led} {T : Tps} {k : VK} {E : XK} {p dx t : Addr} {w : Str} {h b u : Int} (ht : (t, [V.int h, .int b, .int u]) ∈ T) (q : WV (letE cs ⟨p, dx, t, w, h, b, u, u, false⟩ :: L) T k .non) :
    WSp ((p, .ins cs.Let dx []) :: L) T (toSp (sp_Let_init K cs)) [.ref p, .str w, .ref t] k E := wsp ⟨p, dx, t, L, w, h, b, u, rfl, rfl, ht, q⟩
local macro_rules | `(tactic| fail "u") => `(tactic| with_reducible (apply u_Let_init; fail "lk"))
abbrev s_Let_overlaps : Stmt := inClass (top 17) 2
abbrev N_Let_overlaps : List Str := ["self", "first", "end"]
theorem sc_Let_overlaps : FnScope N_Let_overlaps ["self", "first", "end"] (defScope s_Let_overlaps) := ⟨rfl, rfl, rfl, by decide +kernel, rfl, by decide +kernel, by decide +kernel⟩
def sp_Let_overlaps (K : PySem.W.Frag) (cs : Cs) : SpL := fun vs L T Q _ => ∃ (l : LetR) (f e : Int), vs = [.ref l.p, .int f, .int e] ∧ letE cs l ∈ L ∧ (l.t, [V.int l.h, .int l.b, .int l.u]) ∈ T ∧ Q (.bl (decide (max f l.b < min e l.e))) L T
theorem ok_Let_overlaps {P : Program} {w : World} {K : PySem.W.Frag} {mg : Str → Option Value} {base : Heap} {cs : Cs} {f : Addr} {fd : FuncData}
    (F : FunD K "overlaps" "Let.overlaps" (defArgs s_Let_overlaps) (defBody s_Let_overlaps) (defScope s_Let_overlaps) [] [] f fd)
    (n_max : mg "max" = none)
    (n_min : mg "min" = none)
    (at_Let : At_Let K cs)
    : FnOk P w K mg base (L2.CX P w) 1 f fd ["self", "first", "end"] (toSp (sp_Let_overlaps K cs)) := by
  refine F.ok (k := 0) sc_Let_overlaps (fun vs H Q E h => ?_) (fun cdv A outer s H vs Q E hr h => ?_)
  · obtain ⟨L, T, hs, h⟩ := h
    unfold sp_Let_overlaps at h
    repeat (obtain ⟨_, h⟩ := h)
    subst_vars
    rfl
  have hu := hu_of hr
  obtain ⟨cl_Let, na_Let_holder, na_Let_lease, na_Let_end, na_Let_is_cut⟩ := at_Let
  obtain ⟨L, T, hs, h⟩ := h
  unfold sp_Let_overlaps at h
  obtain ⟨l, f, e, rfl, hl, ht, q⟩ := h
  refine ⟨_, (pss_one (ps_ret (pe_cmpR op_lt (pe_callB (call_max2 rfl) (by rfl) n_max (by decide +kernel) (pa_cons (pv 1) (pa_cons (pe_ix ix_seq (pe_fld (pv 0) rfl) pe_int (fun _ _ => rfl)) pa_nil))) (pe_callB (call_min2 rfl) (by rfl) n_min (by decide +kernel) (pa_cons (pv 2) (pa_cons (pe_fld (pv 0) rfl) pa_nil))) (nomark _)))), ok_go [some _, some _, some _] rfl hs ?_⟩
  clear hs
  fail "go"
  exact q
theorem u_Let_overlaps {K : PySem.W.Frag} {cs : Cs} {L : Led} {T : Tps} {k : VK} {E : XK} {l : LetR} {f e : Int} (hl : letE cs l ∈ L) (ht : (l.t, [V.int l.h, .int l.b, .int l.u]) ∈ T) (q : WV L T k (.bl (decide (max f l.b < min e l.e)))) :
    WSp L T (toSp (sp_Let_overlaps K cs)) [.ref l.p, .int f, .int e] k E := wsp ⟨l, f, e, rfl, hl, ht, q⟩
abbrev s_Common_init : Stmt := inClass (top 18) 0
abbrev N_Common_init : List Str := ["self", "shape"]
theorem sc_Common_init : FnScope N_Common_init ["self", "shape"] (defScope s_Common_init) := ⟨rfl, rfl, rfl, by decide +kernel, rfl, by decide +kernel, by decide +kernel⟩
def sp_Common_init (K : PySem.W.Frag) (cs : Cs) : SpL := fun vs L T Q _ => ∃ p dx sh L0, vs = [.ref p, .ref sh] ∧ L = (p, .ins cs.Common dx []) :: L0 ∧ ∀ lp, Q .non (comL cs ⟨p, dx, lp, sh⟩ [] L0) T
theorem ok_Common_init {P : Program} {w : World} {K : PySem.W.Frag} {mg : Str → Option Value} {base : Heap} {cs : Cs} {f : Addr} {fd : FuncData}
    (F : FunD K "__init__" "Common.__init__" (defArgs s_Common_init) (defBody s_Common_init) (defScope s_Common_init) [] [] f fd)
    (at_Common : At_Common K cs)
    : FnOk P w K mg base (L2.CX P w) 1 f fd ["self", "shape"] (toSp (sp_Common_init K cs)) := by
  refine F.ok (k := 0) sc_Common_init (fun vs H Q E h => ?_) (fun cdv A outer s H vs Q E hr h => ?_)
  · obtain ⟨L, T, hs, h⟩ := h
    unfold sp_Common_init at h
    repeat (obtain ⟨_, h⟩ := h)
    subst_vars
    rfl
  have hu := hu_of hr
  obtain ⟨cl_Common, na_Common_shape, na_Common_lets⟩ := at_Common
  obtain ⟨L, T, hs, h⟩ := h
  unfold sp_Common_init at h
  obtain ⟨p, dx, sh, L0, rfl, rfl, q⟩ := h
  refine ⟨_, (pss_cons (ps_fld (pv 0) (pv 1) rfl)
      (pss_one (ps_fld (pv 0) (pe_lst pa_nil) rfl))), ok_go [some _, some _] rfl hs ?_⟩
  clear hs
  fail "go"
  exact wv_end (.take (.there .here) (.take .here (.done .refl))) .refl (q _)
theorem u_Common_init {K : PySem.W.Frag} {cs : Cs} {L : Led} {T : Tps} {k : VK} {E : XK} {p dx sh : Addr} (q : ∀ lp, WV (comL cs ⟨p, dx, lp, sh⟩ [] L) T k .non) :
    WSp ((p, .ins cs.Common dx []) :: L) T (toSp (sp_Common_init K cs)) [.ref p, .ref sh] k E := wsp ⟨p, dx, sh, L, rfl, rfl, q⟩

/-! ### where a stretch is free -/
def liveB (h : Int) (l : LetR) : Bool := decide (l.h = h) && decide (l.b < l.e)
abbrev prT (q : Addr × Int × Int) : Addr × List V := (q.1, [V.int q.2.1, V.int q.2.2])
abbrev s_Common_ends_of : Stmt := inClass (top 18) 2
abbrev N_Common_ends_of : List Str := ["self", "house", "some", "one"]
theorem sc_Common_ends_of : FnScope N_Common_ends_of ["self", "house"] (defScope s_Common_ends_of) := ⟨rfl, rfl, rfl, by decide +kernel, rfl, by decide +kernel, by decide +kernel⟩
def sp_Common_ends_of (K : PySem.W.Frag) (cs : Cs) : SpL := fun vs L T Q _ => ∃ c ls F h, vs = [.ref c.P, .int h] ∧ Pk L (comP cs c ls) F ∧ LeT T ls ∧ ls.length < sizeLine ∧ ∀ p (prs : List (Addr × Int × Int)) T', Ts T' T → (∀ q ∈ prs, prT q ∈ T') →
  prs.Pairwise (fun a b => a.2.1 ≤ b.2.1) → (∀ x, (∃ q ∈ prs, q.2 = x) ↔ ∃ l ∈ ls, liveB h l = true ∧ x = (l.b, l.e)) → Q (.ref p) ((p, .lst (prs.map fun q => V.ref q.1)) :: comL cs c ls F) T'
theorem ok_Common_ends_of {P : Program} {w : World} {K : PySem.W.Frag} {mg : Str → Option Value} {base : Heap} {cs : Cs} {f : Addr} {fd : FuncData}
    (F : FunD K "ends_of" "Common.ends_of" (defArgs s_Common_ends_of) (defBody s_Common_ends_of) (defScope s_Common_ends_of) [] [] f fd)
    (n_sorted : mg "sorted" = none)
    (at_Common : At_Common K cs)
    (at_Let : At_Let K cs)
    : FnOk P w K mg base (L2.CX P w) 1 f fd ["self", "house"] (toSp (sp_Common_ends_of K cs)) := by
  refine F.ok (k := 0) sc_Common_ends_of (fun vs H Q E h => ?_) (fun cdv A outer s H vs Q E hr h => ?_)
  · obtain ⟨L, T, hs, h⟩ := h
    unfold sp_Common_ends_of at h
    repeat (obtain ⟨_, h⟩ := h)
    subst_vars
    rfl
  have hu := hu_of hr
  obtain ⟨cl_Common, na_Common_shape, na_Common_lets⟩ := at_Common
  obtain ⟨cl_Let, na_Let_holder, na_Let_lease, na_Let_end, na_Let_is_cut⟩ := at_Let
  obtain ⟨L, T, hs, h⟩ := h
  unfold sp_Common_ends_of at h
  obtain ⟨c, ls, F, h, rfl, hp, ht, hlen, q⟩ := h
  refine ⟨_, (pss_cons (ps_setLc (i := 2) (own := [("one", 3)]) (g := gName 3) rfl sc_Common_ends_of.nd rfl rfl (sw_true rfl rfl rfl (by decide +kernel)) (pi_list (pe_fld (pv 0) rfl)) (blkOk_by (own := [("one", 3)]) (N := N_Common_ends_of) (sc := defScope s_Common_ends_of) (by decide +kernel)) (fun _ _ _ _ _ => by exact Lg.pg_te (pg_name (i := 3) sc_Common_ends_of.nd rfl (Or.inl rfl)) (by fail "te")) (fun _ _ _ _ _ => by exact Lg.pts_te (pts_one (PW.pt (pw_and (pt_cmpR op_eq (pe_ix ix_seq (pe_fld (pv 3) rfl) pe_int (fun _ _ => rfl)) (pv 1) (nomark _)) (pw_and1 (pt_cmpR op_lt (pe_ix ix_seq (pe_fld (pv 3) rfl) pe_int (fun _ _ => rfl)) (pe_fld (pv 3) rfl) (nomark _)))))) (by fail "te")) (fun _ _ _ _ _ => by exact Lg.pe_te (pe_tup (pa_cons (pe_ix ix_seq (pe_fld (pv 3) rfl) pe_int (fun _ _ => rfl)) (pa_cons (pe_fld (pv 3) rfl) pa_nil))) (by fail "te")))
      (pss_one (ps_ret (pe_callB cr_sortedPO (by rfl) n_sorted (by decide +kernel) (pa_cons (pv 2) pa_nil))))), ok_go [some _, some _, none, none] rfl hs ?_⟩
  clear hs
  refine ws_pk hp ?_
  clear hp
  simp only [List.cons_append, List.append_nil, List.append_assoc]
  fail "go"
  refine wj_lcL (xs := ls.map fun l => V.ref l.p) (I := fun Dl i L' T' => ∃ prs : List (Addr × Int × Int), L' = (Dl, .lst (prs.map fun q => V.ref q.1)) :: comL cs c ls F ∧ Ts T' T ∧ (∀ q ∈ prs, prT q ∈ T') ∧ prs.length ≤ i ∧ prs.map (·.2) = ((ls.take i).filter (liveB h)).map (fun l => (l.b, l.e)))
    (fun Dl => ⟨[], rfl, .refl, (fun _ z => nomatch z), Nat.le_refl _, rfl⟩) (fun Dl i L' T' ⟨prs, hL, _⟩ => by subst hL; exact IsL.of (by fail "lk")) (fun Dl i x L' T' hx hI => ?_) (fun Dl L' T' hI => ?_)
  · obtain ⟨prs, hL, hT, hP, hn, hm⟩ := hI
    subst hL
    rw [List.getElem?_map] at hx
    obtain ⟨l, hl, rfl⟩ := Option.map_eq_some_iff.mp hx
    have hmem : l ∈ ls := List.mem_of_getElem? hl
    have hm1 : (l.p, letO cs l) ∈ ls.map (letE cs) := List.mem_map_of_mem hmem
    have hm2 := hT _ (ht l hmem)
    have hi : i < ls.length := (List.getElem?_eq_some_iff.mp hl).1
    have hf : liveB h l = false → (ls.take (i + 1)).filter (liveB h) = (ls.take i).filter (liveB h) := fun z => by
      rw [take_one hl, List.filter_append]; simp [z]
    have ht' : liveB h l = true → (ls.take (i + 1)).filter (liveB h) = (ls.take i).filter (liveB h) ++ [l] := fun z => by
      rw [take_one hl, List.filter_append]; simp [z]
    fail "go"
    · refine wv_lcE .here (by rw [List.length_map]; omega) (.done .refl) .refl ?_
      refine ⟨prs ++ [(_, l.b, l.e)], by rw [List.map_append]; rfl, hT.cons, fun q hq => ?_, by rw [List.length_append]; simp; omega, ?_⟩
      · rcases List.mem_append.mp hq with z | z
        · exact List.mem_cons_of_mem _ (hP q z)
        · rw [List.mem_singleton.mp z]; exact List.mem_cons_self
      · rw [ht' (by simp [liveB, *]), List.map_append, List.map_append, hm]; rfl
    · refine wb_lcF (.done .refl) .refl ⟨prs, rfl, hT, hP, by omega, ?_⟩
      rw [hf (by simp [liveB, *]), hm]
    · refine wb_lcF (.done .refl) .refl ⟨prs, rfl, hT, hP, by omega, ?_⟩
      rw [hf (by simp [liveB, *]), hm]
  · obtain ⟨prs, hL, hT, hP, hn, hm⟩ := hI
    subst hL
    fail "go"
    refine wc_sortQ List.mem_cons_self hP fun p prs' hs hmm => ?_
    refine wv_end (.take .here (.done (.drop .refl))) .refl (q p prs' T' hT (fun z hz => hP z ((hmm z).mp hz)) hs fun x => ⟨fun ⟨z, hz, e⟩ => ?_, fun ⟨l, hl, h1, h2⟩ => ?_⟩)
    · have h1 : x ∈ prs.map (·.2) := List.mem_map.mpr ⟨z, (hmm z).mp hz, e⟩
      rw [hm, List.length_map, List.take_of_length_le (Nat.le_refl _)] at h1
      obtain ⟨l, hl, h2⟩ := List.mem_map.mp h1
      obtain ⟨h3, h4⟩ := List.mem_filter.mp hl
      exact ⟨l, h3, h4, h2.symm⟩
    · have h3 : x ∈ ((ls.take (ls.map fun l => V.ref l.p).length).filter (liveB h)).map (fun l => (l.b, l.e)) := by
        rw [List.length_map, List.take_of_length_le (Nat.le_refl _)]
        exact List.mem_map.mpr ⟨l, List.mem_filter.mpr ⟨hl, h1⟩, h2.symm⟩
      rw [← hm] at h3
      obtain ⟨z, hz, e⟩ := List.mem_map.mp h3
      exact ⟨z, (hmm z).mpr hz, e⟩
theorem u_Common_ends_of {K : PySem.W.Frag} {cs : Cs} {L : Led} {T : Tps} {k : VK} {E : XK} {c : ComR} {ls : List LetR} {F : Led} {h : Int} (hp : Pk L (comP cs c ls) F) (ht : LeT T ls) (hlen : ls.length < sizeLine)
    (q : ∀ p (prs : List (Addr × Int × Int)) T', Ts T' T → (∀ q ∈ prs, prT q ∈ T') → prs.Pairwise (fun a b => a.2.1 ≤ b.2.1) → (∀ x, (∃ q ∈ prs, q.2 = x) ↔ ∃ l ∈ ls, liveB h l = true ∧ x = (l.b, l.e)) →
      WV ((p, .lst (prs.map fun q => V.ref q.1)) :: comL cs c ls F) T' k (.ref p)) : WSp L T (toSp (sp_Common_ends_of K cs)) [.ref c.P, .int h] k E := wsp ⟨c, ls, F, h, rfl, hp, ht, hlen, q⟩
theorem first_step {ls : List LetR} {h m n b f e : Int} (hfe : f < e) (hl : ∃ l ∈ ls, liveB h l = true ∧ (f, e) = (l.b, l.e)) (c1 : f < b + n) (hb : ∀ b', m ≤ b' → b' < b → Lap ls h b' n) : ∀ b', m ≤ b' → b' < e → Lap ls h b' n := fun b' h1 h2 => by
  obtain ⟨l, hm, hv, e1⟩ := hl
  simp only [liveB, Bool.and_eq_true, decide_eq_true_eq] at hv
  obtain ⟨rfl, rfl⟩ := Prod.mk.inj e1
  by_cases z : b' < b
  · exact hb b' h1 z
  · exact ⟨l, hm, hv.1, hv.2, by omega, h2⟩
abbrev s_Common_free_begin : Stmt := inClass (top 18) 3
abbrev N_Common_free_begin : List Str := ["self", "house", "moment", "span", "begin", "first", "end"]
theorem sc_Common_free_begin : FnScope N_Common_free_begin ["self", "house", "moment", "span"] (defScope s_Common_free_begin) := ⟨rfl, rfl, rfl, by decide +kernel, rfl, by decide +kernel, by decide +kernel⟩
def sp_Common_free_begin (K : PySem.W.Frag) (cs : Cs) : SpL := fun vs L T Q _ => ∃ c ls F h m n, vs = [.ref c.P, .int h, .int m, .int n] ∧ Pk L (comP cs c ls) F ∧ LeT T ls ∧ ls.length < sizeLine ∧ ∀ b, FirstFree ls h m n b → Q (.int b) (comL cs c ls F) T
theorem ok_Common_free_begin {P : Program} {w : World} {K : PySem.W.Frag} {mg : Str → Option Value} {base : Heap} {cs : Cs} {f : Addr} {fd : FuncData}
    (F : FunD K "free_begin" "Common.free_begin" (defArgs s_Common_free_begin) (defBody s_Common_free_begin) (defScope s_Common_free_begin) [] [] f fd)
    (m_Common_ends_of : MtOk P w K mg base 1 cs.Common "ends_of" ["self", "house"] [] (toSp (sp_Common_ends_of K cs)))
    (at_Common : At_Common K cs)
    : FnOk P w K mg base (L2.CX P w) 2 f fd ["self", "house", "moment", "span"] (toSp (sp_Common_free_begin K cs)) := by
  refine F.ok (k := 1) sc_Common_free_begin (fun vs H Q E h => ?_) (fun cdv A outer s H vs Q E hr h => ?_)
  · obtain ⟨L, T, hs, h⟩ := h
    unfold sp_Common_free_begin at h
    repeat (obtain ⟨_, h⟩ := h)
    subst_vars
    rfl
  have hu := hu_of hr
  obtain ⟨cl_Common, na_Common_shape, na_Common_lets⟩ := at_Common
  obtain ⟨L, T, hs, h⟩ := h
  unfold sp_Common_free_begin at h
  obtain ⟨c, ls, F, h, m, n, rfl, hp, ht, hlen, q⟩ := h
  refine ⟨_, (pss_cons (ps_set (i := 4) sc_Common_free_begin.nd rfl (Or.inl rfl) (pv 2))
      (pss_cons (ps_for (passes_of rfl) rfl (pi_list (pe_mt m_Common_ends_of hr (tk_fn rfl rfl rfl rfl) (pv 0) (pa_cons (pv 1) pa_nil))) (pg_tup rfl (pgs_cons (pg_name (i := 5) sc_Common_free_begin.nd rfl (Or.inl rfl)) (pgs_cons (pg_name (i := 6) sc_Common_free_begin.nd rfl (Or.inl rfl)) pgs_nil)))
      (pss_one (ps_if (PW.pt (pw_and (pt_cmpR op_lt (pv 5) (pe_op op_add (pv 4) (pv 3)) (nomark _)) (pw_and1 (pt_cmpR op_lt (pv 4) (pv 6) (nomark _)))))
      (pss_one (ps_set (i := 4) sc_Common_free_begin.nd rfl (Or.inl rfl) (pv 6)))
      pss_nil)))
      (pss_one (ps_ret (pv 4))))), ok_go [some _, some _, some _, some _, none, none, none] rfl hs ?_⟩
  clear hs
  refine ws_pk hp ?_
  clear hp
  simp only [List.cons_append, List.append_nil, List.append_assoc]
  fail "go"
  refine u_Common_ends_of (c := c) (ls := ls) (F := F) (.cons .here (.cons .here (.chunk1 .here))) ht hlen fun p prs T' hT hP hs hx0 => ?_
  fail "go"
  refine wj_list (xs := prs.map fun q => V.ref q.1) (I := fun i σ L' T2 => ∃ b x y, σ = [some (.ref c.P), some (.int h), some (.int m), some (.int n), some (.int b), x, y] ∧ L' = (p, .lst (prs.map fun q => V.ref q.1)) :: comL cs c ls F ∧ T2 = T' ∧
    m ≤ b ∧ (∀ b', m ≤ b' → b' < b → Lap ls h b' n) ∧ ∀ j, j < i → ∀ q, prs[j]? = some q → b + n ≤ q.2.1 ∨ q.2.2 ≤ b)
    ⟨m, none, none, rfl, rfl, rfl, Int.le_refl _, fun b' h1 h2 => by omega, fun j hj => absurd hj (Nat.not_lt_zero _)⟩ (fun i σ L' T2 ⟨b, x, y, hI⟩ => by obtain ⟨_, rfl, _⟩ := hI; exact IsL.of List.mem_cons_self) (fun i x σ L' T2 hx hI => ?_) (fun σ L' T2 hI => ?_)
  · obtain ⟨b, s5, s6, rfl, rfl, rfl, hb, hlap, hj⟩ := hI
    rw [List.getElem?_map] at hx
    obtain ⟨⟨a, f, e⟩, hl, rfl⟩ := Option.map_eq_some_iff.mp hx
    have hmem := List.mem_of_getElem? hl
    have hm2 := hP _ hmem
    have hlet := (hx0 (f, e)).mp ⟨_, hmem, rfl⟩
    have hle : ∀ j, j < i → ∀ q, prs[j]? = some q → q.2.1 ≤ f := fun j hji q hq => by
      obtain ⟨h1, rfl⟩ := List.getElem?_eq_some_iff.mp hq
      obtain ⟨h2, e2⟩ := List.getElem?_eq_some_iff.mp hl
      have := List.pairwise_iff_getElem.mp hs j i h1 h2 hji
      rw [e2] at this
      exact this
    have hlt : f < e := by
      obtain ⟨l, _, hv, e1⟩ := hlet
      simp only [liveB, Bool.and_eq_true, decide_eq_true_eq] at hv
      obtain ⟨rfl, rfl⟩ := Prod.mk.inj e1
      exact hv.2
    fail "go"
    · rename_i c1 c2
      refine wn_nx (.done .refl) .refl ⟨e, _, _, rfl, rfl, rfl, by omega, first_step hlt hlet c1 hlap, fun j hji q hq => ?_⟩
      rcases Nat.lt_succ_iff_lt_or_eq.mp hji with z | rfl
      · have h1 := hj j z q hq
        have h2 := hle j z q hq
        omega
      · rw [hl] at hq; cases hq; exact .inr (Int.le_refl _)
    all_goals
      refine wn_nx (.done .refl) .refl ⟨b, _, _, rfl, rfl, rfl, hb, hlap, fun j hji q hq => ?_⟩
      rcases Nat.lt_succ_iff_lt_or_eq.mp hji with z | rfl
      · exact hj j z q hq
      · rw [hl] at hq; cases hq; show b + n ≤ f ∨ e ≤ b; omega
  · obtain ⟨b, s5, s6, rfl, rfl, rfl, hb, hlap, hj⟩ := hI
    fail "go"
    refine wv_end (.done (.drop .refl)) hT (q b ⟨hb, fun ⟨l, hm, h1, h2, h3, h4⟩ => ?_, hlap⟩)
    obtain ⟨z, hz, e1⟩ := (hx0 (l.b, l.e)).mpr ⟨l, hm, by simp [liveB, h1, h2], rfl⟩
    obtain ⟨j, hj1, hj2⟩ := List.getElem_of_mem hz
    have h5 := hj j (by rw [List.length_map]; exact hj1) z (by rw [List.getElem?_eq_getElem hj1, hj2])
    rw [e1] at h5
    simp only at h5
    omega
theorem u_Common_free_begin {K : PySem.W.Frag} {cs : Cs} {L : Led} {T : Tps} {k : VK} {E : XK} {c : ComR} {ls : List LetR} {F : Led} {h m n : Int} (hp : Pk L (comP cs c ls) F) (ht : LeT T ls) (hlen : ls.length < sizeLine)
    (q : ∀ b, FirstFree ls h m n b → WV (comL cs c ls F) T k (.int b)) : WSp L T (toSp (sp_Common_free_begin K cs)) [.ref c.P, .int h, .int m, .int n] k E := wsp ⟨c, ls, F, h, m, n, rfl, hp, ht, hlen, q⟩

theorem kI_inj {i j : Int} : (Sum.inl i : L2.Key) = Sum.inl j ↔ i = j := ⟨fun h => Sum.inl.inj h, fun h => by rw [h]⟩
/-- some house is not a key -/
theorem key_bound (kvs : List (L2.Key × V)) : ∃ B : Nat, ∀ i : Int, (valV kvs (.inl i)).isSome = true → i < B := by
  induction kvs with
  | nil => exact ⟨0, fun i h => by simp [valV_nil] at h⟩
  | cons p r ih =>
    obtain ⟨B, hB⟩ := ih
    obtain ⟨k, v⟩ := p
    cases k with
    | inl j =>
      refine ⟨B + j.natAbs + 1, fun i h => ?_⟩
      by_cases e : (Sum.inl j : L2.Key) = .inl i
      · have := Sum.inl.inj e; omega
      · rw [valV_neg (p := (Sum.inl j, v)) e] at h
        have := hB i h; omega
    | inr s => exact ⟨B, fun i h => hB i (by rwa [valV_neg (p := (Sum.inr s, v)) (k := .inl i) (by intro z; cases z)] at h)⟩
abbrev s_Common_free_house : Stmt := inClass (top 18) 4
abbrev N_Common_free_house : List Str := ["self", "moment", "span", "taken", "one", "house"]
theorem sc_Common_free_house : FnScope N_Common_free_house ["self", "moment", "span"] (defScope s_Common_free_house) := ⟨rfl, rfl, rfl, by decide +kernel, rfl, by decide +kernel, by decide +kernel⟩
def sp_Common_free_house (K : PySem.W.Frag) (cs : Cs) : SpL := fun vs L T Q _ => ∃ c ls F m n s, vs = [.ref c.P, .int m, .int n] ∧ Pk L (comP cs c ls) F ∧ LeT T ls ∧ ls.length < sizeLine ∧ s.p = c.sh ∧ shE cs s ∈ F ∧ 1 ≤ n ∧ ∀ h, LeastHouse ls m n h → Q (if h < s.h then .int h else .non) (comL cs c ls F) T
theorem ok_Common_free_house {P : Program} {w : World} {K : PySem.W.Frag} {mg : Str → Option Value} {base : Heap} {cs : Cs} {f : Addr} {fd : FuncData}
    (F : FunD K "free_house" "Common.free_house" (defArgs s_Common_free_house) (defBody s_Common_free_house) (defScope s_Common_free_house) [] [] f fd)
    (m_Let_overlaps : MtOk P w K mg base 1 cs.Let "overlaps" ["self", "first", "end"] [] (toSp (sp_Let_overlaps K cs)))
    (at_Common : At_Common K cs)
    (at_Let : At_Let K cs)
    (at_Shape : At_Shape K cs)
    : FnOk P w K mg base (L2.CX P w) 2 f fd ["self", "moment", "span"] (toSp (sp_Common_free_house K cs)) := by
  refine F.ok (k := 1) sc_Common_free_house (fun vs H Q E h => ?_) (fun cdv A outer s H vs Q E hr h => ?_)
  · obtain ⟨L, T, hs, h⟩ := h
    unfold sp_Common_free_house at h
    repeat (obtain ⟨_, h⟩ := h)
    subst_vars
    rfl
  have hu := hu_of hr
  obtain ⟨cl_Common, na_Common_shape, na_Common_lets⟩ := at_Common
  obtain ⟨cl_Let, na_Let_holder, na_Let_lease, na_Let_end, na_Let_is_cut⟩ := at_Let
  obtain ⟨cl_Shape, na_Shape_moments, na_Shape_houses, na_Shape_counts⟩ := at_Shape
  obtain ⟨L, T, hs, h⟩ := h
  unfold sp_Common_free_house at h
  obtain ⟨c, ls, F, m, n, ⟨sp, sdx, sm, sh, sk⟩, rfl, hp, ht, hlen, hsp, hsh, hn, q⟩ := h
  obtain rfl : sp = c.sh := hsp
  refine ⟨_, (pss_cons (ps_set (i := 3) sc_Common_free_house.nd rfl (Or.inl rfl) pe_dnewK)
      (pss_cons (ps_for (passes_of rfl) rfl (pi_list (pe_fld (pv 0) rfl)) (pg_name (i := 4) sc_Common_free_house.nd rfl (Or.inl rfl))
      (pss_one (ps_if (pt_val (pe_mt m_Let_overlaps hr (tk_fn rfl rfl rfl rfl) (pv 4) (pa_cons (pv 1) (pa_cons (pe_op op_add (pv 1) (pv 2)) pa_nil))))
      (pss_one (ps_dput hu (pv 3) (pe_ix ix_seq (pe_fld (pv 4) rfl) pe_int (fun _ _ => rfl)) pe_bl rfl))
      pss_nil)))
      (pss_cons (ps_set (i := 5) sc_Common_free_house.nd rfl (Or.inl rfl) pe_int)
      (pss_cons (ps_while (passes_of rfl) (pt_cmp (pc_din hu (pv 5) (pv 3)))
      (pss_one (ps_set (i := 5) sc_Common_free_house.nd rfl (Or.inl rfl) (pe_op op_add (pv 5) pe_int))))
      (pss_cons (ps_if (pt_cmpR op_lt (pv 5) (pe_fld (pe_fld (pv 0) rfl) rfl) (nomark _))
      (pss_one (ps_ret (pv 5)))
      pss_nil)
      (pss_one (ps_ret pe_non))))))), ok_go [some _, some _, some _, none, none, none] rfl hs ?_⟩
  clear hs
  refine ws_pk hp ?_
  clear hp
  simp only [List.cons_append, List.append_nil, List.append_assoc]
  fail "go"
  rename_i d
  have hlap : ∀ i l, ls[i]? = some l → ∀ k, Lap (ls.take (i + 1)) k m n ↔ (Lap (ls.take i) k m n ∨ (l.h = k ∧ max m l.b < min (m + n) l.e)) := fun i l hl k => by
    rw [take_one hl]
    refine ⟨fun ⟨l', h1, h2, h3, h4, h5⟩ => ?_, fun h => h.elim (fun ⟨l', h1, h2⟩ => ⟨l', List.mem_append_left _ h1, h2⟩) (fun ⟨h1, h2⟩ => ⟨l, List.mem_append_right _ List.mem_cons_self, h1, by omega, by omega, by omega⟩)⟩
    rcases List.mem_append.mp h1 with z | z
    · exact .inl ⟨l', z, h2, h3, h4, h5⟩
    · rw [List.mem_singleton.mp z] at h2 h3 h4 h5
      exact .inr ⟨h2, by omega⟩
  refine wj_list (xs := ls.map fun l => V.ref l.p) (I := fun i σ L' T' => ∃ (kvs : List (L2.Key × V)) (x y : Option V), σ = [some (.ref c.P), some (.int m), some (.int n), some (.ref d), x, y] ∧ L' = (d, .dK kvs) :: comL cs c ls F ∧ T' = T ∧ kvs.length ≤ i ∧
    ∀ k, (valV kvs (.inl k)).isSome = true ↔ Lap (ls.take i) k m n)
    ⟨[], none, none, rfl, rfl, rfl, Nat.le_refl _, fun k => ⟨fun h => by simp [valV_nil] at h, fun ⟨l, h1, _⟩ => by simp at h1⟩⟩ (fun i σ L' T' ⟨kvs, x, y, hI⟩ => by obtain ⟨_, rfl, _⟩ := hI; exact IsL.of (by fail "lk")) (fun i x σ L' T' hx hI => ?_) (fun σ L' T' hI => ?_)
  · obtain ⟨kvs, s4, s5, rfl, rfl, rfl, hlen2, hk⟩ := hI
    rw [List.getElem?_map] at hx
    obtain ⟨l, hl, rfl⟩ := Option.map_eq_some_iff.mp hx
    have hmem : l ∈ ls := List.mem_of_getElem? hl
    have hm1 : (l.p, letO cs l) ∈ ls.map (letE cs) := List.mem_map_of_mem hmem
    have hm2 := ht l hmem
    have hi : i < ls.length := (List.getElem?_eq_some_iff.mp hl).1
    fail "go"
    refine u_Let_overlaps (l := l) (by fail "lk") hm2 ?_
    fail "go"
    · rename_i h1
      refine wv_dputK (ky := .inl l.h) .here rfl (by omega) ?_
      refine wn_nx (.done .refl) .refl ⟨_, _, _, rfl, rfl, rfl, Nat.le_trans (length_putK _ _ _) (by omega), fun k => ?_⟩
      rw [valV_put, hlap i l hl]
      by_cases e : k = l.h
      · subst e; simp [h1]
      · rw [if_neg (fun z => e (kI_inj.mp z)), hk]
        exact ⟨.inl, fun h => h.elim id (fun ⟨h2, _⟩ => absurd h2.symm e)⟩
    · rename_i h1
      refine wn_nx (.done .refl) .refl ⟨_, _, _, rfl, rfl, rfl, by omega, fun k => ?_⟩
      rw [hk, hlap i l hl]
      exact ⟨.inl, fun h => h.elim id (fun ⟨_, h2⟩ => absurd h2 h1)⟩
  · obtain ⟨kvs, s4, s5, rfl, rfl, rfl, hlen2, hk⟩ := hI
    rw [List.length_map, List.take_of_length_le (Nat.le_refl _)] at hk
    obtain ⟨B, hB⟩ := key_bound kvs
    fail "go"
    refine ws_while (I := fun v σ L2 T2 => ∃ h : Int, σ = [some (.ref c.P), some (.int m), some (.int n), some (.ref d), s4, some (.int h)] ∧ L2 = (d, .dK kvs) :: comL cs c ls F ∧ T2 = T' ∧ 0 ≤ h ∧ (∀ j, 0 ≤ j → j < h → Lap ls j m n) ∧ (v : Int) = B + 1 - h) (B + 1)
      ⟨0, rfl, rfl, rfl, Int.le_refl _, fun j h1 h2 => by omega, by omega⟩ (fun v σ L' T' hI => ?_)
    obtain ⟨h, rfl, rfl, rfl, h0, hj, hv⟩ := hI
    fail "go"
    rw [if_neg Bool.false_ne_true]
    cases hz : (valV kvs (.inl h)).isSome with
    | true =>
      have h1 := (hk h).mp hz
      have h2 := hB h hz
      refine wb_wh (fun _ => ?_) (fun z => nomatch z)
      fail "go"
      exact wn_nx (.done .refl) .refl ⟨v - 1, by omega, h + 1, rfl, rfl, rfl, by omega, fun j j1 j2 => by
        by_cases e : j = h
        · rw [e]; exact h1
        · exact hj j j1 (by omega), by omega⟩
    | false =>
      have h1 : LeastHouse ls m n h := ⟨h0, (fun z => by rw [(hk h).mpr z] at hz; exact absurd hz (by decide)), hj⟩
      have q1 := q h h1
      refine wb_wh (fun z => nomatch z) (fun _ => ?_)
      fail "go"
      · rename_i h2
        simp only [if_pos h2] at q1
        exact wv_end (.done (.drop .refl)) .refl q1
      · rename_i h2
        simp only [if_neg h2] at q1
        exact wv_end (.done (.drop .refl)) .refl q1
theorem u_Common_free_house {K : PySem.W.Frag} {cs : Cs} {L : Led} {T : Tps} {k : VK} {E : XK} {c : ComR} {ls : List LetR} {F : Led} {m n : Int} {s : ShR} (hp : Pk L (comP cs c ls) F) (ht : LeT T ls) (hlen : ls.length < sizeLine) (hs : s.p = c.sh) (hm : shE cs s ∈ F) (hn : 1 ≤ n)
    (q : ∀ h, LeastHouse ls m n h → WV (comL cs c ls F) T k (if h < s.h then .int h else .non)) : WSp L T (toSp (sp_Common_free_house K cs)) [.ref c.P, .int m, .int n] k E := wsp ⟨c, ls, F, m, n, s, rfl, hp, ht, hlen, hs, hm, hn, q⟩

/-- the stretch that is let: its house and its begin -/
def Stretch (ls : List LetR) (house : V) (i n h b : Int) : Prop := (house = .int h ∧ FirstFree ls h (max 0 i) n b) ∨ (house = .non ∧ b = max 0 i ∧ LeastHouse ls b n h)
def Fits (s : ShR) (house : V) (n h b : Int) : Prop := b + n ≤ s.m ∧ (house = .non → h < s.h)
def houseB (s : ShR) : V → Bool
  | .non => true
  | v => belowB v s.h
theorem wv_comadd {cs : Cs} {c : ComR} {ls : List LetR} {F : Led} {T : Tps} {k : VK} {v : V} {l : LetR} (q : WV (comL cs c (ls ++ [l]) F) T k v) :
    WV (letE cs l :: comE cs c :: (c.lp, .lst (ls.map (fun l => V.ref l.p) ++ [V.ref l.p])) :: (ls.map (letE cs) ++ F)) T k v := fun H hs => q H (hs.perm (by
  simp only [comL, List.map_append, List.map_cons, List.map_nil, List.append_assoc]
  refine (List.Perm.swap _ _ _).trans (.cons _ ((List.Perm.swap _ _ _).trans (.cons _ ?_)))
  exact (List.perm_middle (a := letE cs l) (l₁ := ls.map (letE cs)) (l₂ := F)).symm))
abbrev s_Common_let : Stmt := inClass (top 18) 1
abbrev N_Common_let : List Str := ["self", "holder", "house", "moment", "span", "begin", "lease"]
theorem sc_Common_let : FnScope N_Common_let ["self", "holder", "house", "moment", "span"] (defScope s_Common_let) := ⟨rfl, rfl, rfl, by decide +kernel, rfl, by decide +kernel, by decide +kernel⟩
def sp_Common_let (K : PySem.W.Frag) (cs : Cs) : SpL := fun vs L T Q E => ∃ c ls F who n1 house n2 mo n3 sp n4 s, vs = [.ref c.P, who, house, mo, sp] ∧ Pk L (comP cs c ls) F ∧ LeT T ls ∧ ls.length < 1000000 ∧ s.p = c.sh ∧ shE cs s ∈ F ∧
  TyL F T who n1 ∧ (∀ w, who = .str w → w.length ≤ sizeLine) ∧ TyL F T house n2 ∧ TyL F T mo n3 ∧ TyL F T sp n4 ∧
  (holderB who = false → E (.ref cs.NoHolder) none (comL cs c ls F) T) ∧ (holderB who = true → houseB s house = false → E (.ref cs.NoName) none (comL cs c ls F) T) ∧
  (holderB who = true → houseB s house = true → wholeB mo = false ∨ posB sp = false → E (.ref cs.NoTime) none (comL cs c ls F) T) ∧
  (holderB who = true → houseB s house = true → ∀ i n h b w, mo = .int i → sp = .int n → 1 ≤ n → who = .str w → Stretch ls house i n h b →
    (¬ Fits s house n h b → E (.ref cs.Ended) none (comL cs c ls F) T) ∧
    (Fits s house n h b → ∀ p dx t T', Ts T' T → (t, [V.int h, .int b, .int (b + n)]) ∈ T' → Q (.ref t) (comL cs c (ls ++ [⟨p, dx, t, w, h, b, b + n, b + n, false⟩]) F) T'))
theorem ok_Common_let {P : Program} {w : World} {K : PySem.W.Frag} {mg : Str → Option Value} {base : Heap} {cs : Cs} {f : Addr} {fd : FuncData}
    (F : FunD K "let" "Common.let" (defArgs s_Common_let) (defBody s_Common_let) (defScope s_Common_let) [] [] f fd)
    (h_is_holder : FdOk P w K mg base 1 "is_holder" ["thing"] [] (toSp (sp_is_holder K cs)))
    (ex_NoHolder : ExOk K mg "NoHolder" cs.NoHolder)
    (h_is_below : FdOk P w K mg base 2 "is_below" ["thing", "most"] [] (toSp (sp_is_below K cs)))
    (ex_NoName : ExOk K mg "NoName" cs.NoName)
    (h_is_whole : FdOk P w K mg base 1 "is_whole" ["thing"] [] (toSp (sp_is_whole K cs)))
    (ex_NoTime : ExOk K mg "NoTime" cs.NoTime)
    (n_max : mg "max" = none)
    (m_Common_free_house : MtOk P w K mg base 2 cs.Common "free_house" ["self", "moment", "span"] [] (toSp (sp_Common_free_house K cs)))
    (m_Common_free_begin : MtOk P w K mg base 2 cs.Common "free_begin" ["self", "house", "moment", "span"] [] (toSp (sp_Common_free_begin K cs)))
    (ex_Ended : ExOk K mg "Ended" cs.Ended)
    (mk_Let : MkOk P w K mg base 1 "Let" cs.Let ["self", "holder", "lease"] [] (toSp (sp_Let_init K cs)))
    (at_Common : At_Common K cs)
    (at_Shape : At_Shape K cs)
    : FnOk P w K mg base (L2.CX P w) 3 f fd ["self", "holder", "house", "moment", "span"] (toSp (sp_Common_let K cs)) := by
  refine F.ok (k := 2) sc_Common_let (fun vs H Q E h => ?_) (fun cdv A outer s H vs Q E hr h => ?_)
  · obtain ⟨L, T, hs, h⟩ := h
    unfold sp_Common_let at h
    repeat (obtain ⟨_, h⟩ := h)
    subst_vars
    rfl
  have hu := hu_of hr
  obtain ⟨cl_Common, na_Common_shape, na_Common_lets⟩ := at_Common
  obtain ⟨cl_Shape, na_Shape_moments, na_Shape_houses, na_Shape_counts⟩ := at_Shape
  obtain ⟨L, T, hs, h⟩ := h
  unfold sp_Common_let at h
  obtain ⟨c, ls, F, who, n1, house, n2, mo, n3, sp, n4, ⟨sp', sdx, sm, sh, sk⟩, rfl, hp, ht, hlen, hsp, hsh, t1, hw, t2, t3, t4, qh, qn, qt, q⟩ := h
  obtain rfl : sp' = c.sh := hsp
  refine ⟨_, (pss_cons (ps_if (pt_not (pt_val (pe_fn h_is_holder hr (tk_fn rfl rfl rfl rfl) (pa_cons (pv 1) pa_nil))))
      (pss_one (ps_rs ex_NoHolder (tk_fn rfl rfl rfl rfl)))
      pss_nil)
      (pss_cons (ps_if (PW.pt (pw_and (pt_cmp (pc_notN (pv 2))) (pw_and1 (pt_not (pt_val (pe_fn h_is_below hr (tk_fn rfl rfl rfl rfl) (pa_cons (pv 2) (pa_cons (pe_fld (pe_fld (pv 0) rfl) rfl) pa_nil))))))))
      (pss_one (ps_rs ex_NoName (tk_fn rfl rfl rfl rfl)))
      pss_nil)
      (pss_cons (ps_if (PW.pt (pw_or (pt_not (pt_val (pe_fn h_is_whole hr (tk_fn rfl rfl rfl rfl) (pa_cons (pv 3) pa_nil)))) (pw_or (pt_not (pt_val (pe_fn h_is_whole hr (tk_fn rfl rfl rfl rfl) (pa_cons (pv 4) pa_nil)))) (pw_or1 (pt_cmpR op_lt (pv 4) pe_int (nomark _))))))
      (pss_one (ps_rs ex_NoTime (tk_fn rfl rfl rfl rfl)))
      pss_nil)
      (pss_cons (ps_set (i := 5) sc_Common_let.nd rfl (Or.inl rfl) (pe_callB (call_max2 rfl) (by rfl) n_max (by decide +kernel) (pa_cons pe_int (pa_cons (pv 3) pa_nil))))
      (pss_cons (ps_if (pt_cmp (pc_isN (pv 2)))
      (pss_one (ps_set (i := 2) sc_Common_let.nd rfl (Or.inl rfl) (pe_mt m_Common_free_house hr (tk_fn rfl rfl rfl rfl) (pv 0) (pa_cons (pv 5) (pa_cons (pv 4) pa_nil)))))
      (pss_one (ps_set (i := 5) sc_Common_let.nd rfl (Or.inl rfl) (pe_mt m_Common_free_begin hr (tk_fn rfl rfl rfl rfl) (pv 0) (pa_cons (pv 2) (pa_cons (pv 5) (pa_cons (pv 4) pa_nil)))))))
      (pss_cons (ps_if (PW.pt (pw_or (pt_cmp (pc_isN (pv 2))) (pw_or1 (pt_cmpR op_gt (pe_op op_add (pv 5) (pv 4)) (pe_fld (pe_fld (pv 0) rfl) rfl) (nomark _)))))
      (pss_one (ps_rs ex_Ended (tk_fn rfl rfl rfl rfl)))
      pss_nil)
      (pss_cons (ps_set (i := 6) sc_Common_let.nd rfl (Or.inl rfl) (pe_tup (pa_cons (pv 2) (pa_cons (pv 5) (pa_cons (pe_op op_add (pv 5) (pv 4)) pa_nil)))))
      (pss_cons (ps_expr (pe_bm PySem.F.plainAttrs_list PySem.F.slot_list_append PySem.F.type_list_append mt_append (pe_fld (pv 0) rfl) (pa_cons (pe_mk mk_Let hr (tk_fn rfl rfl rfl rfl) (pa_cons (pv 1) (pa_cons (pv 6) pa_nil))) pa_nil)))
      (pss_one (ps_ret (pv 6))))))))))), ok_go [some _, some _, some _, some _, some _, none, none] rfl hs ?_⟩
  clear hs
  refine ws_pk hp ?_
  clear hp
  simp only [List.cons_append, List.append_nil, List.append_assoc]
  have y1 : TyL (comL cs c ls F) T who n1 := (t1.app (C := ls.map (letE cs))).cons.cons
  have y2 : TyL (comL cs c ls F) T house n2 := (t2.app (C := ls.map (letE cs))).cons.cons
  have y3 : TyL (comL cs c ls F) T mo n3 := (t3.app (C := ls.map (letE cs))).cons.cons
  have y4 : TyL (comL cs c ls F) T sp n4 := (t4.app (C := ls.map (letE cs))).cons.cons
  fail "go"
  cases hB : holderB who with
  | false =>
    fail "go"
    exact qh hB
  | true =>
    obtain ⟨w, rfl⟩ : ∃ w, who = .str w := by
      cases who <;> first | exact ⟨_, rfl⟩ | cases hB
    fail "go"
    have hlen' : ls.length < sizeLine := Nat.lt_trans hlen (by decide)
    have pkc : Pk (comL cs c ls F) (comP cs c ls) F := .cons .here (.cons .here (.chunk1 .here))
    have p3 := pos_cs t3
    have p4 := pos_cs t4
    rcases t2.cs with rfl | ⟨ih, rfl⟩ | ⟨hne, hwh, hbl⟩
    · rcases p3 with ⟨i, rfl, _⟩ | ⟨e3, _⟩
      · rcases p4 with ⟨n, rfl, p4⟩ | ⟨e4, p4⟩
        · fail "go"
          · exact qt hB rfl (.inr (by simp only [posB, decide_eq_false_iff_not]; omega))
          · rename_i hn
            refine u_Common_free_house (c := c) (ls := ls) (F := F) pkc ht hlen' (s := ⟨c.sh, sdx, sm, sh, sk⟩) rfl hsh (by omega) fun h hh => ?_
            have st : Stretch ls .non i n h (max 0 i) := .inr ⟨rfl, rfl, hh⟩
            obtain ⟨q1, q2⟩ := q hB rfl i n h (max 0 i) w rfl rfl (by omega) rfl st
            by_cases hz : h < sh
            · rw [if_pos hz]
              fail "go"
              · exact q1 (fun z => absurd z.1 (by simp only; omega))
              · refine wv_comadd (l := ⟨_, _, _, w, h, max 0 i, max 0 i + n, max 0 i + n, false⟩) (q2 ⟨by simp only; omega, fun _ => hz⟩ _ _ _ _ (.cons .refl) List.mem_cons_self)
            · rw [if_neg hz]
              fail "go"
              exact q1 (fun z => hz (z.2 rfl))
        · fail "go"
          rw [e4]
          fail "go"
          exact qt hB rfl (.inr p4)
      · fail "go"
        rw [e3]
        fail "go"
        exact qt hB rfl (.inl e3)
    · cases hI : belowB (.int ih) sh with
      | false =>
        fail "go"
        rw [hI]
        fail "go"
        exact qn hB hI
      | true =>
        rcases p3 with ⟨i, rfl, _⟩ | ⟨e3, _⟩
        · rcases p4 with ⟨n, rfl, p4⟩ | ⟨e4, p4⟩
          · fail "go"
            rw [hI]
            fail "go"
            · exact qt hB hI (.inr (by simp only [posB, decide_eq_false_iff_not]; omega))
            · refine u_Common_free_begin (c := c) (ls := ls) (F := F) pkc ht hlen' fun b hb => ?_
              have st : Stretch ls (.int ih) i n ih b := .inl ⟨rfl, hb⟩
              obtain ⟨q1, q2⟩ := q hB hI i n ih b w rfl rfl (by omega) rfl st
              fail "go"
              · exact q1 (fun z => absurd z.1 (by simp only; omega))
              · refine wv_comadd (l := ⟨_, _, _, w, ih, b, b + n, b + n, false⟩) (q2 ⟨by simp only; omega, fun z => by cases z⟩ _ _ _ _ (.cons .refl) List.mem_cons_self)
          · fail "go"
            rw [hI]
            fail "go"
            rw [e4]
            fail "go"
            exact qt hB hI (.inr p4)
        · fail "go"
          rw [hI]
          fail "go"
          rw [e3]
          fail "go"
          exact qt hB hI (.inl e3)
    · fail "go"
      rw [hbl]
      fail "go"
      exact qn hB (by cases house <;> first | exact absurd rfl hne | exact hbl sh)
theorem u_Common_let {K : PySem.W.Frag} {cs : Cs} {L : Led} {T : Tps} {k : VK} {E : XK} {c : ComR} {ls : List LetR} {F : Led} {s : ShR} {who house mo sp : V} {n1 n2 n3 n4 : Tn} (hp : Pk L (comP cs c ls) F) (ht : LeT T ls) (hlen : ls.length < 1000000) (hs : s.p = c.sh) (hm : shE cs s ∈ F)
    (t1 : TyL F T who n1) (hw : ∀ w, who = .str w → w.length ≤ sizeLine) (t2 : TyL F T house n2) (t3 : TyL F T mo n3) (t4 : TyL F T sp n4)
    (q1 : holderB who = false → WX' (comL cs c ls F) T E (.ref cs.NoHolder) none) (q2 : holderB who = true → houseB s house = false → WX' (comL cs c ls F) T E (.ref cs.NoName) none)
    (q3 : holderB who = true → houseB s house = true → wholeB mo = false ∨ posB sp = false → WX' (comL cs c ls F) T E (.ref cs.NoTime) none)
    (q4 : holderB who = true → houseB s house = true → ∀ i n h b w, mo = .int i → sp = .int n → 1 ≤ n → who = .str w → Stretch ls house i n h b →
    (¬ Fits s house n h b → WX' (comL cs c ls F) T E (.ref cs.Ended) none) ∧
    (Fits s house n h b → ∀ p dx t T', Ts T' T → (t, [V.int h, .int b, .int (b + n)]) ∈ T' → WV (comL cs c (ls ++ [⟨p, dx, t, w, h, b, b + n, b + n, false⟩]) F) T' k (.ref t))) :
    WSp L T (toSp (sp_Common_let K cs)) [.ref c.P, who, house, mo, sp] k E := wsp ⟨c, ls, F, who, n1, house, n2, mo, n3, sp, n4, s, rfl, hp, ht, hlen, hs, hm, t1, hw, t2, t3, t4, q1, q2, q3, q4⟩

def mtB (h b u : Int) (l : LetR) : Bool := (decide (l.h = h) && (decide (l.b = b) && decide (l.u = u))) && !l.c
def usedOk (b u : Int) : V → Prop
  | .non => True
  | .int i => b ≤ i ∧ i < u
  | _ => False
def endOf (b : Int) : V → Int
  | .int i => i + 1
  | _ => b
def fndV (m : LetR → Bool) (ls : List LetR) : V := match (ls.filter m).getLast? with
  | some l => .ref l.p
  | none => .non
theorem fnd_nil {m : LetR → Bool} : fndV m [] = .non := rfl
theorem fnd_yes {m : LetR → Bool} {ls : List LetR} {l : LetR} (h : m l = true) : fndV m (ls ++ [l]) = .ref l.p := by
  unfold fndV
  rw [List.filter_append]
  simp [h]
theorem fnd_no {m : LetR → Bool} {ls : List LetR} {l : LetR} (h : m l = false) : fndV m (ls ++ [l]) = fndV m ls := by
  unfold fndV
  rw [List.filter_append]
  simp [h]
theorem fnd_at {m : LetR → Bool} {A B : List LetR} {l : LetR} (h : m l = true) (hB : ∀ x ∈ B, m x = false) : fndV m (A ++ l :: B) = .ref l.p := by
  have e : B.filter m = [] := List.filter_eq_nil_iff.mpr fun x hx => by simp [hB x hx]
  unfold fndV
  rw [List.filter_append, List.filter_cons_of_pos h, e]
  simp
abbrev s_Common_cut : Stmt := inClass (top 18) 5
abbrev N_Common_cut : List Str := ["self", "lease", "used", "found", "one", "number"]
theorem sc_Common_cut : FnScope N_Common_cut ["self", "lease", "used"] (defScope s_Common_cut) := ⟨rfl, rfl, rfl, by decide +kernel, rfl, by decide +kernel, by decide +kernel⟩
def sp_Common_cut (K : PySem.W.Frag) (cs : Cs) : SpL := fun vs L T Q _ => ∃ c A l B F t used, vs = [.ref c.P, .ref t, used] ∧ Pk L (comP cs c (A ++ l :: B)) F ∧ LeT T (A ++ l :: B) ∧ (A ++ l :: B).length < 1000000 ∧ (t, [V.int l.h, .int l.b, .int l.u]) ∈ T ∧ l.c = false ∧
  (∀ x ∈ B, mtB l.h l.b l.u x = false) ∧ usedOk l.b l.u used ∧ Q .non (comL cs c (A ++ { l with c := true, e := endOf l.b used } :: B) F) T
theorem ok_Common_cut {P : Program} {w : World} {K : PySem.W.Frag} {mg : Str → Option Value} {base : Heap} {cs : Cs} {f : Addr} {fd : FuncData}
    (F : FunD K "cut" "Common.cut" (defArgs s_Common_cut) (defBody s_Common_cut) (defScope s_Common_cut) [] [] f fd)
    (n_isinstance : mg "isinstance" = none)
    (n_tuple : mg "tuple" = none)
    (n_all : mg "all" = none)
    (h_is_whole : FdOk P w K mg base 1 "is_whole" ["thing"] [] (toSp (sp_is_whole K cs)))
    (ex_NoLease : ExOk K mg "NoLease" cs.NoLease)
    (ex_NoTime : ExOk K mg "NoTime" cs.NoTime)
    (at_Common : At_Common K cs)
    (at_Let : At_Let K cs)
    : FnOk P w K mg base (L2.CX P w) 2 f fd ["self", "lease", "used"] (toSp (sp_Common_cut K cs)) := by
  refine F.ok (k := 1) sc_Common_cut (fun vs H Q E h => ?_) (fun cdv A outer s H vs Q E hr h => ?_)
  · obtain ⟨L, T, hs, h⟩ := h
    unfold sp_Common_cut at h
    repeat (obtain ⟨_, h⟩ := h)
    subst_vars
    rfl
  have hu := hu_of hr
  obtain ⟨cl_Common, na_Common_shape, na_Common_lets⟩ := at_Common
  obtain ⟨cl_Let, na_Let_holder, na_Let_lease, na_Let_end, na_Let_is_cut⟩ := at_Let
  obtain ⟨L, T, hs, h⟩ := h
  unfold sp_Common_cut at h
  obtain ⟨c, A, l, B, F, t, used, rfl, hp, ht, hlen, hm, hc, hB, hu2, q⟩ := h
  refine ⟨_, (pss_cons (ps_set (i := 3) sc_Common_cut.nd rfl (Or.inl rfl) pe_non)
      (pss_cons (ps_for (passes_of rfl) rfl (pi_list (pe_fld (pv 0) rfl)) (pg_name (i := 4) sc_Common_cut.nd rfl (Or.inl rfl))
      (pss_one (ps_if (PW.pt (pw_and (pt_cmpR (op_eqD (Nat.lt_of_le_of_lt (Nat.add_le_add_left (by decide : 64 ≤ 64) _) hr.units)) (pe_fld (pv 4) rfl) (pv 1) (nomark _)) (pw_and (pt_val (pe_callB call_isi (by rfl) n_isinstance (by decide +kernel) (pa_cons (pv 1) (pa_cons (pe_bltn (v := .ty "tuple") (by rfl) n_tuple (by decide +kernel) rfl) pa_nil)))) (pw_and1 (pt_not (pt_val (pe_fld (pv 4) rfl)))))))
      (pss_one (ps_set (i := 3) sc_Common_cut.nd rfl (Or.inl rfl) (pv 4)))
      pss_nil)))
      (pss_cons (ps_if (PW.pt (pw_or (pt_cmp (pc_isN (pv 3))) (pw_or1 (pt_not (pt_val (pe_callB (cr_all rfl) (by rfl) n_all (by decide +kernel) (pa_cons (pe_lc (own := [("number", 5)]) (g := gName 5) (tt := tYes) rfl sc_Common_cut.nd (pi_tup (pv 1)) (blkOk_by (own := [("number", 5)]) (N := N_Common_cut) (sc := defScope s_Common_cut) (by decide +kernel)) (fun _ _ _ _ _ => by exact Lg.pg_te (pg_name (i := 5) sc_Common_cut.nd rfl (Or.inl rfl)) (by fail "te")) (fun _ _ _ _ _ => pts_nil) (fun _ _ _ _ _ => by exact Lg.pe_te (pe_fn h_is_whole hr takes0 (pa_cons (pv 5) pa_nil)) (by fail "te"))) pa_nil)))))))
      (pss_one (ps_rs ex_NoLease (tk_fn rfl rfl rfl rfl)))
      pss_nil)
      (pss_cons (ps_if (PW.pt (pw_and (pt_cmp (pc_notN (pv 2))) (pw_and1 (PW.pt (pw_or (pt_not (pt_val (pe_fn h_is_whole hr (tk_fn rfl rfl rfl rfl) (pa_cons (pv 2) pa_nil)))) (pw_or (pt_cmpR op_lt (pv 2) (pe_ix ix_seq (pv 1) pe_int (fun _ _ => rfl)) (nomark _)) (pw_or1 (pt_cmpR op_ge (pv 2) (pe_ix ix_seq (pv 1) pe_int (fun _ _ => rfl)) (nomark _)))))))))
      (pss_one (ps_rs ex_NoTime (tk_fn rfl rfl rfl rfl)))
      pss_nil)
      (pss_cons (ps_fld (pv 3) pe_bl rfl)
      (pss_one (ps_fld (pv 3) (pe_ifExp (pt_cmp (pc_isN (pv 2))) (pe_ix ix_seq (pv 1) pe_int (fun _ _ => rfl)) (pe_op op_add (pv 2) pe_int)) rfl))))))), ok_go [some _, some _, some _, none, none, none] rfl hs ?_⟩
  clear hs
  refine ws_pk hp ?_
  clear hp
  simp only [List.cons_append, List.append_nil, List.append_assoc]
  fail "go"
  have hmt : mtB l.h l.b l.u l = true := by simp [mtB, hc]
  refine wj_list (xs := (A ++ l :: B).map fun l => V.ref l.p) (I := fun i σ L' T' => ∃ x, σ = [some (.ref c.P), some (.ref t), some used, some (fndV (mtB l.h l.b l.u) ((A ++ l :: B).take i)), x, none] ∧ L' = comL cs c (A ++ l :: B) F ∧ T' = T)
    ⟨none, rfl, rfl, rfl⟩ (fun i σ L' T' ⟨x, hI⟩ => by obtain ⟨_, rfl, _⟩ := hI; exact IsL.of (by fail "lk")) (fun i x σ L' T' hx hI => ?_) (fun σ L' T' hI => ?_)
  · obtain ⟨s4, rfl, rfl, rfl⟩ := hI
    rw [List.getElem?_map] at hx
    obtain ⟨y, hl, rfl⟩ := Option.map_eq_some_iff.mp hx
    have hmem : y ∈ A ++ l :: B := List.mem_of_getElem? hl
    have hm1 : (y.p, letO cs y) ∈ (A ++ l :: B).map (letE cs) := List.mem_map_of_mem hmem
    have hm2 := ht y hmem
    fail "go"
    refine wr_eqD (.tup hm2 (.cons (.int _) (.cons (.int _) (.cons (.int _) .nil)))) (.tup hm (.cons (.int _) (.cons (.int _) (.cons (.int _) .nil)))) rfl rfl ?_
    rw [eqv3]
    cases h1 : (decide (y.h = l.h) && (decide (y.b = l.b) && decide (y.u = l.u))) with
    | false =>
      fail "go"
      refine wn_nx (.done .refl) .refl ⟨some (.ref y.p), ?_, rfl, rfl⟩
      rw [take_one hl, fnd_no (by simp only [mtB]; rw [h1]; rfl)]
    | true =>
      fail "go"
      cases h2 : y.c with
      | true =>
        fail "go"
        refine wn_nx (.done .refl) .refl ⟨some (.ref y.p), ?_, rfl, rfl⟩
        rw [take_one hl, fnd_no (by simp only [mtB]; rw [h1, h2]; rfl)]
      | false =>
        fail "go"
        refine wn_nx (.done .refl) .refl ⟨some (.ref y.p), ?_, rfl, rfl⟩
        rw [take_one hl, fnd_yes (by simp only [mtB]; rw [h1, h2]; rfl)]
  · obtain ⟨s4, rfl, rfl, rfl⟩ := hI
    rw [List.length_map, List.take_of_length_le (Nat.le_refl _), fnd_at hmt hB]
    simp only [List.map_append, List.map_cons, List.append_assoc, List.cons_append, comL] at q ⊢
    fail "go"
    refine wj_lcT (xs := [.int l.h, .int l.b, .int l.u]) (I := fun Dl i L2 T2 => L2 = (Dl, .lst (List.replicate i (.bl true))) :: comE cs c :: (c.lp, .lst (A.map (fun l => V.ref l.p) ++ V.ref l.p :: B.map fun l => V.ref l.p)) :: (A.map (letE cs) ++ (letE cs l :: (B.map (letE cs) ++ F))) ∧ T2 = T')
      (fun Dl => ⟨rfl, rfl⟩) (fun Dl i L2 T2 hI => by obtain ⟨_, rfl⟩ := hI; exact IsT.of hm) (fun Dl i x L2 T2 hx hI => ?_) (fun Dl L2 T2 hI => ?_)
    · obtain ⟨rfl, rfl⟩ := hI
      have hx2 : ∃ j, x = .int j := by
        have := List.mem_of_getElem? hx
        simp only [List.mem_cons, List.not_mem_nil, or_false] at this
        rcases this with z | z | z <;> exact ⟨_, z⟩
      obtain ⟨j, rfl⟩ := hx2
      have hi : i < 3 := (List.getElem?_eq_some_iff.mp hx).1
      fail "go"
      refine wv_lcE (acc := List.replicate i (.bl true)) .here (by rw [List.length_replicate]; exact Nat.lt_trans hi (by decide)) (.done .refl) .refl ?_
      exact ⟨by rw [List.replicate_succ'], rfl⟩
    · obtain ⟨rfl, rfl⟩ := hI
      fail "go"
      refine wc_all (bs := [true, true, true]) List.mem_cons_self (show WV _ _ _ (.bl true) from ?_)
      cases used with
      | non =>
        fail "go"
        exact wv_end (.done (.drop .refl)) .refl q
      | int i =>
        obtain ⟨u1, u2⟩ := hu2
        fail "go"
        exact wv_end (.done (.drop .refl)) .refl q
      | _ => exact False.elim hu2
theorem u_Common_cut {K : PySem.W.Frag} {cs : Cs} {L : Led} {T : Tps} {k : VK} {E : XK} {c : ComR} {A B : List LetR} {l : LetR} {F : Led} {t : Addr} {used : V} (hp : Pk L (comP cs c (A ++ l :: B)) F) (ht : LeT T (A ++ l :: B)) (hlen : (A ++ l :: B).length < 1000000)
    (hm : (t, [V.int l.h, .int l.b, .int l.u]) ∈ T) (hc : l.c = false) (hB : ∀ x ∈ B, mtB l.h l.b l.u x = false) (hu : usedOk l.b l.u used) (q : WV (comL cs c (A ++ { l with c := true, e := endOf l.b used } :: B) F) T k .non) :
    WSp L T (toSp (sp_Common_cut K cs)) [.ref c.P, .ref t, used] k E := wsp ⟨c, A, l, B, F, t, used, rfl, hp, ht, hlen, hm, hc, hB, hu, q⟩

abbrev s_Let_told : Stmt := inClass (top 17) 3
abbrev N_Let_told : List Str := ["self"]
theorem sc_Let_told : FnScope N_Let_told ["self"] (defScope s_Let_told) := ⟨rfl, rfl, rfl, by decide +kernel, rfl, by decide +kernel, by decide +kernel⟩
def sp_Let_told (K : PySem.W.Frag) (cs : Cs) : SpL := fun vs L T Q _ => ∃ (l : LetR), vs = [.ref l.p] ∧ letE cs l ∈ L ∧ (l.t, [V.int l.h, .int l.b, .int l.u]) ∈ T ∧ ∀ t, Q (.ref t) L ((t, [.str l.who, .int l.h, .int l.b, .int l.e]) :: T)
theorem ok_Let_told {P : Program} {w : World} {K : PySem.W.Frag} {mg : Str → Option Value} {base : Heap} {cs : Cs} {f : Addr} {fd : FuncData}
    (F : FunD K "told" "Let.told" (defArgs s_Let_told) (defBody s_Let_told) (defScope s_Let_told) [] [] f fd)
    (at_Let : At_Let K cs)
    : FnOk P w K mg base (L2.CX P w) 1 f fd ["self"] (toSp (sp_Let_told K cs)) := by
  refine F.ok (k := 0) sc_Let_told (fun vs H Q E h => ?_) (fun cdv A outer s H vs Q E hr h => ?_)
  · obtain ⟨L, T, hs, h⟩ := h
    unfold sp_Let_told at h
    repeat (obtain ⟨_, h⟩ := h)
    subst_vars
    rfl
  have hu := hu_of hr
  obtain ⟨cl_Let, na_Let_holder, na_Let_lease, na_Let_end, na_Let_is_cut⟩ := at_Let
  obtain ⟨L, T, hs, h⟩ := h
  unfold sp_Let_told at h
  obtain ⟨l, rfl, hl, ht, q⟩ := h
  refine ⟨_, (pss_one (ps_ret (pe_tup (pa_cons (pe_fld (pv 0) rfl) (pa_cons (pe_ix ix_seq (pe_fld (pv 0) rfl) pe_int (fun _ _ => rfl)) (pa_cons (pe_ix ix_seq (pe_fld (pv 0) rfl) pe_int (fun _ _ => rfl)) (pa_cons (pe_fld (pv 0) rfl) pa_nil))))))), ok_go [some _] rfl hs ?_⟩
  clear hs
  fail "go"
  exact q _
theorem u_Let_told {K : PySem.W.Frag} {cs : Cs} {L : Led} {T : Tps} {k : VK} {E : XK} {l : LetR} (hl : letE cs l ∈ L) (ht : (l.t, [V.int l.h, .int l.b, .int l.u]) ∈ T) (q : ∀ t, WV L ((t, [.str l.who, .int l.h, .int l.b, .int l.e]) :: T) k (.ref t)) :
    WSp L T (toSp (sp_Let_told K cs)) [.ref l.p] k E := wsp ⟨l, rfl, hl, ht, q⟩
abbrev tldT (t : Addr) (l : LetR) : Addr × List V := (t, [.str l.who, .int l.h, .int l.b, .int l.e])
theorem pr_len {α β : Type} {G : α → β → Prop} : ∀ {l : List α} {m : List β}, Paired G l m → l.length = m.length
  | _, _, .nil => rfl
  | _, _, .cons _ r => by rw [List.length_cons, List.length_cons, pr_len r]
theorem pr_snoc {α β : Type} {G : α → β → Prop} {a : α} {b : β} : ∀ {l : List α} {m : List β}, Paired G l m → G a b → Paired G (l ++ [a]) (m ++ [b])
  | _, _, .nil, h => .cons h .nil
  | _, _, .cons x r, h => .cons x (pr_snoc r h)
theorem pr_imp {α β : Type} {G G' : α → β → Prop} (hg : ∀ a b, G a b → G' a b) : ∀ {l : List α} {m : List β}, Paired G l m → Paired G' l m
  | _, _, .nil => .nil
  | _, _, .cons x r => .cons (hg _ _ x) (pr_imp hg r)
abbrev s_Common_leases : Stmt := inClass (top 18) 6
abbrev N_Common_leases : List Str := ["self", "one"]
theorem sc_Common_leases : FnScope N_Common_leases ["self"] (defScope s_Common_leases) := ⟨rfl, rfl, rfl, by decide +kernel, rfl, by decide +kernel, by decide +kernel⟩
def sp_Common_leases (K : PySem.W.Frag) (cs : Cs) : SpL := fun vs L T Q _ => ∃ c ls F, vs = [.ref c.P] ∧ Pk L (comP cs c ls) F ∧ LeT T ls ∧ ls.length < 1000000 ∧ ∀ p (ts : List Addr) T', Ts T' T → Paired (fun t l => tldT t l ∈ T') ts ls → Q (.ref p) ((p, .lst (ts.map V.ref)) :: comL cs c ls F) T'
theorem ok_Common_leases {P : Program} {w : World} {K : PySem.W.Frag} {mg : Str → Option Value} {base : Heap} {cs : Cs} {f : Addr} {fd : FuncData}
    (F : FunD K "leases" "Common.leases" (defArgs s_Common_leases) (defBody s_Common_leases) (defScope s_Common_leases) [] [] f fd)
    (m_Let_told : MtOk P w K mg base 1 cs.Let "told" ["self"] [] (toSp (sp_Let_told K cs)))
    (at_Common : At_Common K cs)
    (at_Let : At_Let K cs)
    : FnOk P w K mg base (L2.CX P w) 2 f fd ["self"] (toSp (sp_Common_leases K cs)) := by
  refine F.ok (k := 1) sc_Common_leases (fun vs H Q E h => ?_) (fun cdv A outer s H vs Q E hr h => ?_)
  · obtain ⟨L, T, hs, h⟩ := h
    unfold sp_Common_leases at h
    repeat (obtain ⟨_, h⟩ := h)
    subst_vars
    rfl
  have hu := hu_of hr
  obtain ⟨cl_Common, na_Common_shape, na_Common_lets⟩ := at_Common
  obtain ⟨cl_Let, na_Let_holder, na_Let_lease, na_Let_end, na_Let_is_cut⟩ := at_Let
  obtain ⟨L, T, hs, h⟩ := h
  unfold sp_Common_leases at h
  obtain ⟨c, ls, F, rfl, hp, ht, hlen, q⟩ := h
  refine ⟨_, (pss_one (ps_ret (pe_lc (own := [("one", 1)]) (g := gName 1) (tt := tYes) rfl sc_Common_leases.nd (pi_list (pe_fld (pv 0) rfl)) (blkOk_by (own := [("one", 1)]) (N := N_Common_leases) (sc := defScope s_Common_leases) (by decide +kernel)) (fun _ _ _ _ _ => by exact Lg.pg_te (pg_name (i := 1) sc_Common_leases.nd rfl (Or.inl rfl)) (by fail "te")) (fun _ _ _ _ _ => pts_nil) (fun _ _ _ _ _ => by exact Lg.pe_te (pe_mt0 m_Let_told hr takes0 (pv 1)) (by fail "te"))))), ok_go [some _, none] rfl hs ?_⟩
  clear hs
  refine ws_pk hp ?_
  clear hp
  simp only [List.cons_append, List.append_nil, List.append_assoc]
  fail "go"
  refine wj_lcL (xs := ls.map fun l => V.ref l.p) (I := fun Dl i L' T' => ∃ ts : List Addr, L' = (Dl, .lst (ts.map V.ref)) :: comL cs c ls F ∧ Ts T' T ∧ Paired (fun t l => tldT t l ∈ T') ts (ls.take i))
    (fun Dl => ⟨[], rfl, .refl, .nil⟩) (fun Dl i L' T' ⟨ts, hL, _⟩ => by subst hL; exact IsL.of (by fail "lk")) (fun Dl i x L' T' hx hI => ?_) (fun Dl L' T' hI => ?_)
  · obtain ⟨ts, rfl, hT, hP⟩ := hI
    rw [List.getElem?_map] at hx
    obtain ⟨l, hl, rfl⟩ := Option.map_eq_some_iff.mp hx
    have hmem : l ∈ ls := List.mem_of_getElem? hl
    have hm1 : (l.p, letO cs l) ∈ ls.map (letE cs) := List.mem_map_of_mem hmem
    have hm2 := hT _ (ht l hmem)
    have hi : i < ls.length := (List.getElem?_eq_some_iff.mp hl).1
    fail "go"
    refine u_Let_told (l := l) (by fail "lk") hm2 fun t => ?_
    refine wv_lcE .here ?_ (.done .refl) .refl ?_
    · rw [List.length_map, pr_len hP, List.length_take]
      exact Nat.lt_trans (Nat.lt_of_le_of_lt (Nat.min_le_left _ _) (Nat.lt_trans hi hlen)) (by decide)
    · refine ⟨ts ++ [t], by rw [List.map_append]; rfl, hT.cons, ?_⟩
      rw [take_one hl]
      exact pr_snoc (pr_imp (fun a b h => List.mem_cons_of_mem _ h) hP) List.mem_cons_self
  · obtain ⟨ts, rfl, hT, hP⟩ := hI
    rw [List.length_map, List.take_of_length_le (Nat.le_refl _)] at hP
    exact q _ ts T' hT hP
theorem u_Common_leases {K : PySem.W.Frag} {cs : Cs} {L : Led} {T : Tps} {k : VK} {E : XK} {c : ComR} {ls : List LetR} {F : Led} (hp : Pk L (comP cs c ls) F) (ht : LeT T ls) (hlen : ls.length < 1000000)
    (q : ∀ p (ts : List Addr) T', Ts T' T → Paired (fun t l => tldT t l ∈ T') ts ls → WV ((p, .lst (ts.map V.ref)) :: comL cs c ls F) T' k (.ref p)) : WSp L T (toSp (sp_Common_leases K cs)) [.ref c.P] k E := wsp ⟨c, ls, F, rfl, hp, ht, hlen, q⟩

abbrev s_law_cell_at : Stmt := top 20
abbrev N_law_cell_at : List Str := ["_law_script", "_law_k"]
theorem sc_law_cell_at : FnScope N_law_cell_at ["_law_script", "_law_k"] (defScope s_law_cell_at) := ⟨rfl, rfl, rfl, by decide +kernel, rfl, by decide +kernel, by decide +kernel⟩
def sp_law_cell_at (K : PySem.W.Frag) (cs : Cs) : SpL := fun vs L T Q _ => ∃ (a : Addr) (xs : List Int) (i : Nat), vs = [.ref a, .int i] ∧ IsL K L T a (xs.map V.int) ∧ Q (.int (xs.getD i 0)) L T
theorem ok_law_cell_at {P : Program} {w : World} {K : PySem.W.Frag} {mg : Str → Option Value} {base : Heap} {cs : Cs} {f : Addr} {fd : FuncData}
    (F : FunD K "_law_cell_at" "_law_cell_at" (defArgs s_law_cell_at) (defBody s_law_cell_at) (defScope s_law_cell_at) [] [] f fd)
    (n_len : mg "len" = none)
    : FnOk P w K mg base (L2.CX P w) 1 f fd ["_law_script", "_law_k"] (toSp (sp_law_cell_at K cs)) := by
  refine F.ok (k := 0) sc_law_cell_at (fun vs H Q E h => ?_) (fun cdv A outer s H vs Q E hr h => ?_)
  · obtain ⟨L, T, hs, h⟩ := h
    unfold sp_law_cell_at at h
    repeat (obtain ⟨_, h⟩ := h)
    subst_vars
    rfl
  have hu := hu_of hr
  obtain ⟨L, T, hs, h⟩ := h
  unfold sp_law_cell_at at h
  obtain ⟨a, xs, i, rfl, hm, q⟩ := h
  refine ⟨_, (pss_cons (ps_if (pt_cmpR op_lt (pv 1) (pe_callB call_lenA (by rfl) n_len (by decide +kernel) (pa_cons (pv 0) pa_nil)) (nomark _))
      (pss_one (ps_ret (pe_ix ix_seq (pv 0) (pv 1) (fun _ _ => rfl))))
      pss_nil)
      (pss_one (ps_ret pe_int))), ok_go [some _, some _] rfl hs ?_⟩
  clear hs
  fail "go"
  refine wc_lenI hm ?_
  fail "go"
  · rename_i h1
    rw [List.length_map] at h1
    have h2 : i < xs.length := by omega
    refine wr_ixI hm (v := .int xs[i]) ?_ ?_
    · exact atI_nat (by rw [List.getElem?_map, List.getElem?_eq_getElem h2]; rfl)
    · have e : xs.getD i 0 = xs[i] := by simp [List.getD, h2]
      rw [e] at q; exact q
  · rename_i h1
    rw [List.length_map] at h1
    have e : xs.getD i 0 = 0 := by simp [List.getD, List.getElem?_eq_none (show xs.length ≤ i by omega)]
    rw [e] at q; exact q
theorem u_law_cell_at {K : PySem.W.Frag} {cs : Cs} {L : Led} {T : Tps} {k : VK} {E : XK} {a : Addr} {xs : List Int} {i : Nat} (hm : IsL K L T a (xs.map V.int)) (q : WV L T k (.int (xs.getD i 0))) : WSp L T (toSp (sp_law_cell_at K cs)) [.ref a, .int i] k E := wsp ⟨a, xs, i, rfl, hm, q⟩
abbrev s_law_draw : Stmt := top 21
abbrev N_law_draw : List Str := ["_law_cell", "_law_k", "_law_number"]
theorem sc_law_draw : FnScope N_law_draw ["_law_cell", "_law_k"] (defScope s_law_draw) := ⟨rfl, rfl, rfl, by decide +kernel, rfl, by decide +kernel, by decide +kernel⟩
def sp_law_draw (K : PySem.W.Frag) (cs : Cs) : SpL := fun vs L T Q _ => ∃ (c k : Int), vs = [.int c, .int k] ∧ 0 ≤ k ∧ k < 1000 ∧ ∀ r : Int, 0 ≤ r → r < 2147483648 → Q (.int r) L T
theorem ok_law_draw {P : Program} {w : World} {K : PySem.W.Frag} {mg : Str → Option Value} {base : Heap} {cs : Cs} {f : Addr} {fd : FuncData}
    (F : FunD K "_law_draw" "_law_draw" (defArgs s_law_draw) (defBody s_law_draw) (defScope s_law_draw) [] [] f fd)
    : FnOk P w K mg base (L2.CX P w) 1 f fd ["_law_cell", "_law_k"] (toSp (sp_law_draw K cs)) := by
  refine F.ok (k := 0) sc_law_draw (fun vs H Q E h => ?_) (fun cdv A outer s H vs Q E hr h => ?_)
  · obtain ⟨L, T, hs, h⟩ := h
    unfold sp_law_draw at h
    repeat (obtain ⟨_, h⟩ := h)
    subst_vars
    rfl
  have hu := hu_of hr
  obtain ⟨L, T, hs, h⟩ := h
  unfold sp_law_draw at h
  obtain ⟨c, k, rfl, hk1, hk2, q⟩ := h
  refine ⟨_, (pss_cons (ps_if (PW.pt (pw_and (pt_cmpR op_eq (pe_op op_modA (pv 0) pe_int) pe_int (nomark _)) (pw_and1 (pt_cmpR op_gt (pe_op op_shr (pv 0) (pe_op op_add pe_int (pe_op op_mulA pe_int (pv 1)))) pe_int (nomark _)))))
      (pss_one (ps_ret (pe_op op_modA (pe_op op_shr (pv 0) (pe_op op_add pe_int (pe_op op_mulA pe_int (pv 1)))) pe_int)))
      pss_nil)
      (pss_cons (ps_set (i := 2) sc_law_draw.nd rfl (Or.inl rfl) (pe_op op_modA (pe_op op_mulA (pe_op op_modA (pe_op op_add (pe_op op_add (pv 0) (pe_op op_mulA pe_int (pv 1))) pe_int) pe_int) pe_int) pe_int))
      (pss_cons (ps_set (i := 2) sc_law_draw.nd rfl (Or.inl rfl) (pe_op op_modA (pe_op op_mulA (pv 2) (pe_op op_add (pe_op op_divA (pv 2) pe_int) pe_int)) pe_int))
      (pss_one (ps_ret (pe_op op_modA (pe_op op_mulA (pv 2) (pe_op op_add (pe_op op_divA (pv 2) pe_int) pe_int)) pe_int)))))), ok_go [some _, some _, none] rfl hs ?_⟩
  clear hs
  fail "go"
  · exact q _ (Int.emod_nonneg _ (by decide)) (Int.emod_lt_of_pos _ (by decide))
  · exact q _ (Int.emod_nonneg _ (by decide)) (Int.lt_trans (Int.emod_lt_of_pos _ (by decide)) (by decide))
  · exact q _ (Int.emod_nonneg _ (by decide)) (Int.lt_trans (Int.emod_lt_of_pos _ (by decide)) (by decide))
theorem u_law_draw {K : PySem.W.Frag} {cs : Cs} {L : Led} {T : Tps} {k : VK} {E : XK} {c i : Int} (h1 : 0 ≤ i) (h2 : i < 1000) (q : ∀ r : Int, 0 ≤ r → r < 2147483648 → WV L T k (.int r)) : WSp L T (toSp (sp_law_draw K cs)) [.int c, .int i] k E := wsp ⟨c, i, rfl, h1, h2, q⟩
local macro_rules | `(tactic| fail "u") => `(tactic| with_reducible (apply u_law_draw; with_unfolding_all omega; with_unfolding_all omega; intro _ _ _))
abbrev s_law_far : Stmt := top 22
abbrev N_law_far : List Str := ["_law_cell", "_law_k", "_law_most", "_law_found", "_law_j"]
theorem sc_law_far : FnScope N_law_far ["_law_cell", "_law_k", "_law_most"] (defScope s_law_far) := ⟨rfl, rfl, rfl, by decide +kernel, rfl, by decide +kernel, by decide +kernel⟩
def sp_law_far (K : PySem.W.Frag) (cs : Cs) : SpL := fun vs L T Q _ => ∃ (c k m : Int), vs = [.int c, .int k, .int m] ∧ 0 ≤ k ∧ k < 900 ∧ 0 < m ∧ ∀ r : Int, 0 ≤ r → r < m → Q (.int r) L T
theorem ok_law_far {P : Program} {w : World} {K : PySem.W.Frag} {mg : Str → Option Value} {base : Heap} {cs : Cs} {f : Addr} {fd : FuncData}
    (F : FunD K "_law_far" "_law_far" (defArgs s_law_far) (defBody s_law_far) (defScope s_law_far) [] [] f fd)
    (n_range : mg "range" = none)
    (h_law_draw : FdOk P w K mg base 1 "_law_draw" ["_law_cell", "_law_k"] [] (toSp (sp_law_draw K cs)))
    : FnOk P w K mg base (L2.CX P w) 2 f fd ["_law_cell", "_law_k", "_law_most"] (toSp (sp_law_far K cs)) := by
  refine F.ok (k := 1) sc_law_far (fun vs H Q E h => ?_) (fun cdv A outer s H vs Q E hr h => ?_)
  · obtain ⟨L, T, hs, h⟩ := h
    unfold sp_law_far at h
    repeat (obtain ⟨_, h⟩ := h)
    subst_vars
    rfl
  have hu := hu_of hr
  obtain ⟨L, T, hs, h⟩ := h
  unfold sp_law_far at h
  obtain ⟨c, k, m, rfl, hk1, hk2, hm, q⟩ := h
  refine ⟨_, (pss_cons (ps_set (i := 3) sc_law_far.nd rfl (Or.inl rfl) pe_int)
      (pss_cons (ps_for (passes_of rfl) rfl (pi_range1 (by rfl) n_range (pa_cons pe_int pa_nil)) (pg_name (i := 4) sc_law_far.nd rfl (Or.inl rfl))
      (pss_one (ps_set (i := 3) sc_law_far.nd rfl (Or.inl rfl) (pe_op op_add (pe_op op_mulA (pv 3) pe_int) (pe_fn h_law_draw hr (tk_fn rfl rfl rfl rfl) (pa_cons (pv 0) (pa_cons (pe_op op_add (pv 1) (pv 4)) pa_nil)))))))
      (pss_one (ps_ret (pe_op op_modA (pv 3) (pv 2)))))), ok_go [some _, some _, some _, none, none] rfl hs ?_⟩
  clear hs
  fail "go"
  refine wvs_r1 (by decide) (by decide) ?_
  refine wj_range (I := fun i σ L' T' => ∃ f x, σ = [some (.int c), some (.int k), some (.int m), some (.int f), x] ∧ L' = L ∧ T' = T ∧ 0 ≤ f ∧ f < 2147483648 ^ i) ⟨0, none, rfl, rfl, rfl, by omega, by decide⟩ (fun i σ L' T' hi hI => ?_) (fun σ L' T' hI => ?_)
  · obtain ⟨f, x, rfl, rfl, rfl, h1, h2⟩ := hI
    have hi : i < 5 := hi
    fail "go"
    rename_i r h3 h4
    refine wn_nx (.done .refl) .refl ⟨_, _, rfl, rfl, rfl, by omega, ?_⟩
    rw [Int.pow_succ]; omega
  · obtain ⟨f, x, rfl, rfl, rfl, h1, h2⟩ := hI
    fail "go"
    exact q _ (Int.emod_nonneg _ (by omega)) (Int.emod_lt_of_pos _ hm)
theorem u_law_far {K : PySem.W.Frag} {cs : Cs} {L : Led} {T : Tps} {k : VK} {E : XK} {c i m : Int} (h1 : 0 ≤ i) (h2 : i < 900) (h3 : 0 < m) (q : ∀ r : Int, 0 ≤ r → r < m → WV L T k (.int r)) : WSp L T (toSp (sp_law_far K cs)) [.int c, .int i, .int m] k E := wsp ⟨c, i, m, rfl, h1, h2, h3, q⟩
local macro_rules | `(tactic| fail "u") => `(tactic| with_reducible (apply u_law_far; with_unfolding_all omega; with_unfolding_all omega; with_unfolding_all omega; intro _ _ _))
theorem mod3 {r : Int} : r % 3 = 0 ∨ r % 3 = 1 ∨ r % 3 = 2 := by omega
abbrev s_law_far_moment : Stmt := top 23
abbrev N_law_far_moment : List Str := ["_law_cell"]
theorem sc_law_far_moment : FnScope N_law_far_moment ["_law_cell"] (defScope s_law_far_moment) := ⟨rfl, rfl, rfl, by decide +kernel, rfl, by decide +kernel, by decide +kernel⟩
def sp_law_far_moment (K : PySem.W.Frag) (cs : Cs) : SpL := fun vs L T Q _ => ∃ (c : Int), vs = [.int c] ∧ ∀ r : Int, 0 ≤ r → r < 10 ^ 38 → Q (.int r) L T
theorem ok_law_far_moment {P : Program} {w : World} {K : PySem.W.Frag} {mg : Str → Option Value} {base : Heap} {cs : Cs} {f : Addr} {fd : FuncData}
    (F : FunD K "_law_far_moment" "_law_far_moment" (defArgs s_law_far_moment) (defBody s_law_far_moment) (defScope s_law_far_moment) [] [] f fd)
    (h_law_far : FdOk P w K mg base 2 "_law_far" ["_law_cell", "_law_k", "_law_most"] [] (toSp (sp_law_far K cs)))
    (h_law_draw : FdOk P w K mg base 1 "_law_draw" ["_law_cell", "_law_k"] [] (toSp (sp_law_draw K cs)))
    : FnOk P w K mg base (L2.CX P w) 3 f fd ["_law_cell"] (toSp (sp_law_far_moment K cs)) := by
  refine F.ok (k := 2) sc_law_far_moment (fun vs H Q E h => ?_) (fun cdv A outer s H vs Q E hr h => ?_)
  · obtain ⟨L, T, hs, h⟩ := h
    unfold sp_law_far_moment at h
    repeat (obtain ⟨_, h⟩ := h)
    subst_vars
    rfl
  have hu := hu_of hr
  obtain ⟨L, T, hs, h⟩ := h
  unfold sp_law_far_moment at h
  obtain ⟨c, rfl, q⟩ := h
  refine ⟨_, (pss_one (ps_ret (pe_ix ix_seq (pe_lst (pa_cons pe_int (pa_cons (pe_fn h_law_far hr (tk_fn rfl rfl rfl rfl) (pa_cons (pv 0) (pa_cons pe_int (pa_cons pe_int pa_nil)))) (pa_cons (pe_fn h_law_far hr (tk_fn rfl rfl rfl rfl) (pa_cons (pv 0) (pa_cons pe_int (pa_cons (pe_op op_pow pe_int pe_int) pa_nil)))) pa_nil)))) (pe_op op_modA (pe_fn h_law_draw hr (tk_fn rfl rfl rfl rfl) (pa_cons (pv 0) (pa_cons pe_int pa_nil))) pe_int) (fun _ _ => rfl)))), ok_go [some _] rfl hs ?_⟩
  clear hs
  fail "go"
  refine u_law_far (by decide) (by decide) (by decide) fun r2 h3 h4 => ?_
  fail "go"
  rename_i r1 h1 h2 a r3 h5 h6
  have h4 : r2 < 10 ^ 38 := h4
  rcases mod3 (r := r3) with e | e | e <;> rw [e] <;> refine wr_ixL List.mem_cons_self rfl (wv_end (.done (.drop .refl)) .refl (q _ ?_ ?_)) <;> omega
theorem u_law_far_moment {K : PySem.W.Frag} {cs : Cs} {L : Led} {T : Tps} {k : VK} {E : XK} {c : Int} (q : ∀ r : Int, 0 ≤ r → r < 10 ^ 38 → WV L T k (.int r)) : WSp L T (toSp (sp_law_far_moment K cs)) [.int c] k E := wsp ⟨c, rfl, q⟩
local macro_rules | `(tactic| fail "u") => `(tactic| with_reducible (apply u_law_far_moment; intro _ _ _))

def FreeT (kvs : List (List L2.Key × V)) (h b n : Int) : Prop := ∀ k, 0 ≤ k → k < n → valV kvs [.inl h, .inl (b + k)] = none
abbrev s_law_is_free : Stmt := top 24
abbrev N_law_is_free : List Str := ["_law_table", "_law_house", "_law_begin", "_law_span", "_law_k"]
theorem sc_law_is_free : FnScope N_law_is_free ["_law_table", "_law_house", "_law_begin", "_law_span"] (defScope s_law_is_free) := ⟨rfl, rfl, rfl, by decide +kernel, rfl, by decide +kernel, by decide +kernel⟩
def sp_law_is_free (K : PySem.W.Frag) (cs : Cs) : SpL := fun vs L T Q _ => ∃ (d : Addr) (kvs : List (List L2.Key × V)) (h b n : Int), vs = [.ref d, .int h, .int b, .int n] ∧ (d, HO.dT kvs) ∈ L ∧ 0 ≤ n ∧ n < 1000 ∧ ∀ r : Bool, (r = true ↔ FreeT kvs h b n) → Q (.bl r) L T
theorem ok_law_is_free {P : Program} {w : World} {K : PySem.W.Frag} {mg : Str → Option Value} {base : Heap} {cs : Cs} {f : Addr} {fd : FuncData}
    (F : FunD K "_law_is_free" "_law_is_free" (defArgs s_law_is_free) (defBody s_law_is_free) (defScope s_law_is_free) [] [] f fd)
    (n_any : mg "any" = none)
    (n_range : mg "range" = none)
    : FnOk P w K mg base (L2.CX P w) 1 f fd ["_law_table", "_law_house", "_law_begin", "_law_span"] (toSp (sp_law_is_free K cs)) := by
  refine F.ok (k := 0) sc_law_is_free (fun vs H Q E h => ?_) (fun cdv A outer s H vs Q E hr h => ?_)
  · obtain ⟨L, T, hs, h⟩ := h
    unfold sp_law_is_free at h
    repeat (obtain ⟨_, h⟩ := h)
    subst_vars
    rfl
  have hu := hu_of hr
  obtain ⟨L, T, hs, h⟩ := h
  unfold sp_law_is_free at h
  obtain ⟨d, kvs, h, b, n, rfl, hd, hn1, hn2, q⟩ := h
  refine ⟨_, (pss_one (ps_ret (pe_not (pe_callB (cr_any rfl) (by rfl) n_any (by decide +kernel) (pa_cons (pe_lc (own := [("_law_k", 4)]) (g := gName 4) (tt := tYes) rfl sc_law_is_free.nd (pi_range1 (by rfl) n_range (pa_cons (pv 3) pa_nil)) (blkOk_by (own := [("_law_k", 4)]) (N := N_law_is_free) (sc := defScope s_law_is_free) (by decide +kernel)) (fun _ _ _ _ _ => by exact Lg.pg_te (pg_name (i := 4) sc_law_is_free.nd rfl (Or.inl rfl)) (by fail "te")) (fun _ _ _ _ _ => pts_nil) (fun _ _ _ _ _ => by exact Lg.pe_te (pe_cmp (pc_din hu (pe_tup (pa_cons (pv 1) (pa_cons (pe_op op_add (pv 2) (pv 4)) pa_nil))) (pv 0)) rfl) (by fail "te"))) pa_nil))))), ok_go [some _, some _, some _, some _, none] rfl hs ?_⟩
  clear hs
  fail "go"
  refine wvs_r1 (by omega) (by omega) ?_
  refine wj_lcR (I := fun Dl i L' T' => L' = (Dl, .lst (((List.range i).map fun k : Nat => (valV kvs [.inl h, .inl (b + k)]).isSome).map V.bl)) :: L ∧ Ts T' T) (fun Dl => ⟨rfl, .refl⟩) (fun Dl i L' T' hi hI => ?_) (fun Dl L' T' hI => ?_)
  · obtain ⟨rfl, hT⟩ := hI
    fail "go"
    refine wv_lcE .here (by rw [List.length_map, List.length_map, List.length_range]; exact Nat.lt_trans (show i < 1000 by omega) (by decide)) (.done .refl) .refl ?_
    refine ⟨?_, hT.cons⟩
    rw [List.range_succ, List.map_append, List.map_append, Int.zero_add]; rfl
  · obtain ⟨rfl, hT⟩ := hI
    fail "go"
    refine wc_any List.mem_cons_self ?_
    fail "go"
    refine wv_end (.done (.drop .refl)) hT (q _ ?_)
    rw [Bool.not_eq_true', List.any_eq_false]
    refine ⟨fun hh k k1 k2 => ?_, fun hh x hx => ?_⟩
    · have := hh _ (List.mem_map.mpr ⟨k.toNat, List.mem_range.mpr (by omega), rfl⟩)
      have e : ((k.toNat : Nat) : Int) = k := Int.toNat_of_nonneg k1
      rw [e] at this
      cases hz : valV kvs [.inl h, .inl (b + k)] with
      | none => rfl
      | some v => rw [hz] at this; exact absurd rfl this
    · obtain ⟨j, hj, rfl⟩ := List.mem_map.mp hx
      have hj := List.mem_range.mp hj
      rw [hh j (by omega) (by omega)]; decide
theorem u_law_is_free {K : PySem.W.Frag} {cs : Cs} {L : Led} {T : Tps} {k : VK} {E : XK} {d : Addr} {kvs : List (List L2.Key × V)} {h b n : Int} (hd : (d, HO.dT kvs) ∈ L) (h1 : 0 ≤ n) (h2 : n < 1000) (q : ∀ r : Bool, (r = true ↔ FreeT kvs h b n) → WV L T k (.bl r)) :
    WSp L T (toSp (sp_law_is_free K cs)) [.ref d, .int h, .int b, .int n] k E := wsp ⟨d, kvs, h, b, n, rfl, hd, h1, h2, q⟩

abbrev s_law_due_any : Stmt := top 25
abbrev N_law_due_any : List Str := ["_law_table", "_law_shape", "_law_moment", "_law_span", "_law_begin", "_law_house"]
theorem sc_law_due_any : FnScope N_law_due_any ["_law_table", "_law_shape", "_law_moment", "_law_span"] (defScope s_law_due_any) := ⟨rfl, rfl, rfl, by decide +kernel, rfl, by decide +kernel, by decide +kernel⟩
def sp_law_due_any (K : PySem.W.Frag) (cs : Cs) : SpL := fun vs L T Q _ => ∃ (d : Addr) (kvs : List (List L2.Key × V)) (s : ShR) (m n : Int), vs = [.ref d, .ref s.p, .int m, .int n] ∧ (d, HO.dT kvs) ∈ L ∧ shE cs s ∈ L ∧ 1 ≤ n ∧ n < 1000 ∧ 0 ≤ s.h ∧ s.h < 1000 ∧
  (∀ h t T', max 0 m + n ≤ s.m → 0 ≤ h → h < s.h → FreeT kvs h (max 0 m) n → (∀ j, 0 ≤ j → j < h → ¬ FreeT kvs j (max 0 m) n) → Ts T' T → (t, [V.int h, .int (max 0 m), .int (max 0 m + n)]) ∈ T' → Q (.ref t) L T') ∧
  ((∀ h, max 0 m + n ≤ s.m → 0 ≤ h → h < s.h → ¬ FreeT kvs h (max 0 m) n) → Q .non L T)
theorem ok_law_due_any {P : Program} {w : World} {K : PySem.W.Frag} {mg : Str → Option Value} {base : Heap} {cs : Cs} {f : Addr} {fd : FuncData}
    (F : FunD K "_law_due_any" "_law_due_any" (defArgs s_law_due_any) (defBody s_law_due_any) (defScope s_law_due_any) [] [] f fd)
    (n_max : mg "max" = none)
    (n_range : mg "range" = none)
    (h_law_is_free : FdOk P w K mg base 1 "_law_is_free" ["_law_table", "_law_house", "_law_begin", "_law_span"] [] (toSp (sp_law_is_free K cs)))
    (at_Shape : At_Shape K cs)
    : FnOk P w K mg base (L2.CX P w) 2 f fd ["_law_table", "_law_shape", "_law_moment", "_law_span"] (toSp (sp_law_due_any K cs)) := by
  refine F.ok (k := 1) sc_law_due_any (fun vs H Q E h => ?_) (fun cdv A outer s H vs Q E hr h => ?_)
  · obtain ⟨L, T, hs, h⟩ := h
    unfold sp_law_due_any at h
    repeat (obtain ⟨_, h⟩ := h)
    subst_vars
    rfl
  have hu := hu_of hr
  obtain ⟨cl_Shape, na_Shape_moments, na_Shape_houses, na_Shape_counts⟩ := at_Shape
  obtain ⟨L, T, hs, h⟩ := h
  unfold sp_law_due_any at h
  obtain ⟨d, kvs, ⟨sp, sdx, sm, sh, sk⟩, m, n, rfl, hd, hsm, hn1, hn2, hh1, hh2, q1, q2⟩ := h
  refine ⟨_, (pss_cons (ps_set (i := 4) sc_law_due_any.nd rfl (Or.inl rfl) (pe_callB (call_max2 rfl) (by rfl) n_max (by decide +kernel) (pa_cons pe_int (pa_cons (pv 2) pa_nil))))
      (pss_cons (ps_if (pt_cmpR op_gt (pe_op op_add (pv 4) (pv 3)) (pe_fld (pv 1) rfl) (nomark _))
      (pss_one (ps_ret pe_non))
      pss_nil)
      (pss_cons (ps_for (passes_of rfl) rfl (pi_range1 (by rfl) n_range (pa_cons (pe_fld (pv 1) rfl) pa_nil)) (pg_name (i := 5) sc_law_due_any.nd rfl (Or.inl rfl))
      (pss_one (ps_if (pt_val (pe_fn h_law_is_free hr (tk_fn rfl rfl rfl rfl) (pa_cons (pv 0) (pa_cons (pv 5) (pa_cons (pv 4) (pa_cons (pv 3) pa_nil))))))
      (pss_one (ps_ret (pe_tup (pa_cons (pv 5) (pa_cons (pv 4) (pa_cons (pe_op op_add (pv 4) (pv 3)) pa_nil))))))
      pss_nil)))
      (pss_one (ps_ret pe_non))))), ok_go [some _, some _, some _, some _, none, none] rfl hs ?_⟩
  clear hs
  have hs' : (sp, HO.ins cs.Shape sdx [("moments", .int sm), ("houses", .int sh), ("counts", .int sk)]) ∈ L := hsm
  simp only at q1 q2 hh1 hh2
  fail "go"
  · exact q2 fun h h1 => by omega
  · rename_i hc
    refine wvs_r1 ?_ ?_ ?_
    · omega
    · omega
    refine wj_range (I := fun i σ L' T' => ∃ x, σ = [some (.ref d), some (.ref sp), some (.int m), some (.int n), some (.int (max 0 m)), x] ∧ L' = L ∧ Ts T' T ∧ ∀ j : Int, 0 ≤ j → j < i → ¬ FreeT kvs j (max 0 m) n)
      ⟨none, rfl, rfl, .refl, fun j h1 h2 => by omega⟩ (fun i σ L' T' hi hI => ?_) (fun σ L' T' hI => ?_)
    · obtain ⟨x, rfl, rfl, hT, hf⟩ := hI
      fail "go"
      refine u_law_is_free hd (by omega) hn2 fun r hr => ?_
      cases r with
      | true =>
        fail "go"
        refine wv_end (.done .refl) .refl (q1 (0 + i) _ _ (by omega) (by omega) (by omega) (hr.mp rfl) (fun j h1 h2 => hf j h1 (by omega)) (.cons hT) List.mem_cons_self)
      | false =>
        fail "go"
        refine wn_nx (.done .refl) .refl ⟨_, rfl, rfl, hT, fun j h1 h2 => ?_⟩
        by_cases e : j = i
        · rw [e]
          intro z
          have e0 : ((0 : Int) + i) = i := by omega
          rw [← e0] at z
          have := hr.mpr z
          cases this
        · exact hf j h1 (by omega)
    · obtain ⟨x, rfl, rfl, hT, hf⟩ := hI
      fail "go"
      exact wv_end (.done .refl) hT (q2 fun h _ h1 h2 => hf h h1 (by omega))
theorem u_law_due_any {K : PySem.W.Frag} {cs : Cs} {L : Led} {T : Tps} {k : VK} {E : XK} {d : Addr} {kvs : List (List L2.Key × V)} {s : ShR} {m n : Int} (hd : (d, HO.dT kvs) ∈ L) (hs : shE cs s ∈ L) (h1 : 1 ≤ n) (h2 : n < 1000) (h3 : 0 ≤ s.h) (h4 : s.h < 1000)
    (q1 : ∀ h t T', max 0 m + n ≤ s.m → 0 ≤ h → h < s.h → FreeT kvs h (max 0 m) n → (∀ j, 0 ≤ j → j < h → ¬ FreeT kvs j (max 0 m) n) → Ts T' T → (t, [V.int h, .int (max 0 m), .int (max 0 m + n)]) ∈ T' → WV L T' k (.ref t))
    (q2 : (∀ h, max 0 m + n ≤ s.m → 0 ≤ h → h < s.h → ¬ FreeT kvs h (max 0 m) n) → WV L T k .non) : WSp L T (toSp (sp_law_due_any K cs)) [.ref d, .ref s.p, .int m, .int n] k E := wsp ⟨d, kvs, s, m, n, rfl, hd, hs, h1, h2, h3, h4, q1, q2⟩
def DueIs (kvs : List (List L2.Key × V)) (s : ShR) (house : V) (m n h b : Int) : Prop := b + n ≤ s.m ∧ max 0 m ≤ b ∧ FreeT kvs h b n ∧
  ((house = .int h ∧ ∀ b', max 0 m ≤ b' → b' < b → ¬ FreeT kvs h b' n) ∨ (house = .non ∧ b = max 0 m ∧ 0 ≤ h ∧ h < s.h ∧ ∀ j, 0 ≤ j → j < h → ¬ FreeT kvs j b n))
abbrev s_law_due : Stmt := top 26
abbrev N_law_due : List Str := ["_law_table", "_law_shape", "_law_house", "_law_moment", "_law_span", "_law_begin"]
theorem sc_law_due : FnScope N_law_due ["_law_table", "_law_shape", "_law_house", "_law_moment", "_law_span"] (defScope s_law_due) := ⟨rfl, rfl, rfl, by decide +kernel, rfl, by decide +kernel, by decide +kernel⟩
def sp_law_due (K : PySem.W.Frag) (cs : Cs) : SpL := fun vs L T Q _ => ∃ (d : Addr) (kvs : List (List L2.Key × V)) (s : ShR) (house : V) (m n : Int), vs = [.ref d, .ref s.p, house, .int m, .int n] ∧ (d, HO.dT kvs) ∈ L ∧ shE cs s ∈ L ∧ 1 ≤ n ∧ n < 1000 ∧ 0 ≤ s.h ∧ s.h < 1000 ∧
  (house = .non ∨ ∃ h, house = .int h) ∧ (∀ h b t T', DueIs kvs s house m n h b → Ts T' T → (t, [V.int h, .int b, .int (b + n)]) ∈ T' → Q (.ref t) L T') ∧ ((∀ h b, ¬ DueIs kvs s house m n h b) → Q .non L T)
theorem ok_law_due {P : Program} {w : World} {K : PySem.W.Frag} {mg : Str → Option Value} {base : Heap} {cs : Cs} {f : Addr} {fd : FuncData}
    (F : FunD K "_law_due" "_law_due" (defArgs s_law_due) (defBody s_law_due) (defScope s_law_due) [] [] f fd)
    (h_law_due_any : FdOk P w K mg base 2 "_law_due_any" ["_law_table", "_law_shape", "_law_moment", "_law_span"] [] (toSp (sp_law_due_any K cs)))
    (n_max : mg "max" = none)
    (h_law_is_free : FdOk P w K mg base 1 "_law_is_free" ["_law_table", "_law_house", "_law_begin", "_law_span"] [] (toSp (sp_law_is_free K cs)))
    (at_Shape : At_Shape K cs)
    : FnOk P w K mg base (L2.CX P w) 3 f fd ["_law_table", "_law_shape", "_law_house", "_law_moment", "_law_span"] (toSp (sp_law_due K cs)) := by
  refine F.ok (k := 2) sc_law_due (fun vs H Q E h => ?_) (fun cdv A outer s H vs Q E hr h => ?_)
  · obtain ⟨L, T, hs, h⟩ := h
    unfold sp_law_due at h
    repeat (obtain ⟨_, h⟩ := h)
    subst_vars
    rfl
  have hu := hu_of hr
  obtain ⟨cl_Shape, na_Shape_moments, na_Shape_houses, na_Shape_counts⟩ := at_Shape
  obtain ⟨L, T, hs, h⟩ := h
  unfold sp_law_due at h
  obtain ⟨d, kvs, s', house, m, n, rfl, hd, hsm, hn1, hn2, hh1, hh2, hho, q1, q2⟩ := h
  refine ⟨_, (pss_cons (ps_if (pt_cmp (pc_isN (pv 2)))
      (pss_one (ps_ret (pe_fn h_law_due_any hr (tk_fn rfl rfl rfl rfl) (pa_cons (pv 0) (pa_cons (pv 1) (pa_cons (pv 3) (pa_cons (pv 4) pa_nil)))))))
      pss_nil)
      (pss_cons (ps_set (i := 5) sc_law_due.nd rfl (Or.inl rfl) (pe_callB (call_max2 rfl) (by rfl) n_max (by decide +kernel) (pa_cons pe_int (pa_cons (pv 3) pa_nil))))
      (pss_cons (ps_while (passes_of rfl) (pt_cmpR op_le (pe_op op_add (pv 5) (pv 4)) (pe_fld (pv 1) rfl) (nomark _))
      (pss_cons (ps_if (pt_val (pe_fn h_law_is_free hr (tk_fn rfl rfl rfl rfl) (pa_cons (pv 0) (pa_cons (pv 2) (pa_cons (pv 5) (pa_cons (pv 4) pa_nil))))))
      (pss_one (ps_ret (pe_tup (pa_cons (pv 2) (pa_cons (pv 5) (pa_cons (pe_op op_add (pv 5) (pv 4)) pa_nil))))))
      pss_nil)
      (pss_one (ps_set (i := 5) sc_law_due.nd rfl (Or.inl rfl) (pe_op op_add (pv 5) pe_int)))))
      (pss_one (ps_ret pe_non))))), ok_go [some _, some _, some _, some _, some _, none] rfl hs ?_⟩
  clear hs
  have hs' : (s'.p, HO.ins cs.Shape s'.dx [("moments", .int s'.m), ("houses", .int s'.h), ("counts", .int s'.k)]) ∈ L := hsm
  rcases hho with rfl | ⟨h, rfl⟩
  · fail "go"
    refine u_law_due_any hd hsm hn1 hn2 hh1 hh2 (fun h t T' c1 c2 c3 c4 c5 c6 c7 => ?_) (fun c1 => ?_)
    · exact q1 h (max 0 m) t T' ⟨c1, Int.le_refl _, c4, .inr ⟨rfl, rfl, c2, c3, c5⟩⟩ c6 c7
    · refine q2 fun h b ⟨z1, z2, z3, z4⟩ => ?_
      rcases z4 with ⟨e, _⟩ | ⟨_, e, e1, e2, _⟩
      · cases e
      · subst e; exact c1 h z1 e1 e2 z3
  · fail "go"
    refine ws_while (I := fun v σ L' T' => ∃ b : Int, σ = [some (.ref d), some (.ref s'.p), some (.int h), some (.int m), some (.int n), some (.int b)] ∧ L' = L ∧ Ts T' T ∧ max 0 m ≤ b ∧ (∀ b', max 0 m ≤ b' → b' < b → ¬ FreeT kvs h b' n) ∧ s'.m - b < v) (s'.m.toNat + 1)
      ⟨max 0 m, rfl, rfl, .refl, Int.le_refl _, fun b' h1 h2 => by omega, by omega⟩ (fun v σ L' T' hI => ?_)
    obtain ⟨b, rfl, rfl, hT, hb, hf, hv⟩ := hI
    fail "go"
    · rename_i hc
      refine wb_wh (fun _ => ?_) (fun z => nomatch z)
      fail "go"
      refine u_law_is_free hd (by omega) hn2 fun r hr => ?_
      cases r with
      | true =>
        fail "go"
        refine wv_end (.done .refl) .refl (q1 h b _ _ ⟨hc, hb, hr.mp rfl, .inl ⟨rfl, hf⟩⟩ (.cons hT) List.mem_cons_self)
      | false =>
        fail "go"
        refine wn_nx (.done .refl) .refl ⟨v - 1, ?_, b + 1, rfl, rfl, hT, by omega, fun b' h1 h2 => ?_, ?_⟩
        · omega
        · by_cases e : b' = b
          · rw [e]; exact fun z => by have := hr.mpr z; cases this
          · exact hf b' h1 (by omega)
        · omega
    · rename_i hc
      refine wb_wh (fun z => nomatch z) (fun _ => ?_)
      fail "go"
      refine wv_end (.done .refl) hT (q2 fun h' b' ⟨z1, z2, z3, z4⟩ => ?_)
      rcases z4 with ⟨e, _⟩ | ⟨e, _⟩
      · cases e; exact hf b' z2 (by omega) z3
      · cases e
theorem u_law_due {K : PySem.W.Frag} {cs : Cs} {L : Led} {T : Tps} {k : VK} {E : XK} {d : Addr} {kvs : List (List L2.Key × V)} {s : ShR} {house : V} {m n : Int} (hd : (d, HO.dT kvs) ∈ L) (hs : shE cs s ∈ L) (h1 : 1 ≤ n) (h2 : n < 1000) (h3 : 0 ≤ s.h) (h4 : s.h < 1000) (ho : house = .non ∨ ∃ h, house = .int h)
    (q1 : ∀ h b t T', DueIs kvs s house m n h b → Ts T' T → (t, [V.int h, .int b, .int (b + n)]) ∈ T' → WV L T' k (.ref t)) (q2 : (∀ h b, ¬ DueIs kvs s house m n h b) → WV L T k .non) :
    WSp L T (toSp (sp_law_due K cs)) [.ref d, .ref s.p, house, .int m, .int n] k E := wsp ⟨d, kvs, s, house, m, n, rfl, hd, hs, h1, h2, h3, h4, ho, q1, q2⟩

abbrev s_law_let : Stmt := top 27
abbrev N_law_let : List Str := ["_law_common", "_law_holder", "_law_house", "_law_moment", "_law_span", "_law_found"]
theorem sc_law_let : FnScope N_law_let ["_law_common", "_law_holder", "_law_house", "_law_moment", "_law_span"] (defScope s_law_let) := ⟨rfl, rfl, rfl, by decide +kernel, rfl, by decide +kernel, by decide +kernel⟩
def sp_law_let (K : PySem.W.Frag) (cs : Cs) : SpL := fun vs L T Q _ => ∃ c ls F s w house n2 i n, vs = [.ref c.P, .str w, house, .int i, .int n] ∧ Pk L (comP cs c ls) F ∧ LeT T ls ∧ ls.length < 1000000 ∧ s.p = c.sh ∧ shE cs s ∈ F ∧ holderB (.str w) = true ∧ TyL F T house n2 ∧ houseB s house = true ∧ 1 ≤ n ∧
  (∀ h b, Stretch ls house i n h b → ¬ Fits s house n h b → Q .non (comL cs c ls F) T) ∧
  (∀ h b, Stretch ls house i n h b → Fits s house n h b → ∀ p dx t T', Ts T' T → (t, [V.int h, .int b, .int (b + n)]) ∈ T' → Q (.ref t) (comL cs c (ls ++ [⟨p, dx, t, w, h, b, b + n, b + n, false⟩]) F) T')
theorem ok_law_let {P : Program} {w : World} {K : PySem.W.Frag} {mg : Str → Option Value} {base : Heap} {cs : Cs} {f : Addr} {fd : FuncData}
    (F : FunD K "_law_let" "_law_let" (defArgs s_law_let) (defBody s_law_let) (defScope s_law_let) [] [] f fd)
    (ex_Ended : ExOk K mg "Ended" cs.Ended)
    (exm_Ended_Ended : PySem.W.exmOne K (.ref cs.Ended) (.ref cs.Ended) = some true)
    (m_Common_let : MtOk P w K mg base 3 cs.Common "let" ["self", "holder", "house", "moment", "span"] [] (toSp (sp_Common_let K cs)))
    : FnOk P w K mg base (L2.CX P w) 4 f fd ["_law_common", "_law_holder", "_law_house", "_law_moment", "_law_span"] (toSp (sp_law_let K cs)) := by
  refine F.ok (k := 3) sc_law_let (fun vs H Q E h => ?_) (fun cdv A outer s H vs Q E hr h => ?_)
  · obtain ⟨L, T, hs, h⟩ := h
    unfold sp_law_let at h
    repeat (obtain ⟨_, h⟩ := h)
    subst_vars
    rfl
  have hu := hu_of hr
  obtain ⟨L, T, hs, h⟩ := h
  unfold sp_law_let at h
  obtain ⟨c, ls, F, s', w', house, n2, i, n, rfl, hp, ht, hlen, hs1, hs2, hB, hty, hH, hn, q1, q2⟩ := h
  refine ⟨_, (pss_cons (ps_set (i := 5) sc_law_let.nd rfl (Or.inl rfl) pe_non)
      (pss_cons (ps_tryW rfl rfl (names_ex ex_Ended) (tk_fn rfl rfl rfl rfl) (fun _ _ _ tk1 _ => by exact Lg.pss_te (pss_one (ps_set (i := 5) sc_law_let.nd rfl (Or.inl rfl) (pe_mt m_Common_let hr tk1 (pv 0) (pa_cons (pv 1) (pa_cons (pv 2) (pa_cons (pv 3) (pa_cons (pv 4) pa_nil))))))) (by fail "te"))
      (fun _ _ _ _ _ _ _ => by exact Lg.pss_te (pss_one (ps_set (i := 5) sc_law_let.nd rfl (Or.inl rfl) pe_non)) (by fail "te")))
      (pss_one (ps_ret (pv 5))))), ok_go [some _, some _, some _, some _, some _, none] rfl hs ?_⟩
  clear hs
  have hwl : w'.length ≤ sizeLine := by
    simp only [holderB, Bool.and_eq_true, decide_eq_true_eq] at hB
    exact Nat.le_trans (show w'.length ≤ 8 by omega) (by decide)
  refine ws_pk hp ?_
  simp only [List.cons_append, List.append_nil, List.append_assoc]
  fail "go"
  refine u_Common_let (c := c) (ls := ls) (F := F) (.cons .here (.cons .here (.chunk1 .here))) ht hlen hs1 hs2 (.str w') (fun w2 e => by cases e; exact hwl) hty (.int i) (.int n) (fun z => ?_) (fun _ z => ?_) (fun _ _ z => ?_) (fun _ _ i2 n3 h b w2 e1 e2 e3 e4 st => ?_)
  · rw [hB] at z; cases z
  · rw [hH] at z; cases z
  · rcases z with z | z
    · cases z
    · simp only [posB, decide_eq_false_iff_not] at z; omega
  · cases e1; cases e2; cases e4
    refine ⟨fun z => ?_, fun z p dx t T' hT hm => ?_⟩
    · fail "go"
      exact q1 h b st z
    · fail "go"
      exact q2 h b st z p dx t T' hT hm
theorem u_law_let {K : PySem.W.Frag} {cs : Cs} {L : Led} {T : Tps} {k : VK} {E : XK} {c : ComR} {ls : List LetR} {F : Led} {s : ShR} {w : Str} {house : V} {n2 : Tn} {i n : Int} (hp : Pk L (comP cs c ls) F) (ht : LeT T ls) (hlen : ls.length < 1000000) (hs : s.p = c.sh) (hm : shE cs s ∈ F)
    (hB : holderB (.str w) = true) (hty : TyL F T house n2) (hH : houseB s house = true) (hn : 1 ≤ n) (q1 : ∀ h b, Stretch ls house i n h b → ¬ Fits s house n h b → WV (comL cs c ls F) T k .non)
    (q2 : ∀ h b, Stretch ls house i n h b → Fits s house n h b → ∀ p dx t T', Ts T' T → (t, [V.int h, .int b, .int (b + n)]) ∈ T' → WV (comL cs c (ls ++ [⟨p, dx, t, w, h, b, b + n, b + n, false⟩]) F) T' k (.ref t)) :
    WSp L T (toSp (sp_law_let K cs)) [.ref c.P, .str w, house, .int i, .int n] k E := wsp ⟨c, ls, F, s, w, house, n2, i, n, rfl, hp, ht, hlen, hs, hm, hB, hty, hH, hn, q1, q2⟩

/-! ### the table of moments and the book (plain) -/
theorem valV_dropK {κ : Type} [DecidableEq κ] (kvs : List (κ × V)) (k j : κ) : valV (dropK kvs k) j = if j = k then none else valV kvs j := by
  induction kvs with
  | nil => simp [dropK, valV_nil]
  | cons p r ih =>
    by_cases e : p.1 = k
    · have h1 : dropK (p :: r) k = dropK r k := by simp [dropK, e]
      rw [h1, ih]
      by_cases e2 : j = k
      · simp [e2]
      · rw [if_neg e2, if_neg e2, valV_neg (fun z => e2 (z.symm.trans e))]
    · have h1 : dropK (p :: r) k = p :: dropK r k := by simp [dropK, e]
      rw [h1]
      by_cases e2 : p.1 = j
      · rw [valV_pos e2, valV_pos e2, if_neg (fun z => e (e2.trans z))]
      · rw [valV_neg e2, valV_neg e2, ih]
theorem valV_putAllT {j : List L2.Key} : ∀ (ps kvs : List (List L2.Key × V)), (valV (Lg.putAllT kvs ps) j).isSome = true ↔ (∃ p ∈ ps, p.1 = j) ∨ (valV kvs j).isSome = true
  | [], kvs => by simp [Lg.putAllT]
  | p :: ps, kvs => by
    show (valV (Lg.putAllT (putK kvs p.1 p.2) ps) j).isSome = true ↔ _
    rw [valV_putAllT ps, valV_put]
    by_cases e : j = p.1
    · simp [e]
    · rw [if_neg e]
      constructor
      · rintro (⟨q, h1, h2⟩ | h)
        · exact .inl ⟨q, List.mem_cons_of_mem _ h1, h2⟩
        · exact .inr h
      · rintro (⟨q, h1, h2⟩ | h)
        · rcases List.mem_cons.mp h1 with z | z
          · rw [z] at h2; exact absurd h2.symm e
          · exact .inl ⟨q, z, h2⟩
        · exact .inr h
theorem perm_erase {α : Type} : ∀ (l : List α) (i : Nat) (h : i < l.length), l.Perm (l[i] :: l.eraseIdx i)
  | x :: l, 0, _ => .refl _
  | x :: l, i + 1, h => ((perm_erase l i (by simpa using h)).cons x).trans (.swap _ _ _)
def Tb (f : Int → Int → Bool) (ls : List LetR) : Prop := ∀ h m, f h m = true ↔ ∃ l ∈ ls, l.h = h ∧ l.b ≤ m ∧ m < l.e
abbrev isT (kvs : List (List L2.Key × V)) (h m : Int) : Bool := (valV kvs [.inl h, .inl m]).isSome
def Apart (x y : LetR) : Prop := x.h = y.h → x.e ≤ y.b ∨ y.e ≤ x.b ∨ x.e ≤ x.b ∨ y.e ≤ y.b
def unc (ls : List LetR) : List (Int × Int × Int) := (ls.filter fun l => !l.c).map fun l => (l.h, l.b, l.u)
structure Bk (kvs : List (List L2.Key × V)) (ls : List LetR) (lr : List (Addr × Int × Int × Int)) : Prop where
  tb : Tb (isT kvs) ls
  un : ∀ l ∈ ls, l.c = false → l.e = l.u ∧ l.b < l.u
  ap : ls.Pairwise Apart
  lr : (lr.map (·.2)).Perm (unc ls)
  nn : ∀ l ∈ ls, 0 ≤ l.b
theorem Apart.le {x y z : LetR} (h : Apart x y) (e1 : z.h = y.h) (e2 : z.b = y.b) (e3 : z.e ≤ y.e) : Apart x z := fun e => by
  have := h (e.trans e1)
  omega
theorem Apart.le' {x y z : LetR} (h : Apart x y) (e1 : z.h = x.h) (e2 : z.b = x.b) (e3 : z.e ≤ x.e) : Apart z y := fun e => by
  have := h (e1.symm.trans e)
  omega
theorem Bk.find {kvs : List (List L2.Key × V)} {ls : List LetR} {lr : List (Addr × Int × Int × Int)} (k : Bk kvs ls lr) {q : Addr × Int × Int × Int} (hq : q ∈ lr) :
    ∃ A l B, ls = A ++ l :: B ∧ l.c = false ∧ q.2 = (l.h, l.b, l.u) ∧ l.e = l.u ∧ l.b < l.u ∧ ∀ x ∈ B, mtB l.h l.b l.u x = false := by
  have h1 : q.2 ∈ unc ls := k.lr.mem_iff.mp (List.mem_map.mpr ⟨q, hq, rfl⟩)
  obtain ⟨l, h2, h3⟩ := List.mem_map.mp h1
  obtain ⟨h4, h5⟩ := List.mem_filter.mp h2
  have h5 : l.c = false := by simpa using h5
  obtain ⟨A, B, rfl⟩ := List.append_of_mem h4
  obtain ⟨u1, u2⟩ := k.un l h4 h5
  refine ⟨A, l, B, rfl, h5, h3.symm, u1, u2, fun x hx => ?_⟩
  have ap := (List.pairwise_cons.mp (List.pairwise_append.mp k.ap).2.1).1 x hx
  cases hz : mtB l.h l.b l.u x with
  | false => rfl
  | true =>
    simp only [mtB, Bool.and_eq_true, decide_eq_true_eq, Bool.not_eq_true'] at hz
    obtain ⟨⟨e1, e2, e3⟩, e4⟩ := hz
    obtain ⟨u3, u4⟩ := k.un x (List.mem_append_right _ (List.mem_cons_of_mem _ hx)) e4
    have := ap e1.symm
    omega
theorem Bk.cut {kvs kvs' : List (List L2.Key × V)} {A B : List LetR} {l : LetR} {lr : List (Addr × Int × Int × Int)} {j : Nat} {q : Addr × Int × Int × Int} {e' : Int} (k : Bk kvs (A ++ l :: B) lr) (hj : lr[j]? = some q) (hc : l.c = false) (hq : q.2 = (l.h, l.b, l.u))
    (h1 : l.b ≤ e') (h2 : e' ≤ l.u) (ht : ∀ h m, isT kvs' h m = true ↔ isT kvs h m = true ∧ ¬ (h = l.h ∧ e' ≤ m ∧ m < l.u)) : Bk kvs' (A ++ { l with c := true, e := e' } :: B) (lr.eraseIdx j) := by
  obtain ⟨u1, u2⟩ := k.un l (by simp) hc
  obtain ⟨p1, p2, p3⟩ := List.pairwise_append.mp k.ap
  obtain ⟨p4, p5⟩ := List.pairwise_cons.mp p2
  refine ⟨fun h m => ?_, fun x hx hxc => ?_, ?_, ?_, fun x hx => ?_⟩
  · rw [ht, k.tb]
    constructor
    · rintro ⟨⟨x, hx, a1, a2, a3⟩, a4⟩
      rcases List.mem_append.mp hx with z | z
      · exact ⟨x, List.mem_append_left _ z, a1, a2, a3⟩
      · rcases List.mem_cons.mp z with z | z
        · subst z
          exact ⟨_, List.mem_append_right _ List.mem_cons_self, a1, a2, by
            show m < e'
            have : ¬ (e' ≤ m ∧ m < x.u) := fun y => a4 ⟨a1.symm, y⟩
            omega⟩
        · exact ⟨x, List.mem_append_right _ (List.mem_cons_of_mem _ z), a1, a2, a3⟩
    · rintro ⟨x, hx, a1, a2, a3⟩
      rcases List.mem_append.mp hx with z | z
      · refine ⟨⟨x, List.mem_append_left _ z, a1, a2, a3⟩, fun ⟨b1, b2, b3⟩ => ?_⟩
        have := p3 x z l List.mem_cons_self (a1.trans b1)
        omega
      · rcases List.mem_cons.mp z with z | z
        · subst z
          simp only at a1 a2 a3
          exact ⟨⟨l, List.mem_append_right _ List.mem_cons_self, a1, a2, by omega⟩, fun ⟨b1, b2, b3⟩ => by omega⟩
        · refine ⟨⟨x, List.mem_append_right _ (List.mem_cons_of_mem _ z), a1, a2, a3⟩, fun ⟨b1, b2, b3⟩ => ?_⟩
          have := p4 x z (b1.symm.trans a1.symm)
          omega
  · rcases List.mem_append.mp hx with z | z
    · exact k.un x (List.mem_append_left _ z) hxc
    · rcases List.mem_cons.mp z with z | z
      · subst z; cases hxc
      · exact k.un x (List.mem_append_right _ (List.mem_cons_of_mem _ z)) hxc
  · refine List.pairwise_append.mpr ⟨p1, List.pairwise_cons.mpr ⟨fun x hx => (p4 x hx).le' rfl rfl (by show e' ≤ l.e; omega), p5⟩, fun x hx y hy => ?_⟩
    rcases List.mem_cons.mp hy with z | z
    · subst z; exact (p3 x hx l List.mem_cons_self).le rfl rfl (by show e' ≤ l.e; omega)
    · exact p3 x hx y (List.mem_cons_of_mem _ z)
  · have e1 : unc (A ++ l :: B) = unc A ++ (l.h, l.b, l.u) :: unc B := by simp [unc, List.filter_append, hc]
    have e2 : unc (A ++ { l with c := true, e := e' } :: B) = unc A ++ unc B := by simp [unc, List.filter_append]
    have hp := k.lr
    rw [e1] at hp
    rw [e2]
    obtain ⟨hlt, hje⟩ := List.getElem?_eq_some_iff.mp hj
    have h3 : lr.Perm (q :: lr.eraseIdx j) := by
      rw [← hje]; exact perm_erase lr j hlt
    have h4 := (h3.map (·.2)).symm.trans (hp.trans List.perm_middle)
    rw [List.map_cons, hq] at h4
    exact h4.cons_inv
  · rcases List.mem_append.mp hx with z | z
    · exact k.nn x (List.mem_append_left _ z)
    · rcases List.mem_cons.mp z with z | z
      · subst z; exact k.nn l (by simp)
      · exact k.nn x (List.mem_append_right _ (List.mem_cons_of_mem _ z))
theorem Bk.add {kvs kvs' : List (List L2.Key × V)} {ls : List LetR} {lr : List (Addr × Int × Int × Int)} {p dx t t2 : Addr} {w : Str} {h b n : Int} (k : Bk kvs ls lr) (hn : 1 ≤ n) (hb : 0 ≤ b) (hf : ¬ Lap ls h b n)
    (ht : ∀ h' m, isT kvs' h' m = true ↔ (h' = h ∧ b ≤ m ∧ m < b + n) ∨ isT kvs h' m = true) : Bk kvs' (ls ++ [⟨p, dx, t, w, h, b, b + n, b + n, false⟩]) (lr ++ [(t2, h, b, b + n)]) := by
  refine ⟨fun h' m => ?_, fun x hx hxc => ?_, ?_, ?_, fun x hx => ?_⟩
  · rw [ht, k.tb]
    constructor
    · rintro (⟨rfl, a2, a3⟩ | ⟨x, hx, a1⟩)
      · exact ⟨_, List.mem_append_right _ List.mem_cons_self, rfl, a2, a3⟩
      · exact ⟨x, List.mem_append_left _ hx, a1⟩
    · rintro ⟨x, hx, a1, a2, a3⟩
      rcases List.mem_append.mp hx with z | z
      · exact .inr ⟨x, z, a1, a2, a3⟩
      · rw [List.mem_singleton] at z
        subst z
        exact .inl ⟨a1.symm, a2, a3⟩
  · rcases List.mem_append.mp hx with z | z
    · exact k.un x z hxc
    · rw [List.mem_singleton] at z
      subst z
      exact ⟨rfl, by show b < b + n; omega⟩
  · refine List.pairwise_append.mpr ⟨k.ap, List.pairwise_singleton _ _, fun x hx y hy => ?_⟩
    rw [List.mem_singleton] at hy
    subst hy
    intro e
    simp only at e ⊢
    by_cases z1 : x.b < x.e
    · have : ¬ (x.b < b + n ∧ b < x.e) := fun z => hf ⟨x, hx, e, z1, z⟩
      omega
    · omega
  · rw [List.map_append]
    have e2 : unc (ls ++ [⟨p, dx, t, w, h, b, b + n, b + n, false⟩]) = unc ls ++ [(h, b, b + n)] := by simp [unc, List.filter_append]
    rw [e2]
    exact k.lr.append_right _
  · rcases List.mem_append.mp hx with z | z
    · exact k.nn x z
    · rw [List.mem_singleton] at z
      subst z; exact hb
/-- what the table tells of the n moments from b on -/
theorem Bk.free {kvs : List (List L2.Key × V)} {ls : List LetR} {lr : List (Addr × Int × Int × Int)} (k : Bk kvs ls lr) {h b n : Int} (hn : 1 ≤ n) : (∀ j, 0 ≤ j → j < n → valV kvs [.inl h, .inl (b + j)] = none) ↔ ¬ Lap ls h b n := by
  constructor
  · rintro hf ⟨l, hl, h1, h2, h3, h4⟩
    have a := hf (max b l.b - b) (by omega) (by omega)
    have e : b + (max b l.b - b) = max b l.b := by omega
    rw [e] at a
    have := (k.tb h (max b l.b)).mpr ⟨l, hl, h1, by omega, by omega⟩
    rw [isT, a] at this
    cases this
  · intro hf j h1 h2
    cases hz : valV kvs [.inl h, .inl (b + j)] with
    | none => rfl
    | some v =>
      obtain ⟨l, hl, a1, a2, a3⟩ := (k.tb h (b + j)).mp (by rw [isT, hz]; rfl)
      exact absurd ⟨l, hl, a1, by omega, by omega, by omega⟩ hf

theorem wsp_end {L L' : Led} {T T' : Tps} {sp : Sp} {vs : List V} {k : VK} {E : XK} (s : Sb L L') (ts : Ts T T') (q : WSp L' T' sp vs k E) : WSp L T sp vs k E := fun H hs => q H ((hs.sb s).ts ts)
theorem wm_popII {L L' : Led} {T : Tps} {k : VK} {a b : Addr} {kvs : List (List L2.Key × V)} {i j : Int} (u : Up L a (.dT kvs) (.dT (dropK kvs [.inl i, .inl j])) L') (hb : (b, [V.int i, .int j]) ∈ T) (hv : isT kvs i j = true) (q : ∀ v, WV L' T k v) : WM L T rPopT1 (.ref a) [.ref b] k := by
  obtain ⟨v, e⟩ := Option.isSome_iff_exists.mp hv
  exact wm_popT1 u hb rfl e (q v)
theorem key2 {h m i j : Int} : ([.inl h, .inl m] : List L2.Key) = [.inl i, .inl j] ↔ h = i ∧ m = j := by
  simp
theorem isT_drop {kvs : List (List L2.Key × V)} {h m i j : Int} : isT (dropK kvs [.inl i, .inl j]) h m = true ↔ isT kvs h m = true ∧ ¬ (h = i ∧ m = j) := by
  unfold isT
  rw [valV_dropK]
  by_cases e : h = i ∧ m = j
  · rw [if_pos (key2.mpr e)]; simp [e]
  · rw [if_neg (fun z => e (key2.mp z))]; simp only [e, not_false_eq_true, and_true]
theorem erase_map {α β : Type} (f : α → β) : ∀ (l : List α) (i : Nat), (l.map f).eraseIdx i = (l.eraseIdx i).map f
  | [], _ => rfl
  | _ :: _, 0 => rfl
  | x :: l, i + 1 => by
    show f x :: (l.map f).eraseIdx i = f x :: (l.eraseIdx i).map f
    rw [erase_map f l i]
theorem seq_at {i : Int} {n : Nat} (h0 : 0 ≤ i) (h1 : i < n) : seqIndex? i n = some i.toNat := by
  have e : ¬ i < 0 := by omega
  simp [seqIndex?, e, h0, h1]
theorem u_cut_end {K : PySem.W.Frag} {cs : Cs} {L : Led} {T : Tps} {k : VK} {E : XK} {c : ComR} {A B : List LetR} {l : LetR} {F : Led} {t : Addr} {used : V} (hp : Pk L (comP cs c (A ++ l :: B)) F) (ht : LeT T (A ++ l :: B)) (hlen : (A ++ l :: B).length < 1000000)
    (hm : (t, [V.int l.h, .int l.b, .int l.u]) ∈ T) (hc : l.c = false) (hB : ∀ x ∈ B, mtB l.h l.b l.u x = false) (hu : usedOk l.b l.u used) (hl : l.b < l.u)
    (q : ∀ e', endOf l.b used = e' → l.b ≤ e' → e' ≤ l.u → WV (comL cs c (A ++ { l with c := true, e := e' } :: B) F) T k .non) :
    WSp L T (toSp (sp_Common_cut K cs)) [.ref c.P, .ref t, used] k E := u_Common_cut hp ht hlen hm hc hB hu (q _ rfl (by cases used <;> simp only [endOf, usedOk] at * <;> omega) (by cases used <;> simp only [endOf, usedOk] at * <;> omega))
abbrev trT (q : Addr × Int × Int × Int) : Addr × List V := (q.1, [V.int q.2.1, .int q.2.2.1, .int q.2.2.2])
/-- the ledger of the table, the leases, the book -/
abbrev bkL (cs : Cs) (c : ComR) (d lv : Addr) (kvs : List (List L2.Key × V)) (lr : List (Addr × Int × Int × Int)) (ls : List LetR) : Led := (d, .dT kvs) :: (lv, .lst (lr.map fun q => V.ref q.1)) :: comP cs c ls
abbrev bkF (cs : Cs) (c : ComR) (d lv : Addr) (kvs : List (List L2.Key × V)) (lr : List (Addr × Int × Int × Int)) (ls : List LetR) (F : Led) : Led := (d, .dT kvs) :: (lv, .lst (lr.map fun q => V.ref q.1)) :: comL cs c ls F
abbrev s_law_cut : Stmt := top 28
abbrev N_law_cut : List Str := ["_law_common", "_law_table", "_law_leases", "_law_cell", "_law_house", "_law_first", "_law_until", "_law_used", "_law_end", "_law_moment"]
theorem sc_law_cut : FnScope N_law_cut ["_law_common", "_law_table", "_law_leases", "_law_cell"] (defScope s_law_cut) := ⟨rfl, rfl, rfl, by decide +kernel, rfl, by decide +kernel, by decide +kernel⟩
def sp_law_cut (K : PySem.W.Frag) (cs : Cs) : SpL := fun vs L T Q _ => ∃ c ls F d lv kvs lr cell, vs = [.ref c.P, .ref d, .ref lv, .int cell] ∧ Pk L (bkL cs c d lv kvs lr ls) F ∧ LeT T ls ∧ (∀ q ∈ lr, trT q ∈ T) ∧ lr ≠ [] ∧ ls.length < 1000000 ∧ lr.length < 1000000 ∧ Bk kvs ls lr ∧
  ∀ kvs' ls' lr' T', Bk kvs' ls' lr' → LeT T' ls' → (∀ q ∈ lr', trT q ∈ T') → ls'.length = ls.length → kvs'.length ≤ kvs.length → lr'.length ≤ lr.length → Ts T' T → Q .non (bkF cs c d lv kvs' lr' ls' F) T'
theorem ok_law_cut {P : Program} {w : World} {K : PySem.W.Frag} {mg : Str → Option Value} {base : Heap} {cs : Cs} {f : Addr} {fd : FuncData}
    (F : FunD K "_law_cut" "_law_cut" (defArgs s_law_cut) (defBody s_law_cut) (defScope s_law_cut) [] [] f fd)
    (h_law_draw : FdOk P w K mg base 1 "_law_draw" ["_law_cell", "_law_k"] [] (toSp (sp_law_draw K cs)))
    (n_len : mg "len" = none)
    (m_Common_cut : MtOk P w K mg base 2 cs.Common "cut" ["self", "lease", "used"] [] (toSp (sp_Common_cut K cs)))
    (n_range : mg "range" = none)
    : FnOk P w K mg base (L2.CX P w) 3 f fd ["_law_common", "_law_table", "_law_leases", "_law_cell"] (toSp (sp_law_cut K cs)) := by
  refine F.ok (k := 2) sc_law_cut (fun vs H Q E h => ?_) (fun cdv A outer s H vs Q E hr h => ?_)
  · obtain ⟨L, T, hs, h⟩ := h
    unfold sp_law_cut at h
    repeat (obtain ⟨_, h⟩ := h)
    subst_vars
    rfl
  have hu := hu_of hr
  obtain ⟨L, T, hs, h⟩ := h
  unfold sp_law_cut at h
  obtain ⟨c, ls, F, d, lv, kvs, lr, cell, rfl, hp, ht, hlt, hne, hlen, hlen2, hk, q⟩ := h
  refine ⟨_, (pss_cons (ps_asg (pe_bm PySem.F.plainAttrs_list PySem.F.slot_list_pop PySem.F.type_list_pop mt_popAt (pv 2) (pa_cons (pe_op op_modA (pe_fn h_law_draw hr (tk_fn rfl rfl rfl rfl) (pa_cons (pv 3) (pa_cons pe_int pa_nil))) (pe_callB call_lenA (by rfl) n_len (by decide +kernel) (pa_cons (pv 2) pa_nil))) pa_nil)) (pg_tup rfl (pgs_cons (pg_name (i := 4) sc_law_cut.nd rfl (Or.inl rfl)) (pgs_cons (pg_name (i := 5) sc_law_cut.nd rfl (Or.inl rfl)) (pgs_cons (pg_name (i := 6) sc_law_cut.nd rfl (Or.inl rfl)) pgs_nil)))))
      (pss_cons (ps_set (i := 7) sc_law_cut.nd rfl (Or.inl rfl) (pe_ix ix_seq (pe_lst (pa_cons pe_non (pa_cons (pv 5) (pa_cons (pe_op op_sub (pv 6) pe_int) (pa_cons (pe_op op_add (pv 5) (pe_op op_modA (pe_fn h_law_draw hr (tk_fn rfl rfl rfl rfl) (pa_cons (pv 3) (pa_cons pe_int pa_nil))) (pe_op op_sub (pv 6) (pv 5)))) pa_nil))))) (pe_op op_modA (pe_fn h_law_draw hr (tk_fn rfl rfl rfl rfl) (pa_cons (pv 3) (pa_cons pe_int pa_nil))) pe_int) (fun _ _ => rfl)))
      (pss_cons (ps_set (i := 8) sc_law_cut.nd rfl (Or.inl rfl) (pv 5))
      (pss_cons (ps_if (pt_cmp (pc_notN (pv 7)))
      (pss_one (ps_set (i := 8) sc_law_cut.nd rfl (Or.inl rfl) (pe_op op_add (pv 7) pe_int)))
      pss_nil)
      (pss_cons (ps_expr (pe_mt m_Common_cut hr (tk_fn rfl rfl rfl rfl) (pv 0) (pa_cons (pe_tup (pa_cons (pv 4) (pa_cons (pv 5) (pa_cons (pv 6) pa_nil)))) (pa_cons (pv 7) pa_nil))))
      (pss_one (ps_for (passes_of rfl) rfl (pi_range2A (by rfl) n_range (pa_cons (pv 8) (pa_cons (pv 6) pa_nil))) (pg_name (i := 9) sc_law_cut.nd rfl (Or.inl rfl))
      (pss_one (ps_expr (pe_bm PySem.F.plainAttrs_dict PySem.F.slot_dict_pop PySem.F.type_dict_pop (mt_popT1 hu) (pv 1) (pa_cons (pe_tup (pa_cons (pv 4) (pa_cons (pv 9) pa_nil))) pa_nil))))))))))), ok_go [some _, some _, some _, some _, none, none, none, none, none, none] rfl hs ?_⟩
  clear hs
  refine ws_pk hp ?_
  clear hp
  simp only [List.cons_append, List.append_nil, List.append_assoc]
  have hpos : 0 < lr.length := by cases lr with
    | nil => exact absurd rfl hne
    | cons => simp
  fail "go"
  rename_i r1 r1a r1b
  rw [List.length_map]
  have hj1 := Int.emod_lt_of_pos r1 (show (0 : Int) < lr.length by omega)
  have hj2 := Int.emod_nonneg r1 (show (lr.length : Int) ≠ 0 by omega)
  have hj : (r1 % (lr.length : Int)).toNat < lr.length := by omega
  refine wr_I (show (0 : Int) < lr.length by omega) ?_
  fail "go"
  obtain ⟨⟨a, qh, qb, qu⟩, hq⟩ : ∃ q, lr[(r1 % (lr.length : Int)).toNat]? = some q := ⟨_, List.getElem?_eq_getElem hj⟩
  have hqm := List.mem_of_getElem? hq
  have hqT : (a, [V.int qh, .int qb, .int qu]) ∈ T := hlt _ hqm
  obtain ⟨A, l, B, rfl, hc, hq2, u1, u2, hB⟩ := hk.find hqm
  obtain ⟨rfl, rfl, rfl⟩ : qh = l.h ∧ qb = l.b ∧ qu = l.u := by simpa using hq2
  refine wm_popAt (j := (r1 % (lr.length : Int)).toNat) (y := .ref a) (.there .here) (by omega) (by omega) (by rw [List.length_map]; exact seq_at hj2 hj1) (by rw [List.getElem?_map, hq]; rfl) ?_
  rw [erase_map]
  have huok : ∀ r : Int, usedOk l.b l.u (.int (l.b + r % (l.u - l.b))) := fun r => by
    have h1 := Int.emod_nonneg r (show l.u - l.b ≠ 0 by omega)
    have h2 := Int.emod_lt_of_pos r (show 0 < l.u - l.b by omega)
    exact ⟨by omega, by omega⟩
  fail "go"
  rename_i r6 r6a r6b al r7 r7a r7b
  have m4 : r7 % 4 = 0 ∨ r7 % 4 = 1 ∨ r7 % 4 = 2 ∨ r7 % 4 = 3 := by omega
  rcases m4 with e | e | e | e <;> rw [e] <;> refine wr_ixL List.mem_cons_self rfl ?_ <;> fail "go"
  all_goals
    refine wsp_end (.done (.drop .refl)) .refl ?_
    refine u_cut_end (c := c) (A := A) (l := l) (B := B) (F := (d, .dT kvs) :: (lv, .lst ((lr.eraseIdx (r1 % (lr.length : Int)).toNat).map fun q => V.ref q.1)) :: F) (.cons (.there (.there .here)) (.cons (.there (.there .here)) (.chunk1 (.there (.there .here)))))
      (ht.ts (.cons .refl)) hlen List.mem_cons_self hc hB (by first | exact trivial | exact huok _ | exact ⟨by omega, by omega⟩) u2 fun E' hE hE1 hE2 => ?_
    simp only [endOf] at hE
    fail "go"
    refine wj_range (I := fun i σ L' T' => ∃ kvsi a b x, σ = [some (.ref c.P), some (.ref d), some (.ref lv), some (.int cell), some (.int l.h), some (.int l.b), some (.int l.u), a, b, x] ∧
        L' = comL cs c (A ++ { l with c := true, e := E' } :: B) ((d, .dT kvsi) :: (lv, .lst ((lr.eraseIdx (r1 % (lr.length : Int)).toNat).map fun q => V.ref q.1)) :: F) ∧ Ts T' T ∧ kvsi.length ≤ kvs.length ∧
        ∀ h m, isT kvsi h m = true ↔ isT kvs h m = true ∧ ¬ (h = l.h ∧ E' ≤ m ∧ m < E' + i))
      ⟨kvs, _, _, _, rfl, rfl, .cons .refl, Nat.le_refl _, fun h m => ⟨fun z => ⟨z, fun y => by omega⟩, fun z => z.1⟩⟩ (fun i σ L' T' hi hI => ?_) (fun σ L' T' hI => ?_)
    · obtain ⟨kvsi, s7, s8, s10, rfl, rfl, hT, hkl, hkv⟩ := hI
      fail "go"
      refine wm_popII (.there (.there (.app .here))) List.mem_cons_self ?_ fun v => ?_
      · rw [hkv, hk.tb]
        exact ⟨⟨l, by simp, rfl, by omega, by omega⟩, fun z => by omega⟩
      · fail "go"
        refine wn_nx (.done .refl) .refl ⟨_, _, _, _, rfl, rfl, hT.cons, Nat.le_trans (dropK_le _ _) hkl, fun h m => ?_⟩
        rw [isT_drop, hkv]
        constructor
        · rintro ⟨⟨z1, z2⟩, z3⟩
          exact ⟨z1, fun y => by
            by_cases e : m = E' + i
            · exact z3 ⟨y.1, by omega⟩
            · exact z2 ⟨y.1, y.2.1, by omega⟩⟩
        · rintro ⟨z1, z2⟩
          exact ⟨⟨z1, fun y => z2 ⟨y.1, y.2.1, by omega⟩⟩, fun y => z2 ⟨y.1, by omega, by omega⟩⟩
    · obtain ⟨kvsi, s7, s8, s10, rfl, rfl, hT, hkl, hkv⟩ := hI
      fail "go"
      have hcut := hk.cut (kvs' := kvsi) hq hc rfl hE1 hE2 (fun h m => by
        rw [hkv]
        constructor
        · rintro ⟨z1, z2⟩
          exact ⟨z1, fun y => z2 ⟨y.1, y.2.1, by omega⟩⟩
        · rintro ⟨z1, z2⟩
          exact ⟨z1, fun y => z2 ⟨y.1, y.2.1, by omega⟩⟩)
      refine wv_end ?_ .refl (q kvsi _ _ T' hcut ?_ ?_ ?_ hkl (List.length_eraseIdx_le _ _) hT)
      · exact .take (.there (.there (.app .here))) (.take (.there (.there (.app .here))) (.done .refl))
      · intro z hz
        rcases List.mem_append.mp hz with y | y
        · exact hT _ (ht z (List.mem_append_left _ y))
        · rcases List.mem_cons.mp y with y | y
          · subst y; exact hT _ (ht l (List.mem_append_right _ List.mem_cons_self))
          · exact hT _ (ht z (List.mem_append_right _ (List.mem_cons_of_mem _ y)))
      · exact fun z hz => hT _ (hlt z (List.mem_of_mem_eraseIdx hz))
      · simp
theorem u_law_cut {K : PySem.W.Frag} {cs : Cs} {L : Led} {T : Tps} {k : VK} {E : XK} {c : ComR} {ls : List LetR} {F : Led} {d lv : Addr} {kvs : List (List L2.Key × V)} {lr : List (Addr × Int × Int × Int)} {cell : Int} (hp : Pk L (bkL cs c d lv kvs lr ls) F) (ht : LeT T ls) (hl : ∀ q ∈ lr, trT q ∈ T) (hne : lr ≠ [])
    (h1 : ls.length < 1000000) (h2 : lr.length < 1000000) (hk : Bk kvs ls lr)
    (q : ∀ kvs' ls' lr' T', Bk kvs' ls' lr' → LeT T' ls' → (∀ q ∈ lr', trT q ∈ T') → ls'.length = ls.length → kvs'.length ≤ kvs.length → lr'.length ≤ lr.length → Ts T' T → WV (bkF cs c d lv kvs' lr' ls' F) T' k .non) :
    WSp L T (toSp (sp_law_cut K cs)) [.ref c.P, .ref d, .ref lv, .int cell] k E := wsp ⟨c, ls, F, d, lv, kvs, lr, cell, rfl, hp, ht, hl, hne, h1, h2, hk, q⟩

theorem dr_nil : ∀ L : Led, Dr L []
  | [] => .refl
  | _ :: L => .drop (dr_nil L)
theorem wj_end {L L' : Led} {T T' : Tps} {R : It → Hp → Prop} {J : It} (s : Sb L L') (t : Ts T T') (q : WJ L' T' R J) : WJ L T R J := fun H hs => q H ((hs.sb s).ts t)
theorem ws_end {L L' : Led} {T T' : Tps} {t : TS} {D : Ends} {σ : L2.St} (s : Sb L L') (ts : Ts T T') (q : WS L' T' t D σ) : WS L T t D σ := fun H hs => q H ((hs.sb s).ts ts)
theorem wb_andif {L : Led} {T : Tps} {t u : TS} {u' : TT} {D : Ends} {σ : L2.St} {b : Bool} (hu : WS L T u D σ) (hy : b = true → WS L T u D σ → WT L T u' σ (kIfS t u D σ)) : WB L T (kAnd u' σ (kIfS t u D σ)) b := by
  cases b with
  | true => exact wb_andT (hy rfl hu)
  | false => exact wb_andF (wb_ifsF hu)
def triD (q : Addr × Int × Int × Int) : PyData := .tuple [.int q.2.1, .int q.2.2.1, .int q.2.2.2]
theorem tris_lay : ∀ zs : List (Addr × Int × Int × Int), PyData.canLayAll0 (zs.map triD) = true
  | [] => by simp [PyData.canLayAll0]
  | z :: zs => by
    have := tris_lay zs
    simp [PyData.canLayAll0, PyData.canLay0, triD, this]
theorem tris_depth : ∀ zs : List (Addr × Int × Int × Int), PyData.depthAll (zs.map triD) ≤ 5
  | [] => by simp [PyData.depthAll]
  | z :: zs => by
    have h1 := tris_depth zs
    have h2 : PyData.depth (triD z) ≤ 5 := by simp [PyData.depth, PyData.depthAll, triD]
    simp only [List.map_cons, PyData.depthAll]
    omega
theorem tris_shaped (zs : List (Addr × Int × Int × Int)) : SeqAt.shaped (.list (zs.map triD)) = true := by
  have h1 := tris_depth zs
  have h2 : PyData.depth (.list (zs.map triD)) ≤ 64 := by
    simp only [PyData.depth]
    omega
  show (PyData.canLay0 (.list (zs.map triD)) && decide (PyData.depth (.list (zs.map triD)) ≤ 64)) = true
  rw [Bool.and_eq_true]
  exact ⟨by simp only [PyData.canLay0]; exact tris_lay zs, decide_eq_true h2⟩
theorem tris_dp {K : PySem.W.Frag} {L : Led} {T : Tps} : ∀ {zs : List (Addr × Int × Int × Int)}, (∀ q ∈ zs, trT q ∈ T) → DpLs K L T (zs.map fun q => V.ref q.1) (zs.map triD)
  | [], _ => .nil
  | z :: zs, h => .cons (.tup (h z List.mem_cons_self) (.cons (.int _) (.cons (.int _) (.cons (.int _) .nil)))) (tris_dp fun q hq => h q (List.mem_cons_of_mem _ hq))
theorem eqv_nil (zs : List (Addr × Int × Int × Int)) : PyData.eqv (.list (zs.map triD)) (.list []) = zs.isEmpty := by
  cases zs <;> simp [PyData.eqv, PyData.eqvAll]
theorem paired_snoc {α β : Type} {G : α → β → Prop} {a : α} {b : β} : ∀ {l : List α} {m : List β}, Paired G l m → G a b → Paired G (l ++ [a]) (m ++ [b])
  | _, _, .nil, h => .cons h .nil
  | _, _, .cons x r, h => .cons x (paired_snoc r h)
theorem paired_imp {α β : Type} {G G' : α → β → Prop} (hg : ∀ a b, G a b → G' a b) : ∀ {l : List α} {m : List β}, Paired G l m → Paired G' l m
  | _, _, .nil => .nil
  | _, _, .cons x r => .cons (hg _ _ x) (paired_imp hg r)
def momKs (h b : Int) (n : Nat) : List (List L2.Key × V) := (List.range n).map fun k : Nat => ([.inl h, .inl (b + k)], V.bl true)
theorem momKs_mem {h b : Int} {n : Nat} {x y : Int} : (∃ p ∈ momKs h b n, p.1 = [.inl x, .inl y]) ↔ x = h ∧ b ≤ y ∧ y < b + n := by
  constructor
  · rintro ⟨p, hp, e⟩
    obtain ⟨k, hk, rfl⟩ := List.mem_map.mp hp
    have hk := List.mem_range.mp hk
    have e2 := key2.mp e
    exact ⟨e2.1.symm, by omega, by omega⟩
  · rintro ⟨rfl, h1, h2⟩
    refine ⟨([.inl x, .inl (b + ((y - b).toNat : Nat))], V.bl true), List.mem_map.mpr ⟨(y - b).toNat, List.mem_range.mpr (by omega), rfl⟩, key2.mpr ⟨rfl, by omega⟩⟩
theorem momKs_len {h b : Int} {n : Nat} : (momKs h b n).length = n := by simp [momKs]
theorem momKs_succ {h b : Int} {n : Nat} : momKs h b (n + 1) = momKs h b n ++ [([.inl h, .inl (b + n)], V.bl true)] := by simp [momKs, List.range_succ]
theorem putAll_new : ∀ (l acc : List (List L2.Key × V)), ((acc ++ l).map (·.1)).Nodup → Lg.putAllT acc l = acc ++ l
  | [], acc, _ => by simp [Lg.putAllT]
  | p :: l, acc, h => by
    have h1 : (acc.any fun kv => decide (kv.1 = p.1)) = false := by
      rw [List.any_eq_false]
      intro x hx e
      rw [List.map_append, List.map_cons, List.nodup_append] at h
      exact h.2.2 x.1 (List.mem_map.mpr ⟨x, hx, rfl⟩) p.1 List.mem_cons_self (of_decide_eq_true e)
    have h2 : putK acc p.1 p.2 = acc ++ [p] := by
      unfold putK
      rw [if_neg (by rw [h1]; decide)]
    show Lg.putAllT (putK acc p.1 p.2) l = _
    rw [h2, putAll_new l (acc ++ [p]) (by rw [List.append_assoc]; exact h), List.append_assoc]; rfl
theorem momKs_put {h b : Int} {n : Nat} : Lg.putAllT [] (momKs h b n) = momKs h b n := by
  rw [putAll_new _ _ ?_]; rfl
  rw [List.nil_append, momKs, List.map_map]
  refine List.pairwise_map.mpr (List.Pairwise.imp ?_ List.pairwise_lt_range)
  intro x y hxy e
  have := (key2.mp e).2
  omega
theorem momKs_apart (G : List L2.Key → Int) {h b : Int} {n : Nat} (hG : ∀ i j : Nat, i < n → j < n → G [.inl h, .inl (b + i)] = G [.inl h, .inl (b + j)] → i = j) : ((momKs h b n).map fun m => G m.1).Nodup := by
  rw [momKs, List.map_map]
  refine List.pairwise_map.mpr (List.Pairwise.imp_of_mem ?_ List.pairwise_lt_range)
  intro x y hx hy hxy e
  have := hG x y (List.mem_range.mp hx) (List.mem_range.mp hy) e
  omega
theorem momKs_hash {h b : Int} {n : Nat} (h1 : 0 ≤ h) (h2 : h < 6) (hb : 0 ≤ b) (hn : n < 1000) : ((momKs h b n).map fun m => tupH m.1).Nodup := by
  obtain ⟨m, rfl⟩ := Int.eq_ofNat_of_zero_le h1
  exact momKs_apart tupH fun i j hi hj e => tupH_near (by omega) hb (Nat.lt_trans hi hn) (Nat.lt_trans hj hn) e
theorem due_uniq {kvs : List (List L2.Key × V)} {ls : List LetR} {lr : List (Addr × Int × Int × Int)} {house : V} {s : ShR} {h mo n b b' h' : Int} (k : Bk kvs ls lr) (hn : 1 ≤ n) (du : DueIs kvs s house mo n h b) (st : Stretch ls house mo n h' b') : h' = h ∧ b' = b := by
  obtain ⟨d1, d2, d3, d4⟩ := du
  rcases st with ⟨e, f1, f2, f3⟩ | ⟨e, e2, f1, f2, f3⟩
  · subst e
    rcases d4 with ⟨e, d4⟩ | ⟨e, _⟩
    · cases e
      refine ⟨rfl, ?_⟩
      have z1 : ¬ b' < b := fun z => d4 b' f1 z ((k.free hn).mpr f2)
      have z2 : ¬ b < b' := fun z => (k.free hn).mp d3 (f3 b d2 z)
      omega
    · cases e
  · subst e
    rcases d4 with ⟨e, _⟩ | ⟨_, e, g1, g2, g3⟩
    · cases e
    · subst e2
      subst e
      refine ⟨?_, rfl⟩
      have z1 : ¬ h' < h := fun z => g3 h' f1 z ((k.free hn).mpr f2)
      have z2 : ¬ h < h' := fun z => (k.free hn).mp d3 (f3 h g1 z)
      omega
theorem due_fits {kvs : List (List L2.Key × V)} {house : V} {s : ShR} {h mo n b : Int} (du : DueIs kvs s house mo n h b) : Fits s house n h b := by
  obtain ⟨d1, d2, d3, d4⟩ := du
  refine ⟨d1, fun e => ?_⟩
  rcases d4 with ⟨e2, _⟩ | ⟨_, _, _, g2, _⟩
  · rw [e] at e2; cases e2
  · exact g2
theorem due_no {kvs : List (List L2.Key × V)} {ls : List LetR} {lr : List (Addr × Int × Int × Int)} {house : V} {s : ShR} {mo n b' h' : Int} (k : Bk kvs ls lr) (hn : 1 ≤ n) (hno : ∀ h b, ¬ DueIs kvs s house mo n h b) (st : Stretch ls house mo n h' b') (fit : Fits s house n h' b') : False := by
  rcases st with ⟨e, f1, f2, f3⟩ | ⟨e, e2, f1, f2, f3⟩
  · exact hno h' b' ⟨fit.1, f1, (k.free hn).mpr f2, .inl ⟨e, fun b2 z1 z2 z3 => (k.free hn).mp z3 (f3 b2 z1 z2)⟩⟩
  · exact hno h' b' ⟨fit.1, by omega, (k.free hn).mpr f2, .inr ⟨e, e2, f1, fit.2 e, fun j z1 z2 z3 => (k.free hn).mp z3 (f3 j z1 z2)⟩⟩
theorem bk_len {kvs : List (List L2.Key × V)} {ls : List LetR} {lr : List (Addr × Int × Int × Int)} (k : Bk kvs ls lr) : lr.length ≤ ls.length := by
  have h := k.lr.length_eq
  rw [List.length_map] at h
  rw [h, unc, List.length_map]
  exact List.length_filter_le _ _
theorem bk_nil : Bk [] [] [] := ⟨fun h m => ⟨fun z => by simp [isT, valV_nil] at z, fun ⟨l, z, _⟩ => nomatch z⟩, (fun l z => nomatch z), .nil, .refl _, (fun l z => nomatch z)⟩
theorem cut_ints {xs : List Int} {lo hi : Option Int} {i : Nat} {x : V} (h : (cutV (xs.map V.int) lo hi)[i]? = some x) : ∃ j, x = .int j := by
  have h1 := List.mem_of_getElem? h
  unfold cutV at h1
  obtain ⟨j, _, e⟩ := List.mem_map.mp (List.mem_of_mem_drop (List.mem_of_mem_take h1))
  exact ⟨j, e.symm⟩
theorem cut_len {xs : List V} : (cutV xs (some 2) (some 32)).length ≤ 32 := by
  unfold cutV
  rw [List.length_take]
  refine Nat.le_trans (Nat.min_le_left _ _) ?_
  have : HT.sIx xs.length xs.length (some 32) ≤ 32 := by
    simp [HT.sIx]
    try omega
  omega
abbrev s_law : Stmt := top 29
abbrev N_law : List Str := ["_law_script", "_law_first", "_law_far_here", "_law_many", "_law_shape", "_law_common", "_law_table", "_law_leases", "_law_cell", "_law_way", "_law_house", "_law_moment", "_law_span", "_law_due_here", "_law_one"]
theorem sc_law : FnScope N_law ["_law_script"] (defScope s_law) := ⟨rfl, rfl, rfl, by decide +kernel, rfl, by decide +kernel, by decide +kernel⟩
def sp_law (K : PySem.W.Frag) (cs : Cs) : SpL := fun vs L T Q _ => ∃ (a : Addr) (xs : List Int), vs = [.ref a] ∧ (∀ L' T', (∀ x ∈ L, x ∈ L') → IsL K L' T' a (xs.map V.int)) ∧ Q (.bl true) [] []
theorem ok_law {P : Program} {w : World} {K : PySem.W.Frag} {mg : Str → Option Value} {base : Heap} {cs : Cs} {f : Addr} {fd : FuncData}
    (F : FunD K "law" "law" (defArgs s_law) (defBody s_law) (defScope s_law) [] [] f fd)
    (h_law_cell_at : FdOk P w K mg base 1 "_law_cell_at" ["_law_script", "_law_k"] [] (toSp (sp_law_cell_at K cs)))
    (h_law_far_moment : FdOk P w K mg base 3 "_law_far_moment" ["_law_cell"] [] (toSp (sp_law_far_moment K cs)))
    (h_law_draw : FdOk P w K mg base 1 "_law_draw" ["_law_cell", "_law_k"] [] (toSp (sp_law_draw K cs)))
    (mk_Shape : MkOk P w K mg base 2 "Shape" cs.Shape ["self", "moments", "houses", "counts"] [] (toSp (sp_Shape_init K cs)))
    (mk_Common : MkOk P w K mg base 1 "Common" cs.Common ["self", "shape"] [] (toSp (sp_Common_init K cs)))
    (h_law_cut : FdOk P w K mg base 3 "_law_cut" ["_law_common", "_law_table", "_law_leases", "_law_cell"] [] (toSp (sp_law_cut K cs)))
    (n_int : mg "int" = none)
    (h_law_due : FdOk P w K mg base 3 "_law_due" ["_law_table", "_law_shape", "_law_house", "_law_moment", "_law_span"] [] (toSp (sp_law_due K cs)))
    (h_law_let : FdOk P w K mg base 4 "_law_let" ["_law_common", "_law_holder", "_law_house", "_law_moment", "_law_span"] [] (toSp (sp_law_let K cs)))
    (n_dict : mg "dict" = none)
    (n_range : mg "range" = none)
    (n_len : mg "len" = none)
    (m_Common_leases : MtOk P w K mg base 2 cs.Common "leases" ["self"] [] (toSp (sp_Common_leases K cs)))
    (at_Shape : At_Shape K cs)
    (at_Common : At_Common K cs)
    (at_Let : At_Let K cs)
    : FnOk P w K mg base (L2.CX P w) 5 f fd ["_law_script"] (toSp (sp_law K cs)) := by
  refine F.ok (k := 4) sc_law (fun vs H Q E h => ?_) (fun cdv A outer s H vs Q E hr h => ?_)
  · obtain ⟨L, T, hs, h⟩ := h
    unfold sp_law at h
    repeat (obtain ⟨_, h⟩ := h)
    subst_vars
    rfl
  have hu := hu_of hr
  obtain ⟨cl_Shape, na_Shape_moments, na_Shape_houses, na_Shape_counts⟩ := at_Shape
  obtain ⟨cl_Common, na_Common_shape, na_Common_lets⟩ := at_Common
  obtain ⟨cl_Let, na_Let_holder, na_Let_lease, na_Let_end, na_Let_is_cut⟩ := at_Let
  obtain ⟨L, T, hs, h⟩ := h
  unfold sp_law at h
  obtain ⟨a, xs, rfl, hI, q⟩ := h
  refine ⟨_, (pss_cons (ps_set (i := 1) sc_law.nd rfl (Or.inl rfl) (pe_fn h_law_cell_at hr (tk_fn rfl rfl rfl rfl) (pa_cons (pv 0) (pa_cons pe_int pa_nil))))
      (pss_cons (ps_set (i := 2) sc_law.nd rfl (Or.inl rfl) (pe_fn h_law_far_moment hr (tk_fn rfl rfl rfl rfl) (pa_cons (pv 1) pa_nil)))
      (pss_cons (ps_set (i := 3) sc_law.nd rfl (Or.inl rfl) (pe_op op_add pe_int (pe_op op_modA (pe_fn h_law_draw hr (tk_fn rfl rfl rfl rfl) (pa_cons (pv 1) (pa_cons pe_int pa_nil))) pe_int)))
      (pss_cons (ps_set (i := 4) sc_law.nd rfl (Or.inl rfl) (pe_mk mk_Shape hr (tk_fn rfl rfl rfl rfl) (pa_cons (pe_op op_add (pv 2) (pv 3)) (pa_cons (pe_op op_add pe_int (pe_op op_modA (pe_fn h_law_draw hr (tk_fn rfl rfl rfl rfl) (pa_cons (pv 1) (pa_cons pe_int pa_nil))) pe_int)) (pa_cons (pe_op op_add pe_int (pe_op op_modA (pe_fn h_law_draw hr (tk_fn rfl rfl rfl rfl) (pa_cons (pv 1) (pa_cons pe_int pa_nil))) pe_int)) pa_nil)))))
      (pss_cons (ps_set (i := 5) sc_law.nd rfl (Or.inl rfl) (pe_mk mk_Common hr (tk_fn rfl rfl rfl rfl) (pa_cons (pv 4) pa_nil)))
      (pss_cons (ps_set (i := 6) sc_law.nd rfl (Or.inl rfl) pe_dnewT)
      (pss_cons (ps_set (i := 7) sc_law.nd rfl (Or.inl rfl) (pe_lst pa_nil))
      (pss_cons (ps_for (passes_of rfl) rfl (pi_list (pe_slice sl_list (pv 0) (po_some pe_int) (po_some pe_int))) (pg_name (i := 8) sc_law.nd rfl (Or.inl rfl))
      (pss_cons (ps_set (i := 9) sc_law.nd rfl (Or.inl rfl) (pe_op op_modA (pe_fn h_law_draw hr (tk_fn rfl rfl rfl rfl) (pa_cons (pv 8) (pa_cons pe_int pa_nil))) pe_int))
      (pss_one (ps_if (PW.pt (pw_and (pt_cmpR op_eq (pv 9) pe_int (nomark _)) (pw_and1 (pt_cmpR (op_neD (Nat.lt_of_le_of_lt (Nat.add_le_add_left (by decide : 64 ≤ 64) _) hr.units)) (pv 7) (pe_lst pa_nil) (nomark _)))))
      (pss_one (ps_expr (pe_fn h_law_cut hr (tk_fn rfl rfl rfl rfl) (pa_cons (pv 5) (pa_cons (pv 6) (pa_cons (pv 7) (pa_cons (pv 8) pa_nil)))))))
      (pss_cons (ps_set (i := 10) sc_law.nd rfl (Or.inl rfl) (pe_ix ix_seq (pe_lst (pa_cons pe_non (pa_cons (pe_op op_modA (pe_fn h_law_draw hr (tk_fn rfl rfl rfl rfl) (pa_cons (pv 8) (pa_cons pe_int pa_nil))) (pe_fld (pv 4) rfl)) pa_nil))) (pe_callTy call_int1 (by rfl) n_int (by decide +kernel) (pa_cons (pe_cmpR op_eq (pv 9) pe_int (nomark _)) pa_nil)) (fun _ _ => rfl)))
      (pss_cons (ps_set (i := 11) sc_law.nd rfl (Or.inl rfl) (pe_op op_sub (pe_op op_add (pv 2) (pe_op op_modA (pe_fn h_law_draw hr (tk_fn rfl rfl rfl rfl) (pa_cons (pv 8) (pa_cons pe_int pa_nil))) (pe_op op_add (pv 3) pe_int))) pe_int))
      (pss_cons (ps_set (i := 12) sc_law.nd rfl (Or.inl rfl) (pe_op op_add pe_int (pe_op op_modA (pe_fn h_law_draw hr (tk_fn rfl rfl rfl rfl) (pa_cons (pv 8) (pa_cons pe_int pa_nil))) (pe_ix ix_seq (pe_lst (pa_cons pe_int (pa_cons pe_int (pa_cons (pe_op op_add (pv 3) pe_int) pa_nil)))) (pe_op op_modA (pe_fn h_law_draw hr (tk_fn rfl rfl rfl rfl) (pa_cons (pv 8) (pa_cons pe_int pa_nil))) pe_int) (fun _ _ => rfl)))))
      (pss_cons (ps_set (i := 13) sc_law.nd rfl (Or.inr rfl) (pe_fn h_law_due hr (tk_fn rfl rfl rfl rfl) (pa_cons (pv 6) (pa_cons (pv 4) (pa_cons (pv 10) (pa_cons (pv 11) (pa_cons (pv 12) pa_nil)))))))
      (pss_cons (ps_if (pt_cmpR (op_neD (Nat.lt_of_le_of_lt (Nat.add_le_add_left (by decide : 64 ≤ 64) _) hr.units)) (pe_fn h_law_let hr (tk_fn rfl rfl rfl rfl) (pa_cons (pv 5) (pa_cons pe_str (pa_cons (pv 10) (pa_cons (pv 11) (pa_cons (pv 12) pa_nil)))))) (pv 13) (nomark _))
      (pss_one (ps_ret pe_bl))
      pss_nil)
      (pss_one (ps_if (pt_cmp (pc_notN (pv 13)))
      (pss_cons (ps_expr (pe_bm PySem.F.plainAttrs_list PySem.F.slot_list_append PySem.F.type_list_append mt_append (pv 7) (pa_cons (pv 13) pa_nil)))
      (pss_one (ps_expr (pe_bm PySem.F.plainAttrs_dict PySem.F.slot_dict_update PySem.F.type_dict_update (mt_updT (Nat.lt_of_le_of_lt (Nat.add_le_add_left (by decide : 8 ≤ 64) _) hr.units)) (pv 6) (pa_cons (pe_callTy (call_dictT rfl (Nat.lt_of_le_of_lt (Nat.add_le_add_left (by decide : 8 ≤ 64) _) hr.units)) (by rfl) n_dict (by decide +kernel) (pa_cons (pe_lc (own := [("_law_one", 14)]) (g := gName 14) (tt := tYes) rfl sc_law.nd (pi_range2A (by rfl) n_range (pa_cons (pe_ix ix_seq (pv 13) pe_int (fun _ _ => rfl)) (pa_cons (pe_ix ix_seq (pv 13) pe_int (fun _ _ => rfl)) pa_nil))) (blkOk_by (own := [("_law_one", 14)]) (N := N_law) (sc := defScope s_law) (by decide +kernel)) (fun _ _ _ _ _ => by exact Lg.pg_te (pg_name (i := 14) sc_law.nd rfl (Or.inl rfl)) (by fail "te")) (fun _ _ _ _ _ => pts_nil) (fun _ _ _ _ _ => by exact Lg.pe_te (pe_tup (pa_cons (pe_tup (pa_cons (pe_ix ix_seq (pv 13) pe_int (fun _ _ => rfl)) (pa_cons (pv 14) pa_nil))) (pa_cons pe_bl pa_nil))) (by fail "te"))) pa_nil)) pa_nil)))))
      pss_nil)))))))))))
      (pss_one (ps_ret (pe_cmpR op_ge (pe_callB call_lenA (by rfl) n_len (by decide +kernel) (pa_cons (pe_mt0 m_Common_leases hr (tk_fn rfl rfl rfl rfl) (pv 5)) pa_nil)) (pe_callB call_lenA (by rfl) n_len (by decide +kernel) (pa_cons (pv 7) pa_nil)) (nomark _)))))))))))), ok_go [some _, none, none, none, none, none, none, none, none, none, none, none, none, none, none] rfl hs ?_⟩
  clear hs
  fail "go"
  refine u_law_cell_at (xs := xs) (i := 0) (hI _ _ fun _ z => z) ?_
  fail "go"
  rename_i far f1 f2 r1 _ _ r2 _ _ r3 _ _ p dx
  refine u_Shape_int (by omega) (by omega) (by omega) ?_
  fail "go"
  rename_i P Pdx
  refine u_Common_init fun lp => ?_
  fail "go"
  rename_i d lv
  refine wov_slI (hI _ _ (fun x hx => by simp [hx])) fun sl => ?_
  fail "go"
  refine wj_end (L' := bkF cs ⟨P, Pdx, lp, p⟩ d lv [] [] [] [shE cs ⟨p, dx, far + (1 + r1 % 30), 1 + r2 % 6, 1 + r3 % 9⟩, (sl, .lst (cutV (xs.map V.int) (some 2) (some 32)))]) (T' := []) ?_ .nil ?_
  · exact .take (.there (.there .here)) (.take (.there .here) (.take (.there .here) (.take (.there .here) (.take (.there .here) (.take .here (.done (dr_nil _)))))))
  have hlen := cut_len (xs := xs.map V.int)
  refine wj_list (xs := cutV (xs.map V.int) (some 2) (some 32)) (I := fun i σ L' T' => ∃ kvs ls lr s8 s9 s10 s11 s12 s13 s14, σ = [some (.ref a), some (.int (xs.getD 0 0)), some (.int far), some (.int (1 + r1 % 30)), some (.ref p), some (.ref P), some (.ref d), some (.ref lv), s8, s9, s10, s11, s12, s13, s14] ∧
      L' = bkF cs ⟨P, Pdx, lp, p⟩ d lv kvs lr ls [shE cs ⟨p, dx, far + (1 + r1 % 30), 1 + r2 % 6, 1 + r3 % 9⟩, (sl, .lst (cutV (xs.map V.int) (some 2) (some 32)))] ∧
      LeT T' ls ∧ (∀ q ∈ lr, trT q ∈ T') ∧ Bk kvs ls lr ∧ ls.length ≤ i ∧ lr.length ≤ i ∧ kvs.length ≤ 50 * i)
    ⟨[], [], [], none, none, none, none, none, none, none, rfl, rfl, (fun l z => nomatch z), (fun l z => nomatch z), bk_nil, Nat.le_refl _, Nat.le_refl _, Nat.le_refl _⟩ (fun i σ L' T' hI2 => ?_) (fun i x σ L' T' hx hI2 => ?_) (fun σ L' T' hI2 => ?_)
  · obtain ⟨kvs, ls, lr, _, _, _, _, _, _, _, _, rfl, _⟩ := hI2
    exact IsL.of (by simp)
  · obtain ⟨kvs, ls, lr, s8, s9, s10, s11, s12, s13, s14, rfl, rfl, hT, hlt, hk, n1, n2, n3⟩ := hI2
    obtain ⟨cell, rfl⟩ := cut_ints hx
    have hi := (List.getElem?_eq_some_iff.mp hx).1
    fail "gos"
    refine wb_andif ?_ fun _ hels => ?_
    · fail "gos"
      rename_i rw0 _ _ h0 h0a h0b al0
      have hh1 : 0 ≤ h0 % (1 + r2 % 6) := Int.emod_nonneg _ (by omega)
      have hh2 : h0 % (1 + r2 % 6) < 1 + r2 % 6 := Int.emod_lt_of_pos _ (by omega)
      obtain ⟨house, hix, ho⟩ : ∃ house, atI [V.non, V.int (h0 % (1 + r2 % 6))] (if decide (rw0 % 5 = 1) = true then 1 else 0) = some house ∧ (house = .non ∨ house = .int (h0 % (1 + r2 % 6))) := by
        cases decide (rw0 % 5 = 1)
        · exact ⟨_, rfl, .inl rfl⟩
        · exact ⟨_, rfl, .inr rfl⟩
      refine wr_ixL List.mem_cons_self hix ?_
      fail "gos"
      rename_i m0 m0a m0b r8 r8a r8b al r9 r9a r9b
      obtain ⟨m, hm, hm1, hm2⟩ : ∃ m, atI [V.int 2, V.int 7, V.int (1 + r1 % 30 + 2)] (r9 % 3) = some (.int m) ∧ 1 ≤ m ∧ m ≤ 42 := by
        rcases mod3 (r := r9) with e | e | e <;> rw [e]
        · exact ⟨2, rfl, by omega, by omega⟩
        · exact ⟨7, rfl, by omega, by omega⟩
        · exact ⟨1 + r1 % 30 + 2, rfl, by omega, by omega⟩
      refine wr_ixL List.mem_cons_self hm ?_
      fail "gos"
      obtain ⟨n, hn⟩ : ∃ n, n = 1 + r8 % m := ⟨_, rfl⟩
      have hn1 : 1 ≤ n := by have := Int.emod_nonneg r8 (show m ≠ 0 by omega); omega
      have hn3 : n ≤ 43 := by have := Int.emod_lt_of_pos r8 (show 0 < m by omega); omega
      have hn2 : n < 1000 := by have := Int.emod_lt_of_pos r8 (show 0 < m by omega); omega
      obtain ⟨mo, hmo⟩ : ∃ mo, mo = far + m0 % (1 + r1 % 30 + 3) - 2 := ⟨_, rfl⟩
      rw [← hn, ← hmo]
      have hho : house = .non ∨ ∃ h, house = .int h := ho.elim .inl fun z => .inr ⟨_, z⟩
      have hhB : houseB ⟨p, dx, far + (1 + r1 % 30), 1 + r2 % 6, 1 + r3 % 9⟩ house = true := by
        rcases ho with rfl | rfl
        · rfl
        · simp [houseB, belowB, hh1, hh2]
      obtain ⟨nk, hty⟩ : ∃ nk, ∀ (F : Led) (T : Tps), TyL F T house nk := by
        rcases ho with rfl | rfl
        · exact ⟨_, fun F T => .non⟩
        · exact ⟨_, fun F T => .int _⟩
      refine wsp_end (.done (.drop (.drop .refl))) .refl ?_
      refine u_law_due (kvs := kvs) (s := ⟨p, dx, far + (1 + r1 % 30), 1 + r2 % 6, 1 + r3 % 9⟩) List.mem_cons_self (by fail "lk") hn1 hn2 (by show 0 ≤ 1 + r2 % 6; omega) (by show 1 + r2 % 6 < 1000; omega) hho (fun h b t T2 du hTs htm => ?_) (fun hno => ?_)
      · have hhb : 0 ≤ h ∧ h < 6 := by
          have e0 : h < 1 + r2 % 6 → h < 6 := fun z => by omega
          rcases du.2.2.2 with ⟨e, _⟩ | ⟨_, _, g1, g2, _⟩
          · rcases ho with z | z
            · rw [z] at e; cases e
            · rw [z] at e; cases e; exact ⟨hh1, e0 hh2⟩
          · exact ⟨g1, e0 g2⟩
        fail "gos"
        refine u_law_let (c := ⟨P, Pdx, lp, p⟩) (ls := ls) (F := [(d, .dT kvs), (lv, .lst (lr.map fun q => V.ref q.1)), shE cs ⟨p, dx, far + (1 + r1 % 30), 1 + r2 % 6, 1 + r3 % 9⟩, (sl, .lst (cutV (xs.map V.int) (some 2) (some 32)))]) (s := ⟨p, dx, far + (1 + r1 % 30), 1 + r2 % 6, 1 + r3 % 9⟩)
          (.cons (.there (.there .here)) (.cons (.there (.there .here)) (.chunk1 (.there (.there .here))))) (hT.ts hTs) (by omega) rfl (by fail "lk") (by decide +kernel) (hty _ _) hhB hn1 (fun h' b' st nf => ?_) (fun h' b' st fit q1 dx2 t2 T3 hT3 ht3 => ?_)
        · obtain ⟨rfl, rfl⟩ := due_uniq hk hn1 du st
          exact absurd (due_fits du) nf
        · obtain ⟨rfl, rfl⟩ := due_uniq hk hn1 du st
          have htm3 := hT3 _ htm
          have hb0 : 0 ≤ b' := by have := du.2.1; omega
          have hfree := du.2.2.1
          fail "gos"
          refine wr_neD (.tup ht3 (.cons (.int _) (.cons (.int _) (.cons (.int _) .nil)))) (.tup htm3 (.cons (.int _) (.cons (.int _) (.cons (.int _) .nil)))) rfl rfl ?_
          rw [eqv3, decide_eq_true rfl, decide_eq_true rfl, decide_eq_true rfl]
          refine (show WV _ _ _ (.bl false) from ?_)
          fail "gos"
          refine wm_append (.there (.there (.app (.there .here)))) (by rw [List.length_map]; exact Nat.lt_trans (show lr.length < 1000 by omega) (by decide)) ?_
          fail "gos"
          have hN : (b' + n - b').toNat = n.toNat := by congr 1; omega
          rw [hN]
          refine wj_lcR (I := fun Dl i L' T' => ∃ ps : List Addr, L' = (Dl, .lst (ps.map V.ref)) :: comL cs ⟨P, Pdx, lp, p⟩ (ls ++ [⟨q1, dx2, t2, "b", h', b', b' + n, b' + n, false⟩])
              [(d, .dT kvs), (lv, .lst ((lr.map fun q => V.ref q.1) ++ [V.ref t])), shE cs ⟨p, dx, far + (1 + r1 % 30), 1 + r2 % 6, 1 + r3 % 9⟩, (sl, .lst (cutV (xs.map V.int) (some 2) (some 32)))] ∧ Ts T' T3 ∧
              Paired (fun t kv => ∃ b, (t, [V.ref b, kv.2]) ∈ T' ∧ (b, kv.1.map kV) ∈ T') ps (momKs h' b' i))
            (fun Dl => ⟨[], rfl, .refl, .nil⟩) (fun Dl j L2 T4 hj hI4 => ?_) (fun Dl L2 T4 hI4 => ?_)
          · obtain ⟨ps, rfl, hT4, hps⟩ := hI4
            have htm4 := hT4 _ htm3
            fail "gos"
            refine wv_lcE .here ?_ (.done .refl) .refl ?_
            · rw [List.length_map, Paired.length hps]
              simp only [momKs, List.length_map, List.length_range]
              exact Nat.lt_trans (show j < 1000 by omega) (by decide)
            · refine ⟨ps ++ [_], by rw [List.map_append]; rfl, hT4.cons.cons, ?_⟩
              rw [momKs_succ]
              exact paired_snoc (paired_imp (fun a b ⟨c, h1, h2⟩ => ⟨c, List.mem_cons_of_mem _ (List.mem_cons_of_mem _ h1), List.mem_cons_of_mem _ (List.mem_cons_of_mem _ h2)⟩) hps) ⟨_, List.mem_cons_self, List.mem_cons_of_mem _ List.mem_cons_self⟩
          · obtain ⟨ps, rfl, hT4, hps⟩ := hI4
            fail "gos"
            refine wc_dictT List.mem_cons_self hps fun pd => ?_
            rw [momKs_put]
            fail "gos"
            refine wm_nd fun nd => ?_
            have hne : d ≠ pd := by
              intro e
              subst e
              simp at nd
            refine wm_updT (.there (.there (.there (.there (.app .here))))) List.mem_cons_self hne ?_ ?_ ?_ ?_
            · rw [momKs_len]; exact Nat.le_trans (show kvs.length + n.toNat ≤ 3000 by omega) (by decide)
            · intro m hm
              obtain ⟨k, _, rfl⟩ := List.mem_map.mp hm
              rfl
            · exact momKs_hash hhb.1 hhb.2 hb0 (by omega)
            · fail "gos"
              refine wn_nx (L' := bkF cs ⟨P, Pdx, lp, p⟩ d lv (Lg.putAllT kvs (momKs h' b' n.toNat)) (lr ++ [(t, h', b', b' + n)]) (ls ++ [⟨q1, dx2, t2, "b", h', b', b' + n, b' + n, false⟩])
                [shE cs ⟨p, dx, far + (1 + r1 % 30), 1 + r2 % 6, 1 + r3 % 9⟩, (sl, .lst (cutV (xs.map V.int) (some 2) (some 32)))]) ?_ .refl ⟨_, _, _, _, _, _, _, _, _, _, rfl, rfl, ?_, ?_, ?_, ?_, ?_, ?_⟩
              · simp only [List.map_append, List.map_cons, List.map_nil, bkF, comL]
                exact .take (.there (.there (.there (.there (.app .here))))) (.take (.there (.there (.there (.there (.app .here))))) (.done (.drop (.drop .refl))))
              · intro z hz
                rcases List.mem_append.mp hz with y | y
                · exact hT4 _ (hT3 _ (hTs _ (hT z y)))
                · rw [List.mem_singleton.mp y]; exact hT4 _ ht3
              · intro z hz
                rcases List.mem_append.mp hz with y | y
                · exact hT4 _ (hT3 _ (hTs _ (hlt z y)))
                · rw [List.mem_singleton.mp y]; exact hT4 _ htm3
              · refine hk.add (t2 := t) hn1 hb0 ((hk.free hn1).mp hfree) fun x y => ?_
                rw [isT, valV_putAllT, momKs_mem]
                have e0 : ((n.toNat : Nat) : Int) = n := Int.toNat_of_nonneg (by omega)
                rw [e0]
              · rw [List.length_append]; simp only [List.length_cons, List.length_nil]; omega
              · rw [List.length_append]; simp only [List.length_cons, List.length_nil]; omega
              · have z1 := putAllT_length (momKs h' b' n.toNat) kvs
                rw [momKs_len] at z1
                omega
      · fail "gos"
        refine u_law_let (c := ⟨P, Pdx, lp, p⟩) (ls := ls) (F := [(d, .dT kvs), (lv, .lst (lr.map fun q => V.ref q.1)), shE cs ⟨p, dx, far + (1 + r1 % 30), 1 + r2 % 6, 1 + r3 % 9⟩, (sl, .lst (cutV (xs.map V.int) (some 2) (some 32)))]) (s := ⟨p, dx, far + (1 + r1 % 30), 1 + r2 % 6, 1 + r3 % 9⟩)
          (.cons (.there (.there .here)) (.cons (.there (.there .here)) (.chunk1 (.there (.there .here))))) hT (by omega) rfl (by fail "lk") (by decide +kernel) (hty _ _) hhB hn1 (fun h' b' st nf => ?_) (fun h' b' st fit q1 dx2 t2 T3 hT3 ht3 => ?_)
        · fail "gos"
          refine wr_neD .non .non rfl rfl (show WV _ _ _ (.bl false) from ?_)
          fail "gos"
          exact wn_nx (.take (.there (.there (.app .here))) (.take (.there (.there (.app .here))) (.done .refl))) .refl ⟨kvs, ls, lr, _, _, _, _, _, _, _, rfl, rfl, hT, hlt, hk, by omega, by omega, by omega⟩
        · exact (due_no hk hn1 hno st fit).elim
    · fail "gos"
      refine wr_neD (d := .list (lr.map triD)) (e := .list []) (.lst (by fail "lk") (tris_dp hlt)) (.lst (by fail "lk") .nil) (tris_shaped lr) (by decide) ?_
      rw [eqv_nil]
      cases hz : lr.isEmpty with
      | true =>
        show WV _ _ _ (.bl false)
        exact wv_kB (wb_ifsF (ws_end (.done (.drop .refl)) .refl hels))
      | false =>
        clear hels
        fail "gos"
        refine wsp_end (.done (.drop .refl)) .refl ?_
        refine u_law_cut (c := ⟨P, Pdx, lp, p⟩) (d := d) (lv := lv) (F := [shE cs ⟨p, dx, far + (1 + r1 % 30), 1 + r2 % 6, 1 + r3 % 9⟩, (sl, .lst (cutV (xs.map V.int) (some 2) (some 32)))])
          (.cons .here (.cons .here (.cons .here (.cons .here (.chunk1 .here))))) hT hlt (fun z => by rw [z] at hz; cases hz) (by omega) (by omega) hk fun kvs' ls' lr' T2 k1 k2 k3 k4 k5 k6 k7 => ?_
        fail "gos"
        exact wn_nx (.done .refl) .refl ⟨kvs', ls', lr', _, _, _, _, _, _, _, rfl, rfl, k2, k3, k1, by omega, by omega, by omega⟩
  · obtain ⟨kvs, ls, lr, _, _, _, _, _, _, _, rfl, rfl, hT, hlt, hk, n1, n2, n3⟩ := hI2
    fail "gos"
    refine u_Common_leases (c := ⟨P, Pdx, lp, p⟩) (ls := ls) (F := [(d, .dT kvs), (lv, .lst (lr.map fun q => V.ref q.1)), shE cs ⟨p, dx, far + (1 + r1 % 30), 1 + r2 % 6, 1 + r3 % 9⟩, (sl, .lst (cutV (xs.map V.int) (some 2) (some 32)))])
      (.cons (.there (.there .here)) (.cons (.there (.there .here)) (.chunk1 (.there (.there .here))))) hT (by omega) fun pl ts T2 h1 h2 => ?_
    fail "gos"
    have e1 := pr_len h2
    have e2 := bk_len hk
    rw [List.length_map, List.length_map, decide_eq_true (show (lr.length : Int) ≤ (ts.length : Int) by omega)]
    exact wv_end (.done (dr_nil _)) .nil q

end K22
set_option maxHeartbeats 0
namespace K22
open PySem PySem.Spec PyProof.Rows L2 Lg
def d_law_cell_at : He.DefD := ⟨("_law_cell_at", none), "_law_cell_at", "_law_cell_at", defArgs s_law_cell_at, defBody s_law_cell_at, defScope s_law_cell_at, [], []⟩
def d_law_draw : He.DefD := ⟨("_law_draw", none), "_law_draw", "_law_draw", defArgs s_law_draw, defBody s_law_draw, defScope s_law_draw, [], []⟩
def d_law_far : He.DefD := ⟨("_law_far", none), "_law_far", "_law_far", defArgs s_law_far, defBody s_law_far, defScope s_law_far, [], []⟩
def d_law_far_moment : He.DefD := ⟨("_law_far_moment", none), "_law_far_moment", "_law_far_moment", defArgs s_law_far_moment, defBody s_law_far_moment, defScope s_law_far_moment, [], []⟩
def d_is_whole : He.DefD := ⟨("is_whole", none), "is_whole", "is_whole", defArgs s_is_whole, defBody s_is_whole, defScope s_is_whole, [], []⟩
def d_Shape_init : He.DefD := ⟨("Shape", some "__init__"), "__init__", "Shape.__init__", defArgs s_Shape_init, defBody s_Shape_init, defScope s_Shape_init, [], []⟩
def d_Common_init : He.DefD := ⟨("Common", some "__init__"), "__init__", "Common.__init__", defArgs s_Common_init, defBody s_Common_init, defScope s_Common_init, [], []⟩
def d_Common_cut : He.DefD := ⟨("Common", some "cut"), "cut", "Common.cut", defArgs s_Common_cut, defBody s_Common_cut, defScope s_Common_cut, [], []⟩
def d_law_cut : He.DefD := ⟨("_law_cut", none), "_law_cut", "_law_cut", defArgs s_law_cut, defBody s_law_cut, defScope s_law_cut, [], []⟩
def d_law_is_free : He.DefD := ⟨("_law_is_free", none), "_law_is_free", "_law_is_free", defArgs s_law_is_free, defBody s_law_is_free, defScope s_law_is_free, [], []⟩
def d_law_due_any : He.DefD := ⟨("_law_due_any", none), "_law_due_any", "_law_due_any", defArgs s_law_due_any, defBody s_law_due_any, defScope s_law_due_any, [], []⟩
def d_law_due : He.DefD := ⟨("_law_due", none), "_law_due", "_law_due", defArgs s_law_due, defBody s_law_due, defScope s_law_due, [], []⟩
def d_is_holder : He.DefD := ⟨("is_holder", none), "is_holder", "is_holder", defArgs s_is_holder, defBody s_is_holder, defScope s_is_holder, [], []⟩
def d_is_below : He.DefD := ⟨("is_below", none), "is_below", "is_below", defArgs s_is_below, defBody s_is_below, defScope s_is_below, [], []⟩
def d_Let_overlaps : He.DefD := ⟨("Let", some "overlaps"), "overlaps", "Let.overlaps", defArgs s_Let_overlaps, defBody s_Let_overlaps, defScope s_Let_overlaps, [], []⟩
def d_Common_free_house : He.DefD := ⟨("Common", some "free_house"), "free_house", "Common.free_house", defArgs s_Common_free_house, defBody s_Common_free_house, defScope s_Common_free_house, [], []⟩
def d_Common_ends_of : He.DefD := ⟨("Common", some "ends_of"), "ends_of", "Common.ends_of", defArgs s_Common_ends_of, defBody s_Common_ends_of, defScope s_Common_ends_of, [], []⟩
def d_Common_free_begin : He.DefD := ⟨("Common", some "free_begin"), "free_begin", "Common.free_begin", defArgs s_Common_free_begin, defBody s_Common_free_begin, defScope s_Common_free_begin, [], []⟩
def d_Let_init : He.DefD := ⟨("Let", some "__init__"), "__init__", "Let.__init__", defArgs s_Let_init, defBody s_Let_init, defScope s_Let_init, [], []⟩
def d_Common_let : He.DefD := ⟨("Common", some "let"), "let", "Common.let", defArgs s_Common_let, defBody s_Common_let, defScope s_Common_let, [], []⟩
def d_law_let : He.DefD := ⟨("_law_let", none), "_law_let", "_law_let", defArgs s_law_let, defBody s_law_let, defScope s_law_let, [], []⟩
def d_Let_told : He.DefD := ⟨("Let", some "told"), "told", "Let.told", defArgs s_Let_told, defBody s_Let_told, defScope s_Let_told, [], []⟩
def d_Common_leases : He.DefD := ⟨("Common", some "leases"), "leases", "Common.leases", defArgs s_Common_leases, defBody s_Common_leases, defScope s_Common_leases, [], []⟩
def d_law : He.DefD := ⟨("law", none), "law", "law", defArgs s_law, defBody s_law, defScope s_law, [], []⟩
def fn : List He.DefD := [d_law_cell_at, d_law_draw, d_law_far, d_law_far_moment, d_is_whole, d_Shape_init, d_Common_init, d_Common_cut, d_law_cut, d_law_is_free, d_law_due_any, d_law_due, d_is_holder, d_is_below, d_Let_overlaps, d_Common_free_house, d_Common_ends_of, d_Common_free_begin, d_Let_init, d_Common_let, d_law_let, d_Let_told, d_Common_leases, d_law]
def fa : List He.Fa := [.free "len", .glo "_law_cell_at", .glo "_law_draw", .free "range", .glo "_law_far", .glo "_law_far_moment", .free "isinstance", .free "int", .free "bool", .glo "is_whole", .exc "NoShape", .glo "NoShape", .cls "Shape", .noat "Shape" "moments", .noat "Shape" "houses", .noat "Shape" "counts", .glo "Shape", .mkr "Shape", .cls "Common", .noat "Common" "shape", .noat "Common" "lets", .glo "Common", .mkr "Common", .free "tuple", .free "all", .exc "NoLease", .glo "NoLease", .exc "NoTime", .glo "NoTime", .cls "Let", .noat "Let" "holder", .noat "Let" "lease", .noat "Let" "end", .noat "Let" "is_cut", .meth "Common" "cut", .glo "_law_cut", .free "any", .glo "_law_is_free", .free "max", .glo "_law_due_any", .glo "_law_due", .free "str", .int "MOST_LETTERS" 8, .str "LETTERS" "abcdefghijklmnopqrstuvwxyz", .glo "is_holder", .glo "is_below", .free "min", .meth "Let" "overlaps", .meth "Common" "free_house", .free "sorted", .meth "Common" "ends_of", .meth "Common" "free_begin", .glo "Let", .mkr "Let", .exc "NoHolder", .glo "NoHolder", .exc "NoName", .glo "NoName", .exc "Ended", .glo "Ended", .meth "Common" "let", .exm "Ended" "Ended" true, .glo "_law_let", .meth "Let" "told", .meth "Common" "leases", .free "dict", .glo "law"]
def loose0 : List Str := ["_wall", "HouseError", "NoShape", "NoName", "NoTime", "NoHolder", "NoLease", "Ended", "is_whole", "is_below", "Shape", "LETTERS", "MOST_LETTERS", "is_holder", "Let", "Common", "_law_cell_at", "_law_draw", "_law_far", "_law_far_moment", "_law_is_free", "_law_due_any", "_law_due", "_law_let", "_law_cut"]
def loose : List Str := loose0
abbrev R : PySem.W.OpenRow := PySem.W.OpenLaw.row PySem.Challenge.rw_namehouses_k22_let_of_any_house
abbrev hk : PySem.W.Hook := He.hookD 5 fa fn
def ob (s : PySem.W.SharedT) : He.AlD := He.obsDG 5 fa fn (HandSHeadRun.getT s)
theorem ob_eq (s : PySem.W.SharedT) : ob s = hk.obs s.abs := He.obsDG_eq (HandSHeadRun.getT_eq s)
theorem run (w : World) : HandSHeadRun.RunEq R (PySem.W.view R.prog [29]) hk ob 3000 loose w := by
  intro os
  kernel_rfl
def csOf (K : PySem.W.Frag) : Cs := ⟨He.ga K "HouseError", He.ga K "NoShape", He.ga K "NoName", He.ga K "NoTime", He.ga K "NoHolder", He.ga K "NoLease", He.ga K "Ended", He.ga K "Shape", He.ga K "Let", He.ga K "Common"⟩
theorem facts {P : Program} {w : World} {K : PySem.W.Frag} {h : Heap} {mg : Str → Option Value} {f : Addr} (X : K.In h) (G : h.Ns mainGlobals mg) (hfa : mg ("law" : Str) = some (.ref f)) (c : He.SaysD fa fn K) :
    ∃ fd : FuncData, (∀ (s : Shared) (v : Value), BindsTo s fd ⟨[v], []⟩ [("_law_script", v)]) ∧ ∀ base : Heap, K.In base → base.Ns mainGlobals mg → FnOk P w K mg base (L2.CX P w) 5 f fd ["_law_script"] (toSp (sp_law K (csOf K))) := by
  obtain ⟨fd_law_cell_at, F_law_cell_at⟩ := c.def_ 0 (d := d_law_cell_at) rfl
  obtain ⟨fd_law_draw, F_law_draw⟩ := c.def_ 1 (d := d_law_draw) rfl
  obtain ⟨fd_law_far, F_law_far⟩ := c.def_ 2 (d := d_law_far) rfl
  obtain ⟨fd_law_far_moment, F_law_far_moment⟩ := c.def_ 3 (d := d_law_far_moment) rfl
  obtain ⟨fd_is_whole, F_is_whole⟩ := c.def_ 4 (d := d_is_whole) rfl
  obtain ⟨fd_Shape_init, F_Shape_init⟩ := c.def_ 5 (d := d_Shape_init) rfl
  obtain ⟨fd_Common_init, F_Common_init⟩ := c.def_ 6 (d := d_Common_init) rfl
  obtain ⟨fd_Common_cut, F_Common_cut⟩ := c.def_ 7 (d := d_Common_cut) rfl
  obtain ⟨fd_law_cut, F_law_cut⟩ := c.def_ 8 (d := d_law_cut) rfl
  obtain ⟨fd_law_is_free, F_law_is_free⟩ := c.def_ 9 (d := d_law_is_free) rfl
  obtain ⟨fd_law_due_any, F_law_due_any⟩ := c.def_ 10 (d := d_law_due_any) rfl
  obtain ⟨fd_law_due, F_law_due⟩ := c.def_ 11 (d := d_law_due) rfl
  obtain ⟨fd_is_holder, F_is_holder⟩ := c.def_ 12 (d := d_is_holder) rfl
  obtain ⟨fd_is_below, F_is_below⟩ := c.def_ 13 (d := d_is_below) rfl
  obtain ⟨fd_Let_overlaps, F_Let_overlaps⟩ := c.def_ 14 (d := d_Let_overlaps) rfl
  obtain ⟨fd_Common_free_house, F_Common_free_house⟩ := c.def_ 15 (d := d_Common_free_house) rfl
  obtain ⟨fd_Common_ends_of, F_Common_ends_of⟩ := c.def_ 16 (d := d_Common_ends_of) rfl
  obtain ⟨fd_Common_free_begin, F_Common_free_begin⟩ := c.def_ 17 (d := d_Common_free_begin) rfl
  obtain ⟨fd_Let_init, F_Let_init⟩ := c.def_ 18 (d := d_Let_init) rfl
  obtain ⟨fd_Common_let, F_Common_let⟩ := c.def_ 19 (d := d_Common_let) rfl
  obtain ⟨fd_law_let, F_law_let⟩ := c.def_ 20 (d := d_law_let) rfl
  obtain ⟨fd_Let_told, F_Let_told⟩ := c.def_ 21 (d := d_Let_told) rfl
  obtain ⟨fd_Common_leases, F_Common_leases⟩ := c.def_ 22 (d := d_Common_leases) rfl
  obtain ⟨fd_law, F_law⟩ := c.def_ 23 (d := d_law) rfl
  have e := hfa.symm.trans (He.glo_ok X G (c.fact 66 (f := .glo "law") rfl))
  cases e
  have bl := FunD.bindsA (ps := ["_law_script"]) F_law fun _ _ _ _ _ _ us hl => match us, hl with | [_], _ => rfl
  let cs := csOf K
  refine ⟨fd_law, fun s v => bl s [v] rfl, fun base _ _ => ?_⟩
  have o_law_cell_at : FnOk P w K mg base (L2.CX P w) 1 _ _ ["_law_script", "_law_k"] (toSp (sp_law_cell_at K cs)) := ok_law_cell_at F_law_cell_at (He.free_ok X G (c.fact 0 (f := .free "len") rfl))
  have b_law_cell_at : Binds K fd_law_cell_at ["_law_script", "_law_k"] [] := F_law_cell_at.bindsN fun _ _ _ _ _ _ us hl => match us, hl with | [_, _], _ => rfl
  have h_law_cell_at : FdOk P w K mg base 1 "_law_cell_at" ["_law_script", "_law_k"] [] (toSp (sp_law_cell_at K cs)) := ⟨_, fd_law_cell_at, [], (He.glo_ok X G (c.fact 1 (f := .glo "_law_cell_at") rfl)), o_law_cell_at, F_law_cell_at.kp, b_law_cell_at, .nil⟩
  have o_law_draw : FnOk P w K mg base (L2.CX P w) 1 _ _ ["_law_cell", "_law_k"] (toSp (sp_law_draw K cs)) := ok_law_draw F_law_draw 
  have b_law_draw : Binds K fd_law_draw ["_law_cell", "_law_k"] [] := F_law_draw.bindsN fun _ _ _ _ _ _ us hl => match us, hl with | [_, _], _ => rfl
  have h_law_draw : FdOk P w K mg base 1 "_law_draw" ["_law_cell", "_law_k"] [] (toSp (sp_law_draw K cs)) := ⟨_, fd_law_draw, [], (He.glo_ok X G (c.fact 2 (f := .glo "_law_draw") rfl)), o_law_draw, F_law_draw.kp, b_law_draw, .nil⟩
  have o_law_far : FnOk P w K mg base (L2.CX P w) 2 _ _ ["_law_cell", "_law_k", "_law_most"] (toSp (sp_law_far K cs)) := ok_law_far F_law_far (He.free_ok X G (c.fact 3 (f := .free "range") rfl)) h_law_draw
  have b_law_far : Binds K fd_law_far ["_law_cell", "_law_k", "_law_most"] [] := F_law_far.bindsN fun _ _ _ _ _ _ us hl => match us, hl with | [_, _, _], _ => rfl
  have h_law_far : FdOk P w K mg base 2 "_law_far" ["_law_cell", "_law_k", "_law_most"] [] (toSp (sp_law_far K cs)) := ⟨_, fd_law_far, [], (He.glo_ok X G (c.fact 4 (f := .glo "_law_far") rfl)), o_law_far, F_law_far.kp, b_law_far, .nil⟩
  have o_law_far_moment : FnOk P w K mg base (L2.CX P w) 3 _ _ ["_law_cell"] (toSp (sp_law_far_moment K cs)) := ok_law_far_moment F_law_far_moment h_law_far h_law_draw
  have b_law_far_moment : Binds K fd_law_far_moment ["_law_cell"] [] := F_law_far_moment.bindsN fun _ _ _ _ _ _ us hl => match us, hl with | [_], _ => rfl
  have h_law_far_moment : FdOk P w K mg base 3 "_law_far_moment" ["_law_cell"] [] (toSp (sp_law_far_moment K cs)) := ⟨_, fd_law_far_moment, [], (He.glo_ok X G (c.fact 5 (f := .glo "_law_far_moment") rfl)), o_law_far_moment, F_law_far_moment.kp, b_law_far_moment, .nil⟩
  have o_is_whole : FnOk P w K mg base (L2.CX P w) 1 _ _ ["thing"] (toSp (sp_is_whole K cs)) := ok_is_whole F_is_whole (He.free_ok X G (c.fact 6 (f := .free "isinstance") rfl)) (He.free_ok X G (c.fact 7 (f := .free "int") rfl)) (He.free_ok X G (c.fact 8 (f := .free "bool") rfl))
  have b_is_whole : Binds K fd_is_whole ["thing"] [] := F_is_whole.bindsN fun _ _ _ _ _ _ us hl => match us, hl with | [_], _ => rfl
  have h_is_whole : FdOk P w K mg base 1 "is_whole" ["thing"] [] (toSp (sp_is_whole K cs)) := ⟨_, fd_is_whole, [], (He.glo_ok X G (c.fact 9 (f := .glo "is_whole") rfl)), o_is_whole, F_is_whole.kp, b_is_whole, .nil⟩
  have ex_NoShape : ExOk K mg "NoShape" cs.NoShape := by
    obtain ⟨z1, z2, z3, z4⟩ := (He.exc_ok (c.fact 10 (f := .exc "NoShape") rfl))
    exact ⟨(He.glo_ok X G (c.fact 11 (f := .glo "NoShape") rfl)), z1, z2, z3, z4⟩
  have at_Shape : At_Shape K cs := ⟨(He.cls_ok (c.fact 12 (f := .cls "Shape") rfl)), (He.noat_ok (c.fact 13 (f := .noat "Shape" "moments") rfl)), (He.noat_ok (c.fact 14 (f := .noat "Shape" "houses") rfl)), (He.noat_ok (c.fact 15 (f := .noat "Shape" "counts") rfl))⟩
  have o_Shape_init : FnOk P w K mg base (L2.CX P w) 2 _ _ ["self", "moments", "houses", "counts"] (toSp (sp_Shape_init K cs)) := ok_Shape_init F_Shape_init h_is_whole ex_NoShape at_Shape
  have b_Shape_init : Binds K fd_Shape_init ["self", "moments", "houses", "counts"] [] := F_Shape_init.bindsN fun _ _ _ _ _ _ us hl => match us, hl with | [_, _, _, _], _ => rfl
  have mk_Shape : MkOk P w K mg base 2 "Shape" cs.Shape ["self", "moments", "houses", "counts"] [] (toSp (sp_Shape_init K cs)) := ⟨_, fd_Shape_init, [], (He.glo_ok X G (c.fact 16 (f := .glo "Shape") rfl)), (He.mkr_ok (c.fact 17 (f := .mkr "Shape") rfl)), o_Shape_init, b_Shape_init, .nil⟩
  have at_Common : At_Common K cs := ⟨(He.cls_ok (c.fact 18 (f := .cls "Common") rfl)), (He.noat_ok (c.fact 19 (f := .noat "Common" "shape") rfl)), (He.noat_ok (c.fact 20 (f := .noat "Common" "lets") rfl))⟩
  have o_Common_init : FnOk P w K mg base (L2.CX P w) 1 _ _ ["self", "shape"] (toSp (sp_Common_init K cs)) := ok_Common_init F_Common_init at_Common
  have b_Common_init : Binds K fd_Common_init ["self", "shape"] [] := F_Common_init.bindsN fun _ _ _ _ _ _ us hl => match us, hl with | [_, _], _ => rfl
  have mk_Common : MkOk P w K mg base 1 "Common" cs.Common ["self", "shape"] [] (toSp (sp_Common_init K cs)) := ⟨_, fd_Common_init, [], (He.glo_ok X G (c.fact 21 (f := .glo "Common") rfl)), (He.mkr_ok (c.fact 22 (f := .mkr "Common") rfl)), o_Common_init, b_Common_init, .nil⟩
  have ex_NoLease : ExOk K mg "NoLease" cs.NoLease := by
    obtain ⟨z1, z2, z3, z4⟩ := (He.exc_ok (c.fact 25 (f := .exc "NoLease") rfl))
    exact ⟨(He.glo_ok X G (c.fact 26 (f := .glo "NoLease") rfl)), z1, z2, z3, z4⟩
  have ex_NoTime : ExOk K mg "NoTime" cs.NoTime := by
    obtain ⟨z1, z2, z3, z4⟩ := (He.exc_ok (c.fact 27 (f := .exc "NoTime") rfl))
    exact ⟨(He.glo_ok X G (c.fact 28 (f := .glo "NoTime") rfl)), z1, z2, z3, z4⟩
  have at_Let : At_Let K cs := ⟨(He.cls_ok (c.fact 29 (f := .cls "Let") rfl)), (He.noat_ok (c.fact 30 (f := .noat "Let" "holder") rfl)), (He.noat_ok (c.fact 31 (f := .noat "Let" "lease") rfl)), (He.noat_ok (c.fact 32 (f := .noat "Let" "end") rfl)), (He.noat_ok (c.fact 33 (f := .noat "Let" "is_cut") rfl))⟩
  have o_Common_cut : FnOk P w K mg base (L2.CX P w) 2 _ _ ["self", "lease", "used"] (toSp (sp_Common_cut K cs)) := ok_Common_cut F_Common_cut (He.free_ok X G (c.fact 6 (f := .free "isinstance") rfl)) (He.free_ok X G (c.fact 23 (f := .free "tuple") rfl)) (He.free_ok X G (c.fact 24 (f := .free "all") rfl)) h_is_whole ex_NoLease ex_NoTime at_Common at_Let
  have b_Common_cut : Binds K fd_Common_cut ["self", "lease", "used"] [] := F_Common_cut.bindsN fun _ _ _ _ _ _ us hl => match us, hl with | [_, _, _], _ => rfl
  have m_Common_cut : MtOk P w K mg base 2 cs.Common "cut" ["self", "lease", "used"] [] (toSp (sp_Common_cut K cs)) := ⟨(He.cls_ok (c.fact 18 (f := .cls "Common") rfl)), _, fd_Common_cut, [], (He.meth_ok (c.fact 34 (f := .meth "Common" "cut") rfl)), o_Common_cut, b_Common_cut, .nil⟩
  have o_law_cut : FnOk P w K mg base (L2.CX P w) 3 _ _ ["_law_common", "_law_table", "_law_leases", "_law_cell"] (toSp (sp_law_cut K cs)) := ok_law_cut F_law_cut h_law_draw (He.free_ok X G (c.fact 0 (f := .free "len") rfl)) m_Common_cut (He.free_ok X G (c.fact 3 (f := .free "range") rfl))
  have b_law_cut : Binds K fd_law_cut ["_law_common", "_law_table", "_law_leases", "_law_cell"] [] := F_law_cut.bindsN fun _ _ _ _ _ _ us hl => match us, hl with | [_, _, _, _], _ => rfl
  have h_law_cut : FdOk P w K mg base 3 "_law_cut" ["_law_common", "_law_table", "_law_leases", "_law_cell"] [] (toSp (sp_law_cut K cs)) := ⟨_, fd_law_cut, [], (He.glo_ok X G (c.fact 35 (f := .glo "_law_cut") rfl)), o_law_cut, F_law_cut.kp, b_law_cut, .nil⟩
  have o_law_is_free : FnOk P w K mg base (L2.CX P w) 1 _ _ ["_law_table", "_law_house", "_law_begin", "_law_span"] (toSp (sp_law_is_free K cs)) := ok_law_is_free F_law_is_free (He.free_ok X G (c.fact 36 (f := .free "any") rfl)) (He.free_ok X G (c.fact 3 (f := .free "range") rfl))
  have b_law_is_free : Binds K fd_law_is_free ["_law_table", "_law_house", "_law_begin", "_law_span"] [] := F_law_is_free.bindsN fun _ _ _ _ _ _ us hl => match us, hl with | [_, _, _, _], _ => rfl
  have h_law_is_free : FdOk P w K mg base 1 "_law_is_free" ["_law_table", "_law_house", "_law_begin", "_law_span"] [] (toSp (sp_law_is_free K cs)) := ⟨_, fd_law_is_free, [], (He.glo_ok X G (c.fact 37 (f := .glo "_law_is_free") rfl)), o_law_is_free, F_law_is_free.kp, b_law_is_free, .nil⟩
  have o_law_due_any : FnOk P w K mg base (L2.CX P w) 2 _ _ ["_law_table", "_law_shape", "_law_moment", "_law_span"] (toSp (sp_law_due_any K cs)) := ok_law_due_any F_law_due_any (He.free_ok X G (c.fact 38 (f := .free "max") rfl)) (He.free_ok X G (c.fact 3 (f := .free "range") rfl)) h_law_is_free at_Shape
  have b_law_due_any : Binds K fd_law_due_any ["_law_table", "_law_shape", "_law_moment", "_law_span"] [] := F_law_due_any.bindsN fun _ _ _ _ _ _ us hl => match us, hl with | [_, _, _, _], _ => rfl
  have h_law_due_any : FdOk P w K mg base 2 "_law_due_any" ["_law_table", "_law_shape", "_law_moment", "_law_span"] [] (toSp (sp_law_due_any K cs)) := ⟨_, fd_law_due_any, [], (He.glo_ok X G (c.fact 39 (f := .glo "_law_due_any") rfl)), o_law_due_any, F_law_due_any.kp, b_law_due_any, .nil⟩
  have o_law_due : FnOk P w K mg base (L2.CX P w) 3 _ _ ["_law_table", "_law_shape", "_law_house", "_law_moment", "_law_span"] (toSp (sp_law_due K cs)) := ok_law_due F_law_due h_law_due_any (He.free_ok X G (c.fact 38 (f := .free "max") rfl)) h_law_is_free at_Shape
  have b_law_due : Binds K fd_law_due ["_law_table", "_law_shape", "_law_house", "_law_moment", "_law_span"] [] := F_law_due.bindsN fun _ _ _ _ _ _ us hl => match us, hl with | [_, _, _, _, _], _ => rfl
  have h_law_due : FdOk P w K mg base 3 "_law_due" ["_law_table", "_law_shape", "_law_house", "_law_moment", "_law_span"] [] (toSp (sp_law_due K cs)) := ⟨_, fd_law_due, [], (He.glo_ok X G (c.fact 40 (f := .glo "_law_due") rfl)), o_law_due, F_law_due.kp, b_law_due, .nil⟩
  have o_is_holder : FnOk P w K mg base (L2.CX P w) 1 _ _ ["thing"] (toSp (sp_is_holder K cs)) := ok_is_holder F_is_holder (He.free_ok X G (c.fact 6 (f := .free "isinstance") rfl)) (He.free_ok X G (c.fact 41 (f := .free "str") rfl)) (He.free_ok X G (c.fact 0 (f := .free "len") rfl)) (He.int_ok X G (c.fact 42 (f := .int "MOST_LETTERS" 8) rfl)) (He.free_ok X G (c.fact 24 (f := .free "all") rfl)) (He.str_ok X G (c.fact 43 (f := .str "LETTERS" "abcdefghijklmnopqrstuvwxyz") rfl))
  have b_is_holder : Binds K fd_is_holder ["thing"] [] := F_is_holder.bindsN fun _ _ _ _ _ _ us hl => match us, hl with | [_], _ => rfl
  have h_is_holder : FdOk P w K mg base 1 "is_holder" ["thing"] [] (toSp (sp_is_holder K cs)) := ⟨_, fd_is_holder, [], (He.glo_ok X G (c.fact 44 (f := .glo "is_holder") rfl)), o_is_holder, F_is_holder.kp, b_is_holder, .nil⟩
  have o_is_below : FnOk P w K mg base (L2.CX P w) 2 _ _ ["thing", "most"] (toSp (sp_is_below K cs)) := ok_is_below F_is_below h_is_whole
  have b_is_below : Binds K fd_is_below ["thing", "most"] [] := F_is_below.bindsN fun _ _ _ _ _ _ us hl => match us, hl with | [_, _], _ => rfl
  have h_is_below : FdOk P w K mg base 2 "is_below" ["thing", "most"] [] (toSp (sp_is_below K cs)) := ⟨_, fd_is_below, [], (He.glo_ok X G (c.fact 45 (f := .glo "is_below") rfl)), o_is_below, F_is_below.kp, b_is_below, .nil⟩
  have o_Let_overlaps : FnOk P w K mg base (L2.CX P w) 1 _ _ ["self", "first", "end"] (toSp (sp_Let_overlaps K cs)) := ok_Let_overlaps F_Let_overlaps (He.free_ok X G (c.fact 38 (f := .free "max") rfl)) (He.free_ok X G (c.fact 46 (f := .free "min") rfl)) at_Let
  have b_Let_overlaps : Binds K fd_Let_overlaps ["self", "first", "end"] [] := F_Let_overlaps.bindsN fun _ _ _ _ _ _ us hl => match us, hl with | [_, _, _], _ => rfl
  have m_Let_overlaps : MtOk P w K mg base 1 cs.Let "overlaps" ["self", "first", "end"] [] (toSp (sp_Let_overlaps K cs)) := ⟨(He.cls_ok (c.fact 29 (f := .cls "Let") rfl)), _, fd_Let_overlaps, [], (He.meth_ok (c.fact 47 (f := .meth "Let" "overlaps") rfl)), o_Let_overlaps, b_Let_overlaps, .nil⟩
  have o_Common_free_house : FnOk P w K mg base (L2.CX P w) 2 _ _ ["self", "moment", "span"] (toSp (sp_Common_free_house K cs)) := ok_Common_free_house F_Common_free_house m_Let_overlaps at_Common at_Let at_Shape
  have b_Common_free_house : Binds K fd_Common_free_house ["self", "moment", "span"] [] := F_Common_free_house.bindsN fun _ _ _ _ _ _ us hl => match us, hl with | [_, _, _], _ => rfl
  have m_Common_free_house : MtOk P w K mg base 2 cs.Common "free_house" ["self", "moment", "span"] [] (toSp (sp_Common_free_house K cs)) := ⟨(He.cls_ok (c.fact 18 (f := .cls "Common") rfl)), _, fd_Common_free_house, [], (He.meth_ok (c.fact 48 (f := .meth "Common" "free_house") rfl)), o_Common_free_house, b_Common_free_house, .nil⟩
  have o_Common_ends_of : FnOk P w K mg base (L2.CX P w) 1 _ _ ["self", "house"] (toSp (sp_Common_ends_of K cs)) := ok_Common_ends_of F_Common_ends_of (He.free_ok X G (c.fact 49 (f := .free "sorted") rfl)) at_Common at_Let
  have b_Common_ends_of : Binds K fd_Common_ends_of ["self", "house"] [] := F_Common_ends_of.bindsN fun _ _ _ _ _ _ us hl => match us, hl with | [_, _], _ => rfl
  have m_Common_ends_of : MtOk P w K mg base 1 cs.Common "ends_of" ["self", "house"] [] (toSp (sp_Common_ends_of K cs)) := ⟨(He.cls_ok (c.fact 18 (f := .cls "Common") rfl)), _, fd_Common_ends_of, [], (He.meth_ok (c.fact 50 (f := .meth "Common" "ends_of") rfl)), o_Common_ends_of, b_Common_ends_of, .nil⟩
  have o_Common_free_begin : FnOk P w K mg base (L2.CX P w) 2 _ _ ["self", "house", "moment", "span"] (toSp (sp_Common_free_begin K cs)) := ok_Common_free_begin F_Common_free_begin m_Common_ends_of at_Common
  have b_Common_free_begin : Binds K fd_Common_free_begin ["self", "house", "moment", "span"] [] := F_Common_free_begin.bindsN fun _ _ _ _ _ _ us hl => match us, hl with | [_, _, _, _], _ => rfl
  have m_Common_free_begin : MtOk P w K mg base 2 cs.Common "free_begin" ["self", "house", "moment", "span"] [] (toSp (sp_Common_free_begin K cs)) := ⟨(He.cls_ok (c.fact 18 (f := .cls "Common") rfl)), _, fd_Common_free_begin, [], (He.meth_ok (c.fact 51 (f := .meth "Common" "free_begin") rfl)), o_Common_free_begin, b_Common_free_begin, .nil⟩
  have o_Let_init : FnOk P w K mg base (L2.CX P w) 1 _ _ ["self", "holder", "lease"] (toSp (sp_Let_init K cs)) := ok_Let_init F_Let_init at_Let
  have b_Let_init : Binds K fd_Let_init ["self", "holder", "lease"] [] := F_Let_init.bindsN fun _ _ _ _ _ _ us hl => match us, hl with | [_, _, _], _ => rfl
  have mk_Let : MkOk P w K mg base 1 "Let" cs.Let ["self", "holder", "lease"] [] (toSp (sp_Let_init K cs)) := ⟨_, fd_Let_init, [], (He.glo_ok X G (c.fact 52 (f := .glo "Let") rfl)), (He.mkr_ok (c.fact 53 (f := .mkr "Let") rfl)), o_Let_init, b_Let_init, .nil⟩
  have ex_NoHolder : ExOk K mg "NoHolder" cs.NoHolder := by
    obtain ⟨z1, z2, z3, z4⟩ := (He.exc_ok (c.fact 54 (f := .exc "NoHolder") rfl))
    exact ⟨(He.glo_ok X G (c.fact 55 (f := .glo "NoHolder") rfl)), z1, z2, z3, z4⟩
  have ex_NoName : ExOk K mg "NoName" cs.NoName := by
    obtain ⟨z1, z2, z3, z4⟩ := (He.exc_ok (c.fact 56 (f := .exc "NoName") rfl))
    exact ⟨(He.glo_ok X G (c.fact 57 (f := .glo "NoName") rfl)), z1, z2, z3, z4⟩
  have ex_Ended : ExOk K mg "Ended" cs.Ended := by
    obtain ⟨z1, z2, z3, z4⟩ := (He.exc_ok (c.fact 58 (f := .exc "Ended") rfl))
    exact ⟨(He.glo_ok X G (c.fact 59 (f := .glo "Ended") rfl)), z1, z2, z3, z4⟩
  have o_Common_let : FnOk P w K mg base (L2.CX P w) 3 _ _ ["self", "holder", "house", "moment", "span"] (toSp (sp_Common_let K cs)) := ok_Common_let F_Common_let h_is_holder ex_NoHolder h_is_below ex_NoName h_is_whole ex_NoTime (He.free_ok X G (c.fact 38 (f := .free "max") rfl)) m_Common_free_house m_Common_free_begin ex_Ended mk_Let at_Common at_Shape
  have b_Common_let : Binds K fd_Common_let ["self", "holder", "house", "moment", "span"] [] := F_Common_let.bindsN fun _ _ _ _ _ _ us hl => match us, hl with | [_, _, _, _, _], _ => rfl
  have m_Common_let : MtOk P w K mg base 3 cs.Common "let" ["self", "holder", "house", "moment", "span"] [] (toSp (sp_Common_let K cs)) := ⟨(He.cls_ok (c.fact 18 (f := .cls "Common") rfl)), _, fd_Common_let, [], (He.meth_ok (c.fact 60 (f := .meth "Common" "let") rfl)), o_Common_let, b_Common_let, .nil⟩
  have o_law_let : FnOk P w K mg base (L2.CX P w) 4 _ _ ["_law_common", "_law_holder", "_law_house", "_law_moment", "_law_span"] (toSp (sp_law_let K cs)) := ok_law_let F_law_let ex_Ended (He.exm_ok (c.fact 61 (f := .exm "Ended" "Ended" true) rfl)) m_Common_let
  have b_law_let : Binds K fd_law_let ["_law_common", "_law_holder", "_law_house", "_law_moment", "_law_span"] [] := F_law_let.bindsN fun _ _ _ _ _ _ us hl => match us, hl with | [_, _, _, _, _], _ => rfl
  have h_law_let : FdOk P w K mg base 4 "_law_let" ["_law_common", "_law_holder", "_law_house", "_law_moment", "_law_span"] [] (toSp (sp_law_let K cs)) := ⟨_, fd_law_let, [], (He.glo_ok X G (c.fact 62 (f := .glo "_law_let") rfl)), o_law_let, F_law_let.kp, b_law_let, .nil⟩
  have o_Let_told : FnOk P w K mg base (L2.CX P w) 1 _ _ ["self"] (toSp (sp_Let_told K cs)) := ok_Let_told F_Let_told at_Let
  have b_Let_told : Binds K fd_Let_told ["self"] [] := F_Let_told.bindsN fun _ _ _ _ _ _ us hl => match us, hl with | [_], _ => rfl
  have m_Let_told : MtOk P w K mg base 1 cs.Let "told" ["self"] [] (toSp (sp_Let_told K cs)) := ⟨(He.cls_ok (c.fact 29 (f := .cls "Let") rfl)), _, fd_Let_told, [], (He.meth_ok (c.fact 63 (f := .meth "Let" "told") rfl)), o_Let_told, b_Let_told, .nil⟩
  have o_Common_leases : FnOk P w K mg base (L2.CX P w) 2 _ _ ["self"] (toSp (sp_Common_leases K cs)) := ok_Common_leases F_Common_leases m_Let_told at_Common at_Let
  have b_Common_leases : Binds K fd_Common_leases ["self"] [] := F_Common_leases.bindsN fun _ _ _ _ _ _ us hl => match us, hl with | [_], _ => rfl
  have m_Common_leases : MtOk P w K mg base 2 cs.Common "leases" ["self"] [] (toSp (sp_Common_leases K cs)) := ⟨(He.cls_ok (c.fact 18 (f := .cls "Common") rfl)), _, fd_Common_leases, [], (He.meth_ok (c.fact 64 (f := .meth "Common" "leases") rfl)), o_Common_leases, b_Common_leases, .nil⟩
  have o_law : FnOk P w K mg base (L2.CX P w) 5 _ _ ["_law_script"] (toSp (sp_law K cs)) := ok_law F_law h_law_cell_at h_law_far_moment h_law_draw mk_Shape mk_Common h_law_cut (He.free_ok X G (c.fact 7 (f := .free "int") rfl)) h_law_due h_law_let (He.free_ok X G (c.fact 65 (f := .free "dict") rfl)) (He.free_ok X G (c.fact 3 (f := .free "range") rfl)) (He.free_ok X G (c.fact 0 (f := .free "len") rfl)) m_Common_leases at_Shape at_Common at_Let
  exact o_law
theorem law_sp {K : PySem.W.Frag} {cs : Cs} {H : Hp} {a : Addr} {xs : List Int} (h : SqL K H a (xs.map V.int)) : toSp (sp_law K cs) [.ref a] H (fun v _ => v = .bl true) (fun _ _ _ => False) := by
  obtain ⟨F0, h1, h2⟩ := script_at h
  exact ⟨F0, [], h1, a, xs, rfl, h2, fun _ _ => rfl⟩
end K22
open PySem PySem.W PySem.Calls PyProof.Rows
theorem PySem.Challenge.cw_namehouses_k22_let_of_any_house_holds : PySem.Challenge.rw_namehouses_k22_let_of_any_house.Holds := by
  w_on; o_law
  refine HandSHeadRun.head_any (r := OpenLaw.row PySem.Challenge.rw_namehouses_k22_let_of_any_house) (q := view (OpenLaw.row PySem.Challenge.rw_namehouses_k22_let_of_any_house).prog [29]) (H := K22.hk) (ob := K22.ob) (M := 3000) (loose := K22.loose) (d := HandSHeadRun.topDef (OpenLaw.row PySem.Challenge.rw_namehouses_k22_let_of_any_house).prog 29) (kwd := []) K22.ob_eq
    (by kernel_rfl) (fun s => by kernel_rfl) K22.run (by kernel_rfl) (by kernel_rfl) (by kernel_rfl) (by rfl) (by first | assumption | decide +kernel) (by decide +kernel) ⟨rfl, rfl, rfl, rfl, rfl, by decide +kernel⟩ ?hw ?hc
  case hw => w_witness2
  case hc =>
    refine Lg.walk_W (l := PySem.Challenge.rw_namehouses_k22_let_of_any_house) (n := 63) (k := 5) (x := "_law_script") rfl (by decide) (by kernel_rfl) ⟨rfl, by decide, by decide⟩ ?F
    intro w mg fa h Y G hmg0
    obtain ⟨K, KX, c⟩ := Y
    have hmg : mg ("law" : PySem.Str) = some (.ref fa) := by
      have e : (HandSHeadRun.topDef (OpenLaw.row PySem.Challenge.rw_namehouses_k22_let_of_any_house).prog 29).name = ("law" : PySem.Str) := by kernel_rfl
      rw [← e]
      exact hmg0
    obtain ⟨fd, hb, hF⟩ := K22.facts (P := (PySem.Challenge.rw_namehouses_k22_let_of_any_house).prog) (w := w) KX G hmg c
    exact ⟨K, fd, Lg.toSp (K22.sp_law K (K22.csOf K)), KX, hb, fun H a ns hl hS => K22.law_sp hS, hF⟩
