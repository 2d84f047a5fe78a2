import PyProof.Rows.All
import Wide.All
import OpenK.AllK
import Wide.FinOn
import KE.KStateDown
import Lean
import HandS.Base
import HandS.Call
import HandS.Ends
import HandS.More
import HandS.Words
import HandS.WordsExc
import HandS.Defaults
import HandS.Head0
import HandS.Head1
import HandS.Head2
import HandS.HeadEnd
import HandS.HeadHook1
import HandS.HeadHook2
import HandS.ForMost
import HandS.IsInst
import HandS.TupAny
import HandS.TupLe
import HandS.Deep
import HandS.StrMore
import HandS.Zip
import HandS.Flow
import HandS.RaiseMore
import HandS.SortRule
import HandS.SortInts
import KE.GoesEnum
import HandS.HeadHook4
import PyProof.ListStr
import PyProof.Rows.SortShellAny
import HandS.Set
import HandS.SetFor
import HandS.TupSets
import PySem.Challenge.RW_filemarks_k10_places_and_lengths_that_ma
-- part DL1
set_option Elab.async false
set_option linter.all false
set_option maxRecDepth 100000
set_option maxHeartbeats 4000000
/-! DATA LAYER: values as pure data D, the heap hidden. F: what never changes again; M: the lists that still may. -/
namespace DL
open PySem PySem.Spec PyProof.Rows L2

inductive D where
  | non | bl (b : Bool) | int (i : Int) | str (x : Str) | lst (ds : List D) | tup (ds : List D) | box (a : Addr) | dic (kvs : List (Str × D)) | scr (ns : List Int)

mutual
inductive Rep (K : PySem.W.Frag) (F : Hp) : V → D → Prop
  | non : Rep K F .non .non
  | bl (b : Bool) : Rep K F (.bl b) (.bl b)
  | int (i : Int) : Rep K F (.int i) (.int i)
  | str (x : Str) : Rep K F (.str x) (.str x)
  | lst {a : Addr} {xs : List V} {ds : List D} : F a = some (.lst xs) → Reps K F xs ds → Rep K F (.ref a) (.lst ds)
  | tup {a : Addr} {xs : List V} {ds : List D} : SqT K F a xs → Reps K F xs ds → Rep K F (.ref a) (.tup ds)
  | box (a : Addr) : Rep K F (.ref a) (.box a)
  | dic {a : Addr} {kvs : List (Key × V)} {dks : List (Str × D)} : F a = some (.dK kvs) → RepsK K F kvs dks → Rep K F (.ref a) (.dic dks)
  | scr {a : Addr} {ns : List Int} : SqL K F a (ns.map V.int) → Rep K F (.ref a) (.scr ns)
inductive Reps (K : PySem.W.Frag) (F : Hp) : List V → List D → Prop
  | nil : Reps K F [] []
  | cons {v : V} {vs : List V} {d : D} {ds : List D} : Rep K F v d → Reps K F vs ds → Reps K F (v :: vs) (d :: ds)
inductive RepsK (K : PySem.W.Frag) (F : Hp) : List (Key × V) → List (Str × D) → Prop
  | nil : RepsK K F [] []
  | cons {k : Str} {v : V} {vs : List (Key × V)} {d : D} {ds : List (Str × D)} : Rep K F v d → RepsK K F vs ds → RepsK K F ((.inr k, v) :: vs) ((k, d) :: ds)
end

theorem Same.tup {K : PySem.W.Frag} {H H' : Hp} {a : Addr} {xs : List V} (e : Same H H') (h : SqT K H a xs) : SqT K H' a xs := by
  rcases h with (h | ⟨o, h⟩) | h
  · exact .inl (.inl (e _ _ h))
  · exact .inl (.inr ⟨o, e _ _ h⟩)
  · exact .inr h

section
variable {K : PySem.W.Frag} {F F' : Hp}
mutual
theorem Rep.mono (s : Same F F') : ∀ {v : V} {d : D}, Rep K F v d → Rep K F' v d
  | _, _, .non => .non
  | _, _, .bl b => .bl b
  | _, _, .int i => .int i
  | _, _, .str x => .str x
  | _, _, .lst h r => .lst (s _ _ h) (Reps.mono s r)
  | _, _, .tup h r => .tup (Same.tup s h) (Reps.mono s r)
  | _, _, .box a => .box a
  | _, _, .dic h r => .dic (s _ _ h) (RepsK.mono s r)
  | _, _, .scr h => .scr (s.seq h)
theorem Reps.mono (s : Same F F') : ∀ {vs : List V} {ds : List D}, Reps K F vs ds → Reps K F' vs ds
  | _, _, .nil => .nil
  | _, _, .cons h r => .cons (Rep.mono s h) (Reps.mono s r)
theorem RepsK.mono (s : Same F F') : ∀ {vs : List (Key × V)} {ds : List (Str × D)}, RepsK K F vs ds → RepsK K F' vs ds
  | _, _, .nil => .nil
  | _, _, .cons h r => .cons (Rep.mono s h) (RepsK.mono s r)
end
theorem Reps.length : ∀ {vs : List V} {ds : List D}, Reps K F vs ds → vs.length = ds.length
  | _, _, .nil => rfl
  | _, _, .cons _ r => congrArg (· + 1) (Reps.length r)
theorem Reps.get : ∀ {vs : List V} {ds : List D} {i : Nat} {d : D}, Reps K F vs ds → ds[i]? = some d → ∃ v, vs[i]? = some v ∧ Rep K F v d
  | _, _, _, _, .nil, e => by simp at e
  | _, _, 0, _, .cons h _, e => ⟨_, rfl, by cases Option.some.inj (show some _ = some _ from e); exact h⟩
  | _, _, i + 1, _, .cons _ r, e => by
    obtain ⟨v, h1, h2⟩ := Reps.get (i := i) r (by simpa using e)
    exact ⟨v, by simpa using h1, h2⟩
theorem Reps.getV : ∀ {vs : List V} {ds : List D} {i : Nat} {v : V}, Reps K F vs ds → vs[i]? = some v → ∃ d, ds[i]? = some d ∧ Rep K F v d
  | _, _, _, _, .nil, e => by simp at e
  | _, _, 0, _, .cons h _, e => ⟨_, rfl, by cases Option.some.inj (show some _ = some _ from e); exact h⟩
  | _, _, i + 1, _, .cons _ r, e => by
    obtain ⟨v, h1, h2⟩ := Reps.getV (i := i) r (by simpa using e)
    exact ⟨v, by simpa using h1, h2⟩
theorem Reps.app : ∀ {vs ws : List V} {ds es : List D}, Reps K F vs ds → Reps K F ws es → Reps K F (vs ++ ws) (ds ++ es)
  | _, _, _, _, .nil, r => r
  | _, _, _, _, .cons h t, r => .cons h (Reps.app t r)
theorem Reps.take : ∀ {vs : List V} {ds : List D} (n : Nat), Reps K F vs ds → Reps K F (vs.take n) (ds.take n)
  | _, _, 0, _ => .nil
  | _, _, _ + 1, .nil => .nil
  | _, _, n + 1, .cons h t => .cons h (Reps.take n t)
theorem Reps.drop : ∀ {vs : List V} {ds : List D} (n : Nat), Reps K F vs ds → Reps K F (vs.drop n) (ds.drop n)
  | _, _, 0, r => r
  | _, _, _ + 1, .nil => .nil
  | _, _, n + 1, .cons _ t => Reps.drop n t
theorem Reps.rev {vs : List V} {ds : List D} (r : Reps K F vs ds) : Reps K F vs.reverse ds.reverse := by
  induction vs generalizing ds with
  | nil => cases r; exact .nil
  | cons v vs ih =>
    cases r with
    | cons h t =>
      rw [List.reverse_cons, List.reverse_cons]
      exact (ih t).app (.cons h .nil)
theorem Reps.set : ∀ {vs : List V} {ds : List D} {v : V} {d : D} (i : Nat), Reps K F vs ds → Rep K F v d → Reps K F (vs.set i v) (ds.set i d)
  | _, _, _, _, _, .nil, _ => .nil
  | _, _, _, _, 0, .cons _ t, r => .cons r t
  | _, _, _, _, i + 1, .cons h t, r => .cons h (Reps.set i t r)
theorem Reps.ints : ∀ (ns : List Int), Reps K F (ns.map V.int) (ns.map D.int)
  | [] => .nil
  | n :: ns => .cons (.int n) (Reps.ints ns)
theorem Reps.strs : ∀ (ns : List Str), Reps K F (ns.map V.str) (ns.map D.str)
  | [] => .nil
  | n :: ns => .cons (.str n) (Reps.strs ns)
theorem Reps.intsInv : ∀ {ns : List Int} {vs : List V}, Reps K F vs (ns.map D.int) → vs = ns.map V.int
  | [], _, .nil => rfl
  | n :: ns, _, .cons h t => by cases h; rw [Reps.intsInv t]; rfl
theorem Reps.strsInv : ∀ {ns : List Str} {vs : List V}, Reps K F vs (ns.map D.str) → vs = ns.map V.str
  | [], _, .nil => rfl
  | n :: ns, _, .cons h t => by cases h; rw [Reps.strsInv t]; rfl
theorem Reps.blsInv : ∀ {ns : List Bool} {vs : List V}, Reps K F vs (ns.map D.bl) → vs = ns.map V.bl
  | [], _, .nil => rfl
  | n :: ns, _, .cons h t => by cases h; rw [Reps.blsInv t]; rfl
end

/-! ### the state -/
abbrev Mem := Addr → Option (List D)
def updM (M : Mem) (a : Addr) (ds : List D) : Mem := fun b => if b = a then some ds else M b
theorem updM_same {M : Mem} {a : Addr} {ds : List D} : updM M a ds a = some ds := if_pos rfl
theorem updM_ne {M : Mem} {a b : Addr} {ds : List D} (h : b ≠ a) : updM M a ds b = M b := if_neg h
theorem updM_updM {M : Mem} {a : Addr} {ds es : List D} : updM (updM M a ds) a es = updM M a es := by
  funext b; unfold updM; split <;> rfl

structure Wld (K : PySem.W.Frag) (F : Hp) (M : Mem) (H : Hp) : Prop where
  sub : Same F H
  mem : ∀ a ds, M a = some ds → F a = none ∧ ∃ vs, H a = some (.lst vs) ∧ Reps K F vs ds
structure Go (K : PySem.W.Frag) (F : Hp) (M : Mem) (H : Hp) (F' : Hp) (M' : Mem) (H' : Hp) : Prop where
  w : Wld K F' M' H'
  up : Same F F'
  keep : ∀ a o, H a = some o → M a = none → H' a = some o
  there : ∀ a, H a ≠ none → H' a ≠ none
  frF : ∀ a, F a = none → H a ≠ none → F' a = none
  frM : ∀ a, M a = none → H a ≠ none → M' a = none
section
variable {K : PySem.W.Frag} {F F1 F2 : Hp} {M M1 M2 : Mem} {H H1 H2 : Hp}
theorem Go.refl (w : Wld K F M H) : Go K F M H F M H := ⟨w, Same.refl F, fun _ _ h _ => h, fun _ h => h, fun _ h _ => h, fun _ h _ => h⟩
theorem Go.trans (a : Go K F M H F1 M1 H1) (b : Go K F1 M1 H1 F2 M2 H2) : Go K F M H F2 M2 H2 :=
  ⟨b.w, a.up.trans b.up, fun x o h m => b.keep x o (a.keep x o h m) (a.frM x m (by rw [h]; intro z; cases z)), fun x h => b.there x (a.there x h),
    fun x f h => b.frF x (a.frF x f h) (a.there x h), fun x m h => b.frM x (a.frM x m h) (a.there x h)⟩
theorem Wld.freeF (w : Wld K F M H) {p : Addr} (h : H p = none) : F p = none := w.sub.free h
theorem Wld.freeM (w : Wld K F M H) {p : Addr} (h : H p = none) : M p = none := by
  cases e : M p with
  | none => rfl
  | some ds =>
    obtain ⟨_, vs, q, _⟩ := w.mem p ds e
    rw [h] at q; cases q
theorem same_upd {H : Hp} {p : Addr} {o : HO} (h : H p = none) : Same H (upd H p o) := fun b x e => by
  rw [upd_ne (ne_of_none e h)]
  exact e
theorem same_upd2 {F H : Hp} {p : Addr} {o : HO} (s : Same F H) : Same (upd F p o) (upd H p o) := fun b x e => by
  by_cases q : b = p
  · subst q; rw [upd_same] at e ⊢; exact e
  · rw [upd_ne q] at e ⊢; exact s b x e
theorem Go.newF (w : Wld K F M H) {p : Addr} (h : H p = none) (o : HO) : Go K F M H (upd F p o) M (upd H p o) := by
  have fp := w.freeF h
  refine ⟨⟨same_upd2 w.sub, fun a ds e => ?_⟩, same_upd fp, fun a o' q _ => ?_, fun a q => ?_, fun a q z => ?_, fun a q _ => q⟩
  · obtain ⟨f, vs, q, r⟩ := w.mem a ds e
    have ne : a ≠ p := ne_of_none q h
    exact ⟨by rw [upd_ne ne]; exact f, vs, by rw [upd_ne ne]; exact q, r.mono (same_upd fp)⟩
  · rw [upd_ne (ne_of_none q h)]; exact q
  · unfold upd; split
    · intro z; cases z
    · exact q
  · rw [upd_ne (fun e => z (by rw [e]; exact h))]; exact q
theorem Go.newM (w : Wld K F M H) {p : Addr} (h : H p = none) {vs : List V} {ds : List D} (r : Reps K F vs ds) : Go K F M H F (updM M p ds) (upd H p (.lst vs)) := by
  have fp := w.freeF h
  refine ⟨⟨fun b x e => by rw [upd_ne (ne_of_none (w.sub b x e) h)]; exact w.sub b x e, fun a es e => ?_⟩, Same.refl F, fun a o' q _ => ?_, fun a q => ?_, fun a q _ => q, fun a q z => ?_⟩
  · by_cases ne : a = p
    · subst ne; rw [updM_same] at e; cases e
      exact ⟨fp, vs, upd_same, r⟩
    · rw [updM_ne ne] at e
      obtain ⟨f, us, q, r'⟩ := w.mem a es e
      exact ⟨f, us, by rw [upd_ne ne]; exact q, r'⟩
  · rw [upd_ne (ne_of_none q h)]; exact q
  · unfold upd; split
    · intro z; cases z
    · exact q
  · rw [updM_ne (fun e => z (by rw [e]; exact h))]; exact q
theorem Go.write (w : Wld K F M H) {p : Addr} {es : List D} (h : M p = some es) {vs : List V} {ds : List D} (r : Reps K F vs ds) : Go K F M H F (updM M p ds) (upd H p (.lst vs)) := by
  obtain ⟨fp, us0, hp, _⟩ := w.mem p es h
  refine ⟨⟨fun b x e => ?_, fun a es e => ?_⟩, Same.refl F, fun a o' q m => ?_, fun a q => ?_, fun a q _ => q, fun a q z => ?_⟩
  · rw [upd_ne (fun z => by rw [z, fp] at e; cases e)]; exact w.sub b x e
  · by_cases ne : a = p
    · subst ne; rw [updM_same] at e; cases e
      exact ⟨fp, vs, upd_same, r⟩
    · rw [updM_ne ne] at e
      obtain ⟨f, us, q, r'⟩ := w.mem a es e
      exact ⟨f, us, by rw [upd_ne ne]; exact q, r'⟩
  · rw [upd_ne (fun z => by rw [z, h] at m; cases m)]; exact q
  · unfold upd; split
    · intro z; cases z
    · exact q
  · rw [updM_ne (fun e => by rw [e, h] at q; cases q)]; exact q
end

abbrev DEnv := List (Option D)
structure EnvRep (K : PySem.W.Frag) (F : Hp) (σ : L2.St) (ρ : DEnv) : Prop where
  len : σ.length = ρ.length
  get : ∀ (i : Nat) d, ρ[i]? = some (some d) → ∃ v, σ[i]? = some (some v) ∧ Rep K F v d
section
variable {K : PySem.W.Frag} {F F' : Hp} {σ : L2.St} {ρ : DEnv}
theorem EnvRep.mono (e : EnvRep K F σ ρ) (s : Same F F') : EnvRep K F' σ ρ := ⟨e.len, fun i d h => let ⟨v, a, b⟩ := e.get i d h; ⟨v, a, b.mono s⟩⟩
theorem EnvRep.set (e : EnvRep K F σ ρ) {v : V} {d : D} (r : Rep K F v d) (i : Nat) : EnvRep K F (σ.set i (some v)) (ρ.set i (some d)) := by
  refine ⟨by rw [List.length_set, List.length_set]; exact e.len, fun j x h => ?_⟩
  by_cases q : i = j
  · subst q
    have hl : i < ρ.length := by
      have := (List.getElem?_eq_some_iff.mp h).1
      rw [List.length_set] at this; exact this
    rw [List.getElem?_set_self hl] at h
    cases h
    exact ⟨v, List.getElem?_set_self (by rw [e.len]; exact hl), r⟩
  · rw [List.getElem?_set_ne q] at h ⊢
    exact e.get j x h
theorem EnvRep.wipe (e : EnvRep K F σ ρ) (i : Nat) : EnvRep K F (σ.set i none) (ρ.set i none) := by
  refine ⟨by rw [List.length_set, List.length_set]; exact e.len, fun j x h => ?_⟩
  by_cases q : i = j
  · subst q
    have hl : i < ρ.length := by
      have := (List.getElem?_eq_some_iff.mp h).1
      rw [List.length_set] at this; exact this
    rw [List.getElem?_set_self hl] at h
    cases h
  · rw [List.getElem?_set_ne q] at h ⊢
    exact e.get j x h
end

/-! ### readings over data -/
abbrev DK := D → Mem → Prop
abbrev RE := DEnv → Mem → DK → Prop
abbrev RT := DEnv → Mem → (Bool → Mem → Prop) → Prop
abbrev RA := DEnv → Mem → (List D → Mem → Prop) → Prop
structure DEnds where
  nx : DEnv → Mem → Prop
  rt : DK
  bk : DEnv → Mem → Prop := fun _ _ => False
  ct : DEnv → Mem → Prop := fun _ _ => False
abbrev RS := DEnds → DEnv → Mem → Prop
abbrev RG := D → DEnv → Mem → (DEnv → Mem → Prop) → Prop
abbrev RGs := List D → DEnv → Mem → (DEnv → Mem → Prop) → Prop

def lE (K : PySem.W.Frag) (t : RE) : TE := fun σ H Q => ∃ (ρ : DEnv) (F : Hp) (M : Mem) (P : DK), EnvRep K F σ ρ ∧ Wld K F M H ∧ t ρ M P ∧ ∀ d M' v F' H', P d M' → Go K F M H F' M' H' → Rep K F' v d → Q v H'
def lT (K : PySem.W.Frag) (t : RT) : TT := fun σ H Q => ∃ (ρ : DEnv) (F : Hp) (M : Mem) (P : Bool → Mem → Prop), EnvRep K F σ ρ ∧ Wld K F M H ∧ t ρ M P ∧ ∀ b M' F' H', P b M' → Go K F M H F' M' H' → Q b H'
def lA (K : PySem.W.Frag) (t : RA) : TA := fun σ H Q => ∃ (ρ : DEnv) (F : Hp) (M : Mem) (P : List D → Mem → Prop), EnvRep K F σ ρ ∧ Wld K F M H ∧ t ρ M P ∧ ∀ ds M' vs F' H', P ds M' → Go K F M H F' M' H' → Reps K F' vs ds → Q vs H'
/-- what is wanted over data is enough for what is wanted over the heap -/
structure EndsOk (K : PySem.W.Frag) (F : Hp) (M : Mem) (H : Hp) (E : DEnds) (D : Ends) : Prop where
  nx : ∀ ρ' M' σ' F' H', E.nx ρ' M' → Go K F M H F' M' H' → EnvRep K F' σ' ρ' → D.nx σ' H'
  rt : ∀ d M' v F' H', E.rt d M' → Go K F M H F' M' H' → Rep K F' v d → D.rt v H'
  bk : ∀ ρ' M' σ' F' H', E.bk ρ' M' → Go K F M H F' M' H' → EnvRep K F' σ' ρ' → D.bk σ' H'
  ct : ∀ ρ' M' σ' F' H', E.ct ρ' M' → Go K F M H F' M' H' → EnvRep K F' σ' ρ' → D.ct σ' H'
def lS (K : PySem.W.Frag) (t : RS) : TS := fun D σ H => ∃ (ρ : DEnv) (F : Hp) (M : Mem) (E : DEnds), EnvRep K F σ ρ ∧ Wld K F M H ∧ t E ρ M ∧ EndsOk K F M H E D
def lG (K : PySem.W.Frag) (t : RG) : TG := fun v σ H Q => ∃ (d : D) (ρ : DEnv) (F : Hp) (M : Mem) (P : DEnv → Mem → Prop), EnvRep K F σ ρ ∧ Wld K F M H ∧ Rep K F v d ∧ t d ρ M P ∧ ∀ ρ' M' σ' F' H', P ρ' M' → Go K F M H F' M' H' → EnvRep K F' σ' ρ' → Q σ' H'
def lGs (K : PySem.W.Frag) (t : RGs) : TGs := fun vs σ H Q => ∃ (ds : List D) (ρ : DEnv) (F : Hp) (M : Mem) (P : DEnv → Mem → Prop), EnvRep K F σ ρ ∧ Wld K F M H ∧ Reps K F vs ds ∧ t ds ρ M P ∧ ∀ ρ' M' σ' F' H', P ρ' M' → Go K F M H F' M' H' → EnvRep K F' σ' ρ' → Q σ' H'
abbrev DE (X : Cx) (e : Expr) (t : RE) : Prop := PE X e (lE X.K t)
abbrev DT (X : Cx) (e : Expr) (t : RT) : Prop := PT X e (lT X.K t)
abbrev DW (X : Cx) (e : Expr) (t : RT) : Prop := PW X e (lT X.K t)
abbrev DTs (X : Cx) (es : List Expr) (t : RT) : Prop := PTs X es (lT X.K t)
abbrev DA (X : Cx) (es : List Expr) (t : RA) : Prop := PA X es (lA X.K t)
abbrev DS (X : Cx) (st : Stmt) (t : RS) : Prop := PS X st (lS X.K t)
abbrev DSs (X : Cx) (st : List Stmt) (t : RS) : Prop := PSs X st (lS X.K t)
abbrev DG (X : Cx) (tg : Expr) (t : RG) : Prop := PG X tg (lG X.K t)
abbrev DGs (X : Cx) (tgs : List Expr) (t : RGs) : Prop := PGs X tgs (lGs X.K t)
section
variable {X : Cx}
theorem PE.imp {e : Expr} {t t' : TE} (h : PE X e t) (i : ∀ σ H Q, t' σ H Q → t σ H Q) : PE X e t' := ⟨fun pins s σ H Q I w => h.run pins s σ H Q I (i σ H Q w)⟩
theorem PT.imp {e : Expr} {t t' : TT} (h : PT X e t) (i : ∀ σ H Q, t' σ H Q → t σ H Q) : PT X e t' := ⟨fun pins s σ H Q I w => h.run pins s σ H Q I (i σ H Q w)⟩
theorem PW.imp {e : Expr} {t t' : TT} (h : PW X e t) (i : ∀ σ H Q, t' σ H Q → t σ H Q) : PW X e t' := ⟨fun wh pins s σ H Q I w => h.run wh pins s σ H Q I (i σ H Q w)⟩
theorem PTs.imp {e : List Expr} {t t' : TT} (h : PTs X e t) (i : ∀ σ H Q, t' σ H Q → t σ H Q) : PTs X e t' := ⟨fun pins s σ H Q I w => h.run pins s σ H Q I (i σ H Q w)⟩
theorem PA.imp {e : List Expr} {t t' : TA} (h : PA X e t) (i : ∀ σ H Q, t' σ H Q → t σ H Q) : PA X e t' := ⟨fun pos pins s σ H Q I w => h.run pos pins s σ H Q I (i σ H Q w)⟩
theorem PS.imp {e : Stmt} {t t' : TS} (h : PS X e t) (i : ∀ D σ H, t' D σ H → t D σ H) : PS X e t' := ⟨fun pins s σ H D I w => h.run pins s σ H D I (i D σ H w)⟩
theorem PSs.imp {e : List Stmt} {t t' : TS} (h : PSs X e t) (i : ∀ D σ H, t' D σ H → t D σ H) : PSs X e t' := ⟨fun pins s σ H D I w => h.run pins s σ H D I (i D σ H w)⟩
theorem PG.imp {e : Expr} {t t' : TG} (h : PG X e t) (i : ∀ v σ H Q, t' v σ H Q → t v σ H Q) : PG X e t' := ⟨fun pins s σ H v u Q I r w => h.run pins s σ H v u Q I r (i v σ H Q w)⟩
theorem PGs.imp {e : List Expr} {t t' : TGs} (h : PGs X e t) (i : ∀ v σ H Q, t' v σ H Q → t v σ H Q) : PGs X e t' := ⟨fun pins s σ H v u Q I r w => h.run pins s σ H v u Q I r (i v σ H Q w)⟩
theorem PI.imp {tg e : Expr} {t t' : TI} (h : PI X tg e t) (i : ∀ σ H Q, t' σ H Q → t σ H Q) : PI X tg e t' := ⟨fun pins s σ H Q I w => h.run pins s σ H Q I (i σ H Q w)⟩

/-! ### names, constants -/
def xVar (i : Nat) : RE := fun ρ M P => match ρ[i]? with
  | some (some d) => P d M
  | _ => False
def xC (d : D) : RE := fun _ M P => P d M
theorem dv (i : Nat) {x : Str} {pos : Pos} (hN : X.N[i]? = some x := by rfl) (hv : Vis X.env.scope x := by first | exact Or.inl rfl | exact Or.inr (Or.inl rfl) | exact Or.inr (Or.inr rfl)) (hd : (x == ("__debug__" : Str)) = false := by decide)
    (hcd : (x == ("__classdict__" : Str)) = false := by decide) : DE X (.Name x pos) (xVar i) := by
  refine PE.imp (pe_var hN hv hd hcd) fun σ H Q ⟨ρ, F, M, P, er, w, h, k⟩ => ?_
  unfold xVar at h
  split at h
  · rename_i d e
    obtain ⟨v, h1, h2⟩ := er.get i d e
    exact ⟨v, h1, k d M v F H h (Go.refl w) h2⟩
  · exact h.elim
theorem lE_c {v : V} {d : D} (r : ∀ K F, Rep K F v d) {σ : L2.St} {H : Hp} {Q : VK} (h : lE X.K (xC d) σ H Q) : Q v H := by
  obtain ⟨ρ, F, M, P, er, w, h, k⟩ := h
  exact k d M v F H h (Go.refl w) (r _ _)
theorem de_int {i j pos} : DE X (.Constant (.int i) j pos) (xC (.int i)) := PE.imp pe_int fun _ _ _ h => lE_c (fun _ _ => .int i) h
theorem de_bl {b j pos} : DE X (.Constant (.bool b) j pos) (xC (.bl b)) := PE.imp pe_bl fun _ _ _ h => lE_c (fun _ _ => .bl b) h
theorem de_non {j pos} : DE X (.Constant .none j pos) (xC .non) := PE.imp pe_non fun _ _ _ h => lE_c (fun _ _ => .non) h
theorem de_str {x j pos} : DE X (.Constant (.str x) j pos) (xC (.str x)) := PE.imp pe_str fun _ _ _ h => lE_c (fun _ _ => .str x) h
/-- a module's constant -/
structure Con (K : PySem.W.Frag) (mg : Str → Option Value) (x : Str) (d : D) : Prop where
  ex : ∃ (v : V) (u : Value), mg x = some u ∧ RelV v u ∧ ∀ F, Rep K F v d
theorem de_glob {x : Str} {d : D} {pos : Pos} (hg : Gl X x) (c : Con X.K X.mg x d) (hd : (x == ("__debug__" : Str)) = false := by decide) : DE X (.Name x pos) (xC d) := by
  obtain ⟨v, u, hm, r, rp⟩ := c.ex
  refine PE.imp (pe_glob hg hm r hd) fun σ H Q ⟨ρ, F, M, P, er, w, h, k⟩ => ?_
  exact k d M v F H h (Go.refl w) (rp F)

/-! ### operators -/
def BrOp (K : PySem.W.Frag) (r : R2) (f : D → D → Mem → DK → Prop) : Prop :=
  ∀ (F : Hp) (M : Mem) (H : Hp) (x y : V) (d e : D) (P : DK) (Q : VK), Wld K F M H → Rep K F x d → Rep K F y e → f d e M P → (∀ d' M' v F' H', P d' M' → Go K F M H F' M' H' → Rep K F' v d' → Q v H') → r x y H Q
def xOp (f : D → D → Mem → DK → Prop) (ta tb : RE) : RE := fun ρ M P => ta ρ M fun d M1 => tb ρ M1 fun e M2 => f d e M2 P
variable {a b c : Expr} {ta tb tc : RE} {pos : Pos}
theorem lE_two {r : R2} {f : D → D → Mem → DK → Prop} (br : BrOp X.K r f) {σ : L2.St} {H : Hp} {Q : VK} (h : lE X.K (xOp f ta tb) σ H Q) : tOp r (lE X.K ta) (lE X.K tb) σ H Q := by
  obtain ⟨ρ, F, M, P, er, w, h, k⟩ := h
  exact ⟨ρ, F, M, _, er, w, h, fun d M1 x F1 H1 p1 g1 r1 => ⟨ρ, F1, M1, _, er.mono g1.up, g1.w, p1, fun e M2 y F2 H2 p2 g2 r2 =>
    br F2 M2 H2 x y d e P Q g2.w (r1.mono g2.up) r2 p2 fun d' M' v F' H' p g rv => k d' M' v F' H' p ((g1.trans g2).trans g) rv⟩⟩
theorem de_op {op : Operator} {r : R2} {f : D → D → Mem → DK → Prop} (ho : OpR X (binaryOp op) r) (br : BrOp X.K r f) (ha : DE X a ta) (hb : DE X b tb) : DE X (.BinOp a op b pos) (xOp f ta tb) :=
  PE.imp (pe_op ho ha hb) fun _ _ _ h => lE_two br h
theorem de_cmp {op : CmpOp} {r : R2} {f : D → D → Mem → DK → Prop} (ho : OpR X (compareOp op) r) (br : BrOp X.K r f) (ha : DE X a ta) (hb : DE X b tb) (hm : behindInMarks op b = false) : DE X (.Compare a [op] [b] pos) (xOp f ta tb) :=
  PE.imp (pe_cmpR ho ha hb hm) fun _ _ _ h => lE_two br h
/-- a value that is a truth value, as a test -/
def xB (t : RE) : RT := fun ρ M P => t ρ M fun d M' => match d with
  | .bl b => P b M'
  | _ => False
theorem lE_B {t : RE} {σ : L2.St} {H : Hp} {Q : Bool → Hp → Prop} (h : lT X.K (xB t) σ H Q) : lE X.K t σ H fun x H1 => ∃ c, x = .bl c ∧ Q c H1 := by
  obtain ⟨ρ, F, M, P, er, w, h, k⟩ := h
  refine ⟨ρ, F, M, _, er, w, h, fun d M1 x F1 H1 p1 g1 r1 => ?_⟩
  cases r1 with
  | bl b => exact ⟨b, rfl, k b M1 F1 H1 p1 g1⟩
  | _ => exact p1.elim
theorem dt_val {e : Expr} {t : RE} (h : DE X e t) (he : ∀ whole, isTrue e X.env whole = (do let v ← whole; standAt e.pos; holding [v] (truthy v)) := by intro _; rfl) : DT X e (xB t) :=
  PT.imp (pt_val h he) fun _ _ _ h => lE_B h
theorem dt_cmp {op : CmpOp} {r : R2} {f : D → D → Mem → DK → Prop} (ho : OpR X (compareOp op) r) (br : BrOp X.K r f) (ha : DE X a ta) (hb : DE X b tb) (hm : behindInMarks op b = false) : DT X (.Compare a [op] [b] pos) (xB (xOp f ta tb)) := by
  refine PT.imp (pt_cmpR ho ha hb hm) fun σ H Q h => ?_
  obtain ⟨ρ, F, M, P, er, w, h, k⟩ := lE_B h
  exact lE_two br ⟨ρ, F, M, P, er, w, h, k⟩
/-- a op1 b op2 c -/
def xChain (f g : D → D → Mem → DK → Prop) (ta tb tc : RE) : RE := fun ρ M P => ta ρ M fun d M1 => tb ρ M1 fun e M2 => f d e M2 fun z M3 => match z with
  | .bl true => tc ρ M3 fun c M4 => g e c M4 P
  | .bl false => P (.bl false) M3
  | _ => False
theorem lE_chain {r r' : R2} {f g : D → D → Mem → DK → Prop} (br : BrOp X.K r f) (br' : BrOp X.K r' g) {σ : L2.St} {H : Hp} {Q : VK} (h : lE X.K (xChain f g ta tb tc) σ H Q) : tChain r r' (lE X.K ta) (lE X.K tb) (lE X.K tc) σ H Q := by
  obtain ⟨ρ, F, M, P, er, w, h, k⟩ := h
  refine ⟨ρ, F, M, _, er, w, h, fun d M1 x F1 H1 p1 g1 r1 => ⟨ρ, F1, M1, _, er.mono g1.up, g1.w, p1, fun e M2 y F2 H2 p2 g2 r2 =>
    br F2 M2 H2 x y d e _ _ g2.w (r1.mono g2.up) r2 p2 fun z M3 v F3 H3 p3 g3 rv => ?_⟩⟩
  cases rv with
  | bl b =>
    refine ⟨b, rfl, ?_⟩
    cases b with
    | true =>
      rw [if_pos rfl]
      exact ⟨ρ, F3, M3, _, er.mono ((g1.trans g2).trans g3).up, g3.w, p3, fun c M4 u F4 H4 p4 g4 r4 =>
        br' F4 M4 H4 y u e c P Q g4.w (r2.mono (g3.trans g4).up) r4 p4 fun d' M' v F' H' p g rv => k d' M' v F' H' p ((((g1.trans g2).trans g3).trans g4).trans g) rv⟩
    | false =>
      rw [if_neg Bool.false_ne_true]
      exact k (.bl false) M3 (.bl false) F3 H3 p3 ((g1.trans g2).trans g3) (.bl false)
  | _ => exact p3.elim
theorem de_chain {op op' : CmpOp} {r r' : R2} {f g : D → D → Mem → DK → Prop} (ho : OpR X (compareOp op) r) (br : BrOp X.K r f) (ho' : OpR X (compareOp op') r') (br' : BrOp X.K r' g) (ha : DE X a ta) (hb : DE X b tb) (hc : DE X c tc)
    (hm : lastMarks [op, op'] [b, c] = false := by with_unfolding_all rfl) : DE X (.Compare a [op, op'] [b, c] pos) (xChain f g ta tb tc) :=
  PE.imp (pe_chain ho ho' ha hb hc hm) fun _ _ _ h => lE_chain br br' h
theorem dt_chain {op op' : CmpOp} {r r' : R2} {f g : D → D → Mem → DK → Prop} (ho : OpR X (compareOp op) r) (br : BrOp X.K r f) (ho' : OpR X (compareOp op') r') (br' : BrOp X.K r' g) (ha : DE X a ta) (hb : DE X b tb) (hc : DE X c tc)
    (hm : lastMarks [op, op'] [b, c] = false := by with_unfolding_all rfl) : DT X (.Compare a [op, op'] [b, c] pos) (xB (xChain f g ta tb tc)) := by
  refine PT.imp (pt_chain ho ho' ha hb hc hm) fun σ H Q h => ?_
  exact lE_chain br br' (lE_B h)
/-- -a -/
def BrUn (K : PySem.W.Frag) (r : V → Hp → VK → Prop) (f : D → Mem → DK → Prop) : Prop :=
  ∀ (F : Hp) (M : Mem) (H : Hp) (x : V) (d : D) (P : DK) (Q : VK), Wld K F M H → Rep K F x d → f d M P → (∀ d' M' v F' H', P d' M' → Go K F M H F' M' H' → Rep K F' v d' → Q v H') → r x H Q
def xUn (f : D → Mem → DK → Prop) (ta : RE) : RE := fun ρ M P => ta ρ M fun d M1 => f d M1 P
theorem de_un {op : UnaryOp} {r : V → Hp → VK → Prop} {f : D → Mem → DK → Prop} (ho : UnR X (unaryOp op) r) (br : BrUn X.K r f) (ha : DE X a ta) : DE X (.UnaryOp op a pos) (xUn f ta) := by
  refine PE.imp (pe_un ho ha) fun σ H Q ⟨ρ, F, M, P, er, w, h, k⟩ => ?_
  exact ⟨ρ, F, M, _, er, w, h, fun d M1 x F1 H1 p1 g1 r1 => br F1 M1 H1 x d P Q g1.w r1 p1 fun d' M' v F' H' p g rv => k d' M' v F' H' p (g1.trans g) rv⟩

/-! ### and, or, not, if -/
variable {tA tB' : RT} {rest : List Expr}
def yAnd (t u : RT) : RT := fun ρ M P => t ρ M fun c M1 => match c with
  | true => u ρ M1 P
  | false => P false M1
def yOr (t u : RT) : RT := fun ρ M P => t ρ M fun c M1 => match c with
  | true => P true M1
  | false => u ρ M1 P
def yNot (t : RT) : RT := fun ρ M P => t ρ M fun c M1 => P (!c) M1
theorem dw_and1 (ha : DT X a tA) : DW X (.BoolOp .And [a] pos) tA := pw_and1 ha
theorem dw_or1 (ha : DT X a tA) : DW X (.BoolOp .Or [a] pos) tA := pw_or1 ha
theorem dw_and (ha : DT X a tA) (hb : DW X (.BoolOp .And (b :: rest) pos) tB') : DW X (.BoolOp .And (a :: b :: rest) pos) (yAnd tA tB') := by
  refine PW.imp (pw_and ha hb) fun σ H Q ⟨ρ, F, M, P, er, w, h, k⟩ => ?_
  refine ⟨ρ, F, M, _, er, w, h, fun c M1 F1 H1 p1 g1 => ?_⟩
  cases c with
  | true => rw [if_pos rfl]; exact ⟨ρ, F1, M1, P, er.mono g1.up, g1.w, p1, fun b M' F' H' p g => k b M' F' H' p (g1.trans g)⟩
  | false => rw [if_neg Bool.false_ne_true]; exact k false M1 F1 H1 p1 g1
theorem dw_or (ha : DT X a tA) (hb : DW X (.BoolOp .Or (b :: rest) pos) tB') : DW X (.BoolOp .Or (a :: b :: rest) pos) (yOr tA tB') := by
  refine PW.imp (pw_or ha hb) fun σ H Q ⟨ρ, F, M, P, er, w, h, k⟩ => ?_
  refine ⟨ρ, F, M, _, er, w, h, fun c M1 F1 H1 p1 g1 => ?_⟩
  cases c with
  | true => rw [if_pos rfl]; exact k true M1 F1 H1 p1 g1
  | false => rw [if_neg Bool.false_ne_true]; exact ⟨ρ, F1, M1, P, er.mono g1.up, g1.w, p1, fun b M' F' H' p g => k b M' F' H' p (g1.trans g)⟩
theorem dw_t (h : DW X a tA) : DT X a tA := PW.pt h
theorem dt_not (ha : DT X a tA) : DT X (.UnaryOp .Not a pos) (yNot tA) := by
  refine PT.imp (pt_not ha) fun σ H Q ⟨ρ, F, M, P, er, w, h, k⟩ => ?_
  exact ⟨ρ, F, M, _, er, w, h, fun c M1 F1 H1 p1 g1 => k _ M1 F1 H1 p1 g1⟩
def xAnd (ta tb : RE) : RE := fun ρ M P => ta ρ M fun d M1 => match d with
  | .bl true => tb ρ M1 P
  | .bl false => P (.bl false) M1
  | _ => False
def xOr (ta tb : RE) : RE := fun ρ M P => ta ρ M fun d M1 => match d with
  | .bl true => P (.bl true) M1
  | .bl false => tb ρ M1 P
  | _ => False
def xNot (ta : RE) : RE := fun ρ M P => ta ρ M fun d M1 => match d with
  | .bl b => P (.bl (!b)) M1
  | _ => False
theorem de_one {op} {t : RE} (h : DE X a t) : DE X (.BoolOp op [a] pos) t := pe_one h
theorem de_and (ha : DE X a ta) (hb : DE X (.BoolOp .And (b :: rest) pos) tb) : DE X (.BoolOp .And (a :: b :: rest) pos) (xAnd ta tb) := by
  refine PE.imp (pe_and ha hb) fun σ H Q ⟨ρ, F, M, P, er, w, h, k⟩ => ?_
  refine ⟨ρ, F, M, _, er, w, h, fun d M1 x F1 H1 p1 g1 r1 => ?_⟩
  cases r1 with
  | bl c =>
    refine ⟨c, rfl, ?_⟩
    cases c with
    | true => rw [if_pos rfl]; exact ⟨ρ, F1, M1, P, er.mono g1.up, g1.w, p1, fun b M' v F' H' p g r => k b M' v F' H' p (g1.trans g) r⟩
    | false => rw [if_neg Bool.false_ne_true]; exact k (.bl false) M1 _ F1 H1 p1 g1 (.bl false)
  | _ => exact p1.elim
theorem de_or (ha : DE X a ta) (hb : DE X (.BoolOp .Or (b :: rest) pos) tb) : DE X (.BoolOp .Or (a :: b :: rest) pos) (xOr ta tb) := by
  refine PE.imp (pe_or ha hb) fun σ H Q ⟨ρ, F, M, P, er, w, h, k⟩ => ?_
  refine ⟨ρ, F, M, _, er, w, h, fun d M1 x F1 H1 p1 g1 r1 => ?_⟩
  cases r1 with
  | bl c =>
    refine ⟨c, rfl, ?_⟩
    cases c with
    | true => rw [if_pos rfl]; exact k (.bl true) M1 _ F1 H1 p1 g1 (.bl true)
    | false => rw [if_neg Bool.false_ne_true]; exact ⟨ρ, F1, M1, P, er.mono g1.up, g1.w, p1, fun b M' v F' H' p g r => k b M' v F' H' p (g1.trans g) r⟩
  | _ => exact p1.elim
theorem de_not (ha : DE X a ta) : DE X (.UnaryOp .Not a pos) (xNot ta) := by
  refine PE.imp (pe_not ha) fun σ H Q ⟨ρ, F, M, P, er, w, h, k⟩ => ?_
  refine ⟨ρ, F, M, _, er, w, h, fun d M1 x F1 H1 p1 g1 r1 => ?_⟩
  cases r1 with
  | bl c => exact ⟨c, rfl, k (.bl (!c)) M1 _ F1 H1 p1 g1 (.bl _)⟩
  | _ => exact p1.elim
def xIf (t : RT) (ta tb : RE) : RE := fun ρ M P => t ρ M fun c M1 => match c with
  | true => ta ρ M1 P
  | false => tb ρ M1 P
theorem de_if {c : Expr} (hc : DT X c tA) (ha : DE X a ta) (hb : DE X b tb) : DE X (.IfExp c a b pos) (xIf tA ta tb) := by
  refine PE.imp (pe_ifExp hc ha hb) fun σ H Q ⟨ρ, F, M, P, er, w, h, k⟩ => ?_
  refine ⟨ρ, F, M, _, er, w, h, fun c M1 F1 H1 p1 g1 => ?_⟩
  cases c with
  | true => rw [if_pos rfl]; exact ⟨ρ, F1, M1, P, er.mono g1.up, g1.w, p1, fun b M' v F' H' p g r => k b M' v F' H' p (g1.trans g) r⟩
  | false => rw [if_neg Bool.false_ne_true]; exact ⟨ρ, F1, M1, P, er.mono g1.up, g1.w, p1, fun b M' v F' H' p g r => k b M' v F' H' p (g1.trans g) r⟩

/-! ### arguments, displays -/
def aNil : RA := fun _ M P => P [] M
def aCons (ta : RE) (tr : RA) : RA := fun ρ M P => ta ρ M fun d M1 => tr ρ M1 fun ds M2 => P (d :: ds) M2
variable {e : Expr} {es : List Expr} {te : RE} {t : RA}
theorem da_nil : DA X [] aNil := PA.imp pa_nil fun σ H Q ⟨ρ, F, M, P, er, w, h, k⟩ => k [] M [] F H h (Go.refl w) .nil
theorem da_cons (ha : DE X e te) (hr : DA X es t) (hs : starEach (e :: es) X.env = (false, eval e X.env) :: starEach es X.env := by rfl) : DA X (e :: es) (aCons te t) := by
  refine PA.imp (pa_cons ha hr hs) fun σ H Q ⟨ρ, F, M, P, er, w, h, k⟩ => ?_
  exact ⟨ρ, F, M, _, er, w, h, fun d M1 x F1 H1 p1 g1 r1 => ⟨ρ, F1, M1, _, er.mono g1.up, g1.w, p1, fun ds M2 xs F2 H2 p2 g2 r2 =>
    k (d :: ds) M2 (x :: xs) F2 H2 p2 (g1.trans g2) (.cons (r1.mono g2.up) r2)⟩⟩
/-- a new list: for good, or one that may change -/
def mk (m : Bool) (ds : List D) (M : Mem) (P : DK) : Prop := match m with
  | false => P (.lst ds) M
  | true => ∀ a, M a = none → P (.box a) (updM M a ds)
theorem mk_ok {K : PySem.W.Frag} {F : Hp} {M : Mem} {H : Hp} {m : Bool} {vs : List V} {ds : List D} {P : DK} {Q : VK} (w : Wld K F M H) (r : Reps K F vs ds) (h : mk m ds M P) (k : ∀ d' M' v F' H', P d' M' → Go K F M H F' M' H' → Rep K F' v d' → Q v H')
    {p : Addr} (hp : H p = none) : Q (.ref p) (upd H p (.lst vs)) := by
  cases m with
  | false =>
    have g := Go.newF w hp (.lst vs)
    exact k (.lst ds) M _ _ _ h g (.lst upd_same (r.mono g.up))
  | true => exact k (.box p) _ _ _ _ (h p (w.freeM hp)) (Go.newM w hp r) (.box p)
theorem tup_ok {K : PySem.W.Frag} {F : Hp} {M : Mem} {H : Hp} {vs : List V} {ds : List D} {P : DK} {Q : VK} (w : Wld K F M H) (r : Reps K F vs ds) (h : P (.tup ds) M) (k : ∀ d' M' v F' H', P d' M' → Go K F M H F' M' H' → Rep K F' v d' → Q v H')
    {p : Addr} (hp : H p = none) : Q (.ref p) (upd H p (.tup vs)) := by
  have g := Go.newF w hp (.tup vs)
  exact k (.tup ds) M _ _ _ h g (.tup (.inl (.inl upd_same)) (r.mono g.up))
def xTup (t : RA) : RE := fun ρ M P => t ρ M fun ds M1 => ds.length ≤ 16777216 ∧ P (.tup ds) M1
def xLst (m : Bool) (t : RA) : RE := fun ρ M P => t ρ M fun ds M1 => ds.length ≤ 16777216 ∧ mk m ds M1 P
theorem line_le {n : Nat} (h : n ≤ 16777216) : n ≤ sizeLine := by rw [sizeLine_eq]; exact h
theorem line_lt {n : Nat} (h : n < 16777216) : n < sizeLine := by rw [sizeLine_eq]; exact h
theorem de_tup {x1} (h : DA X es t) : DE X (.Tuple es x1 pos) (xTup t) := by
  refine PE.imp (pe_tup h) fun σ H Q ⟨ρ, F, M, P, er, w, h, k⟩ => ?_
  exact ⟨ρ, F, M, _, er, w, h, fun ds M1 xs F1 H1 p1 g1 r1 => ⟨by rw [r1.length]; exact line_le p1.1, fun p hp => tup_ok g1.w r1 p1.2 (fun d' M' v F' H' q g r => k d' M' v F' H' q (g1.trans g) r) hp⟩⟩
theorem de_lst (m : Bool) (h : DA X es t) : DE X (.List es pos) (xLst m t) := by
  refine PE.imp (pe_lst h) fun σ H Q ⟨ρ, F, M, P, er, w, h, k⟩ => ?_
  exact ⟨ρ, F, M, _, er, w, h, fun ds M1 xs F1 H1 p1 g1 r1 => ⟨by rw [r1.length]; exact line_le p1.1, fun p hp => mk_ok g1.w r1 p1.2 (fun d' M' v F' H' q g r => k d' M' v F' H' q (g1.trans g) r) hp⟩⟩
end
end DL
-- part DLC
set_option Elab.async false
set_option linter.all false
set_option maxRecDepth 100000
set_option maxHeartbeats 4000000
/-! the head's Hook with constants told as data -/
namespace DL
open PySem PySem.Spec PyProof.Rows L2
def all2B (f : Value → D → Bool) : List Value → List D → Bool
  | [], [] => true
  | u :: us, d :: ds => f u d && all2B f us ds
  | _, _ => false
def repB (K : PySem.W.Frag) : Nat → Value → D → Bool
  | _, .int j _, .int i => decide (j = i)
  | _, .str y _, .str x => decide (y = x)
  | n + 1, .ref a, .tup ds => (match K.lookup a with
    | some ⟨.type c, _, .seq its _, _⟩ => decide (c = "tuple") && (decide (its.size ≤ sizeLine) && all2B (repB K n) its.toList ds)
    | _ => false)
  | _, _, _ => false
theorem all2B_ok {K : PySem.W.Frag} {f : Value → D → Bool} (ih : ∀ u d, f u d = true → ∃ v, RelV v u ∧ ∀ F, Rep K F v d) : ∀ {us : List Value} {ds : List D}, all2B f us ds = true → ∃ xs, Vals xs us ∧ ∀ F, Reps K F xs ds
  | [], [], _ => ⟨[], .nil, fun _ => .nil⟩
  | [], _ :: _, h => by cases h
  | _ :: _, [], h => by cases h
  | u :: us, d :: ds, h => by
    obtain ⟨h1, h2⟩ := Bool.and_eq_true_iff.mp (show (f u d && all2B f us ds) = true from h)
    obtain ⟨v, r, p⟩ := ih u d h1
    obtain ⟨xs, rs, ps⟩ := all2B_ok ih h2
    exact ⟨v :: xs, .cons r rs, fun F => .cons (p F) (ps F)⟩
theorem repB_int {K : PySem.W.Frag} {n : Nat} {j i : Int} {t : Tok} (h : repB K n (.int j t) (.int i) = true) : ∃ v, RelV v (.int j t) ∧ ∀ F, Rep K F v (.int i) := by
  have e : j = i := of_decide_eq_true (by cases n <;> exact h)
  exact ⟨.int j, ⟨t, rfl⟩, fun F => by rw [e]; exact .int i⟩
theorem repB_str {K : PySem.W.Frag} {n : Nat} {j i : Str} {t : Tok} (h : repB K n (.str j t) (.str i) = true) : ∃ v, RelV v (.str j t) ∧ ∀ F, Rep K F v (.str i) := by
  have e : j = i := of_decide_eq_true (by cases n <;> exact h)
  exact ⟨.str j, ⟨t, rfl⟩, fun F => by rw [e]; exact .str i⟩
theorem repB_ok {K : PySem.W.Frag} : ∀ (n : Nat) (u : Value) (d : D), repB K n u d = true → ∃ v, RelV v u ∧ ∀ F, Rep K F v d
  | 0, u, d, h => by
    cases u with
    | int j t => cases d with
      | int i => exact repB_int h
      | _ => cases h
    | str j t => cases d with
      | str i => exact repB_str h
      | _ => cases h
    | _ => cases d <;> cases h
  | n + 1, u, d, h => by
    cases u with
    | int j t => cases d with
      | int i => exact repB_int h
      | _ => cases h
    | str j t => cases d with
      | str i => exact repB_str h
      | _ => cases h
    | ref a =>
      cases d with
      | tup ds =>
        have h : (match K.lookup a with
          | some ⟨.type c, _, .seq its _, _⟩ => decide (c = "tuple") && (decide (its.size ≤ sizeLine) && all2B (repB K n) its.toList ds)
          | _ => false) = true := h
        cases q : K.lookup a with
        | none => rw [q] at h; cases h
        | some o =>
          obtain ⟨oc, od, dt, osl⟩ := o
          rw [q] at h
          cases oc with
          | type c =>
            cases dt with
            | seq its m =>
              obtain ⟨h1, h2⟩ := Bool.and_eq_true_iff.mp (show (decide (c = "tuple") && (decide (its.size ≤ sizeLine) && all2B (repB K n) its.toList ds)) = true from h)
              obtain ⟨h3, h4⟩ := Bool.and_eq_true_iff.mp h2
              obtain ⟨xs, rs, ps⟩ := all2B_ok (repB_ok n) h4
              exact ⟨.ref a, rfl, fun F => .tup (.inr ⟨_, its, m, q, congrArg Value.type (of_decide_eq_true h1), rfl, of_decide_eq_true h3, rs⟩) (ps F)⟩
            | _ => cases h
          | _ => cases dt <;> cases h
      | _ => cases h
    | _ => cases d <;> cases h
def conC (K : PySem.W.Frag) (c : Str × D) : Bool := match PySem.W.nsIn K mainGlobals c.1 with
  | some (some u) => repB K 3 u c.2
  | _ => false
theorem conC_ok {K : PySem.W.Frag} {h : Heap} {mg : Str → Option Value} (X : K.In h) (G : h.Ns mainGlobals mg) {x : Str} {d : D} (e : conC K (x, d) = true) : Con K mg x d := by
  have e : (match PySem.W.nsIn K mainGlobals x with
    | some (some u) => repB K 3 u d
    | _ => false) = true := e
  cases q : PySem.W.nsIn K mainGlobals x with
  | none => rw [q] at e; cases e
  | some o =>
    rw [q] at e
    cases o with
    | none => cases e
    | some u =>
      obtain ⟨v, r, p⟩ := repB_ok 3 u d e
      exact ⟨v, u, PySem.W.mg_of X G q, r, p⟩
abbrev AlC : Type := He.AlD × Bool
def obsC (fa : List He.Fa) (fn : List He.DefD) (cs : List (Str × D)) (K : PySem.W.Frag) : AlC := (He.obsD fa fn K, cs.all (conC K))
def valC (fn : List He.DefD) : AlC := (He.valD fn, true)
def obsCG (n : Nat) (fa : List He.Fa) (fn : List He.DefD) (cs : List (Str × D)) (g : Addr → Option Obj) : AlC := obsC fa fn cs (He.frG g (He.asD g n))
def hookC (n : Nat) (fa : List He.Fa) (fn : List He.DefD) (cs : List (Str × D)) : PySem.W.Hook where
  α := AlC
  obs := fun s => obsCG n fa fn cs s.heap.get?
  val := fun _ => valC fn
  says := fun _ h => ∃ K : PySem.W.Frag, K.In h ∧ obsC fa fn cs K = valC fn
  of := fun _ _ e => ⟨_, He.frG_in, e⟩
  keeps := fun _ _ _ ⟨K, hK, c⟩ k => ⟨K, PySem.W.Frag.In.keeps hK k, c⟩
theorem obsCG_eq {n : Nat} {fa : List He.Fa} {fn : List He.DefD} {cs : List (Str × D)} {g : Addr → Option Obj} {s : Shared} (h : ∀ a, g a = s.heap.get? a) : obsCG n fa fn cs g = (hookC n fa fn cs).obs s := by
  have e : g = s.heap.get? := funext h
  rw [e] <;> rfl
section
variable {fa : List He.Fa} {fn : List He.DefD} {cs : List (Str × D)} {K : PySem.W.Frag}
theorem saysC_d (c : obsC fa fn cs K = valC fn) : He.SaysD fa fn K := congrArg (fun z : AlC => z.1) c
theorem saysC_con (c : obsC fa fn cs K = valC fn) {h : Heap} {mg : Str → Option Value} (X : K.In h) (G : h.Ns mainGlobals mg) (i : Nat) {x : Str} {d : D} (e : cs[i]? = some (x, d) := by rfl) : Con K mg x d := by
  have c2 : cs.all (conC K) = true := congrArg (fun z : AlC => z.2) c
  exact conC_ok X G (List.all_eq_true.mp c2 _ (List.mem_of_getElem? e))
end
end DL
-- part DL2
set_option Elab.async false
set_option linter.all false
set_option maxRecDepth 100000
set_option maxHeartbeats 4000000
namespace DL
open PySem PySem.Spec PyProof.Rows L2

/-! ### equality -/
def scD : D → D → Option Bool
  | .non, .non => some true
  | .bl a, .bl b => some (a == b)
  | .int a, .int b => some (decide (a = b))
  | .str a, .str b => some (decide (a = b))
  | .non, .int _ => some false
  | .int _, .non => some false
  | .non, .bl _ => some false
  | .bl _, .non => some false
  | .non, .str _ => some false
  | .str _, .non => some false
  | .int _, .str _ => some false
  | .str _, .int _ => some false
  | .non, .lst _ => some false
  | .lst _, .non => some false
  | .non, .tup _ => some false
  | .tup _, .non => some false
  | _, _ => none
def all2 (f : D → D → Bool) : List D → List D → Bool
  | x :: xs, y :: ys => f x y && all2 f xs ys
  | _, _ => true
def eqs (f : D → D → Bool) : List D → List D → Bool
  | [], [] => true
  | x :: xs, y :: ys => f x y && eqs f xs ys
  | _, _ => false
def deqN : Nat → D → D → Bool
  | n + 1, .lst xs, .lst ys => eqs (deqN n) xs ys
  | n + 1, .tup xs, .tup ys => eqs (deqN n) xs ys
  | _, d, e => (scD d e).getD false
def cmpN : Nat → D → D → Bool
  | n + 1, .lst xs, .lst ys => all2 (cmpN n) xs ys
  | n + 1, .tup xs, .tup ys => all2 (cmpN n) xs ys
  | _, d, e => (scD d e).isSome
theorem all2_get {f : D → D → Bool} : ∀ {xs ys : List D}, all2 f xs ys = true → ∀ (j : Nat) (x y : D), xs[j]? = some x → ys[j]? = some y → f x y = true
  | [], _, _, j, x, y, h, _ => by simp at h
  | _ :: _, [], _, j, x, y, _, h => by simp at h
  | a :: xs, b :: ys, h, 0, x, y, h1, h2 => by
    have h' := Bool.and_eq_true_iff.mp (show (f a b && all2 f xs ys) = true from h)
    cases Option.some.inj (show some a = some x from h1)
    cases Option.some.inj (show some b = some y from h2)
    exact h'.1
  | a :: xs, b :: ys, h, j + 1, x, y, h1, h2 => by
    have h' := Bool.and_eq_true_iff.mp (show (f a b && all2 f xs ys) = true from h)
    exact all2_get h'.2 j x y (by simpa using h1) (by simpa using h2)
/-- item by item -/
def ix (f : D → D → Bool) (xs ys : List D) (j : Nat) : Bool := f (xs.getD j .non) (ys.getD j .non)
theorem eqs_same {f : D → D → Bool} : ∀ {xs ys : List D}, xs.length = ys.length → (List.range xs.length).all (ix f xs ys) = eqs f xs ys
  | [], [], _ => rfl
  | [], _ :: _, h => by simp at h
  | _ :: _, [], h => by simp at h
  | x :: xs, y :: ys, h => by
    have ih := eqs_same (f := f) (xs := xs) (ys := ys) (by simpa using h)
    show (List.range (xs.length + 1)).all _ = (f x y && eqs f xs ys)
    rw [List.range_succ_eq_map, List.all_cons, List.all_map, ← ih]
    rfl
theorem eqs_len {f : D → D → Bool} : ∀ {xs ys : List D}, xs.length ≠ ys.length → eqs f xs ys = false
  | [], [], h => absurd rfl h
  | [], _ :: _, _ => rfl
  | _ :: _, [], _ => rfl
  | x :: xs, y :: ys, h => by
    show (f x y && eqs f xs ys) = false
    rw [eqs_len (xs := xs) (ys := ys) (fun z => h (congrArg (· + 1) z)), Bool.and_false]
theorem eqs_min {f : D → D → Bool} {xs ys : List D} : ((List.range (min xs.length ys.length)).all (ix f xs ys) && xs.length == ys.length) = eqs f xs ys := by
  by_cases h : xs.length = ys.length
  · rw [← h, Nat.min_self, eqs_same h]; simp
  · rw [eqs_len h, beq_eq_false_iff_ne.mpr h, Bool.and_false]
theorem eqs_refl {f : D → D → Bool} : ∀ {xs : List D}, (∀ x ∈ xs, f x x = true) → eqs f xs xs = true
  | [], _ => rfl
  | x :: xs, h => by
    show (f x x && eqs f xs xs) = true
    rw [h x List.mem_cons_self, eqs_refl fun y hy => h y (List.mem_cons_of_mem _ hy)]; rfl
theorem scD_refl {d : D} (h : (scD d d).isSome = true) : (scD d d).getD false = true := by
  cases d <;> simp_all [scD]
theorem deq_refl : ∀ (n : Nat) (d : D), cmpN n d d = true → deqN n d d = true
  | 0, d, h => by
    have e : deqN 0 d d = (scD d d).getD false := by cases d <;> rfl
    have e2 : cmpN 0 d d = (scD d d).isSome := by cases d <;> rfl
    rw [e]; rw [e2] at h; exact scD_refl h
  | n + 1, d, h => by
    cases d with
    | lst xs =>
      refine eqs_refl fun x hx => ?_
      obtain ⟨j, hj⟩ := List.getElem?_of_mem hx
      exact deq_refl n x (all2_get (show all2 (cmpN n) xs xs = true from h) j x x hj hj)
    | tup xs =>
      refine eqs_refl fun x hx => ?_
      obtain ⟨j, hj⟩ := List.getElem?_of_mem hx
      exact deq_refl n x (all2_get (show all2 (cmpN n) xs xs = true from h) j x x hj hj)
    | _ => exact scD_refl h

section
variable {X : Cx} {pins : List (Addr × Obj)} {σ : L2.St} {H : Hp} {s : Shared}
/-- D's that may be compared hold no changing lists -/
def fixD : D → Bool
  | .box _ => false
  | .dic _ => false
  | .scr _ => false
  | _ => true
theorem fix_of_cmp {n : Nat} {d e : D} (h : cmpN n d e = true) : fixD d = true ∧ fixD e = true := by
  cases n <;> cases d <;> cases e <;> simp_all [cmpN, scD, fixD]
theorem Rep.inj (I : Inv X pins σ H s) : ∀ (n : Nat) (d e : D) (v : V), cmpN n d e = true → Rep X.K H v d → Rep X.K H v e → d = e := by
  intro n
  induction n with
  | zero =>
    intro d e v h r1 r2
    have h1 := (fix_of_cmp h).1
    have h2 := (fix_of_cmp h).2
    cases r1 <;> cases r2 <;> first | rfl | cases h | cases h1 | cases h2
  | succ n ih =>
    have all : ∀ (ds es : List D) (vs : List V), all2 (cmpN n) ds es = true → Reps X.K H vs ds → Reps X.K H vs es → ds = es := by
      intro ds
      induction ds with
      | nil => intro es vs _ r1 r2; cases r1; cases r2; rfl
      | cons d ds ih2 =>
        intro es vs h r1 r2
        cases r1 with
        | cons h1 t1 =>
          cases r2 with
          | cons h2 t2 =>
            have h' := Bool.and_eq_true_iff.mp (show (cmpN n _ _ && all2 (cmpN n) _ _) = true from h)
            rw [ih _ _ _ h'.1 h1 h2, ih2 _ _ h'.2 t1 t2]
    intro d e v h r1 r2
    have h1 := (fix_of_cmp h).1
    have h2 := (fix_of_cmp h).2
    cases r1 with
    | lst e1 r1 =>
      cases r2 with
      | lst e2 r2 =>
        rw [e1] at e2; cases e2
        rw [all _ _ _ h r1 r2]
      | tup e2 r2 => cases h
      | _ => cases h2
    | tup e1 r1 =>
      cases r2 with
      | tup e2 r2 =>
        have e := I.tuple_inj e1 e2
        subst e
        rw [all _ _ _ h r1 r2]
      | lst e2 r2 => cases h
      | _ => cases h2
    | _ => cases r2 <;> first | rfl | cases h | cases h1 | cases h2
theorem Reps.inj (I : Inv X pins σ H s) (n : Nat) : ∀ (ds es : List D) (vs : List V), all2 (cmpN n) ds es = true → Reps X.K H vs ds → Reps X.K H vs es → ds = es := by
  intro ds
  induction ds with
  | nil => intro es vs _ r1 r2; cases r1; cases r2; rfl
  | cons d ds ih2 =>
    intro es vs h r1 r2
    cases r1 with
    | cons h1 t1 =>
      cases r2 with
      | cons h2 t2 =>
        have h' := Bool.and_eq_true_iff.mp (show (cmpN n _ _ && all2 (cmpN n) _ _) = true from h)
        rw [Rep.inj I n _ _ _ h'.1 h1 h2, ih2 _ _ h'.2 t1 t2]

/-- where a represented list or tuple stands -/
theorem lst_at (I : Inv X pins σ H s) {a : Addr} {xs : List V} {ds : List D} (h : H a = some (.lst xs)) (r : Reps X.K H xs ds) : ∃ its : Array Value, s.heap.IsList a its ∧ its.size = ds.length ∧ ∀ (j : Nat) (hj : j < its.size) (d : D), ds[j]? = some d → ∃ v, Rep X.K H v d ∧ RelV v its[j] := by
  obtain ⟨its, rv, p, hz⟩ := I.list (SqL.of h)
  refine ⟨its.toArray, p.isList, by rw [List.size_toArray, ← rv.length, r.length], fun j hj d hd => ?_⟩
  obtain ⟨v, hv, rp⟩ := r.get hd
  obtain ⟨u, hu, ru⟩ := rv.get hv
  refine ⟨v, rp, ?_⟩
  have hj' : j < its.length := by simpa using hj
  have e : its[j] = u := Option.some.inj ((List.getElem?_eq_getElem hj').symm.trans hu)
  show RelV v its.toArray[j]
  simpa [e] using ru
theorem tup_at (I : Inv X pins σ H s) {a : Addr} {xs : List V} {ds : List D} (h : SqT X.K H a xs) (r : Reps X.K H xs ds) : ∃ its : Array Value, s.heap.IsTuple a its ∧ its.size = ds.length ∧ ∀ (j : Nat) (hj : j < its.size) (d : D), ds[j]? = some d → ∃ v, Rep X.K H v d ∧ RelV v its[j] := by
  obtain ⟨its, rv, p, hz⟩ := I.tuple h
  refine ⟨its.toArray, p, by rw [List.size_toArray, ← rv.length, r.length], fun j hj d hd => ?_⟩
  obtain ⟨v, hv, rp⟩ := r.get hd
  obtain ⟨u, hu, ru⟩ := rv.get hv
  refine ⟨v, rp, ?_⟩
  have hj' : j < its.length := by simpa using hj
  have e : its[j] = u := Option.some.inj ((List.getElem?_eq_getElem hj').symm.trans hu)
  show RelV v its.toArray[j]
  simpa [e] using ru
theorem getD_of {ds : List D} {j : Nat} (h : j < ds.length) : ds[j]? = some (ds.getD j .non) := by
  rw [List.getD_eq_getElem?_getD, List.getElem?_eq_getElem h]; rfl

theorem eqAt_D (I : Inv X pins σ H s) : ∀ (n : Nat) (d e : D) (v w : V) (u u' : Value), cmpN n d e = true → Rep X.K H v d → Rep X.K H w e → RelV v u → RelV w u' →
    ∀ A : Around, A.units + n < cLine → SeqAt.EqAt A s u u' (deqN n d e) := by
  intro n
  induction n with
  | zero =>
    intro d e v w u u' h rv rw' ru ru' A hA
    have hA : A.units < cLine := by omega
    cases rv with
    | non =>
      cases ru
      cases rw' with
      | non => cases ru'; exact SeqAt.EqAt.same _
      | bl b => cases ru'; exact SeqAt.EqAt.none_bool b
      | int b => obtain ⟨t, rfl⟩ := ru'; exact SeqAt.EqAt.none_int b t
      | str b => obtain ⟨t, rfl⟩ := ru'; exact SeqAt.EqAt.none_str b t
      | lst e1 r1 => cases ru'; obtain ⟨its, hl, _⟩ := lst_at I e1 r1; exact SeqAt.EqAt.none_list hl hA
      | tup e1 r1 => cases ru'; obtain ⟨its, hl, _⟩ := tup_at I e1 r1; exact SeqAt.EqAt.none_tuple hl hA
      | _ => cases h
    | bl a =>
      cases ru
      cases rw' with
      | non => cases ru'; exact SeqAt.EqAt.bool_none a
      | bl b => cases ru'; exact SeqAt.EqAt.bool_bool a b
      | _ => cases h
    | int a =>
      obtain ⟨t, rfl⟩ := ru
      cases rw' with
      | non => cases ru'; exact SeqAt.EqAt.int_none a t
      | int b =>
        obtain ⟨t', rfl⟩ := ru'
        have := SeqAt.EqAt.int_int (A := A) (s := s) a t b t'
        rw [Bool.beq_eq_decide_eq] at this
        exact this
      | str b => obtain ⟨t', rfl⟩ := ru'; exact SeqAt.EqAt.int_str a t b t'
      | _ => cases h
    | str a =>
      obtain ⟨t, rfl⟩ := ru
      cases rw' with
      | non => cases ru'; exact SeqAt.EqAt.str_none a t
      | int b => obtain ⟨t', rfl⟩ := ru'; exact SeqAt.EqAt.str_int a t b t'
      | str b =>
        obtain ⟨t', rfl⟩ := ru'
        have := SeqAt.EqAt.str_str (A := A) (s := s) a t b t'
        rw [Bool.beq_eq_decide_eq] at this
        exact this
      | _ => cases h
    | lst e1 r1 =>
      cases ru
      cases rw' with
      | non => cases ru'; obtain ⟨its, hl, _⟩ := lst_at I e1 r1; exact SeqAt.EqAt.list_none hl hA
      | _ => cases h
    | tup e1 r1 =>
      cases ru
      cases rw' with
      | non => cases ru'; obtain ⟨its, hl, _⟩ := tup_at I e1 r1; exact SeqAt.EqAt.tuple_none hl hA
      | _ => cases h
    | _ => exact absurd (fix_of_cmp h).1 (by intro z; cases z)
  | succ n ih =>
    intro d e v w u u' h rv rw' ru ru' A hA
    have hA1 : A.units < cLine := by omega
    have hIn : A.in1.units + n < cLine := by show A.units + 1 + n < cLine; omega
    cases rv with
    | non =>
      cases ru
      cases rw' with
      | non => cases ru'; exact SeqAt.EqAt.same _
      | bl b => cases ru'; exact SeqAt.EqAt.none_bool b
      | int b => obtain ⟨t, rfl⟩ := ru'; exact SeqAt.EqAt.none_int b t
      | str b => obtain ⟨t, rfl⟩ := ru'; exact SeqAt.EqAt.none_str b t
      | lst e1 r1 => cases ru'; obtain ⟨its, hl, _⟩ := lst_at I e1 r1; exact SeqAt.EqAt.none_list hl hA1
      | tup e1 r1 => cases ru'; obtain ⟨its, hl, _⟩ := tup_at I e1 r1; exact SeqAt.EqAt.none_tuple hl hA1
      | _ => cases h
    | bl a =>
      cases ru
      cases rw' with
      | non => cases ru'; exact SeqAt.EqAt.bool_none a
      | bl b => cases ru'; exact SeqAt.EqAt.bool_bool a b
      | _ => cases h
    | int a =>
      obtain ⟨t, rfl⟩ := ru
      cases rw' with
      | non => cases ru'; exact SeqAt.EqAt.int_none a t
      | int b =>
        obtain ⟨t', rfl⟩ := ru'
        have := SeqAt.EqAt.int_int (A := A) (s := s) a t b t'
        rw [Bool.beq_eq_decide_eq] at this
        exact this
      | str b => obtain ⟨t', rfl⟩ := ru'; exact SeqAt.EqAt.int_str a t b t'
      | _ => cases h
    | str a =>
      obtain ⟨t, rfl⟩ := ru
      cases rw' with
      | non => cases ru'; exact SeqAt.EqAt.str_none a t
      | int b => obtain ⟨t', rfl⟩ := ru'; exact SeqAt.EqAt.str_int a t b t'
      | str b =>
        obtain ⟨t', rfl⟩ := ru'
        have := SeqAt.EqAt.str_str (A := A) (s := s) a t b t'
        rw [Bool.beq_eq_decide_eq] at this
        exact this
      | _ => cases h
    | @lst a1 xs1 ds1 e1 r1 =>
      cases ru
      cases rw' with
      | non => cases ru'; obtain ⟨its, hl, _⟩ := lst_at I e1 r1; exact SeqAt.EqAt.list_none hl hA1
      | @lst b1 ys1 es1 e2 r2 =>
        cases ru'
        have h' : all2 (cmpN n) ds1 es1 = true := h
        by_cases hab : a1 = b1
        · subst hab
          rw [e1] at e2; cases e2
          have z := Reps.inj I n _ _ _ h' r1 r2
          subst z
          rw [deq_refl (n + 1) _ h]
          exact SeqAt.EqAt.same _
        · obtain ⟨its, hl, hz, hg⟩ := lst_at I e1 r1
          obtain ⟨its2, hl2, hz2, hg2⟩ := lst_at I e2 r2
          refine SeqAt.EqAt.of_refs hab ?_
          show SeqAt.RcAt A s _ _ (eqs (deqN n) ds1 es1)
          by_cases hsz : its.size = its2.size
          · rw [← eqs_same (by omega), ← hz]
            refine SeqAt.RcAt.lists hl hl2 hsz hA1 fun j h1 h2 => ?_
            obtain ⟨v1, p1, q1⟩ := hg j h1 _ (getD_of (by omega))
            obtain ⟨v2, p2, q2⟩ := hg2 j h2 _ (getD_of (by omega))
            exact ih _ _ v1 v2 _ _ (all2_get h' j _ _ (getD_of (by omega)) (getD_of (by omega))) p1 p2 q1 q2 A.in1 hIn
          · rw [eqs_len (by omega)]
            exact SeqAt.RcAt.lists_lengths hl hl2 (by simpa using hsz) hA1
      | _ => cases h
    | @tup a1 xs1 ds1 e1 r1 =>
      cases ru
      cases rw' with
      | non => cases ru'; obtain ⟨its, hl, _⟩ := tup_at I e1 r1; exact SeqAt.EqAt.tuple_none hl hA1
      | @tup b1 ys1 es1 e2 r2 =>
        cases ru'
        have h' : all2 (cmpN n) ds1 es1 = true := h
        by_cases hab : a1 = b1
        · subst hab
          have z0 := I.tuple_inj e1 e2
          subst z0
          have z := Reps.inj I n _ _ _ h' r1 r2
          subst z
          rw [deq_refl (n + 1) _ h]
          exact SeqAt.EqAt.same _
        · obtain ⟨its, hl, hz, hg⟩ := tup_at I e1 r1
          obtain ⟨its2, hl2, hz2, hg2⟩ := tup_at I e2 r2
          refine SeqAt.EqAt.of_refs hab ?_
          show SeqAt.RcAt A s _ _ (eqs (deqN n) ds1 es1)
          rw [← eqs_min, ← hz, ← hz2]
          refine SeqAt.RcAt.tuples hl hl2 hA1 fun j h1 h2 => ?_
          obtain ⟨v1, p1, q1⟩ := hg j h1 _ (getD_of (by omega))
          obtain ⟨v2, p2, q2⟩ := hg2 j h2 _ (getD_of (by omega))
          exact ih _ _ v1 v2 _ _ (all2_get h' j _ _ (getD_of (by omega)) (getD_of (by omega))) p1 p2 q1 q2 A.in1 hIn
      | _ => cases h
    | _ => exact absurd (fix_of_cmp h).1 (by intro z; cases z)
end
end DL
-- part DL3
set_option Elab.async false
set_option linter.all false
set_option maxRecDepth 100000
set_option maxHeartbeats 4000000
namespace DL
open PySem PySem.Spec PyProof.Rows L2

section
variable {X : Cx} {pins : List (Addr × Obj)} {σ : L2.St} {H : Hp} {s : Shared}
theorem rcAt_D (I : Inv X pins σ H s) (n : Nat) (d e : D) (v w : V) (u u' : Value) (h : cmpN (n + 1) d e = true) (rv : Rep X.K H v d) (rw' : Rep X.K H w e) (ru : RelV v u) (ru' : RelV w u')
    (A : Around) (hA : A.units + (n + 1) < cLine) : SeqAt.RcAt A s u u' (deqN (n + 1) d e) ∧ SeqAt.RcNeAt A s u u' (!deqN (n + 1) d e) := by
  have hA1 : A.units < cLine := by omega
  have hIn : A.in1.units + n < cLine := by show A.units + 1 + n < cLine; omega
  cases rv with
  | non =>
    cases ru
    cases rw' with
    | non => cases ru'; exact ⟨SeqAt.RcAt.none_none, SeqAt.RcNeAt.none_none⟩
    | bl b => cases ru'; exact ⟨SeqAt.RcAt.none_bool b, SeqAt.RcNeAt.none_bool b⟩
    | int b => obtain ⟨t, rfl⟩ := ru'; exact ⟨SeqAt.RcAt.none_int b t, SeqAt.RcNeAt.none_int b t⟩
    | str b => obtain ⟨t, rfl⟩ := ru'; exact ⟨SeqAt.RcAt.none_str b t, SeqAt.RcNeAt.none_str b t⟩
    | lst e1 r1 => cases ru'; obtain ⟨its, hl, _⟩ := lst_at I e1 r1; exact ⟨SeqAt.RcAt.none_list hl hA1, SeqAt.RcNeAt.none_list hl hA1⟩
    | tup e1 r1 => cases ru'; obtain ⟨its, hl, _⟩ := tup_at I e1 r1; exact ⟨SeqAt.RcAt.none_tuple hl hA1, SeqAt.RcNeAt.none_tuple hl hA1⟩
    | _ => cases h
  | bl a =>
    cases ru
    cases rw' with
    | non => cases ru'; exact ⟨SeqAt.RcAt.bool_none a, SeqAt.RcNeAt.bool_none a⟩
    | bl b => cases ru'; exact ⟨SeqAt.RcAt.bool_bool a b, SeqAt.RcNeAt.bool_bool a b⟩
    | _ => cases h
  | int a =>
    obtain ⟨t, rfl⟩ := ru
    cases rw' with
    | non => cases ru'; exact ⟨SeqAt.RcAt.int_none a t, SeqAt.RcNeAt.int_none a t⟩
    | int b =>
      obtain ⟨t', rfl⟩ := ru'
      have h1 := SeqAt.RcAt.int_int (A := A) (s := s) a t b t'
      have h2 := SeqAt.RcNeAt.int_int (A := A) (s := s) a t b t'
      rw [Bool.beq_eq_decide_eq] at h1 h2
      exact ⟨h1, h2⟩
    | str b => obtain ⟨t', rfl⟩ := ru'; exact ⟨SeqAt.RcAt.int_str a t b t', SeqAt.RcNeAt.int_str a t b t'⟩
    | _ => cases h
  | str a =>
    obtain ⟨t, rfl⟩ := ru
    cases rw' with
    | non => cases ru'; exact ⟨SeqAt.RcAt.str_none a t, SeqAt.RcNeAt.str_none a t⟩
    | int b => obtain ⟨t', rfl⟩ := ru'; exact ⟨SeqAt.RcAt.str_int a t b t', SeqAt.RcNeAt.str_int a t b t'⟩
    | str b =>
      obtain ⟨t', rfl⟩ := ru'
      have h1 := SeqAt.RcAt.str_str (A := A) (s := s) a t b t'
      have h2 := SeqAt.RcNeAt.str_str (A := A) (s := s) a t b t'
      rw [Bool.beq_eq_decide_eq] at h1 h2
      exact ⟨h1, h2⟩
    | _ => cases h
  | @lst a1 xs1 ds1 e1 r1 =>
    cases ru
    cases rw' with
    | non => cases ru'; obtain ⟨its, hl, _⟩ := lst_at I e1 r1; exact ⟨SeqAt.RcAt.list_none hl hA1, SeqAt.RcNeAt.list_none hl hA1⟩
    | @lst b1 ys1 es1 e2 r2 =>
      cases ru'
      have h' : all2 (cmpN n) ds1 es1 = true := h
      obtain ⟨its, hl, hz, hg⟩ := lst_at I e1 r1
      obtain ⟨its2, hl2, hz2, hg2⟩ := lst_at I e2 r2
      show SeqAt.RcAt A s _ _ (eqs (deqN n) ds1 es1) ∧ SeqAt.RcNeAt A s _ _ (!eqs (deqN n) ds1 es1)
      by_cases hsz : its.size = its2.size
      · rw [← eqs_same (by omega), ← hz]
        have he : ∀ j (h1 : j < its.size) (h2 : j < its2.size), SeqAt.EqAt A.in1 s its[j] its2[j] (ix (deqN n) ds1 es1 j) := fun j h1 h2 => by
          obtain ⟨v1, p1, q1⟩ := hg j h1 _ (getD_of (by omega))
          obtain ⟨v2, p2, q2⟩ := hg2 j h2 _ (getD_of (by omega))
          exact eqAt_D I n _ _ v1 v2 _ _ (all2_get h' j _ _ (getD_of (by omega)) (getD_of (by omega))) p1 p2 q1 q2 A.in1 hIn
        exact ⟨SeqAt.RcAt.lists hl hl2 hsz hA1 he, SeqAt.RcNeAt.lists hl hl2 hsz hA1 he⟩
      · rw [eqs_len (by omega)]
        exact ⟨SeqAt.RcAt.lists_lengths hl hl2 (by simpa using hsz) hA1, SeqAt.RcNeAt.lists_lengths hl hl2 (by simpa using hsz) hA1⟩
    | _ => cases h
  | @tup a1 xs1 ds1 e1 r1 =>
    cases ru
    cases rw' with
    | non => cases ru'; obtain ⟨its, hl, _⟩ := tup_at I e1 r1; exact ⟨SeqAt.RcAt.tuple_none hl hA1, SeqAt.RcNeAt.tuple_none hl hA1⟩
    | @tup b1 ys1 es1 e2 r2 =>
      cases ru'
      have h' : all2 (cmpN n) ds1 es1 = true := h
      obtain ⟨its, hl, hz, hg⟩ := tup_at I e1 r1
      obtain ⟨its2, hl2, hz2, hg2⟩ := tup_at I e2 r2
      show SeqAt.RcAt A s _ _ (eqs (deqN n) ds1 es1) ∧ SeqAt.RcNeAt A s _ _ (!eqs (deqN n) ds1 es1)
      rw [← eqs_min, ← hz, ← hz2]
      have he : ∀ j (h1 : j < its.size) (h2 : j < its2.size), SeqAt.EqAt A.in1 s its[j] its2[j] (ix (deqN n) ds1 es1 j) := fun j h1 h2 => by
        obtain ⟨v1, p1, q1⟩ := hg j h1 _ (getD_of (by omega))
        obtain ⟨v2, p2, q2⟩ := hg2 j h2 _ (getD_of (by omega))
        exact eqAt_D I n _ _ v1 v2 _ _ (all2_get h' j _ _ (getD_of (by omega)) (getD_of (by omega))) p1 p2 q1 q2 A.in1 hIn
      exact ⟨SeqAt.RcAt.tuples hl hl2 hA1 he, SeqAt.RcNeAt.tuples hl hl2 hA1 he⟩
    | _ => cases h
  | _ => exact absurd (fix_of_cmp h).1 (by intro z; cases z)
def rEqG (K : PySem.W.Frag) (ne : Bool) : R2 := fun x y H Q => ∃ d e, Rep K H x d ∧ Rep K H y e ∧ cmpN 9 d e = true ∧ Q (.bl (if ne then !deqN 9 d e else deqN 9 d e)) H
theorem op_eqG (hu : X.A.units + 64 < cLine) : OpR X (compareOp .Eq) (rEqG X.K false) := by
  intro pins s σ H x y v u Q I rx ry ⟨d, e, rd, re, c, q⟩
  exact (rcAt_D I 8 d e x y v u c rd re rx ry X.A (by omega)).1 X.prog X.w _ _ ⟨.bl _, H, I, rfl, q⟩
theorem op_neG (hu : X.A.units + 64 < cLine) : OpR X (compareOp .NotEq) (rEqG X.K true) := by
  intro pins s σ H x y v u Q I rx ry ⟨d, e, rd, re, c, q⟩
  exact (rcAt_D I 8 d e x y v u c rd re rx ry X.A (by omega)).2 X.prog X.w _ _ ⟨.bl _, H, I, rfl, q⟩
end

/-- a changing list as it stands -/
def res (M : Mem) : D → D
  | .box a => match M a with
    | some ds => .lst ds
    | none => .box a
  | d => d
section
variable {K : PySem.W.Frag} {F : Hp} {M : Mem} {H : Hp}
theorem Wld.resR (w : Wld K F M H) {v : V} {d : D} (r : Rep K F v d) : Rep K H v (res M d) := by
  cases r with
  | box a =>
    show Rep K H (.ref a) (match M a with | some ds => .lst ds | none => .box a)
    cases e : M a with
    | none => exact .box a
    | some ds =>
      obtain ⟨_, vs, h, r⟩ := w.mem a ds e
      exact .lst h (r.mono w.sub)
  | non => exact .non
  | bl b => exact .bl b
  | int i => exact .int i
  | str x => exact .str x
  | lst e r => exact Rep.mono w.sub (.lst e r)
  | tup e r => exact Rep.mono w.sub (.tup e r)
  | dic e r => exact Rep.mono w.sub (.dic e r)
  | scr e => exact Rep.mono w.sub (.scr e)
/-- the items of a list, a tuple -/
def seqD (M : Mem) : D → Option (List D)
  | .lst ds => some ds
  | .tup ds => some ds
  | .box a => M a
  | _ => none
def lstD (M : Mem) : D → Option (List D)
  | .lst ds => some ds
  | .box a => M a
  | _ => none
theorem lst_of (w : Wld K F M H) {v : V} {d : D} {ds : List D} (r : Rep K F v d) (e : lstD M d = some ds) : ∃ a vs, v = .ref a ∧ H a = some (.lst vs) ∧ Reps K F vs ds := by
  cases r with
  | lst h r => cases e; exact ⟨_, _, rfl, w.sub _ _ h, r⟩
  | box a =>
    obtain ⟨_, vs, h, r⟩ := w.mem a ds e
    exact ⟨a, vs, rfl, h, r⟩
  | _ => cases e
theorem seq_of (w : Wld K F M H) {v : V} {d : D} {ds : List D} (r : Rep K F v d) (e : seqD M d = some ds) : ∃ a vs, v = .ref a ∧ (SqL K H a vs ∨ SqT K H a vs) ∧ Reps K F vs ds := by
  cases r with
  | lst h r => cases e; exact ⟨_, _, rfl, .inl (SqL.of (w.sub _ _ h)), r⟩
  | tup h r => cases e; exact ⟨_, _, rfl, .inr (Same.tup w.sub h), r⟩
  | box a =>
    obtain ⟨_, vs, h, r⟩ := w.mem a ds e
    exact ⟨a, vs, rfl, .inl (SqL.of h), r⟩
  | _ => cases e
end

/-! ### the operators over data -/
def fEq (ne : Bool) : D → D → Mem → DK → Prop := fun d e M P => cmpN 9 (res M d) (res M e) = true ∧ P (.bl (if ne then !deqN 9 (res M d) (res M e) else deqN 9 (res M d) (res M e))) M
theorem br_eq {K : PySem.W.Frag} {ne : Bool} : BrOp K (rEqG K ne) (fEq ne) := fun F M H x y d e P Q w rx ry ⟨c, p⟩ k =>
  ⟨_, _, w.resR rx, w.resR ry, c, k _ M _ F H p (Go.refl w) (.bl _)⟩
def fAdd : D → D → Mem → DK → Prop := fun d e M P => match d, e with
  | .int i, .int j => P (.int (i + j)) M
  | .str x, .str y => x.length + y.length ≤ 16777216 ∧ P (.str (x ++ y)) M
  | .lst xs, .lst ys => xs.length + ys.length ≤ 16777216 ∧ P (.lst (xs ++ ys)) M
  | .tup xs, .tup ys => xs.length + ys.length ≤ 16777216 ∧ P (.tup (xs ++ ys)) M
  | _, _ => False
def rAdd (K : PySem.W.Frag) : R2 := fun x y H Q => rI0 (fun i j => .int (i + j)) x y H Q ∨ (∃ i j, x = .str i ∧ y = .str j ∧ i.length + j.length ≤ sizeLine ∧ Q (.str (i ++ j)) H) ∨ rCat x y H Q ∨ rCatA K x y H Q
theorem op_addG {X : Cx} : OpR X (binaryOp .Add) (rAdd X.K) := op_add.or (op_add_str.or (op_cat.or op_catA))
theorem br_add {K : PySem.W.Frag} : BrOp K (rAdd K) fAdd := by
  intro F M H x y d e P Q w rx ry p k
  cases rx with
  | int i =>
    cases ry with
    | int j => exact .inl ⟨i, j, rfl, rfl, k (.int (i + j)) M _ F H p (Go.refl w) (.int _)⟩
    | _ => exact p.elim
  | str a =>
    cases ry with
    | str b => exact .inr (.inl ⟨a, b, rfl, rfl, line_le p.1, k (.str (a ++ b)) M _ F H p.2 (Go.refl w) (.str _)⟩)
    | _ => exact p.elim
  | @lst a1 xs1 ds1 e1 r1 =>
    cases ry with
    | @lst b1 ys1 es1 e2 r2 =>
      refine .inr (.inr (.inl ⟨a1, b1, xs1, ys1, rfl, rfl, w.sub _ _ e1, w.sub _ _ e2, ?_, fun q hq => ?_⟩))
      · rw [r1.length, r2.length]; exact line_le p.1
      · exact mk_ok (m := false) w (r1.app r2) p.2 k hq
    | _ => exact p.elim
  | @tup a1 xs1 ds1 e1 r1 =>
    cases ry with
    | @tup b1 ys1 es1 e2 r2 =>
      refine .inr (.inr (.inr ⟨a1, b1, xs1, ys1, rfl, rfl, Same.tup w.sub e1, Same.tup w.sub e2, ?_, fun hx => ?_, fun _ hy => ?_, fun _ _ q hq => ?_⟩))
      · rw [r1.length, r2.length]; exact line_le p.1
      · subst hx
        cases r1
        exact k (.tup es1) M _ F H p.2 (Go.refl w) (.tup e2 r2)
      · subst hy
        cases r2
        have p2 := p.2
        rw [List.append_nil] at p2
        exact k (.tup ds1) M _ F H p2 (Go.refl w) (.tup e1 r1)
      · exact tup_ok w (r1.app r2) p.2 k hq
    | _ => exact p.elim
  | _ => exact p.elim
/-- two ints, under C -/
def fI (C : Int → Int → Prop) (g : Int → Int → D) : D → D → Mem → DK → Prop := fun d e M P => match d, e with
  | .int i, .int j => C i j ∧ P (g i j) M
  | _, _ => False
def fI0 (g : Int → Int → D) : D → D → Mem → DK → Prop := fun d e M P => match d, e with
  | .int i, .int j => P (g i j) M
  | _, _ => False
theorem br_I {K : PySem.W.Frag} {C : Int → Int → Prop} {gv : Int → Int → V} {g : Int → Int → D} (h : ∀ K F i j, Rep K F (gv i j) (g i j)) : BrOp K (rI C gv) (fI C g) := by
  intro F M H x y d e P Q w rx ry p k
  cases rx with
  | int i =>
    cases ry with
    | int j => exact ⟨i, j, rfl, rfl, p.1, k _ M _ F H p.2 (Go.refl w) (h _ _ i j)⟩
    | _ => exact p.elim
  | _ => exact p.elim
theorem br_I0 {K : PySem.W.Frag} {gv : Int → Int → V} {g : Int → Int → D} (h : ∀ K F i j, Rep K F (gv i j) (g i j)) : BrOp K (rI0 gv) (fI0 g) := by
  intro F M H x y d e P Q w rx ry p k
  cases rx with
  | int i =>
    cases ry with
    | int j => exact ⟨i, j, rfl, rfl, k _ M _ F H p (Go.refl w) (h _ _ i j)⟩
    | _ => exact p.elim
  | _ => exact p.elim
abbrev fSub := fI0 fun i j => D.int (i - j)
abbrev fMul := fI CMul fun i j => D.int (i * j)
abbrev fMod := fI (fun _ j => 0 < j) fun i j => D.int (i % j)
abbrev fDiv := fI CDiv fun i j => D.int (i / j)
abbrev fPow := fI CPow fun i j => D.int (i ^ j.toNat)
abbrev fAnd := fI0 fun i j => D.int (Builtin.bitAnd i j)
abbrev fLt := fI0 fun i j => D.bl (decide (i < j))
abbrev fLe := fI0 fun i j => D.bl (decide (i ≤ j))
abbrev fGt := fI0 fun i j => D.bl (decide (j < i))
abbrev fGe := fI0 fun i j => D.bl (decide (j ≤ i))
section
variable {X : Cx} {a b c : Expr} {ta tb tc : RE} {pos : Pos}
theorem de_add (ha : DE X a ta) (hb : DE X b tb) : DE X (.BinOp a .Add b pos) (xOp fAdd ta tb) := de_op op_addG br_add ha hb
theorem de_sub (ha : DE X a ta) (hb : DE X b tb) : DE X (.BinOp a .Sub b pos) (xOp fSub ta tb) := de_op op_sub (br_I0 fun _ _ _ _ => .int _) ha hb
theorem de_mul (ha : DE X a ta) (hb : DE X b tb) : DE X (.BinOp a .Mult b pos) (xOp fMul ta tb) := de_op op_mul (br_I fun _ _ _ _ => .int _) ha hb
theorem de_mod (ha : DE X a ta) (hb : DE X b tb) : DE X (.BinOp a .Mod b pos) (xOp fMod ta tb) := de_op op_mod (br_I fun _ _ _ _ => .int _) ha hb
theorem de_fdiv (ha : DE X a ta) (hb : DE X b tb) : DE X (.BinOp a .FloorDiv b pos) (xOp fDiv ta tb) := de_op op_fdiv (br_I fun _ _ _ _ => .int _) ha hb
theorem de_pow (ha : DE X a ta) (hb : DE X b tb) : DE X (.BinOp a .Pow b pos) (xOp fPow ta tb) := de_op op_pow (br_I fun _ _ _ _ => .int _) ha hb
theorem de_band (ha : DE X a ta) (hb : DE X b tb) : DE X (.BinOp a .BitAnd b pos) (xOp fAnd ta tb) := de_op op_and (br_I0 fun _ _ _ _ => .int _) ha hb
theorem de_lt (ha : DE X a ta) (hb : DE X b tb) : DE X (.Compare a [.Lt] [b] pos) (xOp fLt ta tb) := de_cmp op_lt (br_I0 fun _ _ _ _ => .bl _) ha hb (nomark _)
theorem de_le (ha : DE X a ta) (hb : DE X b tb) : DE X (.Compare a [.LtE] [b] pos) (xOp fLe ta tb) := de_cmp op_le (br_I0 fun _ _ _ _ => .bl _) ha hb (nomark _)
theorem de_gt (ha : DE X a ta) (hb : DE X b tb) : DE X (.Compare a [.Gt] [b] pos) (xOp fGt ta tb) := de_cmp op_gt (br_I0 fun _ _ _ _ => .bl _) ha hb (nomark _)
theorem de_ge (ha : DE X a ta) (hb : DE X b tb) : DE X (.Compare a [.GtE] [b] pos) (xOp fGe ta tb) := de_cmp op_ge (br_I0 fun _ _ _ _ => .bl _) ha hb (nomark _)
theorem dt_lt (ha : DE X a ta) (hb : DE X b tb) : DT X (.Compare a [.Lt] [b] pos) (xB (xOp fLt ta tb)) := dt_cmp op_lt (br_I0 fun _ _ _ _ => .bl _) ha hb (nomark _)
theorem dt_le (ha : DE X a ta) (hb : DE X b tb) : DT X (.Compare a [.LtE] [b] pos) (xB (xOp fLe ta tb)) := dt_cmp op_le (br_I0 fun _ _ _ _ => .bl _) ha hb (nomark _)
theorem dt_gt (ha : DE X a ta) (hb : DE X b tb) : DT X (.Compare a [.Gt] [b] pos) (xB (xOp fGt ta tb)) := dt_cmp op_gt (br_I0 fun _ _ _ _ => .bl _) ha hb (nomark _)
theorem dt_ge (ha : DE X a ta) (hb : DE X b tb) : DT X (.Compare a [.GtE] [b] pos) (xB (xOp fGe ta tb)) := dt_cmp op_ge (br_I0 fun _ _ _ _ => .bl _) ha hb (nomark _)
theorem de_lele (ha : DE X a ta) (hb : DE X b tb) (hc : DE X c tc) (hm : lastMarks [.LtE, .LtE] [b, c] = false := by with_unfolding_all rfl) : DE X (.Compare a [.LtE, .LtE] [b, c] pos) (xChain fLe fLe ta tb tc) :=
  de_chain op_le (br_I0 fun _ _ _ _ => .bl _) op_le (br_I0 fun _ _ _ _ => .bl _) ha hb hc hm
theorem dt_lele (ha : DE X a ta) (hb : DE X b tb) (hc : DE X c tc) (hm : lastMarks [.LtE, .LtE] [b, c] = false := by with_unfolding_all rfl) : DT X (.Compare a [.LtE, .LtE] [b, c] pos) (xB (xChain fLe fLe ta tb tc)) :=
  dt_chain op_le (br_I0 fun _ _ _ _ => .bl _) op_le (br_I0 fun _ _ _ _ => .bl _) ha hb hc hm
theorem de_eq (hu : X.A.units + 64 < cLine) (ha : DE X a ta) (hb : DE X b tb) : DE X (.Compare a [.Eq] [b] pos) (xOp (fEq false) ta tb) := de_cmp (op_eqG hu) br_eq ha hb (nomark _)
theorem de_ne (hu : X.A.units + 64 < cLine) (ha : DE X a ta) (hb : DE X b tb) : DE X (.Compare a [.NotEq] [b] pos) (xOp (fEq true) ta tb) := de_cmp (op_neG hu) br_eq ha hb (nomark _)
theorem dt_eq (hu : X.A.units + 64 < cLine) (ha : DE X a ta) (hb : DE X b tb) : DT X (.Compare a [.Eq] [b] pos) (xB (xOp (fEq false) ta tb)) := dt_cmp (op_eqG hu) br_eq ha hb (nomark _)
theorem dt_ne (hu : X.A.units + 64 < cLine) (ha : DE X a ta) (hb : DE X b tb) : DT X (.Compare a [.NotEq] [b] pos) (xB (xOp (fEq true) ta tb)) := dt_cmp (op_neG hu) br_eq ha hb (nomark _)
/-- -x -/
def fNeg : D → Mem → DK → Prop := fun d M P => match d with
  | .int i => P (.int (-i)) M
  | _ => False
theorem br_neg {K : PySem.W.Frag} : BrUn K (rU fun i => .int (-i)) fNeg := by
  intro F M H x d P Q w rx p k
  cases rx with
  | int i => exact ⟨i, rfl, k (.int (-i)) M _ F H p (Go.refl w) (.int _)⟩
  | _ => exact p.elim
theorem de_neg (ha : DE X a ta) : DE X (.UnaryOp .USub a pos) (xUn fNeg ta) := de_un un_neg br_neg ha
end

/-! ### is -/
def isNon : D → Bool
  | .non => true
  | _ => false
theorem isNon_rep {K : PySem.W.Frag} {F : Hp} {v : V} {d : D} (r : Rep K F v d) : decide (v = .non) = isNon d := by
  cases r <;> first | rfl | exact decide_eq_false (fun z => nomatch z)
def fIs (neg : Bool) : D → D → Mem → DK → Prop := fun d e M P => match e with
  | .non => P (.bl (if neg then !isNon d else isNon d)) M
  | .bl b => (match d with
    | .bl a => P (.bl (if neg then !decide (a = b) else decide (a = b))) M
    | _ => False)
  | _ => False
def rIsG (neg : Bool) : R2 := fun x y H Q => (y = .non ∧ Q (.bl (if neg then !decide (x = .non) else decide (x = .non))) H) ∨ (∃ a b, x = .bl a ∧ y = .bl b ∧ Q (.bl (if neg then !decide (a = b) else decide (a = b))) H)
theorem op_isG {X : Cx} : OpR X (compareOp .Is) (rIsG false) := op_isN.or op_is_bl
theorem op_isNotG {X : Cx} : OpR X (compareOp .IsNot) (rIsG true) := op_notN.or op_isnot_bl
theorem br_is {K : PySem.W.Frag} {neg : Bool} : BrOp K (rIsG neg) (fIs neg) := by
  intro F M H x y d e P Q w rx ry p k
  cases ry with
  | non =>
    refine .inl ⟨rfl, ?_⟩
    rw [isNon_rep rx]
    exact k _ M _ F H p (Go.refl w) (.bl _)
  | bl b =>
    cases rx with
    | bl a => exact .inr ⟨a, b, rfl, rfl, k _ M _ F H p (Go.refl w) (.bl _)⟩
    | _ => exact p.elim
  | _ => exact p.elim
section
variable {X : Cx} {a b c : Expr} {ta tb tc : RE} {pos : Pos}
theorem de_is (ha : DE X a ta) (hb : DE X b tb) : DE X (.Compare a [.Is] [b] pos) (xOp (fIs false) ta tb) := de_cmp op_isG br_is ha hb (nomark _)
theorem de_isNot (ha : DE X a ta) (hb : DE X b tb) : DE X (.Compare a [.IsNot] [b] pos) (xOp (fIs true) ta tb) := de_cmp op_isNotG br_is ha hb (nomark _)
theorem dt_is (ha : DE X a ta) (hb : DE X b tb) : DT X (.Compare a [.Is] [b] pos) (xB (xOp (fIs false) ta tb)) := dt_cmp op_isG br_is ha hb (nomark _)
theorem dt_isNot (ha : DE X a ta) (hb : DE X b tb) : DT X (.Compare a [.IsNot] [b] pos) (xB (xOp (fIs true) ta tb)) := dt_cmp op_isNotG br_is ha hb (nomark _)
end

/-! ### in -/
def flatD : D → Bool
  | .non => true
  | .bl _ => true
  | .int _ => true
  | .str _ => true
  | _ => false
def toV : D → V
  | .bl b => .bl b
  | .int i => .int i
  | .str x => .str x
  | _ => .non
theorem toV_rep {K : PySem.W.Frag} {F : Hp} {v : V} {d : D} (r : Rep K F v d) (h : flatD d = true) : v = toV d ∧ flatV v = true := by
  cases r <;> first | exact ⟨rfl, rfl⟩ | cases h
theorem toVs_rep {K : PySem.W.Frag} {F : Hp} : ∀ {vs : List V} {ds : List D}, Reps K F vs ds → ds.all flatD = true → vs = ds.map toV ∧ vs.all flatV = true
  | _, _, .nil, _ => ⟨rfl, rfl⟩
  | _, _, .cons r t, h => by
    rw [List.all_cons, Bool.and_eq_true] at h
    obtain ⟨h1, h2⟩ := toV_rep r h.1
    obtain ⟨h3, h4⟩ := toVs_rep t h.2
    exact ⟨by rw [h1, h3]; rfl, by rw [List.all_cons, h2, h4]; rfl⟩
def eqF (d e : D) : Bool := L2.eqV (toV d) (toV e)
def inD (d : D) (ds : List D) : Bool := ds.any fun e => eqF e d
/-- a text within a text -/
def subS (x z : Str) : Bool := !(Builtin.Str.occurrences z x 0 z.length 1).isEmpty
def fIn (neg : Bool) : D → D → Mem → DK → Prop := fun d e M P => match e with
  | .str z => (match d with
    | .str x => P (.bl (if neg then !subS x z else subS x z)) M
    | _ => False)
  | e => match seqD M e with
    | some ds => flatD d = true ∧ ds.all flatD = true ∧ P (.bl (if neg then !inD d ds else inD d ds)) M
    | none => False
def rInG (K : PySem.W.Frag) (neg : Bool) : R2 := fun x y H Q => (∃ i j, x = .str i ∧ y = .str j ∧ Q (.bl (if neg then !subS i j else subS i j)) H) ∨ rIn K neg x y H Q
theorem op_inG {X : Cx} : OpR X (compareOp .In) (rInG X.K false) := OpR.or (op_in_str (X := X)) op_in_seq
theorem op_notInG {X : Cx} : OpR X (compareOp .NotIn) (rInG X.K true) := OpR.or (op_notin_str (X := X)) op_notIn_seq
theorem br_in {K : PySem.W.Frag} {neg : Bool} : BrOp K (rInG K neg) (fIn neg) := by
  intro F M H x y d e P Q w rx ry p k
  have seq : ∀ {e : D} {y : V}, Rep K F y e → (match seqD M e with | some ds => flatD d = true ∧ ds.all flatD = true ∧ P (.bl (if neg then !inD d ds else inD d ds)) M | none => False) → rIn K neg x y H Q := by
    intro e y ry p
    cases hs : seqD M e with
    | none => rw [hs] at p; exact p.elim
    | some ds =>
      rw [hs] at p
      obtain ⟨a, vs, rfl, h1, h2⟩ := seq_of w ry hs
      obtain ⟨e1, f1⟩ := toV_rep rx p.1
      obtain ⟨e2, f2⟩ := toVs_rep h2 p.2.1
      refine ⟨a, vs, rfl, h1, f1, f2, ?_⟩
      have e3 : inV x vs = inD d ds := by
        rw [e1, e2]; unfold inV inD; rw [List.any_map]; rfl
      rw [e3]
      exact k _ M _ F H p.2.2 (Go.refl w) (.bl _)
  cases ry with
  | str z =>
    cases rx with
    | str x => exact .inl ⟨x, z, rfl, rfl, k _ M _ F H p (Go.refl w) (.bl _)⟩
    | _ => exact p.elim
  | lst h r => exact .inr (seq (.lst h r) p)
  | tup h r => exact .inr (seq (.tup h r) p)
  | box a => exact .inr (seq (.box a) p)
  | _ => exact p.elim
section
variable {X : Cx} {a b c : Expr} {ta tb tc : RE} {pos : Pos}
theorem de_in (ha : DE X a ta) (hb : DE X b tb) (hm : behindInMarks .In b = false := by with_unfolding_all rfl) : DE X (.Compare a [.In] [b] pos) (xOp (fIn false) ta tb) := de_cmp op_inG br_in ha hb hm
theorem de_notIn (ha : DE X a ta) (hb : DE X b tb) (hm : behindInMarks .NotIn b = false := by with_unfolding_all rfl) : DE X (.Compare a [.NotIn] [b] pos) (xOp (fIn true) ta tb) := de_cmp op_notInG br_in ha hb hm
theorem dt_in (ha : DE X a ta) (hb : DE X b tb) (hm : behindInMarks .In b = false := by with_unfolding_all rfl) : DT X (.Compare a [.In] [b] pos) (xB (xOp (fIn false) ta tb)) := dt_cmp op_inG br_in ha hb hm
theorem dt_notIn (ha : DE X a ta) (hb : DE X b tb) (hm : behindInMarks .NotIn b = false := by with_unfolding_all rfl) : DT X (.Compare a [.NotIn] [b] pos) (xB (xOp (fIn true) ta tb)) := dt_cmp op_notInG br_in ha hb hm
end
end DL
-- part DL4
set_option Elab.async false
set_option linter.all false
set_option maxRecDepth 100000
set_option maxHeartbeats 4000000
namespace DL
open PySem PySem.Spec PyProof.Rows L2

/-! ### calls of built-ins -/
def BrCall (K : PySem.W.Frag) (r : List V → Hp → VK → Prop) (f : List D → Mem → DK → Prop) : Prop :=
  ∀ (F : Hp) (M : Mem) (H : Hp) (xs : List V) (ds : List D) (P : DK) (Q : VK), Wld K F M H → Reps K F xs ds → f ds M P → (∀ d' M' v F' H', P d' M' → Go K F M H F' M' H' → Rep K F' v d' → Q v H') → r xs H Q
def xCB (f : List D → Mem → DK → Prop) (t : RA) : RE := fun ρ M P => t ρ M fun ds M1 => f ds M1 P
section
variable {X : Cx} {x : Str} {p pos : Pos} {e : Expr} {es : List Expr} {t : RA} {id T : String} {r : List V → Hp → VK → Prop} {f : List D → Mem → DK → Prop}
theorem lE_CB (br : BrCall X.K r f) {σ : L2.St} {H : Hp} {Q : VK} (h : lE X.K (xCB f t) σ H Q) : tCB r (lA X.K t) σ H Q := by
  obtain ⟨ρ, F, M, P, er, w, h, k⟩ := h
  exact ⟨ρ, F, M, _, er, w, h, fun ds M1 vs F1 H1 p1 g1 r1 => br F1 M1 H1 vs ds P Q g1.w r1 p1 fun d' M' v F' H' p g rv => k d' M' v F' H' p (g1.trans g) rv⟩
theorem de_callB (hc : CallR X (.builtin id) r) (br : BrCall X.K r f) (hg : Gl X x) (hm : X.mg x = none) (hv : bootBuiltins x = some (.builtin id)) (ha : DA X (e :: es) t) (hn : x ≠ "__name__" := by decide) (hdb : (x == ("__debug__" : Str)) = false := by decide)
    (he : starEach (e :: es) X.env = (false, eval e X.env) :: starEach es X.env := by rfl) (hpl : (backTo pos (starEach es X.env)).any (·.1) = false := by rfl) : DE X (.Call (.Name x p) (e :: es) [] pos) (xCB f t) :=
  PE.imp (pe_callB hc hg hm hv ha hn hdb he hpl) fun _ _ _ h => lE_CB br h
theorem de_callTy (hc : CallR X (.type T) r) (br : BrCall X.K r f) (hg : Gl X x) (hm : X.mg x = none) (hv : bootBuiltins x = some (.type T)) (ha : DA X (e :: es) t) (hn : x ≠ "__name__" := by decide) (hdb : (x == ("__debug__" : Str)) = false := by decide)
    (he : starEach (e :: es) X.env = (false, eval e X.env) :: starEach es X.env := by rfl) (hpl : (backTo pos (starEach es X.env)).any (·.1) = false := by rfl) : DE X (.Call (.Name x p) (e :: es) [] pos) (xCB f t) :=
  PE.imp (pe_callTy hc hg hm hv ha hn hdb he hpl) fun _ _ _ h => lE_CB br h
end
theorem reps1 {K : PySem.W.Frag} {F : Hp} {xs : List V} {d : D} (r : Reps K F xs [d]) : ∃ v, xs = [v] ∧ Rep K F v d := by
  cases r with
  | cons h t => cases t; exact ⟨_, rfl, h⟩
theorem reps2 {K : PySem.W.Frag} {F : Hp} {xs : List V} {d e : D} (r : Reps K F xs [d, e]) : ∃ v w, xs = [v, w] ∧ Rep K F v d ∧ Rep K F w e := by
  cases r with
  | cons h t =>
    cases t with
    | cons h2 t2 => cases t2; exact ⟨_, _, rfl, h, h2⟩
/-- len -/
def lenD (M : Mem) : D → Option Nat
  | .str z => if z.length ≤ 16777216 then some z.length else none
  | .scr ns => some ns.length
  | d => (seqD M d).map (·.length)
def fLen : List D → Mem → DK → Prop := fun ds M P => match ds with
  | [d] => (match lenD M d with
    | some n => P (.int n) M
    | none => False)
  | _ => False
def rLenG (K : PySem.W.Frag) : List V → Hp → VK → Prop := fun xs H Q => (∃ p ys, xs = [.ref p] ∧ (SqL K H p ys ∨ SqT K H p ys) ∧ Q (.int ys.length) H) ∨ (∃ z, xs = [.str z] ∧ z.length ≤ sizeLine ∧ Q (.int z.length) H)
theorem call_lenG {X : Cx} : CallR X (.builtin "len") (rLenG X.K) := call_len_seq.or call_len_str
theorem br_len {K : PySem.W.Frag} : BrCall K (rLenG K) fLen := by
  intro F M H xs ds P Q w r h k
  match ds, r, h with
  | [d], r, h =>
    obtain ⟨v, rfl, rv⟩ := reps1 r
    have seq : ∀ n, (seqD M d).map (·.length) = some n → P (.int n) M → rLenG K [v] H Q := by
      intro n e p
      cases q : seqD M d with
      | none => rw [q] at e; cases e
      | some es =>
        rw [q] at e
        obtain ⟨a, vs, rfl, h1, h2⟩ := seq_of w rv q
        refine .inl ⟨a, vs, rfl, h1, ?_⟩
        have e2 : vs.length = n := by rw [h2.length]; exact Option.some.inj e
        rw [e2]
        exact k _ M _ F H p (Go.refl w) (.int _)
    have h : (match lenD M d with | some n => P (.int n) M | none => False) := h
    cases d with
    | str z =>
      cases rv
      have h : (match (if z.length ≤ 16777216 then some z.length else none) with | some n => P (.int n) M | none => False) := h
      by_cases c : z.length ≤ 16777216
      · rw [if_pos c] at h
        exact .inr ⟨z, rfl, line_le c, k _ M _ F H h (Go.refl w) (.int _)⟩
      · rw [if_neg c] at h; exact h.elim
    | scr ns =>
      cases rv with
      | scr q =>
        refine .inl ⟨_, _, rfl, .inl (w.sub.seq q), ?_⟩
        rw [List.length_map]
        exact k _ M _ F H h (Go.refl w) (.int _)
    | lst es => exact seq _ rfl h
    | tup es => exact seq _ rfl h
    | box a =>
      have e : lenD M (.box a) = (seqD M (.box a)).map (·.length) := rfl
      rw [e] at h
      cases q : (seqD M (.box a)).map (·.length) with
      | none => rw [q] at h; exact h.elim
      | some n => rw [q] at h; exact seq n q h
    | _ => exact h.elim
  | [], _, h => exact h.elim
  | _ :: _ :: _, _, h => exact h.elim
/-- all -/
def bls : List D → Option (List Bool)
  | [] => some []
  | .bl b :: ds => (bls ds).map (b :: ·)
  | _ :: _ => none
theorem bls_map {α : Type} (f : α → Bool) : ∀ xs : List α, bls (xs.map fun x => .bl (f x)) = some (xs.map f)
  | [] => rfl
  | x :: xs => by show (bls (xs.map fun x => D.bl (f x))).map (f x :: ·) = _; rw [bls_map f xs]; rfl
theorem bls_some : ∀ {ds : List D} {bs : List Bool}, bls ds = some bs → ds = bs.map D.bl
  | [], bs, h => by cases h; rfl
  | .bl b :: ds, bs, h => by
    have h : (bls ds).map (b :: ·) = some bs := h
    cases q : bls ds with
    | none => rw [q] at h; cases h
    | some cs => rw [q] at h; cases h; rw [bls_some q]; rfl
  | .non :: _, _, h => by cases h
  | .int _ :: _, _, h => by cases h
  | .str _ :: _, _, h => by cases h
  | .lst _ :: _, _, h => by cases h
  | .tup _ :: _, _, h => by cases h
  | .box _ :: _, _, h => by cases h
  | .dic _ :: _, _, h => by cases h
  | .scr _ :: _, _, h => by cases h
def fAll : List D → Mem → DK → Prop := fun ds M P => match ds with
  | [d] => (match (lstD M d).bind bls with
    | some bs => P (.bl (bs.all id)) M
    | none => False)
  | _ => False
theorem br_all {K : PySem.W.Frag} : BrCall K (rAll K) fAll := by
  intro F M H xs ds P Q w r h k
  match ds, r, h with
  | [d], r, h =>
    obtain ⟨v, rfl, rv⟩ := reps1 r
    have h : (match (lstD M d).bind bls with | some bs => P (.bl (bs.all id)) M | none => False) := h
    cases q : lstD M d with
    | none => rw [q] at h; exact h.elim
    | some es =>
      rw [q] at h
      have h : (match bls es with | some bs => P (.bl (bs.all id)) M | none => False) := h
      cases q2 : bls es with
      | none => rw [q2] at h; exact h.elim
      | some bs =>
        rw [q2] at h
        obtain ⟨a, vs, rfl, h1, h2⟩ := lst_of w rv q
        rw [bls_some q2] at h2
        have e := h2.blsInv
        subst e
        exact ⟨a, bs, rfl, SqL.of h1, k _ M _ F H h (Go.refl w) (.bl _)⟩
  | [], _, h => exact h.elim
  | _ :: _ :: _, _, h => exact h.elim
/-- tuple(..) -/
def fTuple : List D → Mem → DK → Prop := fun ds M P => match ds with
  | [d] => (match seqD M d with
    | some es => P (.tup es) M
    | none => False)
  | _ => False
theorem br_tuple {K : PySem.W.Frag} : BrCall K (fun xs H Q => ∃ p ys, xs = [.ref p] ∧ ((SqL K H p ys ∧ ∀ l, H l = none → Q (.ref l) (upd H l (.tup ys))) ∨ (SqT K H p ys ∧ Q (.ref p) H))) fTuple := by
  intro F M H xs ds P Q w r h k
  match ds, r, h with
  | [d], r, h =>
    obtain ⟨v, rfl, rv⟩ := reps1 r
    have h : (match seqD M d with | some es => P (.tup es) M | none => False) := h
    cases rv with
    | lst e r1 => exact ⟨_, _, rfl, .inl ⟨SqL.of (w.sub _ _ e), fun l hl => tup_ok w r1 h k hl⟩⟩
    | tup e r1 => exact ⟨_, _, rfl, .inr ⟨Same.tup w.sub e, k _ M _ F H h (Go.refl w) (.tup e r1)⟩⟩
    | box a =>
      cases q : seqD M (.box a) with
      | none => rw [q] at h; exact h.elim
      | some es =>
        rw [q] at h
        obtain ⟨_, vs, hH, r⟩ := w.mem a es q
        exact ⟨_, _, rfl, .inl ⟨SqL.of hH, fun l hl => tup_ok w r h k hl⟩⟩
    | _ => exact h.elim
  | [], _, h => exact h.elim
  | _ :: _ :: _, _, h => exact h.elim
/-- list(..) of a list, a tuple -/
def fList (m : Bool) : List D → Mem → DK → Prop := fun ds M P => match ds with
  | [d] => (match seqD M d with
    | some es => mk m es M P
    | none => False)
  | _ => False
theorem br_list {K : PySem.W.Frag} {m : Bool} : BrCall K (fun xs H Q => ∃ p ys, xs = [.ref p] ∧ (SqL K H p ys ∨ SqT K H p ys) ∧ ∀ l, H l = none → Q (.ref l) (upd H l (.lst ys))) (fList m) := by
  intro F M H xs ds P Q w r h k
  match ds, r, h with
  | [d], r, h =>
    obtain ⟨v, rfl, rv⟩ := reps1 r
    have h : (match seqD M d with | some es => mk m es M P | none => False) := h
    cases q : seqD M d with
    | none => rw [q] at h; exact h.elim
    | some es =>
      rw [q] at h
      obtain ⟨a, vs, rfl, h1, h2⟩ := seq_of w rv q
      exact ⟨a, vs, rfl, h1, fun l hl => mk_ok w h2 h k hl⟩
  | [], _, h => exact h.elim
  | _ :: _ :: _, _, h => exact h.elim
/-- int(n), abs(n), min, max of two, str(..) -/
def fInt : List D → Mem → DK → Prop := fun ds M P => match ds with
  | [.int i] => P (.int i) M
  | _ => False
theorem br_int {K : PySem.W.Frag} : BrCall K (fun xs H Q => (∃ i, xs = [.int i] ∧ Q (.int i) H) ∨ ∃ k, xs = [.bl k] ∧ Q (.int (if k then 1 else 0)) H) fInt := by
  intro F M H xs ds P Q w r h k
  unfold fInt at h
  split at h
  · obtain ⟨v, rfl, rv⟩ := reps1 r
    cases rv
    exact .inl ⟨_, rfl, k _ M _ F H h (Go.refl w) (.int _)⟩
  · exact h.elim
def fAbs : List D → Mem → DK → Prop := fun ds M P => match ds with
  | [.int i] => P (.int (if i < 0 then -i else i)) M
  | _ => False
theorem br_abs {K : PySem.W.Frag} : BrCall K (fun xs H Q => ∃ i, xs = [.int i] ∧ Q (.int (if i < 0 then -i else i)) H) fAbs := by
  intro F M H xs ds P Q w r h k
  unfold fAbs at h
  split at h
  · obtain ⟨v, rfl, rv⟩ := reps1 r
    cases rv
    exact ⟨_, rfl, k _ M _ F H h (Go.refl w) (.int _)⟩
  · exact h.elim
def fMax2 : List D → Mem → DK → Prop := fun ds M P => match ds with
  | [.int i, .int j] => P (.int (if j > i then j else i)) M
  | _ => False
theorem br_max2 {K : PySem.W.Frag} : BrCall K (fun xs H Q => ∃ i j, xs = [.int i, .int j] ∧ Q (.int (if j > i then j else i)) H) fMax2 := by
  intro F M H xs ds P Q w r h k
  unfold fMax2 at h
  split at h
  · obtain ⟨v, u, rfl, rv, ru⟩ := reps2 r
    cases rv
    cases ru
    exact ⟨_, _, rfl, k _ M _ F H h (Go.refl w) (.int _)⟩
  · exact h.elim
def fMin2 : List D → Mem → DK → Prop := fun ds M P => match ds with
  | [.int i, .int j] => P (.int (if j < i then j else i)) M
  | _ => False
theorem br_min2 {K : PySem.W.Frag} : BrCall K (fun xs H Q => ∃ i j, xs = [.int i, .int j] ∧ Q (.int (if j < i then j else i)) H) fMin2 := by
  intro F M H xs ds P Q w r h k
  unfold fMin2 at h
  split at h
  · obtain ⟨v, u, rfl, rv, ru⟩ := reps2 r
    cases rv
    cases ru
    exact ⟨_, _, rfl, k _ M _ F H h (Go.refl w) (.int _)⟩
  · exact h.elim
def fStrS : List D → Mem → DK → Prop := fun ds M P => match ds with
  | [.str z] => P (.str z) M
  | _ => False
theorem br_strS {K : PySem.W.Frag} : BrCall K (fun xs H Q => ∃ a, xs = [.str a] ∧ Q (.str a) H) fStrS := by
  intro F M H xs ds P Q w r h k
  unfold fStrS at h
  split at h
  · obtain ⟨v, rfl, rv⟩ := reps1 r
    cases rv
    exact ⟨_, rfl, k _ M _ F H h (Go.refl w) (.str _)⟩
  · exact h.elim
/-- dict(a list of pairs of a text and a value) -/
def prs : List D → Option (List (Str × D))
  | [] => some []
  | .tup [.str k, d] :: ds => (prs ds).map ((k, d) :: ·)
  | _ :: _ => none
def putD (kvs : List (Str × D)) (k : Str) (d : D) : List (Str × D) :=
  if (kvs.any fun kv => decide (kv.1 = k)) = true then kvs.map (fun kv => if kv.1 = k then (kv.1, d) else kv) else kvs ++ [(k, d)]
def mergeD (kvs more : List (Str × D)) : List (Str × D) := more.foldl (fun acc kv => putD acc kv.1 kv.2) kvs
def fDict : List D → Mem → DK → Prop := fun ds M P => match ds with
  | [d] => (match (lstD M d).bind prs with
    | some kvs => P (.dic (mergeD [] kvs)) M
    | none => False)
  | _ => False
theorem RepsK.any {K : PySem.W.Frag} {F : Hp} (k : Str) : ∀ {kvs : List (Key × V)} {dks : List (Str × D)}, RepsK K F kvs dks → (kvs.any fun kv => decide (kv.1 = (.inr k : Key))) = (dks.any fun kv => decide (kv.1 = k))
  | _, _, .nil => rfl
  | _, _, .cons (k := j) h t => by
    rw [List.any_cons, List.any_cons, RepsK.any k t]
    have e : decide ((Sum.inr j : Key) = Sum.inr k) = decide (j = k) := key_rr j k
    show (decide ((Sum.inr j : Key) = Sum.inr k) || _) = _
    rw [e]
theorem RepsK.put {K : PySem.W.Frag} {F : Hp} {v : V} {d : D} (r : Rep K F v d) (k : Str) : ∀ {kvs : List (Key × V)} {dks : List (Str × D)}, RepsK K F kvs dks → RepsK K F (kvs.map fun kv => if kv.1 = (.inr k : Key) then (kv.1, v) else kv) (dks.map fun kv => if kv.1 = k then (kv.1, d) else kv)
  | _, _, .nil => .nil
  | _, _, .cons (k := j) (v := u) (d := e) h t => by
    rw [List.map_cons, List.map_cons]
    by_cases q : j = k
    · rw [if_pos (show (Sum.inr j : Key) = Sum.inr k from congrArg Sum.inr q), if_pos (show (j, e).1 = k from q)]
      exact .cons r (RepsK.put r k t)
    · rw [if_neg (show ¬ (Sum.inr j : Key) = Sum.inr k from fun z => q (Sum.inr.inj z)), if_neg (show ¬ (j, e).1 = k from q)]
      exact .cons h (RepsK.put r k t)
theorem RepsK.app {K : PySem.W.Frag} {F : Hp} {v : V} {d : D} (r : Rep K F v d) (k : Str) : ∀ {kvs : List (Key × V)} {dks : List (Str × D)}, RepsK K F kvs dks → RepsK K F (kvs ++ [(.inr k, v)]) (dks ++ [(k, d)])
  | _, _, .nil => .cons r .nil
  | _, _, .cons h t => .cons h (RepsK.app r k t)
theorem putK_ok {K : PySem.W.Frag} {F : Hp} {v : V} {d : D} (r : Rep K F v d) (k : Str) {kvs : List (Key × V)} {dks : List (Str × D)} (h : RepsK K F kvs dks) : RepsK K F (putK kvs (.inr k) v) (putD dks k d) := by
  unfold putK putD
  rw [h.any k]
  split
  · exact h.put r k
  · exact h.app r k
theorem mergeK_ok {K : PySem.W.Frag} {F : Hp} : ∀ {more : List (Key × V)} {dm : List (Str × D)} {kvs : List (Key × V)} {dks : List (Str × D)}, RepsK K F more dm → RepsK K F kvs dks → RepsK K F (mergeK kvs more) (mergeD dks dm)
  | _, _, _, _, .nil, r => r
  | _, _, kvs, dks, .cons (k := j) (v := u) (vs := vs) (d := e) (ds := ds) h t, r => by
    show RepsK K F (mergeK (putK kvs (.inr j) u) vs) (mergeD (putD dks j e) ds)
    exact mergeK_ok t (putK_ok h _ r)
theorem prs_ok {K : PySem.W.Frag} {F : Hp} : ∀ {ds : List D} {kvs : List (Str × D)} {vs : List V}, prs ds = some kvs → Reps K F vs ds → ∃ (ps : List Addr) (ks : List (Key × V)), vs = ps.map V.ref ∧ Paired (fun p kv => SqT K F p [kV kv.1, kv.2]) ps ks ∧ RepsK K F ks kvs
  | [], kvs, vs, e, r => by cases e; cases r; exact ⟨[], [], rfl, .nil, .nil⟩
  | d :: ds, kvs, vs, e, r => by
    cases r with
    | cons h t =>
      unfold prs at e
      split at e
      · rename_i q; cases q
      · rename_i k d' ds' q
        cases q
        cases q2 : prs ds with
        | none => rw [q2] at e; cases e
        | some kvs2 =>
          rw [q2] at e
          cases e
          obtain ⟨ps, ks, rfl, hp, hr⟩ := prs_ok q2 t
          cases h with
          | tup e1 r1 =>
            obtain ⟨v1, v2, rfl, h1, h2⟩ := reps2 r1
            cases h1
            exact ⟨_ :: ps, (.inr k, v2) :: ks, rfl, .cons e1 hp, .cons h2 hr⟩
      · cases e
theorem Paired.map2 {α β : Type} {R S : α → β → Prop} (f : ∀ a b, R a b → S a b) : ∀ {xs : List α} {ys : List β}, Paired R xs ys → Paired S xs ys
  | _, _, .nil => .nil
  | _, _, .cons h t => .cons (f _ _ h) (Paired.map2 f t)
theorem br_dict {K : PySem.W.Frag} : BrCall K (fun xs H Q => ∃ (a : Addr) (ps : List Addr) (kvs : List (Key × V)), xs = [.ref a] ∧ SqL K H a (ps.map V.ref) ∧ Paired (fun p kv => SqT K H p [kV kv.1, kv.2]) ps kvs ∧ ∀ p, H p = none → Q (.ref p) (upd H p (.dK (mergeK [] kvs)))) fDict := by
  intro F M H xs ds P Q w r h k
  match ds, r, h with
  | [d], r, h =>
    obtain ⟨v, rfl, rv⟩ := reps1 r
    have h : (match (lstD M d).bind prs with | some kvs => P (.dic (mergeD [] kvs)) M | none => False) := h
    cases q : lstD M d with
    | none => rw [q] at h; exact h.elim
    | some es =>
      rw [q] at h
      have h : (match prs es with | some kvs => P (.dic (mergeD [] kvs)) M | none => False) := h
      cases q2 : prs es with
      | none => rw [q2] at h; exact h.elim
      | some kvs =>
        rw [q2] at h
        obtain ⟨a, vs, rfl, h1, h2⟩ := lst_of w rv q
        obtain ⟨ps, ks, rfl, hp, hr⟩ := prs_ok q2 h2
        refine ⟨a, ps, ks, rfl, SqL.of h1, Paired.map2 (fun _ _ z => Same.tup w.sub z) hp, fun p np => ?_⟩
        have g := Go.newF w np (.dK (mergeK [] ks))
        exact k _ M _ _ _ h g (.dic upd_same (RepsK.mono g.up (mergeK_ok hr .nil)))
  | [], _, h => exact h.elim
  | _ :: _ :: _, _, h => exact h.elim

section
variable {X : Cx} {x : Str} {p pos : Pos} {e : Expr} {es : List Expr} {t : RA}
theorem de_len (hg : Gl X "len") (hm : X.mg "len" = none) (ha : DA X (e :: es) t) (he : starEach (e :: es) X.env = (false, eval e X.env) :: starEach es X.env := by rfl) (hpl : (backTo pos (starEach es X.env)).any (·.1) = false := by rfl) :
    DE X (.Call (.Name "len" p) (e :: es) [] pos) (xCB fLen t) := de_callB call_lenG br_len hg hm PySem.boot_len ha (by decide) (by decide) he hpl
theorem de_all (hc : X.calm = true) (hg : Gl X "all") (hm : X.mg "all" = none) (ha : DA X (e :: es) t) (he : starEach (e :: es) X.env = (false, eval e X.env) :: starEach es X.env := by rfl) (hpl : (backTo pos (starEach es X.env)).any (·.1) = false := by rfl) :
    DE X (.Call (.Name "all" p) (e :: es) [] pos) (xCB fAll t) := de_callB (cr_all hc) br_all hg hm (by decide +kernel) ha (by decide) (by decide) he hpl
theorem de_tuple (hg : Gl X "tuple") (hm : X.mg "tuple" = none) (ha : DA X (e :: es) t) (he : starEach (e :: es) X.env = (false, eval e X.env) :: starEach es X.env := by rfl) (hpl : (backTo pos (starEach es X.env)).any (·.1) = false := by rfl) :
    DE X (.Call (.Name "tuple" p) (e :: es) [] pos) (xCB fTuple t) := de_callTy call_tuple_of br_tuple hg hm (by decide +kernel) ha (by decide) (by decide) he hpl
theorem de_list (m : Bool) (hg : Gl X "list") (hm : X.mg "list" = none) (ha : DA X (e :: es) t) (he : starEach (e :: es) X.env = (false, eval e X.env) :: starEach es X.env := by rfl) (hpl : (backTo pos (starEach es X.env)).any (·.1) = false := by rfl) :
    DE X (.Call (.Name "list" p) (e :: es) [] pos) (xCB (fList m) t) := de_callTy call_list_of br_list hg hm (by decide +kernel) ha (by decide) (by decide) he hpl
theorem de_intc (hg : Gl X "int") (hm : X.mg "int" = none) (ha : DA X (e :: es) t) (he : starEach (e :: es) X.env = (false, eval e X.env) :: starEach es X.env := by rfl) (hpl : (backTo pos (starEach es X.env)).any (·.1) = false := by rfl) :
    DE X (.Call (.Name "int" p) (e :: es) [] pos) (xCB fInt t) := de_callTy call_int1 br_int hg hm (by decide +kernel) ha (by decide) (by decide) he hpl
theorem de_strc (hg : Gl X "str") (hm : X.mg "str" = none) (ha : DA X (e :: es) t) (he : starEach (e :: es) X.env = (false, eval e X.env) :: starEach es X.env := by rfl) (hpl : (backTo pos (starEach es X.env)).any (·.1) = false := by rfl) :
    DE X (.Call (.Name "str" p) (e :: es) [] pos) (xCB fStrS t) := de_callTy SkE.call_str_str br_strS hg hm (by decide +kernel) ha (by decide) (by decide) he hpl
theorem de_abs (hg : Gl X "abs") (hm : X.mg "abs" = none) (ha : DA X (e :: es) t) (he : starEach (e :: es) X.env = (false, eval e X.env) :: starEach es X.env := by rfl) (hpl : (backTo pos (starEach es X.env)).any (·.1) = false := by rfl) :
    DE X (.Call (.Name "abs" p) (e :: es) [] pos) (xCB fAbs t) := de_callB call_abs br_abs hg hm (by decide +kernel) ha (by decide) (by decide) he hpl
theorem de_max2 (hc : X.calm = true) (hg : Gl X "max") (hm : X.mg "max" = none) (ha : DA X (e :: es) t) (he : starEach (e :: es) X.env = (false, eval e X.env) :: starEach es X.env := by rfl) (hpl : (backTo pos (starEach es X.env)).any (·.1) = false := by rfl) :
    DE X (.Call (.Name "max" p) (e :: es) [] pos) (xCB fMax2 t) := de_callB (call_max2 hc) br_max2 hg hm (by decide +kernel) ha (by decide) (by decide) he hpl
theorem de_min2 (hc : X.calm = true) (hg : Gl X "min") (hm : X.mg "min" = none) (ha : DA X (e :: es) t) (he : starEach (e :: es) X.env = (false, eval e X.env) :: starEach es X.env := by rfl) (hpl : (backTo pos (starEach es X.env)).any (·.1) = false := by rfl) :
    DE X (.Call (.Name "min" p) (e :: es) [] pos) (xCB fMin2 t) := de_callB (call_min2 hc) br_min2 hg hm (by decide +kernel) ha (by decide) (by decide) he hpl
theorem de_dictc (hc : X.calm = true) (hg : Gl X "dict") (hm : X.mg "dict" = none) (ha : DA X (e :: es) t) (he : starEach (e :: es) X.env = (false, eval e X.env) :: starEach es X.env := by rfl) (hpl : (backTo pos (starEach es X.env)).any (·.1) = false := by rfl) :
    DE X (.Call (.Name "dict" p) (e :: es) [] pos) (xCB fDict t) := de_callTy (call_dictP hc) br_dict hg hm (by decide +kernel) ha (by decide) (by decide) he hpl
end

/-! ### isinstance(x, T) -/
def tyn : D → Option String
  | .non => some "NoneType"
  | .bl _ => some "bool"
  | .int _ => some "int"
  | .str _ => some "str"
  | .lst _ => some "list"
  | .tup _ => some "tuple"
  | _ => none
theorem tyx_of {K : PySem.W.Frag} {F H : Hp} (s : Same F H) {v : V} {d : D} {n : String} (r : Rep K F v d) (e : tyn d = some n) : TyX K H v (.type n) := by
  cases r with
  | non => cases e; exact .base .non
  | bl b => cases e; exact .base (.bl b)
  | int b => cases e; exact .base (.int b)
  | str b => cases e; exact .base (.str b)
  | lst h r => cases e; exact .base (.lst (s _ _ h))
  | tup h r =>
    cases e
    rcases Same.tup s h with (h | ⟨o, h⟩) | ⟨o, its, n, h, c, _⟩
    · exact .base (.tup h)
    · exact .fTuple h
    · exact .kTuple h c
  | _ => cases e
def xIsi (T : String) (ta : RE) : RE := fun ρ M P => ta ρ M fun d M1 => match (tyn d).bind fun n => kitB n T with
  | some b => P (.bl b) M1
  | none => False
theorem de_isi {X : Cx} {e : Expr} {te : RE} {T : String} {xT : Str} {p p2 pos : Pos} (hg : Gl X "isinstance") (hm : X.mg "isinstance" = none) (ha : DE X e te) (hgT : Gl X xT) (hmT : X.mg xT = none) (hvT : bootBuiltins xT = some (.type T))
    (hn : xT ≠ "__name__" := by decide) (hd : (xT == ("__debug__" : Str)) = false := by decide)
    (he : starEach [e, .Name xT p2] X.env = (false, eval e X.env) :: starEach [.Name xT p2] X.env := by rfl) (he2 : starEach [.Name xT p2] X.env = (false, eval (.Name xT p2) X.env) :: starEach [] X.env := by rfl)
    (hpl : (backTo pos (starEach [.Name xT p2] X.env)).any (·.1) = false := by rfl) : DE X (.Call (.Name "isinstance" p) [e, .Name xT p2] [] pos) (xIsi T te) := by
  refine PE.imp (pe_callB call_isi hg hm (by decide +kernel) (pa_cons ha (pa_cons (pe_bltn (v := .ty T) hgT hmT hvT rfl hn hd) pa_nil he2) he) (by decide) (by decide) he hpl) fun σ H Q ⟨ρ, F, M, P, er, w, h, k⟩ => ?_
  refine ⟨ρ, F, M, _, er, w, h, fun d M1 x F1 H1 p1 g1 r1 => ?_⟩
  cases q : tyn d with
  | none => rw [q] at p1; exact p1.elim
  | some n =>
    rw [q] at p1
    have p1 : (match kitB n T with | some b => P (.bl b) M1 | none => False) := p1
    cases q2 : kitB n T with
    | none => rw [q2] at p1; exact p1.elim
    | some b =>
      rw [q2] at p1
      exact ⟨x, .ty T, .type n, .type T, b, rfl, .ty T, tyx_of g1.w.sub r1 q, kit_ty q2, k _ M1 _ F1 H1 p1 g1 (.bl _)⟩

/-! ### subscripts -/
def ixD (M : Mem) (d : D) (i : Int) : Option D := match d with
  | .str z => if z.length ≤ 16777216 then (atI z.cps.toList i).map fun c => .str ⟨#[c]⟩ else none
  | .scr ns => (atI ns i).map D.int
  | d => (seqD M d).bind fun ds => atI ds i
def fIx : D → D → Mem → DK → Prop := fun d e M P => match e with
  | .int i => (match ixD M d i with
    | some d' => P d' M
    | none => False)
  | _ => False
theorem atI_rep {K : PySem.W.Frag} {F : Hp} {vs : List V} {ds : List D} {i : Int} {d : D} (r : Reps K F vs ds) (e : atI ds i = some d) : ∃ v, atI vs i = some v ∧ Rep K F v d := by
  unfold atI at e ⊢
  rw [r.length]
  cases q : ixN ds.length i with
  | none => rw [q] at e; cases e
  | some j =>
    rw [q] at e
    exact r.get e
theorem br_ix {K : PySem.W.Frag} : BrOp K (rIx K) fIx := by
  intro F M H x y d e P Q w rx ry p k
  cases ry with
  | int i =>
    have p : (match ixD M d i with | some d' => P d' M | none => False) := p
    have seq : ∀ ds d', seqD M d = some ds → atI ds i = some d' → P d' M → rIx K x (.int i) H Q := by
      intro ds d' q e p
      obtain ⟨a, vs, rfl, h1, h2⟩ := seq_of w rx q
      obtain ⟨v, e2, rv⟩ := atI_rep h2 e
      rcases h1 with h1 | h1
      · exact .inl ⟨a, vs, i, v, rfl, rfl, h1, e2, k d' M v F H p (Go.refl w) rv⟩
      · exact .inr (.inl ⟨a, vs, i, v, rfl, rfl, h1, e2, k d' M v F H p (Go.refl w) rv⟩)
    have seq2 : (match (seqD M d).bind fun ds => atI ds i with | some d' => P d' M | none => False) → rIx K x (.int i) H Q := by
      intro p
      cases q : seqD M d with
      | none => rw [q] at p; exact p.elim
      | some ds =>
        rw [q] at p
        have p : (match atI ds i with | some d' => P d' M | none => False) := p
        cases q2 : atI ds i with
        | none => rw [q2] at p; exact p.elim
        | some d' => rw [q2] at p; exact seq ds d' q q2 p
    cases d with
    | str z =>
      cases rx
      have p : (match (if z.length ≤ 16777216 then (atI z.cps.toList i).map fun c => D.str ⟨#[c]⟩ else none) with | some d' => P d' M | none => False) := p
      by_cases c : z.length ≤ 16777216
      · rw [if_pos c] at p
        cases q : atI z.cps.toList i with
        | none => rw [q] at p; exact p.elim
        | some c' =>
          rw [q] at p
          exact .inr (.inr ⟨z, i, c', rfl, rfl, line_le c, q, k _ M _ F H p (Go.refl w) (.str _)⟩)
      · rw [if_neg c] at p; exact p.elim
    | scr ns =>
      cases rx with
      | scr q =>
        have p : (match (atI ns i).map D.int with | some d' => P d' M | none => False) := p
        cases q2 : atI ns i with
        | none => rw [q2] at p; exact p.elim
        | some n =>
          rw [q2] at p
          refine .inl ⟨_, _, i, .int n, rfl, rfl, w.sub.seq q, ?_, k _ M _ F H p (Go.refl w) (.int _)⟩
          unfold atI at q2 ⊢
          rw [List.length_map]
          cases q3 : ixN ns.length i with
          | none => rw [q3] at q2; cases q2
          | some j =>
            rw [q3] at q2
            show (ns.map V.int)[j]? = _
            rw [List.getElem?_map, (show ns[j]? = some n from q2)]; rfl
    | lst _ => exact seq2 p
    | tup _ => exact seq2 p
    | box _ => exact seq2 p
    | _ => exact seq2 p
  | _ => exact p.elim
theorem de_ix {X : Cx} {a b : Expr} {ta tb : RE} {pos : Pos} (ha : DE X a ta) (hb : DE X b tb) (hs : PlainIx b := by intro _ _; rfl) : DE X (.Subscript a b pos) (xOp fIx ta tb) :=
  PE.imp (pe_ix ix_seq ha hb hs) fun _ _ _ h => lE_two br_ix h
/-- d[k], d a dict with text keys -/
def getD' (kvs : List (Str × D)) (k : Str) : Option D := match kvs with
  | [] => none
  | (j, d) :: r => if j = k then some d else getD' r k
def fDix : D → D → Mem → DK → Prop := fun d e M P => match d, e with
  | .dic kvs, .str k => (match getD' kvs k with
    | some d' => P d' M
    | none => False)
  | _, _ => False
theorem getD_rep {K : PySem.W.Frag} {F : Hp} {k : Str} {d : D} : ∀ {kvs : List (Key × V)} {dks : List (Str × D)}, RepsK K F kvs dks → getD' dks k = some d → ∃ v, valV kvs (.inr k) = some v ∧ Rep K F v d
  | _, _, .nil, e => by cases e
  | _, _, .cons (k := j) (v := u) (vs := vs) (d := d0) (ds := ds) h t, e => by
    have e : (if j = k then some d0 else getD' ds k) = some d := e
    by_cases q : j = k
    · rw [if_pos q] at e
      cases e
      refine ⟨u, ?_, h⟩
      subst q
      simp [valV]
    · rw [if_neg q] at e
      obtain ⟨v, e2, rv⟩ := getD_rep t e
      refine ⟨v, ?_, rv⟩
      have nq : ¬ (Sum.inr j : Key) = Sum.inr k := fun z => q (Sum.inr.inj z)
      simpa [valV, nq] using e2
theorem de_dix {X : Cx} {a b : Expr} {ta tb : RE} {pos : Pos} (hu : X.A.units + 64 < cLine) (ha : DE X a ta) (hb : DE X b tb) (hs : NoSl b := by intro _ _; rfl) : DE X (.Subscript a b pos) (xOp fDix ta tb) := by
  refine PE.imp (pe_dget (by omega) ha hb hs) fun σ H Q ⟨ρ, F, M, P, er, w, h, k⟩ => ?_
  refine ⟨ρ, F, M, _, er, w, h, fun d M1 x F1 H1 p1 g1 r1 => ⟨ρ, F1, M1, _, er.mono g1.up, g1.w, p1, fun e M2 y F2 H2 p2 g2 r2 => ?_⟩⟩
  cases r1 with
  | dic q r =>
    cases r2 with
    | str s =>
      rename_i kvs dks
      have p2 : (match getD' dks s with | some d' => P d' M2 | none => False) := p2
      cases q2 : getD' dks s with
      | none => rw [q2] at p2; exact p2.elim
      | some d' =>
        rw [q2] at p2
        obtain ⟨v, e2, rv⟩ := getD_rep r q2
        refine ⟨_, v, rfl, ?_, k d' M2 v F2 H2 p2 (g1.trans g2) (rv.mono g2.up)⟩
        have := DGet.k (k := .inr s) (g2.w.sub _ _ (g2.up _ _ q))
        rw [e2] at this
        exact this
    | _ => exact p2.elim
  | _ => cases r2 <;> exact p2.elim

/-! ### slices -/
abbrev RO := DEnv → Mem → (Option Int → Mem → Prop) → Prop
def lO (K : PySem.W.Frag) (t : RO) : TO := fun σ H Q => ∃ (ρ : DEnv) (F : Hp) (M : Mem) (P : Option Int → Mem → Prop), EnvRep K F σ ρ ∧ Wld K F M H ∧ t ρ M P ∧ ∀ o M' F' H', P o M' → Go K F M H F' M' H' → Q o H'
abbrev DO (X : Cx) (e : Option Expr) (t : RO) : Prop := PO X e (lO X.K t)
def oNone : RO := fun _ M P => P none M
def oSome (t : RE) : RO := fun ρ M P => t ρ M fun d M1 => match d with
  | .int i => P (some i) M1
  | _ => False
theorem PO.imp {X : Cx} {e : Option Expr} {t t' : TO} (h : PO X e t) (i : ∀ σ H Q, t' σ H Q → t σ H Q) : PO X e t' := ⟨fun pins s σ H Q I w => h.run pins s σ H Q I (i σ H Q w)⟩
theorem do_none {X : Cx} : DO X none oNone := PO.imp po_none fun σ H Q ⟨ρ, F, M, P, er, w, h, k⟩ => k none M F H h (Go.refl w)
theorem do_some {X : Cx} {e : Expr} {t : RE} (h : DE X e t) : DO X (some e) (oSome t) := by
  refine PO.imp (po_some h) fun σ H Q ⟨ρ, F, M, P, er, w, h, k⟩ => ?_
  refine ⟨ρ, F, M, _, er, w, h, fun d M1 x F1 H1 p1 g1 r1 => ?_⟩
  cases r1 with
  | int i => exact ⟨i, rfl, k _ M1 F1 H1 p1 g1⟩
  | _ => exact p1.elim
def cutD (ds : List D) (lo hi : Option Int) : List D := (ds.drop (HT.sIx ds.length 0 lo)).take (HT.sIx ds.length ds.length hi - HT.sIx ds.length 0 lo)
theorem cut_rep {K : PySem.W.Frag} {F : Hp} {vs : List V} {ds : List D} (r : Reps K F vs ds) (lo hi : Option Int) : Reps K F (cutV vs lo hi) (cutD ds lo hi) := by
  unfold cutV cutD
  rw [r.length]
  exact (r.drop _).take _
def fSl (m : Bool) : D → Option Int → Option Int → Mem → DK → Prop := fun d lo hi M P => match d with
  | .str z => z.length ≤ 16777216 ∧ P (.str (cutS z lo hi)) M
  | .tup ds => P (.tup (cutD ds lo hi)) M
  | d => match lstD M d with
    | some ds => mk m (cutD ds lo hi) M P
    | none => False
def xSl (m : Bool) (te : RE) (tl th : RO) : RE := fun ρ M P => te ρ M fun d M1 => tl ρ M1 fun l M2 => th ρ M2 fun u M3 => fSl m d l u M3 P
def rSlG (K : PySem.W.Frag) : V → Option Int → Option Int → Hp → VK → Prop := fun x lo hi H Q => rSlL K x lo hi H Q ∨ rSlA K x lo hi H Q ∨ rSlS x lo hi H Q
theorem sl_G {X : Cx} : SlR X (rSlG X.K) := sl_list.or (sl_tupA.or sl_str)
theorem cut_all {ds : List D} {lo hi : Option Int} (h : HT.sIx ds.length 0 lo = 0 ∧ HT.sIx ds.length ds.length hi = ds.length) : cutD ds lo hi = ds := by
  unfold cutD
  rw [h.1, h.2]
  simp
theorem de_slice {X : Cx} {e : Expr} {lo hi : Option Expr} {te : RE} {tl th : RO} {p2 pos : Pos} (m : Bool) (he : DE X e te) (hl : DO X lo tl) (hu : DO X hi th) : DE X (.Subscript e (.Slice lo hi none p2) pos) (xSl m te tl th) := by
  refine PE.imp (pe_slice sl_G he hl hu) fun σ H Q ⟨ρ, F, M, P, er, w, h, k⟩ => ?_
  refine ⟨ρ, F, M, _, er, w, h, fun d M1 x F1 H1 p1 g1 r1 => ⟨ρ, F1, M1, _, er.mono g1.up, g1.w, p1, fun l M2 F2 H2 p2 g2 => ⟨ρ, F2, M2, _, er.mono (g1.trans g2).up, g2.w, p2, fun u M3 F3 H3 p3 g3 => ?_⟩⟩⟩
  have r3 := r1.mono (g2.trans g3).up
  have w3 := g3.w
  have k3 : ∀ d' M' v F' H', P d' M' → Go X.K F3 M3 H3 F' M' H' → Rep X.K F' v d' → Q v H' := fun d' M' v F' H' p g r => k d' M' v F' H' p (((g1.trans g2).trans g3).trans g) r
  have seq : (match lstD M3 d with | some ds => mk m (cutD ds l u) M3 P | none => False) → rSlG X.K x l u H3 Q := by
    intro p
    cases q : lstD M3 d with
    | none => rw [q] at p; exact p.elim
    | some ds =>
      rw [q] at p
      obtain ⟨a, vs, rfl, h1, h2⟩ := lst_of w3 r3 q
      exact .inl ⟨a, vs, rfl, SqL.of h1, fun q hq => mk_ok w3 (cut_rep h2 l u) p k3 hq⟩
  cases d with
  | str z =>
    cases r3
    have p3 : z.length ≤ 16777216 ∧ P (.str (cutS z l u)) M3 := p3
    exact .inr (.inr ⟨z, rfl, line_le p3.1, k3 _ M3 _ F3 H3 p3.2 (Go.refl w3) (.str _)⟩)
  | tup ds =>
    have p3 : P (.tup (cutD ds l u)) M3 := p3
    cases r3 with
    | tup q r =>
      refine .inr (.inl ⟨_, _, rfl, Same.tup w3.sub q, fun c => ?_, fun _ q hq => tup_ok w3 (cut_rep r l u) p3 k3 hq⟩)
      rw [r.length] at c
      rw [cut_all c] at p3
      exact k3 _ M3 _ F3 H3 p3 (Go.refl w3) (.tup q r)
  | _ => exact seq p3

/-! ### methods -/
def txts : List D → Option (List Str)
  | [] => some []
  | .str b :: ds => (txts ds).map (b :: ·)
  | _ :: _ => none
theorem txts_map {α : Type} (f : α → Str) : ∀ xs : List α, txts (xs.map fun x => .str (f x)) = some (xs.map f)
  | [] => rfl
  | x :: xs => by show (txts (xs.map fun x => D.str (f x))).map (f x :: ·) = _; rw [txts_map f xs]; rfl
theorem txts_some : ∀ {ds : List D} {bs : List Str}, txts ds = some bs → ds = bs.map D.str
  | [], bs, h => by cases h; rfl
  | .str b :: ds, bs, h => by
    have h : (txts ds).map (b :: ·) = some bs := h
    cases q : txts ds with
    | none => rw [q] at h; cases h
    | some cs => rw [q] at h; cases h; rw [txts_some q]; rfl
  | .non :: _, _, h => by cases h
  | .int _ :: _, _, h => by cases h
  | .bl _ :: _, _, h => by cases h
  | .lst _ :: _, _, h => by cases h
  | .tup _ :: _, _, h => by cases h
  | .box _ :: _, _, h => by cases h
  | .dic _ :: _, _, h => by cases h
  | .scr _ :: _, _, h => by cases h
def fJoin (a : Str) : D → Mem → DK → Prop := fun e M P => match (seqD M e).bind txts with
  | some ys => (ys.map (·.length)).sum + ys.length * a.length ≤ 16777216 ∧ P (.str (Txt.join a ys)) M
  | none => False
def xJoin (to te : RE) : RE := fun ρ M P => to ρ M fun d M1 => match d with
  | .str a => te ρ M1 fun e M2 => fJoin a e M2 P
  | _ => False
theorem de_join {X : Cx} {o e : Expr} {to te : RE} {apos pos : Pos} (ho : DE X o to) (he : DE X e te) (hs : starEach [e] X.env = [(false, eval e X.env)] := by rfl) (hbase : attributeBase o "join" X.env (eval o X.env) = eval o X.env := by rfl) (hline : (apos.endLine == pos.line) = true := by rfl) :
    DE X (.Call (.Attribute o "join" apos) [e] [] pos) (xJoin to te) := by
  refine PE.imp (pe_join ho he hs hbase hline) fun σ H Q ⟨ρ, F, M, P, er, w, h, k⟩ => ?_
  refine ⟨ρ, F, M, _, er, w, h, fun d M1 x F1 H1 p1 g1 r1 => ?_⟩
  cases r1 with
  | str a =>
    refine ⟨⟨a, rfl⟩, ρ, F1, M1, _, er.mono g1.up, g1.w, p1, fun e M2 y F2 H2 p2 g2 r2 => ?_⟩
    have p2 : (match (seqD M2 e).bind txts with | some ys => (ys.map (·.length)).sum + ys.length * a.length ≤ 16777216 ∧ P (.str (Txt.join a ys)) M2 | none => False) := p2
    cases q : seqD M2 e with
    | none => rw [q] at p2; exact p2.elim
    | some ds =>
      rw [q] at p2
      have p2 : (match txts ds with | some ys => (ys.map (·.length)).sum + ys.length * a.length ≤ 16777216 ∧ P (.str (Txt.join a ys)) M2 | none => False) := p2
      cases q2 : txts ds with
      | none => rw [q2] at p2; exact p2.elim
      | some ys =>
        rw [q2] at p2
        obtain ⟨b, vs, rfl, h1, h2⟩ := seq_of g2.w r2 q
        rw [txts_some q2] at h2
        have e2 := h2.strsInv
        subst e2
        exact ⟨a, b, ys, rfl, rfl, h1, p2.1, k _ M2 _ F2 H2 p2.2 (g1.trans g2) (.str _)⟩
  | _ => exact p1.elim
/-- s.index(y): it is there -/
def xIndexS (to te : RE) : RE := fun ρ M P => to ρ M fun d M1 => match d with
  | .str a => te ρ M1 fun e M2 => (match e with
    | .str b => (match Txt.index0 a b with
      | some k => P (.int (k : Nat)) M2
      | none => False)
    | _ => False)
  | _ => False
theorem de_indexS {X : Cx} {o e : Expr} {to te : RE} {apos cpos : Pos} (hc : X.calm = true) (ho : DE X o to) (he : DE X e te)
    (hbase : attributeBase o "index" X.env (eval o X.env) = eval o X.env := by rfl)
    (hfew : ((backTo cpos (starEach (e :: []) X.env)).all (fun x => !x.1) && (backToKw cpos (keywordEach [] X.env)).all (fun x => x.1.isSome)
      && decide ((e :: ([] : List Expr)).length + ([] : List Keyword).length + (if ([] : List Keyword).isEmpty then 0 else 1) < 30)) = true := by rfl)
    (hline : (apos.endLine == cpos.line) = true := by rfl) (hs : starEach (e :: []) X.env = (false, eval e X.env) :: starEach [] X.env := by rfl) (hplain : (backTo cpos (starEach [] X.env)).any (·.1) = false := by rfl) :
    DE X (.Call (.Attribute o "index" apos) [e] [] cpos) (xIndexS to te) := by
  refine PE.imp (pe_bmS PySem.F.plainAttrs_str PySem.F.slot_str_index PySem.F.type_str_index (mt_indexX hc takes0) ho (pa_cons he pa_nil hs) hbase hfew hline hs hplain) fun σ H Q ⟨ρ, F, M, P, er, w, h, k⟩ => ?_
  refine ⟨ρ, F, M, _, er, w, h, fun d M1 x F1 H1 p1 g1 r1 => ?_⟩
  cases r1 with
  | str a =>
    refine ⟨rfl, ρ, F1, M1, _, er.mono g1.up, g1.w, p1, fun e M2 y F2 H2 p2 g2 r2 => ?_⟩
    cases r2 with
    | str b =>
      have p2 : (match Txt.index0 a b with | some k => P (.int (k : Nat)) M2 | none => False) := p2
      cases q : Txt.index0 a b with
      | none => rw [q] at p2; exact p2.elim
      | some n =>
        rw [q] at p2
        exact ⟨a, b, rfl, rfl, fun m e => by cases e.symm.trans q; exact k _ M2 _ F2 H2 p2 (g1.trans g2) (.int _), fun e => by rw [q] at e; cases e⟩
    | _ => exact p2.elim
  | _ => exact p1.elim
/-- xs.index(y), flat items: it is there -/
def ixOf (d : D) : List D → Option Nat
  | [] => none
  | e :: r => if eqF e d = true then some 0 else (ixOf d r).map (· + 1)
theorem ixOf_at {d : D} : ∀ {ds : List D} {j : Nat}, ixOf d ds = some j → ∃ e, ds[j]? = some e ∧ eqF e d = true ∧ ∀ (m : Nat) (z : D), m < j → ds[m]? = some z → eqF z d = false
  | [], _, h => by cases h
  | e :: r, j, h => by
    have h : (if eqF e d = true then some 0 else (ixOf d r).map (· + 1)) = some j := h
    by_cases q : eqF e d = true
    · rw [if_pos q] at h; cases h
      exact ⟨e, rfl, q, fun m z hm => absurd hm (Nat.not_lt_zero _)⟩
    · rw [if_neg q] at h
      cases q2 : ixOf d r with
      | none => rw [q2] at h; cases h
      | some i =>
        rw [q2] at h; cases h
        obtain ⟨z, h1, h2, h3⟩ := ixOf_at q2
        refine ⟨z, by simpa using h1, h2, fun m y hm hy => ?_⟩
        cases m with
        | zero => cases Option.some.inj (show some e = some y from hy); simpa using q
        | succ m => exact h3 m y (Nat.lt_of_succ_lt_succ hm) (by simpa using hy)
def xIndexL (to te : RE) : RE := fun ρ M P => to ρ M fun d M1 => match d with
  | .lst ds => te ρ M1 fun e M2 => flatD e = true ∧ ds.all flatD = true ∧ (match ixOf e ds with
    | some k => P (.int (k : Nat)) M2
    | none => False)
  | _ => False
theorem de_indexL {X : Cx} {o e : Expr} {to te : RE} {apos cpos : Pos} (ho : DE X o to) (he : DE X e te)
    (hbase : attributeBase o "index" X.env (eval o X.env) = eval o X.env := by rfl)
    (hfew : ((backTo cpos (starEach (e :: []) X.env)).all (fun x => !x.1) && (backToKw cpos (keywordEach [] X.env)).all (fun x => x.1.isSome)
      && decide ((e :: ([] : List Expr)).length + ([] : List Keyword).length + (if ([] : List Keyword).isEmpty then 0 else 1) < 30)) = true := by rfl)
    (hline : (apos.endLine == cpos.line) = true := by rfl) (hs : starEach (e :: []) X.env = (false, eval e X.env) :: starEach [] X.env := by rfl) (hplain : (backTo cpos (starEach [] X.env)).any (·.1) = false := by rfl) :
    DE X (.Call (.Attribute o "index" apos) [e] [] cpos) (xIndexL to te) := by
  refine PE.imp (pe_bm PySem.F.plainAttrs_list PySem.F.slot_list_index PySem.F.type_list_index mt_index ho (pa_cons he pa_nil hs) hbase hfew hline hs hplain) fun σ H Q ⟨ρ, F, M, P, er, w, h, k⟩ => ?_
  refine ⟨ρ, F, M, _, er, w, h, fun d M1 x F1 H1 p1 g1 r1 => ?_⟩
  cases r1 with
  | @lst a xs ds q r =>
    refine ⟨.inl ⟨rfl, _, SqL.of (g1.w.sub _ _ q)⟩, ρ, F1, M1, _, er.mono g1.up, g1.w, p1, fun e M2 y F2 H2 p2 g2 r2 => ?_⟩
    obtain ⟨c1, c2, p2⟩ := p2
    obtain ⟨e1, f1⟩ := toV_rep r2 c1
    obtain ⟨e2, f2⟩ := toVs_rep r c2
    cases q2 : ixOf e ds with
    | none => rw [q2] at p2; exact p2.elim
    | some j =>
      rw [q2] at p2
      obtain ⟨z, h1, h2, h3⟩ := ixOf_at q2
      refine ⟨a, xs, y, j, toV z, rfl, rfl, SqL.of (g2.w.sub _ _ (g2.up _ _ q)), f1, f2, ?_, ?_, fun m z' hm hz => ?_, k _ M2 _ F2 H2 p2 (g1.trans g2) (.int _)⟩
      · rw [e2, List.getElem?_map, h1]; rfl
      · rw [e1]; exact h2
      · rw [e2, List.getElem?_map] at hz
        cases q3 : ds[m]? with
        | none => rw [q3] at hz; cases hz
        | some z2 =>
          rw [q3] at hz; cases hz
          rw [e1]
          exact h3 m z2 hm q3
  | _ => exact p1.elim
/-- xs.append(y) -/
def xAppend (to te : RE) : RE := fun ρ M P => to ρ M fun d M1 => (∃ a, d = .box a ∧ (M1 a).isSome = true) ∧ (match d with
  | .box a => te ρ M1 fun e M2 => (match M2 a with
    | some ds => ds.length < 16777216 ∧ P .non (updM M2 a (ds ++ [e]))
    | none => False)
  | _ => False)
theorem de_append {X : Cx} {o e : Expr} {to te : RE} {apos cpos : Pos} (ho : DE X o to) (he : DE X e te)
    (hbase : attributeBase o "append" X.env (eval o X.env) = eval o X.env := by rfl)
    (hfew : ((backTo cpos (starEach (e :: []) X.env)).all (fun x => !x.1) && (backToKw cpos (keywordEach [] X.env)).all (fun x => x.1.isSome)
      && decide ((e :: ([] : List Expr)).length + ([] : List Keyword).length + (if ([] : List Keyword).isEmpty then 0 else 1) < 30)) = true := by rfl)
    (hline : (apos.endLine == cpos.line) = true := by rfl) (hs : starEach (e :: []) X.env = (false, eval e X.env) :: starEach [] X.env := by rfl) (hplain : (backTo cpos (starEach [] X.env)).any (·.1) = false := by rfl) :
    DE X (.Call (.Attribute o "append" apos) [e] [] cpos) (xAppend to te) := by
  refine PE.imp (pe_bm PySem.F.plainAttrs_list PySem.F.slot_list_append PySem.F.type_list_append mt_append ho (pa_cons he pa_nil hs) hbase hfew hline hs hplain) fun σ H Q ⟨ρ, F, M, P, er, w, h, k⟩ => ?_
  refine ⟨ρ, F, M, fun d M1 => (∃ a, d = .box a ∧ (M1 a).isSome = true) ∧ (match d with
    | .box a => te ρ M1 fun e M2 => (match M2 a with
      | some ds => ds.length < 16777216 ∧ P .non (updM M2 a (ds ++ [e]))
      | none => False)
    | _ => False), er, w, h, fun d M1 x F1 H1 p1 g1 r1 => ?_⟩
  obtain ⟨⟨a, rfl, ha⟩, p1⟩ := p1
  cases r1
  obtain ⟨ds0, e0⟩ := Option.isSome_iff_exists.mp ha
  obtain ⟨_, vs0, h0, _⟩ := g1.w.mem a ds0 e0
  refine ⟨.inl ⟨rfl, _, SqL.of h0⟩, ρ, F1, M1, _, er.mono g1.up, g1.w, p1, fun e M2 y F2 H2 p2 g2 r2 => ?_⟩
  have p2 : (match M2 a with | some ds => ds.length < 16777216 ∧ P .non (updM M2 a (ds ++ [e])) | none => False) := p2
  cases q : M2 a with
  | none => rw [q] at p2; exact p2.elim
  | some ds =>
    rw [q] at p2
    obtain ⟨_, vs, h2, rp⟩ := g2.w.mem a ds q
    refine ⟨a, vs, y, rfl, rfl, h2, by rw [rp.length]; exact line_lt p2.1, ?_⟩
    exact k .non _ .non F2 _ p2.2 ((g1.trans g2).trans (Go.write g2.w q (rp.app (.cons r2 .nil)))) .non
end DL
-- part DL5
set_option Elab.async false
set_option linter.all false
set_option maxRecDepth 100000
set_option maxHeartbeats 4000000
namespace DL
open PySem PySem.Spec PyProof.Rows L2

/-! ### slots forgotten -/
theorem wipe_get {σ : L2.St} {j : Nat} : ∀ {vs : List Nat}, (wipe σ vs)[j]? = if j ∈ vs then σ[j]?.map (fun _ => none) else σ[j]?
  | [] => by simp [wipe]
  | v :: vs => by
    unfold wipe
    by_cases h : v = j
    · subst h
      rw [if_pos List.mem_cons_self]
      by_cases hl : v < σ.length
      · rw [List.getElem?_set_self (by rw [wipe_length]; exact hl), List.getElem?_eq_getElem hl]; rfl
      · rw [List.getElem?_eq_none (by rw [List.length_set, wipe_length]; omega), List.getElem?_eq_none (by omega)]; rfl
    · rw [List.getElem?_set_ne h, wipe_get]
      by_cases h2 : j ∈ vs
      · rw [if_pos h2, if_pos (List.mem_cons_of_mem _ h2)]
      · rw [if_neg h2, if_neg (by simp only [List.mem_cons, not_or]; exact ⟨fun e => h e.symm, h2⟩)]
theorem wipe_set {σ : L2.St} {i : Nat} {x : Option V} {vs : List Nat} (h : i ∈ vs) : wipe (σ.set i x) vs = wipe σ vs := by
  apply List.ext_getElem?
  intro j
  rw [wipe_get, wipe_get]
  by_cases hj : j ∈ vs
  · rw [if_pos hj, if_pos hj]
    by_cases hi : i = j
    · subst hi
      by_cases hl : i < σ.length
      · rw [List.getElem?_set_self hl, List.getElem?_eq_getElem hl]; rfl
      · rw [List.getElem?_eq_none (by rw [List.length_set]; omega), List.getElem?_eq_none (by omega)]
    · rw [List.getElem?_set_ne hi]
  · rw [if_neg hj, if_neg hj, List.getElem?_set_ne (show i ≠ j from fun e => hj (by rw [← e]; exact h))]
theorem wipe_wipe {σ : L2.St} {vs : List Nat} : wipe (wipe σ vs) vs = wipe σ vs := by
  apply List.ext_getElem?
  intro j
  rw [wipe_get, wipe_get]
  by_cases hj : j ∈ vs
  · rw [if_pos hj, if_pos hj]; cases σ[j]? <;> rfl
  · rw [if_neg hj, if_neg hj]
def wipeD (ρ : DEnv) : List Nat → DEnv
  | [] => ρ
  | v :: vs => (wipeD ρ vs).set v none
theorem EnvRep.wipes {K : PySem.W.Frag} {F : Hp} {σ : L2.St} {ρ : DEnv} (e : EnvRep K F σ ρ) : ∀ vs : List Nat, EnvRep K F (L2.wipe σ vs) (wipeD ρ vs)
  | [] => e
  | v :: vs => EnvRep.wipe (EnvRep.wipes e vs) v

/-! ### targets; vs: the slots that may be stored -/
def lGc (K : PySem.W.Frag) (vs : List Nat) (t : RG) : TG := fun v σ H Q => ∃ (d : D) (ρ : DEnv) (F : Hp) (M : Mem) (P : DEnv → Mem → Prop), EnvRep K F σ ρ ∧ Wld K F M H ∧ Rep K F v d ∧ t d ρ M P ∧
  ∀ ρ' M' σ' F' H', P ρ' M' → Go K F M H F' M' H' → EnvRep K F' σ' ρ' → wipe σ' vs = wipe σ vs → Q σ' H'
def lGsc (K : PySem.W.Frag) (vs : List Nat) (t : RGs) : TGs := fun xs σ H Q => ∃ (ds : List D) (ρ : DEnv) (F : Hp) (M : Mem) (P : DEnv → Mem → Prop), EnvRep K F σ ρ ∧ Wld K F M H ∧ Reps K F xs ds ∧ t ds ρ M P ∧
  ∀ ρ' M' σ' F' H', P ρ' M' → Go K F M H F' M' H' → EnvRep K F' σ' ρ' → wipe σ' vs = wipe σ vs → Q σ' H'
abbrev DGc (X : Cx) (vs : List Nat) (tg : Expr) (t : RG) : Prop := PG X tg (lGc X.K vs t)
abbrev DGsc (X : Cx) (vs : List Nat) (tgs : List Expr) (t : RGs) : Prop := PGs X tgs (lGsc X.K vs t)
theorem DGc.dg {X : Cx} {vs : List Nat} {tg : Expr} {t : RG} (h : DGc X vs tg t) : DG X tg t :=
  PG.imp h fun v σ H Q ⟨d, ρ, F, M, P, er, w, r, h, k⟩ => ⟨d, ρ, F, M, P, er, w, r, h, fun ρ' M' σ' F' H' p g e _ => k ρ' M' σ' F' H' p g e⟩
def gN (i : Nat) : RG := fun d ρ M P => P (ρ.set i (some d)) M
def gNil : RGs := fun ds ρ M P => match ds with
  | [] => P ρ M
  | _ => False
def gCons (t : RG) (u : RGs) : RGs := fun ds ρ M P => match ds with
  | d :: r => t d ρ M fun ρ1 M1 => u r ρ1 M1 P
  | [] => False
def gT (t : RGs) : RG := fun d ρ M P => match d with
  | .tup ds => t ds ρ M P
  | _ => False
section
variable {X : Cx} {pos : Pos} {vs : List Nat}
theorem dg_name {i : Nat} {x : Str} (hN : X.N.Nodup) (hi : X.N[i]? = some x) (hx : Loc X.env.scope x) (hv : i ∈ vs := by decide) (hf : X.fn x = true ∨ X.env.scope.names.lookup x = some .local := by first | exact .inl rfl | exact .inr rfl | assumption) : DGc X vs (.Name x pos) (gN i) :=
  PG.imp (pg_name hN hi hx hf) fun v σ H Q ⟨d, ρ, F, M, P, er, w, r, h, k⟩ => k _ M _ F H h (Go.refl w) (er.set r i) (wipe_set hv)
theorem dgs_nil : DGsc X vs [] gNil := PGs.imp pgs_nil fun xs σ H Q ⟨ds, ρ, F, M, P, er, w, r, h, k⟩ => by
  cases r with
  | nil => exact ⟨rfl, k _ M _ F H h (Go.refl w) er rfl⟩
  | cons _ _ => exact h.elim
theorem dgs_cons {e : Expr} {es : List Expr} {t : RG} {u : RGs} (h1 : DGc X vs e t) (h2 : DGsc X vs es u) (hs : (assignEach (e :: es) X.env).map (·.2) = assign e X.env :: (assignEach es X.env).map (·.2) := by rfl) : DGsc X vs (e :: es) (gCons t u) :=
  PGs.imp (pgs_cons h1 h2 hs) fun xs σ H Q ⟨ds, ρ, F, M, P, er, w, r, h, k⟩ => by
    cases r with
    | nil => exact h.elim
    | cons r1 r2 =>
      exact ⟨_, _, rfl, _, ρ, F, M, _, er, w, r1, h, fun ρ1 M1 σ1 F1 H1 p1 g1 e1 z1 => ⟨_, ρ1, F1, M1, P, e1, g1.w, r2.mono g1.up, p1, fun ρ' M' σ' F' H' p g e z => k ρ' M' σ' F' H' p (g1.trans g) e (z.trans z1)⟩⟩
theorem dg_tup {es : List Expr} {k : Nat} {n : Nat} {t : RGs} (hc : X.calm = true) (h : DGsc X vs es t) (hlen : ∀ ds ρ M P, t ds ρ M P → ds.length = n)
    (hn : (assignEach es X.env).length = n := by rfl) (hst : (assignEach es X.env).findIdx? (·.1) = none := by rfl) : DGc X vs (.Tuple es k pos) (gT t) :=
  PG.imp (pg_tup hc h hn hst) fun v σ H Q ⟨d, ρ, F, M, P, er, w, r, h, k⟩ => by
    cases r with
    | tup q r =>
      refine ⟨_, _, rfl, Same.tup w.sub q, ?_, _, ρ, F, M, P, er, w, r, h, k⟩
      rw [r.length]
      exact hlen _ _ _ _ h
    | _ => exact h.elim
theorem len_2 {i j : Nat} : ∀ ds ρ M P, (gCons (gN i) (gCons (gN j) gNil)) ds ρ M P → ds.length = 2
  | [], _, _, _, h => h.elim
  | [_], _, _, _, h => (show False from h).elim
  | [_, _], _, _, _, _ => rfl
  | _ :: _ :: _ :: _, _, _, _, h => (show False from h).elim
theorem len_3 {i j k : Nat} : ∀ ds ρ M P, (gCons (gN i) (gCons (gN j) (gCons (gN k) gNil))) ds ρ M P → ds.length = 3
  | [], _, _, _, h => h.elim
  | [_], _, _, _, h => (show False from h).elim
  | [_, _], _, _, _, h => (show False from h).elim
  | [_, _, _], _, _, _, _ => rfl
  | _ :: _ :: _ :: _ :: _, _, _, _, h => (show False from h).elim
theorem len_4 {i j k l : Nat} : ∀ ds ρ M P, (gCons (gN i) (gCons (gN j) (gCons (gN k) (gCons (gN l) gNil)))) ds ρ M P → ds.length = 4
  | [], _, _, _, h => h.elim
  | [_], _, _, _, h => (show False from h).elim
  | [_, _], _, _, _, h => (show False from h).elim
  | [_, _, _], _, _, _, h => (show False from h).elim
  | [_, _, _, _], _, _, _, _ => rfl
  | _ :: _ :: _ :: _ :: _ :: _, _, _, _, h => (show False from h).elim
end

/-! ### statements -/
section
variable {X : Cx} {st : Stmt} {rest : List Stmt} {t u : RS} {e : Expr} {te : RE} {pos : Pos}
theorem EndsOk.go {K : PySem.W.Frag} {F F1 : Hp} {M M1 : Mem} {H H1 : Hp} {E : DEnds} {D : Ends} (o : EndsOk K F M H E D) (g : Go K F M H F1 M1 H1) : EndsOk K F1 M1 H1 E D :=
  ⟨fun ρ' M' σ' F' H' p g' => o.nx ρ' M' σ' F' H' p (g.trans g'), fun d M' v F' H' p g' => o.rt d M' v F' H' p (g.trans g'), fun ρ' M' σ' F' H' p g' => o.bk ρ' M' σ' F' H' p (g.trans g'), fun ρ' M' σ' F' H' p g' => o.ct ρ' M' σ' F' H' p (g.trans g')⟩
def sNext : RS := fun E ρ M => E.nx ρ M
def sSeq (t u : RS) : RS := fun E ρ M => t { E with nx := u E } ρ M
theorem dss_nil : DSs X [] sNext := PSs.imp pss_nil fun D σ H ⟨ρ, F, M, E, er, w, h, o⟩ => o.nx ρ M σ F H h (Go.refl w) er
theorem dss_cons (h1 : DS X st t) (h2 : DSs X rest u) : DSs X (st :: rest) (sSeq t u) :=
  PSs.imp (pss_cons h1 h2) fun D σ H ⟨ρ, F, M, E, er, w, h, o⟩ =>
    ⟨ρ, F, M, { E with nx := u E }, er, w, h, fun ρ' M' σ' F' H' p g e => ⟨ρ', F', M', E, e, g.w, p, o.go g⟩, o.rt, o.bk, o.ct⟩
theorem dss_one (h1 : DS X st t) : DSs X [st] t := pss_one h1
def sNever : RS := fun _ _ _ => False
theorem ds_never : DS X st sNever := PS.imp ps_never fun D σ H ⟨ρ, F, M, E, er, w, h, o⟩ => h.elim
theorem dss_never {sts : List Stmt} : DSs X sts sNever := PSs.imp pss_never fun D σ H ⟨ρ, F, M, E, er, w, h, o⟩ => h.elim
def sDrop (te : RE) : RS := fun E ρ M => te ρ M fun _ M1 => E.nx ρ M1
theorem ds_expr (he : DE X e te) (hs : swapsWith e none pos.line X.env = pure false := by rfl) : DS X (.Expr e pos) (sDrop te) :=
  PS.imp (ps_expr he hs) fun D σ H ⟨ρ, F, M, E, er, w, h, o⟩ => ⟨ρ, F, M, _, er, w, h, fun d M1 x F1 H1 p g r => o.nx ρ M1 σ F1 H1 p g (er.mono g.up)⟩
def sRet (te : RE) : RS := fun E ρ M => te ρ M E.rt
theorem ds_ret (he : DE X e te) : DS X (.Return (some e) pos) (sRet te) :=
  PS.imp (ps_ret he) fun D σ H ⟨ρ, F, M, E, er, w, h, o⟩ => ⟨ρ, F, M, E.rt, er, w, h, fun d M1 x F1 H1 p g r => o.rt d M1 x F1 H1 p g r⟩
def sIf (c : RT) (t u : RS) : RS := fun E ρ M => c ρ M fun b M1 => match b with
  | true => t E ρ M1
  | false => u E ρ M1
theorem ds_if {c : Expr} {a b : List Stmt} {tc : RT} (hc : DT X c tc) (ha : DSs X a t) (hb : DSs X b u) : DS X (.If c a b pos) (sIf tc t u) :=
  PS.imp (ps_if hc ha hb) fun D σ H ⟨ρ, F, M, E, er, w, h, o⟩ => ⟨ρ, F, M, _, er, w, h, fun d M1 F1 H1 p g => by
    cases d with
    | true => rw [if_pos rfl]; exact ⟨ρ, F1, M1, E, er.mono g.up, g.w, p, o.go g⟩
    | false => rw [if_neg Bool.false_ne_true]; exact ⟨ρ, F1, M1, E, er.mono g.up, g.w, p, o.go g⟩⟩
def sSet (i : Nat) (te : RE) : RS := fun E ρ M => te ρ M fun d M1 => E.nx (ρ.set i (some d)) M1
theorem ds_set {i : Nat} {x : Str} {pos' : Pos} (hN : X.N.Nodup) (hi : X.N[i]? = some x) (hx : Loc X.env.scope x) (he : DE X e te) (hs : swapsWith e (some (.Name x pos')) pos.line X.env = pure false := by rfl) (hf : X.fn x = true ∨ X.env.scope.names.lookup x = some .local := by first | exact .inl rfl | exact .inr rfl | assumption) :
    DS X (.Assign [.Name x pos'] e pos) (sSet i te) :=
  PS.imp (ps_set hN hi hx he hs hf) fun D σ H ⟨ρ, F, M, E, er, w, h, o⟩ => ⟨ρ, F, M, _, er, w, h, fun d M1 x F1 H1 p g r => o.nx _ M1 _ F1 H1 p g ((er.mono g.up).set r i)⟩
def sAsg (te : RE) (g : RG) : RS := fun E ρ M => te ρ M fun d M1 => g d ρ M1 E.nx
theorem ds_asg {tg : Expr} {g : RG} (he : DE X e te) (hg : DG X tg g) (hs : swapsWithSole [tg] e pos.line X.env = pure false := by rfl) (hw : swappedStores [tg] e X.env = pure none := by rfl)
    (h1 : (assignEach [tg] X.env).map (·.2) = [assign tg X.env] := by rfl) : DS X (.Assign [tg] e pos) (sAsg te g) :=
  PS.imp (ps_asg he hg hs hw h1) fun D σ H ⟨ρ, F, M, E, er, w, h, o⟩ => ⟨ρ, F, M, _, er, w, h, fun d M1 x F1 H1 p g r => ⟨d, ρ, F1, M1, E.nx, er.mono g.up, g.w, r, p, fun ρ' M' σ' F' H' p' g' e' => o.nx ρ' M' σ' F' H' p' (g.trans g') e'⟩⟩
def sPar (i j : Nat) (ta tb : RE) : RS := fun E ρ M => ta ρ M fun d M1 => tb ρ M1 fun e M2 => E.nx ((ρ.set i (some d)).set j (some e)) M2
theorem ds_par {i j : Nat} {x y : Str} {a b : Expr} {ta tb : RE} {px py pt : Pos} {kt k2 pt2} (hc : X.calm = true) (hN : X.N.Nodup) (hi : X.N[i]? = some x) (hj : X.N[j]? = some y) (hij : i ≠ j)
    (hx : X.env.scope.names.lookup x = some .local) (hy : X.env.scope.names.lookup y = some .local) (ha : DE X a ta) (hb : DE X b tb)
    (hw : swappedStores [.Tuple [.Name x px, .Name y py] kt pt] (.Tuple [a, b] k2 pt2) X.env = pure (some [x, y]))
    (hs : swapsWithSole [.Tuple [.Name x px, .Name y py] kt pt] (.Tuple [a, b] k2 pt2) pos.line X.env = pure false := by rfl)
    (h1 : starEach [a, b] X.env = (false, eval a X.env) :: starEach [b] X.env := by rfl) (h2 : starEach [b] X.env = (false, eval b X.env) :: starEach [] X.env := by rfl) :
    DS X (.Assign [.Tuple [.Name x px, .Name y py] kt pt] (.Tuple [a, b] k2 pt2) pos) (sPar i j ta tb) :=
  PS.imp (ps_par hc hN hi hj hij hx hy (pa_cons ha (pa_cons hb pa_nil h2) h1) hw hs) fun D σ H ⟨ρ, F, M, E, er, w, h, o⟩ =>
    ⟨ρ, F, M, _, er, w, h, fun d M1 v F1 H1 p g r => ⟨ρ, F1, M1, _, er.mono g.up, g.w, p, fun e M2 v2 F2 H2 p2 g2 r2 =>
      ⟨v, v2, rfl, o.nx _ M2 _ F2 H2 p2 (g.trans g2) (((er.mono (g.trans g2).up).set (r.mono g2.up) i).set r2 j)⟩⟩⟩
/-- xs[i] = e -/
def sStore (to ti te : RE) : RS := fun E ρ M => te ρ M fun d M1 => to ρ M1 fun o M2 => ti ρ M2 fun k M3 => match o, k with
  | .box a, .int i => (match M3 a with
    | some ds => (match ixN ds.length i with
      | some j => E.nx ρ (updM M3 a (ds.set j d))
      | none => False)
    | none => False)
  | _, _ => False
theorem ds_store {o i : Expr} {to ti : RE} {tpos : Pos} (he : DE X e te) (ho : DE X o to) (hi : DE X i ti)
    (ha : ∀ v, assign (.Subscript o i tpos) X.env v = (do
      let ov ← holding [v] (eval o X.env)
      let iv ← holding [v, ov] (eval i X.env)
      standAt tpos
      holding [v, ov, iv] (setItem ov iv v)
      release [v, ov, iv] []) := by intro _; rfl)
    (hs : swapsWithSole [.Subscript o i tpos] e pos.line X.env = pure false := by rfl) (hw : swappedStores [.Subscript o i tpos] e X.env = pure none := by rfl)
    (h1 : (assignEach [.Subscript o i tpos] X.env).map (·.2) = [assign (.Subscript o i tpos) X.env] := by rfl) : DS X (.Assign [.Subscript o i tpos] e pos) (sStore to ti te) :=
  PS.imp (ps_asg he (pg_sub ho hi set_list ha) hs hw h1) fun D σ H ⟨ρ, F, M, E, er, w, h, o⟩ => ⟨ρ, F, M, _, er, w, h, fun d M1 v F1 H1 p1 g1 r1 =>
    ⟨ρ, F1, M1, _, er.mono g1.up, g1.w, p1, fun od M2 x F2 H2 p2 g2 r2 => ⟨ρ, F2, M2, _, er.mono (g1.trans g2).up, g2.w, p2, fun k M3 y F3 H3 p3 g3 r3 => by
      cases r2 with
      | box a =>
        cases r3 with
        | int i =>
          have p3 : (match M3 a with | some ds => (match ixN ds.length i with | some j => E.nx ρ (updM M3 a (ds.set j d)) | none => False) | none => False) := p3
          cases q : M3 a with
          | none => rw [q] at p3; exact p3.elim
          | some ds =>
            rw [q] at p3
            have p3 : (match ixN ds.length i with | some j => E.nx ρ (updM M3 a (ds.set j d)) | none => False) := p3
            cases q2 : ixN ds.length i with
            | none => rw [q2] at p3; exact p3.elim
            | some j =>
              rw [q2] at p3
              obtain ⟨_, vs, h3, rp⟩ := g3.w.mem a ds q
              refine ⟨a, vs, i, j, rfl, rfl, h3, by rw [rp.length]; exact q2, ?_⟩
              have g := Go.write g3.w q (rp.set j (r1.mono (g2.trans g3).up))
              exact o.nx ρ _ σ F3 _ p3 (((g1.trans g2).trans g3).trans g) (er.mono ((g1.trans g2).trans g3).up)
        | _ => exact p3.elim
      | _ => cases r3 <;> exact p3.elim⟩⟩⟩

/-! ### while -/
def sWhile (c : RT) (tb : RS) : RS := fun E ρ M => ∃ W : Nat → DEnv → Mem → Prop, (∃ m, W m ρ M) ∧ ∀ m ρ M, W m ρ M → c ρ M fun b M1 => match b with
  | true => tb { E with nx := fun ρ' M' => ∃ m', m' < m ∧ W m' ρ' M', ct := fun ρ' M' => ∃ m', m' < m ∧ W m' ρ' M', bk := E.nx } ρ M1
  | false => E.nx ρ M1
theorem ds_while {c : Expr} {body : List Stmt} {tc : RT} {tb : RS} (hp : PassesOwn (model X.prog X.w) X.A X.env X.xe) (hc : DT X c tc) (hb : DSs X body tb) : DS X (.While c body [] pos) (sWhile tc tb) :=
  PS.imp (ps_while hp hc hb) fun D σ H ⟨ρ, F, M, E, er, w, h, o⟩ => by
    obtain ⟨W, ⟨m0, w0⟩, turn⟩ := h
    refine ⟨fun m σ' H' => ∃ ρ' F' M', Go X.K F M H F' M' H' ∧ EnvRep X.K F' σ' ρ' ∧ W m ρ' M', ⟨m0, ρ, F, M, Go.refl w, er, w0⟩, ?_⟩
    rintro m σ1 H1 ⟨ρ1, F1, M1, g1, er1, w1⟩
    refine ⟨ρ1, F1, M1, _, er1, g1.w, turn m ρ1 M1 w1, fun b M2 F2 H2 p2 g2 => ?_⟩
    cases b with
    | false => rw [if_neg Bool.false_ne_true]; exact o.nx ρ1 M2 σ1 F2 H2 p2 (g1.trans g2) (er1.mono g2.up)
    | true =>
      rw [if_pos rfl]
      refine ⟨fun σ' H' => ∃ m', m' < m ∧ ∃ ρ' F' M', Go X.K F M H F' M' H' ∧ EnvRep X.K F' σ' ρ' ∧ W m' ρ' M', fun σ' H' hN => hN, ?_⟩
      have nx : ∀ ρ' M' σ' F' H', (∃ m', m' < m ∧ W m' ρ' M') → Go X.K F2 M2 H2 F' M' H' → EnvRep X.K F' σ' ρ' → ∃ m', m' < m ∧ ∃ ρ' F' M', Go X.K F M H F' M' H' ∧ EnvRep X.K F' σ' ρ' ∧ W m' ρ' M' :=
        fun ρ' M' σ' F' H' ⟨m', hm, hw⟩ g e => ⟨m', hm, ρ', F', M', (g1.trans g2).trans g, e, hw⟩
      exact ⟨ρ1, F2, M2, _, er1.mono g2.up, g2.w, p2, nx, fun d M' v F' H' p g r => o.rt d M' v F' H' p ((g1.trans g2).trans g) r,
        fun ρ' M' σ' F' H' p g e => o.nx ρ' M' σ' F' H' p ((g1.trans g2).trans g) e, nx⟩
end

/-! ### what is walked -/
structure Yields (K : PySem.W.Frag) (F0 : Hp) (J : It) (ds : List D) : Prop where
  go : ∀ i H, Same F0 H → i < ds.length → J.go i H
  stop : ∀ H, Same F0 H → J.stop ds.length H
  yld : ∀ i H x H' F M d, Wld K F M H → Same F0 F → ds[i]? = some d → J.yld i H x H' → ∃ F', Go K F M H F' M H' ∧ Rep K F' x d
abbrev RI := DEnv → Mem → (List D → Mem → Prop) → Prop
def lI (K : PySem.W.Frag) (t : RI) : TI := fun σ H R => ∃ (ρ : DEnv) (F : Hp) (M : Mem) (P : List D → Mem → Prop), EnvRep K F σ ρ ∧ Wld K F M H ∧ t ρ M P ∧ ∀ ds M' F' H' J, P ds M' → Go K F M H F' M' H' → Yields K F' J ds → R J H'
abbrev DI (X : Cx) (tg iter : Expr) (t : RI) : Prop := PI X tg iter (lI X.K t)
def sFor (wi : RI) (g : RG) (tb : RS) : RS := fun E ρ M => wi ρ M fun ds M1 => ∃ W : Nat → DEnv → Mem → Prop, W 0 ρ M1 ∧
  (∀ i d ρ M, ds[i]? = some d → W i ρ M → g d ρ M fun ρ2 M2 => tb { E with nx := W (i + 1), ct := W (i + 1), bk := E.nx } ρ2 M2) ∧ ∀ ρ M, W ds.length ρ M → E.nx ρ M
section
variable {X : Cx} {pos : Pos}
theorem ds_for {tg iter : Expr} {body : List Stmt} {wi : RI} {g : RG} {tb : RS} (hp : PassesOwn (model X.prog X.w) X.A X.env X.xe) (hc : X.calm = true) (hi : DI X tg iter wi) (hg : DG X tg g) (hb : DSs X body tb)
    (hs : ∀ x, foldedSetIterable iter X.env x = pure x := by intro _; rfl) : DS X (.For tg iter body [] pos) (sFor wi g tb) :=
  PS.imp (ps_for hp hc hi hg hb hs) fun D σ H ⟨ρ, F, M, E, er, w, h, o⟩ => by
    refine ⟨ρ, F, M, _, er, w, h, fun ds M1 F1 H1 J p g1 ys => ?_⟩
    obtain ⟨W, w0, step, last⟩ := p
    refine ⟨fun i m σ' H' => m = ds.length - i ∧ i ≤ ds.length ∧ ∃ ρ' F' M', Go X.K F M H F' M' H' ∧ Same F1 F' ∧ EnvRep X.K F' σ' ρ' ∧ W i ρ' M', ⟨ds.length, by simp, Nat.zero_le _, ρ, F1, M1, g1, Same.refl _, er.mono g1.up, w0⟩, ?_⟩
    rintro i m σ2 H2 ⟨rfl, hi, ρ2, F2, M2, g2, s2, er2, w2⟩
    have sH : Same F1 H2 := s2.trans g2.w.sub
    by_cases hlt : i < ds.length
    · refine .inr ⟨ys.go i H2 sH hlt, fun σ' H' => ∃ ρ' F' M', Go X.K F M H F' M' H' ∧ Same F1 F' ∧ EnvRep X.K F' σ' ρ' ∧ W (i + 1) ρ' M', fun σ' H' hN => ⟨ds.length - (i + 1), by omega, rfl, hlt, hN⟩, fun x H3 y => ?_⟩
      obtain ⟨d, hd⟩ : ∃ d, ds[i]? = some d := ⟨ds[i], List.getElem?_eq_getElem hlt⟩
      obtain ⟨F3, g3, r3⟩ := ys.yld i H2 x H3 F2 M2 d g2.w s2 hd y
      refine ⟨d, ρ2, F3, M2, _, er2.mono g3.up, g3.w, r3, step i d ρ2 M2 hd w2, fun ρ4 M4 σ4 F4 H4 p4 g4 er4 => ?_⟩
      have g5 := (g2.trans g3).trans g4
      have s5 : Same F1 F4 := (s2.trans g3.up).trans g4.up
      have nx : ∀ ρ' M' σ' F' H', W (i + 1) ρ' M' → Go X.K F4 M4 H4 F' M' H' → EnvRep X.K F' σ' ρ' → ∃ ρ' F' M', Go X.K F M H F' M' H' ∧ Same F1 F' ∧ EnvRep X.K F' σ' ρ' ∧ W (i + 1) ρ' M' :=
        fun ρ' M' σ' F' H' hw g e => ⟨ρ', F', M', g5.trans g, s5.trans g.up, e, hw⟩
      exact ⟨ρ4, F4, M4, _, er4, g4.w, p4, nx, fun d M' v F' H' p g r => o.rt d M' v F' H' p (g5.trans g) r, fun ρ' M' σ' F' H' p g e => o.nx ρ' M' σ' F' H' p (g5.trans g) e, nx⟩
    · have e : i = ds.length := by omega
      subst e
      exact .inl ⟨ys.stop H2 sH, o.nx ρ2 M2 σ2 F2 H2 (last ρ2 M2 w2) g2 er2⟩

/-! ### list comprehensions -/
def er (D : Addr) (H : Hp) : Hp := fun b => if b = D then none else H b
theorem er_same {D : Addr} {H : Hp} : er D H D = none := if_pos rfl
theorem er_ne {D b : Addr} {H : Hp} (h : b ≠ D) : er D H b = H b := if_neg h
theorem er_upd {D : Addr} {H : Hp} {o : HO} : er D (upd H D o) = er D H := by
  funext b; unfold er upd; split <;> rfl
theorem upd_er {D : Addr} {H : Hp} {o : HO} (h : H D = some o) : upd (er D H) D o = H := by
  funext b; unfold er upd; split
  · rename_i e; rw [e, h]
  · rename_i e; exact if_neg e
theorem er_fresh {D : Addr} {H : Hp} (h : H D = none) : er D H = H := by
  funext b; unfold er; split
  · rename_i e; rw [e, h]
  · rfl
section
variable {K : PySem.W.Frag} {F F' : Hp} {M M' : Mem} {H H' : Hp} {D : Addr}
theorem Wld.er (w : Wld K F M H) (f : F D = none) (m : M D = none) : Wld K F M (er D H) :=
  ⟨fun b o e => by rw [er_ne (fun z => by rw [z, f] at e; cases e)]; exact w.sub b o e, fun a ds e => by
    obtain ⟨h1, vs, h2, h3⟩ := w.mem a ds e
    exact ⟨h1, vs, by rw [er_ne (fun z => by rw [z, m] at e; cases e)]; exact h2, h3⟩⟩
theorem Wld.unEr (w : Wld K F M (DL.er D H)) : Wld K F M H :=
  ⟨fun b o e => by
    have h := w.sub b o e
    by_cases z : b = D
    · rw [z, er_same] at h; cases h
    · rw [er_ne z] at h; exact h, fun a ds e => by
    obtain ⟨h1, vs, h2, h3⟩ := w.mem a ds e
    by_cases z : a = D
    · rw [z, er_same] at h2; cases h2
    · rw [er_ne z] at h2; exact ⟨h1, vs, h2, h3⟩⟩
theorem Wld.erF (w : Wld K F M (DL.er D H)) : F D = none := w.freeF er_same
theorem Wld.erM (w : Wld K F M (DL.er D H)) : M D = none := w.freeM er_same
theorem Go.er (g : Go K F M H F' M' H') (h : H D ≠ none) (f : F D = none) (m : M D = none) : Go K F M (DL.er D H) F' M' (DL.er D H') := by
  have f' := g.frF D f h
  have m' := g.frM D m h
  refine ⟨g.w.er f' m', g.up, fun a o e me => ?_, fun a e => ?_, fun a fa e => ?_, fun a ma e => ?_⟩
  · by_cases z : a = D
    · rw [z, er_same] at e; cases e
    · rw [er_ne z] at e ⊢; exact g.keep a o e me
  · by_cases z : a = D
    · rw [z, er_same] at e; exact absurd rfl e
    · rw [er_ne z] at e ⊢; exact g.there a e
  · by_cases z : a = D
    · rw [z]; exact f'
    · rw [er_ne z] at e; exact g.frF a fa e
  · by_cases z : a = D
    · rw [z]; exact m'
    · rw [er_ne z] at e; exact g.frM a ma e
end
def yYes : RT := fun _ M P => P true M
theorem dts_nil : DTs X [] yYes := PTs.imp pts_nil fun σ H Q ⟨ρ, F, M, P, er, w, h, k⟩ => k true M F H h (Go.refl w)
theorem dts_one {c : Expr} {t : RT} (h : DT X c t) : DTs X [c] t := pts_one h
def xLc (m : Bool) (wi : RI) (g : RG) (tt : RT) (te : RE) (vs : List Nat) : RE := fun ρ M P => wi ρ M fun ds M1 => ∃ W : Nat → List D → Mem → Prop, W 0 [] M1 ∧
  (∀ i d acc M, ds[i]? = some d → W i acc M → g d (wipeD ρ vs) M fun ρ2 M2 => tt ρ2 M2 fun b M3 => match b with
    | true => te ρ2 M3 fun y M4 => acc.length < 16777216 ∧ W (i + 1) (acc ++ [y]) M4
    | false => W (i + 1) acc M3) ∧ ∀ acc M, W ds.length acc M → mk m acc M P
theorem lE_lc {m : Bool} {wi : RI} {g : RG} {tt : RT} {te : RE} {vs : List Nat} {σ : L2.St} {H : Hp} {Q : VK} (h : lE X.K (xLc m wi g tt te vs) σ H Q) : tLc (lI X.K wi) (lGc X.K vs g) (lT X.K tt) (lE X.K te) vs σ H Q := by
  obtain ⟨ρ, F, M, P, er0, w, h, k⟩ := h
  refine ⟨ρ, F, M, _, er0, w, h, fun ds M1 F1 H1 J p g1 ys => ?_⟩
  obtain ⟨W, w0, step, last⟩ := p
  intro A hA
  refine ⟨fun i m H' => m = ds.length - i ∧ i ≤ ds.length ∧ ∃ F' M' acc vacc, Go X.K F M H F' M' (er A H') ∧ Same F1 F' ∧ H' A = some (.lst vacc) ∧ Reps X.K F' vacc acc ∧ W i acc M',
    ⟨ds.length, by simp, Nat.zero_le _, F1, M1, [], [], by rw [er_upd, er_fresh hA]; exact g1, Same.refl _, upd_same, .nil, w0⟩, ?_⟩
  rintro i n H2 ⟨rfl, hi, F2, M2, acc, vacc, g2, s2, hA2, ra, w2⟩
  have fA := g2.w.erF
  have mA := g2.w.erM
  have wl := g2.w.unEr
  have sH : Same F1 H2 := s2.trans wl.sub
  have hA2n : H2 A ≠ none := by rw [hA2]; intro z; cases z
  by_cases hlt : i < ds.length
  · refine .inr ⟨ys.go i H2 sH hlt, fun H' => ∃ F' M' acc vacc, Go X.K F M H F' M' (er A H') ∧ Same F1 F' ∧ H' A = some (.lst vacc) ∧ Reps X.K F' vacc acc ∧ W (i + 1) acc M', fun H' hN => ⟨ds.length - (i + 1), by omega, rfl, hlt, hN⟩, fun x H3 y => ?_⟩
    obtain ⟨d, hd⟩ : ∃ d, ds[i]? = some d := ⟨ds[i], List.getElem?_eq_getElem hlt⟩
    obtain ⟨F3, g3, r3⟩ := ys.yld i H2 x H3 F2 M2 d wl s2 hd y
    refine ⟨d, wipeD ρ vs, F3, M2, _, (er0.wipes vs).mono (((g2.up)).trans g3.up), g3.w, r3, step i d acc M2 hd w2, fun ρ4 M4 σ4 F4 H4 p4 g4 er4 z4 => ⟨z4.trans wipe_wipe, ?_⟩⟩
    refine ⟨ρ4, F4, M4, _, er4, g4.w, p4, fun b M5 F5 H5 p5 g5 => ?_⟩
    have g35 := (g3.trans g4).trans g5
    cases b with
    | false =>
      show if false = true then _ else _
      rw [if_neg Bool.false_ne_true]
      exact ⟨F5, M5, acc, vacc, g2.trans (g35.er hA2n fA mA), s2.trans g35.up, g35.keep _ _ hA2 mA, ra.mono g35.up, p5⟩
    | true =>
      show if true = true then _ else _
      rw [if_pos rfl]
      refine ⟨ρ4, F5, M5, _, er4.mono g5.up, g5.w, p5, fun y M6 v F6 H6 p6 g6 r6 => ?_⟩
      have g36 := g35.trans g6
      refine ⟨vacc, g36.keep _ _ hA2 mA, by rw [ra.length]; exact line_lt p6.1, F6, M6, acc ++ [y], vacc ++ [v], ?_, s2.trans g36.up, upd_same, (ra.mono g36.up).app (.cons r6 .nil), p6.2⟩
      rw [er_upd]
      exact g2.trans (g36.er hA2n fA mA)
  · have e : i = ds.length := by omega
    subst e
    refine .inl ⟨ys.stop H2 sH, ?_⟩
    have := mk_ok (p := A) g2.w ra (last acc M2 w2) (fun d' M' v F' H' p g r => k d' M' v F' H' p (g2.trans g) r) er_same
    rw [upd_er hA2] at this
    exact this
theorem de_lc (m : Bool) {elt tg iter : Expr} {ifs : List Expr} {scope : Scope} {own : List (Str × Nat)} {wi : RI} {g : RG} {tt : RT} {te : RE} (hc : X.calm = true) (hN : X.N.Nodup) (hi : DI X tg iter wi) (ok : BlkOk X.N X.env.scope scope own)
    (hg : ∀ (s : Shared) (H : Hp) (C : Addr) (cl : List (Str × Addr)) (fp : List Addr), DGc (X.blk s H scope (compEnvC scope cl C X.env) fp) (own.map (·.2)) tg g) (ht : ∀ (s : Shared) (H : Hp) (C : Addr) (cl : List (Str × Addr)) (fp : List Addr), DTs (X.blk s H scope (compEnvC scope cl C X.env) fp) ifs tt)
    (he : ∀ (s : Shared) (H : Hp) (C : Addr) (cl : List (Str × Addr)) (fp : List Addr), DE (X.blk s H scope (compEnvC scope cl C X.env) fp) elt te) (hs : ∀ x, foldedSetIterable iter X.env x = pure x := by intro _; rfl) :
    DE X (.ListComp elt [⟨tg, iter, ifs, 0⟩] scope pos) (xLc m wi g tt te (own.map (·.2))) :=
  PE.imp (pe_lc hc hN hi ok hg ht he hs) fun _ _ _ h => lE_lc h
theorem ds_setLc (m : Bool) {i : Nat} {y : Str} {py spos : Pos} {elt tg iter : Expr} {ifs : List Expr} {scope : Scope} {own : List (Str × Nat)} {wi : RI} {g : RG} {tt : RT} {te : RE} (hc : X.calm = true) (hN : X.N.Nodup) (hy : X.N[i]? = some y) (hyl : X.env.scope.names.lookup y = some .local)
    (hsw : swapsWith (.ListComp elt [⟨tg, iter, ifs, 0⟩] scope pos) (some (.Name y py)) spos.line X.env = pure true) (hi : DI X tg iter wi) (ok : BlkOk X.N X.env.scope scope own)
    (hg : ∀ (s : Shared) (H : Hp) (C : Addr) (cl : List (Str × Addr)) (fp : List Addr), DGc (X.blk s H scope (compEnvC scope cl C X.env) fp) (own.map (·.2)) tg g) (ht : ∀ (s : Shared) (H : Hp) (C : Addr) (cl : List (Str × Addr)) (fp : List Addr), DTs (X.blk s H scope (compEnvC scope cl C X.env) fp) ifs tt)
    (he : ∀ (s : Shared) (H : Hp) (C : Addr) (cl : List (Str × Addr)) (fp : List Addr), DE (X.blk s H scope (compEnvC scope cl C X.env) fp) elt te) (hs : ∀ x, foldedSetIterable iter X.env x = pure x := by intro _; rfl) :
    DS X (.Assign [.Name y py] (.ListComp elt [⟨tg, iter, ifs, 0⟩] scope pos) spos) (sSet i (xLc m wi g tt te (own.map (·.2)))) :=
  PS.imp (ps_setLc hc hN hy hyl hsw hi ok hg ht he hs) fun D σ H ⟨ρ, F, M, E, er, w, h, o⟩ =>
    lE_lc ⟨ρ, F, M, _, er, w, h, fun d M1 x F1 H1 p g r => o.nx _ M1 _ F1 H1 p g ((er.mono g.up).set r i)⟩
end

/-! ### defs -/
abbrev RF := List D → Mem → DK → Prop
def spD (K : PySem.W.Frag) (R : RF) : Sp := fun vs H Q _ => ∃ (F : Hp) (M : Mem) (ds : List D) (P : DK), Wld K F M H ∧ Reps K F vs ds ∧ R ds M P ∧ ∀ d M' v F' H', P d M' → Go K F M H F' M' H' → Rep K F' v d → Q v H'
/-- a def that may be called by its name -/
structure Callee (P : Program) (w : World) (K : PySem.W.Frag) (mg : Str → Option Value) (base : Heap) (x : Str) (ps : List Str) (k : Nat) (R : RF) : Prop where
  ex : ∃ f fd, mg x = some (.ref f) ∧ PySem.W.keepIn K (.ref f) = true ∧ Binds K fd ps [] ∧ FnOk P w K mg base CX0 k f fd ps (spD K R)
def xCall (R : RF) (t : RA) : RE := fun ρ M P => t ρ M fun ds M1 => R ds M1 P
section
variable {X : Cx} {x : Str} {ps : List Str} {k j : Nat} {R : RF} {p pos : Pos} {e : Expr} {es : List Expr} {t : RA}
theorem de_call (C : Callee X.prog X.w X.K X.mg X.base x ps k R) (hr : Room j X.A) (hk : k ≤ j) (hg : Gl X x) (ha : DA X (e :: es) t) (hdb : (x == ("__debug__" : Str)) = false := by decide)
    (he : starEach (e :: es) X.env = (false, eval e X.env) :: starEach es X.env := by rfl) (hpl : (backTo pos (starEach es X.env)).any (·.1) = false := by rfl) : DE X (.Call (.Name x p) (e :: es) [] pos) (xCall R t) := by
  obtain ⟨f, fd, hm, kp, hb, F⟩ := C.ex
  refine PE.imp (pe_call F (hr.mono hk) hg hm kp hb .nil pass0 ha hdb he hpl) fun σ H Q ⟨ρ, F, M, P, er, w, h, k⟩ => ?_
  refine ⟨ρ, F, M, _, er, w, h, fun ds M1 vs F1 H1 p1 g1 r1 => ?_⟩
  show spD X.K R (vs ++ []) H1 Q E0
  rw [List.append_nil]
  exact ⟨F1, M1, ds, P, g1.w, r1, p1, fun d M' v F' H' q g r => k d M' v F' H' q (g1.trans g) r⟩
end
def startD (N : List Str) (ds : List D) : DEnv := ds.map some ++ List.replicate (N.length - ds.length) none
theorem start_rep {K : PySem.W.Frag} {F : Hp} {N : List Str} {vs : List V} {ds : List D} (r : Reps K F vs ds) : EnvRep K F (L2.start N vs) (startD N ds) := by
  have hl := r.length
  refine ⟨by unfold L2.start startD; simp [hl], fun i d h => ?_⟩
  unfold startD at h
  unfold L2.start
  by_cases hi : i < ds.length
  · rw [List.getElem?_append_left (by simpa using hi), List.getElem?_map] at h
    rw [List.getElem?_append_left (by simpa [hl] using hi), List.getElem?_map]
    cases q : ds[i]? with
    | none => rw [q] at h; cases h
    | some e =>
      rw [q] at h
      cases Option.some.inj (Option.some.inj h)
      obtain ⟨v, h1, h2⟩ := r.get q
      exact ⟨v, by rw [h1]; rfl, h2⟩
  · rw [List.getElem?_append_right (by simpa using hi), List.getElem?_replicate] at h
    split at h <;> cases h
section
variable {P : Program} {w : World} {K : PySem.W.Frag} {mg : Str → Option Value} {base : Heap}
/-- THE RULE for a def -/
theorem fn_D {x qual : Str} {st : Stmt} {f : Addr} {fd : FuncData} {N ps : List Str} {k : Nat} {R : RF} (F : Fun K x qual st f fd) (S : FnScope N ps (defScope st)) (len : ∀ ds M P, R ds M P → ds.length = ps.length)
    (body : ∀ (cdv : Value) (A : Around) (outer : List Env) (s : Shared) (H : Hp) (E : XK), Room k (A.deeper (envOfC qual (defScope st) s.heap.objs.size f cdv)) →
      ∃ t : RS, DSs (cxOf CX0 P w K mg base N qual (defScope st) f cdv A outer s H E).nox (defBody st) t ∧ ∀ ds M Q, R ds M Q → t { nx := fun _ M' => Q .non M', rt := Q } (startD N ds) M) : FnOk P w K mg base CX0 (k + 1) f fd ps (spD K R) := by
  refine F.ok S (fun vs H Q E ⟨F, M, ds, P', w, r, h, _⟩ => by rw [r.length]; exact len ds M P' h) (fun cdv A outer s H vs Q E hr h => ?_)
  obtain ⟨t, h1, h2⟩ := body cdv A outer s H E hr
  obtain ⟨F, M, ds, P', w, r, h, kk⟩ := h
  refine ⟨_, h1, startD N ds, F, M, _, start_rep r, w, h2 ds M P' h, ?_⟩
  exact ⟨fun ρ' M' σ' F' H' p g e => kk .non M' .non F' H' p g .non, kk, fun _ _ _ _ _ p => p.elim, fun _ _ _ _ _ p => p.elim⟩
/-- a def of the text as the top has left it -/
structure DefAt (K : PySem.W.Frag) (mg : Str → Option Value) (x : Str) (st : Stmt) (ps : List Str) : Prop where
  ex : ∃ f fd, mg x = some (.ref f) ∧ Fun K x x st f fd ∧ Binds K fd ps []
theorem callee {x : Str} {st : Stmt} {N ps : List Str} {k : Nat} {R : RF} (d : DefAt K mg x st ps) (S : FnScope N ps (defScope st)) (len : ∀ ds M P, R ds M P → ds.length = ps.length)
    (body : ∀ (f : Addr) (cdv : Value) (A : Around) (outer : List Env) (s : Shared) (H : Hp) (E : XK), Room k (A.deeper (envOfC x (defScope st) s.heap.objs.size f cdv)) →
      ∃ t : RS, DSs (cxOf CX0 P w K mg base N x (defScope st) f cdv A outer s H E).nox (defBody st) t ∧ ∀ ds M Q, R ds M Q → t { nx := fun _ M' => Q .non M', rt := Q } (startD N ds) M) : Callee P w K mg base x ps (k + 1) R := by
  obtain ⟨f, fd, hm, F, hb⟩ := d.ex
  exact ⟨f, fd, hm, F.kp, hb, fn_D F S len (body f)⟩
end
end DL
-- part DL6
set_option Elab.async false
set_option linter.all false
set_option maxRecDepth 100000
set_option maxHeartbeats 4000000
namespace DL
open PySem PySem.Spec PyProof.Rows L2

/-! ### enumerate of a tuple, of a text -/
open Sem (wp) in
set_option maxHeartbeats 1000000 in
theorem meets_enumerate_newB1 {v : Value} {o : Obj} {H : Heap → Prop} (B : Begins v o H) :
    Meets (Builtin.«enumerate.__new__» ⟨[.type "enumerate", v], []⟩) (fun _ R s => H s.heap ∧
      R (.ok (.ret (.ref (s.heap.push o).objs.size))) { s with heap := (s.heap.push o).push { cls := .type "enumerate", data := .fields #[.none, .bool false, .ref s.heap.objs.size, rawInt 0, .none, .none] } }) :=
  .of_wp fun prog w A R s h => by
    obtain ⟨hp, g, d, tk, os⟩ := s; obtain ⟨h1, h⟩ := h
    have hsub := sub_enumerate
    have q1 : ∀ {A' : Around} {E : Value → Shared → Prop} {Q : Value → Shared → Prop}, Q (.ref hp.objs.size) ⟨hp.push o, g, d, tk, os⟩ → wpAny (model prog w) A' (pyIter v) Q E ⟨hp, g, d, tk, os⟩ :=
      fun q => B.iter prog w _ _ ⟨hp, g, d, tk, os⟩ _ h1 q
    wp_walk using q1
    refine wpAny_stack_any fun st => wpAny_pure ?_
    split
    · rename_i c _ _ _ _ _
      cases (c == Value.type "enumerate")
      · wp_walk using q1
        exact ⟨_, rfl, h⟩
      · wp_walk using q1
        exact ⟨_, rfl, h⟩
    · wp_walk using q1
      exact ⟨_, rfl, h⟩
section
variable {prog : Program} {w : World} {A : Around} {E : Value → Shared → Prop} {s : Shared}
theorem enum_begins1 {v : Value} {o : Obj} {H : Heap → Prop} {Q : Value → Shared → Prop} (B : Begins v o H) (h1 : H s.heap)
    (h : ∀ h', IsEnum h' (s.heap.objs.size + 1) s.heap.objs.size 0 .none → h'.get? s.heap.objs.size = some o → h'.objs.size = s.heap.objs.size + 2 →
      (∀ b o, s.heap.get? b = some o → h'.get? b = some o) → Q (.ref (s.heap.objs.size + 1)) { s with heap := h' }) :
    wpAny (model prog w) A (call (.type "enumerate") [v]) Q E s := by
  refine callType_new F.called_enumerate (by decide) (F.typeCall_enumerate_1 _) (F.newCall_enumerate_1 _) (fun obj => F.args_object_init_2 obj _) F.entry_enumerate_new
    (meets_enumerate_newB1 B) ⟨h1, ?_⟩
  have hz : (s.heap.push o).objs.size = s.heap.objs.size + 1 := Heap.size_push ..
  show _ ∧ _
  rw [hz]
  have he : IsEnum ((s.heap.push o).push { cls := .type "enumerate", data := .fields #[.none, .bool false, .ref s.heap.objs.size, rawInt 0, .none, .none] }) (s.heap.objs.size + 1) s.heap.objs.size 0 .none := by
    have := Heap.get?_push_size (s.heap.push o) (o := { cls := .type "enumerate", data := .fields #[.none, .bool false, .ref s.heap.objs.size, rawInt 0, .none, .none] }) rfl
    rw [hz] at this; exact this
  refine ⟨⟨_, he, rfl⟩, h _ he (Heap.get?_push_of_some _ (Heap.get?_push_size _ B.free)) (by rw [Heap.size_push, hz]) fun b o x => Heap.get?_push_of_some _ (Heap.get?_push_of_some _ x)⟩
end
/-- what is numbered, for good: its items as values -/
def IteX (xs : List V) (G : Hp → Prop) : It :=
  ⟨fun i H => G H ∧ i < xs.length, fun i H v H' => ∃ T x, v = .ref T ∧ H T = none ∧ H' = upd H T (.tup [.int (i : Nat), x]) ∧ xs[i]? = some x, fun i H => G H ∧ i = xs.length⟩
/-- one source of items under enumerate: St0 is its iterator's state (the object at it), G what stands of the source -/
theorem turn_enumX {P : Program} {w : World} {K : PySem.W.Frag} {elts : List Expr} {kk : Nat} {tpos : Pos} (e it : Addr) (xs : List V) (G : Hp → Prop) (src : List Addr) (St0 : Nat → Heap → Prop) (hei : e ≠ it)
    (hD : ∀ (X : Cx) pins σ H s, X.K = K → Inv X pins σ H s → G H → (∃ c old, IsEnum s.heap e it c old) → ∃ (C : Heap → Prop) (Pv : Nat → Value → Prop), C s.heap ∧ e ∉ src ∧
      (∀ A : Around, A.handled = none → Draws X.prog X.w A it (it :: src) xs.length Pv (fun i h => St0 i h ∧ C h)) ∧ ∀ i u, Pv i u → ∃ x, xs[i]? = some x ∧ RelV x u)
    (hobj : ∀ i h, St0 i h → ∃ o, h.get? it = some o ∧ ∀ v, o.data ≠ .cell v) (hat : ∀ i h h', St0 i h → (∀ o, h.get? it = some o → h'.get? it = some o) → St0 i h') :
    Turn P w K (.Tuple elts kk tpos) (IteX xs G) [e, it] e (fun i h => (∃ old, IsEnum h e it ((i : Nat) : Int) old) ∧ St0 i h) where
  mem := List.mem_cons_self
  obj := fun i h ⟨⟨old, he⟩, hs⟩ b hb => by
    rcases List.mem_cons.mp hb with rfl | hb
    · exact ⟨_, he, fun v q => by cases q⟩
    · rcases List.mem_cons.mp hb with rfl | hb
      · exact hobj i h hs
      · cases hb
  keep := fun i h h' ⟨⟨old, he⟩, hi⟩ k => ⟨⟨old, k e List.mem_cons_self _ he⟩, hat i h h' hi fun o q => k it (List.mem_cons_of_mem _ List.mem_cons_self) o q⟩
  item := fun X hP hw hK hc i pins s σ H E I hf ⟨⟨old, he⟩, hs⟩ ⟨hG, hlt⟩ => by
    subst hP hw
    obtain ⟨C, Pv, hC, hes, D, hv⟩ := hD X pins σ H s hK I hG ⟨_, _, he⟩
    have le : e < s.heap.objs.size := Heap.lt_size he
    have li : it < s.heap.objs.size := let ⟨_, q, _⟩ := hobj i _ hs; Heap.lt_size q
    refine wpAny_pyNext_enum_itemC (D X.A.in1 (I.ok.hd hc)) he ⟨hs, hC⟩ hlt hei (fun z => (List.mem_cons.mp z).elim hei hes) fun u h1 tk pu ho hs1 hT hsz hk => ?_
    obtain ⟨x, hx, ru⟩ := hv i u pu
    refine ⟨_, rfl, wpAny_letOwnedTupleGo_enum (s := { s with heap := h1, toks := tk + 1 }) ho fun h2 he2 sb => ?_⟩
    have hT2 : h2.get? s.heap.objs.size = some { cls := .type "tuple", data := .seq #[.int i tk, u] } := (sb.2 _ (Nat.ne_of_gt le)).trans hT
    have J : Inv X pins σ (upd H s.heap.objs.size (.tup [.int (i : Nat), x])) { s with heap := h2, toks := tk + 1 } := by
      refine I.turnedNew (ch := [e, it]) (fun b ob hb q => ?_) hf (Nat.le_refl _) ⟨(by show 2 ≤ sizeLine; decide), [.int i tk, u], .cons ⟨_, rfl⟩ (.cons ru .nil), ⟨_, hT2, rfl, _, rfl⟩⟩
      have n1 : b ≠ e := fun z => hb (by rw [z]; exact List.mem_cons_self)
      have n2 : b ≠ it := fun z => hb (by rw [z]; exact List.mem_cons_of_mem _ List.mem_cons_self)
      exact (sb.2 b n1).trans (hk b ob n1 n2 q)
    refine ⟨.ref s.heap.objs.size, _, J, rfl, ⟨_, x, rfl, I.hok.fresh (Nat.le_refl _), rfl, hx⟩, ⟨⟨u, ?_⟩, hat _ _ _ hs1.1 fun o q => (sb.2 it (Ne.symm hei)).trans q⟩, fun b hb => ?_⟩
    · have q : ((i + 1 : Nat) : Int) = (i : Int) + 1 := by omega
      rw [q]
      exact he2
    · have lb : b < s.heap.objs.size := by
        rcases List.mem_cons.mp hb with rfl | hb
        · exact le
        · rcases List.mem_cons.mp hb with rfl | hb
          · exact li
          · cases hb
      rw [upd_ne (Nat.ne_of_lt lb)]
      exact (hf b hb).1
  done := fun X hP hw hK hc i pins s σ H E I hf ⟨⟨old, he⟩, hs⟩ ⟨hG, hge⟩ => by
    subst hP hw
    obtain ⟨C, Pv, hC, hes, D, hv⟩ := hD X pins σ H s hK I hG ⟨_, _, he⟩
    obtain ⟨f0, f1, _, f3, f4, f5⟩ := hf it (List.mem_cons_of_mem _ List.mem_cons_self)
    subst hge
    exact wpAny_pyNext_enum_endD (D X.A.in1 (I.ok.hd hc)) he ⟨hs, hC⟩ fun h1 eb => ⟨rfl, I.turned (t' := s.toks) (fun b o hb q => eb b o hb q) f0 f1 f3 f4 f5⟩
  self := fun A i s Q E ⟨⟨_, he⟩, _⟩ h => wpAny_pyIter_enum he h
/-- the tuple's place is not the enumerate's -/
theorem enum_tup {h : Heap} {e it a : Addr} {its : Array Value} (he : ∃ c old, IsEnum h e it c old) (ht : IsTup h a its) : e ≠ a := by
  rintro rfl
  obtain ⟨c, old, he⟩ := he
  obtain ⟨o, ho, hc, _⟩ := ht
  have he : h.get? e = some _ := he
  rw [ho] at he
  cases Option.some.inj he
  exact absurd (Value.type.inj hc) (by decide)
def iEnumT (K : PySem.W.Frag) (ta : TA) : TI := fun σ H R => ta σ H fun vs H1 => ∃ a xs, vs = [.ref a] ∧ SqT K H1 a xs ∧ R (IteX xs fun H => SqT K H a xs) H1
def iEnumS (ta : TA) : TI := fun σ H R => ta σ H fun vs H1 => ∃ x : Str, vs = [.str x] ∧ R (IteX (x.cps.toList.map fun c => V.str ⟨#[c]⟩) fun _ => True) H1
section
variable {X : Cx} {e : Expr} {ta : TA} {p pos tpos : Pos} {elts : List Expr} {kk : Nat}
theorem pi_enumT (hg : Gl X "enumerate") (hm : X.mg "enumerate" = none) (ha : PA X [e] ta) (hs : starEach [e] X.env = [(false, eval e X.env)] := by rfl) :
    PI X (.Tuple elts kk tpos) (.Call (.Name "enumerate" p) [e] [] pos) (iEnumT X.K ta) := by
  refine ⟨fun pins s σ H R I h => Call_ (ld_blt I hg hm boot_enumerate (PyProof.Rows.callWith_type1 (thn (ha.run pos pins s σ H _ I h) fun us s1 ⟨vs, H1, I1, r1, a, xs, ex, hq, q⟩ => ?_) hs rfl))⟩
  subst ex
  obtain ⟨u, rfl, ru⟩ := vals1 r1
  cases ru
  obtain ⟨its, rv, ht, hz⟩ := I1.tuple hq
  refine enum_begins1 (begins_tuple a its.toArray) ht fun h1 he hit hsz hk => wpAny_pyIter_enum he ?_
  have J : Inv X pins σ H1 { s1 with heap := h1 } := I1.kept (t' := s1.toks) hk
  refine ⟨s1.heap.objs.size + 1, [s1.heap.objs.size + 1, s1.heap.objs.size], _, _, H1, rfl, J,
    turn_enumX (s1.heap.objs.size + 1) s1.heap.objs.size xs (fun H => SqT X.K H a xs) [a] (fun i h => h.IsTupleIter s1.heap.objs.size a i) (Nat.succ_ne_self _) (fun Y pins' σ' H' s' hK I' hG he' => ?_) (fun i h ⟨o, q1, _, q2⟩ => ⟨o, q1, fun v z => by rw [q2] at z; cases z⟩) (fun i h h' st k => st.at k),
    ⟨⟨.none, he⟩, ⟨_, hit, rfl, rfl⟩⟩, fun b hb => ?_, q⟩
  · have hG : SqT Y.K H' a xs := by rw [hK]; exact hG
    obtain ⟨its', rv', ht', _⟩ := I'.tuple hG
    have lv := rv'.length
    have na : a ≠ s1.heap.objs.size := by
      obtain ⟨o, ho, _⟩ := ht
      exact Nat.ne_of_lt (Heap.lt_size ho)
    refine ⟨fun h => h.IsTuple a its'.toArray, fun i v => its'.toArray[i]? = some v, ht', fun z => enum_tup he' ht' (List.mem_singleton.mp z), fun A hA => ?_, fun i u hu => ?_⟩
    · have := Draws.tuple (prog := Y.prog) (w := Y.w) hA s1.heap.objs.size a na its'.toArray
      rw [show its'.toArray.size = xs.length by rw [List.size_toArray, lv]] at this
      exact this
    · have hu : its'[i]? = some u := by simpa using hu
      cases q3 : xs[i]? with
      | none => rw [rv'.none_of q3] at hu; cases hu
      | some x =>
        obtain ⟨u', h1, h2⟩ := rv'.get q3
        rw [h1] at hu; cases hu
        exact ⟨x, rfl, h2⟩
  · refine I1.fpOk (?_ : s1.heap.objs.size ≤ b) (I1.hok.fresh ?_) <;>
    · rcases List.mem_cons.mp hb with rfl | hb
      · exact Nat.le_add_right _ _
      · rcases List.mem_cons.mp hb with rfl | hb
        · exact Nat.le_refl _
        · cases hb
theorem pi_enumS (hg : Gl X "enumerate") (hm : X.mg "enumerate" = none) (ha : PA X [e] ta) (hs : starEach [e] X.env = [(false, eval e X.env)] := by rfl) :
    PI X (.Tuple elts kk tpos) (.Call (.Name "enumerate" p) [e] [] pos) (iEnumS ta) := by
  refine ⟨fun pins s σ H R I h => Call_ (ld_blt I hg hm boot_enumerate (PyProof.Rows.callWith_type1 (thn (ha.run pos pins s σ H _ I h) fun us s1 ⟨vs, H1, I1, r1, x, ex, q⟩ => ?_) hs rfl))⟩
  subst ex
  obtain ⟨u, rfl, ru⟩ := vals1 r1
  obtain ⟨t, rfl⟩ := ru
  refine enum_begins1 (begins_text x t) trivial fun h1 he hit hsz hk => wpAny_pyIter_enum he ?_
  have J : Inv X pins σ H1 { s1 with heap := h1 } := I1.kept (t' := s1.toks) hk
  refine ⟨s1.heap.objs.size + 1, [s1.heap.objs.size + 1, s1.heap.objs.size], _, _, H1, rfl, J,
    turn_enumX (s1.heap.objs.size + 1) s1.heap.objs.size _ (fun _ => True) [] (fun i h => h.IsStrIter s1.heap.objs.size (strIterType x) x t i) (Nat.succ_ne_self _) (fun Y pins' σ' H' s' hK I' hG he' => ?_) (fun i h ⟨o, q1, _, q2⟩ => ⟨o, q1, fun v z => by rw [q2] at z; cases z⟩) (fun i h h' st k => let ⟨o, ho, r⟩ := st; ⟨o, k o ho, r⟩),
    ⟨⟨.none, he⟩, ⟨_, hit, rfl, rfl⟩⟩, fun b hb => ?_, q⟩
  · refine ⟨fun _ => True, fun i v => ∃ c u, x.cps[i]? = some c ∧ v = .str ⟨#[c]⟩ u, trivial, List.not_mem_nil, fun A hA => ?_, fun i u hu => ?_⟩
    · have := Draws.text (prog := Y.prog) (w := Y.w) hA s1.heap.objs.size x t
      rw [show x.cps.size = (x.cps.toList.map fun c => V.str ⟨#[c]⟩).length by simp] at this
      exact ⟨fun i h z => this.live i h z.1, fun i h h' z k => ⟨this.frame i h h' z.1 k, trivial⟩, fun i s Q E hi z k => this.item i s Q E hi z.1 fun y h' tk p st sb => k y h' tk p ⟨st, trivial⟩ sb, fun s Q E z k => this.done s Q E z.1 k⟩
    · obtain ⟨c, u', hc, rfl⟩ := hu
      refine ⟨.str ⟨#[c]⟩, ?_, ⟨_, rfl⟩⟩
      rw [List.getElem?_map, show x.cps.toList[i]? = some c by simpa using hc]; rfl
  · refine I1.fpOk (?_ : s1.heap.objs.size ≤ b) (I1.hok.fresh ?_) <;>
    · rcases List.mem_cons.mp hb with rfl | hb
      · exact Nat.le_add_right _ _
      · rcases List.mem_cons.mp hb with rfl | hb
        · exact Nat.le_refl _
        · cases hb
end

/-! ### what a for, a comprehension walks, over data -/
def iL (te : RE) : RI := fun ρ M P => te ρ M fun d M1 => match d with
  | .lst ds => P ds M1
  | _ => False
def iT (te : RE) : RI := fun ρ M P => te ρ M fun d M1 => match d with
  | .tup ds => P ds M1
  | _ => False
def chD (x : Str) : List D := x.cps.toList.map fun c => D.str ⟨#[c]⟩
def iS (te : RE) : RI := fun ρ M P => te ρ M fun d M1 => match d with
  | .str x => P (chD x) M1
  | _ => False
def rgD (lo : Int) (n : Nat) : List D := (List.range n).map fun i => D.int (lo + (i : Nat))
def iR1 (te : RE) : RI := fun ρ M P => te ρ M fun d M1 => match d with
  | .int j => -(2 ^ 62) ≤ j ∧ j < 2 ^ 62 ∧ P (rgD 0 j.toNat) M1
  | _ => False
def iR2 (ta tb : RE) : RI := fun ρ M P => ta ρ M fun d M1 => tb ρ M1 fun e M2 => match d, e with
  | .int i, .int j => (-(2 ^ 62) ≤ i ∧ i < 2 ^ 62 ∧ -(2 ^ 62) ≤ j ∧ j < 2 ^ 62) ∧ P (rgD i (j - i).toNat) M2
  | _, _ => False
/-- range(i, j, -1) -/
def dnD (lo : Int) (n : Nat) : List D := (List.range n).map fun i => D.int (lo - (i : Nat))
def iR3 (ta tb tc : RE) : RI := fun ρ M P => ta ρ M fun d M1 => tb ρ M1 fun e M2 => tc ρ M2 fun f M3 => match d, e, f with
  | .int i, .int j, .int c => c = -1 ∧ (-(2 ^ 62) ≤ i ∧ i < 2 ^ 62 ∧ -(2 ^ 62) ≤ j ∧ j < 2 ^ 62) ∧ P (dnD i (i - j).toNat) M3
  | _, _, _ => False
def enD (ds : List D) : List D := ds.mapIdx fun i d => D.tup [.int (i : Nat), d]
def iEL (te : RE) : RI := fun ρ M P => te ρ M fun d M1 => match d with
  | .lst ds => P (enD ds) M1
  | _ => False
def iET (te : RE) : RI := fun ρ M P => te ρ M fun d M1 => match d with
  | .tup ds => P (enD ds) M1
  | _ => False
def iES (te : RE) : RI := fun ρ M P => te ρ M fun d M1 => match d with
  | .str x => P (enD (chD x)) M1
  | _ => False
def zpD (ds es : List D) : List D := List.zipWith (fun a b => D.tup [a, b]) ds es
def iZ (ta tb : RE) : RI := fun ρ M P => ta ρ M fun d M1 => tb ρ M1 fun e M2 => match d, e with
  | .tup ds, .tup es => P (zpD ds es) M2
  | .lst ds, .lst es => P (zpD ds es) M2
  | _, _ => False
section
variable {K : PySem.W.Frag} {F : Hp}
theorem yl_list {a : Addr} {xs : List V} {ds : List D} (h : F a = some (.lst xs)) (r : Reps K F xs ds) : Yields K F (Itl K a) ds where
  go := fun i H s hi => ⟨xs, xs[i]'(by rw [r.length]; exact hi), SqL.of (s _ _ h), List.getElem?_eq_getElem _⟩
  stop := fun H s => ⟨xs, SqL.of (s _ _ h), by rw [r.length]; exact Nat.le_refl _⟩
  yld := fun i H x H' F' M d w s hd ⟨e, hx⟩ => by
    subst e
    obtain ⟨v, hv, rv⟩ := r.get hd
    cases Option.some.inj ((hx xs (SqL.of (w.sub _ _ (s _ _ h)))).symm.trans hv)
    exact ⟨F', Go.refl w, rv.mono s⟩
theorem yl_tup {a : Addr} {xs : List V} {ds : List D} (h : SqT K F a xs) (r : Reps K F xs ds) : Yields K F (Itt K a) ds where
  go := fun i H s hi => ⟨xs, xs[i]'(by rw [r.length]; exact hi), Same.tup s h, List.getElem?_eq_getElem _⟩
  stop := fun H s => ⟨xs, Same.tup s h, by rw [r.length]; exact Nat.le_refl _⟩
  yld := fun i H x H' F' M d w s hd ⟨e, hx⟩ => by
    subst e
    obtain ⟨v, hv, rv⟩ := r.get hd
    cases Option.some.inj ((hx xs (Same.tup w.sub (Same.tup s h))).symm.trans hv)
    exact ⟨F', Go.refl w, rv.mono s⟩
theorem yl_str {x : Str} : Yields K F (Its x) (chD x) where
  go := fun i H s hi => by show i < x.cps.size; simpa [chD] using hi
  stop := fun H s => by show x.cps.size ≤ (chD x).length; simp [chD]
  yld := fun i H v H' F' M d w s hd ⟨e, c, hc, hv⟩ => by
    subst e hv
    unfold chD at hd
    rw [List.getElem?_map, show x.cps.toList[i]? = some c by simpa using hc] at hd
    cases Option.some.inj hd
    exact ⟨F', Go.refl w, .str _⟩
theorem yl_rng {lo : Int} {n : Nat} : Yields K F (Itr lo n) (rgD lo n) where
  go := fun i H s hi => by show i < n; simpa [rgD] using hi
  stop := fun H s => by show n ≤ (rgD lo n).length; simp [rgD]
  yld := fun i H v H' F' M d w s hd ⟨e, hv⟩ => by
    subst e hv
    have hi : i < n := by
      have := (List.getElem?_eq_some_iff.mp hd).1
      simpa [rgD] using this
    unfold rgD at hd
    rw [List.getElem?_map, List.getElem?_range hi] at hd
    cases Option.some.inj hd
    exact ⟨F', Go.refl w, .int _⟩
theorem yl_dn {lo : Int} {n : Nat} : Yields K F (Itc lo (-1) n) (dnD lo n) where
  go := fun i H s hi => by show i < n; simpa [dnD] using hi
  stop := fun H s => by show n ≤ (dnD lo n).length; simp [dnD]
  yld := fun i H v H' F' M d w s hd ⟨e, hv⟩ => by
    subst e hv
    have hi : i < n := by
      have := (List.getElem?_eq_some_iff.mp hd).1
      simpa [dnD] using this
    unfold dnD at hd
    rw [List.getElem?_map, List.getElem?_range hi] at hd
    cases Option.some.inj hd
    refine ⟨F', Go.refl w, ?_⟩
    have q : lo + (i : Int) * (-1) = lo - (i : Int) := by omega
    rw [q]
    exact .int _
/-- a new pair is laid and yielded -/
theorem yl_pair {F' : Hp} {M : Mem} {H : Hp} {T : Addr} {x y : V} {d e : D} (w : Wld K F' M H) (hT : H T = none) (rx : Rep K F' x d) (ry : Rep K F' y e) : ∃ F'', Go K F' M H F'' M (upd H T (.tup [x, y])) ∧ Rep K F'' (.ref T) (.tup [d, e]) := by
  have g := Go.newF w hT (.tup [x, y])
  exact ⟨_, g, .tup (.inl (.inl upd_same)) (.cons (rx.mono g.up) (.cons (ry.mono g.up) .nil))⟩
theorem en_get {ds : List D} {i : Nat} {d : D} (h : (enD ds)[i]? = some d) : ∃ e, ds[i]? = some e ∧ d = .tup [.int (i : Nat), e] := by
  unfold enD at h
  rw [List.getElem?_mapIdx] at h
  cases q : ds[i]? with
  | none => rw [q] at h; cases h
  | some e => rw [q] at h; cases Option.some.inj h; exact ⟨e, rfl, rfl⟩
theorem yl_enL {a : Addr} {xs : List V} {ds : List D} (h : F a = some (.lst xs)) (r : Reps K F xs ds) : Yields K F (Ite K a) (enD ds) where
  go := fun i H s hi => ⟨xs, xs[i]'(by rw [r.length]; simpa [enD] using hi), SqL.of (s _ _ h), List.getElem?_eq_getElem _⟩
  stop := fun H s => ⟨xs, SqL.of (s _ _ h), by rw [r.length]; simp [enD]⟩
  yld := fun i H x H' F' M d w s hd ⟨T, y, ex, hT, eH, hx⟩ => by
    subst ex eH
    obtain ⟨e, he, rfl⟩ := en_get hd
    obtain ⟨v, hv, rv⟩ := r.get he
    cases Option.some.inj ((hx xs (SqL.of (w.sub _ _ (s _ _ h)))).symm.trans hv)
    exact yl_pair w hT (.int _) (rv.mono s)
theorem yl_enX {G : Hp → Prop} {xs : List V} {ds : List D} (hG : ∀ H, Same F H → G H) (r : Reps K F xs ds) : Yields K F (IteX xs G) (enD ds) where
  go := fun i H s hi => ⟨hG H s, by rw [r.length]; simpa [enD] using hi⟩
  stop := fun H s => ⟨hG H s, by rw [r.length]; simp [enD]⟩
  yld := fun i H x H' F' M d w s hd ⟨T, y, ex, hT, eH, hx⟩ => by
    subst ex eH
    obtain ⟨e, he, rfl⟩ := en_get hd
    obtain ⟨v, hv, rv⟩ := r.get he
    cases Option.some.inj (hx.symm.trans hv)
    exact yl_pair w hT (.int _) (rv.mono s)
theorem zp_get {ds es : List D} {i : Nat} {d : D} (h : (zpD ds es)[i]? = some d) : ∃ a b, ds[i]? = some a ∧ es[i]? = some b ∧ d = .tup [a, b] := by
  unfold zpD at h
  rw [List.getElem?_zipWith] at h
  cases q : ds[i]? with
  | none => rw [q] at h; cases h
  | some a =>
    cases q2 : es[i]? with
    | none => rw [q, q2] at h; cases h
    | some b => rw [q, q2] at h; cases Option.some.inj h; exact ⟨a, b, rfl, rfl, rfl⟩
theorem yl_zL {a b : Addr} {xs ys : List V} {ds es : List D} (h : F a = some (.lst xs)) (r : Reps K F xs ds) (h2 : F b = some (.lst ys)) (r2 : Reps K F ys es) : Yields K F (Itz K a b) (zpD ds es) where
  go := fun i H s hi => by
    have hl : i < xs.length ∧ i < ys.length := by rw [r.length, r2.length]; simp [zpD] at hi; omega
    exact ⟨xs, ys, xs[i]'hl.1, ys[i]'hl.2, SqL.of (s _ _ h), SqL.of (s _ _ h2), List.getElem?_eq_getElem _, List.getElem?_eq_getElem _⟩
  stop := fun H s => ⟨xs, ys, SqL.of (s _ _ h), SqL.of (s _ _ h2), by rw [r.length, r2.length]; simp [zpD]; omega⟩
  yld := fun i H x H' F' M d w s hd ⟨T, u, v, ex, hT, eH, hu, hv⟩ => by
    subst ex eH
    obtain ⟨e, f, he, hf, rfl⟩ := zp_get hd
    obtain ⟨v1, q1, p1⟩ := r.get he
    obtain ⟨v2, q2, p2⟩ := r2.get hf
    cases Option.some.inj ((hu xs (SqL.of (w.sub _ _ (s _ _ h)))).symm.trans q1)
    cases Option.some.inj ((hv ys (SqL.of (w.sub _ _ (s _ _ h2)))).symm.trans q2)
    exact yl_pair w hT (p1.mono s) (p2.mono s)
theorem yl_zT {a b : Addr} {xs ys : List V} {ds es : List D} (h : SqT K F a xs) (r : Reps K F xs ds) (h2 : SqT K F b ys) (r2 : Reps K F ys es) : Yields K F (RZ.ItzT K a b) (zpD ds es) where
  go := fun i H s hi => by
    have hl : i < xs.length ∧ i < ys.length := by rw [r.length, r2.length]; simp [zpD] at hi; omega
    exact ⟨xs, ys, xs[i]'hl.1, ys[i]'hl.2, Same.tup s h, Same.tup s h2, List.getElem?_eq_getElem _, List.getElem?_eq_getElem _⟩
  stop := fun H s => ⟨xs, ys, Same.tup s h, Same.tup s h2, by rw [r.length, r2.length]; simp [zpD]; omega⟩
  yld := fun i H x H' F' M d w s hd ⟨T, u, v, ex, hT, eH, hu, hv⟩ => by
    subst ex eH
    obtain ⟨e, f, he, hf, rfl⟩ := zp_get hd
    obtain ⟨v1, q1, p1⟩ := r.get he
    obtain ⟨v2, q2, p2⟩ := r2.get hf
    cases Option.some.inj ((hu xs (Same.tup w.sub (Same.tup s h))).symm.trans q1)
    cases Option.some.inj ((hv ys (Same.tup w.sub (Same.tup s h2))).symm.trans q2)
    exact yl_pair w hT (p1.mono s) (p2.mono s)
end
section
variable {X : Cx} {tg e e1 e2 e3 : Expr} {te t1 t2 t3 : RE} {p pos tpos : Pos} {elts : List Expr} {kk : Nat}
theorem di_list (h : DE X e te) : DI X tg e (iL te) :=
  PI.imp (pi_list h) fun σ H R ⟨ρ, F, M, P, er, w, h, k⟩ => ⟨ρ, F, M, _, er, w, h, fun d M1 x F1 H1 p1 g1 r1 => by
    cases r1 with
    | lst q r => exact ⟨_, rfl, ⟨_, SqL.of (g1.w.sub _ _ q)⟩, k _ M1 F1 H1 _ p1 g1 (yl_list q r)⟩
    | _ => exact p1.elim⟩
theorem di_tup (h : DE X e te) : DI X tg e (iT te) :=
  PI.imp (pi_tup h) fun σ H R ⟨ρ, F, M, P, er, w, h, k⟩ => ⟨ρ, F, M, _, er, w, h, fun d M1 x F1 H1 p1 g1 r1 => by
    cases r1 with
    | tup q r => exact ⟨_, rfl, ⟨_, Same.tup g1.w.sub q⟩, k _ M1 F1 H1 _ p1 g1 (yl_tup q r)⟩
    | _ => exact p1.elim⟩
theorem di_str (h : DE X e te) : DI X tg e (iS te) :=
  PI.imp (pi_str h) fun σ H R ⟨ρ, F, M, P, er, w, h, k⟩ => ⟨ρ, F, M, _, er, w, h, fun d M1 x F1 H1 p1 g1 r1 => by
    cases r1 with
    | str x => exact ⟨x, rfl, k _ M1 F1 H1 _ p1 g1 yl_str⟩
    | _ => exact p1.elim⟩
theorem di_range1 (hg : Gl X "range") (hm : X.mg "range" = none) (h : DE X e te) (hs : starEach [e] X.env = [(false, eval e X.env)] := by rfl) (hs1 : starEach [e] X.env = (false, eval e X.env) :: starEach [] X.env := by rfl) : DI X tg (.Call (.Name "range" p) [e] [] pos) (iR1 te) :=
  PI.imp (pi_range1 hg hm (pa_cons h pa_nil hs1) hs) fun σ H R ⟨ρ, F, M, P, er, w, h, k⟩ => ⟨ρ, F, M, _, er, w, h, fun d M1 x F1 H1 p1 g1 r1 => by
    cases r1 with
    | int j => exact ⟨j, rfl, p1.1, p1.2.1, k _ M1 F1 H1 _ p1.2.2 g1 yl_rng⟩
    | _ => exact p1.elim⟩
theorem di_range2 (hg : Gl X "range") (hm : X.mg "range" = none) (h1 : DE X e1 t1) (h2 : DE X e2 t2) (hs : starEach [e1, e2] X.env = [(false, eval e1 X.env), (false, eval e2 X.env)] := by rfl) (hs2 : starEach [e2] X.env = [(false, eval e2 X.env)] := by rfl)
    (hs3 : starEach [e1, e2] X.env = (false, eval e1 X.env) :: starEach [e2] X.env := by rfl) (hs4 : starEach [e2] X.env = (false, eval e2 X.env) :: starEach [] X.env := by rfl) : DI X tg (.Call (.Name "range" p) [e1, e2] [] pos) (iR2 t1 t2) :=
  PI.imp (pi_range2 hg hm (pa_cons h1 (pa_cons h2 pa_nil hs4) hs3) hs hs2) fun σ H R ⟨ρ, F, M, P, er, w, h, k⟩ => ⟨ρ, F, M, _, er, w, h, fun d M1 x F1 H1 p1 g1 r1 => ⟨ρ, F1, M1, _, er.mono g1.up, g1.w, p1, fun e M2 y F2 H2 p2 g2 r2 => by
    cases r1 with
    | int i =>
      cases r2 with
      | int j => exact ⟨i, j, rfl, p2.1, k _ M2 F2 H2 _ p2.2 (g1.trans g2) yl_rng⟩
      | _ => exact p2.elim
    | _ => exact p2.elim⟩⟩
theorem di_range3 (hg : Gl X "range") (hm : X.mg "range" = none) (h1 : DE X e1 t1) (h2 : DE X e2 t2) (h3 : DE X e3 t3)
    (hs3 : starEach [e1, e2, e3] X.env = (false, eval e1 X.env) :: starEach [e2, e3] X.env := by rfl) (hs4 : starEach [e2, e3] X.env = (false, eval e2 X.env) :: starEach [e3] X.env := by rfl) (hs5 : starEach [e3] X.env = (false, eval e3 X.env) :: starEach [] X.env := by rfl) (hpl : (backTo pos (starEach [e2, e3] X.env)).any (·.1) = false := by rfl) : DI X tg (.Call (.Name "range" p) [e1, e2, e3] [] pos) (iR3 t1 t2 t3) :=
  PI.imp (pi_range3 hg hm (pa_cons h1 (pa_cons h2 (pa_cons h3 pa_nil hs5) hs4) hs3) hs3 hpl) fun σ H R ⟨ρ, F, M, P, er, w, h, k⟩ => ⟨ρ, F, M, _, er, w, h, fun d M1 x F1 H1 p1 g1 r1 => ⟨ρ, F1, M1, _, er.mono g1.up, g1.w, p1, fun e M2 y F2 H2 p2 g2 r2 => ⟨ρ, F2, M2, _, er.mono (g1.trans g2).up, g2.w, p2, fun f M3 z F3 H3 p3 g3 r3 => by
    cases r1 with
    | int i =>
      cases r2 with
      | int j =>
        cases r3 with
        | int c =>
          obtain ⟨ec, ⟨b1, b2, b3, b4⟩, p3⟩ := p3
          subst ec
          exact ⟨i, j, -1, (i - j).toNat, rfl, RgC.neg b1 b2 b3 b4, k _ M3 F3 H3 _ p3 ((g1.trans g2).trans g3) yl_dn⟩
        | _ => exact p3.elim
      | _ => cases r3 <;> exact p3.elim
    | _ => cases r2 <;> cases r3 <;> exact p3.elim⟩⟩⟩
theorem di_enumL (hg : Gl X "enumerate") (hm : X.mg "enumerate" = none) (h : DE X e te) (hs : starEach [e] X.env = [(false, eval e X.env)] := by rfl) (hs1 : starEach [e] X.env = (false, eval e X.env) :: starEach [] X.env := by rfl) : DI X (.Tuple elts kk tpos) (.Call (.Name "enumerate" p) [e] [] pos) (iEL te) :=
  PI.imp (pi_enum hg hm (pa_cons h pa_nil hs1) hs) fun σ H R ⟨ρ, F, M, P, er, w, h, k⟩ => ⟨ρ, F, M, _, er, w, h, fun d M1 x F1 H1 p1 g1 r1 => by
    cases r1 with
    | lst q r => exact ⟨_, _, rfl, SqL.of (g1.w.sub _ _ q), k _ M1 F1 H1 _ p1 g1 (yl_enL q r)⟩
    | _ => exact p1.elim⟩
theorem di_enumT (hg : Gl X "enumerate") (hm : X.mg "enumerate" = none) (h : DE X e te) (hs : starEach [e] X.env = [(false, eval e X.env)] := by rfl) (hs1 : starEach [e] X.env = (false, eval e X.env) :: starEach [] X.env := by rfl) : DI X (.Tuple elts kk tpos) (.Call (.Name "enumerate" p) [e] [] pos) (iET te) :=
  PI.imp (pi_enumT hg hm (pa_cons h pa_nil hs1) hs) fun σ H R ⟨ρ, F, M, P, er, w, h, k⟩ => ⟨ρ, F, M, _, er, w, h, fun d M1 x F1 H1 p1 g1 r1 => by
    cases r1 with
    | tup q r => exact ⟨_, _, rfl, Same.tup g1.w.sub q, k _ M1 F1 H1 _ p1 g1 (yl_enX (fun H s => Same.tup s q) r)⟩
    | _ => exact p1.elim⟩
theorem di_enumS (hg : Gl X "enumerate") (hm : X.mg "enumerate" = none) (h : DE X e te) (hs : starEach [e] X.env = [(false, eval e X.env)] := by rfl) (hs1 : starEach [e] X.env = (false, eval e X.env) :: starEach [] X.env := by rfl) : DI X (.Tuple elts kk tpos) (.Call (.Name "enumerate" p) [e] [] pos) (iES te) :=
  PI.imp (pi_enumS hg hm (pa_cons h pa_nil hs1) hs) fun σ H R ⟨ρ, F, M, P, er, w, h, k⟩ => ⟨ρ, F, M, _, er, w, h, fun d M1 x F1 H1 p1 g1 r1 => by
    cases r1 with
    | str x =>
      have rp : Reps X.K F1 (x.cps.toList.map fun c => V.str ⟨#[c]⟩) (chD x) := by
        unfold chD
        induction x.cps.toList with
        | nil => exact .nil
        | cons c r ih => exact .cons (.str _) ih
      exact ⟨x, rfl, k _ M1 F1 H1 _ p1 g1 (yl_enX (fun _ _ => trivial) rp)⟩
    | _ => exact p1.elim⟩
theorem di_zip (hg : Gl X "zip") (hm : X.mg "zip" = none) (h1 : DE X e1 t1) (h2 : DE X e2 t2) (hs : starEach [e1, e2] X.env = (false, eval e1 X.env) :: starEach [e2] X.env := by rfl) (hpl : (backTo pos (starEach [e2] X.env)).any (·.1) = false := by rfl)
    (hs4 : starEach [e2] X.env = (false, eval e2 X.env) :: starEach [] X.env := by rfl) : DI X (.Tuple elts kk tpos) (.Call (.Name "zip" p) [e1, e2] [] pos) (iZ t1 t2) :=
  PI.imp (RZ.pi_zipA hg hm (pa_cons h1 (pa_cons h2 pa_nil hs4) hs) hs hpl) fun σ H R ⟨ρ, F, M, P, er, w, h, k⟩ => ⟨ρ, F, M, _, er, w, h, fun d M1 x F1 H1 p1 g1 r1 => ⟨ρ, F1, M1, _, er.mono g1.up, g1.w, p1, fun e M2 y F2 H2 p2 g2 r2 => by
    cases r1 with
    | tup q r =>
      cases r2 with
      | tup q2 r2 => exact ⟨_, _, _, _, rfl, .inr ⟨Same.tup (g2.up.trans g2.w.sub) q, Same.tup g2.w.sub q2, k _ M2 F2 H2 _ p2 (g1.trans g2) (yl_zT (Same.tup g2.up q) (r.mono g2.up) q2 r2)⟩⟩
      | _ => exact p2.elim
    | lst q r =>
      cases r2 with
      | lst q2 r2 => exact ⟨_, _, _, _, rfl, .inl ⟨SqL.of (g2.w.sub _ _ (g2.up _ _ q)), SqL.of (g2.w.sub _ _ q2), k _ M2 F2 H2 _ p2 (g1.trans g2) (yl_zL (g2.up _ _ q) (r.mono g2.up) q2 r2)⟩⟩
      | _ => exact p2.elim
    | _ => exact p2.elim⟩⟩
end
end DL
-- part DL7
set_option Elab.async false
set_option linter.all false
set_option maxRecDepth 100000
set_option maxHeartbeats 4000000
/-! defs as the head tells them -/
namespace DL
open PySem PySem.Spec PyProof.Rows L2
section
variable {P : Program} {w : World} {K : PySem.W.Frag} {mg : Str → Option Value} {base : Heap}
abbrev FnP (K : PySem.W.Frag) (x : Str) (st : Stmt) (f : Addr) (fd : FuncData) : Prop := FunD K x x (defArgs st) (defBody st) (defScope st) [] [] f fd
theorem fn_DD {x : Str} {st : Stmt} {f : Addr} {fd : FuncData} {N ps : List Str} {k : Nat} {R : RF} (F : FnP K x st f fd) (S : FnScope N ps (defScope st)) (len : ∀ ds M P, R ds M P → ds.length = ps.length)
    (body : ∀ (cdv : Value) (A : Around) (outer : List Env) (s : Shared) (H : Hp) (E : XK), Room k (A.deeper (envOfC x (defScope st) s.heap.objs.size f cdv)) →
      ∃ t : RS, DSs (cxOf CX0 P w K mg base N x (defScope st) f cdv A outer s H E).nox (defBody st) t ∧ ∀ ds M Q, R ds M Q → t { nx := fun _ M' => Q .non M', rt := Q } (startD N ds) M) : FnOk P w K mg base CX0 (k + 1) f fd ps (spD K R) := by
  refine F.ok S (fun vs H Q E ⟨F, M, ds, P', w, r, h, _⟩ => by rw [r.length]; exact len ds M P' h) (fun cdv A outer s H vs Q E hr h => ?_)
  obtain ⟨t, h1, h2⟩ := body cdv A outer s H E hr
  obtain ⟨F, M, ds, P', w, r, h, kk⟩ := h
  refine ⟨_, PSs.nox h1, startD N ds, F, M, _, start_rep r, w, h2 ds M P' h, ?_⟩
  exact ⟨fun ρ' M' σ' F' H' p g e => kk .non M' .non F' H' p g .non, kk, fun _ _ _ _ _ p => p.elim, fun _ _ _ _ _ p => p.elim⟩
/-- a def of the text as the top has left it -/
structure DefAtD (K : PySem.W.Frag) (mg : Str → Option Value) (x : Str) (st : Stmt) (ps : List Str) : Prop where
  ex : ∃ f fd, mg x = some (.ref f) ∧ FnP K x st f fd ∧ Binds K fd ps []
theorem calleeD {x : Str} {st : Stmt} {N ps : List Str} {k : Nat} {R : RF} (d : DefAtD K mg x st ps) (S : FnScope N ps (defScope st)) (len : ∀ ds M P, R ds M P → ds.length = ps.length)
    (body : ∀ (f : Addr) (cdv : Value) (A : Around) (outer : List Env) (s : Shared) (H : Hp) (E : XK), Room k (A.deeper (envOfC x (defScope st) s.heap.objs.size f cdv)) →
      ∃ t : RS, DSs (cxOf CX0 P w K mg base N x (defScope st) f cdv A outer s H E).nox (defBody st) t ∧ ∀ ds M Q, R ds M Q → t { nx := fun _ M' => Q .non M', rt := Q } (startD N ds) M) : Callee P w K mg base x ps (k + 1) R := by
  obtain ⟨f, fd, hm, F, hb⟩ := d.ex
  exact ⟨f, fd, hm, F.kp, hb, fn_DD F S len (body f)⟩
end
end DL
-- part DL8
set_option Elab.async false
set_option linter.all false
set_option maxRecDepth 100000
set_option maxHeartbeats 4000000
/-! sorted, list(text), a dict's display -/
namespace DL
open PySem PySem.Spec PyProof.Rows L2

/-! ### sorting, as plain Lean -/
section
variable {α : Type}
def ins (le : α → α → Bool) (x : α) : List α → List α
  | [] => [x]
  | y :: ys => if le x y then x :: y :: ys else y :: ins le x ys
def isort (le : α → α → Bool) : List α → List α
  | [] => []
  | x :: xs => ins le x (isort le xs)
theorem ins_perm (le : α → α → Bool) (x : α) : ∀ l : List α, (ins le x l).Perm (x :: l)
  | [] => List.Perm.refl _
  | y :: ys => by
    unfold ins
    split
    · exact List.Perm.refl _
    · exact ((ins_perm le x ys).cons y).trans (List.Perm.swap x y ys)
theorem isort_perm (le : α → α → Bool) : ∀ l : List α, (isort le l).Perm l
  | [] => List.Perm.refl _
  | x :: xs => (ins_perm le x _).trans ((isort_perm le xs).cons x)
structure TotB (le : α → α → Bool) : Prop where
  tot : ∀ x y, le x y = false → le y x = true
  tr : ∀ x y z, le x y = true → le y z = true → le x z = true
  anti : ∀ x y, le x y = true → le y x = true → x = y
theorem ins_sorted {le : α → α → Bool} (T : TotB le) (x : α) : ∀ {l : List α}, l.Pairwise (fun a b => le a b = true) → (ins le x l).Pairwise (fun a b => le a b = true)
  | [], _ => List.pairwise_singleton _ _
  | y :: ys, h => by
    obtain ⟨h1, h2⟩ := List.pairwise_cons.mp h
    unfold ins
    split
    · rename_i e
      refine List.pairwise_cons.mpr ⟨fun z hz => ?_, h⟩
      rcases List.mem_cons.mp hz with q | q
      · rw [q]; exact e
      · exact T.tr _ _ _ e (h1 z q)
    · rename_i e
      refine List.pairwise_cons.mpr ⟨fun z hz => ?_, ins_sorted T x h2⟩
      rcases List.mem_cons.mp ((ins_perm le x ys).mem_iff.mp hz) with q | q
      · rw [q]; exact T.tot _ _ (by simpa using e)
      · exact h1 z q
theorem isort_sorted {le : α → α → Bool} (T : TotB le) : ∀ l : List α, (isort le l).Pairwise (fun a b => le a b = true)
  | [] => List.Pairwise.nil
  | x :: xs => ins_sorted T x (isort_sorted T xs)
theorem sorted_uniq {le : α → α → Bool} (T : TotB le) : ∀ {l m : List α}, l.Perm m → l.Pairwise (fun a b => le a b = true) → m.Pairwise (fun a b => le a b = true) → l = m
  | [], m, p, _, _ => (List.Perm.eq_nil p.symm).symm
  | x :: l, [], p, _, _ => absurd p.length_eq (by simp)
  | x :: l, y :: m, p, h1, h2 => by
    obtain ⟨a1, a2⟩ := List.pairwise_cons.mp h1
    obtain ⟨b1, b2⟩ := List.pairwise_cons.mp h2
    have refl : ∀ z, le z z = true := fun z => by
      cases q : le z z with
      | true => rfl
      | false => exact absurd (T.tot z z q) (by rw [q]; decide)
    have e1 : le x y = true := by
      rcases List.mem_cons.mp (p.mem_iff.mpr (List.mem_cons_self (a := y) (l := m))) with q | q
      · rw [← q]; exact refl y
      · exact a1 y q
    have e2 : le y x = true := by
      rcases List.mem_cons.mp (p.mem_iff.mp (List.mem_cons_self (a := x) (l := l))) with q | q
      · rw [← q]; exact refl x
      · exact b1 x q
    have e := T.anti x y e1 e2
    subst e
    rw [sorted_uniq T p.cons_inv a2 b2]
theorem isort_uniq {le : α → α → Bool} (T : TotB le) {l m : List α} (p : m.Perm l) (h : m.Pairwise (fun a b => le a b = true)) : m = isort le l :=
  sorted_uniq T (p.trans (isort_perm le l).symm) h (isort_sorted T l)
theorem isort_congr {le : α → α → Bool} (T : TotB le) {l m : List α} (p : m.Perm l) : isort le m = isort le l :=
  isort_uniq T ((isort_perm le m).trans p) (isort_sorted T m)
end
def leI (x y : Int) : Bool := decide (x ≤ y)
theorem totI : TotB leI := ⟨fun x y h => by unfold leI at *; simp at *; omega, fun x y z h1 h2 => by unfold leI at *; simp at *; omega, fun x y h1 h2 => by unfold leI at *; simp at *; omega⟩
def leP (p q : Int × Int) : Bool := !SrtO.lexB q p
theorem leP_iff {p q : Int × Int} : leP p q = true ↔ ¬ (q.1 < p.1 ∨ (q.1 = p.1 ∧ q.2 < p.2)) := by
  unfold leP
  rw [Bool.not_eq_true', SrtO.lexB_no]
theorem totP : TotB leP := by
  refine ⟨fun x y h => ?_, fun x y z h1 h2 => ?_, fun x y h1 h2 => ?_⟩
  · have h : ¬ leP x y = true := by rw [h]; decide
    rw [leP_iff] at h ⊢; omega
  · rw [leP_iff] at *; omega
  · rw [leP_iff] at *
    apply Prod.ext <;> omega
def leS (x y : Str) : Bool := !ltCps y.cps.toList x.cps.toList
theorem leS_iff {x y : Str} : leS x y = true ↔ ¬ (y.cps.toList < x.cps.toList) := by
  unfold leS
  rw [ltCps_eq]
  simp
theorem str_ext' {x y : Str} (h : x.cps.toList = y.cps.toList) : x = y := by
  cases x; cases y
  simp only [Str.mk.injEq]
  exact Array.toList_inj.mp h
theorem totS : TotB leS := by
  refine ⟨fun x y h => ?_, fun x y z h1 h2 => ?_, fun x y h1 h2 => ?_⟩
  · have h : ¬ leS x y = true := by rw [h]; decide
    rw [leS_iff] at h ⊢
    rw [Decidable.not_not] at h
    exact fun q => List.lt_irrefl _ (List.lt_trans h q)
  · rw [leS_iff] at *
    intro h
    have h3 : y.cps.toList ≤ z.cps.toList := h2
    have h4 : x.cps.toList ≤ y.cps.toList := h1
    exact (List.le_trans h4 h3) h
  · rw [leS_iff] at *
    exact str_ext' (List.le_antisymm (h1) (h2))
theorem risingS_le : ∀ {l : List Str} {x : Str}, risingS x l = true → (x :: l).Pairwise (fun a b => leS a b = true)
  | [], x, _ => List.pairwise_singleton _ _
  | y :: l, x, h => by
    unfold risingS at h
    rw [Bool.and_eq_true] at h
    have ih := risingS_le h.2
    have e : leS x y = true := h.1
    obtain ⟨a, b⟩ := List.pairwise_cons.mp ih
    refine List.pairwise_cons.mpr ⟨fun z hz => ?_, ih⟩
    rcases List.mem_cons.mp hz with q | q
    · rw [q]; exact e
    · exact totS.tr _ _ _ e (a z q)
theorem sortedS_le {l : List Str} (h : sortedS l = true) : l.Pairwise (fun a b => leS a b = true) := by
  cases l with
  | nil => exact List.Pairwise.nil
  | cons x l => exact risingS_le h

/-! ### the rules -/
def nums : List D → Option (List Int)
  | [] => some []
  | .int b :: ds => (nums ds).map (b :: ·)
  | _ :: _ => none
theorem nums_map {α : Type} (f : α → Int) : ∀ xs : List α, nums (xs.map fun x => .int (f x)) = some (xs.map f)
  | [] => rfl
  | x :: xs => by show (nums (xs.map fun x => D.int (f x))).map (f x :: ·) = _; rw [nums_map f xs]; rfl
theorem nums_some : ∀ {ds : List D} {bs : List Int}, nums ds = some bs → ds = bs.map D.int
  | [], bs, h => by cases h; rfl
  | .int b :: ds, bs, h => by
    have h : (nums ds).map (b :: ·) = some bs := h
    cases q : nums ds with
    | none => rw [q] at h; cases h
    | some cs => rw [q] at h; cases h; rw [nums_some q]; rfl
  | .non :: _, _, h => by cases h
  | .bl _ :: _, _, h => by cases h
  | .str _ :: _, _, h => by cases h
  | .lst _ :: _, _, h => by cases h
  | .tup _ :: _, _, h => by cases h
  | .box _ :: _, _, h => by cases h
  | .dic _ :: _, _, h => by cases h
  | .scr _ :: _, _, h => by cases h
def dPr (p : Int × Int) : D := .tup [.int p.1, .int p.2]
def prn : List D → Option (List (Int × Int))
  | [] => some []
  | .tup [.int a, .int b] :: ds => (prn ds).map ((a, b) :: ·)
  | _ :: _ => none
theorem prn_map {α : Type} (f : α → Int × Int) : ∀ xs : List α, prn (xs.map fun x => dPr (f x)) = some (xs.map f)
  | [] => rfl
  | x :: xs => by show (prn (xs.map fun x => dPr (f x))).map (((f x).1, (f x).2) :: ·) = _; rw [prn_map f xs]; rfl
theorem prn_some : ∀ {ds : List D} {bs : List (Int × Int)}, prn ds = some bs → ds = bs.map dPr := by
  intro ds
  induction ds with
  | nil => intro bs h; cases h; rfl
  | cons d ds ih =>
    intro bs h
    unfold prn at h
    split at h
    · rename_i q; cases q
    · rename_i a b ds' q
      cases q
      cases q2 : prn ds with
      | none => rw [q2] at h; cases h
      | some cs => rw [q2] at h; cases h; rw [ih q2]; rfl
    · cases h
section
variable {X : Cx}
/-- sorted(xs), texts, any number -/
def rSortSA (K : PySem.W.Frag) : List V → Hp → VK → Prop := fun vs H Q => ∃ (a : Addr) (xs : List Str), vs = [V.ref a] ∧ SqL K H a (xs.map V.str) ∧
  ∀ (p : Addr), H p = none → Q (.ref p) (upd H p (.lst ((isort leS xs).map V.str)))
theorem cr_sortSA : CallR X (.builtin "sorted") (rSortSA X.K) := by
  intro pins s σ H vs us Q I r h
  obtain ⟨a, xs, rfl, hs, q⟩ := h
  obtain ⟨its, rv, hl, hz⟩ := I.list hs
  rw [Vals.ref1 r]
  have hlen0 := rv.length
  rw [List.length_map] at hlen0 hz
  refine PyProof.Rows.sorted_strsAny hl.isList rv.strs (by rw [← hlen0]; exact hz) fun out ys h1 h2 h3 => ?_
  obtain ⟨ep, he'⟩ := PyProof.Rows.sortedAll_at s.heap its out
  have e : ys = isort leS xs := isort_uniq totS h2 (sortedS_le h3)
  have hlen : (ys.map V.str).length ≤ sizeLine := by rw [List.length_map, h2.length_eq]; exact hz
  rw [← e] at q
  exact ⟨.ref _, upd H (s.heap.objs.size + 1) (.lst (ys.map V.str)), I.laid (t' := s.toks) (fun _ _ => PyProof.Rows.sortedAll_old) (Nat.le_succ _) ⟨hlen, out.toList, ep, vals_of_strs h1, he'⟩, rfl, q _ (I.hok.fresh (Nat.le_succ _))⟩
def fSortS : List D → Mem → DK → Prop := fun ds M P => match ds with
  | [d] => (match (lstD M d).bind txts with
    | some xs => P (.lst ((isort leS xs).map D.str)) M
    | none => False)
  | _ => False
theorem br_sortS {K : PySem.W.Frag} : BrCall K (rSortSA K) fSortS := by
  intro F M H xs ds P Q w r h k
  match ds, r, h with
  | [d], r, h =>
    obtain ⟨v, rfl, rv⟩ := reps1 r
    have h : (match (lstD M d).bind txts with | some xs => P (.lst ((isort leS xs).map D.str)) M | none => False) := h
    cases q : lstD M d with
    | none => rw [q] at h; exact h.elim
    | some es =>
      rw [q] at h
      have h : (match txts es with | some xs => P (.lst ((isort leS xs).map D.str)) M | none => False) := h
      cases q2 : txts es with
      | none => rw [q2] at h; exact h.elim
      | some bs =>
        rw [q2] at h
        obtain ⟨a, vs, rfl, h1, h2⟩ := lst_of w rv q
        rw [txts_some q2] at h2
        rw [h2.strsInv] at h1
        refine ⟨a, bs, rfl, SqL.of h1, fun p np => ?_⟩
        have g := Go.newF w np (.lst ((isort leS bs).map V.str))
        exact k _ M _ _ _ h g (.lst upd_same (Reps.strs _))
  | [], _, h => exact h.elim
  | _ :: _ :: _, _, h => exact h.elim
variable {x : Str} {p pos : Pos} {e : Expr} {es : List Expr} {t : RA}
theorem de_sortS {k : Nat} (hr : Room k X.A) (hg : Gl X "sorted") (hm : X.mg "sorted" = none) (ha : DA X (e :: es) t) (he : starEach (e :: es) X.env = (false, eval e X.env) :: starEach es X.env := by rfl) (hpl : (backTo pos (starEach es X.env)).any (·.1) = false := by rfl) :
    DE X (.Call (.Name "sorted" p) (e :: es) [] pos) (xCB fSortS t) := de_callB cr_sortSA br_sortS hg hm (by decide +kernel) ha (by decide) (by decide) he hpl
/-- sorted(xs), pairs of ints, any number -/
def fSortPP : List D → Mem → DK → Prop := fun ds M P => match ds with
  | [d] => (match (lstD M d).bind prn with
    | some xs => P (.lst ((isort leP xs).map dPr)) M
    | none => False)
  | _ => False
theorem Reps.forall {K : PySem.W.Frag} {F : Hp} {α : Type} {f : α → D} : ∀ {vs : List V} {ps : List α}, Reps K F vs (ps.map f) → ∀ v ∈ vs, ∃ p ∈ ps, Rep K F v (f p)
  | [], _, _, v, hv => by cases hv
  | v0 :: vs, [], r, _, _ => by cases r
  | v0 :: vs, p :: ps, r, v, hv => by
    cases r with
    | cons h t =>
      rcases List.mem_cons.mp hv with q | q
      · exact ⟨p, List.mem_cons_self, by rw [q]; exact h⟩
      · obtain ⟨p', hp, hr⟩ := Reps.forall t v q
        exact ⟨p', List.mem_cons_of_mem _ hp, hr⟩
theorem Reps.of_forall {K : PySem.W.Frag} {F : Hp} {f : V → D} : ∀ {vs : List V}, (∀ v ∈ vs, Rep K F v (f v)) → Reps K F vs (vs.map f)
  | [], _ => .nil
  | v :: vs, h => .cons (h v List.mem_cons_self) (Reps.of_forall fun u hu => h u (List.mem_cons_of_mem _ hu))
theorem Reps.key {K : PySem.W.Frag} {F : Hp} {α : Type} {f : α → D} {k : V → α} (hk : ∀ v p, Rep K F v (f p) → k v = p) : ∀ {vs : List V} {ps : List α}, Reps K F vs (ps.map f) → ps = vs.map k
  | [], [], _ => rfl
  | [], _ :: _, r => by cases r
  | _ :: _, [], r => by cases r
  | v :: vs, p :: ps, r => by
    cases r with
    | cons h t => rw [List.map_cons, hk v p h, ← Reps.key hk t]
def rSortPP (K : PySem.W.Frag) : List V → Hp → VK → Prop := fun vs H Q => ∃ (a : Addr) (ys : List V) (ps : List (Int × Int)) (F : Hp), vs = [V.ref a] ∧ SqL K H a ys ∧ Same F H ∧ Reps K F ys (ps.map dPr) ∧
  ∀ zs p, H p = none → Reps K F zs ((isort leP ps).map dPr) → Q (.ref p) (upd H p (.lst zs))
theorem cmp_dPr (p q : Int × Int) : cmpN 9 (dPr p) (dPr q) = true := by
  show (cmpN 8 (.int p.1) (.int q.1) && (cmpN 8 (.int p.2) (.int q.2) && true)) = true
  rfl
theorem cr_sortPP : CallR X (.builtin "sorted") (rSortPP X.K) := by
  intro pins s σ H vs us Q I r h
  obtain ⟨a, ys, ps, F, rfl, hs, sF, rpF, q⟩ := h
  have rp := rpF.mono sF
  obtain ⟨its, rv, hl, hz⟩ := I.list hs
  obtain ⟨u, rfl, ru⟩ := vals1 r
  obtain rfl : u = Value.ref a := ru
  obtain ⟨k, hk⟩ : ∃ k : V → Int × Int, ∀ v p, Rep X.K H v (dPr p) → k v = p := by
    refine ⟨fun v => Classical.epsilon fun p => Rep X.K H v (dPr p), fun v p hr => ?_⟩
    have h2 : Rep X.K H v (dPr (Classical.epsilon fun p => Rep X.K H v (dPr p))) := Classical.epsilon_spec (p := fun p => Rep X.K H v (dPr p)) ⟨p, hr⟩
    have e := Rep.inj I 9 _ _ v (cmp_dPr _ p) h2 hr
    unfold dPr at e
    simp only [D.tup.injEq, List.cons.injEq, D.int.injEq, and_true] at e
    exact Prod.ext e.1 e.2
  have ref_of : ∀ x ∈ ys, ∃ t, x = V.ref t ∧ SqT X.K H t [.int (k x).1, .int (k x).2] := fun x m => by
    obtain ⟨p, _, hr⟩ := Reps.forall rp x m
    have e := hk x p hr
    rw [e]
    cases hr with
    | tup h1 h2 =>
      cases h2 with
      | cons r1 r2 =>
        cases r2 with
        | cons r3 r4 =>
          cases r1; cases r3; cases r4
          exact ⟨_, rfl, h1⟩
  have ek := Reps.key hk rp
  obtain ⟨e1, e2⟩ := refs_back rv fun x m => by
    obtain ⟨t, e, _⟩ := ref_of x m
    exact ⟨t, e⟩
  refine SrtO.sorted_pairsO (k := fun u => k (backV u)) hl.isList (by rw [← rv.length]; exact hz) (fun v hv => ?_) fun h' d out h1 h2 kp hd hn => ?_
  · obtain ⟨t, rfl⟩ := e2 v hv
    have hm : V.ref t ∈ ys := by rw [e1]; exact List.mem_map.mpr ⟨_, hv, rfl⟩
    obtain ⟨t', e, ht⟩ := ref_of _ hm
    cases e
    obtain ⟨its2, r2, ⟨o, ho, hc, n, hd⟩, _⟩ := I.tuple ht
    obtain ⟨u1, u2, rfl, ri, rj⟩ := vals2 r2
    obtain ⟨t1, rfl⟩ := ri
    obtain ⟨t2, rfl⟩ := rj
    exact ⟨t, o, t1, t2, n, rfl, ho, hc, hd⟩
  · have h3 : ∀ u ∈ out, ∃ a, u = Value.ref a := fun u hu => e2 u (h2.perm.mem_iff.mp hu)
    obtain ⟨n, hn⟩ := hn
    have hb : SrtO.Stb (ltP k) (out.map backV) ys := by
      rw [e1]
      exact SrtO.Stb.map (ltP_swo k) backV h2
    have hsr : SrtO.Srtd (ltP k) (out.map backV) := SrtO.srtd_map h1
    have es : (out.map backV).map k = isort leP ps := by
      refine isort_uniq totP ?_ ?_
      · rw [ek]; exact hb.perm.map k
      · rw [List.pairwise_map]
        exact hsr.imp fun {x y} z => by
          show (!SrtO.lexB (k y) (k x)) = true
          have z : SrtO.lexB (k y) (k x) = false := z
          rw [z]; rfl
    refine ⟨.ref d, upd H d (.lst (out.map backV)), I.laid (t' := s.toks) kp hd ⟨?_, out, n, vals_back h3, hn⟩, rfl, q _ d (I.hok.fresh hd) ?_⟩
    · rw [hb.len]
      exact hz
    · rw [← es, List.map_map]
      refine Reps.of_forall fun v hv => ?_
      obtain ⟨p, _, hr⟩ := Reps.forall rpF v (hb.perm.mem_iff.mp hv)
      show Rep X.K F v (dPr (k v))
      rw [hk v p (hr.mono sF)]
      exact hr
theorem br_sortPP {K : PySem.W.Frag} : BrCall K (rSortPP K) fSortPP := by
  intro F M H xs ds P Q w r h k
  match ds, r, h with
  | [d], r, h =>
    obtain ⟨v, rfl, rv⟩ := reps1 r
    have h : (match (lstD M d).bind prn with | some xs => P (.lst ((isort leP xs).map dPr)) M | none => False) := h
    cases q : lstD M d with
    | none => rw [q] at h; exact h.elim
    | some es =>
      rw [q] at h
      have h : (match prn es with | some xs => P (.lst ((isort leP xs).map dPr)) M | none => False) := h
      cases q2 : prn es with
      | none => rw [q2] at h; exact h.elim
      | some bs =>
        rw [q2] at h
        obtain ⟨a, vs, rfl, h1, h2⟩ := lst_of w rv q
        rw [prn_some q2] at h2
        refine ⟨a, vs, bs, F, rfl, SqL.of h1, w.sub, h2, fun zs p np rz => ?_⟩
        · have g := Go.newF w np (.lst zs)
          exact k _ M _ _ _ h g (.lst upd_same (rz.mono g.up))
  | [], _, h => exact h.elim
  | _ :: _ :: _, _, h => exact h.elim
theorem de_sortPP {k : Nat} (hr : Room k X.A) (hg : Gl X "sorted") (hm : X.mg "sorted" = none) (ha : DA X (e :: es) t) (he : starEach (e :: es) X.env = (false, eval e X.env) :: starEach es X.env := by rfl) (hpl : (backTo pos (starEach es X.env)).any (·.1) = false := by rfl) :
    DE X (.Call (.Name "sorted" p) (e :: es) [] pos) (xCB fSortPP t) := de_callB cr_sortPP br_sortPP hg hm (by decide +kernel) ha (by decide) (by decide) he hpl

/-! ### list(text) -/
theorem vals_of_at : ∀ {xs : List V} {us : List Value}, us.length = xs.length → (∀ (j : Nat) (u : Value), us[j]? = some u → ∃ x, xs[j]? = some x ∧ RelV x u) → Vals xs us
  | [], [], _, _ => .nil
  | [], _ :: _, h, _ => by simp at h
  | _ :: _, [], h, _ => by simp at h
  | x :: xs, u :: us, h, k => by
    obtain ⟨x', e, r⟩ := k 0 u rfl
    have e : x = x' := Option.some.inj e
    subst e
    exact .cons r (vals_of_at (by simpa using h) fun j u' q => k (j + 1) u' q)
theorem signs_vals {x : Str} {acc : Array Value} (h : ItemsOf (SignAt x) acc x.cps.size) : Vals (x.cps.toList.map fun c => V.str ⟨#[c]⟩) acc.toList := by
  refine vals_of_at (by rw [Array.length_toList, h.1, List.length_map, Array.length_toList]) fun j u q => ?_
  rw [Array.getElem?_toList] at q
  obtain ⟨c, tk, e1, e2⟩ := h.2 j u q
  exact ⟨.str ⟨#[c]⟩, by rw [List.getElem?_map, Array.getElem?_toList, e1]; rfl, tk, e2⟩
def rListS : List V → Hp → VK → Prop := fun xs H Q => ∃ x : Str, xs = [.str x] ∧ x.cps.size ≤ 16777216 ∧ ∀ l, H l = none → Q (.ref l) (upd H l (.lst (x.cps.toList.map fun c => V.str ⟨#[c]⟩)))
theorem cr_listS (hc : X.calm = true) : CallR X (.type "list") rListS := by
  intro pins s σ H vs us Q I r h
  obtain ⟨x, rfl, hz, q⟩ := h
  obtain ⟨u, rfl, ru⟩ := vals1 r
  obtain ⟨tk, rfl⟩ := ru
  have hz' : x.cps.size ≤ sizeLine := by rw [sizeLine_eq]; exact hz
  refine call_list_str (hn := hz') (I.ok.hd hc) x tk fun h' tk' acc c k hS hacc => ?_
  refine ⟨.ref s.heap.objs.size, upd H s.heap.objs.size (.lst (x.cps.toList.map fun c => V.str ⟨#[c]⟩)), I.laid (t' := tk') k (Nat.le_refl _) ⟨?_, acc.toList, c, signs_vals hacc, hS⟩, rfl, q _ (I.hok.fresh (Nat.le_refl _))⟩
  rw [List.length_map]; exact hz'
def fListS : List D → Mem → DK → Prop := fun ds M P => match ds with
  | [.str x] => x.cps.size ≤ 16777216 ∧ P (.lst (chD x)) M
  | _ => False
theorem br_listS {K : PySem.W.Frag} : BrCall K rListS fListS := by
  intro F M H xs ds P Q w r h k
  unfold fListS at h
  split at h
  · rename_i x
    obtain ⟨v, rfl, rv⟩ := reps1 r
    cases rv
    refine ⟨x, rfl, h.1, fun p np => ?_⟩
    have g := Go.newF w np (.lst (x.cps.toList.map fun c => V.str ⟨#[c]⟩))
    refine k _ M _ _ _ h.2 g (.lst upd_same ?_)
    unfold chD
    have := Reps.strs (K := K) (F := upd F p (.lst (x.cps.toList.map fun c => V.str ⟨#[c]⟩))) (x.cps.toList.map fun c => (⟨#[c]⟩ : Str))
    rw [List.map_map, List.map_map] at this
    exact this
  · exact h.elim
theorem de_listS (hg : Gl X "list") (hm : X.mg "list" = none) (hc : X.calm = true) (ha : DA X (e :: es) t) (he : starEach (e :: es) X.env = (false, eval e X.env) :: starEach es X.env := by rfl) (hpl : (backTo pos (starEach es X.env)).any (·.1) = false := by rfl) :
    DE X (.Call (.Name "list" p) (e :: es) [] pos) (xCB fListS t) := de_callTy (cr_listS hc) br_listS hg hm (by decide +kernel) ha (by decide) (by decide) he hpl
end
end DL
-- part DL9
set_option Elab.async false
set_option linter.all false
set_option maxRecDepth 100000
set_option maxHeartbeats 4000000
/-! a dict's display with text keys -/
namespace DL
open PySem PySem.Spec PyProof.Rows L2
abbrev RC := DEnv → Mem → (List (Str × D) → Mem → Prop) → Prop
def lC (K : PySem.W.Frag) (t : RC) (σ : L2.St) (H : Hp) (Q : List (V × V) → Hp → Prop) : Prop := ∃ (ρ : DEnv) (F : Hp) (M : Mem) (P : List (Str × D) → Mem → Prop), EnvRep K F σ ρ ∧ Wld K F M H ∧ t ρ M P ∧
  ∀ ks M' kvs F' H', P ks M' → Go K F M H F' M' H' → RepsK K F' kvs ks → Q (kvs.map fun kv => (kV kv.1, kv.2)) H'
structure DC (X : Cx) (pos : Pos) (keys : List (Option Expr)) (values : List Expr) (t : RC) : Prop where
  ex : ∃ trs, PPs X pos keys values trs ∧ ∀ σ H Q, lC X.K t σ H Q → tPairs trs σ H Q
def cNil : RC := fun _ M P => P [] M
def cCons (k : Str) (te : RE) (r : RC) : RC := fun ρ M P => te ρ M fun d M1 => r ρ M1 fun ks M2 => P ((k, d) :: ks) M2
section
variable {X : Cx} {pos : Pos}
theorem dc_nil : DC X pos [] [] cNil := ⟨[], pps_nil, fun σ H Q ⟨ρ, F, M, P, er, w, h, k⟩ => k [] M [] F H h (Go.refl w) .nil⟩
theorem dc_cons {k : Str} {j kpos} {v : Expr} {ks : List (Option Expr)} {vs : List Expr} {te : RE} {r : RC} (hv : DE X v te) (hr : DC X pos ks vs r) : DC X pos (some (.Constant (.str k) j kpos) :: ks) (v :: vs) (cCons k te r) := by
  obtain ⟨trs, h1, h2⟩ := hr.ex
  refine ⟨_, pps_cons pe_str hv h1, fun σ H Q ⟨ρ, F, M, P, er, w, h, kk⟩ => ?_⟩
  show lE X.K te σ H _
  refine ⟨ρ, F, M, _, er, w, h, fun d M1 y F1 H1 p1 g1 r1 => ?_⟩
  refine h2 σ H1 _ ⟨ρ, F1, M1, _, er.mono g1.up, g1.w, p1, fun ds M2 kvs F2 H2 p2 g2 r2 => ?_⟩
  exact kk ((k, d) :: ds) M2 ((.inr k, y) :: kvs) F2 H2 p2 (g1.trans g2) (.cons (r1.mono g2.up) r2)
theorem RepsK.length {K : PySem.W.Frag} {F : Hp} : ∀ {vs : List (Key × V)} {ds : List (Str × D)}, RepsK K F vs ds → vs.length = ds.length
  | _, _, .nil => rfl
  | _, _, .cons _ r => congrArg (· + 1) (RepsK.length r)
theorem Go.junk {K : PySem.W.Frag} {F : Hp} {M : Mem} {H : Hp} (w : Wld K F M H) {p : Addr} (h : H p = none) (o : HO) : Go K F M H F M (upd H p o) := by
  have fp := w.freeF h
  have mp := w.freeM h
  refine ⟨⟨fun b x e => by rw [upd_ne (ne_of_none (w.sub b x e) h)]; exact w.sub b x e, fun a ds e => ?_⟩, Same.refl F, fun a o' q _ => ?_, fun a q => ?_, fun a q _ => q, fun a q _ => q⟩
  · obtain ⟨f, vs, q, r⟩ := w.mem a ds e
    exact ⟨f, vs, by rw [upd_ne (ne_of_none q h)]; exact q, r⟩
  · rw [upd_ne (ne_of_none q h)]; exact q
  · unfold upd; split
    · intro z; cases z
    · exact q
def xDisp (t : RC) : RE := fun ρ M P => t ρ M fun ks M1 => ks.length ≤ 15 ∧ P (.dic (mergeD [] ks)) M1
theorem de_disp {keys : List (Option Expr)} {values : List Expr} {t : RC} {k : Nat} (hr : Room k X.A) (h : DC X pos keys values t) (hall : keys.all (·.isSome) = true := by rfl) (hl : keys.length = values.length := by rfl) (h0 : keys ≠ [] := by intro z; cases z)
    (h15 : keys.length ≤ 15 := by decide) : DE X (.Dict keys values pos) (xDisp t) := by
  obtain ⟨trs, h1, h2⟩ := h.ex
  refine PE.imp (pe_disp h1 hall hl h0 h15) fun σ H Q ⟨ρ, F, M, P, er, w, q, kk⟩ => ?_
  intro p np
  have g0 := Go.junk w np (.dK [])
  have hp : upd H p (.dK []) p ≠ none := by rw [upd_same]; intro z; cases z
  refine h2 σ _ _ ⟨ρ, F, M, _, er, g0.w, q, fun ks M1 kvs F1 H1 p1 g1 r1 => ?_⟩
  have fp := w.freeF np
  have mp := w.freeM np
  refine ⟨g1.keep p _ upd_same mp, kvs, rfl, by rw [r1.length]; exact p1.1, ?_⟩
  have g2 := g1.er hp fp mp
  rw [er_upd, er_fresh np] at g2
  have g3 := Go.newF g2.w er_same (.dK (mergeK [] kvs))
  have e : upd (DL.er p H1) p (.dK (mergeK [] kvs)) = upd H1 p (.dK (mergeK [] kvs)) := by
    funext b
    unfold upd
    split
    · rfl
    · rename_i z; exact er_ne z
  rw [e] at g3
  exact kk _ M1 _ _ _ p1.2 (g2.trans g3) (.dic upd_same (RepsK.mono g3.up (mergeK_ok r1 .nil)))
end
end DL
-- part DL10
set_option Elab.async false
set_option linter.all false
set_option maxRecDepth 100000
set_option maxHeartbeats 4000000
/-! sorted(set(xs)), ints or texts, fewer than 4000: the sets of HandS.Set over any kind of key -/
namespace DL
namespace SG
open PySem PySem.Spec PyProof.Rows L2
section
variable {P : Program} {w : World} {T : Type} [DecidableEq T]
/-- a key's kind whose keys can be read back -/
structure Kof (knd : PySem.KeyKind P w T) (kof : Value → T) : Prop where
  of : ∀ k v, knd.is k v = true → kof v = k
  sc : ∀ k v, knd.is k v = true → v.scannable = true
def keyG (kof : Value → T) (e : Int × Value) : T := kof e.2
def SetG (knd : PySem.KeyKind P w T) (kof : Value → T) (h : Heap) (a : Addr) (S : T → Bool) (n : Nat) : Prop :=
  ∃ o es ep t, h.get? a = some o ∧ o.ExactSet ∧ o.data = .set es ep t ∧ ElemsOf knd es.toList ∧ (es.toList.map (keyG kof)).Nodup ∧ (∀ k, S k = true ↔ k ∈ es.toList.map (keyG kof)) ∧
    es.size < scanBound ∧ t.fits es.size = true ∧ es.size = n ∧ Ris t.place.toList ∧ (w.params.followText "set-order" = true ∨ t.led = true)
end
section
variable {P : Program} {w : World} {T : Type} [DecidableEq T] {knd : PySem.KeyKind P w T} {kof : Value → T} {h h' : Heap} {a : Addr} {S : T → Bool} {n : Nat} {A : Around} {E : Value → Shared → Prop} {s : Shared}
theorem SetG.at (R : SetG knd kof h a S n) (k : ∀ o, h.get? a = some o → h'.get? a = some o) : SetG knd kof h' a S n := by
  obtain ⟨o, es, ep, t, ho, r⟩ := R
  exact ⟨o, es, ep, t, k o ho, r⟩
theorem el_is (O : Kof knd kof) {e : Int × Value} {l : List (Int × Value)} (g : ElemsOf knd l) (he : e ∈ l) (k : T) : knd.is k e.2 = true ↔ keyG kof e = k := by
  obtain ⟨⟨k0, h1, _⟩, _⟩ := g e he
  have e0 : keyG kof e = k0 := O.of k0 e.2 h1
  constructor
  · intro h2
    rw [e0]; exact knd.inj e.2 k0 k h1 h2
  · intro h2
    rw [← h2, e0]; exact h1
theorem el_mem (O : Kof knd kof) {l : List (Int × Value)} (g : ElemsOf knd l) (k : T) : k ∈ l.map (keyG kof) ↔ ∃ e ∈ l, knd.is k e.2 = true := by
  rw [List.mem_map]
  constructor
  · rintro ⟨e, he, q⟩
    exact ⟨e, he, (el_is O g he k).2 q⟩
  · rintro ⟨e, he, q⟩
    exact ⟨e, he, (el_is O g he k).1 q⟩
theorem add_tail {g : Bool → Sem Unit} (hg : ∀ (b : Bool) (s₁ : Shared) (Q' : Unit → Shared → Prop), Q' () s₁ → wpAny (model P w) A (g b) Q' E s₁)
    {o : Obj} {es : Array (Int × Value)} {ep : Nat} {t : SetTable} (ho : s.heap.get? a = some o) (hex : o.ExactSet) (hd : o.data = .set es ep t)
    {es1 : Array (Int × Value)} {t2 : SetTable} {S' : T → Bool} (g1 : ElemsOf knd es1.toList) (nd1 : (es1.toList.map (keyG kof)).Nodup) (m1 : ∀ k, S' k = true ↔ k ∈ es1.toList.map (keyG kof))
    (hb1 : es1.size < scanBound) (hf2 : t2.fits es1.size = true) (hr : Ris t2.place.toList) (hl : w.params.followText "set-order" = true ∨ t2.led = true) {wasDummy : Bool} {R : Option Bool → Shared → Prop}
    (hR : ∀ h', Heap.SameBut a s.heap h' → SetG knd kof h' a S' es1.size → R (some true) { s with heap := h' }) :
    wpAny (model P w) A (do
        storeSet a es1 t2
        if (!wasDummy && t2.tooFull) = true then do
            g (relayAll t2 es1 (SetTable.grown es1.size)).2.2
            storeSet a (relayAll t2 es1 (SetTable.grown es1.size)).1 (relayAll t2 es1 (SetTable.grown es1.size)).2.1
            pure (some true)
          else pure (some true)) R E s := by
  refine wpAny_bind (wpAny_storeSet_of ho hd ?_ (fits_of_scanBound hb1))
  have ho1 := store_at (es' := es1) (t' := t2) ho hd
  have sb1 := Heap.SameBut.update s.heap a (Obj.putSet es1 t2)
  split
  · have pm := relayAll_perm t2 es1 (SetTable.grown es1.size)
    have hf3 := relayAll_fits t2 es1 (SetTable.grown es1.size)
    have hr3 := relayAll_ris t2 es1 (SetTable.grown es1.size)
    have hl3 := relayAll_led t2 es1 (SetTable.grown es1.size)
    generalize relayAll t2 es1 (SetTable.grown es1.size) = Z at pm hf3 hr3 hl3 ⊢
    obtain ⟨es2, t3, gave⟩ := Z
    dsimp only at pm hf3 hr3 hl3 ⊢
    have hsz : es2.size = es1.size := by rw [← Array.length_toList, pm.length_eq, Array.length_toList]
    have hb2 : es2.size < scanBound := by rw [hsz]; exact hb1
    refine wpAny_bind (hg _ _ _ ?_)
    refine wpAny_bind (wpAny_storeSet_of ho1 rfl ?_ (fits_of_scanBound hb2))
    have ho2 := store_at (es' := es2) (t' := t3) ho1 rfl
    refine wpAny_pure (hR _ (sb1.trans (Heap.SameBut.update _ a _)) ?_)
    exact ⟨_, es2, _, t3, ho2, hex, rfl, g1.perm pm, (pm.map (keyG kof)).nodup_iff.mpr nd1, fun k => (m1 k).trans (pm.map (keyG kof)).mem_iff.symm, hb2, hf3, hsz, hr3,
      hl.imp id fun z => by rw [hl3]; exact z⟩
  · exact wpAny_pure (hR _ sb1 ⟨_, es1, _, t2, ho1, hex, rfl, g1, nd1, m1, hb1, hf2, rfl, hr, hl⟩)
theorem add_hashed (O : Kof knd kof) {k : T} {x : Value} (hkey : knd.is k x = true) {Q : Bool → Shared → Prop} (R : SetG knd kof s.heap a S n) (room : n + 1 < scanBound)
    (hQ : ∀ h', Heap.SameBut a s.heap h' → SetG knd kof h' a (fun j => S j || decide (j = k)) (if S k = true then n else n + 1) → Q (!S k) { s with heap := h' }) :
    wpAny (model P w) A (setAddHashed a x (knd.hash k)) Q E s := by
  obtain ⟨o, es, ep, t, ho, hex, hd, hel, nd, hm, hb, hf, hn, hr, hl⟩ := R
  have hsc : x.scannable = true := O.sc k x hkey
  unfold setAddHashed setAddHashedIn
  refine wpAny_holding (wpAny_bind (wpAny_setState_of ho hd hf ?_))
  dsimp only
  rw [byScan_of hsc hb hel]
  simp only [↓reduceIte]
  unfold setAddByScan
  refine wpAny_bind ?_
  refine wpAny_bind (wpAny_rule ?_)
  refine wpAny_bind (wpAny_setScan_of hkey ho hd hf hel ?_)
  cases hfi : List.findIdx? (fun e => knd.is k e.2) es.toList with
  | some j =>
    dsimp only
    obtain ⟨hj, pj, _⟩ := List.findIdx?_eq_some_iff_getElem.mp hfi
    have hSk : S k = true := (hm k).2 ((el_mem O hel k).2 ⟨es.toList[j], List.getElem_mem hj, pj⟩)
    refine wpAny_pure (wpAny_pure ?_)
    have q := hQ s.heap (Heap.SameBut.refl a s.heap) ⟨o, es, ep, t, ho, hex, hd, hel, nd, fun i => by
      rw [Bool.or_eq_true, decide_eq_true_eq, ← hm i]
      exact ⟨fun z => z.elim id (fun e => e ▸ hSk), .inl⟩, hb, hf, by rw [if_pos hSk]; exact hn, hr, hl⟩
    rw [hSk] at q
    exact q
  | none =>
    dsimp only
    have hnk : k ∉ es.toList.map (keyG kof) := fun z => by
      obtain ⟨e, he, q⟩ := (el_mem O hel k).1 z
      have c := List.findIdx?_eq_none_iff.mp hfi e he
      rw [q] at c
      cases c
    have hSk : S k = false := by
      cases q : S k with
      | false => rfl
      | true => exact absurd ((hm k).1 q) hnk
    have hgw : ∀ (b : Bool) {s₁ : Shared} {Q' : Unit → Shared → Prop}, Q' () s₁ → wpAny (model P w) A (match b with | true => rule "set.scan.the-table-gave-way" | false => pure ()) Q' E s₁ :=
      fun b s₁ Q' q => by cases b <;> first | exact wpAny_pure q | exact wpAny_rule q
    have pm := layNew_perm t es (knd.hash k) x
    have hf1 := layNew_fits t es (knd.hash k) x
    have hr1 := layNew_ris t es (knd.hash k) x hr
    have hl1 := layNew_led t es (knd.hash k) x
    generalize layNew t es (knd.hash k) x = Z at pm hf1 hr1 hl1 ⊢
    obtain ⟨es1, t1, wasDummy, gave⟩ := Z
    dsimp only at pm hf1 hr1 hl1 ⊢
    rw [Array.toList_push] at pm
    have g1 : ElemsOf knd es1.toList := (hel.push hkey hsc).perm pm
    have pc : es1.toList.Perm ((knd.hash k, x) :: es.toList) := pm.trans (List.perm_append_singleton _ _)
    have pk : (es1.toList.map (keyG kof)).Perm (k :: es.toList.map (keyG kof)) := by
      have q := pc.map (keyG kof)
      rw [List.map_cons] at q
      have e : keyG kof (knd.hash k, x) = k := O.of k x hkey
      rw [e] at q
      exact q
    have nd1 : (es1.toList.map (keyG kof)).Nodup := pk.nodup_iff.mpr (List.nodup_cons.mpr ⟨hnk, nd⟩)
    have m1 : ∀ i, (S i || decide (i = k)) = true ↔ i ∈ es1.toList.map (keyG kof) := fun i => by
      rw [Bool.or_eq_true, decide_eq_true_eq, hm i, pk.mem_iff, List.mem_cons]
      exact Or.comm
    have hsz : es1.size = n + 1 := by rw [← Array.length_toList, pc.length_eq, List.length_cons, Array.length_toList, hn]
    have hb1 : es1.size < scanBound := by rw [hsz]; exact room
    have hled : w.params.followText "set-order" = true ∨ t1.led = true := hl.imp id fun z => by rw [hl1]; exact z
    have fin : ∀ h', Heap.SameBut a s.heap h' → SetG knd kof h' a (fun j => S j || decide (j = k)) es1.size → Q true { s with heap := h' } := fun h' sb r => by
      have q := hQ h' sb
      rw [hSk] at q
      rw [hsz] at r
      exact q r
    refine wpAny_bind (hgw _ ?_)
    split
    · refine wpAny_bind ?_
      rw [hashByValue_scannable 8 hsc]
      refine wpAny_pure ?_
      refine add_tail (knd := knd) (kof := kof) ?_ ho hex hd g1 nd1 m1 hb1 ?_ ?_ ?_ ?_
      · intro b s₁ Q' q; cases b <;> first | exact wpAny_pure q | exact wpAny_rule q
      · first | (split <;> first | exact hf1 | exact SetTable.fits_plain_off hf1) | exact hf1
      · first | (split <;> exact hr1) | exact hr1
      · first | (split <;> exact hled) | exact hled
      · intro h' sb r; dsimp only; exact wpAny_pure (fin h' sb r)
    · refine wpAny_bind (wpAny_pure ?_)
      simp only [↓reduceIte]
      refine add_tail (knd := knd) (kof := kof) ?_ ho hex hd g1 nd1 m1 hb1 hf1 hr1 hled ?_
      · intro b s₁ Q' q; cases b <;> first | exact wpAny_pure q | exact wpAny_rule q
      · intro h' sb r; dsimp only; exact wpAny_pure (fin h' sb r)
theorem setG_fresh (knd : PySem.KeyKind P w T) (kof : Value → T) {h : Heap} {a : Addr} (ho : h.get? a = some { cls := .type "set", dict := none, data := .set #[] 0 (.fresh 0 0 (!w.params.followText "set-order")) }) : SetG knd kof h a (fun _ => false) 0 :=
  ⟨_, #[], 0, _, ho, ⟨rfl, rfl, rfl⟩, rfl, (fun e he => by simp at he), (by simp), (fun k => by simp), (by decide), (by rfl), rfl, List.Pairwise.nil, by
    show _ ∨ (!w.params.followText "set-order") = true
    cases w.params.followText "set-order"
    · exact .inr rfl
    · exact .inl rfl⟩
end
end SG
end DL
-- part DL11
set_option Elab.async false
set_option linter.all false
set_option maxRecDepth 100000
set_option maxHeartbeats 4000000
namespace DL
namespace SG
open PySem PySem.Spec PyProof.Rows L2
section
variable {P : Program} {w : World} {T : Type} [DecidableEq T] {knd : PySem.KeyKind P w T} {kof : Value → T} {h h' : Heap} {a : Addr} {S : T → Bool} {n : Nat} {A : Around} {E : Value → Shared → Prop} {s : Shared}
/-- set.update's loop -/
theorem set_update {I : Addr} {fp wr : List Addr} {G : Array GenState → Array GenState → Prop} {n : Nat} {Pv : Nat → Value → Prop} {St : Nat → Shared → Prop} {R : Result → Shared → Prop}
    (O : Kof knd kof) (W : WalksS P w A.in1 I fp wr G n Pv St) (S : Addr) (hSf : S ∉ fp) (ks : List T) (hn : n = ks.length) (hfew : ks.length < 4000) (hval : ∀ i v, Pv i v → ∃ k, ks[i]? = some k ∧ knd.is k v = true)
    (h0 : Heap) (hS0 : h0.get? S = none) (hw0 : ∀ b ∈ wr, h0.get? b = none) :
    ∀ (k i : Nat) (s : Shared), n - i = k → i ≤ n → St i s → (∀ b o, h0.get? b = some o → s.heap.get? b = some o) → (∃ Z m, SetG knd kof s.heap S Z m ∧ m ≤ i ∧ ∀ k, Z k = true ↔ k ∈ ks.take i) →
      (∀ s' Z m, Moved (S :: wr) G s s' → SetG knd kof s'.heap S Z m → m ≤ n → (∀ k, Z k = true ↔ k ∈ ks.take n) → (∀ b o, h0.get? b = some o → s'.heap.get? b = some o) → R (.ok (.ret .none)) s') →
      codeAny (model P w) A (.builtin "set.update.loop" ⟨[.ref S, .ref I], []⟩) R s := by
  have hSw : S ∉ wr := fun h => hSf (W.sub _ h)
  have hsub : ∀ b ∈ wr, b ∈ S :: wr := fun b hb => List.mem_cons_of_mem _ hb
  have keepM : ∀ {s s' : Shared}, Moved wr G s s' → (∀ b o, h0.get? b = some o → s.heap.get? b = some o) → ∀ b o, h0.get? b = some o → s'.heap.get? b = some o := fun hm hkp b o e =>
    hm.heap b o (fun hb => by rw [hw0 b hb] at e; cases e) (hkp b o e)
  intro k
  induction k with
  | zero =>
    intro i s hk' hi hst hkp ⟨Z, m, hS, hmi, g⟩ hR
    have hin : i = n := by omega
    subst hin
    refine codeAny_builtin F.entry_set_update_loop ?_
    rw [Around.under_plainId F.plain_set_update_loop _]
    show wpAny _ A.in1 (pyNext (.ref I) >>= _) _ _ s
    refine wpAny_bind (W.done s _ _ hst fun s' hm => ?_)
    show wpAny _ A.in1 (ret Value.none) _ _ s'
    have hkp' := keepM hm hkp
    exact wpAny_pure (hR s' Z m (hm.mono hsub) (hS.at fun o e => hm.heap S o hSw e) hmi g hkp')
  | succ k ih =>
    intro i s hk' hi hst hkp ⟨Z, m, hS, hmi, g⟩ hR
    have hlt : i < n := by omega
    refine codeAny_builtin F.entry_set_update_loop ?_
    rw [Around.under_plainId F.plain_set_update_loop _]
    show wpAny _ A.in1 (pyNext (.ref I) >>= _) _ _ s
    refine wpAny_bind (W.item i s _ _ hlt hst fun v s' hP hst' hm => ?_)
    obtain ⟨p, hp, hv⟩ := hval i v hP
    have hkp' := keepM hm hkp
    have hS' : SetG knd kof s'.heap S Z m := hS.at fun o e => hm.heap S o hSw e
    show wpAny _ A.in1 (holding [v] (setAdd S v) >>= _) _ _ s'
    refine wpAny_bind (wpAny_holding ?_)
    unfold setAdd
    refine wpAny_holding ?_
    refine wpAny_bind (knd.pyHash hv ?_)
    have room : m + 1 < scanBound := by show m + 1 < 4096; omega
    refine add_hashed (s := { s' with toks := s'.toks + 1 }) O hv hS' room fun h' hsb hS2 => ?_
    have g' : ∀ j, (Z j || decide (j = p)) = true ↔ j ∈ ks.take (i + 1) := fun j => by
      have e : ks.take (i + 1) = ks.take i ++ [p] := take_next hp
      rw [e, List.mem_append, List.mem_singleton, Bool.or_eq_true, decide_eq_true_eq, g j]
    have hm2 : (if Z p = true then m else m + 1) ≤ i + 1 := by split <;> omega
    have hkp2 : ∀ b o, h0.get? b = some o → h'.get? b = some o := fun b o e => (hsb.2 b (fun z => by rw [z, hS0] at e; cases e)).trans (hkp' b o e)
    refine wpAny_pure ⟨plainId_quiet F.plain_set_update_loop _, ih (i + 1) _ (by omega) hlt (W.frame _ s' _ _ hst' (Nat.le_add_right _ _) fun b hb o e => ?_) hkp2 ⟨_, _, hS2, hm2, g'⟩ fun s'' Z2 m2 hm'' hS'' hm3 g'' hkp'' => ?_⟩
    · rw [hsb.2 b (fun h : b = S => hSf (by rw [← h]; exact hb))]; exact e
    · refine hR s'' Z2 m2 (Moved.trans W.gtrans ((hm.mono hsub).then_heap (Nat.le_add_right _ _) fun b o hb e => ?_) hm'') hS'' hm3 g'' hkp''
      rw [hsb.2 b (fun h : b = S => hb (by rw [h]; exact List.mem_cons_self))]; exact e

/-- set(xs) -/
theorem call_set {l : Addr} {items : Array Value} (O : Kof knd kof) (ks : List T) {Q : Value → Shared → Prop} (hh : A.handled = none) (hl : s.heap.IsList l items) (hsz : items.size = ks.length) (hit : ∀ (i : Nat) (v : Value), items[i]? = some v → ∃ k, ks[i]? = some k ∧ knd.is k v = true)
    (hfew : ks.length < 4000)
    (h : ∀ (h' : Heap) (tk : Nat) Z m, SetG knd kof h' s.heap.objs.size Z m → m ≤ ks.length → (∀ k, Z k = true ↔ k ∈ ks) → (∀ b o, s.heap.get? b = some o → h'.get? b = some o) → Q (.ref s.heap.objs.size) { s with heap := h', toks := tk }) :
    wpAny (model P w) A (call (.type "set") [.ref l]) Q E s := by
  obtain ⟨c, tl, hmro⟩ := F.called_set.mro
  have hmade := F.called_set.made
  have hsub := F.called_set.sub
  refine wpAny_call (codeAny_of_tree ?_)
  show wpAny _ _ (callAny (.type "set") _) _ _ _
  refine wpAny_pure ⟨Code.quiet_builtin _ (by decide +kernel), codeAny_builtin F.entry_type_call ?_⟩
  rw [Around.under_plain (weight_type_call_type "set" [.ref l] []) rfl]
  have h1 := F.called_set.notType
  have h2 := F.called_set.canCreate
  have hct := F.typeCall_set_1 (.ref l)
  repeat (any_goals (first | assumption | wp_step))
  refine codeAny_mono (code_set_led1 (.ref l) (E := E) (Q₁ := fun obj s₁ => obj = .ref s.heap.objs.size ∧ s₁ = { s with heap := s.heap.push { cls := .type "set", dict := none, data := .set #[] 0 (.fresh 0 0 (!w.params.followText "set-order")) } }) ⟨rfl, rfl⟩) fun r s₁ hr => ?_
  cases r with
  | error e => exact hr
  | ok fl =>
    cases fl with
    | ret obj =>
      obtain ⟨rfl, rfl⟩ := hr
      have hS : (s.heap.push { cls := .type "set", dict := none, data := .set #[] 0 (.fresh 0 0 (!w.params.followText "set-order")) }).get? s.heap.objs.size = some { cls := .type "set", dict := none, data := .set #[] 0 (.fresh 0 0 (!w.params.followText "set-order")) } := Heap.get?_push_size _ rfl
      have hT : Shared.TypeIs { s with heap := s.heap.push { cls := .type "set", dict := none, data := .set #[] 0 (.fresh 0 0 (!w.params.followText "set-order")) } } (.ref s.heap.objs.size) "set" := ⟨_, hS, rfl⟩
      have hli := F.called_set.init.lookup
      have hbi := F.called_set.init.bind (.ref s.heap.objs.size)
      repeat (any_goals (first | assumption | wp_step))
      refine codeAny_mono (codeAny_call_builtin (R := wants (fun r s₂ => r = .none ∧ ∃ h' tk Z m, s₂ = { s with heap := h', toks := tk } ∧ SetG knd kof h' s.heap.objs.size Z m ∧ m ≤ ks.length ∧ (∀ k, Z k = true ↔ k ∈ ks) ∧
          (∀ b o, s.heap.get? b = some o → h'.get? b = some o)) E) F.called_set.init.plain F.entry_set_init (check_set_init_1 hT ?_)) fun r₂ s₂ hr₂ => ?_
      · obtain ⟨ol, hol, hcl, nl, hdl⟩ := hl
        obtain ⟨ocls, odict, odata, oslots⟩ := ol
        simp only at hcl hdl
        subst hcl; subst hdl
        have hol' : (s.heap.push { cls := .type "set", dict := none, data := .set #[] 0 (.fresh 0 0 (!w.params.followText "set-order")) }).get? l = some { cls := .type "list", dict := odict, data := .seq items nl, slots := oslots } := Heap.get?_push_of_some _ hol
        have hsls := F.sub_list_set
        have hslf := F.sub_list_frozenset
        have hne : (Value.type "list" == Value.type "dict") = false := by decide
        have hl1 : (s.heap.push { cls := .type "set", dict := none, data := .set #[] 0 (.fresh 0 0 (!w.params.followText "set-order")) }).IsList l items := ⟨_, hol', rfl, nl, rfl⟩
        unfold Builtin.«set.__init__» noKeywords Builtin.Frozenset.updateFrom
        generalize hPI : pyIter = PI
        wp_walk
        subst hPI
        refine wpAny_pyIter_list hl1 ?_
        refine wpAny_bind (wpAny_runValue ?_)
        have hlS : l < s.heap.objs.size := Heap.lt_size hol
        have hh3 : A.in1.in1.in1.handled = none := by simp [hh]
        have hz1 : (s.heap.push { cls := .type "set", dict := none, data := .set #[] 0 (.fresh 0 0 (!w.params.followText "set-order")) }).objs.size = s.heap.objs.size + 1 := Heap.size_push ..
        have hneI : l ≠ (s.heap.push { cls := .type "set", dict := none, data := .set #[] 0 (.fresh 0 0 (!w.params.followText "set-order")) }).objs.size := by
          rw [Heap.size_push]; exact Nat.ne_of_lt (Nat.lt_succ_of_lt hlS)
        have hSf : s.heap.objs.size ∉ [(s.heap.push { cls := .type "set", dict := none, data := .set #[] 0 (.fresh 0 0 (!w.params.followText "set-order")) }).objs.size, l] := by
          rw [Heap.size_push]; simp only [List.mem_cons, List.mem_singleton, List.not_mem_nil, or_false, not_or]
          exact ⟨Nat.ne_of_lt (Nat.lt_succ_self _), Nat.ne_of_gt hlS⟩
        have none_of : ∀ b, s.heap.objs.size ≤ b → s.heap.get? b = none := fun b hb => by
          cases q : s.heap.get? b with
          | none => rfl
          | some o => exact absurd (Nat.lt_of_lt_of_le (Heap.lt_size q) hb) (Nat.lt_irrefl _)
        refine set_update O ((Walks.list hh3 _ l hneI items).toS) s.heap.objs.size
          hSf ks hsz hfew hit s.heap (none_of _ (Nat.le_refl _)) (fun b hb => none_of b (by
            rw [List.mem_singleton.mp hb, Heap.size_push]
            exact Nat.le_succ _)) (items.size - 0) 0 _ (by omega) (Nat.zero_le _)
          ⟨⟨_, Heap.get?_push_size _ rfl, rfl, rfl⟩, (hl1.push _)⟩ (fun b o e => Heap.get?_push_of_some _ (Heap.get?_push_of_some _ e)) ?hS0 ?hR
        case hS0 =>
          have hget : ((s.heap.push { cls := .type "set", dict := none, data := .set #[] 0 (.fresh 0 0 (!w.params.followText "set-order")) }).push { cls := .type "list_iterator", data := .fields #[.ref l, .int 0 0] }).get? s.heap.objs.size
              = some { cls := .type "set", dict := none, data := .set #[] 0 (.fresh 0 0 (!w.params.followText "set-order")) } := Heap.get?_push_of_some _ hS
          exact ⟨fun _ => false, 0, setG_fresh knd kof hget, Nat.le_refl _, fun k => by simp⟩
        case hR =>
          intro s' Z m hm hS' hmn g' hkp
          obtain ⟨h', g2, d', tk', os'⟩ := s'
          have eg : g2 = s.gens := hm.gens
          have ed : d' = s.drawn := hm.drawn
          have eo : os' = s.os := hm.os
          subst eg; subst ed; subst eo
          show wpAny _ _ _ _ _ _
          refine wpAny_pure ?_
          show wpAny _ _ (ret Value.none) _ _ _
          rw [hsz] at g' hmn
          rw [List.take_length] at g'
          exact wpAny_pure ⟨rfl, h', tk', Z, m, rfl, hS', hmn, g', hkp⟩
      · cases r₂ with
        | error e => exact hr₂
        | ok fl₂ =>
          cases fl₂ with
          | ret r =>
            obtain ⟨rfl, h', tk, Z, m, rfl, hS', hmn, g', hk'⟩ := hr₂
            repeat (any_goals (first | assumption | wp_step))
            exact h _ _ _ _ hS' hmn g' hk'
          | _ => exact hr₂.elim
    | _ => exact hr.elim
end
end SG
end DL
-- part DL12
set_option Elab.async false
set_option linter.all false
set_option maxRecDepth 100000
set_option maxHeartbeats 4000000
namespace DL
namespace SG
open PySem PySem.Spec PyProof.Rows L2
section
variable {P : Program} {w : World} {T : Type} [DecidableEq T]
/-- list.sort over such keys -/
def Sorts (knd : PySem.KeyKind P w T) (kof : Value → T) (le : T → T → Bool) : Prop :=
  ∀ (A : Around) (E : Value → Shared → Prop) (s1 : Shared) (b : Addr) (n : Nat) (vs : List Value) (P' : PySem.Fin → Shared → Prop), s1.heap.get? b = some (seqObj "list" vs.toArray n) → (∀ v ∈ vs, knd.is (kof v) v = true) → vs.length ≤ sizeLine →
    (∀ out : Array Value, out.toList.map kof = isort le (vs.map kof) → (∀ v ∈ out.toList, knd.is (kof v) v = true) → P' (.done (.ret .none)) { s1 with heap := sortedHeap s1.heap b vs out }) → wpAny (model P w) A (Builtin.«list.sort» ⟨[.ref b], []⟩) P' E s1
variable {knd : PySem.KeyKind P w T} {kof : Value → T} {a : Addr} {A : Around} {E : Value → Shared → Prop} {s : Shared}
theorem sorted_setG {le : T → T → Bool} {S : T → Bool} {n : Nat} {Q : Value → Shared → Prop} (Z : TotB le) (O : Kof knd kof) (srt : Sorts knd kof le) (R : SetG knd kof s.heap a S n) (hh : A.handled = none)
    (hQ : ∀ s' p (out : Array Value) (c : Nat) (ks : List T), (∀ b o, s.heap.get? b = some o → s'.heap.get? b = some o) → s'.gens = s.gens → s'.os = s.os → s.heap.objs.size ≤ p →
      s'.heap.get? p = some (seqObj "list" out c) → out.toList.map kof = isort le ks → (∀ v ∈ out.toList, knd.is (kof v) v = true) → ks.Nodup → (∀ k, k ∈ ks ↔ S k = true) → out.size ≤ sizeLine → Q (.ref p) s') :
    wpAny (model P w) A (call (.builtin "sorted") [.ref a]) Q E s := by
  obtain ⟨o, es, ep, t, ho, hex, hd, hel, nd, hm, hb, hf, hn, hr, hl⟩ := R
  refine Calls.call_function_entry kind_sorted plain_sorted entry_sorted (args_sorted1 _) ?_
  unfold Builtin.«sorted»
  refine wpAny_bind (m := checkCount "sorted" 1 1 _) (wpAny_pure ?_)
  refine wpAny_bind (collect_set (A := A.in1) hh ⟨o, ho, hex.1, hd⟩ hf hb hr hl fun s1 vs k1 hz g1 o1 pm => ?_)
  have hvl : vs.length ≤ sizeLine := by rw [pm.length_eq, List.length_map, Array.length_toList]; exact fits_of_scanBound hb
  have hI : ∀ v ∈ vs, knd.is (kof v) v = true := fun v hv => by
    obtain ⟨e, he, q⟩ := List.mem_map.mp (pm.mem_iff.mp hv)
    obtain ⟨⟨k, h1, _⟩, _⟩ := hel e he
    rw [← q, O.of k e.2 h1]; exact h1
  have pk : (vs.map kof).Perm (es.toList.map (keyG kof)) := by
    have q := pm.map kof
    rw [List.map_map] at q
    exact q
  refine wpAny_bind (wpAny_newList ?_ hvl)
  have hoL : (s1.heap.push (seqObj "list" vs.toArray 0)).get? s1.heap.objs.size = some (seqObj "list" vs.toArray 0) := Heap.get?_push_size _ rfl
  refine wpAny_bind (wpAny_holding (wpAny_call_entry slot_list_sort ⟨_, hoL, rfl⟩ entry_list_sort (srt _ _ { s1 with heap := s1.heap.push (seqObj "list" vs.toArray 0) } _ _ vs _ hoL hI hvl fun out a1 a2 => ⟨_, rfl, ?_⟩) (args_list_sort _)))
  obtain ⟨c, hc⟩ := sortedHeap_at (vs := vs) (out := out) hoL
  refine wpAny_pure ⟨_, rfl, hQ _ s1.heap.objs.size out c (vs.map kof) (fun b u e => ?_) g1 o1 hz hc a1 a2 (pk.nodup_iff.mpr nd) (fun k => by rw [pk.mem_iff, ← hm k]) ?_⟩
  · have q := k1 b u e
    have hlt := Heap.lt_size q
    show (sortedHeap (s1.heap.push (seqObj "list" vs.toArray 0)) s1.heap.objs.size vs out).get? b = some u
    rw [sortedHeap_old (Nat.ne_of_lt hlt) (by rw [size_push']; exact Nat.lt_succ_of_lt hlt)]
    exact Heap.get?_push_of_some _ q
  · have q := congrArg List.length a1
    rw [List.length_map, Array.length_toList, (isort_perm le _).length_eq, List.length_map] at q
    rw [q]; exact hvl
end
/-! ### ints -/
def kofI : Value → Int
  | .int k _ => k
  | _ => 0
theorem kof_int {P : Program} {w : World} : Kof (PySem.intKind P w) kofI := by
  refine ⟨fun k v h => ?_, fun k v h => ?_⟩
  · obtain ⟨t, rfl⟩ := Value.isInt_shape h; rfl
  · obtain ⟨t, rfl⟩ := Value.isInt_shape h; rfl
theorem ints_kof {P : Program} {w : World} : ∀ {vs : List Value}, (∀ v ∈ vs, (PySem.intKind P w).is (kofI v) v = true) → IntsAre vs (vs.map kofI)
  | [], _ => .nil
  | v :: vs, h => by
    obtain ⟨t, e⟩ := Value.isInt_shape (h v List.mem_cons_self)
    rw [List.map_cons]
    have : v = .int (kofI v) t := e
    rw [this]
    exact .cons _ t (ints_kof fun u hu => h u (List.mem_cons_of_mem _ hu))
theorem kof_ints {P : Program} {w : World} : ∀ {vs : List Value} {ns : List Int}, IntsAre vs ns → vs.map kofI = ns ∧ ∀ v ∈ vs, (PySem.intKind P w).is (kofI v) v = true
  | _, _, .nil => ⟨rfl, fun v hv => by cases hv⟩
  | _, _, .cons n t h => by
    obtain ⟨h1, h2⟩ := kof_ints (P := P) (w := w) h
    refine ⟨by rw [List.map_cons, h1]; rfl, fun v hv => ?_⟩
    rcases List.mem_cons.mp hv with q | q
    · rw [q]; exact intKind_is P w n t
    · exact h2 v q
theorem sorts_int {P : Program} {w : World} : Sorts (PySem.intKind P w) kofI leI := by
  intro A E s1 b n vs P' ho hI hL h
  refine list_sort_treeAny ho (ints_kof hI) hL fun out ns' a1 a2 a3 => ?_
  obtain ⟨e1, e2⟩ := kof_ints (P := P) (w := w) a1
  refine h out ?_ e2
  rw [e1]
  exact isort_uniq totI a2 (a3.imp fun {x y} z => decide_eq_true z)
/-! ### texts -/
def kofS : Value → Str
  | .str k _ => k
  | _ => Str.empty
theorem kof_str {P : Program} {w : World} : Kof (PySem.strKind P w) kofS := by
  refine ⟨fun k v h => ?_, fun k v h => ?_⟩
  · obtain ⟨t, rfl⟩ := Value.isStrOf_shape h; rfl
  · obtain ⟨t, rfl⟩ := Value.isStrOf_shape h; rfl
theorem strKind_is (P : Program) (w : World) (x : Str) (t : Tok) : (PySem.strKind P w).is x (.str x t) = true := by
  show (x == x) = true
  exact beq_self_eq_true x
theorem strs_kof {P : Program} {w : World} : ∀ {vs : List Value}, (∀ v ∈ vs, (PySem.strKind P w).is (kofS v) v = true) → StrsAre vs (vs.map kofS)
  | [], _ => .nil
  | v :: vs, h => by
    obtain ⟨t, e⟩ := Value.isStrOf_shape (h v List.mem_cons_self)
    rw [List.map_cons]
    have : v = .str (kofS v) t := e
    rw [this]
    exact .cons _ t (strs_kof fun u hu => h u (List.mem_cons_of_mem _ hu))
theorem kof_strs {P : Program} {w : World} : ∀ {vs : List Value} {ns : List Str}, StrsAre vs ns → vs.map kofS = ns ∧ ∀ v ∈ vs, (PySem.strKind P w).is (kofS v) v = true
  | _, _, .nil => ⟨rfl, fun v hv => by cases hv⟩
  | _, _, .cons n t h => by
    obtain ⟨h1, h2⟩ := kof_strs (P := P) (w := w) h
    refine ⟨by rw [List.map_cons, h1]; rfl, fun v hv => ?_⟩
    rcases List.mem_cons.mp hv with q | q
    · rw [q]; exact strKind_is P w n t
    · exact h2 v q
theorem sorts_str {P : Program} {w : World} : Sorts (PySem.strKind P w) kofS leS := by
  intro A E s1 b n vs P' ho hS hL h
  have hS := strs_kof hS
  refine list_sort_treeKAny strKind_oneLt ho hS.keysOf (fun v₁ v₂ rest e => keyKind_strs (by rw [← e]; exact hS)) hL fun st' hp hs => ?_
  obtain ⟨ss', h1, h2, h3⟩ := sorted_out_str hS hp hs
  obtain ⟨e1, e2⟩ := kof_strs (P := P) (w := w) h1
  refine h _ ?_ e2
  rw [e1]
  exact isort_uniq totS h2 (sortedS_le h3)
end SG
end DL
-- part DL13
set_option Elab.async false
set_option linter.all false
set_option maxRecDepth 100000
set_option maxHeartbeats 4000000
/-! sorted(set(xs)) as a rule of the data layer -/
namespace DL
open PySem PySem.Spec PyProof.Rows L2
namespace SG
variable {T : Type} [DecidableEq T]
def SGO {P : Program} {w : World} (knd : PySem.KeyKind P w T) (kof : Value → T) (a : Addr) (S : T → Bool) (n : Nat) : HO := .ext fun h => SetG knd kof h a S n
theorem sgo_new {P : Program} {w : World} {knd : PySem.KeyKind P w T} {kof : Value → T} {H : Hp} {h : Heap} {a : Addr} {S : T → Bool} {n : Nat} (R : SetG knd kof h a S n) : ObjOk P w H h a (SGO knd kof a S n) := by
  have ⟨o, es, ep, t, ho, q⟩ := R
  exact ⟨R, ⟨o, ho⟩, fun h1 h2 p k => SetG.at (h := h1) (h' := h2) p k⟩
/-- set(xs) -/
def rSetOf {P : Program} {w : World} (K : PySem.W.Frag) (knd : PySem.KeyKind P w T) (kof : Value → T) (f : T → V) : List V → Hp → VK → Prop := fun xs H Q => ∃ (l : Addr) (ks : List T), xs = [V.ref l] ∧ SqL K H l (ks.map f) ∧ ks.length < 4000 ∧
  ∀ a S n, H a = none → (∀ k, S k = true ↔ k ∈ ks) → Q (.ref a) (upd H a (SGO knd kof a S n))
section
variable {X : Cx} {knd : PySem.KeyKind X.prog X.w T} {kof : Value → T} {f : T → V}
theorem vals_get {xs : List V} {us : List Value} (r : Vals xs us) : ∀ (i : Nat) (u : Value), us[i]? = some u → ∃ x, xs[i]? = some x ∧ RelV x u := by
  unfold Vals at r
  induction r with
  | nil => intro i u h; simp at h
  | cons h t ih =>
    intro i u e
    cases i with
    | zero => cases Option.some.inj (show some _ = some _ from e); exact ⟨_, rfl, h⟩
    | succ i => exact ih i u e
theorem cr_setOf (hc : X.calm = true) (O : Kof knd kof) (hf : ∀ k u, RelV (f k) u → knd.is k u = true) : CallR X (.type "set") (rSetOf X.K knd kof f) := by
  intro pins s σ H xs us Q I r h
  obtain ⟨l, ks, rfl, hl, hfew, q⟩ := h
  rw [Vals.ref1 r]
  obtain ⟨its, rv, pl, hz⟩ := I.list hl
  have hn : H s.heap.objs.size = none := I.hok.fresh (Nat.le_refl _)
  have hlen := rv.length
  rw [List.length_map] at hlen
  refine call_set (P := X.prog) (w := X.w) O ks (I.ok.hd hc) pl.isList (by simpa using hlen.symm) (fun i v hv => ?_) hfew fun h' tk Z m R hm g k => ?_
  · obtain ⟨x, e1, e2⟩ := vals_get rv i v (by simpa using hv)
    rw [List.getElem?_map] at e1
    cases e : ks[i]? with
    | none => rw [e] at e1; cases e1
    | some k =>
      rw [e] at e1
      cases Option.some.inj (show some _ = some _ from e1)
      exact ⟨k, rfl, hf k v e2⟩
  · exact ⟨.ref s.heap.objs.size, upd H s.heap.objs.size (SGO knd kof s.heap.objs.size Z m), I.laid (t' := tk) k (Nat.le_refl _) (sgo_new R), rfl, q _ Z m hn g⟩
/-- sorted(set) -/
def rSortedG {P : Program} {w : World} (knd : PySem.KeyKind P w T) (kof : Value → T) (f : T → V) (le : T → T → Bool) : List V → Hp → VK → Prop := fun vs H Q => ∃ (a : Addr) (S : T → Bool) (n : Nat), vs = [V.ref a] ∧ H a = some (SGO knd kof a S n) ∧
  ∀ (ks : List T) (p : Addr), ks.Nodup → (∀ k, k ∈ ks ↔ S k = true) → H p = none → Q (.ref p) (upd H p (.lst ((isort le ks).map f)))
theorem cr_sortedG (hc : X.calm = true) {le : T → T → Bool} (Z : TotB le) (O : Kof knd kof) (srt : Sorts knd kof le) (hv : ∀ {vs : List Value}, (∀ v ∈ vs, knd.is (kof v) v = true) → Vals ((vs.map kof).map f) vs) : CallR X (.builtin "sorted") (rSortedG knd kof f le) := by
  intro pins s σ H vs us Q I r h
  obtain ⟨a, S, n, rfl, ha, q⟩ := h
  have R : SetG knd kof s.heap a S n := (I.hok a _ ha).1
  rw [Vals.ref1 r]
  refine sorted_setG Z O srt R (I.ok.hd hc) fun s' p out c ks k g o hp hg a1 a2 hd hm hz => ?_
  have hn : H p = none := I.hok.fresh hp
  have hvv : Vals ((isort le ks).map f) out.toList := by rw [← a1]; exact hv a2
  have hlen : ((isort le ks).map f).length ≤ sizeLine := by
    rw [hvv.length, Array.length_toList]; exact hz
  have J : Inv X pins σ (upd H p (.lst ((isort le ks).map f))) { s with heap := s'.heap, gens := s'.gens, drawn := s'.drawn, toks := s'.toks } :=
    I.call (ch := []) (Un.laid k hp hn) (I.hok.laid k hp ⟨hlen, out.toList, c, hvv, hg⟩) (by rw [g]; exact I.bare) (fun _ z => nomatch z)
  have e : s' = { s with heap := s'.heap, gens := s'.gens, drawn := s'.drawn, toks := s'.toks } := by
    cases s'
    cases s
    cases o
    rfl
  rw [e]
  exact ⟨.ref p, _, J, rfl, q ks p hd hm hn⟩
end
end SG
section
variable {α : Type} [DecidableEq α]
/-- each once, the first of equals kept away -/
def nub : List α → List α
  | [] => []
  | x :: xs => if x ∈ nub xs then nub xs else x :: nub xs
theorem mem_nub {x : α} : ∀ {l : List α}, x ∈ nub l ↔ x ∈ l
  | [] => Iff.rfl
  | y :: l => by
    unfold nub
    split
    · rename_i h
      rw [List.mem_cons, mem_nub]
      exact ⟨.inr, fun z => z.elim (fun e => by rw [e]; exact mem_nub.mp h) id⟩
    · rw [List.mem_cons, List.mem_cons, mem_nub]
theorem nodup_nub : ∀ l : List α, (nub l).Nodup
  | [] => List.nodup_nil
  | y :: l => by
    unfold nub
    split
    · exact nodup_nub l
    · rename_i h; exact List.nodup_cons.mpr ⟨h, nodup_nub l⟩
theorem perm_of_mem : ∀ {l m : List α}, l.Nodup → m.Nodup → (∀ x, x ∈ l ↔ x ∈ m) → l.Perm m := by
  intro l m h1 h2 h
  exact (List.perm_ext_iff_of_nodup h1 h2).mpr h
end
section
variable {X : Cx} {e : Expr} {te : RE} {p p2 pos pos2 : Pos}
def xSortSetI (m : Bool) (te : RE) : RE := fun ρ M P => te ρ M fun d M1 => match (lstD M1 d).bind nums with
  | some xs => xs.length < 4000 ∧ mk m ((isort leI (nub xs)).map D.int) M1 P
  | none => False
def xSortSetS (m : Bool) (te : RE) : RE := fun ρ M P => te ρ M fun d M1 => match (lstD M1 d).bind txts with
  | some xs => xs.length < 4000 ∧ mk m ((isort leS (nub xs)).map D.str) M1 P
  | none => False
theorem vals_kofI {P : Program} {w : World} {vs : List Value} (h : ∀ v ∈ vs, (PySem.intKind P w).is (SG.kofI v) v = true) : Vals ((vs.map SG.kofI).map V.int) vs := vals_of_ints (SG.ints_kof h)
theorem vals_kofS {P : Program} {w : World} {vs : List Value} (h : ∀ v ∈ vs, (PySem.strKind P w).is (SG.kofS v) v = true) : Vals ((vs.map SG.kofS).map V.str) vs := vals_of_strs (SG.strs_kof h)
theorem de_sortSetI (m : Bool) (hc : X.calm = true) (hm : X.mg "sorted" = none) (hm2 : X.mg "set" = none) (he : DE X e te) (hg : Gl X "sorted" := by rfl) (hg2 : Gl X "set" := by rfl)
    (he1 : starEach [e] X.env = (false, eval e X.env) :: starEach [] X.env := by rfl) (he2 : starEach [.Call (.Name "set" p2) [e] [] pos2] X.env = (false, eval (.Call (.Name "set" p2) [e] [] pos2) X.env) :: starEach [] X.env := by rfl) :
    DE X (.Call (.Name "sorted" p) [.Call (.Name "set" p2) [e] [] pos2] [] pos) (xSortSetI m te) := by
  refine PE.imp (pe_callB (SG.cr_sortedG (knd := PySem.intKind X.prog X.w) (f := V.int) hc totI SG.kof_int SG.sorts_int vals_kofI) hg hm (by decide +kernel)
    (pa_cons (pe_callTy (SG.cr_setOf (knd := PySem.intKind X.prog X.w) (f := V.int) hc SG.kof_int fun k u ⟨t, ht⟩ => by rw [ht]; exact intKind_is _ _ k t) hg2 hm2 (by decide +kernel) (pa_cons he pa_nil he1) (by decide) (by decide) he1 (by rfl)) pa_nil he2) (by decide) (by decide) he2 (by rfl)) fun σ H Q ⟨ρ, F, M, P, er, w, h, k⟩ => ?_
  refine ⟨ρ, F, M, _, er, w, h, fun d M1 x F1 H1 p1 g1 r1 => ?_⟩
  show tNil σ H1 _
  have p1 : (match (lstD M1 d).bind nums with | some xs => xs.length < 4000 ∧ mk m ((isort leI (nub xs)).map D.int) M1 P | none => False) := p1
  cases q : lstD M1 d with
  | none => rw [q] at p1; exact p1.elim
  | some es =>
    rw [q] at p1
    have p1 : (match nums es with | some xs => xs.length < 4000 ∧ mk m ((isort leI (nub xs)).map D.int) M1 P | none => False) := p1
    cases q2 : nums es with
    | none => rw [q2] at p1; exact p1.elim
    | some xs =>
      rw [q2] at p1
      obtain ⟨a, vs, rfl, h1, h2⟩ := lst_of g1.w r1 q
      rw [nums_some q2] at h2
      rw [h2.intsInv] at h1
      refine ⟨a, xs, rfl, SqL.of h1, p1.1, fun b S n nb hS => ⟨b, S, n, rfl, upd_same, fun ks p' nd hm np => ?_⟩⟩
      have g2 := Go.junk g1.w nb (SG.SGO (PySem.intKind X.prog X.w) SG.kofI b S n)
      have e : isort leI ks = isort leI (nub xs) := isort_congr totI (perm_of_mem nd (nodup_nub _) fun z => by rw [hm, hS, mem_nub])
      rw [e]
      exact mk_ok g2.w (Reps.ints _) p1.2 (fun d' M' v F' H' q g r => k d' M' v F' H' q ((g1.trans g2).trans g) r) np
theorem de_sortSetS (m : Bool) (hc : X.calm = true) (hm : X.mg "sorted" = none) (hm2 : X.mg "set" = none) (he : DE X e te) (hg : Gl X "sorted" := by rfl) (hg2 : Gl X "set" := by rfl)
    (he1 : starEach [e] X.env = (false, eval e X.env) :: starEach [] X.env := by rfl) (he2 : starEach [.Call (.Name "set" p2) [e] [] pos2] X.env = (false, eval (.Call (.Name "set" p2) [e] [] pos2) X.env) :: starEach [] X.env := by rfl) :
    DE X (.Call (.Name "sorted" p) [.Call (.Name "set" p2) [e] [] pos2] [] pos) (xSortSetS m te) := by
  refine PE.imp (pe_callB (SG.cr_sortedG (knd := PySem.strKind X.prog X.w) (f := V.str) hc totS SG.kof_str SG.sorts_str vals_kofS) hg hm (by decide +kernel)
    (pa_cons (pe_callTy (SG.cr_setOf (knd := PySem.strKind X.prog X.w) (f := V.str) hc SG.kof_str fun k u ⟨t, ht⟩ => by rw [ht]; exact SG.strKind_is _ _ k t) hg2 hm2 (by decide +kernel) (pa_cons he pa_nil he1) (by decide) (by decide) he1 (by rfl)) pa_nil he2) (by decide) (by decide) he2 (by rfl)) fun σ H Q ⟨ρ, F, M, P, er, w, h, k⟩ => ?_
  refine ⟨ρ, F, M, _, er, w, h, fun d M1 x F1 H1 p1 g1 r1 => ?_⟩
  show tNil σ H1 _
  have p1 : (match (lstD M1 d).bind txts with | some xs => xs.length < 4000 ∧ mk m ((isort leS (nub xs)).map D.str) M1 P | none => False) := p1
  cases q : lstD M1 d with
  | none => rw [q] at p1; exact p1.elim
  | some es =>
    rw [q] at p1
    have p1 : (match txts es with | some xs => xs.length < 4000 ∧ mk m ((isort leS (nub xs)).map D.str) M1 P | none => False) := p1
    cases q2 : txts es with
    | none => rw [q2] at p1; exact p1.elim
    | some xs =>
      rw [q2] at p1
      obtain ⟨a, vs, rfl, h1, h2⟩ := lst_of g1.w r1 q
      rw [txts_some q2] at h2
      rw [h2.strsInv] at h1
      refine ⟨a, xs, rfl, SqL.of h1, p1.1, fun b S n nb hS => ⟨b, S, n, rfl, upd_same, fun ks p' nd hm np => ?_⟩⟩
      have g2 := Go.junk g1.w nb (SG.SGO (PySem.strKind X.prog X.w) SG.kofS b S n)
      have e : isort leS ks = isort leS (nub xs) := isort_congr totS (perm_of_mem nd (nodup_nub _) fun z => by rw [hm, hS, mem_nub])
      rw [e]
      exact mk_ok g2.w (Reps.strs _) p1.2 (fun d' M' v F' H' q g r => k d' M' v F' H' q ((g1.trans g2).trans g) r) np
end
end DL
-- part Tt
set_option Elab.async false
set_option linter.all false
namespace DL
open PySem PySem.Spec PyProof.Rows L2
def D_LETTERS : D := .str "abcdefghijklmnopqrstuvwxyz"
def D_MOST_PLACE : D := .int 31
def D_MOST_ADD : D := .int 16
def D_MOST_WORD : D := .int 8
def D_MOST_STRENGTH : D := .int 9
def D_MOST_TESTS : D := .int 3
def D_MOST_PARTS : D := .int 2
def D_MOST_RULES : D := .int 4
def D_MOST_PAIRS : D := .int 2
def D_EVERY : D := .tup [.int 0, .int 1, .int 2, .int 3, .int 4, .int 5, .int 6, .int 7, .int 8, .int 9, .int 10, .int 11, .int 12, .int 13, .int 14, .int 15]
def D_START : D := .tup [.int 0, .int 40, .tup []]
def D_DIGITS : D := .str "0123456789abcdef"
def D_MOST_FILE : D := .int 40
def t_is_between : RS := (sRet (xAnd (xIsi "int" (xVar 0)) (xAnd (xNot (xIsi "bool" (xVar 0))) (xChain fLe fLe (xVar 1) (xVar 0) (xVar 2)))))
abbrev N_is_between : List Str := ["value", "low", "high"]
def t_is_where (R_is_between : RF) : RS := (sSeq (sIf (xB (xIsi "tuple" (xVar 0))) (sRet (xAnd (xOp (fEq false) (xCB fLen (aCons (xVar 0) aNil)) (xC (.int 2))) (xAnd (xCall R_is_between (aCons (xOp fIx (xVar 0) (xC (.int 0))) (aCons (xC (.int 0)) (aCons (xC D_MOST_PLACE) aNil)))) (xCall R_is_between (aCons (xOp fIx (xVar 0) (xC (.int 1))) (aCons (xC (.int 0)) (aCons (xC D_MOST_ADD) aNil))))))) sNext) (sRet (xCall R_is_between (aCons (xVar 0) (aCons (xC (.int 0)) (aCons (xC D_MOST_PLACE) aNil))))))
abbrev N_is_where : List Str := ["value"]
def t_is_test (R_is_where : RF) (R_is_between : RF) : RS := (sSeq (sIf (yOr (yNot (xB (xIsi "tuple" (xVar 0)))) (yOr (xB (xOp (fEq true) (xCB fLen (aCons (xVar 0) aNil)) (xC (.int 3)))) (yNot (xB (xCall R_is_where (aCons (xOp fIx (xVar 0) (xC (.int 0))) aNil)))))) (sRet (xC (.bl false))) sNext) (sRet (xAnd (xIsi "str" (xOp fIx (xVar 0) (xC (.int 1)))) (xAnd (xOp (fIn false) (xOp fIx (xVar 0) (xC (.int 1))) (xTup (aCons (xC (.str "=")) (aCons (xC (.str "!")) (aCons (xC (.str "<")) (aCons (xC (.str ">")) (aCons (xC (.str "&")) aNil))))))) (xCall R_is_between (aCons (xOp fIx (xVar 0) (xC (.int 2))) (aCons (xC (.int 0)) (aCons (xC (.int 15)) aNil))))))))
abbrev N_is_test : List Str := ["value"]
def t_is_word : RS := (sRet (xAnd (xIsi "str" (xVar 0)) (xAnd (xChain fLe fLe (xC (.int 1)) (xCB fLen (aCons (xVar 0) aNil)) (xC D_MOST_WORD)) (xCB fAll (aCons (xLc false (iS (xVar 0)) (gN 1) yYes (xOp (fIn false) (xVar 1) (xC D_LETTERS)) [1]) aNil)))))
abbrev N_is_word : List Str := ["value", "letter"]
def t_is_part (R_is_word : RF) (R_is_test : RF) : RS := (sRet (xAnd (xIsi "tuple" (xVar 0)) (xAnd (xOp (fEq false) (xCB fLen (aCons (xVar 0) aNil)) (xC (.int 2))) (xAnd (xCall R_is_word (aCons (xOp fIx (xVar 0) (xC (.int 0))) aNil)) (xCall R_is_test (aCons (xOp fIx (xVar 0) (xC (.int 1))) aNil))))))
abbrev N_is_part : List Str := ["value"]
def t_is_rule (R_is_word : RF) (R_is_between : RF) (R_is_test : RF) (R_is_part : RF) : RS := (sSeq (sIf (yOr (yNot (xB (xIsi "tuple" (xVar 0)))) (yOr (xB (xOp (fEq true) (xCB fLen (aCons (xVar 0) aNil)) (xC (.int 4)))) (yNot (xB (xCall R_is_word (aCons (xOp fIx (xVar 0) (xC (.int 0))) aNil)))))) (sRet (xC (.bl false))) sNext) (sSeq (sAsg (xVar 0) (gT (gCons (gN 1) (gCons (gN 2) (gCons (gN 3) (gCons (gN 4) gNil)))))) (sSeq (sIf (yOr (yNot (xB (xCall R_is_between (aCons (xVar 2) (aCons (xC (.int 0)) (aCons (xC D_MOST_STRENGTH) aNil)))))) (yOr (yNot (xB (xIsi "tuple" (xVar 3)))) (yNot (xB (xIsi "tuple" (xVar 4)))))) (sRet (xC (.bl false))) sNext) (sSeq (sIf (yOr (yNot (xB (xChain fLe fLe (xC (.int 1)) (xCB fLen (aCons (xVar 3) aNil)) (xC D_MOST_TESTS)))) (xB (xOp fGt (xCB fLen (aCons (xVar 4) aNil)) (xC D_MOST_PARTS)))) (sRet (xC (.bl false))) sNext) (sRet (xAnd (xCB fAll (aCons (xLc false (iT (xVar 3)) (gN 5) yYes (xCall R_is_test (aCons (xVar 5) aNil)) [5]) aNil)) (xCB fAll (aCons (xLc false (iT (xVar 4)) (gN 6) yYes (xCall R_is_part (aCons (xVar 6) aNil)) [6]) aNil))))))))
abbrev N_is_rule : List Str := ["value", "word", "strength", "tests", "parts", "test", "part"]
def t_tests_of : RS := (sRet (xOp fAdd (xCB (fList false) (aCons (xOp fIx (xVar 0) (xC (.int 2))) aNil)) (xLc false (iT (xOp fIx (xVar 0) (xC (.int 3)))) (gT (gCons (gN 1) (gCons (gN 2) gNil))) yYes (xVar 2) [1, 2])))
abbrev N_tests_of : List Str := ["rule", "word", "test"]
def t_pairs_in (R_tests_of : RF) : RS := (sSeq (sSet 1 (xC (.int 0))) (sSeq (sFor (iT (xVar 0)) (gN 2) (sSet 1 (xOp fAdd (xVar 1) (xCB fLen (aCons (xLc false (iL (xCall R_tests_of (aCons (xVar 2) aNil))) (gN 3) (xB (xIsi "tuple" (xOp fIx (xVar 3) (xC (.int 0))))) (xVar 3) [3]) aNil))))) (sRet (xVar 1))))
abbrev N_pairs_in : List Str := ["rules", "count", "rule", "test"]
def t_is_book (R_is_rule : RF) (R_pairs_in : RF) : RS := (sSeq (sIf (yOr (yNot (xB (xIsi "tuple" (xVar 0)))) (yOr (xB (xOp fGt (xCB fLen (aCons (xVar 0) aNil)) (xC D_MOST_RULES))) (yNot (xB (xCB fAll (aCons (xLc false (iT (xVar 0)) (gN 1) yYes (xCall R_is_rule (aCons (xVar 1) aNil)) [1]) aNil)))))) (sRet (xC (.bl false))) sNext) (sRet (xOp fLe (xCall R_pairs_in (aCons (xVar 0) aNil)) (xC D_MOST_PAIRS))))
abbrev N_is_book : List Str := ["value", "rule"]
def t_need_book (R_is_book : RF) : RS := (sIf (yNot (xB (xCall R_is_book (aCons (xVar 0) aNil)))) sNever sNext)
abbrev N_need_book : List Str := ["book"]
def t_fits : RS := (sSeq (sIf (xB (xOp (fEq false) (xVar 1) (xC (.str "=")))) (sRet (xOp (fEq false) (xVar 0) (xVar 2))) sNext) (sSeq (sIf (xB (xOp (fEq false) (xVar 1) (xC (.str "!")))) (sRet (xOp (fEq true) (xVar 0) (xVar 2))) sNext) (sSeq (sIf (xB (xOp (fEq false) (xVar 1) (xC (.str "<")))) (sRet (xOp fLt (xVar 0) (xVar 2))) sNext) (sRet (xIf (xB (xOp (fEq false) (xVar 1) (xC (.str ">")))) (xOp fGt (xVar 0) (xVar 2)) (xOp (fEq false) (xOp fAnd (xVar 0) (xVar 2)) (xVar 2)))))))
abbrev N_fits : List Str := ["number", "how", "value"]
def t_order_of : RS := (sRet (xLc false (iL (xCB fSortPP (aCons (xLc false (iET (xVar 0)) (gT (gCons (gN 2) (gCons (gN 3) gNil))) yYes (xTup (aCons (xUn fNeg (xOp fIx (xVar 3) (xC (.int 1)))) (aCons (xVar 2) aNil))) [2, 3]) aNil))) (gT (gCons (gN 1) (gCons (gN 2) gNil))) yYes (xVar 2) [1, 2]))
abbrev N_order_of : List Str := ["book", "strength", "index", "rule"]
def t_digits_at : RS := (sSeq (sFor (iT (xOp fIx (xVar 0) (xC (.int 2)))) (gT (gCons (gN 2) (gCons (gN 3) gNil))) (sIf (xB (xOp (fEq false) (xVar 2) (xVar 1))) (sRet (xVar 3)) sNext)) (sRet (xC D_EVERY)))
abbrev N_digits_at : List Str := ["case", "place", "one", "digits"]
def t_with_digits : RS := (sSeq (sSet 3 (xCB fTuple (aCons (xLc false (iT (xOp fIx (xVar 0) (xC (.int 2)))) (gN 4) (xB (xOp (fEq true) (xOp fIx (xVar 4) (xC (.int 0))) (xVar 1))) (xVar 4) [4]) aNil))) (sRet (xTup (aCons (xOp fIx (xVar 0) (xC (.int 0))) (aCons (xOp fIx (xVar 0) (xC (.int 1))) (aCons (xOp fAdd (xVar 3) (xTup (aCons (xTup (aCons (xVar 1) (aCons (xVar 2) aNil))) aNil))) aNil))))))
abbrev N_with_digits : List Str := ["case", "place", "digits", "kept", "pair"]
def t_without_place : RS := (sRet (xIf (xB (xOp fLe (xOp fIx (xVar 0) (xC (.int 0))) (xVar 1))) (xLst false (aCons (xTup (aCons (xOp fIx (xVar 0) (xC (.int 0))) (aCons (xCB fMin2 (aCons (xOp fIx (xVar 0) (xC (.int 1))) (aCons (xVar 1) aNil))) (aCons (xOp fIx (xVar 0) (xC (.int 2))) aNil)))) aNil)) (xLst false aNil)))
abbrev N_without_place : List Str := ["case", "place"]
def t_with_place : RS := (sRet (xIf (xB (xOp fLt (xVar 1) (xOp fIx (xVar 0) (xC (.int 1))))) (xLst false (aCons (xTup (aCons (xCB fMax2 (aCons (xOp fIx (xVar 0) (xC (.int 0))) (aCons (xOp fAdd (xVar 1) (xC (.int 1))) aNil))) (aCons (xOp fIx (xVar 0) (xC (.int 1))) (aCons (xOp fIx (xVar 0) (xC (.int 2))) aNil)))) aNil)) (xLst false aNil)))
abbrev N_with_place : List Str := ["case", "place"]
def t_split_place (R_without_place : RF) (R_with_place : RF) (R_digits_at : RF) (R_fits : RF) (R_with_digits : RF) : RS := (sSeq (sSet 5 (xLc false (iL (xCall R_without_place (aCons (xVar 0) (aCons (xVar 1) aNil)))) (gN 6) yYes (xTup (aCons (xC (.bl false)) (aCons (xVar 6) aNil))) [6])) (sSeq (sFor (iL (xCall R_with_place (aCons (xVar 0) (aCons (xVar 1) aNil)))) (gN 7) (sSeq (sSet 8 (xCall R_digits_at (aCons (xVar 7) (aCons (xVar 4) aNil)))) (sSeq (sSet 9 (xCB fTuple (aCons (xLc false (iT (xVar 8)) (gN 10) (xB (xCall R_fits (aCons (xVar 10) (aCons (xVar 2) (aCons (xVar 3) aNil))))) (xVar 10) [10]) aNil))) (sSeq (sSet 11 (xCB fTuple (aCons (xLc false (iT (xVar 8)) (gN 10) (xB (xOp (fIn true) (xVar 10) (xVar 9))) (xVar 10) [10]) aNil))) (sSeq (sIf (xB (xOp (fEq true) (xVar 9) (xTup aNil))) (sSet 5 (xOp fAdd (xVar 5) (xLst false (aCons (xTup (aCons (xC (.bl true)) (aCons (xCall R_with_digits (aCons (xVar 7) (aCons (xVar 4) (aCons (xVar 9) aNil)))) aNil))) aNil)))) sNext) (sIf (xB (xOp (fEq true) (xVar 11) (xTup aNil))) (sSet 5 (xOp fAdd (xVar 5) (xLst false (aCons (xTup (aCons (xC (.bl false)) (aCons (xCall R_with_digits (aCons (xVar 7) (aCons (xVar 4) (aCons (xVar 11) aNil)))) aNil))) aNil)))) sNext)))))) (sRet (xVar 5))))
abbrev N_split_place : List Str := ["case", "place", "how", "value", "named", "found", "one", "there", "digits", "good", "digit", "bad"]
def t_split_test (R_without_place : RF) (R_with_place : RF) (R_digits_at : RF) (R_with_digits : RF) (R_split_place : RF) : RS := (sSeq (sAsg (xVar 1) (gT (gCons (gN 4) (gCons (gN 5) (gCons (gN 6) gNil))))) (sSeq (sSet 7 (xLst false (aCons (xTup (aCons (xVar 0) (aCons (xVar 4) aNil))) aNil))) (sSeq (sSet 8 (xLst false aNil)) (sSeq (sIf (xB (xIsi "tuple" (xVar 4))) (sSeq (sSet 9 (xOp fIx (xVar 4) (xC (.int 0)))) (sSeq (sSet 10 (xIf (xB (xOp (fEq false) (xVar 9) (xVar 2))) (xUn fNeg (xC (.int 1))) (xVar 9))) (sSeq (sIf (yAnd (xB (xOp (fIs true) (xVar 3) (xC .non))) (xB (xOp fGe (xVar 9) (xVar 3)))) (sRet (xLst false (aCons (xTup (aCons (xC (.bl false)) (aCons (xVar 0) aNil))) aNil))) sNext) (sSeq (sSet 8 (xLc false (iL (xCall R_without_place (aCons (xVar 0) (aCons (xVar 9) aNil)))) (gN 11) yYes (xTup (aCons (xC (.bl false)) (aCons (xVar 11) aNil))) [11])) (sSeq (sSet 7 (xLst false aNil)) (sFor (iL (xCall R_with_place (aCons (xVar 0) (aCons (xVar 9) aNil)))) (gN 12) (sSeq (sSet 13 (xCall R_digits_at (aCons (xVar 12) (aCons (xVar 10) aNil)))) (sSet 7 (xOp fAdd (xVar 7) (xLc false (iT (xVar 13)) (gN 14) yYes (xTup (aCons (xCall R_with_digits (aCons (xVar 12) (aCons (xVar 10) (aCons (xTup (aCons (xVar 14) aNil)) aNil)))) (aCons (xOp fAdd (xVar 14) (xOp fIx (xVar 4) (xC (.int 1)))) aNil))) [14])))))))))) sNext) (sSeq (sFor (iL (xVar 7)) (gT (gCons (gN 12) (gCons (gN 15) gNil))) (sIf (yAnd (xB (xOp (fIs true) (xVar 3) (xC .non))) (xB (xOp fGe (xVar 15) (xVar 3)))) (sSet 8 (xOp fAdd (xVar 8) (xLst false (aCons (xTup (aCons (xC (.bl false)) (aCons (xVar 12) aNil))) aNil)))) (sSet 8 (xOp fAdd (xVar 8) (xCall R_split_place (aCons (xVar 12) (aCons (xVar 15) (aCons (xVar 5) (aCons (xVar 6) (aCons (xIf (xB (xOp (fEq false) (xVar 15) (xVar 2))) (xUn fNeg (xC (.int 1))) (xVar 15)) aNil)))))))))) (sRet (xVar 8)))))))
abbrev N_split_test : List Str := ["case", "test", "other", "cut", "where", "how", "value", "spots", "found", "point", "named", "one", "there", "digits", "digit", "place"]
def t_split_all (R_split_test : RF) : RS := (sSeq (sPar 4 5 (xCB (fList false) (aCons (xVar 0) aNil)) (xLst false aNil)) (sSeq (sFor (iT (xVar 1)) (gN 6) (sSeq (sSet 7 (xLst false aNil)) (sSeq (sFor (iL (xVar 4)) (gN 8) (sSeq (sSet 9 (xCall R_split_test (aCons (xVar 8) (aCons (xVar 6) (aCons (xVar 2) (aCons (xVar 3) aNil)))))) (sSeq (sSet 7 (xOp fAdd (xVar 7) (xLc false (iL (xVar 9)) (gT (gCons (gN 10) (gCons (gN 11) gNil))) (xB (xVar 10)) (xVar 11) [10, 11]))) (sSet 5 (xOp fAdd (xVar 5) (xLc false (iL (xVar 9)) (gT (gCons (gN 10) (gCons (gN 11) gNil))) (yNot (xB (xVar 10))) (xVar 11) [10, 11])))))) (sSet 4 (xVar 7))))) (sRet (xTup (aCons (xVar 4) (aCons (xVar 5) aNil))))))
abbrev N_split_all : List Str := ["cases", "tests", "other", "cut", "good", "bad", "test", "nexts", "case", "pairs", "passed", "one"]
def t_split_parts (R_split_test : RF) : RS := (sSeq (sSet 4 (xLc false (iL (xVar 1)) (gN 5) yYes (xTup (aCons (xOp fIx (xVar 0) (xC (.int 0))) (aCons (xTup aNil) (aCons (xVar 5) aNil)))) [5])) (sSeq (sFor (iT (xOp fIx (xVar 0) (xC (.int 3)))) (gT (gCons (gN 6) (gCons (gN 7) gNil))) (sSeq (sSet 8 (xLst false aNil)) (sSeq (sFor (iL (xVar 4)) (gT (gCons (gN 9) (gCons (gN 10) (gCons (gN 5) gNil)))) (sFor (iL (xCall R_split_test (aCons (xVar 5) (aCons (xVar 7) (aCons (xVar 2) (aCons (xVar 3) aNil)))))) (gT (gCons (gN 11) (gCons (gN 12) gNil))) (sSet 8 (xOp fAdd (xVar 8) (xLst false (aCons (xTup (aCons (xIf (xB (xVar 11)) (xOp fAdd (xOp fAdd (xVar 9) (xC (.str " "))) (xVar 6)) (xVar 9)) (aCons (xOp fAdd (xVar 10) (xTup (aCons (xVar 11) aNil))) (aCons (xVar 12) aNil)))) aNil)))))) (sSet 4 (xVar 8))))) (sRet (xVar 4))))
abbrev N_split_parts : List Str := ["rule", "cases", "other", "cut", "found", "case", "word", "test", "nexts", "text", "said", "passed", "one"]
def t_lines_from (R_order_of : RF) (R_split_all : RF) (R_split_parts : RF) : RS := (sSeq (sPar 4 5 (xLst false aNil) (xLst false (aCons (xVar 1) aNil))) (sSeq (sFor (iL (xCall R_order_of (aCons (xVar 0) aNil))) (gN 6) (sSeq (sAsg (xCall R_split_all (aCons (xVar 5) (aCons (xOp fIx (xOp fIx (xVar 0) (xVar 6)) (xC (.int 2))) (aCons (xVar 2) (aCons (xVar 3) aNil))))) (gT (gCons (gN 7) (gCons (gN 5) gNil)))) (sSet 4 (xOp fAdd (xVar 4) (xLc false (iL (xCall R_split_parts (aCons (xOp fIx (xVar 0) (xVar 6)) (aCons (xVar 7) (aCons (xVar 2) (aCons (xVar 3) aNil)))))) (gT (gCons (gN 8) (gCons (gN 9) (gCons (gN 10) gNil)))) yYes (xTup (aCons (xVar 8) (aCons (xVar 6) (aCons (xVar 9) (aCons (xVar 10) aNil))))) [8, 9, 10]))))) (sRet (xOp fAdd (xVar 4) (xLc false (iL (xVar 5)) (gN 10) yYes (xTup (aCons (xC .non) (aCons (xC .non) (aCons (xTup aNil) (aCons (xVar 10) aNil))))) [10])))))
abbrev N_lines_from : List Str := ["book", "case", "other", "cut", "found", "left", "index", "good", "text", "said", "one"]
def t_lines_of (R_lines_from : RF) : RS := (sRet (xCall R_lines_from (aCons (xVar 0) (aCons (xC D_START) (aCons (xC .non) (aCons (xC .non) aNil))))))
abbrev N_lines_of : List Str := ["book"]
def t_place_matters (R_with_place : RF) (R_lines_from : RF) : RS := (sSeq (sFor (iL (xCall R_with_place (aCons (xC D_START) (aCons (xVar 1) aNil)))) (gN 2) (sFor (iL (xCall R_lines_from (aCons (xVar 0) (aCons (xVar 2) (aCons (xC .non) (aCons (xC .non) aNil)))))) (gT (gCons (gN 3) (gCons (gN 4) (gCons (gN 5) (gCons (gN 6) gNil))))) (sIf (xB (xOp (fEq true) (xLc false (iL (xCall R_lines_from (aCons (xVar 0) (aCons (xVar 6) (aCons (xVar 1) (aCons (xC .non) aNil)))))) (gN 7) (xB (xOp (fEq true) (xOp fIx (xVar 7) (xC (.int 0))) (xVar 3))) (xVar 7) [7]) (xLst false aNil))) (sRet (xC (.bl true))) sNext))) (sRet (xC (.bl false))))
abbrev N_place_matters : List Str := ["book", "place", "start", "text", "index", "said", "case", "line"]
def t_reads_of (R_place_matters : RF) : RS := (sRet (xLc true (iR1 (xOp fAdd (xC D_MOST_PLACE) (xC (.int 1)))) (gN 1) (xB (xCall R_place_matters (aCons (xVar 0) (aCons (xVar 1) aNil)))) (xVar 1) [1]))
abbrev N_reads_of : List Str := ["book", "place"]
def t_reads (R_need_book : RF) (R_reads_of : RF) : RS := (sSeq (sDrop (xCall R_need_book (aCons (xVar 0) aNil))) (sRet (xCall R_reads_of (aCons (xVar 0) aNil))))
abbrev N_reads : List Str := ["book"]
def t_is_enough (R_lines_of : RF) (R_lines_from : RF) : RS := (sSeq (sFor (iL (xCall R_lines_of (aCons (xVar 0) aNil))) (gT (gCons (gN 2) (gCons (gN 3) (gCons (gN 4) (gCons (gN 5) gNil))))) (sIf (xB (xOp (fEq true) (xLc false (iL (xCall R_lines_from (aCons (xVar 0) (aCons (xVar 5) (aCons (xC .non) (aCons (xVar 1) aNil)))))) (gN 6) (xB (xOp (fEq true) (xOp fIx (xVar 6) (xC (.int 0))) (xVar 2))) (xVar 6) [6]) (xLst false aNil))) (sRet (xC (.bl false))) sNext)) (sRet (xC (.bl true))))
abbrev N_is_enough : List Str := ["book", "number", "text", "index", "said", "case", "line"]
def t_enough (R_need_book : RF) (R_is_enough : RF) : RS := (sSeq (sDrop (xCall R_need_book (aCons (xVar 0) aNil))) (sSeq (sSet 1 (xC (.int 0))) (sSeq (sWhile (yNot (xB (xCall R_is_enough (aCons (xVar 0) (aCons (xVar 1) aNil))))) (sSet 1 (xOp fAdd (xVar 1) (xC (.int 1))))) (sRet (xVar 1)))))
abbrev N_enough : List Str := ["book", "number"]
def t_length_matters (R_lines_from : RF) (R_with_digits : RF) : RS := (sSeq (sFor (iL (xCall R_lines_from (aCons (xVar 0) (aCons (xTup (aCons (xVar 1) (aCons (xVar 1) (aCons (xTup aNil) aNil)))) (aCons (xC .non) (aCons (xC .non) aNil)))))) (gT (gCons (gN 2) (gCons (gN 3) (gCons (gN 4) (gCons (gN 5) gNil))))) (sSeq (sSet 6 (xCall R_with_digits (aCons (xTup (aCons (xOp fAdd (xVar 1) (xC (.int 1))) (aCons (xOp fAdd (xVar 1) (xC (.int 1))) (aCons (xOp fIx (xVar 5) (xC (.int 2))) aNil)))) (aCons (xVar 1) (aCons (xTup (aCons (xC (.int 0)) aNil)) aNil))))) (sIf (xB (xOp (fEq true) (xLc false (iL (xCall R_lines_from (aCons (xVar 0) (aCons (xVar 6) (aCons (xC .non) (aCons (xC .non) aNil)))))) (gN 7) (xB (xOp (fEq true) (xOp fIx (xVar 7) (xC (.int 0))) (xVar 2))) (xVar 7) [7]) (xLst false aNil))) (sRet (xC (.bl true))) sNext))) (sRet (xC (.bl false))))
abbrev N_length_matters : List Str := ["book", "length", "text", "index", "said", "case", "longer", "line"]
def t_lengths (R_need_book : RF) (R_length_matters : RF) : RS := (sSeq (sDrop (xCall R_need_book (aCons (xVar 0) aNil))) (sRet (xLc false (iR1 (xOp fAdd (xC D_MOST_PLACE) (xC (.int 2)))) (gN 1) (xB (xCall R_length_matters (aCons (xVar 0) (aCons (xVar 1) aNil)))) (xVar 1) [1])))
abbrev N_lengths : List Str := ["book", "length"]
def t__law_source : RS := (sSeq (sSet 2 (xC (.int 0))) (sSeq (sIf (xB (xOp fLt (xVar 1) (xCB fLen (aCons (xVar 0) aNil)))) (sSet 2 (xCB fAbs (aCons (xOp fIx (xVar 0) (xVar 1)) aNil))) sNext) (sSeq (sIf (xB (xOp fLt (xVar 2) (xOp fPow (xC (.int 10)) (xC (.int 18))))) (sRet (xLst true (aCons (xC (.int 0)) (aCons (xOp fAdd (xC (.int 1)) (xOp fMod (xCB fInt (aCons (xOp fAdd (xOp fMul (xVar 2) (xC (.int 7919))) (xOp fMul (xC (.int 104729)) (xVar 1))) aNil)) (xC (.int 2147483646)))) aNil)))) sNext) (sRet (xLst true (aCons (xVar 2) (aCons (xOp fAdd (xC (.int 1)) (xOp fMod (xCB fInt (aCons (xOp fAdd (xVar 2) (xVar 1)) aNil)) (xC (.int 2147483646)))) aNil)))))))
abbrev N__law_source : List Str := ["_law_script", "_law_index", "_law_cell"]
def t__law_draw : RS := (sSeq (sIf (xB (xOp fGt (xOp fIx (xVar 0) (xC (.int 0))) (xC (.int 0)))) (sSeq (sSet 2 (xOp fMod (xCB fInt (aCons (xOp fIx (xVar 0) (xC (.int 0))) aNil)) (xVar 1))) (sSeq (sStore (xVar 0) (xC (.int 0)) (xOp fDiv (xOp fIx (xVar 0) (xC (.int 0))) (xVar 1))) (sRet (xVar 2)))) sNext) (sSeq (sStore (xVar 0) (xC (.int 1)) (xOp fMod (xCB fInt (aCons (xOp fMul (xOp fIx (xVar 0) (xC (.int 1))) (xC (.int 48271))) aNil)) (xC (.int 2147483647)))) (sRet (xOp fMod (xCB fInt (aCons (xOp fDiv (xOp fMod (xCB fInt (aCons (xOp fMul (xOp fIx (xVar 0) (xC (.int 1))) (xOp fIx (xVar 0) (xC (.int 1)))) aNil)) (xC (.int 2147483629))) (xC (.int 64))) aNil)) (xVar 1)))))
abbrev N__law_draw : List Str := ["_law_source_here", "_law_size", "_law_drawn"]
def t__law_choice (R__law_draw : RF) : RS := (sRet (xOp fIx (xVar 1) (xCall R__law_draw (aCons (xVar 0) (aCons (xCB fLen (aCons (xVar 1) aNil)) aNil)))))
abbrev N__law_choice : List Str := ["_law_source_here", "_law_items"]
def t__law_test (R__law_choice : RF) (R__law_draw : RF) : RS := (sSeq (sSet 2 (xCall R__law_choice (aCons (xVar 0) (aCons (xLst false (aCons (xC (.str "=")) (aCons (xC (.str "=")) (aCons (xC (.str "!")) (aCons (xC (.str "<")) (aCons (xC (.str ">")) (aCons (xC (.str "&")) aNil))))))) aNil)))) (sRet (xTup (aCons (xCall R__law_draw (aCons (xVar 0) (aCons (xOp fAdd (xVar 1) (xC (.int 1))) aNil))) (aCons (xVar 2) (aCons (xCall R__law_choice (aCons (xVar 0) (aCons (xLst false (aCons (xC (.int 0)) (aCons (xC (.int 1)) (aCons (xC (.int 3)) (aCons (xC (.int 7)) (aCons (xC (.int 8)) (aCons (xC (.int 9)) (aCons (xC (.int 15)) aNil)))))))) aNil))) aNil))))))
abbrev N__law_test : List Str := ["_law_source_here", "_law_most", "_law_how"]
def t__law_rule (R__law_choice : RF) (R__law_draw : RF) (R__law_test : RF) : RS := (sSeq (sSet 2 (xCall R__law_choice (aCons (xVar 0) (aCons (xLst false (aCons (xC (.str "elf")) (aCons (xC (.str "zip")) (aCons (xC (.str "gif")) (aCons (xC (.str "low")) aNil))))) aNil)))) (sSeq (sSet 3 (xCB fTuple (aCons (xLc false (iR1 (xOp fAdd (xC (.int 1)) (xCall R__law_draw (aCons (xVar 0) (aCons (xC (.int 2)) aNil))))) (gN 4) yYes (xCall R__law_test (aCons (xVar 0) (aCons (xVar 1) aNil))) [4]) aNil))) (sSeq (sSet 5 (xTup aNil)) (sSeq (sIf (xB (xOp (fEq false) (xCall R__law_draw (aCons (xVar 0) (aCons (xC (.int 3)) aNil))) (xC (.int 0)))) (sSet 5 (xTup (aCons (xTup (aCons (xCall R__law_choice (aCons (xVar 0) (aCons (xLst false (aCons (xC (.str "big")) (aCons (xC (.str "odd")) aNil))) aNil))) (aCons (xCall R__law_test (aCons (xVar 0) (aCons (xVar 1) aNil))) aNil))) aNil))) sNext) (sRet (xTup (aCons (xVar 2) (aCons (xCall R__law_draw (aCons (xVar 0) (aCons (xC (.int 4)) aNil))) (aCons (xVar 3) (aCons (xVar 5) aNil))))))))))
abbrev N__law_rule : List Str := ["_law_source_here", "_law_most", "_law_word", "_law_tests", "_law_test_so", "_law_parts"]
def t__law_book (R__law_draw : RF) (R__law_rule : RF) : RS := (sRet (xCB fTuple (aCons (xLc false (iR1 (xCall R__law_draw (aCons (xVar 0) (aCons (xC (.int 4)) aNil)))) (gN 2) yYes (xCall R__law_rule (aCons (xVar 0) (aCons (xVar 1) aNil))) [2]) aNil)))
abbrev N__law_book : List Str := ["_law_source_here", "_law_most", "_law_rule_so"]
def t__law_number : RS := (sRet (xIndexL (xCB fListS (aCons (xC (.str "0123456789abcdef")) aNil)) (xVar 0)))
abbrev N__law_number : List Str := ["_law_digit"]
def t__law_passes (R__law_number : RF) : RS := (sSeq (sAsg (xVar 0) (gT (gCons (gN 2) (gCons (gN 3) (gCons (gN 4) gNil))))) (sSeq (sIf (xB (xIsi "tuple" (xVar 2))) (sSeq (sIf (xB (xOp fGe (xOp fIx (xVar 2) (xC (.int 0))) (xCB fLen (aCons (xVar 1) aNil)))) (sRet (xC (.bl false))) sNext) (sSet 5 (xOp fAdd (xCall R__law_number (aCons (xOp fIx (xVar 1) (xOp fIx (xVar 2) (xC (.int 0)))) aNil)) (xOp fIx (xVar 2) (xC (.int 1)))))) (sSet 5 (xVar 2))) (sSeq (sIf (xB (xOp fGe (xVar 5) (xCB fLen (aCons (xVar 1) aNil)))) (sRet (xC (.bl false))) sNext) (sSeq (sSet 6 (xCall R__law_number (aCons (xOp fIx (xVar 1) (xVar 5)) aNil))) (sSeq (sIf (xB (xOp (fEq false) (xVar 3) (xC (.str "&")))) (sRet (xOp (fEq false) (xLc false (iL (xLst false (aCons (xC (.int 1)) (aCons (xC (.int 2)) (aCons (xC (.int 4)) (aCons (xC (.int 8)) aNil)))))) (gN 7) (yAnd (xB (xOp (fEq true) (xOp fAnd (xVar 4) (xVar 7)) (xC (.int 0)))) (xB (xOp (fEq false) (xOp fAnd (xVar 6) (xVar 7)) (xC (.int 0))))) (xVar 7) [7]) (xLst false aNil))) sNext) (sRet (xOp fDix (xDisp (cCons "=" (xOp (fEq false) (xVar 6) (xVar 4)) (cCons "!" (xOp (fEq true) (xVar 6) (xVar 4)) (cCons "<" (xOp fLt (xVar 6) (xVar 4)) (cCons ">" (xOp fGt (xVar 6) (xVar 4)) cNil))))) (xVar 3))))))))
abbrev N__law_passes : List Str := ["_law_test_here", "_law_file", "_law_where", "_law_how", "_law_value", "_law_place", "_law_number_here", "_law_bit"]
def t__law_speaks (R__law_passes : RF) : RS := (sSeq (sSet 2 (xC .non)) (sSeq (sFor (iET (xVar 0)) (gT (gCons (gN 3) (gCons (gN 4) gNil))) (sIf (xB (xOp (fEq false) (xLc false (iT (xOp fIx (xVar 4) (xC (.int 2)))) (gN 5) (yNot (xB (xCall R__law_passes (aCons (xVar 5) (aCons (xVar 1) aNil))))) (xVar 5) [5]) (xLst false aNil))) (sIf (yOr (xB (xOp (fIs false) (xVar 2) (xC .non))) (xB (xOp fGt (xOp fIx (xVar 4) (xC (.int 1))) (xOp fIx (xOp fIx (xVar 0) (xVar 2)) (xC (.int 1)))))) (sSet 2 (xVar 3)) sNext) sNext)) (sRet (xVar 2))))
abbrev N__law_speaks : List Str := ["_law_book_here", "_law_file", "_law_found", "_law_index", "_law_rule_here", "_law_test_here"]
def t__law_tells (R__law_speaks : RF) (R__law_passes : RF) : RS := (sSeq (sSet 2 (xCall R__law_speaks (aCons (xVar 0) (aCons (xVar 1) aNil)))) (sSeq (sIf (xB (xOp (fIs false) (xVar 2) (xC .non))) (sRet (xC .non)) sNext) (sSeq (sSet 3 (xOp fIx (xOp fIx (xVar 0) (xVar 2)) (xC (.int 0)))) (sSeq (sFor (iT (xOp fIx (xOp fIx (xVar 0) (xVar 2)) (xC (.int 3)))) (gT (gCons (gN 4) (gCons (gN 5) gNil))) (sIf (xB (xCall R__law_passes (aCons (xVar 5) (aCons (xVar 1) aNil)))) (sSet 3 (xOp fAdd (xOp fAdd (xVar 3) (xC (.str " "))) (xVar 4))) sNext)) (sRet (xVar 3))))))
abbrev N__law_tells : List Str := ["_law_book_here", "_law_file", "_law_index", "_law_found", "_law_word", "_law_test_here"]
def t__law_files : RS := (sSeq (sPar 1 2 (xLst false (aCons (xC (.str "")) aNil)) (xLst false (aCons (xC (.str "")) aNil))) (sSeq (sFor (iR1 (xVar 0)) (gN 3) (sSeq (sSet 4 (xLst false aNil)) (sSeq (sFor (iL (xVar 2)) (gN 5) (sSet 4 (xOp fAdd (xVar 4) (xLc false (iS (xC (.str "0123456789abcdef"))) (gN 6) yYes (xOp fAdd (xVar 5) (xVar 6)) [6])))) (sPar 1 2 (xOp fAdd (xVar 1) (xVar 4)) (xVar 4))))) (sRet (xVar 1))))
abbrev N__law_files : List Str := ["_law_most", "_law_found", "_law_level", "_law_turn", "_law_longer", "_law_file", "_law_digit"]
def t__law_due : RS := (sSeq (sSet 2 (xLst true aNil)) (sSeq (sFor (iL (xVar 0)) (gN 3) (sSeq (sIf (yAnd (xB (xOp (fEq true) (xVar 3) (xC (.str "")))) (xB (xOp (fEq true) (xOp fDix (xVar 1) (xVar 3)) (xOp fDix (xVar 1) (xOp fAdd (xC (.str "0")) (xSl false (xVar 3) (oSome (xC (.int 1))) oNone)))))) (sDrop (xAppend (xVar 2) (xC (.int 0)))) sNext) (sIf (yAnd (xB (xOp (fEq false) (xCB fLen (aCons (xVar 3) aNil)) (xC (.int 2)))) (xB (xOp (fEq true) (xOp fDix (xVar 1) (xVar 3)) (xOp fDix (xVar 1) (xOp fAdd (xOp fIx (xVar 3) (xC (.int 0))) (xC (.str "0"))))))) (sDrop (xAppend (xVar 2) (xC (.int 1)))) sNext))) (sRet (xSortSetI false (xVar 2)))))
abbrev N__law_due : List Str := ["_law_every", "_law_tells_here", "_law_found", "_law_file"]
def t_law_k10 (R__law_files : RF) (R__law_source : RF) (R__law_book : RF) (R__law_tells : RF) (R__law_due : RF) (R_reads : RF) (R_enough : RF) (R_lengths : RF) : RS := (sSeq (sSet 1 (xCall R__law_files (aCons (xC (.int 2)) aNil))) (sSeq (sFor (iR1 (xOp fAdd (xC (.int 1)) (xCB fMin2 (aCons (xCB fLen (aCons (xVar 0) aNil)) (aCons (xC (.int 6)) aNil))))) (gN 2) (sSeq (sSet 3 (xCall R__law_source (aCons (xVar 0) (aCons (xVar 2) aNil)))) (sSeq (sSet 4 (xCall R__law_book (aCons (xVar 3) (aCons (xC (.int 1)) aNil)))) (sSeq (sSet 5 (xCB fDict (aCons (xLc false (iL (xVar 1)) (gN 6) yYes (xTup (aCons (xVar 6) (aCons (xCall R__law_tells (aCons (xVar 4) (aCons (xVar 6) aNil))) aNil))) [6]) aNil))) (sSeq (sSet 7 (xCall R__law_due (aCons (xVar 1) (aCons (xVar 5) aNil)))) (sSeq (sSet 8 (xCall R_reads (aCons (xVar 4) aNil))) (sSeq (sIf (xB (xOp (fEq true) (xVar 8) (xVar 7))) (sRet (xC (.bl false))) sNext) (sSeq (sDrop (xAppend (xVar 8) (xC (.int 99)))) (sSeq (sIf (xB (xOp (fEq true) (xCall R_reads (aCons (xVar 4) aNil)) (xVar 7))) (sRet (xC (.bl false))) sNext) (sSeq (sSet 9 (xC (.int 0))) (sSeq (sWhile (xB (xOp (fEq true) (xLc false (iL (xVar 1)) (gN 6) (xB (xOp (fEq true) (xOp fDix (xVar 5) (xVar 6)) (xOp fDix (xVar 5) (xSl false (xVar 6) oNone (oSome (xVar 9)))))) (xVar 6) [6]) (xLst false aNil))) (sSet 9 (xOp fAdd (xVar 9) (xC (.int 1))))) (sSeq (sIf (xB (xOp (fEq true) (xCall R_enough (aCons (xVar 4) aNil)) (xVar 9))) (sRet (xC (.bl false))) sNext) (sSeq (sSet 7 (xLst true aNil)) (sSeq (sFor (iR1 (xC (.int 2))) (gN 10) (sSeq (sSet 11 (xLc false (iL (xVar 1)) (gN 6) (xB (xOp (fEq false) (xCB fLen (aCons (xVar 6) aNil)) (xVar 10))) (xVar 6) [6])) (sIf (xB (xOp (fEq true) (xLc false (iL (xVar 11)) (gN 6) (xB (xOp (fEq true) (xOp fDix (xVar 5) (xVar 6)) (xOp fDix (xVar 5) (xOp fAdd (xVar 6) (xC (.str "0")))))) (xVar 6) [6]) (xLst false aNil))) (sDrop (xAppend (xVar 7) (xVar 10))) sNext))) (sIf (xB (xOp (fEq true) (xCall R_lengths (aCons (xVar 4) aNil)) (xVar 7))) (sRet (xC (.bl false))) sNext))))))))))))))) (sRet (xAnd (xOp (fEq false) (xCall R_reads (aCons (xTup aNil) aNil)) (xLst false aNil)) (xAnd (xOp (fEq false) (xCall R_enough (aCons (xTup aNil) aNil)) (xC (.int 0))) (xOp (fEq false) (xCall R_lengths (aCons (xTup (aCons (xTup (aCons (xC (.str "low")) (aCons (xC (.int 1)) (aCons (xTup (aCons (xTup (aCons (xC (.int 2)) (aCons (xC (.str "<")) (aCons (xC (.int 5)) aNil)))) aNil)) (aCons (xTup aNil) aNil))))) aNil)) aNil)) (xLst false (aCons (xC (.int 2)) aNil))))))))
abbrev N_law_k10 : List Str := ["_law_script", "_law_every", "_law_k", "_law_source_here", "_law_book_here", "_law_tells_here", "_law_file", "_law_due_here", "_law_found", "_law_number_here", "_law_length", "_law_some"]
def t_is_file : RS := (sRet (xAnd (xIsi "str" (xVar 0)) (xAnd (xOp fLe (xCB fLen (aCons (xVar 0) aNil)) (xC D_MOST_FILE)) (xCB fAll (aCons (xLc false (iS (xVar 0)) (gN 1) yYes (xOp (fIn false) (xVar 1) (xC D_DIGITS)) [1]) aNil)))))
abbrev N_is_file : List Str := ["value", "digit"]
def t_need_file (R_is_file : RF) : RS := (sIf (yNot (xB (xCall R_is_file (aCons (xVar 0) aNil)))) sNever sNext)
abbrev N_need_file : List Str := ["file"]
def t_texts_behind (R_lines_from : RF) : RS := (sSeq (sSet 2 (xTup (aCons (xCB fLen (aCons (xVar 1) aNil)) (aCons (xC (.int 40)) (aCons (xCB fTuple (aCons (xLc false (iES (xVar 1)) (gT (gCons (gN 3) (gCons (gN 4) gNil))) yYes (xTup (aCons (xVar 3) (aCons (xTup (aCons (xIndexS (xC D_DIGITS) (xVar 4)) aNil)) aNil))) [3, 4]) aNil)) aNil))))) (sSeq (sSet 5 (xLst false aNil)) (sSeq (sFor (iL (xCall R_lines_from (aCons (xVar 0) (aCons (xVar 2) (aCons (xC .non) (aCons (xC .non) aNil)))))) (gN 6) (sIf (xB (xOp (fIn true) (xOp fIx (xVar 6) (xC (.int 0))) (xVar 5))) (sSet 5 (xOp fAdd (xVar 5) (xLst false (aCons (xOp fIx (xVar 6) (xC (.int 0))) aNil)))) sNext)) (sRet (xVar 5)))))
abbrev N_texts_behind : List Str := ["book", "file", "case", "place", "digit", "found", "line"]
def t_possible (R_need_book : RF) (R_need_file : RF) (R_texts_behind : RF) : RS := (sSeq (sDrop (xCall R_need_book (aCons (xVar 0) aNil))) (sSeq (sDrop (xCall R_need_file (aCons (xVar 1) aNil))) (sSeq (sSet 2 (xCall R_texts_behind (aCons (xVar 0) (aCons (xVar 1) aNil)))) (sRet (xTup (aCons (xCB fSortS (aCons (xLc false (iL (xVar 2)) (gN 3) (xB (xOp (fIs true) (xVar 3) (xC .non))) (xVar 3) [3]) aNil)) (aCons (xOp (fIn false) (xC .non) (xVar 2)) aNil)))))))
abbrev N_possible : List Str := ["book", "file", "found", "text"]
def t_is_sure (R_texts_behind : RF) : RS := (sRet (xOp (fEq false) (xCB fLen (aCons (xCall R_texts_behind (aCons (xVar 0) (aCons (xVar 1) aNil))) aNil)) (xC (.int 1))))
abbrev N_is_sure : List Str := ["book", "file"]
def t_sure_at (R_need_book : RF) (R_need_file : RF) (R_is_sure : RF) : RS := (sSeq (sDrop (xCall R_need_book (aCons (xVar 0) aNil))) (sSeq (sDrop (xCall R_need_file (aCons (xVar 1) aNil))) (sSeq (sFor (iR1 (xOp fAdd (xCB fLen (aCons (xVar 1) aNil)) (xC (.int 1)))) (gN 2) (sIf (xB (xCall R_is_sure (aCons (xVar 0) (aCons (xSl false (xVar 1) oNone (oSome (xVar 2))) aNil)))) (sRet (xVar 2)) sNext)) (sRet (xC .non)))))
abbrev N_sure_at : List Str := ["book", "file", "number"]
def t__law_some_file (R__law_draw : RF) (R__law_choice : RF) : RS := (sRet (xJoin (xC (.str "")) (xLc false (iR1 (xCall R__law_draw (aCons (xVar 0) (aCons (xOp fAdd (xVar 1) (xC (.int 1))) aNil)))) (gN 2) yYes (xCall R__law_choice (aCons (xVar 0) (aCons (xCB fListS (aCons (xC (.str "00117789ff")) aNil)) aNil))) [2])))
abbrev N__law_some_file : List Str := ["_law_source_here", "_law_most", "_law_place"]
def t__law_behind : RS := (sSeq (sSet 2 (xLst false (aCons (xOp fDix (xVar 0) (xSl false (xVar 1) oNone (oSome (xC (.int 2))))) aNil))) (sSeq (sIf (xB (xOp fLt (xCB fLen (aCons (xVar 1) aNil)) (xC (.int 2)))) (sFor (iS (xC (.str "0123456789abcdef"))) (gN 3) (sSeq (sSet 2 (xOp fAdd (xVar 2) (xLst false (aCons (xOp fDix (xVar 0) (xOp fAdd (xVar 1) (xVar 3))) aNil)))) (sIf (xB (xOp (fEq false) (xVar 1) (xC (.str "")))) (sSet 2 (xOp fAdd (xVar 2) (xLc false (iS (xC (.str "0123456789abcdef"))) (gN 4) yYes (xOp fDix (xVar 0) (xOp fAdd (xVar 3) (xVar 4))) [4]))) sNext))) sNext) (sRet (xVar 2))))
abbrev N__law_behind : List Str := ["_law_tells_here", "_law_file", "_law_found", "_law_one", "_law_other"]
def t_law_k12 (R__law_files : RF) (R__law_source : RF) (R__law_book : RF) (R__law_tells : RF) (R__law_some_file : RF) (R__law_behind : RF) (R_possible : RF) (R_sure_at : RF) : RS := (sSeq (sSet 1 (xCall R__law_files (aCons (xC (.int 2)) aNil))) (sSeq (sFor (iR1 (xOp fAdd (xC (.int 1)) (xCB fMin2 (aCons (xCB fLen (aCons (xVar 0) aNil)) (aCons (xC (.int 5)) aNil))))) (gN 2) (sSeq (sSet 3 (xCall R__law_source (aCons (xVar 0) (aCons (xVar 2) aNil)))) (sSeq (sSet 4 (xCall R__law_book (aCons (xVar 3) (aCons (xC (.int 1)) aNil)))) (sSeq (sSet 5 (xCB fDict (aCons (xLc false (iL (xVar 1)) (gN 6) yYes (xTup (aCons (xVar 6) (aCons (xCall R__law_tells (aCons (xVar 4) (aCons (xVar 6) aNil))) aNil))) [6]) aNil))) (sSeq (sSet 7 (xOp fAdd (xOp fAdd (xSl false (xVar 1) oNone (oSome (xC (.int 17)))) (xLc false (iR1 (xC (.int 20))) (gN 8) yYes (xCall R__law_some_file (aCons (xVar 3) (aCons (xC (.int 2)) aNil))) [8])) (xLst false (aCons (xCall R__law_some_file (aCons (xVar 3) (aCons (xC (.int 9)) aNil))) aNil)))) (sFor (iL (xVar 7)) (gN 6) (sSeq (sSet 9 (xCall R__law_behind (aCons (xVar 5) (aCons (xVar 6) aNil)))) (sSeq (sSet 10 (xSortSetS false (xLc false (iL (xVar 9)) (gN 11) (xB (xOp (fIs true) (xVar 11) (xC .non))) (xVar 11) [11]))) (sSeq (sSet 12 (xCall R_possible (aCons (xVar 4) (aCons (xVar 6) aNil)))) (sSeq (sIf (xB (xOp (fEq true) (xVar 12) (xTup (aCons (xVar 10) (aCons (xOp (fIn false) (xC .non) (xVar 9)) aNil))))) (sRet (xC (.bl false))) sNext) (sSeq (sSet 13 (xC .non)) (sSeq (sFor (iR3 (xCB fLen (aCons (xVar 6) aNil)) (xUn fNeg (xC (.int 1))) (xUn fNeg (xC (.int 1)))) (gN 14) (sIf (xB (xOp (fEq false) (xLc false (iL (xCall R__law_behind (aCons (xVar 5) (aCons (xSl false (xVar 6) oNone (oSome (xVar 14))) aNil)))) (gN 11) (xB (xOp (fEq true) (xVar 11) (xOp fDix (xVar 5) (xSl false (xSl false (xVar 6) oNone (oSome (xVar 14))) oNone (oSome (xC (.int 2))))))) (xVar 11) [11]) (xLst false aNil))) (sSet 13 (xVar 14)) sNext)) (sIf (xB (xOp (fEq true) (xCall R_sure_at (aCons (xVar 4) (aCons (xVar 6) aNil))) (xVar 13))) (sRet (xC (.bl false))) sNext))))))))))))) (sSeq (sSet 4 (xTup (aCons (xTup (aCons (xC (.str "big")) (aCons (xC (.int 3)) (aCons (xTup (aCons (xTup (aCons (xC (.int 0)) (aCons (xC (.str ">")) (aCons (xC (.int 7)) aNil)))) aNil)) (aCons (xTup (aCons (xTup (aCons (xC (.str "odd")) (aCons (xTup (aCons (xC (.int 0)) (aCons (xC (.str "=")) (aCons (xC (.int 7)) aNil)))) aNil))) aNil)) aNil))))) aNil))) (sSeq (sIf (yOr (xB (xOp (fEq true) (xCall R_possible (aCons (xVar 4) (aCons (xC (.str "8")) aNil))) (xTup (aCons (xLst false (aCons (xC (.str "big")) aNil)) (aCons (xC (.bl false)) aNil))))) (yOr (xB (xOp (fEq true) (xCall R_sure_at (aCons (xVar 4) (aCons (xC (.str "3")) aNil))) (xC (.int 1)))) (xB (xOp (fIs true) (xCall R_sure_at (aCons (xVar 4) (aCons (xC (.str "")) aNil))) (xC .non))))) (sRet (xC (.bl false))) sNext) (sRet (xAnd (xOp (fEq false) (xCall R_possible (aCons (xTup aNil) (aCons (xC (.str "")) aNil))) (xTup (aCons (xLst false aNil) (aCons (xC (.bl true)) aNil)))) (xOp (fEq false) (xCall R_sure_at (aCons (xTup aNil) (aCons (xC (.str "7f")) aNil))) (xC (.int 0)))))))))
abbrev N_law_k12 : List Str := ["_law_script", "_law_every", "_law_k", "_law_source_here", "_law_book_here", "_law_tells_here", "_law_file", "_law_tries", "_law_file_so", "_law_some", "_law_texts", "_law_text", "_law_found", "_law_due", "_law_number_here"]
end DL
-- part Head_k10
set_option Elab.async false
set_option linter.all false
set_option maxRecDepth 100000
set_option maxHeartbeats 0
namespace Tp
open PySem PySem.Spec PyProof.Rows L2
def top (i : Nat) : Stmt := PySem.Challenge.pw_filemarks_k10_places_and_lengths_that_ma.main.body.getD i (.Pass ⟨0, 0, 0, 0⟩)
abbrev s_is_between : Stmt := top 13
abbrev s_is_where : Stmt := top 14
abbrev s_is_test : Stmt := top 15
abbrev s_is_word : Stmt := top 16
abbrev s_is_part : Stmt := top 17
abbrev s_is_rule : Stmt := top 18
abbrev s_tests_of : Stmt := top 19
abbrev s_pairs_in : Stmt := top 20
abbrev s_is_book : Stmt := top 21
abbrev s_need_book : Stmt := top 22
abbrev s_fits : Stmt := top 23
abbrev s_order_of : Stmt := top 24
abbrev s_digits_at : Stmt := top 28
abbrev s_with_digits : Stmt := top 29
abbrev s_without_place : Stmt := top 30
abbrev s_with_place : Stmt := top 31
abbrev s_split_place : Stmt := top 32
abbrev s_split_test : Stmt := top 33
abbrev s_split_all : Stmt := top 34
abbrev s_split_parts : Stmt := top 35
abbrev s_lines_from : Stmt := top 36
abbrev s_lines_of : Stmt := top 37
abbrev s_place_matters : Stmt := top 39
abbrev s_reads_of : Stmt := top 40
abbrev s_reads : Stmt := top 41
abbrev s_is_enough : Stmt := top 42
abbrev s_enough : Stmt := top 43
abbrev s_length_matters : Stmt := top 44
abbrev s_lengths : Stmt := top 45
abbrev s_law_source : Stmt := top 47
abbrev s_law_draw : Stmt := top 48
abbrev s_law_choice : Stmt := top 49
abbrev s_law_test : Stmt := top 50
abbrev s_law_rule : Stmt := top 51
abbrev s_law_book : Stmt := top 52
abbrev s_law_number : Stmt := top 53
abbrev s_law_passes : Stmt := top 54
abbrev s_law_speaks : Stmt := top 55
abbrev s_law_tells : Stmt := top 56
abbrev s_law_files : Stmt := top 57
abbrev s_law_due : Stmt := top 58
abbrev s_law : Stmt := top 59
def d_is_between : He.DefD := ⟨("is_between", none), "is_between", "is_between", defArgs s_is_between, defBody s_is_between, defScope s_is_between, [], []⟩
def d_is_where : He.DefD := ⟨("is_where", none), "is_where", "is_where", defArgs s_is_where, defBody s_is_where, defScope s_is_where, [], []⟩
def d_is_test : He.DefD := ⟨("is_test", none), "is_test", "is_test", defArgs s_is_test, defBody s_is_test, defScope s_is_test, [], []⟩
def d_is_word : He.DefD := ⟨("is_word", none), "is_word", "is_word", defArgs s_is_word, defBody s_is_word, defScope s_is_word, [], []⟩
def d_is_part : He.DefD := ⟨("is_part", none), "is_part", "is_part", defArgs s_is_part, defBody s_is_part, defScope s_is_part, [], []⟩
def d_is_rule : He.DefD := ⟨("is_rule", none), "is_rule", "is_rule", defArgs s_is_rule, defBody s_is_rule, defScope s_is_rule, [], []⟩
def d_tests_of : He.DefD := ⟨("tests_of", none), "tests_of", "tests_of", defArgs s_tests_of, defBody s_tests_of, defScope s_tests_of, [], []⟩
def d_pairs_in : He.DefD := ⟨("pairs_in", none), "pairs_in", "pairs_in", defArgs s_pairs_in, defBody s_pairs_in, defScope s_pairs_in, [], []⟩
def d_is_book : He.DefD := ⟨("is_book", none), "is_book", "is_book", defArgs s_is_book, defBody s_is_book, defScope s_is_book, [], []⟩
def d_need_book : He.DefD := ⟨("need_book", none), "need_book", "need_book", defArgs s_need_book, defBody s_need_book, defScope s_need_book, [], []⟩
def d_fits : He.DefD := ⟨("fits", none), "fits", "fits", defArgs s_fits, defBody s_fits, defScope s_fits, [], []⟩
def d_order_of : He.DefD := ⟨("order_of", none), "order_of", "order_of", defArgs s_order_of, defBody s_order_of, defScope s_order_of, [], []⟩
def d_digits_at : He.DefD := ⟨("digits_at", none), "digits_at", "digits_at", defArgs s_digits_at, defBody s_digits_at, defScope s_digits_at, [], []⟩
def d_with_digits : He.DefD := ⟨("with_digits", none), "with_digits", "with_digits", defArgs s_with_digits, defBody s_with_digits, defScope s_with_digits, [], []⟩
def d_without_place : He.DefD := ⟨("without_place", none), "without_place", "without_place", defArgs s_without_place, defBody s_without_place, defScope s_without_place, [], []⟩
def d_with_place : He.DefD := ⟨("with_place", none), "with_place", "with_place", defArgs s_with_place, defBody s_with_place, defScope s_with_place, [], []⟩
def d_split_place : He.DefD := ⟨("split_place", none), "split_place", "split_place", defArgs s_split_place, defBody s_split_place, defScope s_split_place, [], []⟩
def d_split_test : He.DefD := ⟨("split_test", none), "split_test", "split_test", defArgs s_split_test, defBody s_split_test, defScope s_split_test, [], []⟩
def d_split_all : He.DefD := ⟨("split_all", none), "split_all", "split_all", defArgs s_split_all, defBody s_split_all, defScope s_split_all, [], []⟩
def d_split_parts : He.DefD := ⟨("split_parts", none), "split_parts", "split_parts", defArgs s_split_parts, defBody s_split_parts, defScope s_split_parts, [], []⟩
def d_lines_from : He.DefD := ⟨("lines_from", none), "lines_from", "lines_from", defArgs s_lines_from, defBody s_lines_from, defScope s_lines_from, [], []⟩
def d_lines_of : He.DefD := ⟨("lines_of", none), "lines_of", "lines_of", defArgs s_lines_of, defBody s_lines_of, defScope s_lines_of, [], []⟩
def d_place_matters : He.DefD := ⟨("place_matters", none), "place_matters", "place_matters", defArgs s_place_matters, defBody s_place_matters, defScope s_place_matters, [], []⟩
def d_reads_of : He.DefD := ⟨("reads_of", none), "reads_of", "reads_of", defArgs s_reads_of, defBody s_reads_of, defScope s_reads_of, [], []⟩
def d_reads : He.DefD := ⟨("reads", none), "reads", "reads", defArgs s_reads, defBody s_reads, defScope s_reads, [], []⟩
def d_is_enough : He.DefD := ⟨("is_enough", none), "is_enough", "is_enough", defArgs s_is_enough, defBody s_is_enough, defScope s_is_enough, [], []⟩
def d_enough : He.DefD := ⟨("enough", none), "enough", "enough", defArgs s_enough, defBody s_enough, defScope s_enough, [], []⟩
def d_length_matters : He.DefD := ⟨("length_matters", none), "length_matters", "length_matters", defArgs s_length_matters, defBody s_length_matters, defScope s_length_matters, [], []⟩
def d_lengths : He.DefD := ⟨("lengths", none), "lengths", "lengths", defArgs s_lengths, defBody s_lengths, defScope s_lengths, [], []⟩
def d_law_source : He.DefD := ⟨("_law_source", none), "_law_source", "_law_source", defArgs s_law_source, defBody s_law_source, defScope s_law_source, [], []⟩
def d_law_draw : He.DefD := ⟨("_law_draw", none), "_law_draw", "_law_draw", defArgs s_law_draw, defBody s_law_draw, defScope s_law_draw, [], []⟩
def d_law_choice : He.DefD := ⟨("_law_choice", none), "_law_choice", "_law_choice", defArgs s_law_choice, defBody s_law_choice, defScope s_law_choice, [], []⟩
def d_law_test : He.DefD := ⟨("_law_test", none), "_law_test", "_law_test", defArgs s_law_test, defBody s_law_test, defScope s_law_test, [], []⟩
def d_law_rule : He.DefD := ⟨("_law_rule", none), "_law_rule", "_law_rule", defArgs s_law_rule, defBody s_law_rule, defScope s_law_rule, [], []⟩
def d_law_book : He.DefD := ⟨("_law_book", none), "_law_book", "_law_book", defArgs s_law_book, defBody s_law_book, defScope s_law_book, [], []⟩
def d_law_number : He.DefD := ⟨("_law_number", none), "_law_number", "_law_number", defArgs s_law_number, defBody s_law_number, defScope s_law_number, [], []⟩
def d_law_passes : He.DefD := ⟨("_law_passes", none), "_law_passes", "_law_passes", defArgs s_law_passes, defBody s_law_passes, defScope s_law_passes, [], []⟩
def d_law_speaks : He.DefD := ⟨("_law_speaks", none), "_law_speaks", "_law_speaks", defArgs s_law_speaks, defBody s_law_speaks, defScope s_law_speaks, [], []⟩
def d_law_tells : He.DefD := ⟨("_law_tells", none), "_law_tells", "_law_tells", defArgs s_law_tells, defBody s_law_tells, defScope s_law_tells, [], []⟩
def d_law_files : He.DefD := ⟨("_law_files", none), "_law_files", "_law_files", defArgs s_law_files, defBody s_law_files, defScope s_law_files, [], []⟩
def d_law_due : He.DefD := ⟨("_law_due", none), "_law_due", "_law_due", defArgs s_law_due, defBody s_law_due, defScope s_law_due, [], []⟩
def d_law : He.DefD := ⟨("law", none), "law", "law", defArgs s_law, defBody s_law, defScope s_law, [], []⟩
def fn : List He.DefD := [d_is_between, d_is_where, d_is_test, d_is_word, d_is_part, d_is_rule, d_tests_of, d_pairs_in, d_is_book, d_need_book, d_fits, d_order_of, d_digits_at, d_with_digits, d_without_place, d_with_place, d_split_place, d_split_test, d_split_all, d_split_parts, d_lines_from, d_lines_of, d_place_matters, d_reads_of, d_reads, d_is_enough, d_enough, d_length_matters, d_lengths, d_law_source, d_law_draw, d_law_choice, d_law_test, d_law_rule, d_law_book, d_law_number, d_law_passes, d_law_speaks, d_law_tells, d_law_files, d_law_due, d_law]
def fa0 : List He.Fa := [.glo "is_between", .glo "is_where", .glo "is_test", .glo "is_word", .glo "is_part", .glo "is_rule", .glo "tests_of", .glo "pairs_in", .glo "is_book", .glo "need_book", .glo "fits", .glo "order_of", .glo "digits_at", .glo "with_digits", .glo "without_place", .glo "with_place", .glo "split_place", .glo "split_test", .glo "split_all", .glo "split_parts", .glo "lines_from", .glo "lines_of", .glo "place_matters", .glo "reads_of", .glo "reads", .glo "is_enough", .glo "enough", .glo "length_matters", .glo "lengths", .glo "_law_source"]
def fa1 : List He.Fa := [.glo "_law_draw", .glo "_law_choice", .glo "_law_test", .glo "_law_rule", .glo "_law_book", .glo "_law_number", .glo "_law_passes", .glo "_law_speaks", .glo "_law_tells", .glo "_law_files", .glo "_law_due", .glo "law", .free "ValueError", .free "abs", .free "all", .free "bool", .free "dict", .free "enumerate", .free "int", .free "isinstance", .free "len", .free "list", .free "max", .free "min", .free "range", .free "set", .free "sorted", .free "str", .free "tuple"]
def fa : List He.Fa := fa0 ++ fa1
def cs : List (PySem.Str × DL.D) := [("LETTERS", DL.D_LETTERS), ("MOST_PLACE", DL.D_MOST_PLACE), ("MOST_ADD", DL.D_MOST_ADD), ("MOST_WORD", DL.D_MOST_WORD), ("MOST_STRENGTH", DL.D_MOST_STRENGTH), ("MOST_TESTS", DL.D_MOST_TESTS), ("MOST_PARTS", DL.D_MOST_PARTS), ("MOST_RULES", DL.D_MOST_RULES), ("MOST_PAIRS", DL.D_MOST_PAIRS), ("EVERY", DL.D_EVERY), ("START", DL.D_START)]
def ln0 : List PySem.Str := ["MarkError", "InvalidBook", "LETTERS", "MOST_PLACE", "MOST_ADD", "MOST_WORD", "MOST_STRENGTH", "MOST_TESTS", "MOST_PARTS", "MOST_RULES", "MOST_PAIRS", "is_between", "is_where", "is_test", "is_word", "is_part", "is_rule", "tests_of", "pairs_in", "is_book", "need_book", "fits", "order_of", "EVERY", "START", "digits_at", "with_digits", "without_place", "with_place", "split_place"]
def ln1 : List PySem.Str := ["split_test", "split_all", "split_parts", "lines_from", "lines_of", "place_matters", "reads_of", "reads", "is_enough", "enough", "length_matters", "lengths", "_law_source", "_law_draw", "_law_choice", "_law_test", "_law_rule", "_law_book", "_law_number", "_law_passes", "_law_speaks", "_law_tells", "_law_files", "_law_due"]
def lns : List PySem.Str := ln0 ++ ln1
abbrev R : PySem.W.OpenRow := PySem.W.OpenLaw.row PySem.Challenge.rw_filemarks_k10_places_and_lengths_that_ma
abbrev hk : PySem.W.Hook := DL.hookC 4 fa fn cs
def ob (s : PySem.W.SharedT) : DL.AlC := DL.obsCG 4 fa fn cs (HandSHeadRun.getT s)
theorem ob_eq (s : PySem.W.SharedT) : ob s = hk.obs s.abs := DL.obsCG_eq (HandSHeadRun.getT_eq s)
theorem run (w : World) : HandSHeadRun.RunEq R (PySem.W.view R.prog [59]) hk ob 3000 lns w := by
  intro os
  kernel_rfl
end Tp
open PySem PySem.W PySem.Calls PyProof.Rows
theorem head (call : WalkO (view (OpenLaw.row PySem.Challenge.rw_filemarks_k10_places_and_lengths_that_ma).prog [59]) Tp.lns (XL (view (OpenLaw.row PySem.Challenge.rw_filemarks_k10_places_and_lengths_that_ma).prog [59]) []) Tp.hk.says (OpenLaw.row PySem.Challenge.rw_filemarks_k10_places_and_lengths_that_ma).toRowW (HandSHeadRun.topDef (OpenLaw.row PySem.Challenge.rw_filemarks_k10_places_and_lengths_that_ma).prog 59) [] fun f vs => PySem.call f vs) : PySem.Challenge.rw_filemarks_k10_places_and_lengths_that_ma.Holds := by
  w_on; o_law
  refine HandSHeadRun.head_any (r := OpenLaw.row PySem.Challenge.rw_filemarks_k10_places_and_lengths_that_ma) (q := view (OpenLaw.row PySem.Challenge.rw_filemarks_k10_places_and_lengths_that_ma).prog [59]) (H := Tp.hk) (ob := Tp.ob) (M := 3000) (loose := Tp.lns) (d := HandSHeadRun.topDef (OpenLaw.row PySem.Challenge.rw_filemarks_k10_places_and_lengths_that_ma).prog 59) (kwd := []) Tp.ob_eq
    (by kernel_rfl) (fun s => by kernel_rfl) Tp.run (by kernel_rfl) (by kernel_rfl) (by kernel_rfl) (by rfl) (by first | assumption | decide +kernel) (by decide +kernel) ⟨rfl, rfl, rfl, rfl, rfl, by decide +kernel⟩ ?hw ?hc
  case hw => w_witness2
  case hc => exact call
-- part W_k10
set_option Elab.async false
set_option linter.all false
set_option maxRecDepth 100000
set_option maxHeartbeats 4000000
namespace DL
open PySem PySem.Spec PyProof.Rows L2 Tp
theorem sc_is_between : FnScope N_is_between ["value", "low", "high"] (defScope s_is_between) := ⟨rfl, rfl, rfl, by decide +kernel, rfl, by decide +kernel, by decide +kernel⟩
theorem w_is_between {P : Program} {w : World} {K : PySem.W.Frag} {mg : Str → Option Value} {base : Heap} {R : RF} (g_isinstance : mg "isinstance" = none) (g_int : mg "int" = none) (g_bool : mg "bool" = none) (A : DefAtD K mg "is_between" s_is_between ["value", "low", "high"])
    (len : ∀ ds M P, R ds M P → ds.length = 3) (pure : ∀ ds M Q, R ds M Q → t_is_between { nx := fun _ M' => Q .non M', rt := Q } (startD N_is_between ds) M) : Callee P w K mg base "is_between" ["value", "low", "high"] 1 R := by
  refine calleeD A sc_is_between len (fun f cdv A outer s H E hr => ⟨t_is_between, ?_, pure⟩)
  have nd : (N_is_between).Nodup := sc_is_between.nd
  exact (dss_one (ds_ret (de_and (de_isi rfl g_isinstance (dv 0) rfl g_int (by decide +kernel)) (de_and (de_not (de_isi rfl g_isinstance (dv 0) rfl g_bool (by decide +kernel))) (de_one (de_lele (dv 1) (dv 0) (dv 2)))))))
theorem sc_is_where : FnScope N_is_where ["value"] (defScope s_is_where) := ⟨rfl, rfl, rfl, by decide +kernel, rfl, by decide +kernel, by decide +kernel⟩
theorem w_is_where {P : Program} {w : World} {K : PySem.W.Frag} {mg : Str → Option Value} {base : Heap} {R : RF} {R_is_between : RF} (C_is_between : Callee P w K mg base "is_between" ["value", "low", "high"] 1 R_is_between) (g_isinstance : mg "isinstance" = none) (g_tuple : mg "tuple" = none) (g_len : mg "len" = none) (c_MOST_PLACE : Con K mg "MOST_PLACE" D_MOST_PLACE) (c_MOST_ADD : Con K mg "MOST_ADD" D_MOST_ADD) (A : DefAtD K mg "is_where" s_is_where ["value"])
    (len : ∀ ds M P, R ds M P → ds.length = 1) (pure : ∀ ds M Q, R ds M Q → t_is_where R_is_between { nx := fun _ M' => Q .non M', rt := Q } (startD N_is_where ds) M) : Callee P w K mg base "is_where" ["value"] 2 R := by
  refine calleeD A sc_is_where len (fun f cdv A outer s H E hr => ⟨t_is_where R_is_between, ?_, pure⟩)
  have nd : (N_is_where).Nodup := sc_is_where.nd
  exact (dss_cons (ds_if (dt_val (de_isi rfl g_isinstance (dv 0) rfl g_tuple (by decide +kernel))) (dss_one (ds_ret (de_and (de_eq hr.units (de_len rfl g_len (da_cons (dv 0) da_nil)) de_int) (de_and (de_call C_is_between hr (by decide) rfl (da_cons (de_ix (dv 0) de_int) (da_cons de_int (da_cons (de_glob rfl c_MOST_PLACE) da_nil)))) (de_one (de_call C_is_between hr (by decide) rfl (da_cons (de_ix (dv 0) de_int) (da_cons de_int (da_cons (de_glob rfl c_MOST_ADD) da_nil))))))))) dss_nil) (dss_one (ds_ret (de_call C_is_between hr (by decide) rfl (da_cons (dv 0) (da_cons de_int (da_cons (de_glob rfl c_MOST_PLACE) da_nil)))))))
theorem sc_is_test : FnScope N_is_test ["value"] (defScope s_is_test) := ⟨rfl, rfl, rfl, by decide +kernel, rfl, by decide +kernel, by decide +kernel⟩
theorem w_is_test {P : Program} {w : World} {K : PySem.W.Frag} {mg : Str → Option Value} {base : Heap} {R : RF} {R_is_where : RF} (C_is_where : Callee P w K mg base "is_where" ["value"] 2 R_is_where) {R_is_between : RF} (C_is_between : Callee P w K mg base "is_between" ["value", "low", "high"] 1 R_is_between) (g_isinstance : mg "isinstance" = none) (g_tuple : mg "tuple" = none) (g_len : mg "len" = none) (g_str : mg "str" = none) (A : DefAtD K mg "is_test" s_is_test ["value"])
    (len : ∀ ds M P, R ds M P → ds.length = 1) (pure : ∀ ds M Q, R ds M Q → t_is_test R_is_where R_is_between { nx := fun _ M' => Q .non M', rt := Q } (startD N_is_test ds) M) : Callee P w K mg base "is_test" ["value"] 3 R := by
  refine calleeD A sc_is_test len (fun f cdv A outer s H E hr => ⟨t_is_test R_is_where R_is_between, ?_, pure⟩)
  have nd : (N_is_test).Nodup := sc_is_test.nd
  exact (dss_cons (ds_if (dw_t (dw_or (dt_not (dt_val (de_isi rfl g_isinstance (dv 0) rfl g_tuple (by decide +kernel)))) (dw_or (dt_ne hr.units (de_len rfl g_len (da_cons (dv 0) da_nil)) de_int) (dw_or1 (dt_not (dt_val (de_call C_is_where hr (by decide) rfl (da_cons (de_ix (dv 0) de_int) da_nil)))))))) (dss_one (ds_ret de_bl)) dss_nil) (dss_one (ds_ret (de_and (de_isi rfl g_isinstance (de_ix (dv 0) de_int) rfl g_str (by decide +kernel)) (de_and (de_in (de_ix (dv 0) de_int) (de_tup (da_cons de_str (da_cons de_str (da_cons de_str (da_cons de_str (da_cons de_str da_nil))))))) (de_one (de_call C_is_between hr (by decide) rfl (da_cons (de_ix (dv 0) de_int) (da_cons de_int (da_cons de_int da_nil))))))))))
theorem sc_is_word : FnScope N_is_word ["value"] (defScope s_is_word) := ⟨rfl, rfl, rfl, by decide +kernel, rfl, by decide +kernel, by decide +kernel⟩
theorem w_is_word {P : Program} {w : World} {K : PySem.W.Frag} {mg : Str → Option Value} {base : Heap} {R : RF} (g_isinstance : mg "isinstance" = none) (g_str : mg "str" = none) (g_len : mg "len" = none) (g_all : mg "all" = none) (c_MOST_WORD : Con K mg "MOST_WORD" D_MOST_WORD) (c_LETTERS : Con K mg "LETTERS" D_LETTERS) (A : DefAtD K mg "is_word" s_is_word ["value"])
    (len : ∀ ds M P, R ds M P → ds.length = 1) (pure : ∀ ds M Q, R ds M Q → t_is_word { nx := fun _ M' => Q .non M', rt := Q } (startD N_is_word ds) M) : Callee P w K mg base "is_word" ["value"] 1 R := by
  refine calleeD A sc_is_word len (fun f cdv A outer s H E hr => ⟨t_is_word, ?_, pure⟩)
  have nd : (N_is_word).Nodup := sc_is_word.nd
  exact (dss_one (ds_ret (de_and (de_isi rfl g_isinstance (dv 0) rfl g_str (by decide +kernel)) (de_and (de_lele de_int (de_len rfl g_len (da_cons (dv 0) da_nil)) (de_glob rfl c_MOST_WORD)) (de_one (de_all rfl rfl g_all (da_cons (de_lc false rfl nd (own := [("letter", 1)]) (di_str (dv 0)) (blkOk_by (by kernel_rfl)) (fun _ _ _ _ _ => (dg_name (vs := [1]) (i := 1) nd rfl (by first | exact Or.inl rfl | exact Or.inr rfl))) (fun _ _ _ _ _ => dts_nil) (fun _ _ _ _ _ => (de_in (dv 1) (de_glob rfl c_LETTERS)))) da_nil)))))))
theorem sc_is_part : FnScope N_is_part ["value"] (defScope s_is_part) := ⟨rfl, rfl, rfl, by decide +kernel, rfl, by decide +kernel, by decide +kernel⟩
theorem w_is_part {P : Program} {w : World} {K : PySem.W.Frag} {mg : Str → Option Value} {base : Heap} {R : RF} {R_is_word : RF} (C_is_word : Callee P w K mg base "is_word" ["value"] 1 R_is_word) {R_is_test : RF} (C_is_test : Callee P w K mg base "is_test" ["value"] 3 R_is_test) (g_isinstance : mg "isinstance" = none) (g_tuple : mg "tuple" = none) (g_len : mg "len" = none) (A : DefAtD K mg "is_part" s_is_part ["value"])
    (len : ∀ ds M P, R ds M P → ds.length = 1) (pure : ∀ ds M Q, R ds M Q → t_is_part R_is_word R_is_test { nx := fun _ M' => Q .non M', rt := Q } (startD N_is_part ds) M) : Callee P w K mg base "is_part" ["value"] 4 R := by
  refine calleeD A sc_is_part len (fun f cdv A outer s H E hr => ⟨t_is_part R_is_word R_is_test, ?_, pure⟩)
  have nd : (N_is_part).Nodup := sc_is_part.nd
  exact (dss_one (ds_ret (de_and (de_isi rfl g_isinstance (dv 0) rfl g_tuple (by decide +kernel)) (de_and (de_eq hr.units (de_len rfl g_len (da_cons (dv 0) da_nil)) de_int) (de_and (de_call C_is_word hr (by decide) rfl (da_cons (de_ix (dv 0) de_int) da_nil)) (de_one (de_call C_is_test hr (by decide) rfl (da_cons (de_ix (dv 0) de_int) da_nil))))))))
theorem sc_is_rule : FnScope N_is_rule ["value"] (defScope s_is_rule) := ⟨rfl, rfl, rfl, by decide +kernel, rfl, by decide +kernel, by decide +kernel⟩
theorem w_is_rule {P : Program} {w : World} {K : PySem.W.Frag} {mg : Str → Option Value} {base : Heap} {R : RF} {R_is_word : RF} (C_is_word : Callee P w K mg base "is_word" ["value"] 1 R_is_word) {R_is_between : RF} (C_is_between : Callee P w K mg base "is_between" ["value", "low", "high"] 1 R_is_between) {R_is_test : RF} (C_is_test : Callee P w K mg base "is_test" ["value"] 3 R_is_test) {R_is_part : RF} (C_is_part : Callee P w K mg base "is_part" ["value"] 4 R_is_part) (g_isinstance : mg "isinstance" = none) (g_tuple : mg "tuple" = none) (g_len : mg "len" = none) (g_all : mg "all" = none) (c_MOST_STRENGTH : Con K mg "MOST_STRENGTH" D_MOST_STRENGTH) (c_MOST_TESTS : Con K mg "MOST_TESTS" D_MOST_TESTS) (c_MOST_PARTS : Con K mg "MOST_PARTS" D_MOST_PARTS) (A : DefAtD K mg "is_rule" s_is_rule ["value"])
    (len : ∀ ds M P, R ds M P → ds.length = 1) (pure : ∀ ds M Q, R ds M Q → t_is_rule R_is_word R_is_between R_is_test R_is_part { nx := fun _ M' => Q .non M', rt := Q } (startD N_is_rule ds) M) : Callee P w K mg base "is_rule" ["value"] 5 R := by
  refine calleeD A sc_is_rule len (fun f cdv A outer s H E hr => ⟨t_is_rule R_is_word R_is_between R_is_test R_is_part, ?_, pure⟩)
  have nd : (N_is_rule).Nodup := sc_is_rule.nd
  exact (dss_cons (ds_if (dw_t (dw_or (dt_not (dt_val (de_isi rfl g_isinstance (dv 0) rfl g_tuple (by decide +kernel)))) (dw_or (dt_ne hr.units (de_len rfl g_len (da_cons (dv 0) da_nil)) de_int) (dw_or1 (dt_not (dt_val (de_call C_is_word hr (by decide) rfl (da_cons (de_ix (dv 0) de_int) da_nil)))))))) (dss_one (ds_ret de_bl)) dss_nil) (dss_cons (ds_asg (dv 0) (DGc.dg (dg_tup rfl (dgs_cons (dg_name (vs := [1, 2, 3, 4]) (i := 1) nd rfl (by first | exact Or.inl rfl | exact Or.inr rfl)) (dgs_cons (dg_name (vs := [1, 2, 3, 4]) (i := 2) nd rfl (by first | exact Or.inl rfl | exact Or.inr rfl)) (dgs_cons (dg_name (vs := [1, 2, 3, 4]) (i := 3) nd rfl (by first | exact Or.inl rfl | exact Or.inr rfl)) (dgs_cons (dg_name (vs := [1, 2, 3, 4]) (i := 4) nd rfl (by first | exact Or.inl rfl | exact Or.inr rfl)) dgs_nil)))) len_4))) (dss_cons (ds_if (dw_t (dw_or (dt_not (dt_val (de_call C_is_between hr (by decide) rfl (da_cons (dv 2) (da_cons de_int (da_cons (de_glob rfl c_MOST_STRENGTH) da_nil)))))) (dw_or (dt_not (dt_val (de_isi rfl g_isinstance (dv 3) rfl g_tuple (by decide +kernel)))) (dw_or1 (dt_not (dt_val (de_isi rfl g_isinstance (dv 4) rfl g_tuple (by decide +kernel)))))))) (dss_one (ds_ret de_bl)) dss_nil) (dss_cons (ds_if (dw_t (dw_or (dt_not (dt_lele de_int (de_len rfl g_len (da_cons (dv 3) da_nil)) (de_glob rfl c_MOST_TESTS))) (dw_or1 (dt_gt (de_len rfl g_len (da_cons (dv 4) da_nil)) (de_glob rfl c_MOST_PARTS))))) (dss_one (ds_ret de_bl)) dss_nil) (dss_one (ds_ret (de_and (de_all rfl rfl g_all (da_cons (de_lc false rfl nd (own := [("test", 5)]) (di_tup (dv 3)) (blkOk_by (by kernel_rfl)) (fun _ _ _ _ _ => (dg_name (vs := [5]) (i := 5) nd rfl (by first | exact Or.inl rfl | exact Or.inr rfl))) (fun _ _ _ _ _ => dts_nil) (fun _ _ _ _ _ => (de_call C_is_test hr (by decide) rfl (da_cons (dv 5) da_nil)))) da_nil)) (de_one (de_all rfl rfl g_all (da_cons (de_lc false rfl nd (own := [("part", 6)]) (di_tup (dv 4)) (blkOk_by (by kernel_rfl)) (fun _ _ _ _ _ => (dg_name (vs := [6]) (i := 6) nd rfl (by first | exact Or.inl rfl | exact Or.inr rfl))) (fun _ _ _ _ _ => dts_nil) (fun _ _ _ _ _ => (de_call C_is_part hr (by decide) rfl (da_cons (dv 6) da_nil)))) da_nil))))))))))
theorem sc_tests_of : FnScope N_tests_of ["rule"] (defScope s_tests_of) := ⟨rfl, rfl, rfl, by decide +kernel, rfl, by decide +kernel, by decide +kernel⟩
theorem w_tests_of {P : Program} {w : World} {K : PySem.W.Frag} {mg : Str → Option Value} {base : Heap} {R : RF} (g_list : mg "list" = none) (A : DefAtD K mg "tests_of" s_tests_of ["rule"])
    (len : ∀ ds M P, R ds M P → ds.length = 1) (pure : ∀ ds M Q, R ds M Q → t_tests_of { nx := fun _ M' => Q .non M', rt := Q } (startD N_tests_of ds) M) : Callee P w K mg base "tests_of" ["rule"] 1 R := by
  refine calleeD A sc_tests_of len (fun f cdv A outer s H E hr => ⟨t_tests_of, ?_, pure⟩)
  have nd : (N_tests_of).Nodup := sc_tests_of.nd
  exact (dss_one (ds_ret (de_add (de_list false rfl g_list (da_cons (de_ix (dv 0) de_int) da_nil)) (de_lc false rfl nd (own := [("word", 1), ("test", 2)]) (di_tup (de_ix (dv 0) de_int)) (blkOk_by (by kernel_rfl)) (fun _ _ _ _ _ => (dg_tup rfl (dgs_cons (dg_name (vs := [1, 2]) (i := 1) nd rfl (by first | exact Or.inl rfl | exact Or.inr rfl)) (dgs_cons (dg_name (vs := [1, 2]) (i := 2) nd rfl (by first | exact Or.inl rfl | exact Or.inr rfl)) dgs_nil)) len_2)) (fun _ _ _ _ _ => dts_nil) (fun _ _ _ _ _ => (dv 2))))))
theorem sc_pairs_in : FnScope N_pairs_in ["rules"] (defScope s_pairs_in) := ⟨rfl, rfl, rfl, by decide +kernel, rfl, by decide +kernel, by decide +kernel⟩
theorem w_pairs_in {P : Program} {w : World} {K : PySem.W.Frag} {mg : Str → Option Value} {base : Heap} {R : RF} {R_tests_of : RF} (C_tests_of : Callee P w K mg base "tests_of" ["rule"] 1 R_tests_of) (g_len : mg "len" = none) (g_isinstance : mg "isinstance" = none) (g_tuple : mg "tuple" = none) (A : DefAtD K mg "pairs_in" s_pairs_in ["rules"])
    (len : ∀ ds M P, R ds M P → ds.length = 1) (pure : ∀ ds M Q, R ds M Q → t_pairs_in R_tests_of { nx := fun _ M' => Q .non M', rt := Q } (startD N_pairs_in ds) M) : Callee P w K mg base "pairs_in" ["rules"] 2 R := by
  refine calleeD A sc_pairs_in len (fun f cdv A outer s H E hr => ⟨t_pairs_in R_tests_of, ?_, pure⟩)
  have nd : (N_pairs_in).Nodup := sc_pairs_in.nd
  exact (dss_cons (ds_set (i := 1) nd rfl (by first | exact Or.inl rfl | exact Or.inr rfl) de_int) (dss_cons (ds_for PassesOwn.never rfl (di_tup (dv 0)) (DGc.dg (dg_name (vs := [2]) (i := 2) nd rfl (by first | exact Or.inl rfl | exact Or.inr rfl))) (dss_one (ds_set (i := 1) nd rfl (by first | exact Or.inl rfl | exact Or.inr rfl) (de_add (dv 1) (de_len rfl g_len (da_cons (de_lc false rfl nd (own := [("test", 3)]) (di_list (de_call C_tests_of hr (by decide) rfl (da_cons (dv 2) da_nil))) (blkOk_by (by kernel_rfl)) (fun _ _ _ _ _ => (dg_name (vs := [3]) (i := 3) nd rfl (by first | exact Or.inl rfl | exact Or.inr rfl))) (fun _ _ _ _ _ => (dts_one (dt_val (de_isi rfl g_isinstance (de_ix (dv 3) de_int) rfl g_tuple (by decide +kernel))))) (fun _ _ _ _ _ => (dv 3))) da_nil)))))) (dss_one (ds_ret (dv 1)))))
theorem sc_is_book : FnScope N_is_book ["value"] (defScope s_is_book) := ⟨rfl, rfl, rfl, by decide +kernel, rfl, by decide +kernel, by decide +kernel⟩
theorem w_is_book {P : Program} {w : World} {K : PySem.W.Frag} {mg : Str → Option Value} {base : Heap} {R : RF} {R_is_rule : RF} (C_is_rule : Callee P w K mg base "is_rule" ["value"] 5 R_is_rule) {R_pairs_in : RF} (C_pairs_in : Callee P w K mg base "pairs_in" ["rules"] 2 R_pairs_in) (g_isinstance : mg "isinstance" = none) (g_tuple : mg "tuple" = none) (g_len : mg "len" = none) (g_all : mg "all" = none) (c_MOST_RULES : Con K mg "MOST_RULES" D_MOST_RULES) (c_MOST_PAIRS : Con K mg "MOST_PAIRS" D_MOST_PAIRS) (A : DefAtD K mg "is_book" s_is_book ["value"])
    (len : ∀ ds M P, R ds M P → ds.length = 1) (pure : ∀ ds M Q, R ds M Q → t_is_book R_is_rule R_pairs_in { nx := fun _ M' => Q .non M', rt := Q } (startD N_is_book ds) M) : Callee P w K mg base "is_book" ["value"] 6 R := by
  refine calleeD A sc_is_book len (fun f cdv A outer s H E hr => ⟨t_is_book R_is_rule R_pairs_in, ?_, pure⟩)
  have nd : (N_is_book).Nodup := sc_is_book.nd
  exact (dss_cons (ds_if (dw_t (dw_or (dt_not (dt_val (de_isi rfl g_isinstance (dv 0) rfl g_tuple (by decide +kernel)))) (dw_or (dt_gt (de_len rfl g_len (da_cons (dv 0) da_nil)) (de_glob rfl c_MOST_RULES)) (dw_or1 (dt_not (dt_val (de_all rfl rfl g_all (da_cons (de_lc false rfl nd (own := [("rule", 1)]) (di_tup (dv 0)) (blkOk_by (by kernel_rfl)) (fun _ _ _ _ _ => (dg_name (vs := [1]) (i := 1) nd rfl (by first | exact Or.inl rfl | exact Or.inr rfl))) (fun _ _ _ _ _ => dts_nil) (fun _ _ _ _ _ => (de_call C_is_rule hr (by decide) rfl (da_cons (dv 1) da_nil)))) da_nil)))))))) (dss_one (ds_ret de_bl)) dss_nil) (dss_one (ds_ret (de_le (de_call C_pairs_in hr (by decide) rfl (da_cons (dv 0) da_nil)) (de_glob rfl c_MOST_PAIRS)))))
theorem sc_need_book : FnScope N_need_book ["book"] (defScope s_need_book) := ⟨rfl, rfl, rfl, by decide +kernel, rfl, by decide +kernel, by decide +kernel⟩
theorem w_need_book {P : Program} {w : World} {K : PySem.W.Frag} {mg : Str → Option Value} {base : Heap} {R : RF} {R_is_book : RF} (C_is_book : Callee P w K mg base "is_book" ["value"] 6 R_is_book) (A : DefAtD K mg "need_book" s_need_book ["book"])
    (len : ∀ ds M P, R ds M P → ds.length = 1) (pure : ∀ ds M Q, R ds M Q → t_need_book R_is_book { nx := fun _ M' => Q .non M', rt := Q } (startD N_need_book ds) M) : Callee P w K mg base "need_book" ["book"] 7 R := by
  refine calleeD A sc_need_book len (fun f cdv A outer s H E hr => ⟨t_need_book R_is_book, ?_, pure⟩)
  have nd : (N_need_book).Nodup := sc_need_book.nd
  exact (dss_one (ds_if (dt_not (dt_val (de_call C_is_book hr (by decide) rfl (da_cons (dv 0) da_nil)))) dss_never dss_nil))
theorem sc_fits : FnScope N_fits ["number", "how", "value"] (defScope s_fits) := ⟨rfl, rfl, rfl, by decide +kernel, rfl, by decide +kernel, by decide +kernel⟩
theorem w_fits {P : Program} {w : World} {K : PySem.W.Frag} {mg : Str → Option Value} {base : Heap} {R : RF} (A : DefAtD K mg "fits" s_fits ["number", "how", "value"])
    (len : ∀ ds M P, R ds M P → ds.length = 3) (pure : ∀ ds M Q, R ds M Q → t_fits { nx := fun _ M' => Q .non M', rt := Q } (startD N_fits ds) M) : Callee P w K mg base "fits" ["number", "how", "value"] 1 R := by
  refine calleeD A sc_fits len (fun f cdv A outer s H E hr => ⟨t_fits, ?_, pure⟩)
  have nd : (N_fits).Nodup := sc_fits.nd
  exact (dss_cons (ds_if (dt_eq hr.units (dv 1) de_str) (dss_one (ds_ret (de_eq hr.units (dv 0) (dv 2)))) dss_nil) (dss_cons (ds_if (dt_eq hr.units (dv 1) de_str) (dss_one (ds_ret (de_ne hr.units (dv 0) (dv 2)))) dss_nil) (dss_cons (ds_if (dt_eq hr.units (dv 1) de_str) (dss_one (ds_ret (de_lt (dv 0) (dv 2)))) dss_nil) (dss_one (ds_ret (de_if (dt_eq hr.units (dv 1) de_str) (de_gt (dv 0) (dv 2)) (de_eq hr.units (de_band (dv 0) (dv 2)) (dv 2))))))))
theorem sc_order_of : FnScope N_order_of ["book"] (defScope s_order_of) := ⟨rfl, rfl, rfl, by decide +kernel, rfl, by decide +kernel, by decide +kernel⟩
theorem w_order_of {P : Program} {w : World} {K : PySem.W.Frag} {mg : Str → Option Value} {base : Heap} {R : RF} (g_sorted : mg "sorted" = none) (g_enumerate : mg "enumerate" = none) (A : DefAtD K mg "order_of" s_order_of ["book"])
    (len : ∀ ds M P, R ds M P → ds.length = 1) (pure : ∀ ds M Q, R ds M Q → t_order_of { nx := fun _ M' => Q .non M', rt := Q } (startD N_order_of ds) M) : Callee P w K mg base "order_of" ["book"] 1 R := by
  refine calleeD A sc_order_of len (fun f cdv A outer s H E hr => ⟨t_order_of, ?_, pure⟩)
  have nd : (N_order_of).Nodup := sc_order_of.nd
  exact (dss_one (ds_ret (de_lc false rfl nd (own := [("strength", 1), ("index", 2)]) (di_list (de_sortPP hr rfl g_sorted (da_cons (de_lc false rfl nd (own := [("index", 2), ("rule", 3)]) (di_enumT rfl g_enumerate (dv 0)) (blkOk_by (by kernel_rfl)) (fun _ _ _ _ _ => (dg_tup rfl (dgs_cons (dg_name (vs := [2, 3]) (i := 2) nd rfl (by first | exact Or.inl rfl | exact Or.inr rfl)) (dgs_cons (dg_name (vs := [2, 3]) (i := 3) nd rfl (by first | exact Or.inl rfl | exact Or.inr rfl)) dgs_nil)) len_2)) (fun _ _ _ _ _ => dts_nil) (fun _ _ _ _ _ => (de_tup (da_cons (de_neg (de_ix (dv 3) de_int)) (da_cons (dv 2) da_nil))))) da_nil))) (blkOk_by (by kernel_rfl)) (fun _ _ _ _ _ => (dg_tup rfl (dgs_cons (dg_name (vs := [1, 2]) (i := 1) nd rfl (by first | exact Or.inl rfl | exact Or.inr rfl)) (dgs_cons (dg_name (vs := [1, 2]) (i := 2) nd rfl (by first | exact Or.inl rfl | exact Or.inr rfl)) dgs_nil)) len_2)) (fun _ _ _ _ _ => dts_nil) (fun _ _ _ _ _ => (dv 2)))))
theorem sc_digits_at : FnScope N_digits_at ["case", "place"] (defScope s_digits_at) := ⟨rfl, rfl, rfl, by decide +kernel, rfl, by decide +kernel, by decide +kernel⟩
theorem w_digits_at {P : Program} {w : World} {K : PySem.W.Frag} {mg : Str → Option Value} {base : Heap} {R : RF} (c_EVERY : Con K mg "EVERY" D_EVERY) (A : DefAtD K mg "digits_at" s_digits_at ["case", "place"])
    (len : ∀ ds M P, R ds M P → ds.length = 2) (pure : ∀ ds M Q, R ds M Q → t_digits_at { nx := fun _ M' => Q .non M', rt := Q } (startD N_digits_at ds) M) : Callee P w K mg base "digits_at" ["case", "place"] 1 R := by
  refine calleeD A sc_digits_at len (fun f cdv A outer s H E hr => ⟨t_digits_at, ?_, pure⟩)
  have nd : (N_digits_at).Nodup := sc_digits_at.nd
  exact (dss_cons (ds_for PassesOwn.never rfl (di_tup (de_ix (dv 0) de_int)) (DGc.dg (dg_tup rfl (dgs_cons (dg_name (vs := [2, 3]) (i := 2) nd rfl (by first | exact Or.inl rfl | exact Or.inr rfl)) (dgs_cons (dg_name (vs := [2, 3]) (i := 3) nd rfl (by first | exact Or.inl rfl | exact Or.inr rfl)) dgs_nil)) len_2)) (dss_one (ds_if (dt_eq hr.units (dv 2) (dv 1)) (dss_one (ds_ret (dv 3))) dss_nil))) (dss_one (ds_ret (de_glob rfl c_EVERY))))
theorem sc_with_digits : FnScope N_with_digits ["case", "place", "digits"] (defScope s_with_digits) := ⟨rfl, rfl, rfl, by decide +kernel, rfl, by decide +kernel, by decide +kernel⟩
theorem w_with_digits {P : Program} {w : World} {K : PySem.W.Frag} {mg : Str → Option Value} {base : Heap} {R : RF} (g_tuple : mg "tuple" = none) (A : DefAtD K mg "with_digits" s_with_digits ["case", "place", "digits"])
    (len : ∀ ds M P, R ds M P → ds.length = 3) (pure : ∀ ds M Q, R ds M Q → t_with_digits { nx := fun _ M' => Q .non M', rt := Q } (startD N_with_digits ds) M) : Callee P w K mg base "with_digits" ["case", "place", "digits"] 1 R := by
  refine calleeD A sc_with_digits len (fun f cdv A outer s H E hr => ⟨t_with_digits, ?_, pure⟩)
  have nd : (N_with_digits).Nodup := sc_with_digits.nd
  exact (dss_cons (ds_set (i := 3) nd rfl (by first | exact Or.inl rfl | exact Or.inr rfl) (de_tuple rfl g_tuple (da_cons (de_lc false rfl nd (own := [("pair", 4)]) (di_tup (de_ix (dv 0) de_int)) (blkOk_by (by kernel_rfl)) (fun _ _ _ _ _ => (dg_name (vs := [4]) (i := 4) nd rfl (by first | exact Or.inl rfl | exact Or.inr rfl))) (fun _ _ _ _ _ => (dts_one (dt_ne hr.units (de_ix (dv 4) de_int) (dv 1)))) (fun _ _ _ _ _ => (dv 4))) da_nil))) (dss_one (ds_ret (de_tup (da_cons (de_ix (dv 0) de_int) (da_cons (de_ix (dv 0) de_int) (da_cons (de_add (dv 3) (de_tup (da_cons (de_tup (da_cons (dv 1) (da_cons (dv 2) da_nil))) da_nil))) da_nil)))))))
theorem sc_without_place : FnScope N_without_place ["case", "place"] (defScope s_without_place) := ⟨rfl, rfl, rfl, by decide +kernel, rfl, by decide +kernel, by decide +kernel⟩
theorem w_without_place {P : Program} {w : World} {K : PySem.W.Frag} {mg : Str → Option Value} {base : Heap} {R : RF} (g_min : mg "min" = none) (A : DefAtD K mg "without_place" s_without_place ["case", "place"])
    (len : ∀ ds M P, R ds M P → ds.length = 2) (pure : ∀ ds M Q, R ds M Q → t_without_place { nx := fun _ M' => Q .non M', rt := Q } (startD N_without_place ds) M) : Callee P w K mg base "without_place" ["case", "place"] 1 R := by
  refine calleeD A sc_without_place len (fun f cdv A outer s H E hr => ⟨t_without_place, ?_, pure⟩)
  have nd : (N_without_place).Nodup := sc_without_place.nd
  exact (dss_one (ds_ret (de_if (dt_le (de_ix (dv 0) de_int) (dv 1)) (de_lst false (da_cons (de_tup (da_cons (de_ix (dv 0) de_int) (da_cons (de_min2 rfl rfl g_min (da_cons (de_ix (dv 0) de_int) (da_cons (dv 1) da_nil))) (da_cons (de_ix (dv 0) de_int) da_nil)))) da_nil)) (de_lst false da_nil))))
theorem sc_with_place : FnScope N_with_place ["case", "place"] (defScope s_with_place) := ⟨rfl, rfl, rfl, by decide +kernel, rfl, by decide +kernel, by decide +kernel⟩
theorem w_with_place {P : Program} {w : World} {K : PySem.W.Frag} {mg : Str → Option Value} {base : Heap} {R : RF} (g_max : mg "max" = none) (A : DefAtD K mg "with_place" s_with_place ["case", "place"])
    (len : ∀ ds M P, R ds M P → ds.length = 2) (pure : ∀ ds M Q, R ds M Q → t_with_place { nx := fun _ M' => Q .non M', rt := Q } (startD N_with_place ds) M) : Callee P w K mg base "with_place" ["case", "place"] 1 R := by
  refine calleeD A sc_with_place len (fun f cdv A outer s H E hr => ⟨t_with_place, ?_, pure⟩)
  have nd : (N_with_place).Nodup := sc_with_place.nd
  exact (dss_one (ds_ret (de_if (dt_lt (dv 1) (de_ix (dv 0) de_int)) (de_lst false (da_cons (de_tup (da_cons (de_max2 rfl rfl g_max (da_cons (de_ix (dv 0) de_int) (da_cons (de_add (dv 1) de_int) da_nil))) (da_cons (de_ix (dv 0) de_int) (da_cons (de_ix (dv 0) de_int) da_nil)))) da_nil)) (de_lst false da_nil))))
theorem sc_split_place : FnScope N_split_place ["case", "place", "how", "value", "named"] (defScope s_split_place) := ⟨rfl, rfl, rfl, by decide +kernel, rfl, by decide +kernel, by decide +kernel⟩
theorem w_split_place {P : Program} {w : World} {K : PySem.W.Frag} {mg : Str → Option Value} {base : Heap} {R : RF} {R_without_place : RF} (C_without_place : Callee P w K mg base "without_place" ["case", "place"] 1 R_without_place) {R_with_place : RF} (C_with_place : Callee P w K mg base "with_place" ["case", "place"] 1 R_with_place) {R_digits_at : RF} (C_digits_at : Callee P w K mg base "digits_at" ["case", "place"] 1 R_digits_at) {R_fits : RF} (C_fits : Callee P w K mg base "fits" ["number", "how", "value"] 1 R_fits) {R_with_digits : RF} (C_with_digits : Callee P w K mg base "with_digits" ["case", "place", "digits"] 1 R_with_digits) (g_tuple : mg "tuple" = none) (A : DefAtD K mg "split_place" s_split_place ["case", "place", "how", "value", "named"])
    (len : ∀ ds M P, R ds M P → ds.length = 5) (pure : ∀ ds M Q, R ds M Q → t_split_place R_without_place R_with_place R_digits_at R_fits R_with_digits { nx := fun _ M' => Q .non M', rt := Q } (startD N_split_place ds) M) : Callee P w K mg base "split_place" ["case", "place", "how", "value", "named"] 2 R := by
  refine calleeD A sc_split_place len (fun f cdv A outer s H E hr => ⟨t_split_place R_without_place R_with_place R_digits_at R_fits R_with_digits, ?_, pure⟩)
  have nd : (N_split_place).Nodup := sc_split_place.nd
  exact (dss_cons (ds_setLc false (i := 5) rfl nd rfl rfl (sw_true rfl rfl rfl (by decide +kernel)) (own := [("one", 6)]) (di_list (de_call C_without_place hr (by decide) rfl (da_cons (dv 0) (da_cons (dv 1) da_nil)))) (blkOk_by (by kernel_rfl)) (fun _ _ _ _ _ => (dg_name (vs := [6]) (i := 6) nd rfl (by first | exact Or.inl rfl | exact Or.inr rfl))) (fun _ _ _ _ _ => dts_nil) (fun _ _ _ _ _ => (de_tup (da_cons de_bl (da_cons (dv 6) da_nil))))) (dss_cons (ds_for PassesOwn.never rfl (di_list (de_call C_with_place hr (by decide) rfl (da_cons (dv 0) (da_cons (dv 1) da_nil)))) (DGc.dg (dg_name (vs := [7]) (i := 7) nd rfl (by first | exact Or.inl rfl | exact Or.inr rfl))) (dss_cons (ds_set (i := 8) nd rfl (by first | exact Or.inl rfl | exact Or.inr rfl) (de_call C_digits_at hr (by decide) rfl (da_cons (dv 7) (da_cons (dv 4) da_nil)))) (dss_cons (ds_set (i := 9) nd rfl (by first | exact Or.inl rfl | exact Or.inr rfl) (de_tuple rfl g_tuple (da_cons (de_lc false rfl nd (own := [("digit", 10)]) (di_tup (dv 8)) (blkOk_by (by kernel_rfl)) (fun _ _ _ _ _ => (dg_name (vs := [10]) (i := 10) nd rfl (by first | exact Or.inl rfl | exact Or.inr rfl))) (fun _ _ _ _ _ => (dts_one (dt_val (de_call C_fits hr (by decide) rfl (da_cons (dv 10) (da_cons (dv 2) (da_cons (dv 3) da_nil))))))) (fun _ _ _ _ _ => (dv 10))) da_nil))) (dss_cons (ds_set (i := 11) nd rfl (by first | exact Or.inl rfl | exact Or.inr rfl) (de_tuple rfl g_tuple (da_cons (de_lc false rfl nd (own := [("digit", 10)]) (di_tup (dv 8)) (blkOk_by (by kernel_rfl)) (fun _ _ _ _ _ => (dg_name (vs := [10]) (i := 10) nd rfl (by first | exact Or.inl rfl | exact Or.inr rfl))) (fun _ _ _ _ _ => (dts_one (dt_notIn (dv 10) (dv 9)))) (fun _ _ _ _ _ => (dv 10))) da_nil))) (dss_cons (ds_if (dt_ne hr.units (dv 9) (de_tup da_nil)) (dss_one (ds_set (i := 5) nd rfl (by first | exact Or.inl rfl | exact Or.inr rfl) (de_add (dv 5) (de_lst false (da_cons (de_tup (da_cons de_bl (da_cons (de_call C_with_digits hr (by decide) rfl (da_cons (dv 7) (da_cons (dv 4) (da_cons (dv 9) da_nil)))) da_nil))) da_nil))))) dss_nil) (dss_one (ds_if (dt_ne hr.units (dv 11) (de_tup da_nil)) (dss_one (ds_set (i := 5) nd rfl (by first | exact Or.inl rfl | exact Or.inr rfl) (de_add (dv 5) (de_lst false (da_cons (de_tup (da_cons de_bl (da_cons (de_call C_with_digits hr (by decide) rfl (da_cons (dv 7) (da_cons (dv 4) (da_cons (dv 11) da_nil)))) da_nil))) da_nil))))) dss_nil))))))) (dss_one (ds_ret (dv 5)))))
theorem sc_split_test : FnScope N_split_test ["case", "test", "other", "cut"] (defScope s_split_test) := ⟨rfl, rfl, rfl, by decide +kernel, rfl, by decide +kernel, by decide +kernel⟩
theorem w_split_test {P : Program} {w : World} {K : PySem.W.Frag} {mg : Str → Option Value} {base : Heap} {R : RF} {R_without_place : RF} (C_without_place : Callee P w K mg base "without_place" ["case", "place"] 1 R_without_place) {R_with_place : RF} (C_with_place : Callee P w K mg base "with_place" ["case", "place"] 1 R_with_place) {R_digits_at : RF} (C_digits_at : Callee P w K mg base "digits_at" ["case", "place"] 1 R_digits_at) {R_with_digits : RF} (C_with_digits : Callee P w K mg base "with_digits" ["case", "place", "digits"] 1 R_with_digits) {R_split_place : RF} (C_split_place : Callee P w K mg base "split_place" ["case", "place", "how", "value", "named"] 2 R_split_place) (g_isinstance : mg "isinstance" = none) (g_tuple : mg "tuple" = none) (A : DefAtD K mg "split_test" s_split_test ["case", "test", "other", "cut"])
    (len : ∀ ds M P, R ds M P → ds.length = 4) (pure : ∀ ds M Q, R ds M Q → t_split_test R_without_place R_with_place R_digits_at R_with_digits R_split_place { nx := fun _ M' => Q .non M', rt := Q } (startD N_split_test ds) M) : Callee P w K mg base "split_test" ["case", "test", "other", "cut"] 3 R := by
  refine calleeD A sc_split_test len (fun f cdv A outer s H E hr => ⟨t_split_test R_without_place R_with_place R_digits_at R_with_digits R_split_place, ?_, pure⟩)
  have nd : (N_split_test).Nodup := sc_split_test.nd
  exact (dss_cons (ds_asg (dv 1) (DGc.dg (dg_tup rfl (dgs_cons (dg_name (vs := [4, 5, 6]) (i := 4) nd rfl (by first | exact Or.inl rfl | exact Or.inr rfl)) (dgs_cons (dg_name (vs := [4, 5, 6]) (i := 5) nd rfl (by first | exact Or.inl rfl | exact Or.inr rfl)) (dgs_cons (dg_name (vs := [4, 5, 6]) (i := 6) nd rfl (by first | exact Or.inl rfl | exact Or.inr rfl)) dgs_nil))) len_3))) (dss_cons (ds_set (i := 7) nd rfl (by first | exact Or.inl rfl | exact Or.inr rfl) (de_lst false (da_cons (de_tup (da_cons (dv 0) (da_cons (dv 4) da_nil))) da_nil))) (dss_cons (ds_set (i := 8) nd rfl (by first | exact Or.inl rfl | exact Or.inr rfl) (de_lst false da_nil)) (dss_cons (ds_if (dt_val (de_isi rfl g_isinstance (dv 4) rfl g_tuple (by decide +kernel))) (dss_cons (ds_set (i := 9) nd rfl (by first | exact Or.inl rfl | exact Or.inr rfl) (de_ix (dv 4) de_int)) (dss_cons (ds_set (i := 10) nd rfl (by first | exact Or.inl rfl | exact Or.inr rfl) (de_if (dt_eq hr.units (dv 9) (dv 2)) (de_neg de_int) (dv 9))) (dss_cons (ds_if (dw_t (dw_and (dt_isNot (dv 3) de_non) (dw_and1 (dt_ge (dv 9) (dv 3))))) (dss_one (ds_ret (de_lst false (da_cons (de_tup (da_cons de_bl (da_cons (dv 0) da_nil))) da_nil)))) dss_nil) (dss_cons (ds_setLc false (i := 8) rfl nd rfl rfl (sw_true rfl rfl rfl (by decide +kernel)) (own := [("one", 11)]) (di_list (de_call C_without_place hr (by decide) rfl (da_cons (dv 0) (da_cons (dv 9) da_nil)))) (blkOk_by (by kernel_rfl)) (fun _ _ _ _ _ => (dg_name (vs := [11]) (i := 11) nd rfl (by first | exact Or.inl rfl | exact Or.inr rfl))) (fun _ _ _ _ _ => dts_nil) (fun _ _ _ _ _ => (de_tup (da_cons de_bl (da_cons (dv 11) da_nil))))) (dss_cons (ds_set (i := 7) nd rfl (by first | exact Or.inl rfl | exact Or.inr rfl) (de_lst false da_nil)) (dss_one (ds_for PassesOwn.never rfl (di_list (de_call C_with_place hr (by decide) rfl (da_cons (dv 0) (da_cons (dv 9) da_nil)))) (DGc.dg (dg_name (vs := [12]) (i := 12) nd rfl (by first | exact Or.inl rfl | exact Or.inr rfl))) (dss_cons (ds_set (i := 13) nd rfl (by first | exact Or.inl rfl | exact Or.inr rfl) (de_call C_digits_at hr (by decide) rfl (da_cons (dv 12) (da_cons (dv 10) da_nil)))) (dss_one (ds_set (i := 7) nd rfl (by first | exact Or.inl rfl | exact Or.inr rfl) (de_add (dv 7) (de_lc false rfl nd (own := [("digit", 14)]) (di_tup (dv 13)) (blkOk_by (by kernel_rfl)) (fun _ _ _ _ _ => (dg_name (vs := [14]) (i := 14) nd rfl (by first | exact Or.inl rfl | exact Or.inr rfl))) (fun _ _ _ _ _ => dts_nil) (fun _ _ _ _ _ => (de_tup (da_cons (de_call C_with_digits hr (by decide) rfl (da_cons (dv 12) (da_cons (dv 10) (da_cons (de_tup (da_cons (dv 14) da_nil)) da_nil)))) (da_cons (de_add (dv 14) (de_ix (dv 4) de_int)) da_nil)))))))))))))))) dss_nil) (dss_cons (ds_for PassesOwn.never rfl (di_list (dv 7)) (DGc.dg (dg_tup rfl (dgs_cons (dg_name (vs := [12, 15]) (i := 12) nd rfl (by first | exact Or.inl rfl | exact Or.inr rfl)) (dgs_cons (dg_name (vs := [12, 15]) (i := 15) nd rfl (by first | exact Or.inl rfl | exact Or.inr rfl)) dgs_nil)) len_2)) (dss_one (ds_if (dw_t (dw_and (dt_isNot (dv 3) de_non) (dw_and1 (dt_ge (dv 15) (dv 3))))) (dss_one (ds_set (i := 8) nd rfl (by first | exact Or.inl rfl | exact Or.inr rfl) (de_add (dv 8) (de_lst false (da_cons (de_tup (da_cons de_bl (da_cons (dv 12) da_nil))) da_nil))))) (dss_one (ds_set (i := 8) nd rfl (by first | exact Or.inl rfl | exact Or.inr rfl) (de_add (dv 8) (de_call C_split_place hr (by decide) rfl (da_cons (dv 12) (da_cons (dv 15) (da_cons (dv 5) (da_cons (dv 6) (da_cons (de_if (dt_eq hr.units (dv 15) (dv 2)) (de_neg de_int) (dv 15)) da_nil)))))))))))) (dss_one (ds_ret (dv 8))))))))
theorem sc_split_all : FnScope N_split_all ["cases", "tests", "other", "cut"] (defScope s_split_all) := ⟨rfl, rfl, rfl, by decide +kernel, rfl, by decide +kernel, by decide +kernel⟩
theorem w_split_all {P : Program} {w : World} {K : PySem.W.Frag} {mg : Str → Option Value} {base : Heap} {R : RF} {R_split_test : RF} (C_split_test : Callee P w K mg base "split_test" ["case", "test", "other", "cut"] 3 R_split_test) (g_list : mg "list" = none) (A : DefAtD K mg "split_all" s_split_all ["cases", "tests", "other", "cut"])
    (len : ∀ ds M P, R ds M P → ds.length = 4) (pure : ∀ ds M Q, R ds M Q → t_split_all R_split_test { nx := fun _ M' => Q .non M', rt := Q } (startD N_split_all ds) M) : Callee P w K mg base "split_all" ["cases", "tests", "other", "cut"] 4 R := by
  refine calleeD A sc_split_all len (fun f cdv A outer s H E hr => ⟨t_split_all R_split_test, ?_, pure⟩)
  have nd : (N_split_all).Nodup := sc_split_all.nd
  exact (dss_cons (ds_par (i := 4) (j := 5) rfl nd rfl rfl (by decide) rfl rfl (de_list false rfl g_list (da_cons (dv 0) da_nil)) (de_lst false da_nil) (by rfl)) (dss_cons (ds_for PassesOwn.never rfl (di_tup (dv 1)) (DGc.dg (dg_name (vs := [6]) (i := 6) nd rfl (by first | exact Or.inl rfl | exact Or.inr rfl))) (dss_cons (ds_set (i := 7) nd rfl (by first | exact Or.inl rfl | exact Or.inr rfl) (de_lst false da_nil)) (dss_cons (ds_for PassesOwn.never rfl (di_list (dv 4)) (DGc.dg (dg_name (vs := [8]) (i := 8) nd rfl (by first | exact Or.inl rfl | exact Or.inr rfl))) (dss_cons (ds_set (i := 9) nd rfl (by first | exact Or.inl rfl | exact Or.inr rfl) (de_call C_split_test hr (by decide) rfl (da_cons (dv 8) (da_cons (dv 6) (da_cons (dv 2) (da_cons (dv 3) da_nil)))))) (dss_cons (ds_set (i := 7) nd rfl (by first | exact Or.inl rfl | exact Or.inr rfl) (de_add (dv 7) (de_lc false rfl nd (own := [("passed", 10), ("one", 11)]) (di_list (dv 9)) (blkOk_by (by kernel_rfl)) (fun _ _ _ _ _ => (dg_tup rfl (dgs_cons (dg_name (vs := [10, 11]) (i := 10) nd rfl (by first | exact Or.inl rfl | exact Or.inr rfl)) (dgs_cons (dg_name (vs := [10, 11]) (i := 11) nd rfl (by first | exact Or.inl rfl | exact Or.inr rfl)) dgs_nil)) len_2)) (fun _ _ _ _ _ => (dts_one (dt_val (dv 10)))) (fun _ _ _ _ _ => (dv 11))))) (dss_one (ds_set (i := 5) nd rfl (by first | exact Or.inl rfl | exact Or.inr rfl) (de_add (dv 5) (de_lc false rfl nd (own := [("passed", 10), ("one", 11)]) (di_list (dv 9)) (blkOk_by (by kernel_rfl)) (fun _ _ _ _ _ => (dg_tup rfl (dgs_cons (dg_name (vs := [10, 11]) (i := 10) nd rfl (by first | exact Or.inl rfl | exact Or.inr rfl)) (dgs_cons (dg_name (vs := [10, 11]) (i := 11) nd rfl (by first | exact Or.inl rfl | exact Or.inr rfl)) dgs_nil)) len_2)) (fun _ _ _ _ _ => (dts_one (dt_not (dt_val (dv 10))))) (fun _ _ _ _ _ => (dv 11))))))))) (dss_one (ds_set (i := 4) nd rfl (by first | exact Or.inl rfl | exact Or.inr rfl) (dv 7)))))) (dss_one (ds_ret (de_tup (da_cons (dv 4) (da_cons (dv 5) da_nil)))))))
theorem sc_split_parts : FnScope N_split_parts ["rule", "cases", "other", "cut"] (defScope s_split_parts) := ⟨rfl, rfl, rfl, by decide +kernel, rfl, by decide +kernel, by decide +kernel⟩
theorem w_split_parts {P : Program} {w : World} {K : PySem.W.Frag} {mg : Str → Option Value} {base : Heap} {R : RF} {R_split_test : RF} (C_split_test : Callee P w K mg base "split_test" ["case", "test", "other", "cut"] 3 R_split_test) (A : DefAtD K mg "split_parts" s_split_parts ["rule", "cases", "other", "cut"])
    (len : ∀ ds M P, R ds M P → ds.length = 4) (pure : ∀ ds M Q, R ds M Q → t_split_parts R_split_test { nx := fun _ M' => Q .non M', rt := Q } (startD N_split_parts ds) M) : Callee P w K mg base "split_parts" ["rule", "cases", "other", "cut"] 4 R := by
  refine calleeD A sc_split_parts len (fun f cdv A outer s H E hr => ⟨t_split_parts R_split_test, ?_, pure⟩)
  have nd : (N_split_parts).Nodup := sc_split_parts.nd
  exact (dss_cons (ds_setLc false (i := 4) rfl nd rfl rfl (sw_true rfl rfl rfl (by decide +kernel)) (own := [("case", 5)]) (di_list (dv 1)) (blkOk_by (by kernel_rfl)) (fun _ _ _ _ _ => (dg_name (vs := [5]) (i := 5) nd rfl (by first | exact Or.inl rfl | exact Or.inr rfl))) (fun _ _ _ _ _ => dts_nil) (fun _ _ _ _ _ => (de_tup (da_cons (de_ix (dv 0) de_int) (da_cons (de_tup da_nil) (da_cons (dv 5) da_nil)))))) (dss_cons (ds_for PassesOwn.never rfl (di_tup (de_ix (dv 0) de_int)) (DGc.dg (dg_tup rfl (dgs_cons (dg_name (vs := [6, 7]) (i := 6) nd rfl (by first | exact Or.inl rfl | exact Or.inr rfl)) (dgs_cons (dg_name (vs := [6, 7]) (i := 7) nd rfl (by first | exact Or.inl rfl | exact Or.inr rfl)) dgs_nil)) len_2)) (dss_cons (ds_set (i := 8) nd rfl (by first | exact Or.inl rfl | exact Or.inr rfl) (de_lst false da_nil)) (dss_cons (ds_for PassesOwn.never rfl (di_list (dv 4)) (DGc.dg (dg_tup rfl (dgs_cons (dg_name (vs := [9, 10, 5]) (i := 9) nd rfl (by first | exact Or.inl rfl | exact Or.inr rfl)) (dgs_cons (dg_name (vs := [9, 10, 5]) (i := 10) nd rfl (by first | exact Or.inl rfl | exact Or.inr rfl)) (dgs_cons (dg_name (vs := [9, 10, 5]) (i := 5) nd rfl (by first | exact Or.inl rfl | exact Or.inr rfl)) dgs_nil))) len_3)) (dss_one (ds_for PassesOwn.never rfl (di_list (de_call C_split_test hr (by decide) rfl (da_cons (dv 5) (da_cons (dv 7) (da_cons (dv 2) (da_cons (dv 3) da_nil)))))) (DGc.dg (dg_tup rfl (dgs_cons (dg_name (vs := [11, 12]) (i := 11) nd rfl (by first | exact Or.inl rfl | exact Or.inr rfl)) (dgs_cons (dg_name (vs := [11, 12]) (i := 12) nd rfl (by first | exact Or.inl rfl | exact Or.inr rfl)) dgs_nil)) len_2)) (dss_one (ds_set (i := 8) nd rfl (by first | exact Or.inl rfl | exact Or.inr rfl) (de_add (dv 8) (de_lst false (da_cons (de_tup (da_cons (de_if (dt_val (dv 11)) (de_add (de_add (dv 9) de_str) (dv 6)) (dv 9)) (da_cons (de_add (dv 10) (de_tup (da_cons (dv 11) da_nil))) (da_cons (dv 12) da_nil)))) da_nil)))))))) (dss_one (ds_set (i := 4) nd rfl (by first | exact Or.inl rfl | exact Or.inr rfl) (dv 8)))))) (dss_one (ds_ret (dv 4)))))
theorem sc_lines_from : FnScope N_lines_from ["book", "case", "other", "cut"] (defScope s_lines_from) := ⟨rfl, rfl, rfl, by decide +kernel, rfl, by decide +kernel, by decide +kernel⟩
theorem w_lines_from {P : Program} {w : World} {K : PySem.W.Frag} {mg : Str → Option Value} {base : Heap} {R : RF} {R_order_of : RF} (C_order_of : Callee P w K mg base "order_of" ["book"] 1 R_order_of) {R_split_all : RF} (C_split_all : Callee P w K mg base "split_all" ["cases", "tests", "other", "cut"] 4 R_split_all) {R_split_parts : RF} (C_split_parts : Callee P w K mg base "split_parts" ["rule", "cases", "other", "cut"] 4 R_split_parts) (A : DefAtD K mg "lines_from" s_lines_from ["book", "case", "other", "cut"])
    (len : ∀ ds M P, R ds M P → ds.length = 4) (pure : ∀ ds M Q, R ds M Q → t_lines_from R_order_of R_split_all R_split_parts { nx := fun _ M' => Q .non M', rt := Q } (startD N_lines_from ds) M) : Callee P w K mg base "lines_from" ["book", "case", "other", "cut"] 5 R := by
  refine calleeD A sc_lines_from len (fun f cdv A outer s H E hr => ⟨t_lines_from R_order_of R_split_all R_split_parts, ?_, pure⟩)
  have nd : (N_lines_from).Nodup := sc_lines_from.nd
  exact (dss_cons (ds_par (i := 4) (j := 5) rfl nd rfl rfl (by decide) rfl rfl (de_lst false da_nil) (de_lst false (da_cons (dv 1) da_nil)) (by rfl)) (dss_cons (ds_for PassesOwn.never rfl (di_list (de_call C_order_of hr (by decide) rfl (da_cons (dv 0) da_nil))) (DGc.dg (dg_name (vs := [6]) (i := 6) nd rfl (by first | exact Or.inl rfl | exact Or.inr rfl))) (dss_cons (ds_asg (de_call C_split_all hr (by decide) rfl (da_cons (dv 5) (da_cons (de_ix (de_ix (dv 0) (dv 6)) de_int) (da_cons (dv 2) (da_cons (dv 3) da_nil))))) (DGc.dg (dg_tup rfl (dgs_cons (dg_name (vs := [7, 5]) (i := 7) nd rfl (by first | exact Or.inl rfl | exact Or.inr rfl)) (dgs_cons (dg_name (vs := [7, 5]) (i := 5) nd rfl (by first | exact Or.inl rfl | exact Or.inr rfl)) dgs_nil)) len_2))) (dss_one (ds_set (i := 4) nd rfl (by first | exact Or.inl rfl | exact Or.inr rfl) (de_add (dv 4) (de_lc false rfl nd (own := [("text", 8), ("said", 9), ("one", 10)]) (di_list (de_call C_split_parts hr (by decide) rfl (da_cons (de_ix (dv 0) (dv 6)) (da_cons (dv 7) (da_cons (dv 2) (da_cons (dv 3) da_nil)))))) (blkOk_by (by kernel_rfl)) (fun _ _ _ _ _ => (dg_tup rfl (dgs_cons (dg_name (vs := [8, 9, 10]) (i := 8) nd rfl (by first | exact Or.inl rfl | exact Or.inr rfl)) (dgs_cons (dg_name (vs := [8, 9, 10]) (i := 9) nd rfl (by first | exact Or.inl rfl | exact Or.inr rfl)) (dgs_cons (dg_name (vs := [8, 9, 10]) (i := 10) nd rfl (by first | exact Or.inl rfl | exact Or.inr rfl)) dgs_nil))) len_3)) (fun _ _ _ _ _ => dts_nil) (fun _ _ _ _ _ => (de_tup (da_cons (dv 8) (da_cons (dv 6) (da_cons (dv 9) (da_cons (dv 10) da_nil)))))))))))) (dss_one (ds_ret (de_add (dv 4) (de_lc false rfl nd (own := [("one", 10)]) (di_list (dv 5)) (blkOk_by (by kernel_rfl)) (fun _ _ _ _ _ => (dg_name (vs := [10]) (i := 10) nd rfl (by first | exact Or.inl rfl | exact Or.inr rfl))) (fun _ _ _ _ _ => dts_nil) (fun _ _ _ _ _ => (de_tup (da_cons de_non (da_cons de_non (da_cons (de_tup da_nil) (da_cons (dv 10) da_nil))))))))))))
theorem sc_lines_of : FnScope N_lines_of ["book"] (defScope s_lines_of) := ⟨rfl, rfl, rfl, by decide +kernel, rfl, by decide +kernel, by decide +kernel⟩
theorem w_lines_of {P : Program} {w : World} {K : PySem.W.Frag} {mg : Str → Option Value} {base : Heap} {R : RF} {R_lines_from : RF} (C_lines_from : Callee P w K mg base "lines_from" ["book", "case", "other", "cut"] 5 R_lines_from) (c_START : Con K mg "START" D_START) (A : DefAtD K mg "lines_of" s_lines_of ["book"])
    (len : ∀ ds M P, R ds M P → ds.length = 1) (pure : ∀ ds M Q, R ds M Q → t_lines_of R_lines_from { nx := fun _ M' => Q .non M', rt := Q } (startD N_lines_of ds) M) : Callee P w K mg base "lines_of" ["book"] 6 R := by
  refine calleeD A sc_lines_of len (fun f cdv A outer s H E hr => ⟨t_lines_of R_lines_from, ?_, pure⟩)
  have nd : (N_lines_of).Nodup := sc_lines_of.nd
  exact (dss_one (ds_ret (de_call C_lines_from hr (by decide) rfl (da_cons (dv 0) (da_cons (de_glob rfl c_START) (da_cons de_non (da_cons de_non da_nil)))))))
theorem sc_place_matters : FnScope N_place_matters ["book", "place"] (defScope s_place_matters) := ⟨rfl, rfl, rfl, by decide +kernel, rfl, by decide +kernel, by decide +kernel⟩
theorem w_place_matters {P : Program} {w : World} {K : PySem.W.Frag} {mg : Str → Option Value} {base : Heap} {R : RF} {R_with_place : RF} (C_with_place : Callee P w K mg base "with_place" ["case", "place"] 1 R_with_place) {R_lines_from : RF} (C_lines_from : Callee P w K mg base "lines_from" ["book", "case", "other", "cut"] 5 R_lines_from) (c_START : Con K mg "START" D_START) (A : DefAtD K mg "place_matters" s_place_matters ["book", "place"])
    (len : ∀ ds M P, R ds M P → ds.length = 2) (pure : ∀ ds M Q, R ds M Q → t_place_matters R_with_place R_lines_from { nx := fun _ M' => Q .non M', rt := Q } (startD N_place_matters ds) M) : Callee P w K mg base "place_matters" ["book", "place"] 6 R := by
  refine calleeD A sc_place_matters len (fun f cdv A outer s H E hr => ⟨t_place_matters R_with_place R_lines_from, ?_, pure⟩)
  have nd : (N_place_matters).Nodup := sc_place_matters.nd
  exact (dss_cons (ds_for PassesOwn.never rfl (di_list (de_call C_with_place hr (by decide) rfl (da_cons (de_glob rfl c_START) (da_cons (dv 1) da_nil)))) (DGc.dg (dg_name (vs := [2]) (i := 2) nd rfl (by first | exact Or.inl rfl | exact Or.inr rfl))) (dss_one (ds_for PassesOwn.never rfl (di_list (de_call C_lines_from hr (by decide) rfl (da_cons (dv 0) (da_cons (dv 2) (da_cons de_non (da_cons de_non da_nil)))))) (DGc.dg (dg_tup rfl (dgs_cons (dg_name (vs := [3, 4, 5, 6]) (i := 3) nd rfl (by first | exact Or.inl rfl | exact Or.inr rfl)) (dgs_cons (dg_name (vs := [3, 4, 5, 6]) (i := 4) nd rfl (by first | exact Or.inl rfl | exact Or.inr rfl)) (dgs_cons (dg_name (vs := [3, 4, 5, 6]) (i := 5) nd rfl (by first | exact Or.inl rfl | exact Or.inr rfl)) (dgs_cons (dg_name (vs := [3, 4, 5, 6]) (i := 6) nd rfl (by first | exact Or.inl rfl | exact Or.inr rfl)) dgs_nil)))) len_4)) (dss_one (ds_if (dt_ne hr.units (de_lc false rfl nd (own := [("line", 7)]) (di_list (de_call C_lines_from hr (by decide) rfl (da_cons (dv 0) (da_cons (dv 6) (da_cons (dv 1) (da_cons de_non da_nil)))))) (blkOk_by (by kernel_rfl)) (fun _ _ _ _ _ => (dg_name (vs := [7]) (i := 7) nd rfl (by first | exact Or.inl rfl | exact Or.inr rfl))) (fun _ _ _ _ _ => (dts_one (dt_ne hr.units (de_ix (dv 7) de_int) (dv 3)))) (fun _ _ _ _ _ => (dv 7))) (de_lst false da_nil)) (dss_one (ds_ret de_bl)) dss_nil))))) (dss_one (ds_ret de_bl)))
theorem sc_reads_of : FnScope N_reads_of ["book"] (defScope s_reads_of) := ⟨rfl, rfl, rfl, by decide +kernel, rfl, by decide +kernel, by decide +kernel⟩
theorem w_reads_of {P : Program} {w : World} {K : PySem.W.Frag} {mg : Str → Option Value} {base : Heap} {R : RF} {R_place_matters : RF} (C_place_matters : Callee P w K mg base "place_matters" ["book", "place"] 6 R_place_matters) (g_range : mg "range" = none) (c_MOST_PLACE : Con K mg "MOST_PLACE" D_MOST_PLACE) (A : DefAtD K mg "reads_of" s_reads_of ["book"])
    (len : ∀ ds M P, R ds M P → ds.length = 1) (pure : ∀ ds M Q, R ds M Q → t_reads_of R_place_matters { nx := fun _ M' => Q .non M', rt := Q } (startD N_reads_of ds) M) : Callee P w K mg base "reads_of" ["book"] 7 R := by
  refine calleeD A sc_reads_of len (fun f cdv A outer s H E hr => ⟨t_reads_of R_place_matters, ?_, pure⟩)
  have nd : (N_reads_of).Nodup := sc_reads_of.nd
  exact (dss_one (ds_ret (de_lc true rfl nd (own := [("place", 1)]) (di_range1 rfl g_range (de_add (de_glob rfl c_MOST_PLACE) de_int)) (blkOk_by (by kernel_rfl)) (fun _ _ _ _ _ => (dg_name (vs := [1]) (i := 1) nd rfl (by first | exact Or.inl rfl | exact Or.inr rfl))) (fun _ _ _ _ _ => (dts_one (dt_val (de_call C_place_matters hr (by decide) rfl (da_cons (dv 0) (da_cons (dv 1) da_nil)))))) (fun _ _ _ _ _ => (dv 1)))))
theorem sc_reads : FnScope N_reads ["book"] (defScope s_reads) := ⟨rfl, rfl, rfl, by decide +kernel, rfl, by decide +kernel, by decide +kernel⟩
theorem w_reads {P : Program} {w : World} {K : PySem.W.Frag} {mg : Str → Option Value} {base : Heap} {R : RF} {R_need_book : RF} (C_need_book : Callee P w K mg base "need_book" ["book"] 7 R_need_book) {R_reads_of : RF} (C_reads_of : Callee P w K mg base "reads_of" ["book"] 7 R_reads_of) (A : DefAtD K mg "reads" s_reads ["book"])
    (len : ∀ ds M P, R ds M P → ds.length = 1) (pure : ∀ ds M Q, R ds M Q → t_reads R_need_book R_reads_of { nx := fun _ M' => Q .non M', rt := Q } (startD N_reads ds) M) : Callee P w K mg base "reads" ["book"] 8 R := by
  refine calleeD A sc_reads len (fun f cdv A outer s H E hr => ⟨t_reads R_need_book R_reads_of, ?_, pure⟩)
  have nd : (N_reads).Nodup := sc_reads.nd
  exact (dss_cons (ds_expr (de_call C_need_book hr (by decide) rfl (da_cons (dv 0) da_nil))) (dss_one (ds_ret (de_call C_reads_of hr (by decide) rfl (da_cons (dv 0) da_nil)))))
theorem sc_is_enough : FnScope N_is_enough ["book", "number"] (defScope s_is_enough) := ⟨rfl, rfl, rfl, by decide +kernel, rfl, by decide +kernel, by decide +kernel⟩
theorem w_is_enough {P : Program} {w : World} {K : PySem.W.Frag} {mg : Str → Option Value} {base : Heap} {R : RF} {R_lines_of : RF} (C_lines_of : Callee P w K mg base "lines_of" ["book"] 6 R_lines_of) {R_lines_from : RF} (C_lines_from : Callee P w K mg base "lines_from" ["book", "case", "other", "cut"] 5 R_lines_from) (A : DefAtD K mg "is_enough" s_is_enough ["book", "number"])
    (len : ∀ ds M P, R ds M P → ds.length = 2) (pure : ∀ ds M Q, R ds M Q → t_is_enough R_lines_of R_lines_from { nx := fun _ M' => Q .non M', rt := Q } (startD N_is_enough ds) M) : Callee P w K mg base "is_enough" ["book", "number"] 7 R := by
  refine calleeD A sc_is_enough len (fun f cdv A outer s H E hr => ⟨t_is_enough R_lines_of R_lines_from, ?_, pure⟩)
  have nd : (N_is_enough).Nodup := sc_is_enough.nd
  exact (dss_cons (ds_for PassesOwn.never rfl (di_list (de_call C_lines_of hr (by decide) rfl (da_cons (dv 0) da_nil))) (DGc.dg (dg_tup rfl (dgs_cons (dg_name (vs := [2, 3, 4, 5]) (i := 2) nd rfl (by first | exact Or.inl rfl | exact Or.inr rfl)) (dgs_cons (dg_name (vs := [2, 3, 4, 5]) (i := 3) nd rfl (by first | exact Or.inl rfl | exact Or.inr rfl)) (dgs_cons (dg_name (vs := [2, 3, 4, 5]) (i := 4) nd rfl (by first | exact Or.inl rfl | exact Or.inr rfl)) (dgs_cons (dg_name (vs := [2, 3, 4, 5]) (i := 5) nd rfl (by first | exact Or.inl rfl | exact Or.inr rfl)) dgs_nil)))) len_4)) (dss_one (ds_if (dt_ne hr.units (de_lc false rfl nd (own := [("line", 6)]) (di_list (de_call C_lines_from hr (by decide) rfl (da_cons (dv 0) (da_cons (dv 5) (da_cons de_non (da_cons (dv 1) da_nil)))))) (blkOk_by (by kernel_rfl)) (fun _ _ _ _ _ => (dg_name (vs := [6]) (i := 6) nd rfl (by first | exact Or.inl rfl | exact Or.inr rfl))) (fun _ _ _ _ _ => (dts_one (dt_ne hr.units (de_ix (dv 6) de_int) (dv 2)))) (fun _ _ _ _ _ => (dv 6))) (de_lst false da_nil)) (dss_one (ds_ret de_bl)) dss_nil))) (dss_one (ds_ret de_bl)))
theorem sc_enough : FnScope N_enough ["book"] (defScope s_enough) := ⟨rfl, rfl, rfl, by decide +kernel, rfl, by decide +kernel, by decide +kernel⟩
theorem w_enough {P : Program} {w : World} {K : PySem.W.Frag} {mg : Str → Option Value} {base : Heap} {R : RF} {R_need_book : RF} (C_need_book : Callee P w K mg base "need_book" ["book"] 7 R_need_book) {R_is_enough : RF} (C_is_enough : Callee P w K mg base "is_enough" ["book", "number"] 7 R_is_enough) (A : DefAtD K mg "enough" s_enough ["book"])
    (len : ∀ ds M P, R ds M P → ds.length = 1) (pure : ∀ ds M Q, R ds M Q → t_enough R_need_book R_is_enough { nx := fun _ M' => Q .non M', rt := Q } (startD N_enough ds) M) : Callee P w K mg base "enough" ["book"] 8 R := by
  refine calleeD A sc_enough len (fun f cdv A outer s H E hr => ⟨t_enough R_need_book R_is_enough, ?_, pure⟩)
  have nd : (N_enough).Nodup := sc_enough.nd
  exact (dss_cons (ds_expr (de_call C_need_book hr (by decide) rfl (da_cons (dv 0) da_nil))) (dss_cons (ds_set (i := 1) nd rfl (by first | exact Or.inl rfl | exact Or.inr rfl) de_int) (dss_cons (ds_while PassesOwn.never (dt_not (dt_val (de_call C_is_enough hr (by decide) rfl (da_cons (dv 0) (da_cons (dv 1) da_nil))))) (dss_one (ds_set (i := 1) nd rfl (by first | exact Or.inl rfl | exact Or.inr rfl) (de_add (dv 1) de_int)))) (dss_one (ds_ret (dv 1))))))
theorem sc_length_matters : FnScope N_length_matters ["book", "length"] (defScope s_length_matters) := ⟨rfl, rfl, rfl, by decide +kernel, rfl, by decide +kernel, by decide +kernel⟩
theorem w_length_matters {P : Program} {w : World} {K : PySem.W.Frag} {mg : Str → Option Value} {base : Heap} {R : RF} {R_lines_from : RF} (C_lines_from : Callee P w K mg base "lines_from" ["book", "case", "other", "cut"] 5 R_lines_from) {R_with_digits : RF} (C_with_digits : Callee P w K mg base "with_digits" ["case", "place", "digits"] 1 R_with_digits) (A : DefAtD K mg "length_matters" s_length_matters ["book", "length"])
    (len : ∀ ds M P, R ds M P → ds.length = 2) (pure : ∀ ds M Q, R ds M Q → t_length_matters R_lines_from R_with_digits { nx := fun _ M' => Q .non M', rt := Q } (startD N_length_matters ds) M) : Callee P w K mg base "length_matters" ["book", "length"] 6 R := by
  refine calleeD A sc_length_matters len (fun f cdv A outer s H E hr => ⟨t_length_matters R_lines_from R_with_digits, ?_, pure⟩)
  have nd : (N_length_matters).Nodup := sc_length_matters.nd
  exact (dss_cons (ds_for PassesOwn.never rfl (di_list (de_call C_lines_from hr (by decide) rfl (da_cons (dv 0) (da_cons (de_tup (da_cons (dv 1) (da_cons (dv 1) (da_cons (de_tup da_nil) da_nil)))) (da_cons de_non (da_cons de_non da_nil)))))) (DGc.dg (dg_tup rfl (dgs_cons (dg_name (vs := [2, 3, 4, 5]) (i := 2) nd rfl (by first | exact Or.inl rfl | exact Or.inr rfl)) (dgs_cons (dg_name (vs := [2, 3, 4, 5]) (i := 3) nd rfl (by first | exact Or.inl rfl | exact Or.inr rfl)) (dgs_cons (dg_name (vs := [2, 3, 4, 5]) (i := 4) nd rfl (by first | exact Or.inl rfl | exact Or.inr rfl)) (dgs_cons (dg_name (vs := [2, 3, 4, 5]) (i := 5) nd rfl (by first | exact Or.inl rfl | exact Or.inr rfl)) dgs_nil)))) len_4)) (dss_cons (ds_set (i := 6) nd rfl (by first | exact Or.inl rfl | exact Or.inr rfl) (de_call C_with_digits hr (by decide) rfl (da_cons (de_tup (da_cons (de_add (dv 1) de_int) (da_cons (de_add (dv 1) de_int) (da_cons (de_ix (dv 5) de_int) da_nil)))) (da_cons (dv 1) (da_cons (de_tup (da_cons de_int da_nil)) da_nil))))) (dss_one (ds_if (dt_ne hr.units (de_lc false rfl nd (own := [("line", 7)]) (di_list (de_call C_lines_from hr (by decide) rfl (da_cons (dv 0) (da_cons (dv 6) (da_cons de_non (da_cons de_non da_nil)))))) (blkOk_by (by kernel_rfl)) (fun _ _ _ _ _ => (dg_name (vs := [7]) (i := 7) nd rfl (by first | exact Or.inl rfl | exact Or.inr rfl))) (fun _ _ _ _ _ => (dts_one (dt_ne hr.units (de_ix (dv 7) de_int) (dv 2)))) (fun _ _ _ _ _ => (dv 7))) (de_lst false da_nil)) (dss_one (ds_ret de_bl)) dss_nil)))) (dss_one (ds_ret de_bl)))
theorem sc_lengths : FnScope N_lengths ["book"] (defScope s_lengths) := ⟨rfl, rfl, rfl, by decide +kernel, rfl, by decide +kernel, by decide +kernel⟩
theorem w_lengths {P : Program} {w : World} {K : PySem.W.Frag} {mg : Str → Option Value} {base : Heap} {R : RF} {R_need_book : RF} (C_need_book : Callee P w K mg base "need_book" ["book"] 7 R_need_book) {R_length_matters : RF} (C_length_matters : Callee P w K mg base "length_matters" ["book", "length"] 6 R_length_matters) (g_range : mg "range" = none) (c_MOST_PLACE : Con K mg "MOST_PLACE" D_MOST_PLACE) (A : DefAtD K mg "lengths" s_lengths ["book"])
    (len : ∀ ds M P, R ds M P → ds.length = 1) (pure : ∀ ds M Q, R ds M Q → t_lengths R_need_book R_length_matters { nx := fun _ M' => Q .non M', rt := Q } (startD N_lengths ds) M) : Callee P w K mg base "lengths" ["book"] 8 R := by
  refine calleeD A sc_lengths len (fun f cdv A outer s H E hr => ⟨t_lengths R_need_book R_length_matters, ?_, pure⟩)
  have nd : (N_lengths).Nodup := sc_lengths.nd
  exact (dss_cons (ds_expr (de_call C_need_book hr (by decide) rfl (da_cons (dv 0) da_nil))) (dss_one (ds_ret (de_lc false rfl nd (own := [("length", 1)]) (di_range1 rfl g_range (de_add (de_glob rfl c_MOST_PLACE) de_int)) (blkOk_by (by kernel_rfl)) (fun _ _ _ _ _ => (dg_name (vs := [1]) (i := 1) nd rfl (by first | exact Or.inl rfl | exact Or.inr rfl))) (fun _ _ _ _ _ => (dts_one (dt_val (de_call C_length_matters hr (by decide) rfl (da_cons (dv 0) (da_cons (dv 1) da_nil)))))) (fun _ _ _ _ _ => (dv 1))))))
theorem sc__law_source : FnScope N__law_source ["_law_script", "_law_index"] (defScope s_law_source) := ⟨rfl, rfl, rfl, by decide +kernel, rfl, by decide +kernel, by decide +kernel⟩
theorem w__law_source {P : Program} {w : World} {K : PySem.W.Frag} {mg : Str → Option Value} {base : Heap} {R : RF} (g_len : mg "len" = none) (g_abs : mg "abs" = none) (g_int : mg "int" = none) (A : DefAtD K mg "_law_source" s_law_source ["_law_script", "_law_index"])
    (len : ∀ ds M P, R ds M P → ds.length = 2) (pure : ∀ ds M Q, R ds M Q → t__law_source { nx := fun _ M' => Q .non M', rt := Q } (startD N__law_source ds) M) : Callee P w K mg base "_law_source" ["_law_script", "_law_index"] 1 R := by
  refine calleeD A sc__law_source len (fun f cdv A outer s H E hr => ⟨t__law_source, ?_, pure⟩)
  have nd : (N__law_source).Nodup := sc__law_source.nd
  exact (dss_cons (ds_set (i := 2) nd rfl (by first | exact Or.inl rfl | exact Or.inr rfl) de_int) (dss_cons (ds_if (dt_lt (dv 1) (de_len rfl g_len (da_cons (dv 0) da_nil))) (dss_one (ds_set (i := 2) nd rfl (by first | exact Or.inl rfl | exact Or.inr rfl) (de_abs rfl g_abs (da_cons (de_ix (dv 0) (dv 1)) da_nil)))) dss_nil) (dss_cons (ds_if (dt_lt (dv 2) (de_pow de_int de_int)) (dss_one (ds_ret (de_lst true (da_cons de_int (da_cons (de_add de_int (de_mod (de_intc rfl g_int (da_cons (de_add (de_mul (dv 2) de_int) (de_mul de_int (dv 1))) da_nil)) de_int)) da_nil))))) dss_nil) (dss_one (ds_ret (de_lst true (da_cons (dv 2) (da_cons (de_add de_int (de_mod (de_intc rfl g_int (da_cons (de_add (dv 2) (dv 1)) da_nil)) de_int)) da_nil))))))))
theorem sc__law_draw : FnScope N__law_draw ["_law_source_here", "_law_size"] (defScope s_law_draw) := ⟨rfl, rfl, rfl, by decide +kernel, rfl, by decide +kernel, by decide +kernel⟩
theorem w__law_draw {P : Program} {w : World} {K : PySem.W.Frag} {mg : Str → Option Value} {base : Heap} {R : RF} (g_int : mg "int" = none) (A : DefAtD K mg "_law_draw" s_law_draw ["_law_source_here", "_law_size"])
    (len : ∀ ds M P, R ds M P → ds.length = 2) (pure : ∀ ds M Q, R ds M Q → t__law_draw { nx := fun _ M' => Q .non M', rt := Q } (startD N__law_draw ds) M) : Callee P w K mg base "_law_draw" ["_law_source_here", "_law_size"] 1 R := by
  refine calleeD A sc__law_draw len (fun f cdv A outer s H E hr => ⟨t__law_draw, ?_, pure⟩)
  have nd : (N__law_draw).Nodup := sc__law_draw.nd
  exact (dss_cons (ds_if (dt_gt (de_ix (dv 0) de_int) de_int) (dss_cons (ds_set (i := 2) nd rfl (by first | exact Or.inl rfl | exact Or.inr rfl) (de_mod (de_intc rfl g_int (da_cons (de_ix (dv 0) de_int) da_nil)) (dv 1))) (dss_cons (ds_store (de_fdiv (de_ix (dv 0) de_int) (dv 1)) (dv 0) de_int) (dss_one (ds_ret (dv 2))))) dss_nil) (dss_cons (ds_store (de_mod (de_intc rfl g_int (da_cons (de_mul (de_ix (dv 0) de_int) de_int) da_nil)) de_int) (dv 0) de_int) (dss_one (ds_ret (de_mod (de_intc rfl g_int (da_cons (de_fdiv (de_mod (de_intc rfl g_int (da_cons (de_mul (de_ix (dv 0) de_int) (de_ix (dv 0) de_int)) da_nil)) de_int) de_int) da_nil)) (dv 1))))))
theorem sc__law_choice : FnScope N__law_choice ["_law_source_here", "_law_items"] (defScope s_law_choice) := ⟨rfl, rfl, rfl, by decide +kernel, rfl, by decide +kernel, by decide +kernel⟩
theorem w__law_choice {P : Program} {w : World} {K : PySem.W.Frag} {mg : Str → Option Value} {base : Heap} {R : RF} {R__law_draw : RF} (C__law_draw : Callee P w K mg base "_law_draw" ["_law_source_here", "_law_size"] 1 R__law_draw) (g_len : mg "len" = none) (A : DefAtD K mg "_law_choice" s_law_choice ["_law_source_here", "_law_items"])
    (len : ∀ ds M P, R ds M P → ds.length = 2) (pure : ∀ ds M Q, R ds M Q → t__law_choice R__law_draw { nx := fun _ M' => Q .non M', rt := Q } (startD N__law_choice ds) M) : Callee P w K mg base "_law_choice" ["_law_source_here", "_law_items"] 2 R := by
  refine calleeD A sc__law_choice len (fun f cdv A outer s H E hr => ⟨t__law_choice R__law_draw, ?_, pure⟩)
  have nd : (N__law_choice).Nodup := sc__law_choice.nd
  exact (dss_one (ds_ret (de_ix (dv 1) (de_call C__law_draw hr (by decide) rfl (da_cons (dv 0) (da_cons (de_len rfl g_len (da_cons (dv 1) da_nil)) da_nil))))))
theorem sc__law_test : FnScope N__law_test ["_law_source_here", "_law_most"] (defScope s_law_test) := ⟨rfl, rfl, rfl, by decide +kernel, rfl, by decide +kernel, by decide +kernel⟩
theorem w__law_test {P : Program} {w : World} {K : PySem.W.Frag} {mg : Str → Option Value} {base : Heap} {R : RF} {R__law_choice : RF} (C__law_choice : Callee P w K mg base "_law_choice" ["_law_source_here", "_law_items"] 2 R__law_choice) {R__law_draw : RF} (C__law_draw : Callee P w K mg base "_law_draw" ["_law_source_here", "_law_size"] 1 R__law_draw) (A : DefAtD K mg "_law_test" s_law_test ["_law_source_here", "_law_most"])
    (len : ∀ ds M P, R ds M P → ds.length = 2) (pure : ∀ ds M Q, R ds M Q → t__law_test R__law_choice R__law_draw { nx := fun _ M' => Q .non M', rt := Q } (startD N__law_test ds) M) : Callee P w K mg base "_law_test" ["_law_source_here", "_law_most"] 3 R := by
  refine calleeD A sc__law_test len (fun f cdv A outer s H E hr => ⟨t__law_test R__law_choice R__law_draw, ?_, pure⟩)
  have nd : (N__law_test).Nodup := sc__law_test.nd
  exact (dss_cons (ds_set (i := 2) nd rfl (by first | exact Or.inl rfl | exact Or.inr rfl) (de_call C__law_choice hr (by decide) rfl (da_cons (dv 0) (da_cons (de_lst false (da_cons de_str (da_cons de_str (da_cons de_str (da_cons de_str (da_cons de_str (da_cons de_str da_nil))))))) da_nil)))) (dss_one (ds_ret (de_tup (da_cons (de_call C__law_draw hr (by decide) rfl (da_cons (dv 0) (da_cons (de_add (dv 1) de_int) da_nil))) (da_cons (dv 2) (da_cons (de_call C__law_choice hr (by decide) rfl (da_cons (dv 0) (da_cons (de_lst false (da_cons de_int (da_cons de_int (da_cons de_int (da_cons de_int (da_cons de_int (da_cons de_int (da_cons de_int da_nil)))))))) da_nil))) da_nil)))))))
theorem sc__law_rule : FnScope N__law_rule ["_law_source_here", "_law_most"] (defScope s_law_rule) := ⟨rfl, rfl, rfl, by decide +kernel, rfl, by decide +kernel, by decide +kernel⟩
theorem w__law_rule {P : Program} {w : World} {K : PySem.W.Frag} {mg : Str → Option Value} {base : Heap} {R : RF} {R__law_choice : RF} (C__law_choice : Callee P w K mg base "_law_choice" ["_law_source_here", "_law_items"] 2 R__law_choice) {R__law_draw : RF} (C__law_draw : Callee P w K mg base "_law_draw" ["_law_source_here", "_law_size"] 1 R__law_draw) {R__law_test : RF} (C__law_test : Callee P w K mg base "_law_test" ["_law_source_here", "_law_most"] 3 R__law_test) (g_tuple : mg "tuple" = none) (g_range : mg "range" = none) (A : DefAtD K mg "_law_rule" s_law_rule ["_law_source_here", "_law_most"])
    (len : ∀ ds M P, R ds M P → ds.length = 2) (pure : ∀ ds M Q, R ds M Q → t__law_rule R__law_choice R__law_draw R__law_test { nx := fun _ M' => Q .non M', rt := Q } (startD N__law_rule ds) M) : Callee P w K mg base "_law_rule" ["_law_source_here", "_law_most"] 4 R := by
  refine calleeD A sc__law_rule len (fun f cdv A outer s H E hr => ⟨t__law_rule R__law_choice R__law_draw R__law_test, ?_, pure⟩)
  have nd : (N__law_rule).Nodup := sc__law_rule.nd
  exact (dss_cons (ds_set (i := 2) nd rfl (by first | exact Or.inl rfl | exact Or.inr rfl) (de_call C__law_choice hr (by decide) rfl (da_cons (dv 0) (da_cons (de_lst false (da_cons de_str (da_cons de_str (da_cons de_str (da_cons de_str da_nil))))) da_nil)))) (dss_cons (ds_set (i := 3) nd rfl (by first | exact Or.inl rfl | exact Or.inr rfl) (de_tuple rfl g_tuple (da_cons (de_lc false rfl nd (own := [("_law_test_so", 4)]) (di_range1 rfl g_range (de_add de_int (de_call C__law_draw hr (by decide) rfl (da_cons (dv 0) (da_cons de_int da_nil))))) (blkOk_by (by kernel_rfl)) (fun _ _ _ _ _ => (dg_name (vs := [4]) (i := 4) nd rfl (by first | exact Or.inl rfl | exact Or.inr rfl))) (fun _ _ _ _ _ => dts_nil) (fun _ _ _ _ _ => (de_call C__law_test hr (by decide) rfl (da_cons (dv 0) (da_cons (dv 1) da_nil))))) da_nil))) (dss_cons (ds_set (i := 5) nd rfl (by first | exact Or.inl rfl | exact Or.inr rfl) (de_tup da_nil)) (dss_cons (ds_if (dt_eq hr.units (de_call C__law_draw hr (by decide) rfl (da_cons (dv 0) (da_cons de_int da_nil))) de_int) (dss_one (ds_set (i := 5) nd rfl (by first | exact Or.inl rfl | exact Or.inr rfl) (de_tup (da_cons (de_tup (da_cons (de_call C__law_choice hr (by decide) rfl (da_cons (dv 0) (da_cons (de_lst false (da_cons de_str (da_cons de_str da_nil))) da_nil))) (da_cons (de_call C__law_test hr (by decide) rfl (da_cons (dv 0) (da_cons (dv 1) da_nil))) da_nil))) da_nil)))) dss_nil) (dss_one (ds_ret (de_tup (da_cons (dv 2) (da_cons (de_call C__law_draw hr (by decide) rfl (da_cons (dv 0) (da_cons de_int da_nil))) (da_cons (dv 3) (da_cons (dv 5) da_nil)))))))))))
theorem sc__law_book : FnScope N__law_book ["_law_source_here", "_law_most"] (defScope s_law_book) := ⟨rfl, rfl, rfl, by decide +kernel, rfl, by decide +kernel, by decide +kernel⟩
theorem w__law_book {P : Program} {w : World} {K : PySem.W.Frag} {mg : Str → Option Value} {base : Heap} {R : RF} {R__law_draw : RF} (C__law_draw : Callee P w K mg base "_law_draw" ["_law_source_here", "_law_size"] 1 R__law_draw) {R__law_rule : RF} (C__law_rule : Callee P w K mg base "_law_rule" ["_law_source_here", "_law_most"] 4 R__law_rule) (g_tuple : mg "tuple" = none) (g_range : mg "range" = none) (A : DefAtD K mg "_law_book" s_law_book ["_law_source_here", "_law_most"])
    (len : ∀ ds M P, R ds M P → ds.length = 2) (pure : ∀ ds M Q, R ds M Q → t__law_book R__law_draw R__law_rule { nx := fun _ M' => Q .non M', rt := Q } (startD N__law_book ds) M) : Callee P w K mg base "_law_book" ["_law_source_here", "_law_most"] 5 R := by
  refine calleeD A sc__law_book len (fun f cdv A outer s H E hr => ⟨t__law_book R__law_draw R__law_rule, ?_, pure⟩)
  have nd : (N__law_book).Nodup := sc__law_book.nd
  exact (dss_one (ds_ret (de_tuple rfl g_tuple (da_cons (de_lc false rfl nd (own := [("_law_rule_so", 2)]) (di_range1 rfl g_range (de_call C__law_draw hr (by decide) rfl (da_cons (dv 0) (da_cons de_int da_nil)))) (blkOk_by (by kernel_rfl)) (fun _ _ _ _ _ => (dg_name (vs := [2]) (i := 2) nd rfl (by first | exact Or.inl rfl | exact Or.inr rfl))) (fun _ _ _ _ _ => dts_nil) (fun _ _ _ _ _ => (de_call C__law_rule hr (by decide) rfl (da_cons (dv 0) (da_cons (dv 1) da_nil))))) da_nil))))
theorem sc__law_number : FnScope N__law_number ["_law_digit"] (defScope s_law_number) := ⟨rfl, rfl, rfl, by decide +kernel, rfl, by decide +kernel, by decide +kernel⟩
theorem w__law_number {P : Program} {w : World} {K : PySem.W.Frag} {mg : Str → Option Value} {base : Heap} {R : RF} (g_list : mg "list" = none) (A : DefAtD K mg "_law_number" s_law_number ["_law_digit"])
    (len : ∀ ds M P, R ds M P → ds.length = 1) (pure : ∀ ds M Q, R ds M Q → t__law_number { nx := fun _ M' => Q .non M', rt := Q } (startD N__law_number ds) M) : Callee P w K mg base "_law_number" ["_law_digit"] 1 R := by
  refine calleeD A sc__law_number len (fun f cdv A outer s H E hr => ⟨t__law_number, ?_, pure⟩)
  have nd : (N__law_number).Nodup := sc__law_number.nd
  exact (dss_one (ds_ret (de_indexL (de_listS rfl g_list rfl (da_cons de_str da_nil)) (dv 0))))
theorem sc__law_passes : FnScope N__law_passes ["_law_test_here", "_law_file"] (defScope s_law_passes) := ⟨rfl, rfl, rfl, by decide +kernel, rfl, by decide +kernel, by decide +kernel⟩
theorem w__law_passes {P : Program} {w : World} {K : PySem.W.Frag} {mg : Str → Option Value} {base : Heap} {R : RF} {R__law_number : RF} (C__law_number : Callee P w K mg base "_law_number" ["_law_digit"] 1 R__law_number) (g_isinstance : mg "isinstance" = none) (g_tuple : mg "tuple" = none) (g_len : mg "len" = none) (A : DefAtD K mg "_law_passes" s_law_passes ["_law_test_here", "_law_file"])
    (len : ∀ ds M P, R ds M P → ds.length = 2) (pure : ∀ ds M Q, R ds M Q → t__law_passes R__law_number { nx := fun _ M' => Q .non M', rt := Q } (startD N__law_passes ds) M) : Callee P w K mg base "_law_passes" ["_law_test_here", "_law_file"] 2 R := by
  refine calleeD A sc__law_passes len (fun f cdv A outer s H E hr => ⟨t__law_passes R__law_number, ?_, pure⟩)
  have nd : (N__law_passes).Nodup := sc__law_passes.nd
  exact (dss_cons (ds_asg (dv 0) (DGc.dg (dg_tup rfl (dgs_cons (dg_name (vs := [2, 3, 4]) (i := 2) nd rfl (by first | exact Or.inl rfl | exact Or.inr rfl)) (dgs_cons (dg_name (vs := [2, 3, 4]) (i := 3) nd rfl (by first | exact Or.inl rfl | exact Or.inr rfl)) (dgs_cons (dg_name (vs := [2, 3, 4]) (i := 4) nd rfl (by first | exact Or.inl rfl | exact Or.inr rfl)) dgs_nil))) len_3))) (dss_cons (ds_if (dt_val (de_isi rfl g_isinstance (dv 2) rfl g_tuple (by decide +kernel))) (dss_cons (ds_if (dt_ge (de_ix (dv 2) de_int) (de_len rfl g_len (da_cons (dv 1) da_nil))) (dss_one (ds_ret de_bl)) dss_nil) (dss_one (ds_set (i := 5) nd rfl (by first | exact Or.inl rfl | exact Or.inr rfl) (de_add (de_call C__law_number hr (by decide) rfl (da_cons (de_ix (dv 1) (de_ix (dv 2) de_int)) da_nil)) (de_ix (dv 2) de_int))))) (dss_one (ds_set (i := 5) nd rfl (by first | exact Or.inl rfl | exact Or.inr rfl) (dv 2)))) (dss_cons (ds_if (dt_ge (dv 5) (de_len rfl g_len (da_cons (dv 1) da_nil))) (dss_one (ds_ret de_bl)) dss_nil) (dss_cons (ds_set (i := 6) nd rfl (by first | exact Or.inl rfl | exact Or.inr rfl) (de_call C__law_number hr (by decide) rfl (da_cons (de_ix (dv 1) (dv 5)) da_nil))) (dss_cons (ds_if (dt_eq hr.units (dv 3) de_str) (dss_one (ds_ret (de_eq hr.units (de_lc false rfl nd (own := [("_law_bit", 7)]) (di_list (de_lst false (da_cons de_int (da_cons de_int (da_cons de_int (da_cons de_int da_nil)))))) (blkOk_by (by kernel_rfl)) (fun _ _ _ _ _ => (dg_name (vs := [7]) (i := 7) nd rfl (by first | exact Or.inl rfl | exact Or.inr rfl))) (fun _ _ _ _ _ => (dts_one (dw_t (dw_and (dt_ne hr.units (de_band (dv 4) (dv 7)) de_int) (dw_and1 (dt_eq hr.units (de_band (dv 6) (dv 7)) de_int)))))) (fun _ _ _ _ _ => (dv 7))) (de_lst false da_nil)))) dss_nil) (dss_one (ds_ret (de_dix hr.units (de_disp hr (dc_cons (de_eq hr.units (dv 6) (dv 4)) (dc_cons (de_ne hr.units (dv 6) (dv 4)) (dc_cons (de_lt (dv 6) (dv 4)) (dc_cons (de_gt (dv 6) (dv 4)) dc_nil))))) (dv 3)))))))))
theorem sc__law_speaks : FnScope N__law_speaks ["_law_book_here", "_law_file"] (defScope s_law_speaks) := ⟨rfl, rfl, rfl, by decide +kernel, rfl, by decide +kernel, by decide +kernel⟩
theorem w__law_speaks {P : Program} {w : World} {K : PySem.W.Frag} {mg : Str → Option Value} {base : Heap} {R : RF} {R__law_passes : RF} (C__law_passes : Callee P w K mg base "_law_passes" ["_law_test_here", "_law_file"] 2 R__law_passes) (g_enumerate : mg "enumerate" = none) (A : DefAtD K mg "_law_speaks" s_law_speaks ["_law_book_here", "_law_file"])
    (len : ∀ ds M P, R ds M P → ds.length = 2) (pure : ∀ ds M Q, R ds M Q → t__law_speaks R__law_passes { nx := fun _ M' => Q .non M', rt := Q } (startD N__law_speaks ds) M) : Callee P w K mg base "_law_speaks" ["_law_book_here", "_law_file"] 3 R := by
  refine calleeD A sc__law_speaks len (fun f cdv A outer s H E hr => ⟨t__law_speaks R__law_passes, ?_, pure⟩)
  have nd : (N__law_speaks).Nodup := sc__law_speaks.nd
  exact (dss_cons (ds_set (i := 2) nd rfl (by first | exact Or.inl rfl | exact Or.inr rfl) de_non) (dss_cons (ds_for PassesOwn.never rfl (di_enumT rfl g_enumerate (dv 0)) (DGc.dg (dg_tup rfl (dgs_cons (dg_name (vs := [3, 4]) (i := 3) nd rfl (by first | exact Or.inl rfl | exact Or.inr rfl)) (dgs_cons (dg_name (vs := [3, 4]) (i := 4) nd rfl (by first | exact Or.inl rfl | exact Or.inr rfl)) dgs_nil)) len_2)) (dss_one (ds_if (dt_eq hr.units (de_lc false rfl nd (own := [("_law_test_here", 5)]) (di_tup (de_ix (dv 4) de_int)) (blkOk_by (by kernel_rfl)) (fun _ _ _ _ _ => (dg_name (vs := [5]) (i := 5) nd rfl (by first | exact Or.inl rfl | exact Or.inr rfl))) (fun _ _ _ _ _ => (dts_one (dt_not (dt_val (de_call C__law_passes hr (by decide) rfl (da_cons (dv 5) (da_cons (dv 1) da_nil))))))) (fun _ _ _ _ _ => (dv 5))) (de_lst false da_nil)) (dss_one (ds_if (dw_t (dw_or (dt_is (dv 2) de_non) (dw_or1 (dt_gt (de_ix (dv 4) de_int) (de_ix (de_ix (dv 0) (dv 2)) de_int))))) (dss_one (ds_set (i := 2) nd rfl (by first | exact Or.inl rfl | exact Or.inr rfl) (dv 3))) dss_nil)) dss_nil))) (dss_one (ds_ret (dv 2)))))
theorem sc__law_tells : FnScope N__law_tells ["_law_book_here", "_law_file"] (defScope s_law_tells) := ⟨rfl, rfl, rfl, by decide +kernel, rfl, by decide +kernel, by decide +kernel⟩
theorem w__law_tells {P : Program} {w : World} {K : PySem.W.Frag} {mg : Str → Option Value} {base : Heap} {R : RF} {R__law_speaks : RF} (C__law_speaks : Callee P w K mg base "_law_speaks" ["_law_book_here", "_law_file"] 3 R__law_speaks) {R__law_passes : RF} (C__law_passes : Callee P w K mg base "_law_passes" ["_law_test_here", "_law_file"] 2 R__law_passes) (A : DefAtD K mg "_law_tells" s_law_tells ["_law_book_here", "_law_file"])
    (len : ∀ ds M P, R ds M P → ds.length = 2) (pure : ∀ ds M Q, R ds M Q → t__law_tells R__law_speaks R__law_passes { nx := fun _ M' => Q .non M', rt := Q } (startD N__law_tells ds) M) : Callee P w K mg base "_law_tells" ["_law_book_here", "_law_file"] 4 R := by
  refine calleeD A sc__law_tells len (fun f cdv A outer s H E hr => ⟨t__law_tells R__law_speaks R__law_passes, ?_, pure⟩)
  have nd : (N__law_tells).Nodup := sc__law_tells.nd
  exact (dss_cons (ds_set (i := 2) nd rfl (by first | exact Or.inl rfl | exact Or.inr rfl) (de_call C__law_speaks hr (by decide) rfl (da_cons (dv 0) (da_cons (dv 1) da_nil)))) (dss_cons (ds_if (dt_is (dv 2) de_non) (dss_one (ds_ret de_non)) dss_nil) (dss_cons (ds_set (i := 3) nd rfl (by first | exact Or.inl rfl | exact Or.inr rfl) (de_ix (de_ix (dv 0) (dv 2)) de_int)) (dss_cons (ds_for PassesOwn.never rfl (di_tup (de_ix (de_ix (dv 0) (dv 2)) de_int)) (DGc.dg (dg_tup rfl (dgs_cons (dg_name (vs := [4, 5]) (i := 4) nd rfl (by first | exact Or.inl rfl | exact Or.inr rfl)) (dgs_cons (dg_name (vs := [4, 5]) (i := 5) nd rfl (by first | exact Or.inl rfl | exact Or.inr rfl)) dgs_nil)) len_2)) (dss_one (ds_if (dt_val (de_call C__law_passes hr (by decide) rfl (da_cons (dv 5) (da_cons (dv 1) da_nil)))) (dss_one (ds_set (i := 3) nd rfl (by first | exact Or.inl rfl | exact Or.inr rfl) (de_add (de_add (dv 3) de_str) (dv 4)))) dss_nil))) (dss_one (ds_ret (dv 3)))))))
theorem sc__law_files : FnScope N__law_files ["_law_most"] (defScope s_law_files) := ⟨rfl, rfl, rfl, by decide +kernel, rfl, by decide +kernel, by decide +kernel⟩
theorem w__law_files {P : Program} {w : World} {K : PySem.W.Frag} {mg : Str → Option Value} {base : Heap} {R : RF} (g_range : mg "range" = none) (A : DefAtD K mg "_law_files" s_law_files ["_law_most"])
    (len : ∀ ds M P, R ds M P → ds.length = 1) (pure : ∀ ds M Q, R ds M Q → t__law_files { nx := fun _ M' => Q .non M', rt := Q } (startD N__law_files ds) M) : Callee P w K mg base "_law_files" ["_law_most"] 1 R := by
  refine calleeD A sc__law_files len (fun f cdv A outer s H E hr => ⟨t__law_files, ?_, pure⟩)
  have nd : (N__law_files).Nodup := sc__law_files.nd
  exact (dss_cons (ds_par (i := 1) (j := 2) rfl nd rfl rfl (by decide) rfl rfl (de_lst false (da_cons de_str da_nil)) (de_lst false (da_cons de_str da_nil)) (by rfl)) (dss_cons (ds_for PassesOwn.never rfl (di_range1 rfl g_range (dv 0)) (DGc.dg (dg_name (vs := [3]) (i := 3) nd rfl (by first | exact Or.inl rfl | exact Or.inr rfl))) (dss_cons (ds_set (i := 4) nd rfl (by first | exact Or.inl rfl | exact Or.inr rfl) (de_lst false da_nil)) (dss_cons (ds_for PassesOwn.never rfl (di_list (dv 2)) (DGc.dg (dg_name (vs := [5]) (i := 5) nd rfl (by first | exact Or.inl rfl | exact Or.inr rfl))) (dss_one (ds_set (i := 4) nd rfl (by first | exact Or.inl rfl | exact Or.inr rfl) (de_add (dv 4) (de_lc false rfl nd (own := [("_law_digit", 6)]) (di_str de_str) (blkOk_by (by kernel_rfl)) (fun _ _ _ _ _ => (dg_name (vs := [6]) (i := 6) nd rfl (by first | exact Or.inl rfl | exact Or.inr rfl))) (fun _ _ _ _ _ => dts_nil) (fun _ _ _ _ _ => (de_add (dv 5) (dv 6)))))))) (dss_one (ds_par (i := 1) (j := 2) rfl nd rfl rfl (by decide) rfl rfl (de_add (dv 1) (dv 4)) (dv 4) (by rfl)))))) (dss_one (ds_ret (dv 1)))))
theorem sc__law_due : FnScope N__law_due ["_law_every", "_law_tells_here"] (defScope s_law_due) := ⟨rfl, rfl, rfl, by decide +kernel, rfl, by decide +kernel, by decide +kernel⟩
theorem w__law_due {P : Program} {w : World} {K : PySem.W.Frag} {mg : Str → Option Value} {base : Heap} {R : RF} (g_len : mg "len" = none) (g_sorted : mg "sorted" = none) (g_set : mg "set" = none) (A : DefAtD K mg "_law_due" s_law_due ["_law_every", "_law_tells_here"])
    (len : ∀ ds M P, R ds M P → ds.length = 2) (pure : ∀ ds M Q, R ds M Q → t__law_due { nx := fun _ M' => Q .non M', rt := Q } (startD N__law_due ds) M) : Callee P w K mg base "_law_due" ["_law_every", "_law_tells_here"] 1 R := by
  refine calleeD A sc__law_due len (fun f cdv A outer s H E hr => ⟨t__law_due, ?_, pure⟩)
  have nd : (N__law_due).Nodup := sc__law_due.nd
  exact (dss_cons (ds_set (i := 2) nd rfl (by first | exact Or.inl rfl | exact Or.inr rfl) (de_lst true da_nil)) (dss_cons (ds_for PassesOwn.never rfl (di_list (dv 0)) (DGc.dg (dg_name (vs := [3]) (i := 3) nd rfl (by first | exact Or.inl rfl | exact Or.inr rfl))) (dss_cons (ds_if (dw_t (dw_and (dt_ne hr.units (dv 3) de_str) (dw_and1 (dt_ne hr.units (de_dix hr.units (dv 1) (dv 3)) (de_dix hr.units (dv 1) (de_add de_str (de_slice false (dv 3) (do_some de_int) do_none))))))) (dss_one (ds_expr (de_append (dv 2) de_int))) dss_nil) (dss_one (ds_if (dw_t (dw_and (dt_eq hr.units (de_len rfl g_len (da_cons (dv 3) da_nil)) de_int) (dw_and1 (dt_ne hr.units (de_dix hr.units (dv 1) (dv 3)) (de_dix hr.units (dv 1) (de_add (de_ix (dv 3) de_int) de_str)))))) (dss_one (ds_expr (de_append (dv 2) de_int))) dss_nil)))) (dss_one (ds_ret (de_sortSetI false rfl g_sorted g_set (dv 2))))))
theorem sc_law_k10 : FnScope N_law_k10 ["_law_script"] (defScope s_law) := ⟨rfl, rfl, rfl, by decide +kernel, rfl, by decide +kernel, by decide +kernel⟩
theorem w_law_k10 {P : Program} {w : World} {K : PySem.W.Frag} {mg : Str → Option Value} {base : Heap} {R : RF} {R__law_files : RF} (C__law_files : Callee P w K mg base "_law_files" ["_law_most"] 1 R__law_files) {R__law_source : RF} (C__law_source : Callee P w K mg base "_law_source" ["_law_script", "_law_index"] 1 R__law_source) {R__law_book : RF} (C__law_book : Callee P w K mg base "_law_book" ["_law_source_here", "_law_most"] 5 R__law_book) {R__law_tells : RF} (C__law_tells : Callee P w K mg base "_law_tells" ["_law_book_here", "_law_file"] 4 R__law_tells) {R__law_due : RF} (C__law_due : Callee P w K mg base "_law_due" ["_law_every", "_law_tells_here"] 1 R__law_due) {R_reads : RF} (C_reads : Callee P w K mg base "reads" ["book"] 8 R_reads) {R_enough : RF} (C_enough : Callee P w K mg base "enough" ["book"] 8 R_enough) {R_lengths : RF} (C_lengths : Callee P w K mg base "lengths" ["book"] 8 R_lengths) (g_range : mg "range" = none) (g_min : mg "min" = none) (g_len : mg "len" = none) (g_dict : mg "dict" = none) {f : Addr} {fd : FuncData} (F : FnP K "law" s_law f fd)
    (len : ∀ ds M P, R ds M P → ds.length = 1) (pure : ∀ ds M Q, R ds M Q → t_law_k10 R__law_files R__law_source R__law_book R__law_tells R__law_due R_reads R_enough R_lengths { nx := fun _ M' => Q .non M', rt := Q } (startD N_law_k10 ds) M) : FnOk P w K mg base CX0 9 f fd ["_law_script"] (spD K R) := by
  refine fn_DD F sc_law_k10 len (fun cdv A outer s H E hr => ⟨t_law_k10 R__law_files R__law_source R__law_book R__law_tells R__law_due R_reads R_enough R_lengths, ?_, pure⟩)
  have nd : (N_law_k10).Nodup := sc_law_k10.nd
  exact (dss_cons (ds_set (i := 1) nd rfl (by first | exact Or.inl rfl | exact Or.inr rfl) (de_call C__law_files hr (by decide) rfl (da_cons de_int da_nil))) (dss_cons (ds_for PassesOwn.never rfl (di_range1 rfl g_range (de_add de_int (de_min2 rfl rfl g_min (da_cons (de_len rfl g_len (da_cons (dv 0) da_nil)) (da_cons de_int da_nil))))) (DGc.dg (dg_name (vs := [2]) (i := 2) nd rfl (by first | exact Or.inl rfl | exact Or.inr rfl))) (dss_cons (ds_set (i := 3) nd rfl (by first | exact Or.inl rfl | exact Or.inr rfl) (de_call C__law_source hr (by decide) rfl (da_cons (dv 0) (da_cons (dv 2) da_nil)))) (dss_cons (ds_set (i := 4) nd rfl (by first | exact Or.inl rfl | exact Or.inr rfl) (de_call C__law_book hr (by decide) rfl (da_cons (dv 3) (da_cons de_int da_nil)))) (dss_cons (ds_set (i := 5) nd rfl (by first | exact Or.inl rfl | exact Or.inr rfl) (de_dictc rfl rfl g_dict (da_cons (de_lc false rfl nd (own := [("_law_file", 6)]) (di_list (dv 1)) (blkOk_by (by kernel_rfl)) (fun _ _ _ _ _ => (dg_name (vs := [6]) (i := 6) nd rfl (by first | exact Or.inl rfl | exact Or.inr rfl))) (fun _ _ _ _ _ => dts_nil) (fun _ _ _ _ _ => (de_tup (da_cons (dv 6) (da_cons (de_call C__law_tells hr (by decide) rfl (da_cons (dv 4) (da_cons (dv 6) da_nil))) da_nil))))) da_nil))) (dss_cons (ds_set (i := 7) nd rfl (by first | exact Or.inl rfl | exact Or.inr rfl) (de_call C__law_due hr (by decide) rfl (da_cons (dv 1) (da_cons (dv 5) da_nil)))) (dss_cons (ds_set (i := 8) nd rfl (by first | exact Or.inl rfl | exact Or.inr rfl) (de_call C_reads hr (by decide) rfl (da_cons (dv 4) da_nil))) (dss_cons (ds_if (dt_ne hr.units (dv 8) (dv 7)) (dss_one (ds_ret de_bl)) dss_nil) (dss_cons (ds_expr (de_append (dv 8) de_int)) (dss_cons (ds_if (dt_ne hr.units (de_call C_reads hr (by decide) rfl (da_cons (dv 4) da_nil)) (dv 7)) (dss_one (ds_ret de_bl)) dss_nil) (dss_cons (ds_set (i := 9) nd rfl (by first | exact Or.inl rfl | exact Or.inr rfl) de_int) (dss_cons (ds_while PassesOwn.never (dt_ne hr.units (de_lc false rfl nd (own := [("_law_file", 6)]) (di_list (dv 1)) (blkOk_by (by kernel_rfl)) (fun _ _ _ _ _ => (dg_name (vs := [6]) (i := 6) nd rfl (by first | exact Or.inl rfl | exact Or.inr rfl))) (fun _ _ _ _ _ => (dts_one (dt_ne hr.units (de_dix hr.units (dv 5) (dv 6)) (de_dix hr.units (dv 5) (de_slice false (dv 6) do_none (do_some (dv 9))))))) (fun _ _ _ _ _ => (dv 6))) (de_lst false da_nil)) (dss_one (ds_set (i := 9) nd rfl (by first | exact Or.inl rfl | exact Or.inr rfl) (de_add (dv 9) de_int)))) (dss_cons (ds_if (dt_ne hr.units (de_call C_enough hr (by decide) rfl (da_cons (dv 4) da_nil)) (dv 9)) (dss_one (ds_ret de_bl)) dss_nil) (dss_cons (ds_set (i := 7) nd rfl (by first | exact Or.inl rfl | exact Or.inr rfl) (de_lst true da_nil)) (dss_cons (ds_for PassesOwn.never rfl (di_range1 rfl g_range de_int) (DGc.dg (dg_name (vs := [10]) (i := 10) nd rfl (by first | exact Or.inl rfl | exact Or.inr rfl))) (dss_cons (ds_setLc false (i := 11) rfl nd rfl rfl (sw_true rfl rfl rfl (by decide +kernel)) (own := [("_law_file", 6)]) (di_list (dv 1)) (blkOk_by (by kernel_rfl)) (fun _ _ _ _ _ => (dg_name (vs := [6]) (i := 6) nd rfl (by first | exact Or.inl rfl | exact Or.inr rfl))) (fun _ _ _ _ _ => (dts_one (dt_eq hr.units (de_len rfl g_len (da_cons (dv 6) da_nil)) (dv 10)))) (fun _ _ _ _ _ => (dv 6))) (dss_one (ds_if (dt_ne hr.units (de_lc false rfl nd (own := [("_law_file", 6)]) (di_list (dv 11)) (blkOk_by (by kernel_rfl)) (fun _ _ _ _ _ => (dg_name (vs := [6]) (i := 6) nd rfl (by first | exact Or.inl rfl | exact Or.inr rfl))) (fun _ _ _ _ _ => (dts_one (dt_ne hr.units (de_dix hr.units (dv 5) (dv 6)) (de_dix hr.units (dv 5) (de_add (dv 6) de_str))))) (fun _ _ _ _ _ => (dv 6))) (de_lst false da_nil)) (dss_one (ds_expr (de_append (dv 7) (dv 10)))) dss_nil)))) (dss_one (ds_if (dt_ne hr.units (de_call C_lengths hr (by decide) rfl (da_cons (dv 4) da_nil)) (dv 7)) (dss_one (ds_ret de_bl)) dss_nil)))))))))))))))) (dss_one (ds_ret (de_and (de_eq hr.units (de_call C_reads hr (by decide) rfl (da_cons (de_tup da_nil) da_nil)) (de_lst false da_nil)) (de_and (de_eq hr.units (de_call C_enough hr (by decide) rfl (da_cons (de_tup da_nil) da_nil)) de_int) (de_one (de_eq hr.units (de_call C_lengths hr (by decide) rfl (da_cons (de_tup (da_cons (de_tup (da_cons de_str (da_cons de_int (da_cons (de_tup (da_cons (de_tup (da_cons de_int (da_cons de_str (da_cons de_int da_nil)))) da_nil)) (da_cons (de_tup da_nil) da_nil))))) da_nil)) da_nil)) (de_lst false (da_cons de_int da_nil))))))))))
end DL
-- part Pl1
set_option Elab.async false
set_option linter.all false
set_option maxRecDepth 100000
set_option maxHeartbeats 4000000
/-! what the values are, in plain types; how a reading is opened -/
namespace DL
open PySem PySem.Spec PyProof.Rows L2
abbrev Dg := _root_.Fin 16
inductive Wh where
  | pl (p : Int)
  | ptr (p a : Int)
structure Tst where
  w : Wh
  how : Str
  val : Int
structure Rul where
  word : Str
  str : Int
  tests : List Tst
  parts : List (Str × Tst)
abbrev Book := List Rul
structure Cas where
  lo : Int
  hi : Int
  digs : List (Int × List Dg)
structure Lin where
  text : Option Str
  index : Option Int
  said : List Bool
  cas : Cas
def dWh : Wh → D
  | .pl p => .int p
  | .ptr p a => .tup [.int p, .int a]
def dTst (t : Tst) : D := .tup [dWh t.w, .str t.how, .int t.val]
def dPart (p : Str × Tst) : D := .tup [.str p.1, dTst p.2]
def dRul (r : Rul) : D := .tup [.str r.word, .int r.str, .tup (r.tests.map dTst), .tup (r.parts.map dPart)]
def dBook (b : Book) : D := .tup (b.map dRul)
def dDg (d : Dg) : D := .int (d.val : Int)
def dDgs (ds : List Dg) : D := .tup (ds.map dDg)
def dKey (p : Int × List Dg) : D := .tup [.int p.1, dDgs p.2]
def dCas (c : Cas) : D := .tup [.int c.lo, .int c.hi, .tup (c.digs.map dKey)]
def dOS : Option Str → D
  | none => .non
  | some x => .str x
def dOI : Option Int → D
  | none => .non
  | some x => .int x
def dLin (l : Lin) : D := .tup [dOS l.text, dOI l.index, .tup (l.said.map D.bl), dCas l.cas]

/-! ### opening a reading -/
theorem o_var0 {d : Option D} {ρ : DEnv} {M : Mem} {P : DK} : xVar 0 (d :: ρ) M P = match d with | some d => P d M | none => False := by
  cases d <;> rfl
theorem o_vars {i : Nat} {d : Option D} {ρ : DEnv} {M : Mem} {P : DK} : xVar (i + 1) (d :: ρ) M P = xVar i ρ M P := rfl
theorem atI_nat {α : Type} {xs : List α} {i : Nat} {x : α} (h : xs[i]? = some x) : atI xs (i : Int) = some x := by
  have hl : i < xs.length := (List.getElem?_eq_some_iff.mp h).1
  unfold atI ixN
  rw [if_pos (by omega), if_pos (by omega)]
  simpa using h
theorem lc_go {α : Type} {xs : List α} {e : α → D} {out : α → Option D} {m : Bool} {g : RG} {tt : RT} {te : RE} {vs : List Nat} {ρ : DEnv} {M : Mem} {P : DK} (hl : xs.length ≤ 16777216)
    (body : ∀ x ∈ xs, ∀ K : Option D → Mem → Prop, K (out x) M → g (e x) (wipeD ρ vs) M fun ρ2 M2 => tt ρ2 M2 fun b M3 => match b with | true => te ρ2 M3 fun y M4 => K (some y) M4 | false => K none M3)
    (hP : mk m (xs.filterMap out) M P) : ∃ W : Nat → List D → Mem → Prop, W 0 [] M ∧
    (∀ i d acc M, (xs.map e)[i]? = some d → W i acc M → g d (wipeD ρ vs) M fun ρ2 M2 => tt ρ2 M2 fun b M3 => match b with
      | true => te ρ2 M3 fun y M4 => acc.length < 16777216 ∧ W (i + 1) (acc ++ [y]) M4
      | false => W (i + 1) acc M3) ∧ ∀ acc M, W (xs.map e).length acc M → mk m acc M P := by
  refine ⟨fun i acc M' => M' = M ∧ acc = (xs.take i).filterMap out ∧ acc.length ≤ i, ⟨rfl, rfl, Nat.le_refl _⟩, ?_, ?_⟩
  · rintro i d acc M' hd ⟨rfl, rfl, hlen⟩
    rw [List.getElem?_map] at hd
    cases hx : xs[i]? with
    | none => rw [hx] at hd; cases hd
    | some x =>
      rw [hx] at hd
      cases Option.some.inj (show some _ = some _ from hd)
      have hi : i < xs.length := (List.getElem?_eq_some_iff.mp hx).1
      have et : xs.take (i + 1) = xs.take i ++ [x] := take_next hx
      refine body x (List.mem_of_getElem? hx) (fun o M4 => match o with
        | some y => ((xs.take i).filterMap out).length < 16777216 ∧ M4 = M' ∧ (xs.take i).filterMap out ++ [y] = (xs.take (i + 1)).filterMap out ∧ ((xs.take i).filterMap out ++ [y]).length ≤ i + 1
        | none => M4 = M' ∧ (xs.take i).filterMap out = (xs.take (i + 1)).filterMap out ∧ ((xs.take i).filterMap out).length ≤ i + 1) ?_
      rw [et]
      cases ho : out x with
      | none =>
        refine ⟨rfl, ?_, by omega⟩
        rw [List.filterMap_append]
        simp [ho]
      | some y =>
        refine ⟨by omega, rfl, ?_, ?_⟩
        · rw [List.filterMap_append]
          simp [ho]
        · rw [List.length_append]; simp only [List.length_cons, List.length_nil]; omega
  · rintro acc M' ⟨rfl, rfl, _⟩
    rw [List.length_map, List.take_length]
    exact hP
theorem lc_pure {α : Type} {xs : List α} {e : α → D} {out : α → Option D} {m : Bool} {wi : RI} {g : RG} {tt : RT} {te : RE} {vs : List Nat} {ρ : DEnv} {M : Mem} {P : DK} (hw : ∀ Q : List D → Mem → Prop, Q (xs.map e) M → wi ρ M Q) (hl : xs.length ≤ 16777216)
    (body : ∀ x ∈ xs, ∀ K : Option D → Mem → Prop, K (out x) M → g (e x) (wipeD ρ vs) M fun ρ2 M2 => tt ρ2 M2 fun b M3 => match b with | true => te ρ2 M3 fun y M4 => K (some y) M4 | false => K none M3)
    (hP : mk m (xs.filterMap out) M P) : xLc m wi g tt te vs ρ M P := hw _ (lc_go hl body hP)
/-- no test: every item gives one -/
theorem lc_map {α : Type} {xs : List α} {e : α → D} (f : α → D) {m : Bool} {wi : RI} {g : RG} {te : RE} {vs : List Nat} {ρ : DEnv} {M : Mem} {P : DK} (hw : ∀ Q : List D → Mem → Prop, Q (xs.map e) M → wi ρ M Q) (hl : xs.length ≤ 16777216)
    (body : ∀ x ∈ xs, ∀ K : D → Mem → Prop, K (f x) M → g (e x) (wipeD ρ vs) M fun ρ2 M2 => te ρ2 M2 K)
    (hP : mk m (xs.map f) M P) : xLc m wi g yYes te vs ρ M P :=
  lc_pure (out := fun x => some (f x)) hw hl (fun x hx K k => body x hx (fun y M4 => K (some y) M4) k) (by rw [show (fun x => some (f x)) = some ∘ f from rfl, List.filterMap_eq_map]; exact hP)
/-- a test and the item itself -/
theorem lc_filter {α : Type} {xs : List α} {e : α → D} (q : α → Bool) (f : α → D) {m : Bool} {wi : RI} {g : RG} {tt : RT} {te : RE} {vs : List Nat} {ρ : DEnv} {M : Mem} {P : DK} (hw : ∀ Q : List D → Mem → Prop, Q (xs.map e) M → wi ρ M Q) (hl : xs.length ≤ 16777216)
    (body : ∀ x ∈ xs, ∀ K : Option D → Mem → Prop, K (if q x then some (f x) else none) M → g (e x) (wipeD ρ vs) M fun ρ2 M2 => tt ρ2 M2 fun b M3 => match b with | true => te ρ2 M3 fun y M4 => K (some y) M4 | false => K none M3)
    (hP : mk m ((xs.filter q).map f) M P) : xLc m wi g tt te vs ρ M P := by
  refine lc_pure (out := fun x => if q x then some (f x) else none) hw hl body ?_
  have e : ∀ xs : List α, xs.filterMap (fun x => if q x then some (f x) else none) = (xs.filter q).map f := by
    intro xs
    induction xs with
    | nil => rfl
    | cons x xs ih =>
      cases h : q x with
      | true => rw [List.filterMap_cons_some (b := f x) (by simp [h]), List.filter_cons_of_pos h, ih]; rfl
      | false => rw [List.filterMap_cons_none (by simp [h]), List.filter_cons_of_neg (by simp [h]), ih]
  rw [e]; exact hP
theorem for_go {α : Type} {xs : List α} {e : α → D} {wi : RI} {g : RG} {tb : RS} {E : DEnds} {ρ : DEnv} {M : Mem} (I : List α → DEnv → Mem → Prop) (hw : ∀ Q : List D → Mem → Prop, Q (xs.map e) M → wi ρ M Q) (h0 : I [] ρ M)
    (step : ∀ pre x post, xs = pre ++ x :: post → ∀ ρ M, I pre ρ M → g (e x) ρ M fun ρ2 M2 => tb { E with nx := I (pre ++ [x]), ct := I (pre ++ [x]), bk := E.nx } ρ2 M2)
    (last : ∀ ρ M, I xs ρ M → E.nx ρ M) : sFor wi g tb E ρ M := by
  refine hw _ ⟨fun i ρ M => I (xs.take i) ρ M, by simpa using h0, fun i d ρ M hd hi => ?_, fun ρ M h => ?_⟩
  · rw [List.getElem?_map] at hd
    cases hx : xs[i]? with
    | none => rw [hx] at hd; cases hd
    | some x =>
      rw [hx] at hd
      cases Option.some.inj (show some _ = some _ from hd)
      have et : xs.take (i + 1) = xs.take i ++ [x] := take_next hx
      have hi' : i < xs.length := (List.getElem?_eq_some_iff.mp hx).1
      have ex : xs = xs.take i ++ x :: xs.drop (i + 1) := by
        have h1 := (List.take_append_drop i xs).symm
        rw [List.drop_eq_getElem_cons hi'] at h1
        have h2 : xs[i] = x := by rw [List.getElem?_eq_getElem hi'] at hx; exact Option.some.inj hx
        rw [h2] at h1
        exact h1
      have := step (xs.take i) x (xs.drop (i + 1)) ex ρ M hi
      rw [← et] at this
      exact this
  · rw [List.length_map, List.take_length] at h
    exact last ρ M h


theorem ixt0 {M : Mem} {a : D} {l : List D} : ixD M (.tup (a :: l)) 0 = some a := atI_nat (i := 0) rfl
theorem ixt1 {M : Mem} {a b : D} {l : List D} : ixD M (.tup (a :: b :: l)) 1 = some b := atI_nat (i := 1) rfl
theorem ixt2 {M : Mem} {a b c : D} {l : List D} : ixD M (.tup (a :: b :: c :: l)) 2 = some c := atI_nat (i := 2) rfl
theorem ixt3 {M : Mem} {a b c d : D} {l : List D} : ixD M (.tup (a :: b :: c :: d :: l)) 3 = some d := atI_nat (i := 3) rfl
theorem k_ii : kitB "int" "int" = some true := by decide +kernel
theorem k_ib : kitB "int" "bool" = some false := by decide +kernel
theorem k_it : kitB "int" "tuple" = some false := by decide +kernel
theorem k_tt : kitB "tuple" "tuple" = some true := by decide +kernel
theorem k_ss : kitB "str" "str" = some true := by decide +kernel
theorem k_ns : kitB "NoneType" "str" = some false := by decide +kernel
theorem le_lit {n m : Nat} (h : n ≤ m) : (n ≤ m) = True := eq_true h
end DL
-- part Pl2
set_option Elab.async false
set_option linter.all false
set_option maxRecDepth 100000
set_option maxHeartbeats 4000000
namespace DL
open PySem PySem.Spec PyProof.Rows L2
local macro_rules | `(tactic| walk_at "dl") => `(tactic| simp (config := {decide := false}) only [sNext, sSeq, sDrop, sRet, sIf, sSet, sAsg, sPar, sStore, sNever, xC, xOp, xB, xChain, xUn, yAnd, yOr, yNot, xAnd, xOr, xNot, xIf, aNil, aCons, xTup, xLst, mk, xCB, xIsi, xSl, xJoin, xIndexS, xIndexL, xAppend, xCall, gN, gT, gCons, gNil, yYes, oNone, oSome, iT, iL, iS, xVar, startD, wipeD,
  fI0, fI, fLt, fLe, fGt, fGe, fSub, fMul, fMod, fDiv, fPow, fAnd, fLen, lenD, fNeg, fIs, isNon, fIx, fAdd, fEq, fIn, fMin2, fMax2, fTuple, fList, fAll, fInt, fStrS, fAbs, tyn, res, seqD, lstD,
  ixt0, ixt1, ixt2, ixt3, k_ii, k_ib, k_it, k_tt, k_ss, k_ns, Bool.not_true, Bool.not_false, Option.map_some,
  List.map_cons, List.map_nil, List.length_cons, List.length_nil, List.length_map, List.cons_append, List.nil_append, List.getElem?_cons_zero, List.getElem?_cons_succ, List.set_cons_zero, List.set_cons_succ, List.replicate_succ, List.replicate_zero, Nat.reduceAdd, Nat.reduceSub, Nat.reduceLeDiff, Nat.zero_le, true_and, and_true, Option.bind_some, if_true, if_false, Bool.false_eq_true, reduceIte, decide_true, decide_false, decide_eq_true_eq, imp_self, forall_const])
abbrev en0 (Q : DK) : DEnds := { nx := fun _ M' => Q .non M', rt := Q }
theorem sq {t u : RS} {E : DEnds} {ρ ρ' : DEnv} {M M' : Mem} (h1 : ∀ K : DEnv → Mem → Prop, K ρ' M' → t { E with nx := K } ρ M) (h2 : u E ρ' M') : sSeq t u E ρ M := h1 _ h2
theorem if_t {c : RT} {t u : RS} {E : DEnds} {ρ : DEnv} {M M' : Mem} (h1 : ∀ K : Bool → Mem → Prop, K true M' → c ρ M K) (h2 : t E ρ M') : sIf c t u E ρ M := h1 _ h2
theorem if_f {c : RT} {t u : RS} {E : DEnds} {ρ : DEnv} {M M' : Mem} (h1 : ∀ K : Bool → Mem → Prop, K false M' → c ρ M K) (h2 : u E ρ M') : sIf c t u E ρ M := h1 _ h2
theorem sif_t {c : RT} {t u v : RS} {E : DEnds} {ρ : DEnv} {M M' : Mem} (h1 : ∀ K : Bool → Mem → Prop, K true M' → c ρ M K) (h2 : t { E with nx := v E } ρ M') : sSeq (sIf c t u) v E ρ M := h1 _ h2
theorem sif_f {c : RT} {t v : RS} {E : DEnds} {ρ : DEnv} {M M' : Mem} (h1 : ∀ K : Bool → Mem → Prop, K false M' → c ρ M K) (h2 : v E ρ M') : sSeq (sIf c t sNext) v E ρ M := h1 _ h2
theorem all_true {α : Type} : ∀ (xs : List α), ((xs.map fun _ => true).all id) = true
  | [] => rfl
  | _ :: xs => by rw [List.map_cons, List.all_cons, all_true xs]; rfl
theorem bls_true {α : Type} (xs : List α) : bls (xs.map fun _ => D.bl true) = some (xs.map fun _ => true) := bls_map (fun _ => true) xs
/-! ### what a valid book is -/
def okSigns (z x : Str) : Prop := ∀ c ∈ x.cps.toList, subS ⟨#[c]⟩ z = true
def okWord (x : Str) : Prop := 1 ≤ x.length ∧ x.length ≤ 8 ∧ okSigns "abcdefghijklmnopqrstuvwxyz" x
def okWh : Wh → Prop
  | .pl p => 0 ≤ p ∧ p ≤ 31
  | .ptr p a => (0 ≤ p ∧ p ≤ 31) ∧ 0 ≤ a ∧ a ≤ 16
def okHow (x : Str) : Prop := x = "=" ∨ x = "!" ∨ x = "<" ∨ x = ">" ∨ x = "&"
def okTst (t : Tst) : Prop := okWh t.w ∧ okHow t.how ∧ 0 ≤ t.val ∧ t.val ≤ 15
def okRul (r : Rul) : Prop := okWord r.word ∧ (0 ≤ r.str ∧ r.str ≤ 9) ∧ (1 ≤ r.tests.length ∧ r.tests.length ≤ 3) ∧ r.parts.length ≤ 2 ∧ (∀ t ∈ r.tests, okTst t) ∧ ∀ p ∈ r.parts, okWord p.1 ∧ okTst p.2
def isPtr : Wh → Bool
  | .pl _ => false
  | .ptr _ _ => true
def allTests (r : Rul) : List Tst := r.tests ++ r.parts.map (·.2)
def nPairs (b : Book) : Nat := (b.map fun r => ((allTests r).filter fun t => isPtr t.w).length).sum
def okBook (b : Book) : Prop := b.length ≤ 4 ∧ (∀ r ∈ b, okRul r) ∧ nPairs b ≤ 2

def R_is_between : RF := fun ds M P => ∃ v l h : Int, ds = [.int v, .int l, .int h] ∧ l ≤ v ∧ v ≤ h ∧ P (.bl true) M
theorem p_is_between (ds : List D) (M : Mem) (Q : DK) (h : R_is_between ds M Q) : t_is_between (en0 Q) (startD N_is_between ds) M := by
  obtain ⟨v, l, hh, rfl, h1, h2, q⟩ := h
  unfold t_is_between
  walk_at "dl"
  simp only [h1, h2, decide_true]
  exact q
def R_is_file : RF := fun ds M P => ∃ x : Str, ds = [.str x] ∧ x.length ≤ 40 ∧ okSigns "0123456789abcdef" x ∧ P (.bl true) M
theorem p_is_file (ds : List D) (M : Mem) (Q : DK) (h : R_is_file ds M Q) : t_is_file (en0 Q) (startD N_is_file ds) M := by
  obtain ⟨x, rfl, h1, h2, q⟩ := h
  unfold t_is_file D_MOST_FILE D_DIGITS
  walk_at "dl"
  have e : x.length ≤ 16777216 := by omega
  simp only [e, if_true]
  have e2 : ((x.length : Nat) : Int) ≤ 40 := by omega
  simp only [e2, decide_true]
  refine lc_map (xs := x.cps.toList) (e := fun c => .str ⟨#[c]⟩) (fun c => .bl true) (fun Q h => h) (by have : x.cps.toList.length = x.length := rfl; omega) (fun c hc K k => ?_) ?_
  · walk_at "dl"
    rw [h2 c hc]; exact k
  · walk_at "dl"
    rw [bls_true]
    walk_at "dl"
    rw [all_true]; exact q
def R_is_where : RF := fun ds M P => ∃ w : Wh, ds = [dWh w] ∧ okWh w ∧ P (.bl true) M
theorem p_is_where (ds : List D) (M : Mem) (Q : DK) (h : R_is_where ds M Q) : t_is_where R_is_between (en0 Q) (startD N_is_where ds) M := by
  obtain ⟨w, rfl, h1, q⟩ := h
  unfold t_is_where D_MOST_PLACE D_MOST_ADD
  cases w with
  | pl p =>
    unfold dWh
    walk_at "dl"
    exact ⟨p, 0, 31, rfl, h1.1, h1.2, q⟩
  | ptr p a =>
    unfold dWh
    walk_at "dl"
    refine ⟨rfl, p, 0, 31, rfl, h1.1.1, h1.1.2, a, 0, 16, rfl, h1.2.1, h1.2.2, q⟩
def R_is_test : RF := fun ds M P => ∃ t : Tst, ds = [dTst t] ∧ okTst t ∧ P (.bl true) M
theorem p_is_test (ds : List D) (M : Mem) (Q : DK) (h : R_is_test ds M Q) : t_is_test R_is_where R_is_between (en0 Q) (startD N_is_test ds) M := by
  obtain ⟨t, rfl, h1, q⟩ := h
  unfold t_is_test dTst
  walk_at "dl"
  refine ⟨rfl, t.w, rfl, h1.1, ?_⟩
  walk_at "dl"
  have e : inD (.str t.how) [.str "=", .str "!", .str "<", .str ">", .str "&"] = true := by
    rcases h1.2.1 with e | e | e | e | e <;> rw [e] <;> decide +kernel
  refine ⟨rfl, rfl, ?_⟩
  rw [e]
  exact ⟨t.val, 0, 15, rfl, h1.2.2.1, h1.2.2.2, q⟩
def R_is_word : RF := fun ds M P => ∃ x : Str, ds = [.str x] ∧ okWord x ∧ P (.bl true) M
theorem p_is_word (ds : List D) (M : Mem) (Q : DK) (h : R_is_word ds M Q) : t_is_word (en0 Q) (startD N_is_word ds) M := by
  obtain ⟨x, rfl, h1, q⟩ := h
  unfold t_is_word D_MOST_WORD D_LETTERS
  walk_at "dl"
  have e : x.length ≤ 16777216 := by have := h1.2.1; omega
  simp only [e, if_true]
  have e1 : (1 : Int) ≤ ((x.length : Nat) : Int) := by have := h1.1; omega
  have e2 : ((x.length : Nat) : Int) ≤ 8 := by have := h1.2.1; omega
  simp only [e1, e2, decide_true]
  refine lc_map (xs := x.cps.toList) (e := fun c => .str ⟨#[c]⟩) (fun c => .bl true) (fun Q h => h) (by have : x.cps.toList.length = x.length := rfl; omega) (fun c hc K k => ?_) ?_
  · walk_at "dl"
    rw [h1.2.2 c hc]; exact k
  · walk_at "dl"
    rw [bls_true]
    walk_at "dl"
    rw [all_true]; exact q
def R_is_part : RF := fun ds M P => ∃ p : Str × Tst, ds = [dPart p] ∧ okWord p.1 ∧ okTst p.2 ∧ P (.bl true) M
theorem p_is_part (ds : List D) (M : Mem) (Q : DK) (h : R_is_part ds M Q) : t_is_part R_is_word R_is_test (en0 Q) (startD N_is_part ds) M := by
  obtain ⟨p, rfl, h1, h2, q⟩ := h
  unfold t_is_part dPart
  walk_at "dl"
  exact ⟨rfl, p.1, rfl, h1, p.2, rfl, h2, q⟩
def R_is_rule : RF := fun ds M P => ∃ r : Rul, ds = [dRul r] ∧ okRul r ∧ P (.bl true) M
theorem p_is_rule (ds : List D) (M : Mem) (Q : DK) (h : R_is_rule ds M Q) : t_is_rule R_is_word R_is_between R_is_test R_is_part (en0 Q) (startD N_is_rule ds) M := by
  obtain ⟨r, rfl, h1, q⟩ := h
  obtain ⟨a1, a2, a3, a4, a5, a6⟩ := h1
  unfold t_is_rule
  refine sq (ρ' := startD N_is_rule [dRul r]) (M' := M) (fun K k => if_f (M' := M) (fun K k => ?_) k) ?_
  · unfold dRul at k ⊢
    walk_at "dl"
    exact ⟨rfl, r.word, rfl, a1, k⟩
  refine sq (ρ' := [some (dRul r), some (.str r.word), some (.int r.str), some (.tup (r.tests.map dTst)), some (.tup (r.parts.map dPart)), none, none]) (M' := M) (fun K k => ?_) ?_
  · exact k
  refine sq (M' := M) (fun K k => if_f (M' := M) (fun K k => ?_) k) ?_
  · unfold D_MOST_STRENGTH
    walk_at "dl"
    exact ⟨r.str, 0, 9, rfl, a2.1, a2.2, k⟩
  refine sq (M' := M) (fun K k => if_f (M' := M) (fun K k => ?_) k) ?_
  · unfold D_MOST_TESTS D_MOST_PARTS
    walk_at "dl"
    have e1 : (1 : Int) ≤ ((r.tests.length : Nat) : Int) := by omega
    have e2 : ((r.tests.length : Nat) : Int) ≤ 3 := by omega
    have e3 : ¬ (2 : Int) < ((r.parts.length : Nat) : Int) := by omega
    simp only [e1, e2, e3, decide_true, decide_false]
    exact k
  walk_at "dl"
  refine lc_map (xs := r.tests) (e := dTst) (fun c => .bl true) (fun Q h => h) (by omega) (fun c hc K k => ⟨c, rfl, a5 c hc, k⟩) ?_
  walk_at "dl"
  rw [bls_true]
  walk_at "dl"
  rw [all_true]
  walk_at "dl"
  refine lc_map (xs := r.parts) (e := dPart) (fun c => .bl true) (fun Q h => h) (by omega) (fun c hc K k => ⟨c, rfl, (a6 c hc).1, (a6 c hc).2, k⟩) ?_
  walk_at "dl"
  rw [bls_true]
  walk_at "dl"
  rw [all_true]
  exact q
def R_tests_of : RF := fun ds M P => ∃ r : Rul, ds = [dRul r] ∧ r.tests.length ≤ 16 ∧ r.parts.length ≤ 16 ∧ P (.lst ((allTests r).map dTst)) M
theorem p_tests_of (ds : List D) (M : Mem) (Q : DK) (h : R_tests_of ds M Q) : t_tests_of (en0 Q) (startD N_tests_of ds) M := by
  obtain ⟨r, rfl, h1, h2, q⟩ := h
  unfold t_tests_of dRul
  walk_at "dl"
  refine lc_map (xs := r.parts) (e := dPart) (fun p => dTst p.2) (fun Q h => by walk_at "dl"; exact h) (by omega) (fun c hc K k => by unfold dPart; walk_at "dl"; exact k) ?_
  walk_at "dl"
  refine ⟨by omega, ?_⟩
  unfold allTests at q
  rw [List.map_append, List.map_map] at q
  exact q
def R_pairs_in : RF := fun ds M P => ∃ b : Book, ds = [dBook b] ∧ (∀ r ∈ b, okRul r) ∧ P (.int (nPairs b)) M
theorem p_pairs_in (ds : List D) (M : Mem) (Q : DK) (h : R_pairs_in ds M Q) : t_pairs_in R_tests_of (en0 Q) (startD N_pairs_in ds) M := by
  obtain ⟨b, rfl, h1, q⟩ := h
  unfold t_pairs_in dBook
  walk_at "dl"
  refine for_go (xs := b) (e := dRul) (fun pre ρ M' => M' = M ∧ ∃ x y, ρ = [some (.tup (b.map dRul)), some (.int (nPairs pre)), x, y]) (fun Q h => by walk_at "dl"; exact h) ⟨rfl, none, none, rfl⟩ ?_ ?_
  · rintro pre r post hb ρ M' ⟨rfl, x, y, rfl⟩
    have hr : okRul r := h1 r (by rw [hb]; simp)
    obtain ⟨_, _, a3, a4, _, _⟩ := hr
    walk_at "dl"
    have hl : (allTests r).length ≤ 16777216 := by unfold allTests; rw [List.length_append, List.length_map]; omega
    refine lc_filter (xs := allTests r) (e := dTst) (fun t => isPtr t.w) dTst (fun Q h => ⟨r, rfl, by omega, by omega, h⟩) hl (fun t ht K k => ?_) ?_
    · unfold dTst
      walk_at "dl"
      cases ew : t.w with
      | pl p =>
        rw [ew] at k
        unfold dWh; walk_at "dl"
        exact k
      | ptr p a =>
        rw [ew] at k
        unfold dTst at k; rw [ew] at k
        unfold dWh at k ⊢; walk_at "dl"
        exact k
    · walk_at "dl"
      refine ⟨some (dRul r), y, ?_⟩
      have e : nPairs (pre ++ [r]) = nPairs pre + ((allTests r).filter fun t => isPtr t.w).length := by
        unfold nPairs; rw [List.map_append, List.sum_append]; simp
      rw [e]
      simp only [Int.natCast_add]
  · rintro ρ M' ⟨rfl, x, y, rfl⟩
    walk_at "dl"
    exact q
def R_is_book : RF := fun ds M P => ∃ b : Book, ds = [dBook b] ∧ okBook b ∧ P (.bl true) M
theorem p_is_book (ds : List D) (M : Mem) (Q : DK) (h : R_is_book ds M Q) : t_is_book R_is_rule R_pairs_in (en0 Q) (startD N_is_book ds) M := by
  obtain ⟨b, rfl, h1, q⟩ := h
  obtain ⟨a1, a2, a3⟩ := h1
  unfold t_is_book D_MOST_RULES D_MOST_PAIRS dBook
  walk_at "dl"
  have e3 : ¬ (4 : Int) < ((b.length : Nat) : Int) := by omega
  simp only [e3, decide_false]
  refine lc_map (xs := b) (e := dRul) (fun c => .bl true) (fun Q h => h) (by omega) (fun c hc K k => ⟨c, rfl, a2 c hc, k⟩) ?_
  walk_at "dl"
  rw [bls_true]
  walk_at "dl"
  rw [all_true]
  refine ⟨b, rfl, a2, ?_⟩
  walk_at "dl"
  have e : ((nPairs b : Nat) : Int) ≤ 2 := by omega
  simp only [e, decide_true]
  exact q
def R_need_book : RF := fun ds M P => ∃ b : Book, ds = [dBook b] ∧ okBook b ∧ P .non M
theorem p_need_book (ds : List D) (M : Mem) (Q : DK) (h : R_need_book ds M Q) : t_need_book R_is_book (en0 Q) (startD N_need_book ds) M := by
  obtain ⟨b, rfl, h1, q⟩ := h
  unfold t_need_book
  walk_at "dl"
  exact ⟨b, rfl, h1, q⟩
def R_need_file : RF := fun ds M P => ∃ x : Str, ds = [.str x] ∧ x.length ≤ 40 ∧ okSigns "0123456789abcdef" x ∧ P .non M
theorem p_need_file (ds : List D) (M : Mem) (Q : DK) (h : R_need_file ds M Q) : t_need_file R_is_file (en0 Q) (startD N_need_file ds) M := by
  obtain ⟨b, rfl, h1, h2, q⟩ := h
  unfold t_need_file
  walk_at "dl"
  exact ⟨b, rfl, h1, h2, q⟩
def fits (n : Int) (how : Str) (v : Int) : Bool :=
  if how = "=" then decide (n = v) else if how = "!" then !decide (n = v) else if how = "<" then decide (n < v) else if how = ">" then decide (v < n) else decide (Builtin.bitAnd n v = v)
def R_fits : RF := fun ds M P => ∃ (n : Int) (how : Str) (v : Int), ds = [.int n, .str how, .int v] ∧ P (.bl (fits n how v)) M
theorem dq_str (x y : Str) : deqN 9 (.str x) (.str y) = decide (x = y) := rfl
theorem dq_int (x y : Int) : deqN 9 (.int x) (.int y) = decide (x = y) := rfl
theorem p_fits (ds : List D) (M : Mem) (Q : DK) (h : R_fits ds M Q) : t_fits (en0 Q) (startD N_fits ds) M := by
  obtain ⟨n, how, v, rfl, q⟩ := h
  unfold t_fits
  unfold fits at q
  by_cases h1 : how = "="
  · rw [if_pos h1] at q
    exact sif_t (M' := M) (fun K k => by walk_at "dl"; rw [dq_str, decide_eq_true h1]; exact ⟨rfl, k⟩) ⟨rfl, q⟩
  rw [if_neg h1] at q
  refine sif_f (M' := M) (fun K k => by walk_at "dl"; rw [dq_str, decide_eq_false h1]; exact ⟨rfl, k⟩) ?_
  by_cases h2 : how = "!"
  · rw [if_pos h2] at q
    exact sif_t (M' := M) (fun K k => by walk_at "dl"; rw [dq_str, decide_eq_true h2]; exact ⟨rfl, k⟩) ⟨rfl, q⟩
  rw [if_neg h2] at q
  refine sif_f (M' := M) (fun K k => by walk_at "dl"; rw [dq_str, decide_eq_false h2]; exact ⟨rfl, k⟩) ?_
  by_cases h3 : how = "<"
  · rw [if_pos h3] at q
    exact sif_t (M' := M) (fun K k => by walk_at "dl"; rw [dq_str, decide_eq_true h3]; exact ⟨rfl, k⟩) q
  rw [if_neg h3] at q
  refine sif_f (M' := M) (fun K k => by walk_at "dl"; rw [dq_str, decide_eq_false h3]; exact ⟨rfl, k⟩) ?_
  walk_at "dl"
  rw [dq_str]
  by_cases h4 : how = ">"
  · rw [if_pos h4] at q
    rw [decide_eq_true h4]; exact ⟨rfl, q⟩
  · rw [if_neg h4] at q
    rw [decide_eq_false h4]; exact ⟨rfl, rfl, q⟩
/-! ### the order of a book's rules -/
def keysFrom : Nat → Book → List (Int × Int)
  | _, [] => []
  | i, r :: b => (-r.str, (i : Int)) :: keysFrom (i + 1) b
def order (b : Book) : List Int := (isort leP (keysFrom 0 b)).map (·.2)
def R_order_of : RF := fun ds M P => ∃ b : Book, ds = [dBook b] ∧ b.length ≤ 64 ∧ P (.lst ((order b).map D.int)) M
theorem enD_map {α : Type} (e : α → D) (xs : List α) : enD (xs.map e) = (xs.mapIdx fun i x => (i, x)).map fun p => D.tup [.int ((p.1 : Nat) : Int), e p.2] := by
  unfold enD
  apply List.ext_getElem?
  intro i
  simp only [List.getElem?_mapIdx, List.getElem?_map]
  cases xs[i]? <;> rfl
theorem keysFrom_eq (b : Book) : ∀ k, keysFrom k b = (b.mapIdx fun i r => (i, r)).map fun p => (-p.2.str, ((p.1 + k : Nat) : Int)) := by
  induction b with
  | nil => intro k; rfl
  | cons r b ih =>
    intro k
    rw [List.mapIdx_cons, List.map_cons]
    show (-r.str, ((k : Nat) : Int)) :: keysFrom (k + 1) b = _
    rw [ih (k + 1)]
    congr 1
    · simp
    · apply List.ext_getElem?
      intro i
      simp only [List.getElem?_map, List.getElem?_mapIdx]
      cases b[i]? with
      | none => rfl
      | some x => simp only [Option.map_some]; congr 3; omega
theorem p_order_of (ds : List D) (M : Mem) (Q : DK) (h : R_order_of ds M Q) : t_order_of (en0 Q) (startD N_order_of ds) M := by
  obtain ⟨b, rfl, h1, q⟩ := h
  unfold t_order_of dBook
  walk_at "dl"
  refine lc_map (xs := isort leP (keysFrom 0 b)) (e := dPr) (fun p => .int p.2) (fun Q h => ?_) ?_ (fun p hp K k => by unfold dPr; walk_at "dl"; exact k) ?_
  · walk_at "dl"
    refine lc_map (xs := b.mapIdx fun i r => (i, r)) (e := fun p => D.tup [.int ((p.1 : Nat) : Int), dRul p.2]) (fun p => dPr (-p.2.str, ((p.1 : Nat) : Int))) (fun Q h => ?_) (by simpa using by omega) (fun p hp K k => ?_) ?_
    · show Q (enD (b.map dRul)) M
      rw [enD_map]; exact h
    · unfold dRul dPr at *
      walk_at "dl"
      exact k
    · have e : (keysFrom 0 b) = (b.mapIdx fun i r => (i, r)).map fun p => (-p.2.str, ((p.1 : Nat) : Int)) := keysFrom_eq b 0
      rw [e] at h
      walk_at "dl"
      unfold fSortPP
      show (match prn (((b.mapIdx fun i r => (i, r)).map fun p => dPr (-p.2.str, ((p.1 : Nat) : Int)))) with | some xs => _ | none => False)
      rw [prn_map (fun p : Nat × Rul => (-p.2.str, ((p.1 : Nat) : Int)))]
      exact h
  · rw [(isort_perm leP _).length_eq, keysFrom_eq]
    simpa using by omega
  · unfold order at q
    rw [List.map_map] at q
    exact q
end DL
-- part Pl3
set_option Elab.async false
set_option linter.all false
set_option maxRecDepth 100000
set_option maxHeartbeats 4000000
namespace DL
open PySem PySem.Spec PyProof.Rows L2
local macro_rules | `(tactic| walk_at "dl") => `(tactic| simp (config := {decide := false}) only [sNext, sSeq, sDrop, sRet, sIf, sSet, sAsg, sPar, sStore, sNever, xC, xOp, xB, xChain, xUn, yAnd, yOr, yNot, xAnd, xOr, xNot, xIf, aNil, aCons, xTup, xLst, mk, xCB, xIsi, xSl, xJoin, xIndexS, xIndexL, xAppend, xCall, gN, gT, gCons, gNil, yYes, oNone, oSome, iT, iL, iS, xVar, startD, wipeD,
  fI0, fI, fLt, fLe, fGt, fGe, fSub, fMul, fMod, fDiv, fPow, fAnd, fLen, lenD, fNeg, fIs, isNon, fIx, fAdd, fEq, fIn, fMin2, fMax2, fTuple, fList, fAll, fInt, fStrS, fAbs, tyn, res, seqD, lstD,
  ixt0, ixt1, ixt2, ixt3, k_ii, k_ib, k_it, k_tt, k_ss, k_ns, Bool.not_true, Bool.not_false, Option.map_some,
  List.map_cons, List.map_nil, List.length_cons, List.length_nil, List.length_map, List.cons_append, List.nil_append, List.getElem?_cons_zero, List.getElem?_cons_succ, List.set_cons_zero, List.set_cons_succ, List.replicate_succ, List.replicate_zero, Nat.reduceAdd, Nat.reduceSub, Nat.reduceLeDiff, Nat.zero_le, true_and, and_true, Option.bind_some, if_true, if_false, Bool.false_eq_true, reduceIte, decide_true, decide_false, decide_eq_true_eq, imp_self, forall_const])
/-! ### cases -/
def every : List Dg := [0, 1, 2, 3, 4, 5, 6, 7, 8, 9, 10, 11, 12, 13, 14, 15]
theorem d_every : D_EVERY = dDgs every := rfl
structure okCas (c : Cas) : Prop where
  nd : (c.digs.map (·.1)).Nodup
  rg : ∀ q ∈ c.digs, -1 ≤ q.1 ∧ q.1 < 48
  sz : ∀ q ∈ c.digs, q.2.length ≤ 16
theorem nodup_int_len : ∀ (l : List Int) (n : Nat), l.Nodup → (∀ x ∈ l, -1 ≤ x ∧ x < (n : Int) - 1) → l.length ≤ n := by
  intro l n hd hr
  have h1 : (l.map fun x => (x + 1).toNat).Nodup := by
    rw [List.nodup_iff_pairwise_ne, List.pairwise_map]
    refine (List.nodup_iff_pairwise_ne.mp hd).imp_of_mem fun {a b} ha hb hne e => hne ?_
    have := hr a ha
    have := hr b hb
    omega
  have h2 : ∀ y ∈ (l.map fun x => (x + 1).toNat), y ∈ List.range n := fun y hy => by
    obtain ⟨x, hx, rfl⟩ := List.mem_map.mp hy
    have := hr x hx
    rw [List.mem_range]; omega
  have h3 := L2.nat_nodup_len _ (List.range n) h1 h2
  rw [List.length_map, List.length_range] at h3
  exact h3
theorem okCas.len {c : Cas} (h : okCas c) : c.digs.length ≤ 49 := by
  have := nodup_int_len (c.digs.map (·.1)) 49 h.nd (fun x hx => by
    obtain ⟨q, hq, rfl⟩ := List.mem_map.mp hx
    have := h.rg q hq
    omega)
  simpa using this
def digitsAt (c : Cas) (p : Int) : List Dg := match c.digs.find? (fun q => decide (q.1 = p)) with
  | some q => q.2
  | none => every
theorem digitsAt_len {c : Cas} (h : okCas c) (p : Int) : (digitsAt c p).length ≤ 16 := by
  unfold digitsAt
  split
  · rename_i q hq
    exact h.sz q (List.mem_of_find?_eq_some hq)
  · decide
def R_digits_at : RF := fun ds M P => ∃ (c : Cas) (p : Int), ds = [dCas c, .int p] ∧ P (dDgs (digitsAt c p)) M
theorem p_digits_at (ds : List D) (M : Mem) (Q : DK) (h : R_digits_at ds M Q) : t_digits_at (en0 Q) (startD N_digits_at ds) M := by
  obtain ⟨c, p, rfl, q⟩ := h
  unfold t_digits_at dCas
  refine for_go (xs := c.digs) (e := dKey) (fun pre ρ M' => M' = M ∧ (∀ q ∈ pre, q.1 ≠ p) ∧ ∃ x y, ρ = [some (dCas c), some (.int p), x, y]) (fun Q h => by walk_at "dl"; exact h) ⟨rfl, (fun q hq => by cases hq), none, none, rfl⟩ ?_ ?_
  · rintro pre r post hb ρ M' ⟨rfl, hp, x, y, rfl⟩
    unfold dKey
    walk_at "dl"
    rw [dq_int]
    refine ⟨rfl, ?_⟩
    by_cases e : r.1 = p
    · rw [decide_eq_true e]
      have ed : digitsAt c p = r.2 := by
        unfold digitsAt
        rw [hb, List.find?_append, List.find?_eq_none.mpr (fun q hq => by simpa using hp q hq)]
        simp [e]
      rw [ed] at q
      exact q
    · rw [decide_eq_false e]
      refine ⟨fun q hq => ?_, _, _, rfl⟩
      rcases List.mem_append.mp hq with z | z
      · exact hp q z
      · rw [List.mem_singleton.mp z]; exact e
  · rintro ρ M' ⟨rfl, hp, x, y, rfl⟩
    walk_at "dl"
    have ed : digitsAt c p = every := by
      unfold digitsAt
      rw [List.find?_eq_none.mpr (fun q hq => by simpa using hp q hq)]
    rw [ed, ← d_every] at q
    exact q
def withDigits (c : Cas) (p : Int) (ds : List Dg) : Cas := { c with digs := c.digs.filter (fun q => !decide (q.1 = p)) ++ [(p, ds)] }
theorem withDigits_ok {c : Cas} (h : okCas c) {p : Int} (hp : -1 ≤ p ∧ p < 48) {ds : List Dg} (hd : ds.length ≤ 16) : okCas (withDigits c p ds) := by
  refine ⟨?_, fun q hq => ?_, fun q hq => ?_⟩
  · show ((c.digs.filter (fun q => !decide (q.1 = p)) ++ [(p, ds)]).map (·.1)).Nodup
    rw [List.map_append, List.nodup_append]
    refine ⟨(List.filter_sublist.map _).nodup h.nd, by simp, fun a ha b hb e => ?_⟩
    obtain ⟨q, hq, rfl⟩ := List.mem_map.mp ha
    rw [List.mem_filter] at hq
    rw [List.map_cons, List.map_nil, List.mem_singleton] at hb
    rw [hb] at e
    simp [e] at hq
  · rcases List.mem_append.mp hq with z | z
    · exact h.rg q (List.mem_filter.mp z).1
    · rw [List.mem_singleton.mp z]; exact hp
  · rcases List.mem_append.mp hq with z | z
    · exact h.sz q (List.mem_filter.mp z).1
    · rw [List.mem_singleton.mp z]; exact hd
def R_with_digits : RF := fun ds M P => ∃ (c : Cas) (p : Int) (es : List Dg), ds = [dCas c, .int p, dDgs es] ∧ okCas c ∧ P (dCas (withDigits c p es)) M
theorem p_with_digits (ds : List D) (M : Mem) (Q : DK) (h : R_with_digits ds M Q) : t_with_digits (en0 Q) (startD N_with_digits ds) M := by
  obtain ⟨c, p, es, rfl, ok, q⟩ := h
  have hl := ok.len
  unfold t_with_digits
  refine sq (ρ' := [some (dCas c), some (.int p), some (dDgs es), some (.tup ((c.digs.filter (fun q => !decide (q.1 = p))).map dKey)), none]) (M' := M) (fun K k => ?_) ?_
  · unfold dCas at k ⊢
    walk_at "dl"
    refine lc_filter (xs := c.digs) (e := dKey) (fun q => !decide (q.1 = p)) dKey (fun Q h => by walk_at "dl"; exact h) (by omega) (fun t ht K k => ?_) ?_
    · unfold dKey at k ⊢
      walk_at "dl"
      rw [dq_int]
      refine ⟨rfl, ?_⟩
      cases e : decide (t.1 = p) with
      | true => rw [e] at k; exact k
      | false => rw [e] at k; exact k
    · walk_at "dl"
      exact k
  · unfold dCas at q ⊢
    walk_at "dl"
    have h2 : (c.digs.filter (fun q => !decide (q.1 = p))).length ≤ c.digs.length := List.length_filter_le _ _
    refine ⟨by omega, ?_⟩
    unfold withDigits at q
    rw [List.map_append] at q
    exact q
def withoutPlace (c : Cas) (p : Int) : List Cas := if c.lo ≤ p then [{ c with hi := if p < c.hi then p else c.hi }] else []
def R_without_place : RF := fun ds M P => ∃ (c : Cas) (p : Int), ds = [dCas c, .int p] ∧ P (.lst ((withoutPlace c p).map dCas)) M
theorem p_without_place (ds : List D) (M : Mem) (Q : DK) (h : R_without_place ds M Q) : t_without_place (en0 Q) (startD N_without_place ds) M := by
  obtain ⟨c, p, rfl, q⟩ := h
  unfold t_without_place
  unfold dCas
  walk_at "dl"
  unfold withoutPlace at q
  by_cases e : c.lo ≤ p
  · rw [decide_eq_true e]
    rw [if_pos e] at q
    exact q
  · rw [decide_eq_false e]
    rw [if_neg e] at q
    exact q
def withPlace (c : Cas) (p : Int) : List Cas := if p < c.hi then [{ c with lo := if p + 1 > c.lo then p + 1 else c.lo }] else []
def R_with_place : RF := fun ds M P => ∃ (c : Cas) (p : Int), ds = [dCas c, .int p] ∧ P (.lst ((withPlace c p).map dCas)) M
theorem p_with_place (ds : List D) (M : Mem) (Q : DK) (h : R_with_place ds M Q) : t_with_place (en0 Q) (startD N_with_place ds) M := by
  obtain ⟨c, p, rfl, q⟩ := h
  unfold t_with_place
  unfold dCas
  walk_at "dl"
  unfold withPlace at q
  by_cases e : p < c.hi
  · rw [decide_eq_true e]
    rw [if_pos e] at q
    exact q
  · rw [decide_eq_false e]
    rw [if_neg e] at q
    exact q
theorem withoutPlace_ok {c : Cas} (h : okCas c) {p : Int} : ∀ x ∈ withoutPlace c p, okCas x := fun x hx => by
  unfold withoutPlace at hx
  split at hx
  · rw [List.mem_singleton.mp hx]; exact ⟨h.nd, h.rg, h.sz⟩
  · cases hx
theorem withPlace_ok {c : Cas} (h : okCas c) {p : Int} : ∀ x ∈ withPlace c p, okCas x := fun x hx => by
  unfold withPlace at hx
  split at hx
  · rw [List.mem_singleton.mp hx]; exact ⟨h.nd, h.rg, h.sz⟩
  · cases hx
theorem withoutPlace_len (c : Cas) (p : Int) : (withoutPlace c p).length ≤ 1 := by
  unfold withoutPlace; split <;> simp
theorem withPlace_len (c : Cas) (p : Int) : (withPlace c p).length ≤ 1 := by
  unfold withPlace; split <;> simp
end DL
-- part Pl4
set_option Elab.async false
set_option linter.all false
set_option maxRecDepth 100000
set_option maxHeartbeats 1000000
namespace DL
open PySem PySem.Spec PyProof.Rows L2
local macro_rules | `(tactic| walk_at "dl") => `(tactic| simp (config := {decide := false}) only [sNext, sSeq, sDrop, sRet, sIf, sSet, sAsg, sPar, sStore, sNever, xC, xOp, xB, xChain, xUn, yAnd, yOr, yNot, xAnd, xOr, xNot, xIf, aNil, aCons, xTup, xLst, mk, xCB, xIsi, xSl, xJoin, xIndexS, xIndexL, xAppend, xCall, gN, gT, gCons, gNil, yYes, oNone, oSome, iT, iL, iS, xVar, startD, wipeD,
  fI0, fI, fLt, fLe, fGt, fGe, fSub, fMul, fMod, fDiv, fPow, fAnd, fLen, lenD, fNeg, fIs, isNon, fIx, fAdd, fEq, fIn, fMin2, fMax2, fTuple, fList, fAll, fInt, fStrS, fAbs, tyn, res, seqD, lstD,
  ixt0, ixt1, ixt2, ixt3, k_ii, k_ib, k_it, k_tt, k_ss, k_ns, Bool.not_true, Bool.not_false, Option.map_some,
  List.map_cons, List.map_nil, List.length_cons, List.length_nil, List.length_map, List.cons_append, List.nil_append, List.getElem?_cons_zero, List.getElem?_cons_succ, List.set_cons_zero, List.set_cons_succ, List.replicate_succ, List.replicate_zero, Nat.reduceAdd, Nat.reduceSub, Nat.reduceLeDiff, Nat.zero_le, true_and, and_true, Option.bind_some, if_true, if_false, Bool.false_eq_true, reduceIte, decide_true, decide_false, decide_eq_true_eq, imp_self, forall_const])
def dBC (p : Bool × Cas) : D := .tup [.bl p.1, dCas p.2]
theorem eqF_dg (x y : Dg) : eqF (dDg x) (dDg y) = decide (x = y) := by
  revert x y; decide +kernel
theorem inD_dg (x : Dg) (l : List Dg) : inD (dDg x) (l.map dDg) = decide (x ∈ l) := by
  unfold inD
  rw [List.any_map]
  induction l with
  | nil => rfl
  | cons y l ih =>
    rw [List.any_cons, ih]
    show (eqF (dDg y) (dDg x) || _) = _
    rw [eqF_dg]
    by_cases h : y = x
    · simp [h]
    · have h' : ¬ x = y := fun e => h e.symm
      simp [h, h']
theorem flat_dgs (l : List Dg) : (l.map dDg).all flatD = true := by
  rw [List.all_map, List.all_eq_true]
  intro x _; rfl
theorem dq_nil (xs : List D) : deqN 9 (.tup xs) (.tup []) = xs.isEmpty := by cases xs <;> rfl
theorem cq_nil (xs : List D) : cmpN 9 (.tup xs) (.tup []) = true := by cases xs <;> rfl
def goodD (t : Cas) (named : Int) (how : Str) (v : Int) : List Dg := (digitsAt t named).filter fun d => fits (d.val : Int) how v
def badD (t : Cas) (named : Int) (how : Str) (v : Int) : List Dg := (digitsAt t named).filter fun d => !decide (d ∈ goodD t named how v)
def splitDigits (t : Cas) (named : Int) (how : Str) (v : Int) : List (Bool × Cas) :=
  (if (goodD t named how v).isEmpty then [] else [(true, withDigits t named (goodD t named how v))]) ++ (if (badD t named how v).isEmpty then [] else [(false, withDigits t named (badD t named how v))])
def splitPlace (c : Cas) (p : Int) (how : Str) (v : Int) (named : Int) : List (Bool × Cas) := (withoutPlace c p).map (fun x => (false, x)) ++ (withPlace c p).flatMap fun t => splitDigits t named how v
theorem goodD_len {t : Cas} (h : okCas t) (named : Int) (how : Str) (v : Int) : (goodD t named how v).length ≤ 16 := Nat.le_trans (List.length_filter_le _ _) (digitsAt_len h named)
theorem badD_len {t : Cas} (h : okCas t) (named : Int) (how : Str) (v : Int) : (badD t named how v).length ≤ 16 := Nat.le_trans (List.length_filter_le _ _) (digitsAt_len h named)
theorem splitDigits_len (t : Cas) (named : Int) (how : Str) (v : Int) : (splitDigits t named how v).length ≤ 2 := by
  unfold splitDigits
  rw [List.length_append]
  split <;> split <;> simp
theorem splitDigits_ok {t : Cas} (h : okCas t) {named : Int} (hn : -1 ≤ named ∧ named < 48) {how : Str} {v : Int} : ∀ x ∈ splitDigits t named how v, okCas x.2 := fun x hx => by
  unfold splitDigits at hx
  rcases List.mem_append.mp hx with z | z
  · split at z
    · cases z
    · rw [List.mem_singleton.mp z]; exact withDigits_ok h hn (goodD_len h _ _ _)
  · split at z
    · cases z
    · rw [List.mem_singleton.mp z]; exact withDigits_ok h hn (badD_len h _ _ _)
theorem splitPlace_ok {c : Cas} (h : okCas c) {p named : Int} (hn : -1 ≤ named ∧ named < 48) {how : Str} {v : Int} : ∀ x ∈ splitPlace c p how v named, okCas x.2 := fun x hx => by
  unfold splitPlace at hx
  rcases List.mem_append.mp hx with z | z
  · obtain ⟨y, hy, rfl⟩ := List.mem_map.mp z
    exact withoutPlace_ok h y hy
  · obtain ⟨y, hy, hz⟩ := List.mem_flatMap.mp z
    exact splitDigits_ok (withPlace_ok h y hy) hn x hz
theorem splitPlace_len (c : Cas) (p : Int) (how : Str) (v : Int) (named : Int) : (splitPlace c p how v named).length ≤ 3 := by
  unfold splitPlace
  rw [List.length_append, List.length_map]
  have h1 := withoutPlace_len c p
  have h2 := withPlace_len c p
  cases e : withPlace c p with
  | nil => simp; omega
  | cons t l =>
    rw [e, List.length_cons] at h2
    have e2 : l = [] := List.length_eq_zero_iff.mp (by omega)
    rw [e2]
    have h3 := splitDigits_len t named how v
    simp
    omega
def R_split_place : RF := fun ds M P => ∃ (c : Cas) (p : Int) (how : Str) (v named : Int), ds = [dCas c, .int p, .str how, .int v, .int named] ∧ okCas c ∧ (-1 ≤ named ∧ named < 48) ∧ P (.lst ((splitPlace c p how v named).map dBC)) M
theorem p_split_place (ds : List D) (M : Mem) (Q : DK) (h : R_split_place ds M Q) : t_split_place R_without_place R_with_place R_digits_at R_fits R_with_digits (en0 Q) (startD N_split_place ds) M := by
  obtain ⟨c, p, how, v, named, rfl, ok, hn, q⟩ := h
  unfold t_split_place
  refine sq (ρ' := [some (dCas c), some (.int p), some (.str how), some (.int v), some (.int named), some (.lst (((withoutPlace c p).map (fun x => (false, x))).map dBC)), none, none, none, none, none, none]) (M' := M) (fun K k => ?_) ?_
  · walk_at "dl"
    refine lc_map (xs := withoutPlace c p) (e := dCas) (fun x => dBC (false, x)) (fun Q h => ⟨c, p, rfl, h⟩) (by have := withoutPlace_len c p; omega) (fun x hx K k => ?_) ?_
    · unfold dBC at k
      walk_at "dl"
      exact k
    · walk_at "dl"
      rw [List.map_map] at k
      exact k
  refine for_go (xs := withPlace c p) (e := dCas) (fun pre ρ M' => M' = M ∧ ∃ x6 x7 x8 x9 x10 x11, ρ = [some (dCas c), some (.int p), some (.str how), some (.int v), some (.int named), some (.lst (((withoutPlace c p).map (fun x => (false, x)) ++ pre.flatMap fun t => splitDigits t named how v).map dBC)), x6, x7, x8, x9, x10, x11]) (fun Q h => ⟨c, p, rfl, h⟩) ⟨rfl, none, none, none, none, none, none, by simp only [List.flatMap_nil, List.append_nil]⟩ ?_ ?_
  · rintro pre t post hb ρ M' ⟨rfl, x6, x7, x8, x9, x10, x11, rfl⟩
    have okt : okCas t := withPlace_ok ok t (by rw [hb]; simp)
    have hl := withPlace_len c p
    rw [hb, List.length_append, List.length_cons] at hl
    have ep : pre = [] := List.length_eq_zero_iff.mp (by omega)
    subst ep
    have hw := withoutPlace_len c p
    have hd := digitsAt_len okt named
    show sSeq _ _ _ _ _
    refine sq (ρ' := [some (dCas c), some (.int p), some (.str how), some (.int v), some (.int named), some (.lst (((withoutPlace c p).map (fun x => (false, x))).map dBC)), x6, some (dCas t), some (dDgs (digitsAt t named)), x9, x10, x11]) (M' := M') (fun K k => ⟨t, named, rfl, ?_⟩) ?_
    · simp only [List.flatMap_nil, List.append_nil]; exact k
    refine sq (ρ' := [some (dCas c), some (.int p), some (.str how), some (.int v), some (.int named), some (.lst (((withoutPlace c p).map (fun x => (false, x))).map dBC)), x6, some (dCas t), some (dDgs (digitsAt t named)), some (dDgs (goodD t named how v)), x10, x11]) (M' := M') (fun K k => ?_) ?_
    · walk_at "dl"
      refine lc_filter (xs := digitsAt t named) (e := dDg) (fun d => fits (d.val : Int) how v) dDg (fun Q h => h) (by omega) (fun d hd K k => ⟨d.val, how, v, rfl, ?_⟩) k
      cases e : fits (d.val : Int) how v with
      | true => rw [e] at k; exact k
      | false => rw [e] at k; exact k
    refine sq (ρ' := [some (dCas c), some (.int p), some (.str how), some (.int v), some (.int named), some (.lst (((withoutPlace c p).map (fun x => (false, x))).map dBC)), x6, some (dCas t), some (dDgs (digitsAt t named)), some (dDgs (goodD t named how v)), x10, some (dDgs (badD t named how v))]) (M' := M') (fun K k => ?_) ?_
    · walk_at "dl"
      refine lc_filter (xs := digitsAt t named) (e := dDg) (fun d => !decide (d ∈ goodD t named how v)) dDg (fun Q h => h) (by omega) (fun d hd K k => ?_) k
      refine ⟨rfl, flat_dgs _, ?_⟩
      show (match D.bl (!inD (dDg d) ((goodD t named how v).map dDg)) with | .bl b => _ | _ => False)
      rw [inD_dg]
      cases e : decide (d ∈ goodD t named how v) with
      | true => rw [e] at k; exact k
      | false => rw [e] at k; exact k
    have e1 : ∃ base, base = ((withoutPlace c p).map (fun x => (false, x))) ∧ base.length ≤ 1 := ⟨_, rfl, by rw [List.length_map]; exact hw⟩
    obtain ⟨base, eb, hbl⟩ := e1
    rw [← eb]
    refine sq (ρ' := [some (dCas c), some (.int p), some (.str how), some (.int v), some (.int named), some (.lst ((base ++ (if (goodD t named how v).isEmpty then [] else [(true, withDigits t named (goodD t named how v))])).map dBC)), x6, some (dCas t), some (dDgs (digitsAt t named)), some (dDgs (goodD t named how v)), x10, some (dDgs (badD t named how v))]) (M' := M') (fun K k => ?_) ?_
    · cases e : (goodD t named how v).isEmpty with
      | true =>
        rw [e, if_pos rfl, List.append_nil] at k
        refine if_f (M' := M') (fun K k => ⟨Nat.zero_le _, cq_nil _, ?_⟩) k
        show (match D.bl (!deqN 9 (.tup ((goodD t named how v).map dDg)) (.tup [])) with | .bl b => K b M' | _ => False)
        rw [dq_nil, List.isEmpty_map, e]
        exact k
      | false =>
        rw [e, if_neg Bool.false_ne_true] at k
        refine if_t (M' := M') (fun K k => ⟨Nat.zero_le _, cq_nil _, ?_⟩) ⟨t, named, goodD t named how v, rfl, okt, ?_⟩
        · show (match D.bl (!deqN 9 (.tup ((goodD t named how v).map dDg)) (.tup [])) with | .bl b => K b M' | _ => False)
          rw [dq_nil, List.isEmpty_map, e]
          exact k
        · rw [List.map_append] at k
          exact ⟨by show 2 ≤ 16777216; omega, by show 1 ≤ 16777216; omega, by rw [List.length_map]; show base.length + 1 ≤ 16777216; omega, k⟩
    have e2 : ∃ base2, base2 = base ++ (if (goodD t named how v).isEmpty then [] else [(true, withDigits t named (goodD t named how v))]) ∧ base2.length ≤ 2 := ⟨_, rfl, by rw [List.length_append]; split <;> simp <;> omega⟩
    obtain ⟨base2, eb2, hbl2⟩ := e2
    rw [← eb2]
    have efin : (base ++ List.flatMap (fun t => splitDigits t named how v) ([] ++ [t])) = base2 ++ (if (badD t named how v).isEmpty then [] else [(false, withDigits t named (badD t named how v))]) := by
      rw [eb2, List.append_assoc, List.nil_append, List.flatMap_singleton]; rfl
    cases e : (badD t named how v).isEmpty with
    | true =>
      rw [e, if_pos rfl, List.append_nil] at efin
      refine if_f (M' := M') (fun K k => ⟨Nat.zero_le _, cq_nil _, ?_⟩) ⟨rfl, x6, some (dCas t), some (dDgs (digitsAt t named)), some (dDgs (goodD t named how v)), x10, some (dDgs (badD t named how v)), ?_⟩
      · show (match D.bl (!deqN 9 (.tup ((badD t named how v).map dDg)) (.tup [])) with | .bl b => K b M' | _ => False)
        rw [dq_nil, List.isEmpty_map, e]
        exact k
      · rw [efin]
    | false =>
      rw [e, if_neg Bool.false_ne_true] at efin
      refine if_t (M' := M') (fun K k => ⟨Nat.zero_le _, cq_nil _, ?_⟩) ⟨t, named, badD t named how v, rfl, okt, by show 2 ≤ 16777216; omega, by show 1 ≤ 16777216; omega, by rw [List.length_map]; show base2.length + 1 ≤ 16777216; omega, ⟨rfl, x6, some (dCas t), some (dDgs (digitsAt t named)), some (dDgs (goodD t named how v)), x10, some (dDgs (badD t named how v)), ?_⟩⟩
      · show (match D.bl (!deqN 9 (.tup ((badD t named how v).map dDg)) (.tup [])) with | .bl b => K b M' | _ => False)
        rw [dq_nil, List.isEmpty_map, e]
        exact k
      · rw [efin, List.map_append]; rfl
  · rintro ρ M' ⟨rfl, x6, x7, x8, x9, x10, x11, rfl⟩
    exact q
end DL
-- part Pl5
set_option Elab.async false
set_option linter.all false
set_option maxRecDepth 100000
set_option maxHeartbeats 1000000
namespace DL
open PySem PySem.Spec PyProof.Rows L2
local macro_rules | `(tactic| walk_at "dl") => `(tactic| simp (config := {decide := false}) only [sNext, sSeq, sDrop, sRet, sIf, sSet, sAsg, sPar, sStore, sNever, xC, xOp, xB, xChain, xUn, yAnd, yOr, yNot, xAnd, xOr, xNot, xIf, aNil, aCons, xTup, xLst, mk, xCB, xIsi, xSl, xJoin, xIndexS, xIndexL, xAppend, xCall, gN, gT, gCons, gNil, yYes, oNone, oSome, iT, iL, iS, xVar, startD, wipeD,
  fI0, fI, fLt, fLe, fGt, fGe, fSub, fMul, fMod, fDiv, fPow, fAnd, fLen, lenD, fNeg, fIs, isNon, fIx, fAdd, fEq, fIn, fMin2, fMax2, fTuple, fList, fAll, fInt, fStrS, fAbs, tyn, res, seqD, lstD,
  ixt0, ixt1, ixt2, ixt3, k_ii, k_ib, k_it, k_tt, k_ss, k_ns, Bool.not_true, Bool.not_false, Option.map_some,
  List.map_cons, List.map_nil, List.length_cons, List.length_nil, List.length_map, List.cons_append, List.nil_append, List.getElem?_cons_zero, List.getElem?_cons_succ, List.set_cons_zero, List.set_cons_succ, List.replicate_succ, List.replicate_zero, Nat.reduceAdd, Nat.reduceSub, Nat.reduceLeDiff, Nat.zero_le, true_and, and_true, Option.bind_some, if_true, if_false, Bool.false_eq_true, reduceIte, decide_true, decide_false, decide_eq_true_eq, imp_self, forall_const])
def cutAt (cut : Option Int) (p : Int) : Bool := match cut with
  | none => false
  | some k => decide (k ≤ p)
def nameOf (other : Option Int) (p : Int) : Int := match other with
  | none => p
  | some o => if p = o then -1 else p
theorem nameOf_rg {other : Option Int} {p : Int} (h : 0 ≤ p ∧ p < 48) : -1 ≤ nameOf other p ∧ nameOf other p < 48 := by
  unfold nameOf
  split
  · omega
  · split <;> omega
def splitSpot (other cut : Option Int) (how : Str) (v : Int) (s : Cas × Int) : List (Bool × Cas) := if cutAt cut s.2 then [(false, s.1)] else splitPlace s.1 s.2 how v (nameOf other s.2)
theorem splitSpot_len (other cut : Option Int) (how : Str) (v : Int) (s : Cas × Int) : (splitSpot other cut how v s).length ≤ 3 := by
  unfold splitSpot
  split
  · simp
  · exact splitPlace_len _ _ _ _ _
theorem splitSpot_ok {other cut : Option Int} {how : Str} {v : Int} {s : Cas × Int} (h : okCas s.1) (hp : 0 ≤ s.2 ∧ s.2 < 48) : ∀ x ∈ splitSpot other cut how v s, okCas x.2 := fun x hx => by
  unfold splitSpot at hx
  split at hx
  · rw [List.mem_singleton.mp hx]; exact h
  · exact splitPlace_ok h (nameOf_rg hp) x hx
def dSp (s : Cas × Int) : D := .tup [dCas s.1, .int s.2]
def spotsOf (c : Cas) (p a : Int) (named : Int) : List (Cas × Int) := (withPlace c p).flatMap fun t => (digitsAt t named).map fun d => (withDigits t named [d], (d.val : Int) + a)
theorem spotsOf_len {c : Cas} (h : okCas c) (p a named : Int) : (spotsOf c p a named).length ≤ 16 := by
  unfold spotsOf
  have h2 := withPlace_len c p
  cases e : withPlace c p with
  | nil => simp
  | cons t l =>
    rw [e, List.length_cons] at h2
    have e2 : l = [] := List.length_eq_zero_iff.mp (by omega)
    rw [e2, List.flatMap_cons, List.flatMap_nil, List.append_nil, List.length_map]
    exact digitsAt_len (withPlace_ok h t (by rw [e]; simp)) named
theorem spotsOf_ok {c : Cas} (h : okCas c) {p a named : Int} (ha : 0 ≤ a ∧ a ≤ 16) (hn : -1 ≤ named ∧ named < 48) : ∀ s ∈ spotsOf c p a named, okCas s.1 ∧ 0 ≤ s.2 ∧ s.2 < 48 := fun s hs => by
  unfold spotsOf at hs
  obtain ⟨t, ht, hz⟩ := List.mem_flatMap.mp hs
  obtain ⟨d, hd, rfl⟩ := List.mem_map.mp hz
  have := d.isLt
  exact ⟨withDigits_ok (withPlace_ok h t ht) hn (by show 1 ≤ 16; omega), by show 0 ≤ (d.val : Int) + a; omega, by show (d.val : Int) + a < 48; omega⟩
def splitTest (c : Cas) (t : Tst) (other cut : Option Int) : List (Bool × Cas) := match t.w with
  | .pl p => splitSpot other cut t.how t.val (c, p)
  | .ptr p a => if cutAt cut p then [(false, c)] else (withoutPlace c p).map (fun x => (false, x)) ++ (spotsOf c p a (nameOf other p)).flatMap (splitSpot other cut t.how t.val)
theorem splitTest_ok {c : Cas} (h : okCas c) {t : Tst} (ht : okWh t.w) {other cut : Option Int} : ∀ x ∈ splitTest c t other cut, okCas x.2 := fun x hx => by
  unfold splitTest at hx
  cases ew : t.w with
  | pl p =>
    rw [ew] at hx ht
    exact splitSpot_ok h (by have h1 := ht.1; have h2 := ht.2; show 0 ≤ p ∧ p < 48; omega) x hx
  | ptr p a =>
    rw [ew] at hx ht
    obtain ⟨h1, h2⟩ := ht
    have hx : x ∈ (if cutAt cut p then [(false, c)] else (withoutPlace c p).map (fun x => (false, x)) ++ (spotsOf c p a (nameOf other p)).flatMap (splitSpot other cut t.how t.val)) := hx
    split at hx
    · rw [List.mem_singleton.mp hx]; exact h
    · rcases List.mem_append.mp hx with z | z
      · obtain ⟨y, hy, rfl⟩ := List.mem_map.mp z
        exact withoutPlace_ok h y hy
      · obtain ⟨s, hs, hz⟩ := List.mem_flatMap.mp z
        obtain ⟨q1, q2⟩ := spotsOf_ok h h2 (nameOf_rg (other := other) (by omega)) s hs
        exact splitSpot_ok q1 q2 x hz
theorem flatMap_len {α β : Type} (f : α → List β) (k : Nat) (h : ∀ x, (f x).length ≤ k) : ∀ xs : List α, (xs.flatMap f).length ≤ xs.length * k
  | [] => by simp
  | x :: xs => by
    rw [List.flatMap_cons, List.length_append, List.length_cons, Nat.add_mul]
    have := h x
    have := flatMap_len f k h xs
    omega
theorem splitTest_len {c : Cas} (h : okCas c) (t : Tst) (other cut : Option Int) : (splitTest c t other cut).length ≤ 49 := by
  unfold splitTest
  cases ew : t.w with
  | pl p => exact Nat.le_trans (splitSpot_len _ _ _ _ _) (by omega)
  | ptr p a =>
    show (if cutAt cut p then [(false, c)] else (withoutPlace c p).map (fun x => (false, x)) ++ (spotsOf c p a (nameOf other p)).flatMap (splitSpot other cut t.how t.val)).length ≤ 49
    split
    · simp
    · rw [List.length_append, List.length_map]
      have h1 := withoutPlace_len c p
      have h2 := spotsOf_len h p a (nameOf other p)
      have h3 := flatMap_len (splitSpot other cut t.how t.val) 3 (splitSpot_len other cut t.how t.val) (spotsOf c p a (nameOf other p))
      omega
/-! ### the loop over the spots -/
def t_spots (R_split_place : RF) : RS := (sSeq (sFor (iL (xVar 7)) (gT (gCons (gN 12) (gCons (gN 15) gNil))) (sIf (yAnd (xB (xOp (fIs true) (xVar 3) (xC .non))) (xB (xOp fGe (xVar 15) (xVar 3)))) (sSet 8 (xOp fAdd (xVar 8) (xLst false (aCons (xTup (aCons (xC (.bl false)) (aCons (xVar 12) aNil))) aNil)))) (sSet 8 (xOp fAdd (xVar 8) (xCall R_split_place (aCons (xVar 12) (aCons (xVar 15) (aCons (xVar 5) (aCons (xVar 6) (aCons (xIf (xB (xOp (fEq false) (xVar 15) (xVar 2))) (xUn fNeg (xC (.int 1))) (xVar 15)) aNil)))))))))) (sRet (xVar 8)))
theorem cut_test {cut : Option Int} {p : Int} {M : Mem} {K : Bool → Mem → Prop} (h : K (cutAt cut p) M) :
    (match (match dOI cut with | .non => D.bl false | _ => D.bl true) with | .bl true => (match cut with | some k => K (decide (k ≤ p)) M | none => K false M) | .bl false => K false M | _ => False) := by
  cases cut with
  | none => exact h
  | some k => exact h
theorem p_spots {c : Cas} {t : Tst} {w : D} {other cut : Option Int} {spots : List (Cas × Int)} {base : List (Bool × Cas)} {x9 x10 x11 x12 x13 x14 x15 : Option D} {M : Mem} {Q : DK}
    (hs : ∀ s ∈ spots, okCas s.1 ∧ 0 ≤ s.2 ∧ s.2 < 48) (hl : spots.length ≤ 16) (hb : base.length ≤ 1) (q : Q (.lst ((base ++ spots.flatMap (splitSpot other cut t.how t.val)).map dBC)) M) :
    t_spots R_split_place (en0 Q) [some (dCas c), some (dTst t), some (dOI other), some (dOI cut), some w, some (.str t.how), some (.int t.val), some (.lst (spots.map dSp)), some (.lst (base.map dBC)), x9, x10, x11, x12, x13, x14, x15] M := by
  unfold t_spots
  refine for_go (xs := spots) (e := dSp) (fun pre ρ M' => M' = M ∧ ∃ x12 x15, ρ = [some (dCas c), some (dTst t), some (dOI other), some (dOI cut), some w, some (.str t.how), some (.int t.val), some (.lst (spots.map dSp)), some (.lst ((base ++ pre.flatMap (splitSpot other cut t.how t.val)).map dBC)), x9, x10, x11, x12, x13, x14, x15]) (fun Q h => h) ⟨rfl, x12, x15, by rw [List.flatMap_nil, List.append_nil]⟩ ?_ ?_
  · rintro pre s post hsp ρ M' ⟨rfl, y12, y15, rfl⟩
    obtain ⟨ok, hp⟩ := hs s (by rw [hsp]; simp)
    have hpl : pre.length ≤ 16 := by rw [hsp, List.length_append] at hl; omega
    have h3 := flatMap_len (splitSpot other cut t.how t.val) 3 (splitSpot_len other cut t.how t.val) pre
    have hacc : (base ++ pre.flatMap (splitSpot other cut t.how t.val)).length ≤ 49 := by rw [List.length_append]; omega
    have hnew : (base ++ (pre ++ [s]).flatMap (splitSpot other cut t.how t.val)) = (base ++ pre.flatMap (splitSpot other cut t.how t.val)) ++ splitSpot other cut t.how t.val s := by
      rw [List.flatMap_append, List.flatMap_singleton, List.append_assoc]
    obtain ⟨acc, hacc', hal⟩ : ∃ acc, acc = base ++ pre.flatMap (splitSpot other cut t.how t.val) ∧ acc.length ≤ 49 := ⟨_, rfl, hacc⟩
    rw [← hacc'] at hnew ⊢
    simp only [gT, gCons, gNil, gN, dSp, List.set_cons_succ, List.set_cons_zero]
    have ed : (fun s : Cas × Int => D.tup [dCas s.1, .int s.2]) = dSp := rfl
    try rw [ed]
    have ct : ∀ K : Bool → Mem → Prop, K (cutAt cut s.2) M' → (yAnd (xB (xOp (fIs true) (xVar 3) (xC .non))) (xB (xOp fGe (xVar 15) (xVar 3)))) [some (dCas c), some (dTst t), some (dOI other), some (dOI cut), some w, some (.str t.how), some (.int t.val), some (.lst (spots.map dSp)), some (.lst (acc.map dBC)), x9, x10, x11, some (dCas s.1), x13, x14, some (.int s.2)] M' K := fun K k => by
      cases cut with
      | none => exact k
      | some z => exact k
    cases e : cutAt cut s.2 with
    | true =>
      rw [e] at ct
      refine if_t (M' := M') ct ?_
      have es : splitSpot other cut t.how t.val s = [(false, s.1)] := by unfold splitSpot; rw [e]; rfl
      rw [es] at hnew
      exact ⟨by show 2 ≤ 16777216; omega, by show 1 ≤ 16777216; omega, by rw [List.length_map]; show acc.length + 1 ≤ 16777216; omega, rfl, some (dCas s.1), some (.int s.2), by rw [hnew, List.map_append]; rfl⟩
    | false =>
      rw [e] at ct
      refine if_f (M' := M') ct ?_
      have es : splitSpot other cut t.how t.val s = splitPlace s.1 s.2 t.how t.val (nameOf other s.2) := by unfold splitSpot; rw [e]; rfl
      rw [es] at hnew
      have hsl := splitPlace_len s.1 s.2 t.how t.val (nameOf other s.2)
      have fin : R_split_place [dCas s.1, .int s.2, .str t.how, .int t.val, .int (nameOf other s.2)] M' fun d M1 => fAdd (.lst (acc.map dBC)) d M1 fun d M2 => M2 = M' ∧ ∃ x12 x15, [some (dCas c), some (dTst t), some (dOI other), some (dOI cut), some w, some (.str t.how), some (.int t.val), some (.lst (spots.map dSp)), some d, x9, x10, x11, some (dCas s.1), x13, x14, some (.int s.2)] = [some (dCas c), some (dTst t), some (dOI other), some (dOI cut), some w, some (.str t.how), some (.int t.val), some (.lst (spots.map dSp)), some (.lst ((base ++ (pre ++ [s]).flatMap (splitSpot other cut t.how t.val)).map dBC)), x9, x10, x11, x12, x13, x14, x15] :=
        ⟨s.1, s.2, t.how, t.val, nameOf other s.2, rfl, ok, nameOf_rg hp, by rw [List.length_map, List.length_map]; omega, rfl, some (dCas s.1), some (.int s.2), by rw [hnew, List.map_append]⟩
      cases other with
      | none => exact ⟨rfl, fin⟩
      | some o =>
        by_cases eo : s.2 = o
        · have en : nameOf (some o) s.2 = -1 := if_pos eo
          rw [en] at fin
          refine ⟨rfl, ?_⟩
          show (match decide (s.2 = o) with | true => _ | false => _)
          rw [decide_eq_true eo]
          exact fin
        · have en : nameOf (some o) s.2 = s.2 := if_neg eo
          rw [en] at fin
          refine ⟨rfl, ?_⟩
          show (match decide (s.2 = o) with | true => _ | false => _)
          rw [decide_eq_false eo]
          exact fin
  · rintro ρ M' ⟨rfl, y12, y15, rfl⟩
    exact q
end DL
-- part Pl6
set_option Elab.async false
set_option linter.all false
set_option maxRecDepth 100000
set_option maxHeartbeats 1000000
namespace DL
open PySem PySem.Spec PyProof.Rows L2
local macro_rules | `(tactic| walk_at "dl") => `(tactic| simp (config := {decide := false}) only [sNext, sSeq, sDrop, sRet, sIf, sSet, sAsg, sPar, sStore, sNever, xC, xOp, xB, xChain, xUn, yAnd, yOr, yNot, xAnd, xOr, xNot, xIf, aNil, aCons, xTup, xLst, mk, xCB, xIsi, xSl, xJoin, xIndexS, xIndexL, xAppend, xCall, gN, gT, gCons, gNil, yYes, oNone, oSome, iT, iL, iS, xVar, startD, wipeD,
  fI0, fI, fLt, fLe, fGt, fGe, fSub, fMul, fMod, fDiv, fPow, fAnd, fLen, lenD, fNeg, fIs, isNon, fIx, fAdd, fEq, fIn, fMin2, fMax2, fTuple, fList, fAll, fInt, fStrS, fAbs, tyn, res, seqD, lstD,
  ixt0, ixt1, ixt2, ixt3, k_ii, k_ib, k_it, k_tt, k_ss, k_ns, Bool.not_true, Bool.not_false, Option.map_some,
  List.map_cons, List.map_nil, List.length_cons, List.length_nil, List.length_map, List.cons_append, List.nil_append, List.getElem?_cons_zero, List.getElem?_cons_succ, List.set_cons_zero, List.set_cons_succ, List.replicate_succ, List.replicate_zero, Nat.reduceAdd, Nat.reduceSub, Nat.reduceLeDiff, Nat.zero_le, true_and, and_true, Option.bind_some, if_true, if_false, Bool.false_eq_true, reduceIte, decide_true, decide_false, decide_eq_true_eq, imp_self, forall_const])
def R_split_test : RF := fun ds M P => ∃ (c : Cas) (t : Tst) (other cut : Option Int), ds = [dCas c, dTst t, dOI other, dOI cut] ∧ okCas c ∧ okWh t.w ∧ P (.lst ((splitTest c t other cut).map dBC)) M
theorem p_split_test (ds : List D) (M : Mem) (Q : DK) (h : R_split_test ds M Q) : t_split_test R_without_place R_with_place R_digits_at R_with_digits R_split_place (en0 Q) (startD N_split_test ds) M := by
  obtain ⟨c, t, other, cut, rfl, ok, okw, q⟩ := h
  unfold t_split_test
  refine sq (ρ' := [some (dCas c), some (dTst t), some (dOI other), some (dOI cut), some (dWh t.w), some (.str t.how), some (.int t.val), none, none, none, none, none, none, none, none, none]) (M' := M) (fun K k => k) ?_
  refine sq (ρ' := [some (dCas c), some (dTst t), some (dOI other), some (dOI cut), some (dWh t.w), some (.str t.how), some (.int t.val), some (.lst [.tup [dCas c, dWh t.w]]), none, none, none, none, none, none, none, none]) (M' := M) (fun K k => ⟨by show 2 ≤ 16777216; omega, by show 1 ≤ 16777216; omega, k⟩) ?_
  refine sq (ρ' := [some (dCas c), some (dTst t), some (dOI other), some (dOI cut), some (dWh t.w), some (.str t.how), some (.int t.val), some (.lst [.tup [dCas c, dWh t.w]]), some (.lst []), none, none, none, none, none, none, none]) (M' := M) (fun K k => ⟨Nat.zero_le _, k⟩) ?_
  unfold splitTest at q
  cases ew : t.w with
  | pl p =>
    rw [ew] at q okw
    have q : Q (.lst ((splitSpot other cut t.how t.val (c, p)).map dBC)) M := q
    refine sif_f (M' := M) (fun K k => ?_) ?_
    · show (match (tyn (.int p)).bind fun n => kitB n "tuple" with | some b => _ | none => False)
      simp only [tyn, Option.bind_some, k_it]
      exact k
    · refine p_spots (spots := [(c, p)]) (base := []) (fun s hs => ?_) (by show 1 ≤ 16; omega) (Nat.zero_le _) ?_
      · rw [List.mem_singleton.mp hs]
        exact ⟨ok, okw.1, by have := okw.2; show p < 48; omega⟩
      · rw [List.nil_append, List.flatMap_singleton]; exact q
  | ptr p a =>
    rw [ew] at q okw
    have q : Q (.lst ((if cutAt cut p then [(false, c)] else (withoutPlace c p).map (fun x => (false, x)) ++ (spotsOf c p a (nameOf other p)).flatMap (splitSpot other cut t.how t.val)).map dBC)) M := q
    obtain ⟨hp, ha⟩ := okw
    have hp' : 0 ≤ p ∧ p < 48 := by omega
    have hn := nameOf_rg (other := other) hp'
    refine sif_t (M' := M) (fun K k => ?_) ?_
    · show (match (tyn (.tup [.int p, .int a])).bind fun n => kitB n "tuple" with | some b => _ | none => False)
      simp only [tyn, Option.bind_some, k_tt]
      exact k
    refine sq (ρ' := [some (dCas c), some (dTst t), some (dOI other), some (dOI cut), some (dWh (.ptr p a)), some (.str t.how), some (.int t.val), some (.lst [.tup [dCas c, dWh (.ptr p a)]]), some (.lst []), some (.int p), none, none, none, none, none, none]) (M' := M) (fun K k => k) ?_
    refine sq (ρ' := [some (dCas c), some (dTst t), some (dOI other), some (dOI cut), some (dWh (.ptr p a)), some (.str t.how), some (.int t.val), some (.lst [.tup [dCas c, dWh (.ptr p a)]]), some (.lst []), some (.int p), some (.int (nameOf other p)), none, none, none, none, none]) (M' := M) (fun K k => ?_) ?_
    · cases other with
      | none => exact ⟨rfl, k⟩
      | some o =>
        refine ⟨rfl, ?_⟩
        show (match decide (p = o) with | true => _ | false => _)
        by_cases eo : p = o
        · have en : nameOf (some o) p = -1 := if_pos eo
          rw [en] at k
          rw [decide_eq_true eo]; exact k
        · have en : nameOf (some o) p = p := if_neg eo
          rw [en] at k
          rw [decide_eq_false eo]; exact k
    have ct : ∀ K : Bool → Mem → Prop, K (cutAt cut p) M → (yAnd (xB (xOp (fIs true) (xVar 3) (xC .non))) (xB (xOp fGe (xVar 9) (xVar 3)))) [some (dCas c), some (dTst t), some (dOI other), some (dOI cut), some (dWh (.ptr p a)), some (.str t.how), some (.int t.val), some (.lst [.tup [dCas c, dWh (.ptr p a)]]), some (.lst []), some (.int p), some (.int (nameOf other p)), none, none, none, none, none] M K := fun K k => by
      cases cut with
      | none => exact k
      | some z => exact k
    cases e : cutAt cut p with
    | true =>
      rw [e] at ct q
      exact sif_t (M' := M) ct ⟨by show 2 ≤ 16777216; omega, by show 1 ≤ 16777216; omega, q⟩
    | false =>
      rw [e] at ct q
      refine sif_f (M' := M) ct ?_
      rw [if_neg Bool.false_ne_true] at q
      refine sq (ρ' := [some (dCas c), some (dTst t), some (dOI other), some (dOI cut), some (dWh (.ptr p a)), some (.str t.how), some (.int t.val), some (.lst [.tup [dCas c, dWh (.ptr p a)]]), some (.lst (((withoutPlace c p).map (fun x => (false, x))).map dBC)), some (.int p), some (.int (nameOf other p)), none, none, none, none, none]) (M' := M) (fun K k => ?_) ?_
      · refine lc_map (xs := withoutPlace c p) (e := dCas) (fun x => dBC (false, x)) (fun Q h => ⟨c, p, rfl, h⟩) (by have := withoutPlace_len c p; omega) (fun x hx K k => ⟨by show 2 ≤ 16777216; omega, k⟩) ?_
        rw [List.map_map] at k
        exact k
      refine sq (ρ' := [some (dCas c), some (dTst t), some (dOI other), some (dOI cut), some (dWh (.ptr p a)), some (.str t.how), some (.int t.val), some (.lst []), some (.lst (((withoutPlace c p).map (fun x => (false, x))).map dBC)), some (.int p), some (.int (nameOf other p)), none, none, none, none, none]) (M' := M) (fun K k => ⟨Nat.zero_le _, k⟩) ?_
      refine for_go (xs := withPlace c p) (e := dCas) (fun pre ρ M' => M' = M ∧ ∃ x12 x13, ρ = [some (dCas c), some (dTst t), some (dOI other), some (dOI cut), some (dWh (.ptr p a)), some (.str t.how), some (.int t.val), some (.lst ((pre.flatMap fun t => (digitsAt t (nameOf other p)).map fun d => (withDigits t (nameOf other p) [d], (d.val : Int) + a)).map dSp)), some (.lst (((withoutPlace c p).map (fun x => (false, x))).map dBC)), some (.int p), some (.int (nameOf other p)), none, x12, x13, none, none]) (fun Q h => ⟨c, p, rfl, h⟩) ⟨rfl, none, none, rfl⟩ ?_ ?_
      · rintro pre u post hb ρ M' ⟨rfl, x12, x13, rfl⟩
        have oku : okCas u := withPlace_ok ok u (by rw [hb]; simp)
        have hl := withPlace_len c p
        rw [hb, List.length_append, List.length_cons] at hl
        have ep : pre = [] := List.length_eq_zero_iff.mp (by omega)
        subst ep
        have hd := digitsAt_len oku (nameOf other p)
        refine sq (ρ' := [some (dCas c), some (dTst t), some (dOI other), some (dOI cut), some (dWh (.ptr p a)), some (.str t.how), some (.int t.val), some (.lst []), some (.lst (((withoutPlace c p).map (fun x => (false, x))).map dBC)), some (.int p), some (.int (nameOf other p)), none, some (dCas u), some (dDgs (digitsAt u (nameOf other p))), none, none]) (M' := M') (fun K k => ⟨u, nameOf other p, rfl, k⟩) ?_
        simp only [sSet, xOp, xVar, List.getElem?_cons_succ, List.getElem?_cons_zero]
        refine lc_map (xs := digitsAt u (nameOf other p)) (e := dDg) (fun d => dSp (withDigits u (nameOf other p) [d], (d.val : Int) + a)) (fun Q h => h) (by omega) (fun d hd K k => ⟨by show 1 ≤ 16777216; omega, u, nameOf other p, [d], rfl, oku, by show 2 ≤ 16777216; omega, k⟩) ?_
        refine ⟨by show 0 + (List.map _ _).length ≤ 16777216; rw [List.length_map]; omega, rfl, some (dCas u), some (dDgs (digitsAt u (nameOf other p))), ?_⟩
        have e1 : ([] ++ [u] : List Cas) = [u] := rfl
        have e2 : ((digitsAt u (nameOf other p)).map fun d => (withDigits u (nameOf other p) [d], (d.val : Int) + a)).map dSp = (digitsAt u (nameOf other p)).map fun d => dSp (withDigits u (nameOf other p) [d], (d.val : Int) + a) := by rw [List.map_map]; rfl
        rw [e1, List.flatMap_singleton, e2]
        rfl
      · rintro ρ M' ⟨rfl, x12, x13, rfl⟩
        exact p_spots (spots := spotsOf c p a (nameOf other p)) (base := (withoutPlace c p).map (fun x => (false, x))) (spotsOf_ok ok ha hn) (spotsOf_len ok _ _ _) (by rw [List.length_map]; exact withoutPlace_len c p) q
end DL
-- part Pl7
set_option Elab.async false
set_option linter.all false
set_option maxRecDepth 100000
set_option maxHeartbeats 1000000
namespace DL
open PySem PySem.Spec PyProof.Rows L2
local macro_rules | `(tactic| walk_at "dl") => `(tactic| simp (config := {decide := false}) only [sNext, sSeq, sDrop, sRet, sIf, sSet, sAsg, sPar, sStore, sNever, xC, xOp, xB, xChain, xUn, yAnd, yOr, yNot, xAnd, xOr, xNot, xIf, aNil, aCons, xTup, xLst, mk, xCB, xIsi, xSl, xJoin, xIndexS, xIndexL, xAppend, xCall, gN, gT, gCons, gNil, yYes, oNone, oSome, iT, iL, iS, xVar, startD, wipeD,
  fI0, fI, fLt, fLe, fGt, fGe, fSub, fMul, fMod, fDiv, fPow, fAnd, fLen, lenD, fNeg, fIs, isNon, fIx, fAdd, fEq, fIn, fMin2, fMax2, fTuple, fList, fAll, fInt, fStrS, fAbs, tyn, res, seqD, lstD,
  ixt0, ixt1, ixt2, ixt3, k_ii, k_ib, k_it, k_tt, k_ss, k_ns, Bool.not_true, Bool.not_false, Option.map_some,
  List.map_cons, List.map_nil, List.length_cons, List.length_nil, List.length_map, List.cons_append, List.nil_append, List.getElem?_cons_zero, List.getElem?_cons_succ, List.set_cons_zero, List.set_cons_succ, List.replicate_succ, List.replicate_zero, Nat.reduceAdd, Nat.reduceSub, Nat.reduceLeDiff, Nat.zero_le, true_and, and_true, Option.bind_some, if_true, if_false, Bool.false_eq_true, reduceIte, decide_true, decide_false, decide_eq_true_eq, imp_self, forall_const])
def gW : Wh → Nat
  | .pl _ => 1
  | .ptr _ _ => 16
def bW : Wh → Nat
  | .pl _ => 2
  | .ptr _ _ => 33
def passed (l : List (Bool × Cas)) : List Cas := (l.filter (·.1)).map (·.2)
def failed (l : List (Bool × Cas)) : List Cas := (l.filter (!·.1)).map (·.2)
theorem passed_app (a b : List (Bool × Cas)) : passed (a ++ b) = passed a ++ passed b := by unfold passed; rw [List.filter_append, List.map_append]
theorem failed_app (a b : List (Bool × Cas)) : failed (a ++ b) = failed a ++ failed b := by unfold failed; rw [List.filter_append, List.map_append]
theorem passed_flat {α : Type} (f : α → List (Bool × Cas)) : ∀ xs : List α, passed (xs.flatMap f) = xs.flatMap fun x => passed (f x)
  | [] => rfl
  | x :: xs => by rw [List.flatMap_cons, passed_app, passed_flat f xs, List.flatMap_cons]
theorem failed_flat {α : Type} (f : α → List (Bool × Cas)) : ∀ xs : List α, failed (xs.flatMap f) = xs.flatMap fun x => failed (f x)
  | [] => rfl
  | x :: xs => by rw [List.flatMap_cons, failed_app, failed_flat f xs, List.flatMap_cons]
theorem passed_falses (xs : List Cas) : passed (xs.map fun x => (false, x)) = [] := by
  induction xs with
  | nil => rfl
  | cons x xs ih => exact ih
theorem failed_falses (xs : List Cas) : failed (xs.map fun x => (false, x)) = xs := by
  induction xs with
  | nil => rfl
  | cons x xs ih =>
    show x :: failed (xs.map fun x => (false, x)) = _
    rw [ih]
theorem splitDigits_p (t : Cas) (named : Int) (how : Str) (v : Int) : (passed (splitDigits t named how v)).length ≤ 1 ∧ (failed (splitDigits t named how v)).length ≤ 1 := by
  unfold splitDigits
  rw [passed_app, failed_app]
  split <;> split <;> (constructor <;> (show (_ : Nat) ≤ 1; simp [passed, failed]))
theorem splitPlace_p (c : Cas) (p : Int) (how : Str) (v : Int) (named : Int) : (passed (splitPlace c p how v named)).length ≤ 1 ∧ (failed (splitPlace c p how v named)).length ≤ 2 := by
  unfold splitPlace
  rw [passed_app, failed_app, passed_falses, failed_falses, passed_flat, failed_flat]
  have h1 := withoutPlace_len c p
  have h2 := withPlace_len c p
  cases e : withPlace c p with
  | nil => simp; omega
  | cons t l =>
    rw [e, List.length_cons] at h2
    have e2 : l = [] := List.length_eq_zero_iff.mp (by omega)
    rw [e2]
    have h3 := splitDigits_p t named how v
    simp only [List.flatMap_cons, List.flatMap_nil, List.append_nil, List.nil_append, List.length_append]
    omega
theorem splitSpot_p (other cut : Option Int) (how : Str) (v : Int) (s : Cas × Int) : (passed (splitSpot other cut how v s)).length ≤ 1 ∧ (failed (splitSpot other cut how v s)).length ≤ 2 := by
  unfold splitSpot
  split
  · exact ⟨by show 0 ≤ 1; omega, by show 1 ≤ 2; omega⟩
  · exact splitPlace_p _ _ _ _ _
theorem splitTest_p {c : Cas} (h : okCas c) (t : Tst) (other cut : Option Int) : (passed (splitTest c t other cut)).length ≤ gW t.w ∧ (failed (splitTest c t other cut)).length ≤ bW t.w := by
  unfold splitTest
  cases ew : t.w with
  | pl p => exact splitSpot_p _ _ _ _ _
  | ptr p a =>
    show (passed (if cutAt cut p then [(false, c)] else (withoutPlace c p).map (fun x => (false, x)) ++ (spotsOf c p a (nameOf other p)).flatMap (splitSpot other cut t.how t.val))).length ≤ 16 ∧ (failed (if cutAt cut p then [(false, c)] else (withoutPlace c p).map (fun x => (false, x)) ++ (spotsOf c p a (nameOf other p)).flatMap (splitSpot other cut t.how t.val))).length ≤ 33
    split
    · exact ⟨by show 0 ≤ 16; omega, by show 1 ≤ 33; omega⟩
    · rw [passed_app, failed_app, passed_falses, failed_falses, passed_flat, failed_flat]
      have h1 := withoutPlace_len c p
      have h2 := spotsOf_len h p a (nameOf other p)
      have h3 := flatMap_len (fun s => passed (splitSpot other cut t.how t.val s)) 1 (fun s => (splitSpot_p other cut t.how t.val s).1) (spotsOf c p a (nameOf other p))
      have h4 := flatMap_len (fun s => failed (splitSpot other cut t.how t.val s)) 2 (fun s => (splitSpot_p other cut t.how t.val s).2) (spotsOf c p a (nameOf other p))
      rw [List.nil_append, List.length_append]
      omega
def stepTest (other cut : Option Int) (s : List Cas × List Cas) (t : Tst) : List Cas × List Cas :=
  (s.1.flatMap fun c => passed (splitTest c t other cut), s.2 ++ s.1.flatMap fun c => failed (splitTest c t other cut))
def splitAll (cases : List Cas) (tests : List Tst) (other cut : Option Int) : List Cas × List Cas := tests.foldl (stepTest other cut) (cases, [])
def goodB : List Tst → Nat → Nat
  | [], n => n
  | t :: ts, n => goodB ts (n * gW t.w)
def badB : List Tst → Nat → Nat
  | [], _ => 0
  | t :: ts, n => n * bW t.w + badB ts (n * gW t.w)
theorem goodB_app : ∀ (a b : List Tst) (n : Nat), goodB (a ++ b) n = goodB b (goodB a n)
  | [], _, _ => rfl
  | t :: a, b, n => goodB_app a b (n * gW t.w)
theorem badB_app : ∀ (a b : List Tst) (n : Nat), badB (a ++ b) n = badB a n + badB b (goodB a n)
  | [], b, n => (Nat.zero_add _).symm
  | t :: a, b, n => by
    show n * bW t.w + badB (a ++ b) (n * gW t.w) = n * bW t.w + badB a (n * gW t.w) + _
    rw [badB_app a b, Nat.add_assoc]
    rfl
theorem gW_pos (w : Wh) : 1 ≤ gW w := by cases w <;> (simp only [gW]; omega)
theorem goodB_ge : ∀ (a : List Tst) (n : Nat), n ≤ goodB a n
  | [], n => Nat.le_refl n
  | t :: a, n => Nat.le_trans (Nat.le_mul_of_pos_right n (gW_pos t.w)) (goodB_ge a _)
theorem flatMap_lenM {α β : Type} (f : α → List β) (k : Nat) : ∀ xs : List α, (∀ x ∈ xs, (f x).length ≤ k) → (xs.flatMap f).length ≤ xs.length * k
  | [], _ => by simp
  | x :: xs, h => by
    rw [List.flatMap_cons, List.length_append, List.length_cons, Nat.add_mul]
    have := h x List.mem_cons_self
    have := flatMap_lenM f k xs fun y hy => h y (List.mem_cons_of_mem _ hy)
    omega
theorem passed_ok {l : List (Bool × Cas)} (h : ∀ x ∈ l, okCas x.2) : ∀ c ∈ passed l, okCas c := fun c hc => by
  obtain ⟨x, hx, rfl⟩ := List.mem_map.mp hc
  exact h x (List.mem_filter.mp hx).1
theorem failed_ok {l : List (Bool × Cas)} (h : ∀ x ∈ l, okCas x.2) : ∀ c ∈ failed l, okCas c := fun c hc => by
  obtain ⟨x, hx, rfl⟩ := List.mem_map.mp hc
  exact h x (List.mem_filter.mp hx).1
theorem splitAll_snoc (cases : List Cas) (pre : List Tst) (t : Tst) (other cut : Option Int) : splitAll cases (pre ++ [t]) other cut = stepTest other cut (splitAll cases pre other cut) t := by
  unfold splitAll; rw [List.foldl_append]; rfl
theorem step_facts {s : List Cas × List Cas} (h1 : ∀ c ∈ s.1, okCas c) (h2 : ∀ c ∈ s.2, okCas c) {t : Tst} (ht : okWh t.w) (other cut : Option Int) :
    (∀ c ∈ (stepTest other cut s t).1, okCas c) ∧ (∀ c ∈ (stepTest other cut s t).2, okCas c) ∧ (stepTest other cut s t).1.length ≤ s.1.length * gW t.w ∧ (stepTest other cut s t).2.length ≤ s.2.length + s.1.length * bW t.w := by
  refine ⟨fun c hc => ?_, fun c hc => ?_, ?_, ?_⟩
  · obtain ⟨x, hx, hz⟩ := List.mem_flatMap.mp hc
    exact passed_ok (splitTest_ok (h1 x hx) ht) c hz
  · rcases List.mem_append.mp hc with z | z
    · exact h2 c z
    · obtain ⟨x, hx, hz⟩ := List.mem_flatMap.mp z
      exact failed_ok (splitTest_ok (h1 x hx) ht) c hz
  · exact flatMap_lenM _ _ _ fun x hx => (splitTest_p (h1 x hx) t other cut).1
  · show (s.2 ++ _).length ≤ _
    rw [List.length_append]
    exact Nat.add_le_add_left (flatMap_lenM _ _ _ fun x hx => (splitTest_p (h1 x hx) t other cut).2) _
theorem fold_facts (other cut : Option Int) : ∀ (ts : List Tst) (s : List Cas × List Cas), (∀ c ∈ s.1, okCas c) → (∀ c ∈ s.2, okCas c) → (∀ t ∈ ts, okWh t.w) → ∀ n m, s.1.length ≤ n → s.2.length ≤ m →
    (∀ c ∈ (ts.foldl (stepTest other cut) s).1, okCas c) ∧ (∀ c ∈ (ts.foldl (stepTest other cut) s).2, okCas c) ∧ (ts.foldl (stepTest other cut) s).1.length ≤ goodB ts n ∧ (ts.foldl (stepTest other cut) s).2.length ≤ m + badB ts n
  | [], s, h1, h2, _, n, m, hn, hm => ⟨h1, h2, hn, hm⟩
  | t :: ts, s, h1, h2, ht, n, m, hn, hm => by
    obtain ⟨a1, a2, a3, a4⟩ := step_facts h1 h2 (ht t List.mem_cons_self) other cut
    have b1 : s.1.length * gW t.w ≤ n * gW t.w := Nat.mul_le_mul_right _ hn
    have b2 : s.1.length * bW t.w ≤ n * bW t.w := Nat.mul_le_mul_right _ hn
    obtain ⟨c1, c2, c3, c4⟩ := fold_facts other cut ts (stepTest other cut s t) a1 a2 (fun u hu => ht u (List.mem_cons_of_mem _ hu)) (n * gW t.w) (m + n * bW t.w) (by omega) (by omega)
    exact ⟨c1, c2, c3, by show _ ≤ m + (n * bW t.w + badB ts (n * gW t.w)); rw [← Nat.add_assoc]; exact c4⟩
theorem splitAll_facts {cases : List Cas} (h1 : ∀ c ∈ cases, okCas c) {tests : List Tst} (ht : ∀ t ∈ tests, okWh t.w) (other cut : Option Int) :
    (∀ c ∈ (splitAll cases tests other cut).1, okCas c) ∧ (∀ c ∈ (splitAll cases tests other cut).2, okCas c) ∧ (splitAll cases tests other cut).1.length ≤ goodB tests cases.length ∧ (splitAll cases tests other cut).2.length ≤ badB tests cases.length := by
  have := fold_facts other cut tests (cases, []) h1 (fun c hc => by cases hc) ht cases.length 0 (Nat.le_refl _) (Nat.le_refl _)
  rw [Nat.zero_add] at this
  exact this
end DL
-- part Pl8
set_option Elab.async false
set_option linter.all false
set_option maxRecDepth 100000
set_option maxHeartbeats 1000000
namespace DL
open PySem PySem.Spec PyProof.Rows L2
local macro_rules | `(tactic| walk_at "dl") => `(tactic| simp (config := {decide := false}) only [sNext, sSeq, sDrop, sRet, sIf, sSet, sAsg, sPar, sStore, sNever, xC, xOp, xB, xChain, xUn, yAnd, yOr, yNot, xAnd, xOr, xNot, xIf, aNil, aCons, xTup, xLst, mk, xCB, xIsi, xSl, xJoin, xIndexS, xIndexL, xAppend, xCall, gN, gT, gCons, gNil, yYes, oNone, oSome, iT, iL, iS, xVar, startD, wipeD,
  fI0, fI, fLt, fLe, fGt, fGe, fSub, fMul, fMod, fDiv, fPow, fAnd, fLen, lenD, fNeg, fIs, isNon, fIx, fAdd, fEq, fIn, fMin2, fMax2, fTuple, fList, fAll, fInt, fStrS, fAbs, tyn, res, seqD, lstD,
  ixt0, ixt1, ixt2, ixt3, k_ii, k_ib, k_it, k_tt, k_ss, k_ns, Bool.not_true, Bool.not_false, Option.map_some,
  List.map_cons, List.map_nil, List.length_cons, List.length_nil, List.length_map, List.cons_append, List.nil_append, List.getElem?_cons_zero, List.getElem?_cons_succ, List.set_cons_zero, List.set_cons_succ, List.replicate_succ, List.replicate_zero, Nat.reduceAdd, Nat.reduceSub, Nat.reduceLeDiff, Nat.zero_le, true_and, and_true, Option.bind_some, if_true, if_false, Bool.false_eq_true, reduceIte, decide_true, decide_false, decide_eq_true_eq, imp_self, forall_const])
def dTests (ts : List Tst) : D := .tup (ts.map dTst)
def R_split_all : RF := fun ds M P => ∃ (cases : List Cas) (tests : List Tst) (other cut : Option Int), ds = [.lst (cases.map dCas), .tup (tests.map dTst), dOI other, dOI cut] ∧ (∀ c ∈ cases, okCas c) ∧ (∀ t ∈ tests, okWh t.w) ∧
  goodB tests cases.length ≤ 16777216 ∧ badB tests cases.length ≤ 16777216 ∧ P (.tup [.lst ((splitAll cases tests other cut).1.map dCas), .lst ((splitAll cases tests other cut).2.map dCas)]) M
theorem lc_passed {l : List (Bool × Cas)} {ρ : DEnv} {M : Mem} {P : DK} {A : List (Option D)} {x10 x11 : Option D} (hA : A.length = 10) (h9 : A[9]? = some (some (.lst (l.map dBC)))) (hl : l.length ≤ 49) (h : P (.lst ((passed l).map dCas)) M) :
    xLc false (iL (xVar 9)) (gT (gCons (gN 10) (gCons (gN 11) gNil))) (xB (xVar 10)) (xVar 11) [10, 11] (A ++ [x10, x11]) M P := by
  match A, hA with
  | [a0, a1, a2, a3, a4, a5, a6, a7, a8, a9], _ =>
    have h9 : a9 = some (.lst (l.map dBC)) := Option.some.inj h9
    subst h9
    refine lc_filter (xs := l) (e := dBC) (·.1) (fun x => dCas x.2) (fun Q h => h) (by omega) (fun x hx K k => ?_) ?_
    · obtain ⟨b, c⟩ := x
      cases b <;> exact k
    · unfold passed at h
      rw [List.map_map] at h
      exact h
theorem lc_failed {l : List (Bool × Cas)} {ρ : DEnv} {M : Mem} {P : DK} {A : List (Option D)} {x10 x11 : Option D} (hA : A.length = 10) (h9 : A[9]? = some (some (.lst (l.map dBC)))) (hl : l.length ≤ 49) (h : P (.lst ((failed l).map dCas)) M) :
    xLc false (iL (xVar 9)) (gT (gCons (gN 10) (gCons (gN 11) gNil))) (yNot (xB (xVar 10))) (xVar 11) [10, 11] (A ++ [x10, x11]) M P := by
  match A, hA with
  | [a0, a1, a2, a3, a4, a5, a6, a7, a8, a9], _ =>
    have h9 : a9 = some (.lst (l.map dBC)) := Option.some.inj h9
    subst h9
    refine lc_filter (xs := l) (e := dBC) (!·.1) (fun x => dCas x.2) (fun Q h => h) (by omega) (fun x hx K k => ?_) ?_
    · obtain ⟨b, c⟩ := x
      cases b <;> exact k
    · unfold failed at h
      rw [List.map_map] at h
      exact h
theorem p_split_all (ds : List D) (M : Mem) (Q : DK) (h : R_split_all ds M Q) : t_split_all R_split_test (en0 Q) (startD N_split_all ds) M := by
  obtain ⟨cases, tests, other, cut, rfl, ok, okt, hg, hb, q⟩ := h
  have hcl : cases.length ≤ 16777216 := Nat.le_trans (goodB_ge tests _) hg
  unfold t_split_all
  refine sq (ρ' := [some (.lst (cases.map dCas)), some (dTests tests), some (dOI other), some (dOI cut), some (.lst (cases.map dCas)), some (.lst []), none, none, none, none, none, none]) (M' := M) (fun K k => ⟨Nat.zero_le _, k⟩) ?_
  refine for_go (xs := tests) (e := dTst) (fun pre ρ M' => M' = M ∧ ∃ x6 x7 x8 x9 x10 x11, ρ = [some (.lst (cases.map dCas)), some (dTests tests), some (dOI other), some (dOI cut), some (.lst ((splitAll cases pre other cut).1.map dCas)), some (.lst ((splitAll cases pre other cut).2.map dCas)), x6, x7, x8, x9, x10, x11]) (fun Q h => h) ⟨rfl, none, none, none, none, none, none, rfl⟩ ?_ ?_
  · rintro pre t post hts ρ M' ⟨rfl, x6, x7, x8, x9, x10, x11, rfl⟩
    have okpre : ∀ u ∈ pre, okWh u.w := fun u hu => okt u (by rw [hts]; simp [hu])
    have okt' : okWh t.w := okt t (by rw [hts]; simp)
    obtain ⟨f1, f2, f3, f4⟩ := splitAll_facts ok okpre other cut
    have g1 : goodB pre cases.length * gW t.w ≤ 16777216 := by
      rw [hts, goodB_app] at hg
      exact Nat.le_trans (goodB_ge post _) hg
    have g2 : badB pre cases.length + goodB pre cases.length * bW t.w ≤ 16777216 := by
      rw [hts, badB_app] at hb
      have : badB (t :: post) (goodB pre cases.length) = goodB pre cases.length * bW t.w + badB post (goodB pre cases.length * gW t.w) := rfl
      omega
    rw [splitAll_snoc]
    obtain ⟨s, hs⟩ : ∃ s, s = splitAll cases pre other cut := ⟨_, rfl⟩
    rw [← hs] at f1 f2 f3 f4 ⊢
    have m1 : s.1.length * gW t.w ≤ 16777216 := Nat.le_trans (Nat.mul_le_mul_right _ f3) g1
    have m2 : s.2.length + s.1.length * bW t.w ≤ 16777216 := by
      have := Nat.mul_le_mul_right (bW t.w) f3
      omega
    refine sq (ρ' := [some (.lst (cases.map dCas)), some (dTests tests), some (dOI other), some (dOI cut), some (.lst (s.1.map dCas)), some (.lst (s.2.map dCas)), some (dTst t), some (.lst []), x8, x9, x10, x11]) (M' := M') (fun K k => ⟨Nat.zero_le _, k⟩) ?_
    refine for_go (xs := s.1) (e := dCas) (fun ip ρ M2 => M2 = M' ∧ ∃ x8 x9 x10 x11, ρ = [some (.lst (cases.map dCas)), some (dTests tests), some (dOI other), some (dOI cut), some (.lst (s.1.map dCas)), some (.lst ((s.2 ++ ip.flatMap fun c => failed (splitTest c t other cut)).map dCas)), some (dTst t), some (.lst ((ip.flatMap fun c => passed (splitTest c t other cut)).map dCas)), x8, x9, x10, x11]) (fun Q h => h) ⟨rfl, x8, x9, x10, x11, by rw [List.flatMap_nil, List.append_nil, List.flatMap_nil]; rfl⟩ ?_ ?_
    · rintro ip c ipost his ρ M2 ⟨rfl, y8, y9, y10, y11, rfl⟩
      have okc : okCas c := f1 c (by rw [his]; simp)
      have okip : ∀ x ∈ ip, okCas x := fun x hx => f1 x (by rw [his]; simp [hx])
      have hil : ip.length + 1 ≤ s.1.length := by rw [his, List.length_append, List.length_cons]; omega
      have b1 := flatMap_lenM (fun c => passed (splitTest c t other cut)) (gW t.w) ip fun x hx => (splitTest_p (okip x hx) t other cut).1
      have b2 := flatMap_lenM (fun c => failed (splitTest c t other cut)) (bW t.w) ip fun x hx => (splitTest_p (okip x hx) t other cut).2
      have b3 := splitTest_p okc t other cut
      have b4 : (ip.length + 1) * gW t.w ≤ s.1.length * gW t.w := Nat.mul_le_mul_right _ hil
      have b5 : (ip.length + 1) * bW t.w ≤ s.1.length * bW t.w := Nat.mul_le_mul_right _ hil
      rw [Nat.add_mul, Nat.one_mul] at b4 b5
      have hl49 := splitTest_len okc t other cut
      have e1 : ((ip ++ [c]).flatMap fun c => passed (splitTest c t other cut)) = (ip.flatMap fun c => passed (splitTest c t other cut)) ++ passed (splitTest c t other cut) := by rw [List.flatMap_append, List.flatMap_singleton]
      have e2 : (s.2 ++ (ip ++ [c]).flatMap fun c => failed (splitTest c t other cut)) = (s.2 ++ ip.flatMap fun c => failed (splitTest c t other cut)) ++ failed (splitTest c t other cut) := by rw [List.flatMap_append, List.flatMap_singleton, List.append_assoc]
      rw [e1, e2]
      obtain ⟨nx, hnx⟩ : ∃ nx, nx = (ip.flatMap fun c => passed (splitTest c t other cut)) := ⟨_, rfl⟩
      obtain ⟨bd, hbd⟩ : ∃ bd, bd = (s.2 ++ ip.flatMap fun c => failed (splitTest c t other cut)) := ⟨_, rfl⟩
      have lnx : nx.length + (passed (splitTest c t other cut)).length ≤ 16777216 := by rw [hnx]; omega
      have lbd : bd.length + (failed (splitTest c t other cut)).length ≤ 16777216 := by rw [hbd, List.length_append]; omega
      rw [← hnx, ← hbd]
      refine sq (ρ' := [some (.lst (cases.map dCas)), some (dTests tests), some (dOI other), some (dOI cut), some (.lst (s.1.map dCas)), some (.lst (bd.map dCas)), some (dTst t), some (.lst (nx.map dCas)), some (dCas c), some (.lst ((splitTest c t other cut).map dBC)), y10, y11]) (M' := M2) (fun K k => ⟨c, t, other, cut, rfl, okc, okt', k⟩) ?_
      refine sq (ρ' := [some (.lst (cases.map dCas)), some (dTests tests), some (dOI other), some (dOI cut), some (.lst (s.1.map dCas)), some (.lst (bd.map dCas)), some (dTst t), some (.lst ((nx ++ passed (splitTest c t other cut)).map dCas)), some (dCas c), some (.lst ((splitTest c t other cut).map dBC)), y10, y11]) (M' := M2) (fun K k => ?_) ?_
      · refine lc_passed (ρ := []) (A := [some (.lst (cases.map dCas)), some (dTests tests), some (dOI other), some (dOI cut), some (.lst (s.1.map dCas)), some (.lst (bd.map dCas)), some (dTst t), some (.lst (nx.map dCas)), some (dCas c), some (.lst ((splitTest c t other cut).map dBC))]) rfl rfl hl49 ?_
        rw [List.map_append] at k
        exact ⟨by rw [List.length_map, List.length_map]; exact lnx, k⟩
      · refine lc_failed (ρ := []) (A := [some (.lst (cases.map dCas)), some (dTests tests), some (dOI other), some (dOI cut), some (.lst (s.1.map dCas)), some (.lst (bd.map dCas)), some (dTst t), some (.lst ((nx ++ passed (splitTest c t other cut)).map dCas)), some (dCas c), some (.lst ((splitTest c t other cut).map dBC))]) rfl rfl hl49 ?_
        refine ⟨by rw [List.length_map, List.length_map]; exact lbd, rfl, some (dCas c), some (.lst ((splitTest c t other cut).map dBC)), y10, y11, ?_⟩
        have e3 : (bd ++ failed (splitTest c t other cut)).map dCas = bd.map dCas ++ (failed (splitTest c t other cut)).map dCas := List.map_append
        rw [e3]; rfl
    · rintro ρ M2 ⟨rfl, y8, y9, y10, y11, rfl⟩
      exact ⟨rfl, some (dTst t), _, y8, y9, y10, y11, rfl⟩
  · rintro ρ M' ⟨rfl, x6, x7, x8, x9, x10, x11, rfl⟩
    exact ⟨by show 2 ≤ 16777216; omega, q⟩
end DL
-- part Pl9
set_option Elab.async false
set_option linter.all false
set_option maxRecDepth 100000
set_option maxHeartbeats 1000000
namespace DL
open PySem PySem.Spec PyProof.Rows L2
local macro_rules | `(tactic| walk_at "dl") => `(tactic| simp (config := {decide := false}) only [sNext, sSeq, sDrop, sRet, sIf, sSet, sAsg, sPar, sStore, sNever, xC, xOp, xB, xChain, xUn, yAnd, yOr, yNot, xAnd, xOr, xNot, xIf, aNil, aCons, xTup, xLst, mk, xCB, xIsi, xSl, xJoin, xIndexS, xIndexL, xAppend, xCall, gN, gT, gCons, gNil, yYes, oNone, oSome, iT, iL, iS, xVar, startD, wipeD,
  fI0, fI, fLt, fLe, fGt, fGe, fSub, fMul, fMod, fDiv, fPow, fAnd, fLen, lenD, fNeg, fIs, isNon, fIx, fAdd, fEq, fIn, fMin2, fMax2, fTuple, fList, fAll, fInt, fStrS, fAbs, tyn, res, seqD, lstD,
  ixt0, ixt1, ixt2, ixt3, k_ii, k_ib, k_it, k_tt, k_ss, k_ns, Bool.not_true, Bool.not_false, Option.map_some,
  List.map_cons, List.map_nil, List.length_cons, List.length_nil, List.length_map, List.cons_append, List.nil_append, List.getElem?_cons_zero, List.getElem?_cons_succ, List.set_cons_zero, List.set_cons_succ, List.replicate_succ, List.replicate_zero, Nat.reduceAdd, Nat.reduceSub, Nat.reduceLeDiff, Nat.zero_le, true_and, and_true, Option.bind_some, if_true, if_false, Bool.false_eq_true, reduceIte, decide_true, decide_false, decide_eq_true_eq, imp_self, forall_const])
abbrev Fnd := Str × List Bool × Cas
def dFnd (f : Fnd) : D := .tup [.str f.1, .tup (f.2.1.map D.bl), dCas f.2.2]
def sayPart (word : Str) (f : Fnd) (p : Bool × Cas) : Fnd := (if p.1 then f.1 ++ (" " : Str) ++ word else f.1, f.2.1 ++ [p.1], p.2)
def stepPart (other cut : Option Int) (fs : List Fnd) (w : Str × Tst) : List Fnd := fs.flatMap fun f => (splitTest f.2.2 w.2 other cut).map (sayPart w.1 f)
def splitParts (r : Rul) (cases : List Cas) (other cut : Option Int) : List Fnd := r.parts.foldl (stepPart other cut) (cases.map fun c => (r.word, [], c))
def cW (w : Wh) : Nat := gW w + bW w
theorem pf_len (l : List (Bool × Cas)) : l.length = (passed l).length + (failed l).length := by
  unfold passed failed
  rw [List.length_map, List.length_map]
  induction l with
  | nil => rfl
  | cons x l ih =>
    obtain ⟨b, c⟩ := x
    cases b
    · rw [List.filter_cons_of_neg (by simp), List.filter_cons_of_pos (by simp), List.length_cons, List.length_cons, ih]; omega
    · rw [List.filter_cons_of_pos (by simp), List.filter_cons_of_neg (by simp), List.length_cons, List.length_cons, ih]; omega
theorem splitTest_c {c : Cas} (h : okCas c) (t : Tst) (other cut : Option Int) : (splitTest c t other cut).length ≤ cW t.w := by
  rw [pf_len]
  have := splitTest_p h t other cut
  unfold cW; omega
def partB : List (Str × Tst) → Nat → Nat
  | [], n => n
  | p :: ps, n => partB ps (n * cW p.2.w)
theorem partB_app : ∀ (a b : List (Str × Tst)) (n : Nat), partB (a ++ b) n = partB b (partB a n)
  | [], _, _ => rfl
  | t :: a, b, n => partB_app a b (n * cW t.2.w)
theorem cW_pos (w : Wh) : 1 ≤ cW w := by have := gW_pos w; unfold cW; omega
theorem partB_ge : ∀ (a : List (Str × Tst)) (n : Nat), n ≤ partB a n
  | [], n => Nat.le_refl n
  | t :: a, n => Nat.le_trans (Nat.le_mul_of_pos_right n (cW_pos t.2.w)) (partB_ge a _)
structure okFnd (k : Nat) (f : Fnd) : Prop where
  cas : okCas f.2.2
  txt : f.1.length ≤ 8 + 9 * k
  said : f.2.1.length ≤ k
theorem len_app (x y : Str) : (x ++ y).length = x.length + y.length := by
  show (x.cps ++ y.cps).size = _
  rw [Array.size_append]; rfl
theorem sayPart_ok {k : Nat} {f : Fnd} (h : okFnd k f) {w : Str} (hw : w.length ≤ 8) {p : Bool × Cas} (hp : okCas p.2) : okFnd (k + 1) (sayPart w f p) := by
  refine ⟨hp, ?_, ?_⟩
  · have := h.txt
    unfold sayPart
    cases p.1 with
    | true =>
      show (f.1 ++ (" " : Str) ++ w).length ≤ _
      rw [len_app, len_app]
      have : (" " : Str).length = 1 := by decide +kernel
      omega
    | false =>
      show f.1.length ≤ _
      omega
  · have := h.said
    show (f.2.1 ++ [p.1]).length ≤ k + 1
    rw [List.length_append]
    show f.2.1.length + 1 ≤ k + 1
    omega
theorem parts_facts (r : Rul) (cases : List Cas) (h1 : ∀ c ∈ cases, okCas c) (hw : r.word.length ≤ 8) (other cut : Option Int) : ∀ (ps : List (Str × Tst)) (fs : List Fnd) (k : Nat), (∀ f ∈ fs, okFnd k f) → (∀ p ∈ ps, p.1.length ≤ 8 ∧ okWh p.2.w) → ∀ n, fs.length ≤ n →
    (∀ f ∈ ps.foldl (stepPart other cut) fs, okFnd (k + ps.length) f) ∧ (ps.foldl (stepPart other cut) fs).length ≤ partB ps n
  | [], fs, k, hf, _, n, hn => ⟨hf, hn⟩
  | p :: ps, fs, k, hf, hp, n, hn => by
    obtain ⟨hp1, hp2⟩ := hp p List.mem_cons_self
    have a1 : ∀ f ∈ stepPart other cut fs p, okFnd (k + 1) f := fun f hf' => by
      obtain ⟨g, hg, hz⟩ := List.mem_flatMap.mp hf'
      obtain ⟨x, hx, rfl⟩ := List.mem_map.mp hz
      exact sayPart_ok (hf g hg) hp1 (splitTest_ok (hf g hg).cas hp2 x hx)
    have a2 : (stepPart other cut fs p).length ≤ fs.length * cW p.2.w := flatMap_lenM _ _ _ fun f hf' => by rw [List.length_map]; exact splitTest_c (hf f hf').cas _ _ _
    obtain ⟨c1, c2⟩ := parts_facts r cases h1 hw other cut ps (stepPart other cut fs p) (k + 1) a1 (fun q hq => hp q (List.mem_cons_of_mem _ hq)) (n * cW p.2.w) (Nat.le_trans a2 (Nat.mul_le_mul_right _ hn))
    refine ⟨fun f hf' => ?_, c2⟩
    have := c1 f hf'
    rw [List.length_cons, Nat.add_comm ps.length 1, ← Nat.add_assoc]
    exact this
end DL
-- part Pl10
set_option Elab.async false
set_option linter.all false
set_option maxRecDepth 100000
set_option maxHeartbeats 1000000
namespace DL
open PySem PySem.Spec PyProof.Rows L2
local macro_rules | `(tactic| walk_at "dl") => `(tactic| simp (config := {decide := false}) only [sNext, sSeq, sDrop, sRet, sIf, sSet, sAsg, sPar, sStore, sNever, xC, xOp, xB, xChain, xUn, yAnd, yOr, yNot, xAnd, xOr, xNot, xIf, aNil, aCons, xTup, xLst, mk, xCB, xIsi, xSl, xJoin, xIndexS, xIndexL, xAppend, xCall, gN, gT, gCons, gNil, yYes, oNone, oSome, iT, iL, iS, xVar, startD, wipeD,
  fI0, fI, fLt, fLe, fGt, fGe, fSub, fMul, fMod, fDiv, fPow, fAnd, fLen, lenD, fNeg, fIs, isNon, fIx, fAdd, fEq, fIn, fMin2, fMax2, fTuple, fList, fAll, fInt, fStrS, fAbs, tyn, res, seqD, lstD,
  ixt0, ixt1, ixt2, ixt3, k_ii, k_ib, k_it, k_tt, k_ss, k_ns, Bool.not_true, Bool.not_false, Option.map_some,
  List.map_cons, List.map_nil, List.length_cons, List.length_nil, List.length_map, List.cons_append, List.nil_append, List.getElem?_cons_zero, List.getElem?_cons_succ, List.set_cons_zero, List.set_cons_succ, List.replicate_succ, List.replicate_zero, Nat.reduceAdd, Nat.reduceSub, Nat.reduceLeDiff, Nat.zero_le, true_and, and_true, Option.bind_some, if_true, if_false, Bool.false_eq_true, reduceIte, decide_true, decide_false, decide_eq_true_eq, imp_self, forall_const])
def R_split_parts : RF := fun ds M P => ∃ (r : Rul) (cases : List Cas) (other cut : Option Int), ds = [dRul r, .lst (cases.map dCas), dOI other, dOI cut] ∧ okRul r ∧ (∀ c ∈ cases, okCas c) ∧
  partB r.parts cases.length ≤ 16777216 ∧ P (.lst ((splitParts r cases other cut).map dFnd)) M
theorem p_split_parts (ds : List D) (M : Mem) (Q : DK) (h : R_split_parts ds M Q) : t_split_parts R_split_test (en0 Q) (startD N_split_parts ds) M := by
  obtain ⟨r, cases, other, cut, rfl, okr, ok, hB, q⟩ := h
  obtain ⟨hword, _, _, hpl, _, hparts⟩ := okr
  have hpo : ∀ p ∈ r.parts, p.1.length ≤ 8 ∧ okWh p.2.w := fun p hp => ⟨(hparts p hp).1.2.1, (hparts p hp).2.1⟩
  have hcl : cases.length ≤ 16777216 := Nat.le_trans (partB_ge r.parts _) hB
  obtain ⟨f0, hf0⟩ : ∃ f0 : List Fnd, f0 = cases.map fun c => ((r.word, [], c) : Fnd) := ⟨_, rfl⟩
  have hf0l : f0.length = cases.length := by rw [hf0, List.length_map]
  have hf0k : ∀ f ∈ f0, okFnd 0 f := fun f hf => by
    rw [hf0] at hf
    obtain ⟨c, hc, rfl⟩ := List.mem_map.mp hf
    exact ⟨ok c hc, by have := hword.2.1; show r.word.length ≤ 8 + 9 * 0; omega, Nat.le_refl 0⟩
  unfold t_split_parts
  refine sq (ρ' := [some (dRul r), some (.lst (cases.map dCas)), some (dOI other), some (dOI cut), some (.lst (f0.map dFnd)), none, none, none, none, none, none, none, none]) (M' := M) (fun K k => ?_) ?_
  · refine lc_map (xs := cases) (e := dCas) (fun c => dFnd (r.word, [], c)) (fun Q h => h) hcl (fun c hc K k => ?_) ?_
    · unfold dRul
      walk_at "dl"
      exact k
    · rw [hf0, List.map_map] at k
      exact k
  refine for_go (xs := r.parts) (e := dPart) (fun pre ρ M' => M' = M ∧ ∃ x5 x6 x7 x8 x9 x10 x11 x12, ρ = [some (dRul r), some (.lst (cases.map dCas)), some (dOI other), some (dOI cut), some (.lst ((pre.foldl (stepPart other cut) f0).map dFnd)), x5, x6, x7, x8, x9, x10, x11, x12]) (fun Q h => ?_) ⟨rfl, none, none, none, none, none, none, none, none, rfl⟩ ?_ ?_
  · unfold dRul
    walk_at "dl"
    exact h
  · rintro pre w post hts ρ M' ⟨rfl, x5, x6, x7, x8, x9, x10, x11, x12, rfl⟩
    have hpre : ∀ p ∈ pre, p.1.length ≤ 8 ∧ okWh p.2.w := fun p hp => hpo p (by rw [hts]; simp [hp])
    obtain ⟨hw1, hw2⟩ := hpo w (by rw [hts]; simp)
    obtain ⟨c1, c2⟩ := parts_facts r cases ok hword.2.1 other cut pre f0 0 hf0k hpre cases.length (Nat.le_of_eq hf0l)
    have hpn : pre.length ≤ 2 := by rw [hts, List.length_append] at hpl; omega
    have g1 : partB pre cases.length * cW w.2.w ≤ 16777216 := by
      rw [hts, partB_app] at hB
      exact Nat.le_trans (partB_ge post _) hB
    have es : (pre ++ [w]).foldl (stepPart other cut) f0 = stepPart other cut (pre.foldl (stepPart other cut) f0) w := by rw [List.foldl_append]; rfl
    rw [es]
    obtain ⟨fs, hfs⟩ : ∃ fs, fs = pre.foldl (stepPart other cut) f0 := ⟨_, rfl⟩
    rw [← hfs] at c1 c2 ⊢
    have m1 : fs.length * cW w.2.w ≤ 16777216 := Nat.le_trans (Nat.mul_le_mul_right _ c2) g1
    obtain ⟨word, tst⟩ := w
    have m1 : fs.length * cW tst.w ≤ 16777216 := m1
    have hw1 : word.length ≤ 8 := hw1
    have okf : ∀ f ∈ fs, okFnd 2 f := fun f hf => by
      have := c1 f hf
      exact ⟨this.cas, by have := this.txt; omega, by have := this.said; omega⟩
    rw [show dPart (word, tst) = D.tup [.str word, dTst tst] from rfl]
    simp only [gT, gCons, gNil, gN, List.set_cons_succ, List.set_cons_zero]
    refine sq (ρ' := [some (dRul r), some (.lst (cases.map dCas)), some (dOI other), some (dOI cut), some (.lst (fs.map dFnd)), x5, some (.str word), some (dTst tst), some (.lst []), x9, x10, x11, x12]) (M' := M') (fun K k => ⟨Nat.zero_le _, k⟩) ?_
    refine for_go (xs := fs) (e := dFnd) (fun ip ρ M2 => M2 = M' ∧ ∃ x5 x9 x10 x11 x12, ρ = [some (dRul r), some (.lst (cases.map dCas)), some (dOI other), some (dOI cut), some (.lst (fs.map dFnd)), x5, some (.str word), some (dTst tst), some (.lst ((stepPart other cut ip (word, tst)).map dFnd)), x9, x10, x11, x12]) (fun Q h => h) ⟨rfl, x5, x9, x10, x11, x12, rfl⟩ ?_ ?_
    · rintro ip f ipost his ρ M2 ⟨rfl, y5, y9, y10, y11, y12, rfl⟩
      have kf : okFnd 2 f := okf f (by rw [his]; simp)
      have okip : ∀ x ∈ ip, okFnd 2 x := fun x hx => okf x (by rw [his]; simp [hx])
      have hil : ip.length + 1 ≤ fs.length := by rw [his, List.length_append, List.length_cons]; omega
      have b1 : (stepPart other cut ip (word, tst)).length ≤ ip.length * cW tst.w := flatMap_lenM _ _ _ fun x hx => by rw [List.length_map]; exact splitTest_c (okip x hx).cas _ _ _
      have b3 := splitTest_c kf.cas tst other cut
      have b4 : (ip.length + 1) * cW tst.w ≤ fs.length * cW tst.w := Nat.mul_le_mul_right _ hil
      rw [Nat.add_mul, Nat.one_mul] at b4
      have e1 : stepPart other cut (ip ++ [f]) (word, tst) = stepPart other cut ip (word, tst) ++ (splitTest f.2.2 tst other cut).map (sayPart word f) := by
        unfold stepPart; rw [List.flatMap_append, List.flatMap_singleton]
      rw [e1]
      obtain ⟨nx, hnx⟩ : ∃ nx, nx = stepPart other cut ip (word, tst) := ⟨_, rfl⟩
      rw [← hnx] at b1 ⊢
      obtain ⟨sp, hsp⟩ : ∃ sp, sp = splitTest f.2.2 tst other cut := ⟨_, rfl⟩
      have okt : okWh tst.w := hw2
      rw [show dFnd f = D.tup [.str f.1, .tup (f.2.1.map D.bl), dCas f.2.2] from rfl]
      simp only [gT, gCons, gNil, gN, List.set_cons_succ, List.set_cons_zero]
      refine for_go (xs := splitTest f.2.2 tst other cut) (e := dBC) (fun jp ρ M3 => M3 = M2 ∧ ∃ x11 x12, ρ = [some (dRul r), some (.lst (cases.map dCas)), some (dOI other), some (dOI cut), some (.lst (fs.map dFnd)), some (dCas f.2.2), some (.str word), some (dTst tst), some (.lst ((nx ++ jp.map (sayPart word f)).map dFnd)), some (.str f.1), some (.tup (f.2.1.map D.bl)), x11, x12]) (fun Q h => ⟨f.2.2, tst, other, cut, rfl, kf.cas, okt, h⟩) ⟨rfl, y11, y12, by rw [List.map_nil, List.append_nil]⟩ ?_ ?_
      · rintro jp p jpost hjs ρ M3 ⟨rfl, z11, z12, rfl⟩
        have hjl : jp.length + 1 ≤ (splitTest f.2.2 tst other cut).length := by rw [hjs, List.length_append, List.length_cons]; omega
        have lacc : (nx ++ jp.map (sayPart word f)).length + 1 ≤ 16777216 := by rw [List.length_append, List.length_map]; omega
        have e2 : nx ++ (jp ++ [p]).map (sayPart word f) = (nx ++ jp.map (sayPart word f)) ++ [sayPart word f p] := by rw [List.map_append, List.append_assoc]; rfl
        rw [e2]
        obtain ⟨ac, hac⟩ : ∃ ac, ac = nx ++ jp.map (sayPart word f) := ⟨_, rfl⟩
        rw [← hac] at lacc ⊢
        obtain ⟨b, c⟩ := p
        have ht := kf.txt
        have hsd := kf.said
        have l1 : (" " : Str).length = 1 := by decide +kernel
        have fin : ∀ x : Str, x = (sayPart word f (b, c)).1 → (1 ≤ 16777216 ∧ (f.2.1.map D.bl).length + 1 ≤ 16777216 ∧ 3 ≤ 16777216 ∧ 1 ≤ 16777216 ∧ (ac.map dFnd).length + 1 ≤ 16777216 ∧ M3 = M3 ∧ ∃ x11 x12, [some (dRul r), some (.lst (cases.map dCas)), some (dOI other), some (dOI cut), some (.lst (fs.map dFnd)), some (dCas f.2.2), some (.str word), some (dTst tst), some (.lst (ac.map dFnd ++ [.tup [.str x, .tup (f.2.1.map D.bl ++ [.bl b]), dCas c]])), some (.str f.1), some (.tup (f.2.1.map D.bl)), some (.bl b), some (dCas c)] = [some (dRul r), some (.lst (cases.map dCas)), some (dOI other), some (dOI cut), some (.lst (fs.map dFnd)), some (dCas f.2.2), some (.str word), some (dTst tst), some (.lst ((ac ++ [sayPart word f (b, c)]).map dFnd)), some (.str f.1), some (.tup (f.2.1.map D.bl)), x11, x12]) := fun x hx => by
          refine ⟨by omega, by rw [List.length_map]; omega, by omega, by omega, by rw [List.length_map]; exact lacc, rfl, some (.bl b), some (dCas c), ?_⟩
          have e4 : (ac ++ [sayPart word f (b, c)]).map dFnd = ac.map dFnd ++ [.tup [.str x, .tup (f.2.1.map D.bl ++ [.bl b]), dCas c]] := by
            rw [List.map_append, hx]
            show _ ++ [D.tup [.str _, .tup ((f.2.1 ++ [b]).map D.bl), dCas c]] = _
            rw [List.map_append]; rfl
          rw [e4]
        rw [show dBC (b, c) = D.tup [.bl b, dCas c] from rfl]
        simp only [gT, gCons, gNil, gN, List.set_cons_succ, List.set_cons_zero]
        cases b with
        | true => exact ⟨by rw [l1]; omega, by rw [len_app, l1]; omega, fin _ rfl⟩
        | false => exact fin _ rfl
      · rintro ρ M3 ⟨rfl, z11, z12, rfl⟩
        exact ⟨rfl, some (dCas f.2.2), some (.str f.1), some (.tup (f.2.1.map D.bl)), z11, z12, rfl⟩
    · rintro ρ M2 ⟨rfl, y5, y9, y10, y11, y12, rfl⟩
      exact ⟨rfl, y5, some (.str word), some (dTst tst), _, y9, y10, y11, y12, rfl⟩
  · rintro ρ M' ⟨rfl, x5, x6, x7, x8, x9, x10, x11, x12, rfl⟩
    unfold splitParts at q
    rw [← hf0] at q
    exact q
end DL
-- part Pl11
set_option Elab.async false
set_option linter.all false
set_option maxRecDepth 100000
set_option maxHeartbeats 1000000
namespace DL
open PySem PySem.Spec PyProof.Rows L2
local macro_rules | `(tactic| walk_at "dl") => `(tactic| simp (config := {decide := false}) only [sNext, sSeq, sDrop, sRet, sIf, sSet, sAsg, sPar, sStore, sNever, xC, xOp, xB, xChain, xUn, yAnd, yOr, yNot, xAnd, xOr, xNot, xIf, aNil, aCons, xTup, xLst, mk, xCB, xIsi, xSl, xJoin, xIndexS, xIndexL, xAppend, xCall, gN, gT, gCons, gNil, yYes, oNone, oSome, iT, iL, iS, xVar, startD, wipeD,
  fI0, fI, fLt, fLe, fGt, fGe, fSub, fMul, fMod, fDiv, fPow, fAnd, fLen, lenD, fNeg, fIs, isNon, fIx, fAdd, fEq, fIn, fMin2, fMax2, fTuple, fList, fAll, fInt, fStrS, fAbs, tyn, res, seqD, lstD,
  ixt0, ixt1, ixt2, ixt3, k_ii, k_ib, k_it, k_tt, k_ss, k_ns, Bool.not_true, Bool.not_false, Option.map_some,
  List.map_cons, List.map_nil, List.length_cons, List.length_nil, List.length_map, List.cons_append, List.nil_append, List.getElem?_cons_zero, List.getElem?_cons_succ, List.set_cons_zero, List.set_cons_succ, List.replicate_succ, List.replicate_zero, Nat.reduceAdd, Nat.reduceSub, Nat.reduceLeDiff, Nat.zero_le, true_and, and_true, Option.bind_some, if_true, if_false, Bool.false_eq_true, reduceIte, decide_true, decide_false, decide_eq_true_eq, imp_self, forall_const])
def ruleAt (b : Book) (i : Int) : Rul := b.getD i.toNat ⟨"", 0, [], []⟩
def lineOf (i : Int) (f : Fnd) : Lin := ⟨some f.1, some i, f.2.1, f.2.2⟩
def restOf (c : Cas) : Lin := ⟨none, none, [], c⟩
def stepRule (b : Book) (other cut : Option Int) (s : List Lin × List Cas) (i : Int) : List Lin × List Cas :=
  (s.1 ++ (splitParts (ruleAt b i) (splitAll s.2 (ruleAt b i).tests other cut).1 other cut).map (lineOf i), (splitAll s.2 (ruleAt b i).tests other cut).2)
def linesFrom (b : Book) (c : Cas) (other cut : Option Int) : List Lin :=
  ((order b).foldl (stepRule b other cut) ([], [c])).1 ++ ((order b).foldl (stepRule b other cut) ([], [c])).2.map restOf
def linB : List Rul → Nat → Nat → Nat
  | [], left, f => f + left
  | r :: rs, left, f => linB rs (badB r.tests left) (f + partB r.parts (goodB r.tests left))
theorem goodB_mono : ∀ (a : List Tst) {n m : Nat}, n ≤ m → goodB a n ≤ goodB a m
  | [], _, _, h => h
  | t :: a, _, _, h => goodB_mono a (Nat.mul_le_mul_right _ h)
theorem badB_mono : ∀ (a : List Tst) {n m : Nat}, n ≤ m → badB a n ≤ badB a m
  | [], _, _, _ => Nat.le_refl _
  | t :: a, _, _, h => Nat.add_le_add (Nat.mul_le_mul_right _ h) (badB_mono a (Nat.mul_le_mul_right _ h))
theorem partB_mono : ∀ (a : List (Str × Tst)) {n m : Nat}, n ≤ m → partB a n ≤ partB a m
  | [], _, _, h => h
  | t :: a, _, _, h => partB_mono a (Nat.mul_le_mul_right _ h)
theorem badB_ge : ∀ {a : List Tst} (n : Nat), 1 ≤ a.length → n ≤ badB a n
  | [], n, h => by simp at h
  | t :: a, n, _ => by
    have h1 : 1 ≤ bW t.w := by cases t.w <;> (simp only [bW]; omega)
    have h2 : n ≤ n * bW t.w := Nat.le_mul_of_pos_right n h1
    show n ≤ n * bW t.w + _
    omega
theorem linB_ge : ∀ (rs : List Rul), (∀ r ∈ rs, 1 ≤ r.tests.length) → ∀ left f, f + left ≤ linB rs left f
  | [], _, left, f => Nat.le_refl _
  | r :: rs, h, left, f => by
    have h1 := linB_ge rs (fun x hx => h x (List.mem_cons_of_mem _ hx)) (badB r.tests left) (f + partB r.parts (goodB r.tests left))
    have h2 := badB_ge left (h r List.mem_cons_self)
    show _ ≤ linB rs _ _
    omega
theorem linB_mono : ∀ (rs : List Rul) {l l' f f' : Nat}, l ≤ l' → f ≤ f' → linB rs l f ≤ linB rs l' f'
  | [], _, _, _, _, h1, h2 => Nat.add_le_add h2 h1
  | r :: rs, _, _, _, _, h1, h2 => linB_mono rs (badB_mono _ h1) (Nat.add_le_add h2 (partB_mono _ (goodB_mono _ h1)))
theorem order_mem {b : Book} {i : Int} (h : i ∈ order b) : ∃ n : Nat, i = (n : Int) ∧ n < b.length := by
  unfold order at h
  obtain ⟨p, hp, rfl⟩ := List.mem_map.mp h
  have hp := (isort_perm leP _).mem_iff.mp hp
  rw [keysFrom_eq] at hp
  obtain ⟨q, hq, rfl⟩ := List.mem_map.mp hp
  rw [List.mem_mapIdx] at hq
  obtain ⟨k, hk, rfl⟩ := hq
  exact ⟨k, by simp, hk⟩
theorem ruleAt_mem {b : Book} {n : Nat} (h : n < b.length) : ruleAt b (n : Int) ∈ b ∧ b[n]? = some (ruleAt b (n : Int)) := by
  have e : ruleAt b (n : Int) = b[n] := by
    unfold ruleAt
    rw [Int.toNat_natCast, List.getD_eq_getElem?_getD, List.getElem?_eq_getElem h]; rfl
  rw [e]
  exact ⟨List.getElem_mem h, List.getElem?_eq_getElem h⟩
end DL
-- part Pl12
set_option Elab.async false
set_option linter.all false
set_option maxRecDepth 100000
set_option maxHeartbeats 1000000
namespace DL
open PySem PySem.Spec PyProof.Rows L2
local macro_rules | `(tactic| walk_at "dl") => `(tactic| simp (config := {decide := false}) only [sNext, sSeq, sDrop, sRet, sIf, sSet, sAsg, sPar, sStore, sNever, xC, xOp, xB, xChain, xUn, yAnd, yOr, yNot, xAnd, xOr, xNot, xIf, aNil, aCons, xTup, xLst, mk, xCB, xIsi, xSl, xJoin, xIndexS, xIndexL, xAppend, xCall, gN, gT, gCons, gNil, yYes, oNone, oSome, iT, iL, iS, xVar, startD, wipeD,
  fI0, fI, fLt, fLe, fGt, fGe, fSub, fMul, fMod, fDiv, fPow, fAnd, fLen, lenD, fNeg, fIs, isNon, fIx, fAdd, fEq, fIn, fMin2, fMax2, fTuple, fList, fAll, fInt, fStrS, fAbs, tyn, res, seqD, lstD,
  ixt0, ixt1, ixt2, ixt3, k_ii, k_ib, k_it, k_tt, k_ss, k_ns, Bool.not_true, Bool.not_false, Option.map_some,
  List.map_cons, List.map_nil, List.length_cons, List.length_nil, List.length_map, List.cons_append, List.nil_append, List.getElem?_cons_zero, List.getElem?_cons_succ, List.set_cons_zero, List.set_cons_succ, List.replicate_succ, List.replicate_zero, Nat.reduceAdd, Nat.reduceSub, Nat.reduceLeDiff, Nat.zero_le, true_and, and_true, Option.bind_some, if_true, if_false, Bool.false_eq_true, reduceIte, decide_true, decide_false, decide_eq_true_eq, imp_self, forall_const])
def R_lines_from : RF := fun ds M P => ∃ (b : Book) (c : Cas) (other cut : Option Int), ds = [dBook b, dCas c, dOI other, dOI cut] ∧ okBook b ∧ okCas c ∧ linB ((order b).map (ruleAt b)) 1 0 ≤ 16777216 ∧ P (.lst ((linesFrom b c other cut).map dLin)) M
theorem ix_rule {M : Mem} {b : Book} {n : Nat} (h : n < b.length) : ixD M (.tup (b.map dRul)) (n : Int) = some (dRul (ruleAt b (n : Int))) := by
  refine atI_nat (i := n) ?_
  rw [List.getElem?_map, (ruleAt_mem h).2]; rfl
theorem p_lines_from (ds : List D) (M : Mem) (Q : DK) (h : R_lines_from ds M Q) : t_lines_from R_order_of R_split_all R_split_parts (en0 Q) (startD N_lines_from ds) M := by
  obtain ⟨b, c, other, cut, rfl, okb, okc, hB, q⟩ := h
  obtain ⟨hbl, hrul, _⟩ := okb
  unfold t_lines_from
  refine sq (ρ' := [some (dBook b), some (dCas c), some (dOI other), some (dOI cut), some (.lst []), some (.lst [dCas c]), none, none, none, none, none]) (M' := M) (fun K k => ⟨Nat.zero_le _, by show 1 ≤ 16777216; omega, k⟩) ?_
  refine for_go (xs := order b) (e := D.int) (fun pre ρ M' => M' = M ∧ (∀ x ∈ ((pre.foldl (stepRule b other cut) ([], [c])).2), okCas x) ∧ (∃ L f, (pre.foldl (stepRule b other cut) ([], [c])).2.length ≤ L ∧ (pre.foldl (stepRule b other cut) ([], [c])).1.length ≤ f ∧ ∀ post, order b = pre ++ post → linB (post.map (ruleAt b)) L f ≤ 16777216) ∧ ∃ x6 x7 x8 x9 x10, ρ = [some (dBook b), some (dCas c), some (dOI other), some (dOI cut), some (.lst ((pre.foldl (stepRule b other cut) ([], [c])).1.map dLin)), some (.lst ((pre.foldl (stepRule b other cut) ([], [c])).2.map dCas)), x6, x7, x8, x9, x10]) (fun Q h => ⟨b, rfl, by omega, h⟩) ⟨rfl, (fun x hx => by rw [List.mem_singleton.mp hx]; exact okc), ⟨1, 0, Nat.le_refl _, Nat.le_refl _, fun post hp => by rw [show post = order b from hp.symm]; exact hB⟩, none, none, none, none, none, rfl⟩ ?_ ?_
  · rintro pre i post hts ρ M' ⟨rfl, hok, ⟨L, f, hL, hf, hlin⟩, x6, x7, x8, x9, x10, rfl⟩
    obtain ⟨n, rfl, hn⟩ := order_mem (b := b) (i := i) (by rw [hts]; simp)
    have hr : okRul (ruleAt b (n : Int)) := hrul _ (ruleAt_mem hn).1
    have hix : ∀ M : Mem, ixD M (.tup (b.map dRul)) (n : Int) = some (dRul (ruleAt b (n : Int))) := fun M => ix_rule hn
    have es : (pre ++ [(n : Int)]).foldl (stepRule b other cut) ([], [c]) = stepRule b other cut (pre.foldl (stepRule b other cut) ([], [c])) (n : Int) := by rw [List.foldl_append]; rfl
    rw [es]
    have hb0 := hlin _ hts
    have htests : ∀ r ∈ post.map (ruleAt b), 1 ≤ r.tests.length := fun r hr' => by
      obtain ⟨j, hj, rfl⟩ := List.mem_map.mp hr'
      obtain ⟨m, rfl, hm⟩ := order_mem (b := b) (i := j) (by rw [hts]; simp [hj])
      exact (hrul _ (ruleAt_mem hm).1).2.2.1.1
    obtain ⟨r, hrr⟩ : ∃ r, r = ruleAt b (n : Int) := ⟨_, rfl⟩
    have hb1 : linB (post.map (ruleAt b)) (badB r.tests L) (f + partB r.parts (goodB r.tests L)) ≤ 16777216 := by rw [hrr]; exact hb0
    have hge := linB_ge _ htests (badB r.tests L) (f + partB r.parts (goodB r.tests L))
    obtain ⟨s, hs⟩ : ∃ s, s = pre.foldl (stepRule b other cut) ([], [c]) := ⟨_, rfl⟩
    rw [← hrr] at hr hix
    rw [← hs] at hok hL hf ⊢
    have g1 := goodB_mono r.tests hL
    have g2 := badB_mono r.tests hL
    have g3 := partB_ge r.parts (goodB r.tests L)
    have okw : ∀ t ∈ r.tests, okWh t.w := fun t ht => (hr.2.2.2.2.1 t ht).1
    obtain ⟨f1, f2, f3, f4⟩ := splitAll_facts hok okw other cut
    obtain ⟨sa, hsa⟩ : ∃ sa, sa = splitAll s.2 r.tests other cut := ⟨_, rfl⟩
    rw [← hsa] at f1 f2 f3 f4
    have e5 : stepRule b other cut s (n : Int) = (s.1 ++ (splitParts r sa.1 other cut).map (lineOf n), sa.2) := by rw [hsa, hrr]; rfl
    rw [e5]
    simp only [gN, List.set_cons_succ, List.set_cons_zero]
    have g4 : partB r.parts sa.1.length ≤ partB r.parts (goodB r.tests L) := partB_mono _ (Nat.le_trans f3 g1)
    have hpo : ∀ p ∈ r.parts, p.1.length ≤ 8 ∧ okWh p.2.w := fun p hp => ⟨(hr.2.2.2.2.2 p hp).1.2.1, (hr.2.2.2.2.2 p hp).2.1⟩
    have hf0k : ∀ g ∈ (sa.1.map fun c => ((r.word, [], c) : Fnd)), okFnd 0 g := fun g hg => by
      obtain ⟨c, hc, rfl⟩ := List.mem_map.mp hg
      exact ⟨f1 c hc, by have := hr.1.2.1; show r.word.length ≤ 8 + 9 * 0; omega, Nat.le_refl 0⟩
    have hsp := (parts_facts r sa.1 f1 hr.1.2.1 other cut r.parts (sa.1.map fun c => ((r.word, [], c) : Fnd)) 0 hf0k hpo sa.1.length (by rw [List.length_map]; exact Nat.le_refl _)).2
    have hspl : (splitParts r sa.1 other cut).length ≤ partB r.parts (goodB r.tests L) := Nat.le_trans hsp g4
    refine sq (ρ' := [some (dBook b), some (dCas c), some (dOI other), some (dOI cut), some (.lst (s.1.map dLin)), some (.lst (sa.2.map dCas)), some (.int (n : Int)), some (.lst (sa.1.map dCas)), x8, x9, x10]) (M' := M') (fun K k => ?_) ?_
    · have k2 : R_split_all [.lst (s.2.map dCas), .tup (r.tests.map dTst), dOI other, dOI cut] M' fun d M1 => gT (gCons (gN 7) (gCons (gN 5) gNil)) d [some (dBook b), some (dCas c), some (dOI other), some (dOI cut), some (.lst (s.1.map dLin)), some (.lst (s.2.map dCas)), some (.int (n : Int)), x7, x8, x9, x10] M1 K :=
        ⟨s.2, r.tests, other, cut, rfl, hok, okw, by omega, by omega, by rw [← hsa]; exact k⟩
      unfold dBook at k2 ⊢
      simp only [gN, List.set_cons_succ, List.set_cons_zero] at k2 ⊢
      walk_at "dl"
      rw [hix]
      unfold dRul
      walk_at "dl"
      exact ⟨s.2, r.tests, other, cut, rfl, hok, okw, by omega, by omega, by rw [← hsa]; exact k⟩
    · have h3 : ((splitParts r sa.1 other cut).map (lineOf (n : Int))).map dLin = (splitParts r sa.1 other cut).map fun f => dLin (lineOf (n : Int) f) := by rw [List.map_map]; rfl
      simp only [sSet, xOp, xVar, List.getElem?_cons_succ, List.getElem?_cons_zero]
      refine lc_map (xs := splitParts r sa.1 other cut) (e := dFnd) (fun f => dLin (lineOf (n : Int) f)) (fun Q h => ?_) (by omega) (fun f hf K k => ⟨by show 4 ≤ 16777216; omega, k⟩) ⟨by rw [List.length_map, List.length_map]; omega, rfl, f2, ⟨badB r.tests L, f + partB r.parts (goodB r.tests L), by omega, by rw [List.length_append, List.length_map]; omega, fun post' hp => ?_⟩, some (.int (n : Int)), some (.lst (sa.1.map dCas)), x8, x9, x10, ?_⟩
      · unfold dBook
        walk_at "dl"
        rw [hix]
        exact ⟨r, sa.1, other, cut, rfl, hr, f1, by omega, h⟩
      · have e7 : post' = post := by
          rw [hts, List.append_assoc] at hp
          exact (List.cons.inj (List.append_cancel_left hp)).2.symm
        rw [e7]; exact hb1
      · rw [List.map_append, h3]; rfl
  · rintro ρ M' ⟨rfl, hok, ⟨L, f, hL, hf, hlin⟩, x6, x7, x8, x9, x10, rfl⟩
    have hb0 := hlin [] (List.append_nil _).symm
    have hb1 : f + L ≤ 16777216 := hb0
    have e : (linesFrom b c other cut).map dLin = ((order b).foldl (stepRule b other cut) ([], [c])).1.map dLin ++ ((order b).foldl (stepRule b other cut) ([], [c])).2.map fun c => dLin (restOf c) := by
      unfold linesFrom; rw [List.map_append, List.map_map]; rfl
    rw [e] at q
    simp only [sRet, xOp, xVar, List.getElem?_cons_succ, List.getElem?_cons_zero]
    refine lc_map (xs := ((order b).foldl (stepRule b other cut) ([], [c])).2) (e := dCas) (fun c => dLin (restOf c)) (fun Q h => h) (by omega) (fun c hc K k => ⟨Nat.zero_le _, by show 4 ≤ 16777216; omega, k⟩) ⟨by rw [List.length_map, List.length_map]; omega, q⟩
end DL
-- part Pl13
set_option Elab.async false
set_option linter.all false
set_option maxRecDepth 100000
set_option maxHeartbeats 1000000
namespace DL
open PySem PySem.Spec PyProof.Rows L2
local macro_rules | `(tactic| walk_at "dl") => `(tactic| simp (config := {decide := false}) only [sNext, sSeq, sDrop, sRet, sIf, sSet, sAsg, sPar, sStore, sNever, xC, xOp, xB, xChain, xUn, yAnd, yOr, yNot, xAnd, xOr, xNot, xIf, aNil, aCons, xTup, xLst, mk, xCB, xIsi, xSl, xJoin, xIndexS, xIndexL, xAppend, xCall, gN, gT, gCons, gNil, yYes, oNone, oSome, iT, iL, iS, xVar, startD, wipeD,
  fI0, fI, fLt, fLe, fGt, fGe, fSub, fMul, fMod, fDiv, fPow, fAnd, fLen, lenD, fNeg, fIs, isNon, fIx, fAdd, fEq, fIn, fMin2, fMax2, fTuple, fList, fAll, fInt, fStrS, fAbs, tyn, res, seqD, lstD,
  ixt0, ixt1, ixt2, ixt3, k_ii, k_ib, k_it, k_tt, k_ss, k_ns, Bool.not_true, Bool.not_false, Option.map_some,
  List.map_cons, List.map_nil, List.length_cons, List.length_nil, List.length_map, List.cons_append, List.nil_append, List.getElem?_cons_zero, List.getElem?_cons_succ, List.set_cons_zero, List.set_cons_succ, List.replicate_succ, List.replicate_zero, Nat.reduceAdd, Nat.reduceSub, Nat.reduceLeDiff, Nat.zero_le, true_and, and_true, Option.bind_some, if_true, if_false, Bool.false_eq_true, reduceIte, decide_true, decide_false, decide_eq_true_eq, imp_self, forall_const])
theorem splitParts_facts {r : Rul} (hr : okRul r) {cases : List Cas} (h1 : ∀ c ∈ cases, okCas c) (other cut : Option Int) :
    (∀ f ∈ splitParts r cases other cut, okFnd r.parts.length f) ∧ (splitParts r cases other cut).length ≤ partB r.parts cases.length := by
  have hpo : ∀ p ∈ r.parts, p.1.length ≤ 8 ∧ okWh p.2.w := fun p hp => ⟨(hr.2.2.2.2.2 p hp).1.2.1, (hr.2.2.2.2.2 p hp).2.1⟩
  have hf0k : ∀ g ∈ (cases.map fun c => ((r.word, [], c) : Fnd)), okFnd 0 g := fun g hg => by
    obtain ⟨c, hc, rfl⟩ := List.mem_map.mp hg
    exact ⟨h1 c hc, by have := hr.1.2.1; show r.word.length ≤ 8 + 9 * 0; omega, Nat.le_refl 0⟩
  have := parts_facts r cases h1 hr.1.2.1 other cut r.parts (cases.map fun c => ((r.word, [], c) : Fnd)) 0 hf0k hpo cases.length (by rw [List.length_map]; exact Nat.le_refl _)
  rw [Nat.zero_add] at this
  exact this
theorem rules_facts (b : Book) (hb : ∀ r ∈ b, okRul r) (other cut : Option Int) : ∀ (is : List Int) (s : List Lin × List Cas), (∀ i ∈ is, ∃ n : Nat, i = (n : Int) ∧ n < b.length) → (∀ l ∈ s.1, okCas l.cas) → (∀ c ∈ s.2, okCas c) → ∀ L f, s.2.length ≤ L → s.1.length ≤ f →
    (∀ l ∈ (is.foldl (stepRule b other cut) s).1, okCas l.cas) ∧ (∀ c ∈ (is.foldl (stepRule b other cut) s).2, okCas c) ∧ (is.foldl (stepRule b other cut) s).1.length + (is.foldl (stepRule b other cut) s).2.length ≤ linB (is.map (ruleAt b)) L f
  | [], s, _, h1, h2, L, f, hL, hf => ⟨h1, h2, by show _ ≤ f + L; have e : List.foldl (stepRule b other cut) s [] = s := rfl; rw [e]; omega⟩
  | i :: is, s, hi, h1, h2, L, f, hL, hf => by
    obtain ⟨n, rfl, hn⟩ := hi i List.mem_cons_self
    have hr : okRul (ruleAt b (n : Int)) := hb _ (ruleAt_mem hn).1
    have okw : ∀ t ∈ (ruleAt b (n : Int)).tests, okWh t.w := fun t ht => (hr.2.2.2.2.1 t ht).1
    obtain ⟨f1, f2, f3, f4⟩ := splitAll_facts h2 okw other cut
    obtain ⟨g1, g2⟩ := splitParts_facts hr f1 other cut
    have m1 := goodB_mono (ruleAt b (n : Int)).tests hL
    have m2 := badB_mono (ruleAt b (n : Int)).tests hL
    have m3 := partB_mono (ruleAt b (n : Int)).parts (Nat.le_trans f3 m1)
    refine rules_facts b hb other cut is (stepRule b other cut s (n : Int)) (fun j hj => hi j (List.mem_cons_of_mem _ hj)) (fun l hl => ?_) f2 (badB (ruleAt b (n : Int)).tests L) (f + partB (ruleAt b (n : Int)).parts (goodB (ruleAt b (n : Int)).tests L)) (Nat.le_trans f4 m2) ?_
    · rcases List.mem_append.mp hl with z | z
      · exact h1 l z
      · obtain ⟨g, hg, rfl⟩ := List.mem_map.mp z
        exact (g1 g hg).cas
    · show (s.1 ++ _).length ≤ _
      rw [List.length_append, List.length_map]
      omega
theorem linesFrom_facts {b : Book} (hb : okBook b) {c : Cas} (hc : okCas c) (other cut : Option Int) :
    (∀ l ∈ linesFrom b c other cut, okCas l.cas) ∧ (linesFrom b c other cut).length ≤ linB ((order b).map (ruleAt b)) 1 0 := by
  obtain ⟨h1, h2, h3⟩ := rules_facts b hb.2.1 other cut (order b) ([], [c]) (fun i hi => order_mem hi) (fun l hl => by cases hl) (fun x hx => by rw [List.mem_singleton.mp hx]; exact hc) 1 0 (Nat.le_refl _) (Nat.le_refl _)
  refine ⟨fun l hl => ?_, ?_⟩
  · rcases List.mem_append.mp hl with z | z
    · exact h1 l z
    · obtain ⟨x, hx, rfl⟩ := List.mem_map.mp z
      exact h2 x hx
  · unfold linesFrom
    rw [List.length_append, List.length_map]
    exact h3
/-- a book whose tests name their places: at most 2 tests, 1 part a rule, 3 rules -/
structure plainBook (b : Book) : Prop where
  ok : okBook b
  three : b.length ≤ 3
  tests : ∀ r ∈ b, r.tests.length ≤ 2 ∧ ∀ t ∈ r.tests, ∃ p, t.w = .pl p
  parts : ∀ r ∈ b, r.parts.length ≤ 1 ∧ ∀ t ∈ r.parts, ∃ p, t.2.w = .pl p
theorem goodB_pl : ∀ {ts : List Tst}, (∀ t ∈ ts, ∃ p, t.w = .pl p) → ∀ n, goodB ts n = n
  | [], _, _ => rfl
  | t :: ts, h, n => by
    obtain ⟨p, hp⟩ := h t List.mem_cons_self
    show goodB ts (n * gW t.w) = n
    rw [hp]
    show goodB ts (n * 1) = n
    rw [Nat.mul_one]
    exact goodB_pl (fun u hu => h u (List.mem_cons_of_mem _ hu)) n
theorem badB_pl : ∀ {ts : List Tst}, (∀ t ∈ ts, ∃ p, t.w = .pl p) → ∀ n, badB ts n = n * (2 * ts.length)
  | [], _, _ => rfl
  | t :: ts, h, n => by
    obtain ⟨p, hp⟩ := h t List.mem_cons_self
    show n * bW t.w + badB ts (n * gW t.w) = _
    rw [hp]
    show n * 2 + badB ts (n * 1) = _
    rw [Nat.mul_one, badB_pl (fun u hu => h u (List.mem_cons_of_mem _ hu)) n, List.length_cons, ← Nat.mul_add]
    congr 1; omega
end DL
-- part Pl14
set_option Elab.async false
set_option linter.all false
set_option maxRecDepth 100000
set_option maxHeartbeats 1000000
namespace DL
open PySem PySem.Spec PyProof.Rows L2
theorem linB_pl : ∀ (rs : List Rul), (∀ r ∈ rs, r.tests.length ≤ 2 ∧ (∀ t ∈ r.tests, ∃ p, t.w = .pl p) ∧ r.parts.length ≤ 1 ∧ ∀ t ∈ r.parts, ∃ p, t.2.w = .pl p) → ∀ L f, linB rs L f ≤ f + L * 4 ^ rs.length * (1 + 3 * rs.length)
  | [], _, L, f => by show f + L ≤ f + L * 1 * (1 + 0); omega
  | r :: rs, h, L, f => by
    obtain ⟨h1, h2, h3, h4⟩ := h r List.mem_cons_self
    have ih := linB_pl rs (fun x hx => h x (List.mem_cons_of_mem _ hx))
    have e1 := badB_pl h2 L
    have e2 := goodB_pl h2 L
    have e3 : partB r.parts L ≤ L * 3 := by
      match hp : r.parts, h3, h4 with
      | [], _, _ => show L ≤ L * 3; omega
      | [p], _, h4 =>
        obtain ⟨q, hq⟩ := h4 p List.mem_cons_self
        show L * cW p.2.w ≤ L * 3
        rw [hq]; exact Nat.le_refl _
      | _ :: _ :: _, h3, _ => simp at h3
    have e4 : badB r.tests L ≤ L * 4 := by rw [e1]; exact Nat.mul_le_mul_left _ (by omega)
    show linB rs (badB r.tests L) (f + partB r.parts (goodB r.tests L)) ≤ _
    rw [e2]
    refine Nat.le_trans (linB_mono rs e4 (Nat.add_le_add_left e3 f)) (Nat.le_trans (ih (L * 4) (f + L * 3)) ?_)
    rw [List.length_cons, Nat.pow_succ, Nat.add_assoc]
    refine Nat.add_le_add_left ?_ f
    have hp : 1 ≤ 4 ^ rs.length := Nat.one_le_pow _ _ (by omega)
    have e5 : L * (4 ^ rs.length * 4) = L * 4 * 4 ^ rs.length := by rw [Nat.mul_comm (4 ^ rs.length) 4, Nat.mul_assoc]
    rw [e5]
    have e6 : L * 3 ≤ L * 4 * 4 ^ rs.length * 3 := by
      refine Nat.mul_le_mul_right 3 ?_
      calc L ≤ L * 4 := by omega
        _ = L * 4 * 1 := (Nat.mul_one _).symm
        _ ≤ L * 4 * 4 ^ rs.length := Nat.mul_le_mul_left _ hp
    have e7 : L * 4 * 4 ^ rs.length * (1 + 3 * (rs.length + 1)) = L * 4 * 4 ^ rs.length * (1 + 3 * rs.length) + L * 4 * 4 ^ rs.length * 3 := by
      rw [← Nat.mul_add]; congr 1
    rw [e7]
    omega
theorem order_len (b : Book) : (order b).length = b.length := by
  unfold order
  rw [List.length_map, (isort_perm leP _).length_eq, keysFrom_eq, List.length_map, List.length_mapIdx]
theorem plain_linB {b : Book} (h : plainBook b) : linB ((order b).map (ruleAt b)) 1 0 ≤ 640 := by
  have h1 := linB_pl ((order b).map (ruleAt b)) (fun r hr => by
    obtain ⟨i, hi, rfl⟩ := List.mem_map.mp hr
    obtain ⟨n, rfl, hn⟩ := order_mem hi
    have hm := (ruleAt_mem hn).1
    exact ⟨(h.tests _ hm).1, (h.tests _ hm).2, (h.parts _ hm).1, (h.parts _ hm).2⟩) 1 0
  rw [List.length_map, order_len] at h1
  refine Nat.le_trans h1 ?_
  have h3 := h.three
  have : b.length = 0 ∨ b.length = 1 ∨ b.length = 2 ∨ b.length = 3 := by omega
  rcases this with e | e | e | e <;> rw [e] <;> decide
end DL
-- part Pl15
set_option Elab.async false
set_option linter.all false
set_option maxRecDepth 100000
set_option maxHeartbeats 1000000
namespace DL
open PySem PySem.Spec PyProof.Rows L2
/-! ### files as lists of digits -/
def hc (d : Dg) : Nat := if d.val < 10 then 48 + d.val else 87 + d.val
def hx (f : List Dg) : Str := ⟨(f.map hc).toArray⟩
theorem hx_len (f : List Dg) : (hx f).length = f.length := by
  show ((f.map hc).toArray).size = _
  simp
theorem hx_app (f g : List Dg) : hx f ++ hx g = hx (f ++ g) := by
  show (⟨(hx f).cps ++ (hx g).cps⟩ : Str) = _
  unfold hx
  simp
theorem hx_chars (f : List Dg) : chD (hx f) = f.map fun d => D.str (hx [d]) := by
  unfold chD hx
  simp
theorem hc_inj : ∀ d e : Dg, hc d = hc e → d = e := by decide
theorem hx_inj {f g : List Dg} (h : hx f = hx g) : f = g := by
  unfold hx at h
  simp only [Str.mk.injEq] at h
  have h := Array.toList_inj.mpr h
  simp only at h
  exact (List.map_inj_right fun a b e => hc_inj a b e).mp h
theorem sub_dg : ∀ d : Dg, subS (hx [d]) "0123456789abcdef" = true := by decide +kernel
theorem hx_signs (f : List Dg) : okSigns "0123456789abcdef" (hx f) := fun c hc' => by
  unfold hx at hc'
  rw [List.toList_toArray, List.mem_map] at hc'
  obtain ⟨d, _, rfl⟩ := hc'
  exact sub_dg d
theorem index_dg : ∀ d : Dg, Txt.index0 "0123456789abcdef" (hx [d]) = some d.val := by decide +kernel
end DL
-- part Pl16
set_option Elab.async false
set_option linter.all false
set_option maxRecDepth 100000
set_option maxHeartbeats 1000000
namespace DL
open PySem PySem.Spec PyProof.Rows L2
local macro_rules | `(tactic| walk_at "dl") => `(tactic| simp (config := {decide := false}) only [sNext, sSeq, sDrop, sRet, sIf, sSet, sAsg, sPar, sStore, sNever, xC, xOp, xB, xChain, xUn, yAnd, yOr, yNot, xAnd, xOr, xNot, xIf, aNil, aCons, xTup, xLst, mk, xCB, xIsi, xSl, xJoin, xIndexS, xIndexL, xAppend, xCall, gN, gT, gCons, gNil, yYes, oNone, oSome, iT, iL, iS, xVar, startD, wipeD,
  fI0, fI, fLt, fLe, fGt, fGe, fSub, fMul, fMod, fDiv, fPow, fAnd, fLen, lenD, fNeg, fIs, isNon, fIx, fAdd, fEq, fIn, fMin2, fMax2, fTuple, fList, fAll, fInt, fStrS, fAbs, tyn, res, seqD, lstD,
  ixt0, ixt1, ixt2, ixt3, k_ii, k_ib, k_it, k_tt, k_ss, k_ns, Bool.not_true, Bool.not_false, Option.map_some,
  List.map_cons, List.map_nil, List.length_cons, List.length_nil, List.length_map, List.cons_append, List.nil_append, List.getElem?_cons_zero, List.getElem?_cons_succ, List.set_cons_zero, List.set_cons_succ, List.replicate_succ, List.replicate_zero, Nat.reduceAdd, Nat.reduceSub, Nat.reduceLeDiff, Nat.zero_le, true_and, and_true, Option.bind_some, if_true, if_false, Bool.false_eq_true, reduceIte, decide_true, decide_false, decide_eq_true_eq, imp_self, forall_const])
theorem eqF_OS (x y : Option Str) : eqF (dOS x) (dOS y) = decide (x = y) := by
  cases x with
  | none => cases y <;> rfl
  | some x =>
    cases y with
    | none => rfl
    | some y =>
      show L2.eqV (.str x) (.str y) = _
      by_cases h : x = y
      · rw [h]; simp [L2.eqV]
      · simp [L2.eqV, h]
theorem inD_OS (x : Option Str) (l : List (Option Str)) : inD (dOS x) (l.map dOS) = decide (x ∈ l) := by
  unfold inD
  rw [List.any_map]
  induction l with
  | nil => rfl
  | cons y l ih =>
    rw [List.any_cons, ih]
    show (eqF (dOS y) (dOS x) || _) = _
    rw [eqF_OS]
    by_cases h : y = x
    · simp [h]
    · have h' : ¬ x = y := fun e => h e.symm
      simp [h, h']
theorem flat_OS (x : Option Str) : flatD (dOS x) = true := by cases x <;> rfl
theorem flat_OSs (l : List (Option Str)) : (l.map dOS).all flatD = true := by
  rw [List.all_map, List.all_eq_true]
  intro x _; exact flat_OS x
def startCase (f : List Dg) : Cas := ⟨(f.length : Int), 40, f.mapIdx fun i d => ((i : Int), [d])⟩
theorem startCase_ok {f : List Dg} (h : f.length ≤ 40) : okCas (startCase f) := by
  refine ⟨?_, fun q hq => ?_, fun q hq => ?_⟩
  · show ((f.mapIdx fun i d => ((i : Int), [d])).map (·.1)).Nodup
    rw [List.nodup_iff_pairwise_ne, List.pairwise_map, List.pairwise_iff_getElem]
    intro i j hi hj hij
    simp only [List.getElem_mapIdx]
    omega
  · have hq : q ∈ f.mapIdx fun i d => ((i : Int), [d]) := hq
    rw [List.mem_mapIdx] at hq
    obtain ⟨i, hi, rfl⟩ := hq
    show -1 ≤ (i : Int) ∧ (i : Int) < 48
    omega
  · have hq : q ∈ f.mapIdx fun i d => ((i : Int), [d]) := hq
    rw [List.mem_mapIdx] at hq
    obtain ⟨i, hi, rfl⟩ := hq
    show 1 ≤ 16
    omega
def addText (acc : List (Option Str)) (l : Lin) : List (Option Str) := if l.text ∈ acc then acc else acc ++ [l.text]
def textsBehind (b : Book) (f : List Dg) : List (Option Str) := (linesFrom b (startCase f) none none).foldl addText []
theorem addText_len : ∀ (ls : List Lin) (acc : List (Option Str)), (ls.foldl addText acc).length ≤ acc.length + ls.length
  | [], acc => Nat.le_refl _
  | l :: ls, acc => by
    have h := addText_len ls (addText acc l)
    have h2 : (addText acc l).length ≤ acc.length + 1 := by
      unfold addText; split
      · omega
      · rw [List.length_append]; exact Nat.le_refl _
    rw [List.length_cons]
    show (ls.foldl addText (addText acc l)).length ≤ _
    omega
end DL
-- part Pl17
set_option Elab.async false
set_option linter.all false
set_option maxRecDepth 100000
set_option maxHeartbeats 1000000
namespace DL
open PySem PySem.Spec PyProof.Rows L2
local macro_rules | `(tactic| walk_at "dl") => `(tactic| simp (config := {decide := false}) only [sNext, sSeq, sDrop, sRet, sIf, sSet, sAsg, sPar, sStore, sNever, xC, xOp, xB, xChain, xUn, yAnd, yOr, yNot, xAnd, xOr, xNot, xIf, aNil, aCons, xTup, xLst, mk, xCB, xIsi, xSl, xJoin, xIndexS, xIndexL, xAppend, xCall, gN, gT, gCons, gNil, yYes, oNone, oSome, iT, iL, iS, xVar, startD, wipeD,
  fI0, fI, fLt, fLe, fGt, fGe, fSub, fMul, fMod, fDiv, fPow, fAnd, fLen, lenD, fNeg, fIs, isNon, fIx, fAdd, fEq, fIn, fMin2, fMax2, fTuple, fList, fAll, fInt, fStrS, fAbs, tyn, res, seqD, lstD,
  ixt0, ixt1, ixt2, ixt3, k_ii, k_ib, k_it, k_tt, k_ss, k_ns, Bool.not_true, Bool.not_false, Option.map_some,
  List.map_cons, List.map_nil, List.length_cons, List.length_nil, List.length_map, List.cons_append, List.nil_append, List.getElem?_cons_zero, List.getElem?_cons_succ, List.set_cons_zero, List.set_cons_succ, List.replicate_succ, List.replicate_zero, Nat.reduceAdd, Nat.reduceSub, Nat.reduceLeDiff, Nat.zero_le, true_and, and_true, Option.bind_some, if_true, if_false, Bool.false_eq_true, reduceIte, decide_true, decide_false, decide_eq_true_eq, imp_self, forall_const])
def R_texts_behind : RF := fun ds M P => ∃ (b : Book) (f : List Dg), ds = [dBook b, .str (hx f)] ∧ okBook b ∧ linB ((order b).map (ruleAt b)) 1 0 ≤ 16777216 ∧ f.length ≤ 40 ∧ P (.lst ((textsBehind b f).map dOS)) M
theorem p_texts_behind (ds : List D) (M : Mem) (Q : DK) (h : R_texts_behind ds M Q) : t_texts_behind R_lines_from (en0 Q) (startD N_texts_behind ds) M := by
  obtain ⟨b, f, rfl, ok, hB, hf, q⟩ := h
  have okc := startCase_ok hf
  obtain ⟨l1, l2⟩ := linesFrom_facts ok okc none none
  unfold t_texts_behind
  refine sq (ρ' := [some (dBook b), some (.str (hx f)), some (dCas (startCase f)), none, none, none, none]) (M' := M) (fun K k => ?_) ?_
  · have hl : (hx f).length ≤ 16777216 := by rw [hx_len]; omega
    have e1 : lenD M (.str (hx f)) = some f.length := by
      show (if (hx f).length ≤ 16777216 then some (hx f).length else none) = _
      rw [if_pos hl, hx_len]
    simp only [sSet, xTup, aCons, aNil, xCB, xVar, xC, fLen, List.getElem?_cons_zero, List.getElem?_cons_succ, startD, List.map_cons, List.map_nil, List.cons_append, List.nil_append, e1]
    refine lc_map (xs := f.mapIdx fun i d => (i, d)) (e := fun p => D.tup [.int ((p.1 : Nat) : Int), .str (hx [p.2])]) (fun p => dKey ((p.1 : Int), [p.2])) (fun Q h => ?_) (by rw [List.length_mapIdx]; omega) (fun p hp K k => ?_) ?_
    · show Q (enD (chD (hx f))) M
      rw [hx_chars, enD_map]; exact h
    · unfold D_DIGITS
      walk_at "dl"
      rw [index_dg]
      exact k
    · have e2 : (f.mapIdx fun i d => (i, d)).map (fun p => dKey ((p.1 : Int), [p.2])) = (startCase f).digs.map dKey := by
        unfold startCase
        apply List.ext_getElem?
        intro i
        simp only [List.getElem?_map, List.getElem?_mapIdx]
        cases f[i]? <;> rfl
      rw [e2]
      exact ⟨by show 3 ≤ 16777216; omega, k⟩
  refine sq (ρ' := [some (dBook b), some (.str (hx f)), some (dCas (startCase f)), none, none, some (.lst []), none]) (M' := M) (fun K k => ⟨Nat.zero_le _, k⟩) ?_
  refine for_go (xs := linesFrom b (startCase f) none none) (e := dLin) (fun pre ρ M' => M' = M ∧ ∃ x6, ρ = [some (dBook b), some (.str (hx f)), some (dCas (startCase f)), none, none, some (.lst ((pre.foldl addText []).map dOS)), x6]) (fun Q h => ⟨b, startCase f, none, none, rfl, ok, okc, hB, h⟩) ⟨rfl, none, rfl⟩ ?_ ?_
  · rintro pre l post hts ρ M' ⟨rfl, x6, rfl⟩
    have hpl : pre.length + 1 ≤ (linesFrom b (startCase f) none none).length := by rw [hts, List.length_append, List.length_cons]; omega
    have hal := addText_len pre []
    rw [List.length_nil] at hal
    have es : (pre ++ [l]).foldl addText [] = addText (pre.foldl addText []) l := by rw [List.foldl_append]; rfl
    rw [es]
    obtain ⟨acc, hacc⟩ : ∃ acc, acc = pre.foldl addText [] := ⟨_, rfl⟩
    rw [← hacc] at hal ⊢
    simp only [gN, List.set_cons_succ, List.set_cons_zero]
    have ct : ∀ K : Bool → Mem → Prop, K (!decide (l.text ∈ acc)) M' → (xB (xOp (fIn true) (xOp fIx (xVar 6) (xC (.int 0))) (xVar 5))) [some (dBook b), some (.str (hx f)), some (dCas (startCase f)), none, none, some (.lst (acc.map dOS)), some (dLin l)] M' K := fun K k => by
      unfold dLin
      walk_at "dl"
      refine ⟨flat_OS _, flat_OSs _, ?_⟩
      rw [inD_OS]
      exact k
    by_cases hm : l.text ∈ acc
    · have e3 : addText acc l = acc := if_pos hm
      rw [e3]
      rw [decide_eq_true hm] at ct
      exact if_f (M' := M') ct ⟨rfl, some (dLin l), rfl⟩
    · have e3 : addText acc l = acc ++ [l.text] := if_neg hm
      rw [e3]
      rw [decide_eq_false hm] at ct
      refine if_t (M' := M') ct ?_
      have e4 : (acc ++ [l.text]).map dOS = acc.map dOS ++ [dOS l.text] := by rw [List.map_append]; rfl
      rw [e4]
      unfold dLin
      walk_at "dl"
      exact ⟨by omega, some (dLin l), rfl⟩
  · rintro ρ M' ⟨rfl, x6, rfl⟩
    exact q
end DL
-- part Pl18
set_option Elab.async false
set_option linter.all false
set_option maxRecDepth 100000
set_option maxHeartbeats 1000000
namespace DL
open PySem PySem.Spec PyProof.Rows L2
local macro_rules | `(tactic| walk_at "dl") => `(tactic| simp (config := {decide := false}) only [sNext, sSeq, sDrop, sRet, sIf, sSet, sAsg, sPar, sStore, sNever, xC, xOp, xB, xChain, xUn, yAnd, yOr, yNot, xAnd, xOr, xNot, xIf, aNil, aCons, xTup, xLst, mk, xCB, xIsi, xSl, xJoin, xIndexS, xIndexL, xAppend, xCall, gN, gT, gCons, gNil, yYes, oNone, oSome, iT, iL, iS, xVar, startD, wipeD,
  fI0, fI, fLt, fLe, fGt, fGe, fSub, fMul, fMod, fDiv, fPow, fAnd, fLen, lenD, fNeg, fIs, isNon, fIx, fAdd, fEq, fIn, fMin2, fMax2, fTuple, fList, fAll, fInt, fStrS, fAbs, tyn, res, seqD, lstD,
  ixt0, ixt1, ixt2, ixt3, k_ii, k_ib, k_it, k_tt, k_ss, k_ns, Bool.not_true, Bool.not_false, Option.map_some,
  List.map_cons, List.map_nil, List.length_cons, List.length_nil, List.length_map, List.cons_append, List.nil_append, List.getElem?_cons_zero, List.getElem?_cons_succ, List.set_cons_zero, List.set_cons_succ, List.replicate_succ, List.replicate_zero, Nat.reduceAdd, Nat.reduceSub, Nat.reduceLeDiff, Nat.zero_le, true_and, and_true, Option.bind_some, if_true, if_false, Bool.false_eq_true, reduceIte, decide_true, decide_false, decide_eq_true_eq, imp_self, forall_const])
theorem textsBehind_len {b : Book} (ok : okBook b) (hB : linB ((order b).map (ruleAt b)) 1 0 ≤ 16777216) {f : List Dg} (hf : f.length ≤ 40) : (textsBehind b f).length ≤ 16777216 := by
  have h1 := addText_len (linesFrom b (startCase f) none none) []
  have h2 := (linesFrom_facts ok (startCase_ok hf) none none).2
  rw [List.length_nil] at h1
  unfold textsBehind
  omega
def somes (l : List (Option Str)) : List Str := l.filterMap id
def R_possible : RF := fun ds M P => ∃ (b : Book) (f : List Dg), ds = [dBook b, .str (hx f)] ∧ okBook b ∧ linB ((order b).map (ruleAt b)) 1 0 ≤ 16777216 ∧ f.length ≤ 40 ∧
  P (.tup [.lst ((isort leS (somes (textsBehind b f))).map D.str), .bl (decide (none ∈ textsBehind b f))]) M
theorem p_possible (ds : List D) (M : Mem) (Q : DK) (h : R_possible ds M Q) : t_possible R_need_book R_need_file R_texts_behind (en0 Q) (startD N_possible ds) M := by
  obtain ⟨b, f, rfl, ok, hB, hf, q⟩ := h
  have htl := textsBehind_len ok hB hf
  unfold t_possible
  refine sq (ρ' := [some (dBook b), some (.str (hx f)), none, none]) (M' := M) (fun K k => ⟨b, rfl, ok, k⟩) ?_
  refine sq (ρ' := [some (dBook b), some (.str (hx f)), none, none]) (M' := M) (fun K k => ⟨hx f, rfl, by rw [hx_len]; exact hf, hx_signs f, k⟩) ?_
  refine sq (ρ' := [some (dBook b), some (.str (hx f)), some (.lst ((textsBehind b f).map dOS)), none]) (M' := M) (fun K k => ⟨b, f, rfl, ok, hB, hf, k⟩) ?_
  simp only [sRet, xTup, aCons, aNil, xCB]
  refine lc_pure (xs := textsBehind b f) (e := dOS) (out := fun o => o.map D.str) (fun Q h => h) htl (fun o ho K k => ?_) ?_
  · cases o with
    | none => exact k
    | some x => exact k
  · have e1 : (textsBehind b f).filterMap (fun o => o.map D.str) = (somes (textsBehind b f)).map D.str := by
      unfold somes
      rw [List.map_filterMap]
      rfl
    have e2 : txts ((somes (textsBehind b f)).map D.str) = some (somes (textsBehind b f)) := by
      have := txts_map (fun x : Str => x) (somes (textsBehind b f))
      rw [List.map_id'] at this
      exact this
    rw [e1]
    show (match txts ((somes (textsBehind b f)).map D.str) with | some xs => _ | none => False)
    rw [e2]
    refine ⟨rfl, flat_OSs _, ?_⟩
    have e3 := inD_OS none (textsBehind b f)
    have e3 : inD .non ((textsBehind b f).map dOS) = decide (none ∈ textsBehind b f) := e3
    refine ⟨by show 2 ≤ 16777216; omega, ?_⟩
    simp only [Bool.false_eq_true, if_false, e3]
    exact q
end DL
-- part Pl19
set_option Elab.async false
set_option linter.all false
set_option maxRecDepth 100000
set_option maxHeartbeats 1000000
namespace DL
open PySem PySem.Spec PyProof.Rows L2
local macro_rules | `(tactic| walk_at "dl") => `(tactic| simp (config := {decide := false}) only [sNext, sSeq, sDrop, sRet, sIf, sSet, sAsg, sPar, sStore, sNever, xC, xOp, xB, xChain, xUn, yAnd, yOr, yNot, xAnd, xOr, xNot, xIf, aNil, aCons, xTup, xLst, mk, xCB, xIsi, xSl, xJoin, xIndexS, xIndexL, xAppend, xCall, gN, gT, gCons, gNil, yYes, oNone, oSome, iT, iL, iS, xVar, startD, wipeD,
  fI0, fI, fLt, fLe, fGt, fGe, fSub, fMul, fMod, fDiv, fPow, fAnd, fLen, lenD, fNeg, fIs, isNon, fIx, fAdd, fEq, fIn, fMin2, fMax2, fTuple, fList, fAll, fInt, fStrS, fAbs, tyn, res, seqD, lstD,
  ixt0, ixt1, ixt2, ixt3, k_ii, k_ib, k_it, k_tt, k_ss, k_ns, Bool.not_true, Bool.not_false, Option.map_some,
  List.map_cons, List.map_nil, List.length_cons, List.length_nil, List.length_map, List.cons_append, List.nil_append, List.getElem?_cons_zero, List.getElem?_cons_succ, List.set_cons_zero, List.set_cons_succ, List.replicate_succ, List.replicate_zero, Nat.reduceAdd, Nat.reduceSub, Nat.reduceLeDiff, Nat.zero_le, true_and, and_true, Option.bind_some, if_true, if_false, Bool.false_eq_true, reduceIte, decide_true, decide_false, decide_eq_true_eq, imp_self, forall_const])
def isSure (b : Book) (f : List Dg) : Bool := decide ((textsBehind b f).length = 1)
def R_is_sure : RF := fun ds M P => ∃ (b : Book) (f : List Dg), ds = [dBook b, .str (hx f)] ∧ okBook b ∧ linB ((order b).map (ruleAt b)) 1 0 ≤ 16777216 ∧ f.length ≤ 40 ∧ P (.bl (isSure b f)) M
theorem p_is_sure (ds : List D) (M : Mem) (Q : DK) (h : R_is_sure ds M Q) : t_is_sure R_texts_behind (en0 Q) (startD N_is_sure ds) M := by
  obtain ⟨b, f, rfl, ok, hB, hf, q⟩ := h
  unfold t_is_sure
  simp only [sRet, xOp, xCB, aCons, aNil, xCall]
  refine ⟨b, f, rfl, ok, hB, hf, ?_⟩
  refine ⟨rfl, ?_⟩
  have e : deqN 9 (.int (((textsBehind b f).map dOS).length : Nat)) (.int 1) = isSure b f := by
    rw [dq_int, List.length_map]
    unfold isSure
    by_cases h : (textsBehind b f).length = 1
    · rw [decide_eq_true h, decide_eq_true (by omega)]
    · rw [decide_eq_false h, decide_eq_false (by omega)]
  show Q (.bl (deqN 9 (.int (((textsBehind b f).map dOS).length : Nat)) (.int 1))) M
  rw [e]; exact q
end DL
-- part Pl20
set_option Elab.async false
set_option linter.all false
set_option maxRecDepth 100000
set_option maxHeartbeats 1000000
namespace DL
open PySem PySem.Spec PyProof.Rows L2
local macro_rules | `(tactic| walk_at "dl") => `(tactic| simp (config := {decide := false}) only [sNext, sSeq, sDrop, sRet, sIf, sSet, sAsg, sPar, sStore, sNever, xC, xOp, xB, xChain, xUn, yAnd, yOr, yNot, xAnd, xOr, xNot, xIf, aNil, aCons, xTup, xLst, mk, xCB, xIsi, xSl, xJoin, xIndexS, xIndexL, xAppend, xCall, gN, gT, gCons, gNil, yYes, oNone, oSome, iT, iL, iS, xVar, startD, wipeD,
  fI0, fI, fLt, fLe, fGt, fGe, fSub, fMul, fMod, fDiv, fPow, fAnd, fLen, lenD, fNeg, fIs, isNon, fIx, fAdd, fEq, fIn, fMin2, fMax2, fTuple, fList, fAll, fInt, fStrS, fAbs, tyn, res, seqD, lstD,
  ixt0, ixt1, ixt2, ixt3, k_ii, k_ib, k_it, k_tt, k_ss, k_ns, Bool.not_true, Bool.not_false, Option.map_some,
  List.map_cons, List.map_nil, List.length_cons, List.length_nil, List.length_map, List.cons_append, List.nil_append, List.getElem?_cons_zero, List.getElem?_cons_succ, List.set_cons_zero, List.set_cons_succ, List.replicate_succ, List.replicate_zero, Nat.reduceAdd, Nat.reduceSub, Nat.reduceLeDiff, Nat.zero_le, true_and, and_true, Option.bind_some, if_true, if_false, Bool.false_eq_true, reduceIte, decide_true, decide_false, decide_eq_true_eq, imp_self, forall_const])
theorem cut_hx (f : List Dg) (n : Nat) : cutS (hx f) none (some (n : Int)) = hx (f.take n) := by
  unfold cutS
  rw [HT.sIx_nat, HT.sIx_none, hx_len]
  unfold hx
  congr 1
  rw [List.toList_toArray, Nat.sub_zero, List.drop_zero, ← List.map_take]
  congr 1
  rcases Nat.le_total n f.length with h | h
  · rw [Nat.min_eq_left h]
  · rw [Nat.min_eq_right h, List.take_of_length_le h, List.take_of_length_le (Nat.le_refl _)]
def sureAt (b : Book) (f : List Dg) : Option Nat := (List.range (f.length + 1)).find? fun n => isSure b (f.take n)
def dON : Option Nat → D
  | none => .non
  | some n => .int (n : Int)
def R_sure_at : RF := fun ds M P => ∃ (b : Book) (f : List Dg), ds = [dBook b, .str (hx f)] ∧ okBook b ∧ linB ((order b).map (ruleAt b)) 1 0 ≤ 16777216 ∧ f.length ≤ 40 ∧ P (dON (sureAt b f)) M
theorem p_sure_at (ds : List D) (M : Mem) (Q : DK) (h : R_sure_at ds M Q) : t_sure_at R_need_book R_need_file R_is_sure (en0 Q) (startD N_sure_at ds) M := by
  obtain ⟨b, f, rfl, ok, hB, hf, q⟩ := h
  have hl : (hx f).length ≤ 16777216 := by rw [hx_len]; omega
  unfold t_sure_at
  refine sq (ρ' := [some (dBook b), some (.str (hx f)), none]) (M' := M) (fun K k => ⟨b, rfl, ok, k⟩) ?_
  refine sq (ρ' := [some (dBook b), some (.str (hx f)), none]) (M' := M) (fun K k => ⟨hx f, rfl, by rw [hx_len]; exact hf, hx_signs f, k⟩) ?_
  refine for_go (xs := List.range (f.length + 1)) (e := fun n => D.int ((n : Nat) : Int)) (fun pre ρ M' => M' = M ∧ (∀ n ∈ pre, isSure b (f.take n) = false) ∧ ∃ x, ρ = [some (dBook b), some (.str (hx f)), x]) (fun Q h => ?_) ⟨rfl, (fun n hn => by cases hn), none, rfl⟩ ?_ ?_
  · have e1 : lenD M (.str (hx f)) = some f.length := by
      show (if (hx f).length ≤ 16777216 then some (hx f).length else none) = _
      rw [if_pos hl, hx_len]
    simp only [iR1, xOp, xCB, aCons, aNil, xVar, xC, fLen, List.getElem?_cons_zero, List.getElem?_cons_succ, e1, fAdd]
    refine ⟨by omega, by omega, ?_⟩
    have e2 : rgD 0 ((f.length : Int) + 1).toNat = (List.range (f.length + 1)).map fun n => D.int ((n : Nat) : Int) := by
      unfold rgD
      have : ((f.length : Int) + 1).toNat = f.length + 1 := by omega
      rw [this]
      apply List.map_congr_left
      intro n _
      rw [Int.zero_add]
    rw [e2]; exact h
  · rintro pre n post hts ρ M' ⟨rfl, hpre, x, rfl⟩
    simp only [gN, List.set_cons_succ, List.set_cons_zero]
    have ct : ∀ K : Bool → Mem → Prop, K (isSure b (f.take n)) M' → (xB (xCall R_is_sure (aCons (xVar 0) (aCons (xSl false (xVar 1) oNone (oSome (xVar 2))) aNil)))) [some (dBook b), some (.str (hx f)), some (.int (n : Int))] M' K := fun K k =>
      ⟨hl, b, f.take n, by rw [cut_hx], ok, hB, by rw [List.length_take]; omega, k⟩
    cases e : isSure b (f.take n) with
    | true =>
      rw [e] at ct
      refine if_t (M' := M') ct ?_
      have es : sureAt b f = some n := by
        unfold sureAt
        rw [hts, List.find?_append, List.find?_eq_none.mpr (fun j hj => by rw [hpre j hj]; decide)]
        simp [e]
      rw [es] at q
      exact q
    | false =>
      rw [e] at ct
      refine if_f (M' := M') ct ⟨rfl, fun j hj => ?_, some (.int (n : Int)), rfl⟩
      rcases List.mem_append.mp hj with z | z
      · exact hpre j z
      · rw [List.mem_singleton.mp z]; exact e
  · rintro ρ M' ⟨rfl, hpre, x, rfl⟩
    have es : sureAt b f = none := by
      unfold sureAt
      exact List.find?_eq_none.mpr (fun j hj => by rw [hpre j hj]; decide)
    rw [es] at q
    exact q
end DL
-- part Pl21
set_option Elab.async false
set_option linter.all false
set_option maxRecDepth 100000
set_option maxHeartbeats 1000000
namespace DL
open PySem PySem.Spec PyProof.Rows L2
local macro_rules | `(tactic| walk_at "dl") => `(tactic| simp (config := {decide := false}) only [sNext, sSeq, sDrop, sRet, sIf, sSet, sAsg, sPar, sStore, sNever, xC, xOp, xB, xChain, xUn, yAnd, yOr, yNot, xAnd, xOr, xNot, xIf, aNil, aCons, xTup, xLst, mk, xCB, xIsi, xSl, xJoin, xIndexS, xIndexL, xAppend, xCall, gN, gT, gCons, gNil, yYes, oNone, oSome, iT, iL, iS, xVar, startD, wipeD,
  fI0, fI, fLt, fLe, fGt, fGe, fSub, fMul, fMod, fDiv, fPow, fAnd, fLen, lenD, fNeg, fIs, isNon, fIx, fAdd, fEq, fIn, fMin2, fMax2, fTuple, fList, fAll, fInt, fStrS, fAbs, tyn, res, seqD, lstD,
  ixt0, ixt1, ixt2, ixt3, k_ii, k_ib, k_it, k_tt, k_ss, k_ns, Bool.not_true, Bool.not_false, Option.map_some,
  List.map_cons, List.map_nil, List.length_cons, List.length_nil, List.length_map, List.cons_append, List.nil_append, List.getElem?_cons_zero, List.getElem?_cons_succ, List.set_cons_zero, List.set_cons_succ, List.replicate_succ, List.replicate_zero, Nat.reduceAdd, Nat.reduceSub, Nat.reduceLeDiff, Nat.zero_le, true_and, and_true, Option.bind_some, if_true, if_false, Bool.false_eq_true, reduceIte, decide_true, decide_false, decide_eq_true_eq, imp_self, forall_const])
/-! ### the law's draws: any number that may come -/
def Src (M : Mem) (a : Addr) : Prop := ∃ c r : Int, M a = some [.int c, .int r]
theorem src_upd {M : Mem} {a : Addr} {c r : Int} : Src (updM M a [.int c, .int r]) a := ⟨c, r, updM_same⟩
def R_law_draw : RF := fun ds M P => ∃ (a : Addr) (size : Int), ds = [.box a, .int size] ∧ Src M a ∧ (0 < size ∧ size < 1073741824) ∧
  ∀ n c r : Int, 0 ≤ n → n < size → P (.int n) (updM M a [.int c, .int r])
theorem ixb0 {M : Mem} {a : Addr} {c r : Int} (h : M a = some [.int c, .int r]) : ixD M (.box a) 0 = some (.int c) := by
  show (M a).bind _ = _
  rw [h]; exact atI_nat (xs := [D.int c, D.int r]) (i := 0) (x := D.int c) rfl
theorem ixb1 {M : Mem} {a : Addr} {c r : Int} (h : M a = some [.int c, .int r]) : ixD M (.box a) 1 = some (.int r) := by
  show (M a).bind _ = _
  rw [h]; exact atI_nat (xs := [D.int c, D.int r]) (i := 1) (x := D.int r) rfl
theorem p_law_draw (ds : List D) (M : Mem) (Q : DK) (h : R_law_draw ds M Q) : t__law_draw (en0 Q) (startD N__law_draw ds) M := by
  obtain ⟨a, size, rfl, ⟨c, r, hM⟩, hs, q⟩ := h
  have h0 := ixb0 hM
  have h1 := ixb1 hM
  unfold t__law_draw
  have ct : ∀ K : Bool → Mem → Prop, K (decide (0 < c)) M → (xB (xOp fGt (xOp fIx (xVar 0) (xC (.int 0))) (xC (.int 0)))) [some (.box a), some (.int size), none] M K := fun K k => by
    walk_at "dl"
    rw [h0]
    exact k
  by_cases hc : 0 < c
  · rw [decide_eq_true hc] at ct
    refine sif_t (M' := M) ct ?_
    refine sq (ρ' := [some (.box a), some (.int size), some (.int (c % size))]) (M' := M) (fun K k => ?_) ?_
    · walk_at "dl"
      rw [h0]
      exact ⟨hs.1, k⟩
    refine sq (ρ' := [some (.box a), some (.int size), some (.int (c % size))]) (M' := updM M a [.int (c / size), .int r]) (fun K k => ?_) ?_
    · walk_at "dl"
      rw [h0]
      refine ⟨hs, ?_⟩
      show (match M a with | some ds => _ | none => False)
      rw [hM]
      exact k
    · exact q _ _ _ (Int.emod_nonneg _ (by omega)) (Int.emod_lt_of_pos _ hs.1)
  · rw [decide_eq_false hc] at ct
    refine sif_f (M' := M) ct ?_
    refine sq (ρ' := [some (.box a), some (.int size), none]) (M' := updM M a [.int c, .int ((r * 48271) % 2147483647)]) (fun K k => ?_) ?_
    · walk_at "dl"
      rw [h1]
      refine ⟨.inr ⟨by omega, by omega⟩, by omega, ?_⟩
      show (match M a with | some ds => _ | none => False)
      rw [hM]
      exact k
    · have h2 := ixb1 (M := updM M a [.int c, .int ((r * 48271) % 2147483647)]) (a := a) updM_same
      have hr0 : 0 ≤ (r * 48271) % 2147483647 := Int.emod_nonneg _ (by omega)
      have hr1 : (r * 48271) % 2147483647 < 2147483647 := Int.emod_lt_of_pos _ (by omega)
      walk_at "dl"
      rw [h2]
      exact ⟨.inl ⟨by omega, by omega⟩, by omega, ⟨by omega, by omega⟩, hs.1, q _ _ _ (Int.emod_nonneg _ (by omega)) (Int.emod_lt_of_pos _ hs.1)⟩
end DL
-- part Pl22
set_option Elab.async false
set_option linter.all false
set_option maxRecDepth 100000
set_option maxHeartbeats 1000000
namespace DL
open PySem PySem.Spec PyProof.Rows L2
local macro_rules | `(tactic| walk_at "dl") => `(tactic| simp (config := {decide := false}) only [sNext, sSeq, sDrop, sRet, sIf, sSet, sAsg, sPar, sStore, sNever, xC, xOp, xB, xChain, xUn, yAnd, yOr, yNot, xAnd, xOr, xNot, xIf, aNil, aCons, xTup, xLst, mk, xCB, xIsi, xSl, xJoin, xIndexS, xIndexL, xAppend, xCall, gN, gT, gCons, gNil, yYes, oNone, oSome, iT, iL, iS, xVar, startD, wipeD,
  fI0, fI, fLt, fLe, fGt, fGe, fSub, fMul, fMod, fDiv, fPow, fAnd, fLen, lenD, fNeg, fIs, isNon, fIx, fAdd, fEq, fIn, fMin2, fMax2, fTuple, fList, fAll, fInt, fStrS, fAbs, tyn, res, seqD, lstD,
  ixt0, ixt1, ixt2, ixt3, k_ii, k_ib, k_it, k_tt, k_ss, k_ns, Bool.not_true, Bool.not_false, Option.map_some,
  List.map_cons, List.map_nil, List.length_cons, List.length_nil, List.length_map, List.cons_append, List.nil_append, List.getElem?_cons_zero, List.getElem?_cons_succ, List.set_cons_zero, List.set_cons_succ, List.replicate_succ, List.replicate_zero, Nat.reduceAdd, Nat.reduceSub, Nat.reduceLeDiff, Nat.zero_le, true_and, and_true, Option.bind_some, if_true, if_false, Bool.false_eq_true, reduceIte, decide_true, decide_false, decide_eq_true_eq, imp_self, forall_const])
def R_law_choice : RF := fun ds M P => ∃ (a : Addr) (items : List D), ds = [.box a, .lst items] ∧ Src M a ∧ 1 ≤ items.length ∧ items.length < 1073741824 ∧ ∀ x ∈ items, ∀ c r : Int, P x (updM M a [.int c, .int r])
theorem p_law_choice (ds : List D) (M : Mem) (Q : DK) (h : R_law_choice ds M Q) : t__law_choice R_law_draw (en0 Q) (startD N__law_choice ds) M := by
  obtain ⟨a, items, rfl, hM, h1, h2, q⟩ := h
  unfold t__law_choice
  simp only [sRet, xOp, xCB, xCall, aCons, aNil, xVar, startD, List.map_cons, List.map_nil, List.cons_append, List.nil_append, List.getElem?_cons_zero, List.getElem?_cons_succ]
  refine ⟨a, (items.length : Int), rfl, hM, by omega, fun n c r hn0 hn1 => ?_⟩
  have hn : n.toNat < items.length := by omega
  have e : ixD (updM M a [.int c, .int r]) (.lst items) n = some items[n.toNat] := by
    have := atI_nat (xs := items) (i := n.toNat) (x := items[n.toNat]) (List.getElem?_eq_getElem hn)
    have en : ((n.toNat : Nat) : Int) = n := by omega
    rw [en] at this
    exact this
  show (match ixD (updM M a [.int c, .int r]) (.lst items) n with | some d' => Q d' _ | none => False)
  rw [e]
  exact q _ (List.getElem_mem hn) c r
end DL
-- part Pl23
set_option Elab.async false
set_option linter.all false
set_option maxRecDepth 100000
set_option maxHeartbeats 1000000
namespace DL
open PySem PySem.Spec PyProof.Rows L2
local macro_rules | `(tactic| walk_at "dl") => `(tactic| simp (config := {decide := false}) only [sNext, sSeq, sDrop, sRet, sIf, sSet, sAsg, sPar, sStore, sNever, xC, xOp, xB, xChain, xUn, yAnd, yOr, yNot, xAnd, xOr, xNot, xIf, aNil, aCons, xTup, xLst, mk, xCB, xIsi, xSl, xJoin, xIndexS, xIndexL, xAppend, xCall, gN, gT, gCons, gNil, yYes, oNone, oSome, iT, iL, iS, xVar, startD, wipeD,
  fI0, fI, fLt, fLe, fGt, fGe, fSub, fMul, fMod, fDiv, fPow, fAnd, fLen, lenD, fNeg, fIs, isNon, fIx, fAdd, fEq, fIn, fMin2, fMax2, fTuple, fList, fAll, fInt, fStrS, fAbs, tyn, res, seqD, lstD,
  ixt0, ixt1, ixt2, ixt3, k_ii, k_ib, k_it, k_tt, k_ss, k_ns, Bool.not_true, Bool.not_false, Option.map_some,
  List.map_cons, List.map_nil, List.length_cons, List.length_nil, List.length_map, List.cons_append, List.nil_append, List.getElem?_cons_zero, List.getElem?_cons_succ, List.set_cons_zero, List.set_cons_succ, List.replicate_succ, List.replicate_zero, Nat.reduceAdd, Nat.reduceSub, Nat.reduceLeDiff, Nat.zero_le, true_and, and_true, Option.bind_some, if_true, if_false, Bool.false_eq_true, reduceIte, decide_true, decide_false, decide_eq_true_eq, imp_self, forall_const])
/-- a test as the law draws it -/
structure lawTst (most : Int) (t : Tst) : Prop where
  pl : ∃ p, t.w = .pl p ∧ 0 ≤ p ∧ p ≤ most
  how : okHow t.how
  val : 0 ≤ t.val ∧ t.val ≤ 15
def R_law_test : RF := fun ds M P => ∃ (a : Addr) (most : Int), ds = [.box a, .int most] ∧ Src M a ∧ 0 ≤ most ∧ most ≤ 1000 ∧ ∀ t : Tst, lawTst most t → ∀ c r : Int, P (dTst t) (updM M a [.int c, .int r])
theorem p_law_test (ds : List D) (M : Mem) (Q : DK) (h : R_law_test ds M Q) : t__law_test R_law_choice R_law_draw (en0 Q) (startD N__law_test ds) M := by
  obtain ⟨a, most, rfl, hM, h1, h2, q⟩ := h
  unfold t__law_test
  simp only [sSeq, sSet, sRet, xTup, xLst, mk, xOp, xC, xCB, xCall, aCons, aNil, xVar, startD, List.map_cons, List.map_nil, List.cons_append, List.nil_append, List.getElem?_cons_zero, List.getElem?_cons_succ]
  refine ⟨by show 6 ≤ 16777216; omega, a, _, rfl, hM, by show 1 ≤ 6; omega, by show 6 < 1073741824; omega, fun x hx c r => ?_⟩
  obtain ⟨how, rfl, hh⟩ : ∃ how : Str, x = .str how ∧ okHow how := by
    simp only [List.mem_cons, List.not_mem_nil, or_false] at hx
    rcases hx with e | e | e | e | e | e
    · exact ⟨_, e, .inl rfl⟩
    · exact ⟨_, e, .inl rfl⟩
    · exact ⟨_, e, .inr (.inl rfl)⟩
    · exact ⟨_, e, .inr (.inr (.inl rfl))⟩
    · exact ⟨_, e, .inr (.inr (.inr (.inl rfl)))⟩
    · exact ⟨_, e, .inr (.inr (.inr (.inr rfl)))⟩
  refine ⟨a, most + 1, rfl, src_upd, by omega, fun n c2 r2 hn0 hn1 => ?_⟩
  refine ⟨by show 7 ≤ 16777216; omega, a, _, rfl, src_upd, by show 1 ≤ 7; omega, by show 7 < 1073741824; omega, fun y hy c3 r3 => ?_⟩
  obtain ⟨v, rfl, hv⟩ : ∃ v : Int, y = .int v ∧ 0 ≤ v ∧ v ≤ 15 := by
    simp only [List.mem_cons, List.not_mem_nil, or_false] at hy
    rcases hy with e | e | e | e | e | e | e <;> exact ⟨_, e, by omega, by omega⟩
  refine ⟨by show 3 ≤ 16777216; omega, ?_⟩
  rw [updM_updM, updM_updM]
  exact q ⟨.pl n, how, v⟩ ⟨⟨n, rfl, hn0, by omega⟩, hh, hv⟩ c3 r3
end DL
-- part Pl24
set_option Elab.async false
set_option linter.all false
set_option maxRecDepth 100000
set_option maxHeartbeats 1000000
namespace DL
open PySem PySem.Spec PyProof.Rows L2
local macro_rules | `(tactic| walk_at "dl") => `(tactic| simp (config := {decide := false}) only [sNext, sSeq, sDrop, sRet, sIf, sSet, sAsg, sPar, sStore, sNever, xC, xOp, xB, xChain, xUn, yAnd, yOr, yNot, xAnd, xOr, xNot, xIf, aNil, aCons, xTup, xLst, mk, xCB, xIsi, xSl, xJoin, xIndexS, xIndexL, xAppend, xCall, gN, gT, gCons, gNil, yYes, oNone, oSome, iT, iL, iS, xVar, startD, wipeD,
  fI0, fI, fLt, fLe, fGt, fGe, fSub, fMul, fMod, fDiv, fPow, fAnd, fLen, lenD, fNeg, fIs, isNon, fIx, fAdd, fEq, fIn, fMin2, fMax2, fTuple, fList, fAll, fInt, fStrS, fAbs, tyn, res, seqD, lstD,
  ixt0, ixt1, ixt2, ixt3, k_ii, k_ib, k_it, k_tt, k_ss, k_ns, Bool.not_true, Bool.not_false, Option.map_some,
  List.map_cons, List.map_nil, List.length_cons, List.length_nil, List.length_map, List.cons_append, List.nil_append, List.getElem?_cons_zero, List.getElem?_cons_succ, List.set_cons_zero, List.set_cons_succ, List.replicate_succ, List.replicate_zero, Nat.reduceAdd, Nat.reduceSub, Nat.reduceLeDiff, Nat.zero_le, true_and, and_true, Option.bind_some, if_true, if_false, Bool.false_eq_true, reduceIte, decide_true, decide_false, decide_eq_true_eq, imp_self, forall_const])
structure lawRul (most : Int) (r : Rul) : Prop where
  word : okWord r.word
  str : 0 ≤ r.str ∧ r.str < 4
  tl : 1 ≤ r.tests.length ∧ r.tests.length ≤ 2
  ts : ∀ t ∈ r.tests, lawTst most t
  pl : r.parts.length ≤ 1
  ps : ∀ p ∈ r.parts, okWord p.1 ∧ lawTst most p.2
theorem src_eq {M : Mem} {a : Addr} (h : Src M a) : ∃ c r : Int, M = updM M a [.int c, .int r] := by
  obtain ⟨c, r, e⟩ := h
  refine ⟨c, r, ?_⟩
  funext b
  unfold updM
  split
  · rename_i z; rw [z, e]
  · rfl
/-- a comprehension over a range whose items are drawn -/
theorem lc_draw {α : Type} {e : α → D} {ok : α → Prop} {m : Bool} {wi : RI} {g : RG} {te : RE} {vs : List Nat} {ρ : DEnv} {M : Mem} {P : DK} {a : Addr} (ds : List D) (hl : ds.length ≤ 16777216) (hM : Src M a)
    (hw : ∀ Q : List D → Mem → Prop, (∀ c r : Int, Q ds (updM M a [.int c, .int r])) → wi ρ M Q)
    (body : ∀ d ∈ ds, ∀ M', Src M' a → ∀ K : D → Mem → Prop, (∀ x, ok x → ∀ c r : Int, K (e x) (updM M' a [.int c, .int r])) → g d (wipeD ρ vs) M' fun ρ2 M2 => te ρ2 M2 K)
    (hP : ∀ xs : List α, xs.length = ds.length → (∀ x ∈ xs, ok x) → ∀ c r : Int, mk m (xs.map e) (updM M a [.int c, .int r]) P) : xLc m wi g yYes te vs ρ M P := by
  refine hw _ fun c0 r0 => ⟨fun i acc M' => (∃ c r : Int, M' = updM M a [.int c, .int r]) ∧ i ≤ ds.length ∧ ∃ xs : List α, acc = xs.map e ∧ xs.length = i ∧ ∀ x ∈ xs, ok x, ⟨⟨c0, r0, rfl⟩, Nat.zero_le _, [], rfl, rfl, fun x hx => by cases hx⟩, ?_, ?_⟩
  · rintro i d acc M' hd ⟨⟨c, r, rfl⟩, hi, xs, rfl, hxl, hxs⟩
    have hlt : i < ds.length := (List.getElem?_eq_some_iff.mp hd).1
    refine body d (List.mem_of_getElem? hd) _ src_upd (fun y M4 => (xs.map e).length < 16777216 ∧ (∃ c r : Int, M4 = updM M a [.int c, .int r]) ∧ i + 1 ≤ ds.length ∧ ∃ xs' : List α, xs.map e ++ [y] = xs'.map e ∧ xs'.length = i + 1 ∧ ∀ x ∈ xs', ok x) ?_
    intro x hx c2 r2
    rw [updM_updM]
    refine ⟨by rw [List.length_map]; omega, ⟨c2, r2, rfl⟩, hlt, xs ++ [x], by rw [List.map_append]; rfl, by rw [List.length_append, hxl]; rfl, fun z hz => ?_⟩
    rcases List.mem_append.mp hz with w | w
    · exact hxs z w
    · rw [List.mem_singleton.mp w]; exact hx
  · rintro acc M' ⟨⟨c, r, rfl⟩, _, xs, rfl, hxl, hxs⟩
    exact hP xs hxl hxs c r
end DL
-- part Pl25
set_option Elab.async false
set_option linter.all false
set_option maxRecDepth 100000
set_option maxHeartbeats 1000000
namespace DL
open PySem PySem.Spec PyProof.Rows L2
local macro_rules | `(tactic| walk_at "dl") => `(tactic| simp (config := {decide := false}) only [sNext, sSeq, sDrop, sRet, sIf, sSet, sAsg, sPar, sStore, sNever, xC, xOp, xB, xChain, xUn, yAnd, yOr, yNot, xAnd, xOr, xNot, xIf, aNil, aCons, xTup, xLst, mk, xCB, xIsi, xSl, xJoin, xIndexS, xIndexL, xAppend, xCall, gN, gT, gCons, gNil, yYes, oNone, oSome, iT, iL, iS, xVar, startD, wipeD,
  fI0, fI, fLt, fLe, fGt, fGe, fSub, fMul, fMod, fDiv, fPow, fAnd, fLen, lenD, fNeg, fIs, isNon, fIx, fAdd, fEq, fIn, fMin2, fMax2, fTuple, fList, fAll, fInt, fStrS, fAbs, tyn, res, seqD, lstD,
  ixt0, ixt1, ixt2, ixt3, k_ii, k_ib, k_it, k_tt, k_ss, k_ns, Bool.not_true, Bool.not_false, Option.map_some,
  List.map_cons, List.map_nil, List.length_cons, List.length_nil, List.length_map, List.cons_append, List.nil_append, List.getElem?_cons_zero, List.getElem?_cons_succ, List.set_cons_zero, List.set_cons_succ, List.replicate_succ, List.replicate_zero, Nat.reduceAdd, Nat.reduceSub, Nat.reduceLeDiff, Nat.zero_le, true_and, and_true, Option.bind_some, if_true, if_false, Bool.false_eq_true, reduceIte, decide_true, decide_false, decide_eq_true_eq, imp_self, forall_const])
theorem draw_go {α : Type} {e : α → D} {ok : α → Prop} {m : Bool} {g : RG} {te : RE} {vs : List Nat} {ρ : DEnv} {M : Mem} {P : DK} {a : Addr} (ds : List D) (hl : ds.length ≤ 16777216) (hM : Src M a)
    (body : ∀ d ∈ ds, ∀ M', Src M' a → ∀ K : D → Mem → Prop, (∀ x, ok x → ∀ c r : Int, K (e x) (updM M' a [.int c, .int r])) → g d (wipeD ρ vs) M' fun ρ2 M2 => te ρ2 M2 K)
    (hP : ∀ xs : List α, xs.length = ds.length → (∀ x ∈ xs, ok x) → ∀ c r : Int, mk m (xs.map e) (updM M a [.int c, .int r]) P) : xLc m (fun _ M Q => Q ds M) g yYes te vs ρ M P :=
  lc_draw ds hl hM (fun Q h => by obtain ⟨c, r, e⟩ := src_eq hM; rw [e]; exact h c r) body hP
def R_law_rule : RF := fun ds M P => ∃ (a : Addr) (most : Int), ds = [.box a, .int most] ∧ Src M a ∧ 0 ≤ most ∧ most ≤ 1000 ∧ ∀ r : Rul, lawRul most r → ∀ c x : Int, P (dRul r) (updM M a [.int c, .int x])
theorem okw (x : Str) (h : x = "elf" ∨ x = "zip" ∨ x = "gif" ∨ x = "low" ∨ x = "big" ∨ x = "odd" ∨ x = "link") : okWord x := by
  have h2 : x.cps.toList.all (fun c => subS ⟨#[c]⟩ "abcdefghijklmnopqrstuvwxyz") = true ∧ 1 ≤ x.length ∧ x.length ≤ 8 := by
    rcases h with rfl | rfl | rfl | rfl | rfl | rfl | rfl <;> decide +kernel
  exact ⟨h2.2.1, h2.2.2, fun c hc => List.all_eq_true.mp h2.1 c hc⟩
theorem rgD_len (lo : Int) (n : Nat) : (rgD lo n).length = n := by unfold rgD; rw [List.length_map, List.length_range]
theorem p_law_rule (ds : List D) (M : Mem) (Q : DK) (h : R_law_rule ds M Q) : t__law_rule R_law_choice R_law_draw R_law_test (en0 Q) (startD N__law_rule ds) M := by
  obtain ⟨a, most, rfl, hM, h1, h2, q⟩ := h
  unfold t__law_rule
  simp only [sSeq, sSet, sRet, sIf, xTup, xLst, mk, xOp, xC, xCB, xCall, xB, aCons, aNil, xVar, startD, List.map_cons, List.map_nil, List.cons_append, List.nil_append, List.getElem?_cons_zero, List.getElem?_cons_succ, List.set_cons_zero, List.set_cons_succ, List.length_cons, List.length_nil, List.replicate_succ, List.replicate_zero, Nat.reduceAdd, Nat.reduceSub]
  refine ⟨by show 4 ≤ 16777216; omega, a, _, rfl, hM, by show 1 ≤ 4; omega, by show 4 < 1073741824; omega, fun x hx c r => ?_⟩
  obtain ⟨word, rfl, hword⟩ : ∃ word : Str, x = .str word ∧ okWord word := by
    simp only [List.mem_cons, List.not_mem_nil, or_false] at hx
    rcases hx with e | e | e | e
    · exact ⟨_, e, okw _ (.inl rfl)⟩
    · exact ⟨_, e, okw _ (.inr (.inl rfl))⟩
    · exact ⟨_, e, okw _ (.inr (.inr (.inl rfl)))⟩
    · exact ⟨_, e, okw _ (.inr (.inr (.inr (.inl rfl))))⟩
  refine ⟨a, 2, rfl, src_upd, by omega, fun n c2 r2 hn0 hn1 => ?_⟩
  rw [updM_updM]
  refine ⟨by show -(2 ^ 62) ≤ 1 + n; omega, by show 1 + n < 2 ^ 62; omega, ?_⟩
  refine draw_go (e := dTst) (ok := lawTst most) (rgD 0 (1 + n).toNat) (by rw [rgD_len]; omega) src_upd (fun d hd M' hM' K k => ⟨a, most, rfl, hM', h1, h2, k⟩) (fun ts hts hok c3 r3 => ?_)
  rw [rgD_len] at hts
  rw [updM_updM]
  refine ⟨Nat.zero_le _, a, 3, rfl, src_upd, by omega, fun n4 c4 r4 h40 h41 => ?_⟩
  rw [updM_updM]
  refine ⟨rfl, ?_⟩
  show (match deqN 9 (.int n4) (.int 0) with | true => _ | false => _)
  rw [dq_int]
  by_cases e4 : n4 = 0
  · rw [decide_eq_true e4]
    refine ⟨by omega, a, _, rfl, src_upd, by show 1 ≤ 2; omega, by show 2 < 1073741824; omega, fun y hy c5 r5 => ?_⟩
    obtain ⟨pw, rfl, hpw⟩ : ∃ word : Str, y = .str word ∧ okWord word := by
      simp only [List.mem_cons, List.not_mem_nil, or_false] at hy
      rcases hy with e | e
      · exact ⟨_, e, okw _ (.inr (.inr (.inr (.inr (.inl rfl)))))⟩
      · exact ⟨_, e, okw _ (.inr (.inr (.inr (.inr (.inr (.inl rfl))))))⟩
    rw [updM_updM]
    refine ⟨a, most, rfl, src_upd, h1, h2, fun t ht c6 r6 => ?_⟩
    rw [updM_updM]
    refine ⟨by omega, by omega, a, 4, rfl, src_upd, by omega, fun s c7 r7 hs0 hs1 => ?_⟩
    rw [updM_updM]
    refine ⟨by omega, ?_⟩
    exact q ⟨word, s, ts, [(pw, t)]⟩ ⟨hword, ⟨hs0, hs1⟩, ⟨by show 1 ≤ ts.length; omega, by show ts.length ≤ 2; omega⟩, hok, by show 1 ≤ 1; omega, fun p hp => by rw [List.mem_singleton.mp hp]; exact ⟨hpw, ht⟩⟩ c7 r7
  · rw [decide_eq_false e4]
    refine ⟨a, 4, rfl, src_upd, by omega, fun s c7 r7 hs0 hs1 => ?_⟩
    rw [updM_updM]
    refine ⟨by show 4 ≤ 16777216; omega, ?_⟩
    exact q ⟨word, s, ts, []⟩ ⟨hword, ⟨hs0, hs1⟩, ⟨by show 1 ≤ ts.length; omega, by show ts.length ≤ 2; omega⟩, hok, by show 0 ≤ 1; omega, fun p hp => by cases hp⟩ c7 r7
def R_law_book : RF := fun ds M P => ∃ (a : Addr) (most : Int), ds = [.box a, .int most] ∧ Src M a ∧ 0 ≤ most ∧ most ≤ 1000 ∧ ∀ b : Book, b.length ≤ 3 → (∀ r ∈ b, lawRul most r) → ∀ c x : Int, P (dBook b) (updM M a [.int c, .int x])
theorem p_law_book (ds : List D) (M : Mem) (Q : DK) (h : R_law_book ds M Q) : t__law_book R_law_draw R_law_rule (en0 Q) (startD N__law_book ds) M := by
  obtain ⟨a, most, rfl, hM, h1, h2, q⟩ := h
  unfold t__law_book
  refine ⟨a, 4, rfl, hM, by omega, fun n c2 r2 hn0 hn1 => ?_⟩
  refine ⟨by show -(2 ^ 62) ≤ n; omega, by show n < 2 ^ 62; omega, ?_⟩
  refine draw_go (e := dRul) (ok := lawRul most) (rgD 0 n.toNat) (by rw [rgD_len]; omega) src_upd (fun d hd M' hM' K k => ⟨a, most, rfl, hM', h1, h2, k⟩) (fun ts hts hok c3 r3 => ?_)
  rw [rgD_len] at hts
  rw [updM_updM]
  exact q ts (by omega) hok c3 r3
end DL
-- part Sm1
set_option Elab.async false
set_option linter.all false
set_option maxRecDepth 100000
set_option maxHeartbeats 1000000
namespace DL
open PySem PySem.Spec PyProof.Rows L2
/-! ### what a case holds: a length and a digit for each place -/
abbrev Val := Int → Dg
def inC (c : Cas) (n : Int) (v : Val) : Prop := c.lo ≤ n ∧ n ≤ c.hi ∧ ∀ q ∈ c.digs, v q.1 ∈ q.2
structure live (c : Cas) : Prop where
  lo : 0 ≤ c.lo
  le : c.lo ≤ c.hi
  ne : ∀ q ∈ c.digs, q.2 ≠ []
theorem key_inj {α β : Type} {f : α → β} : ∀ {l : List α}, (l.map f).Nodup → ∀ {x y : α}, x ∈ l → y ∈ l → f x = f y → x = y
  | [], _, _, _, hx, _, _ => by cases hx
  | a :: l, h, x, y, hx, hy, e => by
    rw [List.map_cons, List.nodup_cons] at h
    rcases List.mem_cons.mp hx with rfl | hx' <;> rcases List.mem_cons.mp hy with rfl | hy'
    · rfl
    · exact absurd (List.mem_map.mpr ⟨y, hy', e.symm⟩) h.1
    · exact absurd (List.mem_map.mpr ⟨x, hx', e⟩) h.1
    · exact key_inj h.2 hx' hy' e
theorem digitsAt_of_mem {c : Cas} (ok : okCas c) {q : Int × List Dg} (hq : q ∈ c.digs) : digitsAt c q.1 = q.2 := by
  unfold digitsAt
  cases e : c.digs.find? (fun x => decide (x.1 = q.1)) with
  | none =>
    have h := List.find?_eq_none.mp e q hq
    simp at h
  | some y =>
    have h1 : y.1 = q.1 := by simpa using List.find?_some e
    have h2 := List.mem_of_find?_eq_some e
    rw [key_inj ok.nd h2 hq h1]
theorem mem_every : ∀ d : Dg, d ∈ every := by decide
theorem digitsAt_in {c : Cas} {n : Int} {v : Val} (h : inC c n v) (p : Int) : v p ∈ digitsAt c p := by
  unfold digitsAt
  split
  · rename_i q hq
    have e : q.1 = p := by simpa using List.find?_some hq
    rw [← e]; exact h.2.2 q (List.mem_of_find?_eq_some hq)
  · exact mem_every _
theorem digitsAt_ne {c : Cas} (h : live c) (p : Int) : digitsAt c p ≠ [] := by
  unfold digitsAt
  split
  · rename_i q hq
    exact h.ne q (List.mem_of_find?_eq_some hq)
  · decide
theorem live_in {c : Cas} (ok : okCas c) (h : live c) : ∃ v, inC c c.lo v := by
  refine ⟨fun p => (digitsAt c p).headD 0, Int.le_refl _, h.le, fun q hq => ?_⟩
  have e : digitsAt c q.1 = q.2 := digitsAt_of_mem ok hq
  have hn := h.ne q hq
  show (digitsAt c q.1).headD 0 ∈ q.2
  rw [e]
  cases hq2 : q.2 with
  | nil => exact absurd hq2 hn
  | cons d l => exact List.mem_cons_self
theorem in_with {c : Cas} (ok : okCas c) {p : Int} {ds : List Dg} (sub : ∀ d ∈ ds, d ∈ digitsAt c p) {n : Int} {v : Val} : inC (withDigits c p ds) n v ↔ inC c n v ∧ v p ∈ ds := by
  constructor
  · rintro ⟨h1, h2, h3⟩
    have hp : v p ∈ ds := h3 (p, ds) (List.mem_append.mpr (.inr (List.mem_singleton.mpr rfl)))
    refine ⟨⟨h1, h2, fun q hq => ?_⟩, hp⟩
    by_cases e : q.1 = p
    · have h := sub _ hp
      rw [← digitsAt_of_mem ok hq, e]; exact h
    · exact h3 q (List.mem_append.mpr (.inl (List.mem_filter.mpr ⟨hq, by simp [e]⟩)))
  · rintro ⟨⟨h1, h2, h3⟩, hp⟩
    refine ⟨h1, h2, fun q hq => ?_⟩
    rcases List.mem_append.mp hq with z | z
    · exact h3 q (List.mem_filter.mp z).1
    · rw [List.mem_singleton.mp z]; exact hp
theorem live_with {c : Cas} (h : live c) {p : Int} {ds : List Dg} (hd : ds ≠ []) : live (withDigits c p ds) := by
  refine ⟨h.lo, h.le, fun q hq => ?_⟩
  rcases List.mem_append.mp hq with z | z
  · exact h.ne q (List.mem_filter.mp z).1
  · rw [List.mem_singleton.mp z]; exact hd
theorem in_without {c : Cas} {p n : Int} {v : Val} : (∃ x ∈ withoutPlace c p, inC x n v) ↔ inC c n v ∧ ¬ p < n := by
  unfold withoutPlace
  constructor
  · rintro ⟨x, hx, h1, h2, h3⟩
    split at hx
    · rw [List.mem_singleton.mp hx] at h1 h2 h3
      have h2 : n ≤ (if p < c.hi then p else c.hi) := h2
      split at h2
      · exact ⟨⟨h1, by omega, h3⟩, by omega⟩
      · exact ⟨⟨h1, by omega, h3⟩, by omega⟩
    · cases hx
  · rintro ⟨⟨h1, h2, h3⟩, h4⟩
    rw [if_pos (by omega)]
    refine ⟨_, List.mem_singleton.mpr rfl, h1, ?_, h3⟩
    show n ≤ (if p < c.hi then p else c.hi)
    split <;> omega
theorem in_withp {c : Cas} {p n : Int} {v : Val} : (∃ x ∈ withPlace c p, inC x n v) ↔ inC c n v ∧ p < n := by
  unfold withPlace
  constructor
  · rintro ⟨x, hx, h1, h2, h3⟩
    split at hx
    · rw [List.mem_singleton.mp hx] at h1 h2 h3
      have h1 : (if p + 1 > c.lo then p + 1 else c.lo) ≤ n := h1
      split at h1
      · exact ⟨⟨by omega, h2, h3⟩, by omega⟩
      · exact ⟨⟨by omega, h2, h3⟩, by omega⟩
    · cases hx
  · rintro ⟨⟨h1, h2, h3⟩, h4⟩
    rw [if_pos (by omega)]
    refine ⟨_, List.mem_singleton.mpr rfl, ?_, h2, h3⟩
    show (if p + 1 > c.lo then p + 1 else c.lo) ≤ n
    split <;> omega
theorem live_without {c : Cas} (h : live c) {p : Int} : ∀ x ∈ withoutPlace c p, live x := fun x hx => by
  unfold withoutPlace at hx
  have h1 := h.lo
  have h2 := h.le
  split at hx
  · rw [List.mem_singleton.mp hx]
    refine ⟨h1, ?_, h.ne⟩
    show c.lo ≤ (if p < c.hi then p else c.hi)
    split <;> omega
  · cases hx
theorem live_withp {c : Cas} (h : live c) {p : Int} : ∀ x ∈ withPlace c p, live x := fun x hx => by
  unfold withPlace at hx
  have h1 := h.lo
  have h2 := h.le
  split at hx
  · rw [List.mem_singleton.mp hx]
    refine ⟨?_, ?_, h.ne⟩
    · show 0 ≤ (if p + 1 > c.lo then p + 1 else c.lo)
      split <;> omega
    · show (if p + 1 > c.lo then p + 1 else c.lo) ≤ c.hi
      split <;> omega
  · cases hx
/-- a case parted by a truth value -/
structure Parts (c : Cas) (l : List (Bool × Cas)) (f : Int → Val → Bool) : Prop where
  live : live c → ∀ x ∈ l, live x.2
  sub : ∀ x ∈ l, ∀ n v, inC x.2 n v → inC c n v ∧ x.1 = f n v
  cov : ∀ n v, inC c n v → ∃ x ∈ l, inC x.2 n v
theorem splitDigits_sem {t : Cas} (ok : okCas t) (named : Int) (how : Str) (val : Int) : Parts t (splitDigits t named how val) fun n v => fits ((v named).val : Int) how val := by
  have hg : ∀ d ∈ goodD t named how val, d ∈ digitsAt t named := fun d hd => (List.mem_filter.mp hd).1
  have hb : ∀ d ∈ badD t named how val, d ∈ digitsAt t named := fun d hd => (List.mem_filter.mp hd).1
  refine ⟨fun h x hx => ?_, fun x hx n v h => ?_, fun n v h => ?_⟩
  · unfold splitDigits at hx
    rcases List.mem_append.mp hx with z | z
    · split at z
      · cases z
      · rename_i e
        rw [List.mem_singleton.mp z]
        exact live_with h fun e2 => e (by rw [e2]; rfl)
    · split at z
      · cases z
      · rename_i e
        rw [List.mem_singleton.mp z]
        exact live_with h fun e2 => e (by rw [e2]; rfl)
  · unfold splitDigits at hx
    rcases List.mem_append.mp hx with z | z
    · split at z
      · cases z
      · rw [List.mem_singleton.mp z] at h ⊢
        obtain ⟨a, b⟩ := (in_with ok hg).mp h
        exact ⟨a, ((List.mem_filter.mp b).2).symm⟩
    · split at z
      · cases z
      · rw [List.mem_singleton.mp z] at h ⊢
        obtain ⟨a, b⟩ := (in_with ok hb).mp h
        obtain ⟨b1, b2⟩ := List.mem_filter.mp b
        refine ⟨a, ?_⟩
        show false = fits _ how val
        cases e : fits ((v named).val : Int) how val with
        | false => rfl
        | true =>
          have : v named ∈ goodD t named how val := List.mem_filter.mpr ⟨b1, e⟩
          simp [this] at b2
  · have hd := digitsAt_in h named
    unfold splitDigits
    cases e : fits ((v named).val : Int) how val with
    | true =>
      have hm : v named ∈ goodD t named how val := List.mem_filter.mpr ⟨hd, e⟩
      have hne : (goodD t named how val).isEmpty = false := by
        cases q : goodD t named how val with
        | nil => rw [q] at hm; cases hm
        | cons a l => rfl
      rw [hne]
      exact ⟨_, List.mem_append.mpr (.inl (List.mem_singleton.mpr rfl)), (in_with ok hg).mpr ⟨h, hm⟩⟩
    | false =>
      have hm : v named ∈ badD t named how val := List.mem_filter.mpr ⟨hd, by
        have : ¬ v named ∈ goodD t named how val := fun z => by
          have := (List.mem_filter.mp z).2
          rw [e] at this; cases this
        simp [this]⟩
      have hne : (badD t named how val).isEmpty = false := by
        cases q : badD t named how val with
        | nil => rw [q] at hm; cases hm
        | cons a l => rfl
      rw [hne]
      exact ⟨_, List.mem_append.mpr (.inr (List.mem_singleton.mpr rfl)), (in_with ok hb).mpr ⟨h, hm⟩⟩
theorem splitPlace_sem {c : Cas} (ok : okCas c) (p : Int) (how : Str) (val named : Int) : Parts c (splitPlace c p how val named) fun n v => decide (p < n) && fits ((v named).val : Int) how val := by
  unfold splitPlace
  refine ⟨fun h x hx => ?_, fun x hx n v h => ?_, fun n v h => ?_⟩
  · rcases List.mem_append.mp hx with z | z
    · obtain ⟨y, hy, rfl⟩ := List.mem_map.mp z
      exact live_without h y hy
    · obtain ⟨y, hy, hz⟩ := List.mem_flatMap.mp z
      exact (splitDigits_sem (withPlace_ok ok y hy) named how val).live (live_withp h y hy) x hz
  · rcases List.mem_append.mp hx with z | z
    · obtain ⟨y, hy, rfl⟩ := List.mem_map.mp z
      obtain ⟨a, b⟩ := in_without.mp ⟨y, hy, h⟩
      refine ⟨a, ?_⟩
      rw [decide_eq_false b]; rfl
    · obtain ⟨y, hy, hz⟩ := List.mem_flatMap.mp z
      obtain ⟨a, b⟩ := (splitDigits_sem (withPlace_ok ok y hy) named how val).sub x hz n v h
      obtain ⟨a2, b2⟩ := in_withp.mp ⟨y, hy, a⟩
      refine ⟨a2, ?_⟩
      rw [decide_eq_true b2, b]; rfl
  · by_cases e : p < n
    · obtain ⟨y, hy, h2⟩ := in_withp.mpr ⟨h, e⟩
      obtain ⟨x, hx, h3⟩ := (splitDigits_sem (withPlace_ok ok y hy) named how val).cov n v h2
      exact ⟨x, List.mem_append.mpr (.inr (List.mem_flatMap.mpr ⟨y, hy, hx⟩)), h3⟩
    · obtain ⟨y, hy, h2⟩ := in_without.mpr ⟨h, e⟩
      exact ⟨(false, y), List.mem_append.mpr (.inl (List.mem_map.mpr ⟨y, hy, rfl⟩)), h2⟩
def spotV (other cut : Option Int) (how : Str) (val p n : Int) (v : Val) : Bool := !cutAt cut p && (decide (p < n) && fits ((v (nameOf other p)).val : Int) how val)
theorem splitSpot_sem {s : Cas × Int} (ok : okCas s.1) (other cut : Option Int) (how : Str) (val : Int) : Parts s.1 (splitSpot other cut how val s) (spotV other cut how val s.2) := by
  unfold splitSpot
  cases e : cutAt cut s.2 with
  | true =>
    refine ⟨fun h x hx => ?_, fun x hx n v h => ?_, fun n v h => ⟨_, List.mem_singleton.mpr rfl, h⟩⟩
    · rw [List.mem_singleton.mp hx]; exact h
    · rw [List.mem_singleton.mp hx] at h ⊢
      refine ⟨h, ?_⟩
      unfold spotV; rw [e]; rfl
  | false =>
    have h := splitPlace_sem ok s.2 how val (nameOf other s.2)
    refine ⟨h.live, fun x hx n v hin => ?_, h.cov⟩
    obtain ⟨a, b⟩ := h.sub x hx n v hin
    refine ⟨a, ?_⟩
    unfold spotV
    rw [e, b]; rfl
def passV (other cut : Option Int) (t : Tst) (n : Int) (v : Val) : Bool := match t.w with
  | .pl p => spotV other cut t.how t.val p n v
  | .ptr p a => !cutAt cut p && (decide (p < n) && spotV other cut t.how t.val (((v (nameOf other p)).val : Int) + a) n v)
theorem splitTest_sem {c : Cas} (ok : okCas c) {t : Tst} (ht : okWh t.w) (other cut : Option Int) : Parts c (splitTest c t other cut) (passV other cut t) := by
  unfold splitTest passV
  cases ew : t.w with
  | pl p => exact splitSpot_sem (s := (c, p)) ok other cut t.how t.val
  | ptr p a =>
    rw [ew] at ht
    obtain ⟨hp, ha⟩ := ht
    show Parts c (if cutAt cut p then [(false, c)] else (withoutPlace c p).map (fun x => (false, x)) ++ (spotsOf c p a (nameOf other p)).flatMap (splitSpot other cut t.how t.val)) (fun n v => !cutAt cut p && (decide (p < n) && spotV other cut t.how t.val (((v (nameOf other p)).val : Int) + a) n v))
    cases e : cutAt cut p with
    | true =>
      refine ⟨fun h x hx => ?_, fun x hx n v h => ?_, fun n v h => ⟨_, List.mem_singleton.mpr rfl, h⟩⟩
      · rw [List.mem_singleton.mp hx]; exact h
      · rw [List.mem_singleton.mp hx] at h ⊢
        exact ⟨h, rfl⟩
    | false =>
      have hn := nameOf_rg (other := other) (p := p) (by omega)
      have spot : ∀ s ∈ spotsOf c p a (nameOf other p), okCas s.1 := fun s hs => (spotsOf_ok ok ha hn s hs).1
      have sin : ∀ s ∈ spotsOf c p a (nameOf other p), ∀ n v, inC s.1 n v → inC c n v ∧ p < n ∧ s.2 = ((v (nameOf other p)).val : Int) + a := fun s hs n v h => by
        unfold spotsOf at hs
        obtain ⟨t2, ht2, hz⟩ := List.mem_flatMap.mp hs
        obtain ⟨d, hd, rfl⟩ := List.mem_map.mp hz
        obtain ⟨h1, h2⟩ := (in_with (withPlace_ok ok t2 ht2) (ds := [d]) (fun x hx => by rw [List.mem_singleton.mp hx]; exact hd)).mp h
        obtain ⟨h3, h4⟩ := in_withp.mp ⟨t2, ht2, h1⟩
        refine ⟨h3, h4, ?_⟩
        rw [List.mem_singleton.mp h2]
      refine ⟨fun h x hx => ?_, fun x hx n v h => ?_, fun n v h => ?_⟩
      · rcases List.mem_append.mp hx with z | z
        · obtain ⟨y, hy, rfl⟩ := List.mem_map.mp z
          exact live_without h y hy
        · obtain ⟨s, hs, hz⟩ := List.mem_flatMap.mp z
          refine (splitSpot_sem (spot s hs) other cut t.how t.val).live ?_ x hz
          unfold spotsOf at hs
          obtain ⟨t2, ht2, hz⟩ := List.mem_flatMap.mp hs
          obtain ⟨d, hd, rfl⟩ := List.mem_map.mp hz
          exact live_with (live_withp h t2 ht2) (by intro q; cases q)
      · rcases List.mem_append.mp hx with z | z
        · obtain ⟨y, hy, rfl⟩ := List.mem_map.mp z
          obtain ⟨a1, b1⟩ := in_without.mp ⟨y, hy, h⟩
          refine ⟨a1, ?_⟩
          rw [decide_eq_false b1]; rfl
        · obtain ⟨s, hs, hz⟩ := List.mem_flatMap.mp z
          obtain ⟨a1, b1⟩ := (splitSpot_sem (spot s hs) other cut t.how t.val).sub x hz n v h
          obtain ⟨a2, b2, b3⟩ := sin s hs n v a1
          refine ⟨a2, ?_⟩
          rw [decide_eq_true b2, b1, b3]; rfl
      · by_cases q : p < n
        · obtain ⟨y, hy, h2⟩ := in_withp.mpr ⟨h, q⟩
          have hd := digitsAt_in h2 (nameOf other p)
          have hs : (withDigits y (nameOf other p) [v (nameOf other p)], ((v (nameOf other p)).val : Int) + a) ∈ spotsOf c p a (nameOf other p) := List.mem_flatMap.mpr ⟨y, hy, List.mem_map.mpr ⟨_, hd, rfl⟩⟩
          have h3 : inC (withDigits y (nameOf other p) [v (nameOf other p)]) n v := (in_with (withPlace_ok ok y hy) (fun x hx => by rw [List.mem_singleton.mp hx]; exact hd)).mpr ⟨h2, List.mem_singleton.mpr rfl⟩
          obtain ⟨x, hx, h4⟩ := (splitSpot_sem (spot _ hs) other cut t.how t.val).cov n v h3
          exact ⟨x, List.mem_append.mpr (.inr (List.mem_flatMap.mpr ⟨_, hs, hx⟩)), h4⟩
        · obtain ⟨y, hy, h2⟩ := in_without.mpr ⟨h, q⟩
          exact ⟨(false, y), List.mem_append.mpr (.inl (List.mem_map.mpr ⟨y, hy, rfl⟩)), h2⟩
end DL
-- part Sm2
set_option Elab.async false
set_option linter.all false
set_option maxRecDepth 100000
set_option maxHeartbeats 1000000
namespace DL
open PySem PySem.Spec PyProof.Rows L2
/-! ### what all the lines hold -/
def inL (cs : List Cas) (n : Int) (v : Val) : Prop := ∃ c ∈ cs, inC c n v
theorem mem_passed {l : List (Bool × Cas)} {c : Cas} : c ∈ passed l ↔ (true, c) ∈ l := by
  unfold passed
  constructor
  · intro h
    obtain ⟨⟨b, x⟩, hx, rfl⟩ := List.mem_map.mp h
    obtain ⟨h1, h2⟩ := List.mem_filter.mp hx
    have : b = true := h2
    rw [this] at h1; exact h1
  · intro h
    exact List.mem_map.mpr ⟨(true, c), List.mem_filter.mpr ⟨h, rfl⟩, rfl⟩
theorem mem_failed {l : List (Bool × Cas)} {c : Cas} : c ∈ failed l ↔ (false, c) ∈ l := by
  unfold failed
  constructor
  · intro h
    obtain ⟨⟨b, x⟩, hx, rfl⟩ := List.mem_map.mp h
    obtain ⟨h1, h2⟩ := List.mem_filter.mp hx
    have : b = false := by simpa using h2
    rw [this] at h1; exact h1
  · intro h
    exact List.mem_map.mpr ⟨(false, c), List.mem_filter.mpr ⟨h, rfl⟩, rfl⟩
theorem step_sem {s : List Cas × List Cas} (h1 : ∀ c ∈ s.1, okCas c) {t : Tst} (ht : okWh t.w) (other cut : Option Int) (n : Int) (v : Val) :
    (inL (stepTest other cut s t).1 n v ↔ inL s.1 n v ∧ passV other cut t n v = true) ∧ (inL (stepTest other cut s t).2 n v ↔ inL s.2 n v ∨ inL s.1 n v ∧ passV other cut t n v = false) := by
  constructor
  · constructor
    · rintro ⟨c, hc, hin⟩
      obtain ⟨x, hx, hz⟩ := List.mem_flatMap.mp hc
      obtain ⟨a, b⟩ := (splitTest_sem (h1 x hx) ht other cut).sub _ (mem_passed.mp hz) n v hin
      exact ⟨⟨x, hx, a⟩, b.symm⟩
    · rintro ⟨⟨c, hc, hin⟩, hp⟩
      obtain ⟨⟨b, x⟩, hx, hi⟩ := (splitTest_sem (h1 c hc) ht other cut).cov n v hin
      have e : b = true := by
        have := ((splitTest_sem (h1 c hc) ht other cut).sub _ hx n v hi).2
        rw [hp] at this; exact this
      rw [e] at hx
      exact ⟨x, List.mem_flatMap.mpr ⟨c, hc, mem_passed.mpr hx⟩, hi⟩
  · constructor
    · rintro ⟨c, hc, hin⟩
      rcases List.mem_append.mp hc with z | z
      · exact .inl ⟨c, z, hin⟩
      · obtain ⟨x, hx, hz⟩ := List.mem_flatMap.mp z
        obtain ⟨a, b⟩ := (splitTest_sem (h1 x hx) ht other cut).sub _ (mem_failed.mp hz) n v hin
        exact .inr ⟨⟨x, hx, a⟩, b.symm⟩
    · rintro (⟨c, hc, hin⟩ | ⟨⟨c, hc, hin⟩, hp⟩)
      · exact ⟨c, List.mem_append.mpr (.inl hc), hin⟩
      · obtain ⟨⟨b, x⟩, hx, hi⟩ := (splitTest_sem (h1 c hc) ht other cut).cov n v hin
        have e : b = false := by
          have := ((splitTest_sem (h1 c hc) ht other cut).sub _ hx n v hi).2
          rw [hp] at this; exact this
        rw [e] at hx
        exact ⟨x, List.mem_append.mpr (.inr (List.mem_flatMap.mpr ⟨c, hc, mem_failed.mpr hx⟩)), hi⟩
theorem step_live {s : List Cas × List Cas} (h1 : ∀ c ∈ s.1, okCas c) {t : Tst} (ht : okWh t.w) (other cut : Option Int) (l1 : ∀ c ∈ s.1, live c) (l2 : ∀ c ∈ s.2, live c) :
    (∀ c ∈ (stepTest other cut s t).1, live c) ∧ ∀ c ∈ (stepTest other cut s t).2, live c := by
  refine ⟨fun c hc => ?_, fun c hc => ?_⟩
  · obtain ⟨x, hx, hz⟩ := List.mem_flatMap.mp hc
    exact (splitTest_sem (h1 x hx) ht other cut).live (l1 x hx) _ (mem_passed.mp hz)
  · rcases List.mem_append.mp hc with z | z
    · exact l2 c z
    · obtain ⟨x, hx, hz⟩ := List.mem_flatMap.mp z
      exact (splitTest_sem (h1 x hx) ht other cut).live (l1 x hx) _ (mem_failed.mp hz)
def allV (other cut : Option Int) (ts : List Tst) (n : Int) (v : Val) : Bool := ts.all fun t => passV other cut t n v
theorem fold_sem (other cut : Option Int) (n : Int) (v : Val) : ∀ (ts : List Tst) (s : List Cas × List Cas), (∀ c ∈ s.1, okCas c) → (∀ c ∈ s.2, okCas c) → (∀ t ∈ ts, okWh t.w) →
    (inL (ts.foldl (stepTest other cut) s).1 n v ↔ inL s.1 n v ∧ allV other cut ts n v = true) ∧ (inL (ts.foldl (stepTest other cut) s).2 n v ↔ inL s.2 n v ∨ inL s.1 n v ∧ allV other cut ts n v = false)
  | [], s, _, _, _ => by
    refine ⟨⟨fun h => ⟨h, rfl⟩, fun h => h.1⟩, ⟨fun h => .inl h, ?_⟩⟩
    rintro (h | ⟨_, h⟩)
    · exact h
    · cases h
  | t :: ts, s, h1, h2, ht => by
    obtain ⟨a1, a2, _, _⟩ := step_facts h1 h2 (ht t List.mem_cons_self) other cut
    obtain ⟨b1, b2⟩ := step_sem h1 (ht t List.mem_cons_self) other cut n v
    obtain ⟨c1, c2⟩ := fold_sem other cut n v ts (stepTest other cut s t) a1 a2 (fun u hu => ht u (List.mem_cons_of_mem _ hu))
    have e : allV other cut (t :: ts) n v = (passV other cut t n v && allV other cut ts n v) := rfl
    rw [e]
    show (inL (ts.foldl (stepTest other cut) (stepTest other cut s t)).1 n v ↔ _) ∧ (inL (ts.foldl (stepTest other cut) (stepTest other cut s t)).2 n v ↔ _)
    rw [c1, c2, b1, b2]
    cases passV other cut t n v <;> cases allV other cut ts n v <;> simp
theorem fold_live (other cut : Option Int) : ∀ (ts : List Tst) (s : List Cas × List Cas), (∀ c ∈ s.1, okCas c) → (∀ c ∈ s.2, okCas c) → (∀ t ∈ ts, okWh t.w) → (∀ c ∈ s.1, live c) → (∀ c ∈ s.2, live c) →
    (∀ c ∈ (ts.foldl (stepTest other cut) s).1, live c) ∧ ∀ c ∈ (ts.foldl (stepTest other cut) s).2, live c
  | [], s, _, _, _, l1, l2 => ⟨l1, l2⟩
  | t :: ts, s, h1, h2, ht, l1, l2 => by
    obtain ⟨a1, a2, _, _⟩ := step_facts h1 h2 (ht t List.mem_cons_self) other cut
    obtain ⟨b1, b2⟩ := step_live h1 (ht t List.mem_cons_self) other cut l1 l2
    exact fold_live other cut ts (stepTest other cut s t) a1 a2 (fun u hu => ht u (List.mem_cons_of_mem _ hu)) b1 b2
theorem splitAll_sem {cases : List Cas} (h1 : ∀ c ∈ cases, okCas c) {tests : List Tst} (ht : ∀ t ∈ tests, okWh t.w) (other cut : Option Int) (n : Int) (v : Val) :
    (inL (splitAll cases tests other cut).1 n v ↔ inL cases n v ∧ allV other cut tests n v = true) ∧ (inL (splitAll cases tests other cut).2 n v ↔ inL cases n v ∧ allV other cut tests n v = false) := by
  obtain ⟨a, b⟩ := fold_sem other cut n v tests (cases, []) h1 (fun c hc => by cases hc) ht
  refine ⟨a, ?_⟩
  have e : ¬ inL ([] : List Cas) n v := fun ⟨c, hc, _⟩ => by cases hc
  unfold splitAll
  rw [b]
  exact ⟨fun h => h.elim (fun z => absurd z e) id, .inr⟩
theorem splitAll_live {cases : List Cas} (h1 : ∀ c ∈ cases, okCas c) {tests : List Tst} (ht : ∀ t ∈ tests, okWh t.w) (other cut : Option Int) (l : ∀ c ∈ cases, live c) :
    (∀ c ∈ (splitAll cases tests other cut).1, live c) ∧ ∀ c ∈ (splitAll cases tests other cut).2, live c :=
  fold_live other cut tests (cases, []) h1 (fun c hc => by cases hc) ht l fun c hc => by cases hc
/-- the words of the parts that pass -/
def sayT (other cut : Option Int) (ps : List (Str × Tst)) (n : Int) (v : Val) (x : Str) : Str := ps.foldl (fun x p => if passV other cut p.2 n v then x ++ (" " : Str) ++ p.1 else x) x
theorem parts_sem (other cut : Option Int) : ∀ (ps : List (Str × Tst)) (fs : List Fnd), (∀ f ∈ fs, okCas f.2.2) → (∀ p ∈ ps, okWh p.2.w) →
    ((∀ f ∈ fs, live f.2.2) → ∀ f ∈ ps.foldl (stepPart other cut) fs, live f.2.2) ∧
    (∀ f' ∈ ps.foldl (stepPart other cut) fs, ∀ n v, inC f'.2.2 n v → ∃ f ∈ fs, inC f.2.2 n v ∧ f'.1 = sayT other cut ps n v f.1) ∧
    (∀ f ∈ fs, ∀ n v, inC f.2.2 n v → ∃ f' ∈ ps.foldl (stepPart other cut) fs, inC f'.2.2 n v)
  | [], fs, _, _ => ⟨fun h => h, fun f hf n v h => ⟨f, hf, h, rfl⟩, fun f hf n v h => ⟨f, hf, h⟩⟩
  | p :: ps, fs, h1, hp => by
    have hp1 := hp p List.mem_cons_self
    have a1 : ∀ f ∈ stepPart other cut fs p, okCas f.2.2 := fun f hf' => by
      obtain ⟨g, hg, hz⟩ := List.mem_flatMap.mp hf'
      obtain ⟨x, hx, rfl⟩ := List.mem_map.mp hz
      exact splitTest_ok (h1 g hg) hp1 x hx
    obtain ⟨c0, c1, c2⟩ := parts_sem other cut ps (stepPart other cut fs p) a1 (fun q hq => hp q (List.mem_cons_of_mem _ hq))
    refine ⟨fun l => c0 fun f hf' => ?_, fun f' hf' n v h => ?_, fun f hf n v h => ?_⟩
    · obtain ⟨g, hg, hz⟩ := List.mem_flatMap.mp hf'
      obtain ⟨x, hx, rfl⟩ := List.mem_map.mp hz
      exact (splitTest_sem (h1 g hg) hp1 other cut).live (l g hg) x hx
    · obtain ⟨g, hg, hi, e⟩ := c1 f' hf' n v h
      obtain ⟨f, hf, hz⟩ := List.mem_flatMap.mp hg
      obtain ⟨x, hx, rfl⟩ := List.mem_map.mp hz
      obtain ⟨a, b⟩ := (splitTest_sem (h1 f hf) hp1 other cut).sub x hx n v hi
      refine ⟨f, hf, a, ?_⟩
      rw [e]
      show sayT other cut ps n v (if x.1 then _ else _) = sayT other cut ps n v (if passV other cut p.2 n v then _ else _)
      rw [b]
    · obtain ⟨x, hx, hi⟩ := (splitTest_sem (h1 f hf) hp1 other cut).cov n v h
      exact c2 (sayPart p.1 f x) (List.mem_flatMap.mpr ⟨f, hf, List.mem_map.mpr ⟨x, hx, rfl⟩⟩) n v hi
theorem splitParts_sem {r : Rul} (hr : okRul r) {cases : List Cas} (h1 : ∀ c ∈ cases, okCas c) (other cut : Option Int) :
    ((∀ c ∈ cases, live c) → ∀ f ∈ splitParts r cases other cut, live f.2.2) ∧
    (∀ f ∈ splitParts r cases other cut, ∀ n v, inC f.2.2 n v → inL cases n v ∧ f.1 = sayT other cut r.parts n v r.word) ∧
    (∀ n v, inL cases n v → ∃ f ∈ splitParts r cases other cut, inC f.2.2 n v) := by
  have hpo : ∀ p ∈ r.parts, okWh p.2.w := fun p hp => (hr.2.2.2.2.2 p hp).2.1
  obtain ⟨a, b, c⟩ := parts_sem other cut r.parts (cases.map fun c => ((r.word, [], c) : Fnd)) (fun f hf => by
    obtain ⟨c, hc, rfl⟩ := List.mem_map.mp hf; exact h1 c hc) hpo
  refine ⟨fun l => a fun f hf => ?_, fun f hf n v h => ?_, fun n v ⟨x, hx, hi⟩ => ?_⟩
  · obtain ⟨c, hc, rfl⟩ := List.mem_map.mp hf
    exact l c hc
  · obtain ⟨g, hg, hi, e⟩ := b f hf n v h
    obtain ⟨x, hx, rfl⟩ := List.mem_map.mp hg
    exact ⟨⟨x, hx, hi⟩, e⟩
  · exact c (r.word, [], x) (List.mem_map.mpr ⟨x, hx, rfl⟩) n v hi
def passR (b : Book) (other cut : Option Int) (n : Int) (v : Val) (i : Int) : Bool := allV other cut (ruleAt b i).tests n v
def textOf (b : Book) (other cut : Option Int) (n : Int) (v : Val) (i : Int) : Str := sayT other cut (ruleAt b i).parts n v (ruleAt b i).word
theorem rules_sem (b : Book) (hb : ∀ r ∈ b, okRul r) (other cut : Option Int) : ∀ (is : List Int) (s : List Lin × List Cas), (∀ i ∈ is, ∃ n : Nat, i = (n : Int) ∧ n < b.length) → (∀ c ∈ s.2, okCas c) →
    ((∀ l ∈ s.1, live l.cas) → (∀ c ∈ s.2, live c) → (∀ l ∈ (is.foldl (stepRule b other cut) s).1, live l.cas) ∧ ∀ c ∈ (is.foldl (stepRule b other cut) s).2, live c) ∧
    (∀ l ∈ (is.foldl (stepRule b other cut) s).1, ∀ n v, inC l.cas n v → l ∈ s.1 ∨ inL s.2 n v ∧ ∃ i, is.find? (passR b other cut n v) = some i ∧ l.text = some (textOf b other cut n v i)) ∧
    (∀ l ∈ s.1, l ∈ (is.foldl (stepRule b other cut) s).1) ∧
    (∀ n v, inL (is.foldl (stepRule b other cut) s).2 n v ↔ inL s.2 n v ∧ is.find? (passR b other cut n v) = none) ∧
    (∀ n v, inL s.2 n v → is.find? (passR b other cut n v) ≠ none → ∃ l ∈ (is.foldl (stepRule b other cut) s).1, inC l.cas n v)
  | [], s, _, _ => ⟨fun l1 l2 => ⟨l1, l2⟩, fun l hl n v h => .inl hl, fun l hl => hl, fun n v => ⟨fun h => ⟨h, rfl⟩, fun h => h.1⟩, fun n v _ h => absurd rfl h⟩
  | i :: is, s, hi, h2 => by
    obtain ⟨m, rfl, hm⟩ := hi i List.mem_cons_self
    have hr : okRul (ruleAt b (m : Int)) := hb _ (ruleAt_mem hm).1
    have okw : ∀ t ∈ (ruleAt b (m : Int)).tests, okWh t.w := fun t ht => (hr.2.2.2.2.1 t ht).1
    obtain ⟨f1, f2, _, _⟩ := splitAll_facts h2 okw other cut
    have sa := splitAll_sem h2 okw other cut
    obtain ⟨p1, p2, p3⟩ := splitParts_sem hr f1 other cut
    obtain ⟨r1, r2, r3, r4, r5⟩ := rules_sem b hb other cut is (stepRule b other cut s (m : Int)) (fun j hj => hi j (List.mem_cons_of_mem _ hj)) f2
    refine ⟨fun l1 l2 => ?_, fun l hl n v h => ?_, fun l hl => r3 l (List.mem_append.mpr (.inl hl)), fun n v => ?_, fun n v h hf => ?_⟩
    · obtain ⟨q1, q2⟩ := splitAll_live h2 okw other cut l2
      refine r1 (fun l hl => ?_) q2
      rcases List.mem_append.mp hl with z | z
      · exact l1 l z
      · obtain ⟨g, hg, rfl⟩ := List.mem_map.mp z
        exact p1 q1 g hg
    · rcases r2 l hl n v h with z | ⟨z, j, hj, e⟩
      · rcases List.mem_append.mp z with z | z
        · exact .inl z
        · obtain ⟨g, hg, rfl⟩ := List.mem_map.mp z
          obtain ⟨a, e⟩ := p2 g hg n v h
          obtain ⟨a1, a2⟩ := (sa n v).1.mp a
          refine .inr ⟨a1, (m : Int), ?_, ?_⟩
          · rw [List.find?_cons_of_pos (show passR b other cut n v (m : Int) = true from a2)]
          · show some g.1 = _
            rw [e]; rfl
      · obtain ⟨a1, a2⟩ := (sa n v).2.mp z
        refine .inr ⟨a1, j, ?_, e⟩
        rw [List.find?_cons_of_neg (by show ¬ (passR b other cut n v (m : Int) = true); rw [show passR b other cut n v (m : Int) = false from a2]; exact Bool.false_ne_true)]
        exact hj
    · rw [List.foldl_cons, r4 n v]
      show inL (splitAll s.2 (ruleAt b (m : Int)).tests other cut).2 n v ∧ _ ↔ _
      rw [(sa n v).2]
      show (_ ∧ passR b other cut n v (m : Int) = false) ∧ _ ↔ _
      cases e : passR b other cut n v (m : Int) with
      | true => rw [List.find?_cons_of_pos e]; simp
      | false => rw [List.find?_cons_of_neg (by rw [e]; exact Bool.false_ne_true)]; simp
    · cases e : passR b other cut n v (m : Int) with
      | true =>
        obtain ⟨g, hg, hi⟩ := p3 n v ((sa n v).1.mpr ⟨h, e⟩)
        exact ⟨lineOf (m : Int) g, r3 _ (List.mem_append.mpr (.inr (List.mem_map.mpr ⟨g, hg, rfl⟩))), hi⟩
      | false =>
        rw [List.find?_cons_of_neg (by rw [e]; exact Bool.false_ne_true)] at hf
        exact r5 n v ((sa n v).2.mpr ⟨h, e⟩) hf
/-- what a file is told, by its length and its digits -/
def toldV (b : Book) (other cut : Option Int) (n : Int) (v : Val) : Option Str := ((order b).find? (passR b other cut n v)).map (textOf b other cut n v)
theorem linesFrom_sem {b : Book} (hb : okBook b) {c : Cas} (hc : okCas c) (other cut : Option Int) :
    (live c → ∀ l ∈ linesFrom b c other cut, live l.cas) ∧
    (∀ l ∈ linesFrom b c other cut, ∀ n v, inC l.cas n v → inC c n v ∧ l.text = toldV b other cut n v) ∧
    (∀ n v, inC c n v → ∃ l ∈ linesFrom b c other cut, inC l.cas n v) := by
  have one : ∀ {n v}, inL [c] n v ↔ inC c n v := fun {n v} => ⟨fun ⟨x, hx, h⟩ => by rw [List.mem_singleton.mp hx] at h; exact h, fun h => ⟨c, List.mem_singleton.mpr rfl, h⟩⟩
  obtain ⟨r1, r2, r3, r4, r5⟩ := rules_sem b hb.2.1 other cut (order b) ([], [c]) (fun i hi => order_mem hi) (fun x hx => by rw [List.mem_singleton.mp hx]; exact hc)
  refine ⟨fun h l hl => ?_, fun l hl n v h => ?_, fun n v h => ?_⟩
  · obtain ⟨a1, a2⟩ := r1 (fun l hl => by cases hl) (fun x hx => by rw [List.mem_singleton.mp hx]; exact h)
    rcases List.mem_append.mp hl with z | z
    · exact a1 l z
    · obtain ⟨x, hx, rfl⟩ := List.mem_map.mp z
      exact a2 x hx
  · rcases List.mem_append.mp hl with z | z
    · rcases r2 l z n v h with w | ⟨w, i, e1, e2⟩
      · cases w
      · refine ⟨one.mp w, ?_⟩
        unfold toldV
        rw [e1, e2]; rfl
    · obtain ⟨x, hx, rfl⟩ := List.mem_map.mp z
      obtain ⟨a, e⟩ := (r4 n v).mp ⟨x, hx, h⟩
      refine ⟨one.mp a, ?_⟩
      unfold toldV
      rw [e]; rfl
  · cases e : (order b).find? (passR b other cut n v) with
    | none =>
      obtain ⟨x, hx, hi⟩ := (r4 n v).mpr ⟨one.mpr h, e⟩
      exact ⟨restOf x, List.mem_append.mpr (.inr (List.mem_map.mpr ⟨x, hx, rfl⟩)), hi⟩
    | some i =>
      obtain ⟨l, hl, hi⟩ := r5 n v (one.mpr h) (by rw [e]; intro q; cases q)
      exact ⟨l, List.mem_append.mpr (.inl hl), hi⟩
end DL
-- part Sm3
set_option Elab.async false
set_option linter.all false
set_option maxRecDepth 100000
set_option maxHeartbeats 1000000
namespace DL
open PySem PySem.Spec PyProof.Rows L2
local macro_rules | `(tactic| walk_at "dl") => `(tactic| simp (config := {decide := false}) only [sNext, sSeq, sDrop, sRet, sIf, sSet, sAsg, sPar, sStore, sNever, xC, xOp, xB, xChain, xUn, yAnd, yOr, yNot, xAnd, xOr, xNot, xIf, aNil, aCons, xTup, xLst, mk, xCB, xIsi, xSl, xJoin, xIndexS, xIndexL, xAppend, xCall, gN, gT, gCons, gNil, yYes, oNone, oSome, iT, iL, iS, xVar, startD, wipeD,
  fI0, fI, fLt, fLe, fGt, fGe, fSub, fMul, fMod, fDiv, fPow, fAnd, fLen, lenD, fNeg, fIs, isNon, fIx, fAdd, fEq, fIn, fMin2, fMax2, fTuple, fList, fAll, fInt, fStrS, fAbs, tyn, res, seqD, lstD,
  ixt0, ixt1, ixt2, ixt3, k_ii, k_ib, k_it, k_tt, k_ss, k_ns, Bool.not_true, Bool.not_false, Option.map_some,
  List.map_cons, List.map_nil, List.length_cons, List.length_nil, List.length_map, List.cons_append, List.nil_append, List.getElem?_cons_zero, List.getElem?_cons_succ, List.set_cons_zero, List.set_cons_succ, List.replicate_succ, List.replicate_zero, Nat.reduceAdd, Nat.reduceSub, Nat.reduceLeDiff, Nat.zero_le, true_and, and_true, Option.bind_some, if_true, if_false, Bool.false_eq_true, reduceIte, decide_true, decide_false, decide_eq_true_eq, imp_self, forall_const])
/-! ### the strongest rule that passes: the first in the order, and the one that the law finds -/
theorem find_least {α : Type} {le : α → α → Bool} (T : TotB le) (q : α → Bool) : ∀ {l : List α}, l.Pairwise (fun a b => le a b = true) → ∀ {x : α}, x ∈ l → q x = true → (∀ y ∈ l, q y = true → le x y = true) → l.find? q = some x
  | [], _, x, hx, _, _ => by cases hx
  | a :: l, hp, x, hx, qx, least => by
    rw [List.pairwise_cons] at hp
    cases qa : q a with
    | true =>
      rw [List.find?_cons_of_pos qa]
      rcases List.mem_cons.mp hx with rfl | hx'
      · rfl
      · rw [T.anti _ _ (hp.1 x hx') (least a List.mem_cons_self qa)]
    | false =>
      rw [List.find?_cons_of_neg (by rw [qa]; exact Bool.false_ne_true)]
      rcases List.mem_cons.mp hx with rfl | hx'
      · rw [qa] at qx; cases qx
      · exact find_least T q hp.2 hx' qx fun y hy => least y (List.mem_cons_of_mem _ hy)
/-- as the law looks for it -/
def bestK (q : Int × Int → Bool) (o : Option (Int × Int)) (k : Int × Int) : Option (Int × Int) :=
  if q k then (match o with
    | none => some k
    | some m => if k.1 < m.1 then some k else some m) else o
def BInv (q : Int × Int → Bool) (l : List (Int × Int)) (o : Option (Int × Int)) : Prop := match o with
  | none => ∀ y ∈ l, q y = false
  | some m => m ∈ l ∧ q m = true ∧ ∀ y ∈ l, q y = true → leP m y = true
theorem best_step (q : Int × Int → Bool) {l : List (Int × Int)} {k : Int × Int} {o : Option (Int × Int)} (h3 : ∀ m ∈ l, m.2 < k.2) (ih : BInv q l o) : BInv q (l ++ [k]) (bestK q o k) := by
  unfold bestK
  cases qk : q k with
  | false =>
    rw [if_neg Bool.false_ne_true]
    cases o with
    | none =>
      show ∀ y ∈ l ++ [k], q y = false
      intro y hy
      rcases List.mem_append.mp hy with z | z
      · exact ih y z
      · rw [List.mem_singleton.mp z]; exact qk
    | some m =>
      obtain ⟨a, b, c⟩ := ih
      refine ⟨List.mem_append.mpr (.inl a), b, fun y hy qy => ?_⟩
      rcases List.mem_append.mp hy with z | z
      · exact c y z qy
      · rw [List.mem_singleton.mp z, qk] at qy; cases qy
  | true =>
    rw [if_pos rfl]
    cases o with
    | none =>
      refine ⟨List.mem_append.mpr (.inr (List.mem_singleton.mpr rfl)), qk, fun y hy qy => ?_⟩
      rcases List.mem_append.mp hy with z | z
      · rw [ih y z] at qy; cases qy
      · rw [List.mem_singleton.mp z]; exact leP_iff.mpr (by omega)
    | some m =>
      obtain ⟨a, b, c⟩ := ih
      have hmk : m.2 < k.2 := h3 m a
      show BInv q (l ++ [k]) (if k.1 < m.1 then some k else some m)
      by_cases hlt : k.1 < m.1
      · rw [if_pos hlt]
        refine ⟨List.mem_append.mpr (.inr (List.mem_singleton.mpr rfl)), qk, fun y hy qy => ?_⟩
        rcases List.mem_append.mp hy with z | z
        · have := leP_iff.mp (c y z qy)
          exact leP_iff.mpr (by omega)
        · rw [List.mem_singleton.mp z]; exact leP_iff.mpr (by omega)
      · rw [if_neg hlt]
        refine ⟨List.mem_append.mpr (.inl a), b, fun y hy qy => ?_⟩
        rcases List.mem_append.mp hy with z | z
        · exact c y z qy
        · rw [List.mem_singleton.mp z]; exact leP_iff.mpr (by omega)
theorem best_inv0 (q : Int × Int → Bool) : ∀ (l pre : List (Int × Int)) (o : Option (Int × Int)), (pre ++ l).Pairwise (fun a b => a.2 < b.2) → BInv q pre o → BInv q (pre ++ l) (l.foldl (bestK q) o)
  | [], pre, o, _, h => by rw [List.append_nil]; exact h
  | k :: l, pre, o, hp, h => by
    have e : pre ++ k :: l = (pre ++ [k]) ++ l := by rw [List.append_assoc]; rfl
    rw [e] at hp ⊢
    refine best_inv0 q l (pre ++ [k]) (bestK q o k) hp (best_step q (fun m hm => ?_) h)
    rw [List.append_assoc, List.pairwise_append] at hp
    exact hp.2.2 m hm k (List.mem_append.mpr (.inl (List.mem_singleton.mpr rfl)))
theorem best_inv (q : Int × Int → Bool) (l : List (Int × Int)) (hp : l.Pairwise (fun a b => a.2 < b.2)) : BInv q l (l.foldl (bestK q) none) :=
  best_inv0 q l [] none hp fun y hy => by cases hy
theorem best_first (q : Int × Int → Bool) {l : List (Int × Int)} (hp : l.Pairwise (fun a b => a.2 < b.2)) : (isort leP l).find? q = l.foldl (bestK q) none := by
  have h := best_inv q l hp
  cases e : l.foldl (bestK q) none with
  | none =>
    rw [e] at h
    refine List.find?_eq_none.mpr fun y hy => ?_
    rw [h y ((isort_perm leP l).mem_iff.mp hy)]
    exact Bool.false_ne_true
  | some m =>
    rw [e] at h
    obtain ⟨a, b, c⟩ := h
    exact find_least totP q (isort_sorted totP l) ((isort_perm leP l).mem_iff.mpr a) b fun y hy qy => c y ((isort_perm leP l).mem_iff.mp hy) qy
theorem keys_rising : ∀ (b : Book) (k : Nat), (keysFrom k b).Pairwise (fun a b => a.2 < b.2) ∧ ∀ x ∈ keysFrom k b, (k : Int) ≤ x.2
  | [], k => ⟨List.Pairwise.nil, fun x hx => by cases hx⟩
  | r :: b, k => by
    obtain ⟨h1, h2⟩ := keys_rising b (k + 1)
    refine ⟨List.pairwise_cons.mpr ⟨fun x hx => ?_, h1⟩, fun x hx => ?_⟩
    · have := h2 x hx
      show (k : Int) < x.2
      omega
    · rcases List.mem_cons.mp hx with rfl | z
      · exact Int.le_refl _
      · have := h2 x z
        omega
/-- the law's way through the rules -/
def lawSpeaks (b : Book) (q : Int → Bool) : Option Int := ((keysFrom 0 b).foldl (bestK fun k => q k.2) none).map (·.2)
theorem find_map {α β : Type} (f : α → β) (q : β → Bool) : ∀ l : List α, (l.map f).find? q = (l.find? fun x => q (f x)).map f
  | [] => rfl
  | a :: l => by
    cases h : q (f a) with
    | true => rw [List.map_cons, List.find?_cons_of_pos h, List.find?_cons_of_pos (p := fun x => q (f x)) h]; rfl
    | false => rw [List.map_cons, List.find?_cons_of_neg (by rw [h]; exact Bool.false_ne_true), List.find?_cons_of_neg (p := fun x => q (f x)) (by show ¬ q (f a) = true; rw [h]; exact Bool.false_ne_true), find_map f q l]
theorem speaks_eq (b : Book) (q : Int → Bool) : (order b).find? q = lawSpeaks b q := by
  unfold order lawSpeaks
  rw [find_map, best_first _ (keys_rising b 0).1]
end DL
-- part Pl26
set_option Elab.async false
set_option linter.all false
set_option maxRecDepth 100000
set_option maxHeartbeats 1000000
namespace DL
open PySem PySem.Spec PyProof.Rows L2
local macro_rules | `(tactic| walk_at "dl") => `(tactic| simp (config := {decide := false}) only [sNext, sSeq, sDrop, sRet, sIf, sSet, sAsg, sPar, sStore, sNever, xC, xOp, xB, xChain, xUn, yAnd, yOr, yNot, xAnd, xOr, xNot, xIf, aNil, aCons, xTup, xLst, mk, xCB, xIsi, xSl, xJoin, xIndexS, xIndexL, xAppend, xCall, gN, gT, gCons, gNil, yYes, oNone, oSome, iT, iL, iS, xVar, startD, wipeD,
  fI0, fI, fLt, fLe, fGt, fGe, fSub, fMul, fMod, fDiv, fPow, fAnd, fLen, lenD, fNeg, fIs, isNon, fIx, fAdd, fEq, fIn, fMin2, fMax2, fTuple, fList, fAll, fInt, fStrS, fAbs, tyn, res, seqD, lstD,
  ixt0, ixt1, ixt2, ixt3, k_ii, k_ib, k_it, k_tt, k_ss, k_ns, Bool.not_true, Bool.not_false, Option.map_some,
  List.map_cons, List.map_nil, List.length_cons, List.length_nil, List.length_map, List.cons_append, List.nil_append, List.getElem?_cons_zero, List.getElem?_cons_succ, List.set_cons_zero, List.set_cons_succ, List.replicate_succ, List.replicate_zero, Nat.reduceAdd, Nat.reduceSub, Nat.reduceLeDiff, Nat.zero_le, true_and, and_true, Option.bind_some, if_true, if_false, Bool.false_eq_true, reduceIte, decide_true, decide_false, decide_eq_true_eq, imp_self, forall_const])
def R_law_number : RF := fun ds M P => ∃ d : Dg, ds = [.str (hx [d])] ∧ P (.int (d.val : Int)) M
theorem ixOf_dg : ∀ d : Dg, ixOf (.str (hx [d])) (chD "0123456789abcdef") = some d.val ∧ (chD "0123456789abcdef").all flatD = true := by decide +kernel
theorem p_law_number (ds : List D) (M : Mem) (Q : DK) (h : R_law_number ds M Q) : t__law_number (en0 Q) (startD N__law_number ds) M := by
  obtain ⟨d, rfl, q⟩ := h
  unfold t__law_number
  refine ⟨by show 16 ≤ 16777216; omega, rfl, (ixOf_dg d).2, ?_⟩
  show (match ixOf (.str (hx [d])) (chD "0123456789abcdef") with | some k => _ | none => False)
  rw [(ixOf_dg d).1]
  exact q
def valOf (f : List Dg) : Val := fun p => f.getD p.toNat 0
theorem ix_hx {M : Mem} {f : List Dg} (hf : f.length ≤ 16777216) {p : Int} (h0 : 0 ≤ p) (h1 : p < (f.length : Int)) : ixD M (.str (hx f)) p = some (.str (hx [valOf f p])) := by
  obtain ⟨i, rfl⟩ : ∃ i : Nat, p = (i : Int) := ⟨p.toNat, by omega⟩
  have hi : i < f.length := by omega
  show (if (hx f).length ≤ 16777216 then (atI (hx f).cps.toList (i : Int)).map fun c => D.str ⟨#[c]⟩ else none) = _
  rw [if_pos (by rw [hx_len]; exact hf)]
  have e : (hx f).cps.toList = f.map hc := by unfold hx; simp
  have e2 : valOf f (i : Int) = f[i] := by
    unfold valOf
    rw [Int.toNat_natCast, List.getD_eq_getElem?_getD, List.getElem?_eq_getElem hi]; rfl
  rw [e, atI_nat (x := hc f[i]) (by rw [List.getElem?_map, List.getElem?_eq_getElem hi]; rfl), e2]
  rfl
theorem len_hx {M : Mem} {f : List Dg} (hf : f.length ≤ 16777216) : lenD M (.str (hx f)) = some f.length := by
  show (if (hx f).length ≤ 16777216 then some (hx f).length else none) = _
  rw [if_pos (by rw [hx_len]; exact hf), hx_len]
theorem dq_nilL (xs : List D) : deqN 9 (.lst xs) (.lst []) = xs.isEmpty := by cases xs <;> rfl
theorem cq_nilL (xs : List D) : cmpN 9 (.lst xs) (.lst []) = true := by cases xs <;> rfl
theorem and_bits : ∀ n v : Dg, (([1, 2, 4, 8] : List Int).filter fun b => !decide (Builtin.bitAnd (v.val : Int) b = 0) && decide (Builtin.bitAnd (n.val : Int) b = 0)).isEmpty = decide (Builtin.bitAnd (n.val : Int) (v.val : Int) = (v.val : Int)) := by decide +kernel
def bitsOf (n v : Int) : List Int := ([1, 2, 4, 8] : List Int).filter fun b => !decide (Builtin.bitAnd v b = 0) && decide (Builtin.bitAnd n b = 0)
def kv4 (a b c d : D) : List (Str × D) := [("=", a), ("!", b), ("<", c), (">", d)]
theorem disp4 (a b c d : D) : mergeD [] (kv4 a b c d) = kv4 a b c d := by rfl
theorem get4 (a b c d : D) : getD' (kv4 a b c d) "=" = some a ∧ getD' (kv4 a b c d) "!" = some b ∧ getD' (kv4 a b c d) "<" = some c ∧ getD' (kv4 a b c d) ">" = some d := ⟨rfl, rfl, rfl, rfl⟩
theorem fm_if {α β : Type} (q : α → Bool) (f : α → β) : ∀ xs : List α, xs.filterMap (fun x => if q x then some (f x) else none) = (xs.filter q).map f
  | [] => rfl
  | x :: xs => by
    cases h : q x with
    | true => rw [List.filterMap_cons_some (b := f x) (by simp [h]), List.filter_cons_of_pos h, fm_if q f xs]; rfl
    | false => rw [List.filterMap_cons_none (by simp [h]), List.filter_cons_of_neg (by simp [h]), fm_if q f xs]
theorem sif_e {c : RT} {t u v : RS} {E : DEnds} {ρ : DEnv} {M M' : Mem} (h1 : ∀ K : Bool → Mem → Prop, K false M' → c ρ M K) (h2 : u { E with nx := v E } ρ M') : sSeq (sIf c t u) v E ρ M := h1 _ h2
def t_passR (R__law_number : RF) : RS := (sSeq (sIf (xB (xOp fGe (xVar 5) (xCB fLen (aCons (xVar 1) aNil)))) (sRet (xC (.bl false))) sNext) (sSeq (sSet 6 (xCall R__law_number (aCons (xOp fIx (xVar 1) (xVar 5)) aNil))) (sSeq (sIf (xB (xOp (fEq false) (xVar 3) (xC (.str "&")))) (sRet (xOp (fEq false) (xLc false (iL (xLst false (aCons (xC (.int 1)) (aCons (xC (.int 2)) (aCons (xC (.int 4)) (aCons (xC (.int 8)) aNil)))))) (gN 7) (yAnd (xB (xOp (fEq true) (xOp fAnd (xVar 4) (xVar 7)) (xC (.int 0)))) (xB (xOp (fEq false) (xOp fAnd (xVar 6) (xVar 7)) (xC (.int 0))))) (xVar 7) [7]) (xLst false aNil))) sNext) (sRet (xOp fDix (xDisp (cCons "=" (xOp (fEq false) (xVar 6) (xVar 4)) (cCons "!" (xOp (fEq true) (xVar 6) (xVar 4)) (cCons "<" (xOp fLt (xVar 6) (xVar 4)) (cCons ">" (xOp fGt (xVar 6) (xVar 4)) cNil))))) (xVar 3))))))
theorem p_passR {w0 w : D} {how : Str} {val p : Int} {f : List Dg} {M : Mem} {Q : DK} (hf : f.length ≤ 16777216) (hp : 0 ≤ p) (hh : okHow how) (hv : 0 ≤ val ∧ val ≤ 15) (q : Q (.bl (decide (p < (f.length : Int)) && fits ((valOf f p).val : Int) how val)) M) :
    t_passR R_law_number (en0 Q) [some w0, some (.str (hx f)), some w, some (.str how), some (.int val), some (.int p), none, none] M := by
  unfold t_passR
  have hl := len_hx (M := M) hf
  have ct : ∀ K : Bool → Mem → Prop, K (decide ((f.length : Int) ≤ p)) M → (xB (xOp fGe (xVar 5) (xCB fLen (aCons (xVar 1) aNil)))) [some w0, some (.str (hx f)), some w, some (.str how), some (.int val), some (.int p), none, none] M K := fun K k => by
    simp only [xB, xOp, xVar, xCB, aCons, aNil, fLen, List.getElem?_cons_succ, List.getElem?_cons_zero, hl]
    exact k
  by_cases hlt : p < (f.length : Int)
  · rw [decide_eq_true hlt, Bool.true_and] at q
    rw [decide_eq_false (by omega)] at ct
    refine sif_f (M' := M) ct ?_
    obtain ⟨d, hd⟩ : ∃ d, d = valOf f p := ⟨_, rfl⟩
    rw [← hd] at q
    refine sq (ρ' := [some w0, some (.str (hx f)), some w, some (.str how), some (.int val), some (.int p), some (.int (d.val : Int)), none]) (M' := M) (fun K k => ?_) ?_
    · simp only [sSet, xCall, aCons, aNil, xOp, xVar, fIx, List.getElem?_cons_succ, List.getElem?_cons_zero, ix_hx hf hp hlt]
      exact ⟨d, by rw [hd], k⟩
    obtain ⟨v, rfl⟩ : ∃ v : Dg, val = (v.val : Int) := ⟨⟨val.toNat, by omega⟩, by show val = ((val.toNat : Nat) : Int); omega⟩
    by_cases ha : how = "&"
    · refine sif_t (M' := M) (fun K k => ?_) ?_
      · refine ⟨rfl, ?_⟩
        show K (deqN 9 (.str how) (.str "&")) M
        rw [dq_str, decide_eq_true ha]; exact k
      · have e : fits (d.val : Int) how (v.val : Int) = (bitsOf (d.val : Int) (v.val : Int)).isEmpty := by
          unfold bitsOf
          rw [and_bits, ha]
          unfold fits
          rw [if_neg (by decide), if_neg (by decide), if_neg (by decide), if_neg (by decide)]
        rw [e] at q
        refine ⟨by show 4 ≤ 16777216; omega, ?_⟩
        refine lc_go (xs := ([1, 2, 4, 8] : List Int)) (e := D.int) (out := fun b => if !decide (Builtin.bitAnd (v.val : Int) b = 0) && decide (Builtin.bitAnd (d.val : Int) b = 0) then some (.int b) else none) (by show 4 ≤ 16777216; omega) (fun b hb K k => ?_) ?_
        · refine ⟨rfl, ?_⟩
          show (match !deqN 9 (.int (Builtin.bitAnd (v.val : Int) b)) (.int 0) with | true => _ | false => _)
          rw [dq_int]
          cases e1 : decide (Builtin.bitAnd (v.val : Int) b = 0) with
          | true =>
            rw [e1] at k
            exact k
          | false =>
            rw [e1] at k
            refine ⟨rfl, ?_⟩
            show (match deqN 9 (.int (Builtin.bitAnd (d.val : Int) b)) (.int 0) with | true => _ | false => _)
            rw [dq_int]
            cases e2 : decide (Builtin.bitAnd (d.val : Int) b = 0) with
            | true => rw [e2] at k; exact k
            | false => rw [e2] at k; exact k
        · have e2 : (([1, 2, 4, 8] : List Int).filterMap fun b => if !decide (Builtin.bitAnd (v.val : Int) b = 0) && decide (Builtin.bitAnd (d.val : Int) b = 0) then some (D.int b) else none) = (bitsOf (d.val : Int) (v.val : Int)).map D.int := by
            exact fm_if (fun b => !decide (Builtin.bitAnd (v.val : Int) b = 0) && decide (Builtin.bitAnd (d.val : Int) b = 0)) D.int _
          rw [e2]
          refine ⟨Nat.zero_le _, cq_nilL _, ?_⟩
          show Q (.bl (deqN 9 (.lst ((bitsOf (d.val : Int) (v.val : Int)).map D.int)) (.lst []))) M
          rw [dq_nilL, List.isEmpty_map]
          exact q
    · refine sif_f (M' := M) (fun K k => ?_) ?_
      · refine ⟨rfl, ?_⟩
        show K (deqN 9 (.str how) (.str "&")) M
        rw [dq_str, decide_eq_false ha]; exact k
      · refine ⟨rfl, rfl, by show 4 ≤ 15; omega, ?_⟩
        show (match getD' (mergeD [] (kv4 (D.bl (deqN 9 (.int (d.val : Int)) (.int (v.val : Int)))) (D.bl (!deqN 9 (.int (d.val : Int)) (.int (v.val : Int)))) (D.bl (decide ((d.val : Int) < (v.val : Int)))) (D.bl (decide ((v.val : Int) < (d.val : Int)))))) how with | some d' => Q d' M | none => False)
        rw [disp4, dq_int]
        obtain ⟨g1, g2, g3, g4⟩ := get4 (D.bl (decide ((d.val : Int) = (v.val : Int)))) (D.bl (!decide ((d.val : Int) = (v.val : Int)))) (D.bl (decide ((d.val : Int) < (v.val : Int)))) (D.bl (decide ((v.val : Int) < (d.val : Int))))
        rcases hh with e | e | e | e | e
        · rw [e, g1]
          rw [e] at q
          exact q
        · rw [e, g2]
          rw [e] at q
          unfold fits at q
          rw [if_neg (by decide), if_pos rfl] at q
          exact q
        · rw [e, g3]
          rw [e] at q
          unfold fits at q
          rw [if_neg (by decide), if_neg (by decide), if_pos rfl] at q
          exact q
        · rw [e, g4]
          rw [e] at q
          unfold fits at q
          rw [if_neg (by decide), if_neg (by decide), if_neg (by decide), if_pos rfl] at q
          exact q
        · exact absurd e ha
  · rw [decide_eq_false hlt, Bool.false_and] at q
    rw [decide_eq_true (by omega)] at ct
    exact sif_t (M' := M) ct q
def passF (t : Tst) (f : List Dg) : Bool := passV none none t (f.length : Int) (valOf f)
def R_law_passes : RF := fun ds M P => ∃ (t : Tst) (f : List Dg), ds = [dTst t, .str (hx f)] ∧ okTst t ∧ f.length ≤ 40 ∧ P (.bl (passF t f)) M
theorem p_law_passes (ds : List D) (M : Mem) (Q : DK) (h : R_law_passes ds M Q) : t__law_passes R_law_number (en0 Q) (startD N__law_passes ds) M := by
  obtain ⟨t, f, rfl, ⟨okw, hh, hv⟩, hf, q⟩ := h
  have hf2 : f.length ≤ 16777216 := by omega
  have hl := len_hx (M := M) hf2
  unfold t__law_passes
  refine sq (ρ' := [some (dTst t), some (.str (hx f)), some (dWh t.w), some (.str t.how), some (.int t.val), none, none, none]) (M' := M) (fun K k => k) ?_
  unfold passF passV at q
  cases ew : t.w with
  | pl p =>
    rw [ew] at q okw
    refine sif_e (M' := M) (fun K k => ?_) ?_
    · show (match (tyn (.int p)).bind fun n => kitB n "tuple" with | some b => _ | none => False)
      simp only [tyn, Option.bind_some, k_it]
      exact k
    · exact p_passR (w0 := dTst t) (w := .int p) (how := t.how) (val := t.val) (p := p) hf2 okw.1 hh hv q
  | ptr p a =>
    rw [ew] at q okw
    obtain ⟨hp, ha⟩ := okw
    refine sif_t (M' := M) (fun K k => ?_) ?_
    · show (match (tyn (.tup [.int p, .int a])).bind fun n => kitB n "tuple" with | some b => _ | none => False)
      simp only [tyn, Option.bind_some, k_tt]
      exact k
    have ct : ∀ K : Bool → Mem → Prop, K (decide ((f.length : Int) ≤ p)) M → (xB (xOp fGe (xOp fIx (xVar 2) (xC (.int 0))) (xCB fLen (aCons (xVar 1) aNil)))) [some (dTst t), some (.str (hx f)), some (dWh (.ptr p a)), some (.str t.how), some (.int t.val), none, none, none] M K := fun K k => by
      unfold dWh
      simp only [xB, xOp, xVar, xC, fIx, ixt0, xCB, aCons, aNil, fLen, List.getElem?_cons_succ, List.getElem?_cons_zero, hl]
      exact k
    have q : Q (.bl (decide (p < (f.length : Int)) && spotV none none t.how t.val (((valOf f p).val : Int) + a) (f.length : Int) (valOf f))) M := q
    by_cases hlt : p < (f.length : Int)
    · rw [decide_eq_true hlt, Bool.true_and] at q
      rw [decide_eq_false (by omega)] at ct
      refine sif_f (M' := M) ct ?_
      unfold dWh
      simp only [sSet, xCall, aCons, aNil, xOp, xVar, xC, fIx, ixt0, ixt1, List.getElem?_cons_succ, List.getElem?_cons_zero, ix_hx hf2 hp.1 hlt]
      refine ⟨valOf f p, rfl, ?_⟩
      have := (valOf f p).isLt
      exact p_passR (w0 := dTst t) (w := .tup [.int p, .int a]) (how := t.how) (val := t.val) (p := ((valOf f p).val : Int) + a) hf2 (by omega) hh hv q
    · rw [decide_eq_false hlt, Bool.false_and] at q
      rw [decide_eq_true (by omega)] at ct
      exact sif_t (M' := M) ct q
end DL
-- part Pl27
set_option Elab.async false
set_option linter.all false
set_option maxRecDepth 100000
set_option maxHeartbeats 1000000
namespace DL
open PySem PySem.Spec PyProof.Rows L2
local macro_rules | `(tactic| walk_at "dl") => `(tactic| simp (config := {decide := false}) only [sNext, sSeq, sDrop, sRet, sIf, sSet, sAsg, sPar, sStore, sNever, xC, xOp, xB, xChain, xUn, yAnd, yOr, yNot, xAnd, xOr, xNot, xIf, aNil, aCons, xTup, xLst, mk, xCB, xIsi, xSl, xJoin, xIndexS, xIndexL, xAppend, xCall, gN, gT, gCons, gNil, yYes, oNone, oSome, iT, iL, iS, xVar, startD, wipeD,
  fI0, fI, fLt, fLe, fGt, fGe, fSub, fMul, fMod, fDiv, fPow, fAnd, fLen, lenD, fNeg, fIs, isNon, fIx, fAdd, fEq, fIn, fMin2, fMax2, fTuple, fList, fAll, fInt, fStrS, fAbs, tyn, res, seqD, lstD,
  ixt0, ixt1, ixt2, ixt3, k_ii, k_ib, k_it, k_tt, k_ss, k_ns, Bool.not_true, Bool.not_false, Option.map_some,
  List.map_cons, List.map_nil, List.length_cons, List.length_nil, List.length_map, List.cons_append, List.nil_append, List.getElem?_cons_zero, List.getElem?_cons_succ, List.set_cons_zero, List.set_cons_succ, List.replicate_succ, List.replicate_zero, Nat.reduceAdd, Nat.reduceSub, Nat.reduceLeDiff, Nat.zero_le, true_and, and_true, Option.bind_some, if_true, if_false, Bool.false_eq_true, reduceIte, decide_true, decide_false, decide_eq_true_eq, imp_self, forall_const])
def qOf (b : Book) (f : List Dg) : Int → Bool := passR b none none (f.length : Int) (valOf f)
def R_law_speaks : RF := fun ds M P => ∃ (b : Book) (f : List Dg), ds = [dBook b, .str (hx f)] ∧ b.length ≤ 64 ∧ (∀ r ∈ b, okRul r) ∧ f.length ≤ 40 ∧ P (dOI (lawSpeaks b (qOf b f))) M
theorem filt_all {α : Type} (q : α → Bool) : ∀ xs : List α, (xs.filter fun x => !q x).isEmpty = xs.all q
  | [] => rfl
  | x :: xs => by
    cases h : q x with
    | true => rw [List.filter_cons_of_neg (by simp [h]), List.all_cons, h, filt_all q xs]; rfl
    | false => rw [List.filter_cons_of_pos (by simp [h]), List.all_cons, h]; rfl
theorem bestK_none {q : Int × Int → Bool} {k : Int × Int} (h : q k = true) : bestK q none k = some k := by unfold bestK; rw [if_pos h]
theorem bestK_some {q : Int × Int → Bool} {k m : Int × Int} (h : q k = true) : bestK q (some m) k = if k.1 < m.1 then some k else some m := by unfold bestK; rw [if_pos h]
def keyOf (p : Nat × Rul) : Int × Int := (-p.2.str, ((p.1 : Nat) : Int))
theorem p_law_speaks (ds : List D) (M : Mem) (Q : DK) (h : R_law_speaks ds M Q) : t__law_speaks R_law_passes (en0 Q) (startD N__law_speaks ds) M := by
  obtain ⟨b, f, rfl, hbl, hrul, hf, q⟩ := h
  unfold t__law_speaks
  refine sq (ρ' := [some (dBook b), some (.str (hx f)), some .non, none, none, none]) (M' := M) (fun K k => k) ?_
  have ek : keysFrom 0 b = (b.mapIdx fun i r => (i, r)).map keyOf := keysFrom_eq b 0
  refine for_go (xs := b.mapIdx fun i r => (i, r)) (e := fun p => D.tup [.int ((p.1 : Nat) : Int), dRul p.2]) (fun pre ρ M' => M' = M ∧ ∃ o : Option (Int × Int), o = (pre.map keyOf).foldl (bestK fun k => qOf b f k.2) none ∧ (∀ m, o = some m → ∃ j : Nat, j < b.length ∧ m = (-(ruleAt b (j : Int)).str, (j : Int))) ∧ ∃ x3 x4 x5, ρ = [some (dBook b), some (.str (hx f)), some (dOI (o.map (·.2))), x3, x4, x5]) (fun Q h => ?_) ⟨rfl, none, rfl, (fun m hm => by cases hm), none, none, none, rfl⟩ ?_ ?_
  · show Q (enD (b.map dRul)) M
    rw [enD_map]; exact h
  · rintro pre ⟨i, r⟩ post hb ρ M' ⟨rfl, o, ho, hom, x3, x4, x5, rfl⟩
    obtain ⟨hi, hr⟩ : ∃ hi : i < b.length, ruleAt b (i : Int) = r := by
      have hm : (i, r) ∈ b.mapIdx fun i r => (i, r) := by rw [hb]; simp
      rw [List.mem_mapIdx] at hm
      obtain ⟨j, hj, e⟩ := hm
      cases e
      refine ⟨hj, ?_⟩
      unfold ruleAt
      rw [Int.toNat_natCast, List.getD_eq_getElem?_getD, List.getElem?_eq_getElem hj]; rfl
    have okr : okRul r := hrul r (by rw [← hr]; exact (ruleAt_mem hi).1)
    obtain ⟨o', ho'⟩ : ∃ o', o' = ((pre ++ [(i, r)]).map keyOf).foldl (bestK fun k => qOf b f k.2) none := ⟨_, rfl⟩
    have es : o' = bestK (fun k => qOf b f k.2) o (keyOf (i, r)) := by
      rw [ho', List.map_append, List.foldl_append, ← ho]; rfl
    have hq : qOf b f (i : Int) = r.tests.all fun t => passF t f := by
      unfold qOf passR
      rw [hr]; rfl
    have hgoal : ∀ (x5 : Option D), M' = M' ∧ ∃ o : Option (Int × Int), o = ((pre ++ [(i, r)]).map keyOf).foldl (bestK fun k => qOf b f k.2) none ∧ (∀ m, o = some m → ∃ j : Nat, j < b.length ∧ m = (-(ruleAt b (j : Int)).str, (j : Int))) ∧ ∃ y3 y4 y5, [some (dBook b), some (.str (hx f)), some (dOI (o'.map (·.2))), some (.int (i : Int)), some (dRul r), x5] = [some (dBook b), some (.str (hx f)), some (dOI (o.map (·.2))), y3, y4, y5] := fun x5 => by
      refine ⟨rfl, o', ho', fun m hm => ?_, _, _, _, rfl⟩
      rw [es] at hm
      unfold bestK at hm
      have key : ∃ j : Nat, j < b.length ∧ keyOf (i, r) = (-(ruleAt b (j : Int)).str, (j : Int)) := ⟨i, hi, by rw [hr]; rfl⟩
      split at hm
      · split at hm
        · cases hm; exact key
        · split at hm
          · cases hm; exact key
          · exact hom m hm
      · exact hom m hm
    have ct : ∀ K : Bool → Mem → Prop, K (r.tests.all fun t => passF t f) M' → (xB (xOp (fEq false) (xLc false (iT (xOp fIx (xVar 4) (xC (.int 2)))) (gN 5) (yNot (xB (xCall R_law_passes (aCons (xVar 5) (aCons (xVar 1) aNil))))) (xVar 5) [5]) (xLst false aNil))) [some (dBook b), some (.str (hx f)), some (dOI (o.map (·.2))), some (.int (i : Int)), some (dRul r), x5] M' K := fun K k => by
      refine lc_filter (xs := r.tests) (e := dTst) (fun t => !passF t f) dTst (fun Q h => ?_) (by have := okr.2.2.1.2; omega) (fun t ht K k => ⟨t, f, rfl, okr.2.2.2.2.1 t ht, hf, ?_⟩) ?_
      · unfold dRul
        walk_at "dl"
        exact h
      · cases e : passF t f with
        | true => rw [e] at k; exact k
        | false => rw [e] at k; exact k
      · refine ⟨Nat.zero_le _, cq_nilL _, ?_⟩
        show K (deqN 9 (.lst (((r.tests.filter fun t => !passF t f)).map dTst)) (.lst [])) M'
        rw [dq_nilL, List.isEmpty_map, filt_all (fun t => passF t f)]
        exact k
    simp only [gT, gCons, gNil, gN, List.set_cons_succ, List.set_cons_zero]
    cases hall : (r.tests.all fun t => passF t f) with
    | false =>
      rw [hall] at ct hq
      refine if_f (M' := M') ct ?_
      have e : o' = o := by
        rw [es]; unfold bestK
        rw [if_neg (by show ¬ qOf b f ((i : Nat) : Int) = true; rw [hq]; exact Bool.false_ne_true)]
      have := hgoal x5
      rw [e] at this
      exact this
    | true =>
      rw [hall] at ct hq
      refine if_t (M' := M') ct ?_
      have hq' : (fun k : Int × Int => qOf b f k.2) (keyOf (i, r)) = true := hq
      cases o with
      | none =>
        have := hgoal x5
        rw [show o' = some (keyOf (i, r)) from by rw [es]; exact bestK_none hq'] at this
        exact this
      | some m =>
        obtain ⟨j, hj, rfl⟩ := hom m rfl
        have hix := ix_rule (M := M') hj
        have ct2 : ∀ K : Bool → Mem → Prop, K (decide ((ruleAt b (j : Int)).str < r.str)) M' → (yOr (xB (xOp (fIs false) (xVar 2) (xC .non))) (xB (xOp fGt (xOp fIx (xVar 4) (xC (.int 1))) (xOp fIx (xOp fIx (xVar 0) (xVar 2)) (xC (.int 1)))))) [some (dBook b), some (.str (hx f)), some (dOI ((some (-(ruleAt b (j : Int)).str, (j : Int))).map (·.2))), some (.int (i : Int)), some (dRul r), x5] M' K := fun K k => by
          show (match ixD M' (dRul r) 1 with | some d => _ | none => False)
          rw [show ixD M' (dRul r) 1 = some (.int r.str) from ixt1]
          show (match ixD M' (.tup (b.map dRul)) (j : Int) with | some d => _ | none => False)
          rw [hix]
          show (match ixD M' (dRul (ruleAt b (j : Int))) 1 with | some d => _ | none => False)
          rw [show ixD M' (dRul (ruleAt b (j : Int))) 1 = some (.int (ruleAt b (j : Int)).str) from ixt1]
          exact k
        by_cases hlt : (ruleAt b (j : Int)).str < r.str
        · rw [decide_eq_true hlt] at ct2
          refine if_t (M' := M') ct2 ?_
          have e2 : o' = some (keyOf (i, r)) := by
            rw [es, bestK_some hq']
            show (if -r.str < -(ruleAt b (j : Int)).str then some (keyOf (i, r)) else _) = _
            rw [if_pos (by omega)]
          have := hgoal x5
          rw [e2] at this
          exact this
        · rw [decide_eq_false hlt] at ct2
          refine if_f (M' := M') ct2 ?_
          have e2 : o' = some (-(ruleAt b (j : Int)).str, (j : Int)) := by
            rw [es, bestK_some hq']
            show (if -r.str < -(ruleAt b (j : Int)).str then some (keyOf (i, r)) else _) = _
            rw [if_neg (by omega)]
          have := hgoal x5
          rw [e2] at this
          exact this
  · rintro ρ M' ⟨rfl, o, ho, _, x3, x4, x5, rfl⟩
    have e : lawSpeaks b (qOf b f) = o.map (·.2) := by
      unfold lawSpeaks
      rw [ek, ho]
    rw [e] at q
    exact q
def toldF (b : Book) (f : List Dg) : Option Str := toldV b none none (f.length : Int) (valOf f)
def R_law_tells : RF := fun ds M P => ∃ (b : Book) (f : List Dg), ds = [dBook b, .str (hx f)] ∧ b.length ≤ 64 ∧ (∀ r ∈ b, okRul r) ∧ f.length ≤ 40 ∧ P (dOS (toldF b f)) M
theorem sayT_len (other cut : Option Int) (n : Int) (v : Val) : ∀ (ps : List (Str × Tst)) (x : Str), (∀ p ∈ ps, p.1.length ≤ 8) → (sayT other cut ps n v x).length ≤ x.length + 9 * ps.length
  | [], x, _ => Nat.le_refl _
  | p :: ps, x, h => by
    have h1 := h p List.mem_cons_self
    have l1 : (" " : Str).length = 1 := by decide +kernel
    have h2 := sayT_len other cut n v ps (if passV other cut p.2 n v then x ++ (" " : Str) ++ p.1 else x) fun q hq => h q (List.mem_cons_of_mem _ hq)
    have h3 : (if passV other cut p.2 n v then x ++ (" " : Str) ++ p.1 else x).length ≤ x.length + 9 := by
      split
      · rw [len_app, len_app, l1]; omega
      · omega
    rw [List.length_cons]
    show (sayT other cut ps n v (if passV other cut p.2 n v then x ++ (" " : Str) ++ p.1 else x)).length ≤ _
    omega
theorem p_law_tells (ds : List D) (M : Mem) (Q : DK) (h : R_law_tells ds M Q) : t__law_tells R_law_speaks R_law_passes (en0 Q) (startD N__law_tells ds) M := by
  obtain ⟨b, f, rfl, hbl, hrul, hf, q⟩ := h
  unfold t__law_tells
  refine sq (ρ' := [some (dBook b), some (.str (hx f)), some (dOI (lawSpeaks b (qOf b f))), none, none, none]) (M' := M) (fun K k => ⟨b, f, rfl, hbl, hrul, hf, k⟩) ?_
  have eT : toldF b f = (lawSpeaks b (qOf b f)).map (textOf b none none (f.length : Int) (valOf f)) := by
    unfold toldF toldV
    rw [speaks_eq]; rfl
  rw [eT] at q
  cases es : lawSpeaks b (qOf b f) with
  | none =>
    rw [es] at q
    exact sif_t (M' := M) (fun K k => k) q
  | some i =>
    rw [es] at q
    obtain ⟨n, rfl, hn⟩ : ∃ n : Nat, i = (n : Int) ∧ n < b.length := by
      rw [← speaks_eq] at es
      exact order_mem (List.mem_of_find?_eq_some es)
    have hix := ix_rule (M := M) hn
    have okr : okRul (ruleAt b (n : Int)) := hrul _ (ruleAt_mem hn).1
    have q : Q (dOS (some (sayT none none (ruleAt b (n : Int)).parts (f.length : Int) (valOf f) (ruleAt b (n : Int)).word))) M := q
    obtain ⟨r, hr⟩ : ∃ r, r = ruleAt b (n : Int) := ⟨_, rfl⟩
    rw [← hr] at hix okr q
    refine sif_f (M' := M) (fun K k => k) ?_
    refine sq (ρ' := [some (dBook b), some (.str (hx f)), some (.int (n : Int)), some (.str r.word), none, none]) (M' := M) (fun K k => ?_) ?_
    · show (match ixD M (.tup (b.map dRul)) (n : Int) with | some d => _ | none => False)
      rw [hix]
      show (match ixD M (dRul r) 0 with | some d => _ | none => False)
      rw [show ixD M (dRul r) 0 = some (.str r.word) from ixt0]
      exact k
    refine for_go (xs := r.parts) (e := dPart) (fun pre ρ M' => M' = M ∧ ∃ x4 x5, ρ = [some (dBook b), some (.str (hx f)), some (.int (n : Int)), some (.str (sayT none none pre (f.length : Int) (valOf f) r.word)), x4, x5]) (fun Q h => ?_) ⟨rfl, none, none, rfl⟩ ?_ ?_
    · show (match ixD M (.tup (b.map dRul)) (n : Int) with | some d => _ | none => False)
      rw [hix]
      show (match ixD M (dRul r) 3 with | some d => _ | none => False)
      rw [show ixD M (dRul r) 3 = some (.tup (r.parts.map dPart)) from ixt3]
      exact h
    · rintro pre ⟨w, t⟩ post hps ρ M' ⟨rfl, x4, x5, rfl⟩
      have hp := okr.2.2.2.2.2 (w, t) (by rw [hps]; simp)
      have hpl := okr.2.2.2.1
      have hpre : pre.length ≤ 2 := by rw [hps, List.length_append] at hpl; omega
      have hlen := sayT_len none none (f.length : Int) (valOf f) pre r.word fun p hp => (okr.2.2.2.2.2 p (by rw [hps]; simp [hp])).1.2.1
      have hw := okr.1.2.1
      have l1 : (" " : Str).length = 1 := by decide +kernel
      have e : sayT none none (pre ++ [(w, t)]) (f.length : Int) (valOf f) r.word = if passF t f then sayT none none pre (f.length : Int) (valOf f) r.word ++ (" " : Str) ++ w else sayT none none pre (f.length : Int) (valOf f) r.word := by
        unfold sayT
        rw [List.foldl_append]; rfl
      obtain ⟨x, hx'⟩ : ∃ x, x = sayT none none pre (f.length : Int) (valOf f) r.word := ⟨_, rfl⟩
      rw [← hx'] at hlen e ⊢
      rw [show dPart (w, t) = D.tup [.str w, dTst t] from rfl]
      simp only [gT, gCons, gNil, gN, List.set_cons_succ, List.set_cons_zero]
      have hww : w.length ≤ 8 := hp.1.2.1
      cases ep : passF t f with
      | true =>
        rw [ep, if_pos rfl] at e
        refine if_t (M' := M') (fun K k => ⟨t, f, rfl, hp.2, hf, by rw [ep]; exact k⟩) ?_
        refine ⟨by rw [l1]; omega, by rw [len_app, l1]; omega, rfl, some (.str w), some (dTst t), ?_⟩
        rw [e]; rfl
      | false =>
        rw [ep, if_neg Bool.false_ne_true] at e
        refine if_f (M' := M') (fun K k => ⟨t, f, rfl, hp.2, hf, by rw [ep]; exact k⟩) ⟨rfl, some (.str w), some (dTst t), ?_⟩
        rw [e]
    · rintro ρ M' ⟨rfl, x4, x5, rfl⟩
      exact q
end DL
-- part Pl28
set_option Elab.async false
set_option linter.all false
set_option maxRecDepth 100000
set_option maxHeartbeats 1000000
namespace DL
open PySem PySem.Spec PyProof.Rows L2
local macro_rules | `(tactic| walk_at "dl") => `(tactic| simp (config := {decide := false}) only [sNext, sSeq, sDrop, sRet, sIf, sSet, sAsg, sPar, sStore, sNever, xC, xOp, xB, xChain, xUn, yAnd, yOr, yNot, xAnd, xOr, xNot, xIf, aNil, aCons, xTup, xLst, mk, xCB, xIsi, xSl, xJoin, xIndexS, xIndexL, xAppend, xCall, gN, gT, gCons, gNil, yYes, oNone, oSome, iT, iL, iS, xVar, startD, wipeD,
  fI0, fI, fLt, fLe, fGt, fGe, fSub, fMul, fMod, fDiv, fPow, fAnd, fLen, lenD, fNeg, fIs, isNon, fIx, fAdd, fEq, fIn, fMin2, fMax2, fTuple, fList, fAll, fInt, fStrS, fAbs, tyn, res, seqD, lstD,
  ixt0, ixt1, ixt2, ixt3, k_ii, k_ib, k_it, k_tt, k_ss, k_ns, Bool.not_true, Bool.not_false, Option.map_some,
  List.map_cons, List.map_nil, List.length_cons, List.length_nil, List.length_map, List.cons_append, List.nil_append, List.getElem?_cons_zero, List.getElem?_cons_succ, List.set_cons_zero, List.set_cons_succ, List.replicate_succ, List.replicate_zero, Nat.reduceAdd, Nat.reduceSub, Nat.reduceLeDiff, Nat.zero_le, true_and, and_true, Option.bind_some, if_true, if_false, Bool.false_eq_true, reduceIte, decide_true, decide_false, decide_eq_true_eq, imp_self, forall_const])
def R_law_source : RF := fun ds M P => ∃ (ns : List Int) (k : Nat), ds = [.scr ns, .int (k : Int)] ∧ k < 2 ^ 40 ∧ ∀ a, M a = none → ∀ c r : Int, P (.box a) (updM M a [.int c, .int r])
theorem p_law_source (ds : List D) (M : Mem) (Q : DK) (h : R_law_source ds M Q) : t__law_source (en0 Q) (startD N__law_source ds) M := by
  obtain ⟨ns, k, rfl, hk, q⟩ := h
  unfold t__law_source
  refine sq (ρ' := [some (.scr ns), some (.int (k : Int)), some (.int 0)]) (M' := M) (fun K k => k) ?_
  have fin : ∀ c : Int, sSeq (sIf (xB (xOp fLt (xVar 2) (xOp fPow (xC (.int 10)) (xC (.int 18))))) (sRet (xLst true (aCons (xC (.int 0)) (aCons (xOp fAdd (xC (.int 1)) (xOp fMod (xCB fInt (aCons (xOp fAdd (xOp fMul (xVar 2) (xC (.int 7919))) (xOp fMul (xC (.int 104729)) (xVar 1))) aNil)) (xC (.int 2147483646)))) aNil)))) sNext) (sRet (xLst true (aCons (xVar 2) (aCons (xOp fAdd (xC (.int 1)) (xOp fMod (xCB fInt (aCons (xOp fAdd (xVar 2) (xVar 1)) aNil)) (xC (.int 2147483646)))) aNil)))) (en0 Q) [some (.scr ns), some (.int (k : Int)), some (.int c)] M := by
    intro c
    have ct : ∀ K : Bool → Mem → Prop, K (decide (c < (10 : Int) ^ (18 : Int).toNat)) M → (xB (xOp fLt (xVar 2) (xOp fPow (xC (.int 10)) (xC (.int 18))))) [some (.scr ns), some (.int (k : Int)), some (.int c)] M K := fun K k => ⟨⟨by omega, by omega, by decide⟩, k⟩
    by_cases hc : c < (10 : Int) ^ (18 : Int).toNat
    · rw [decide_eq_true hc] at ct
      refine sif_t (M' := M) ct ?_
      exact ⟨.inr ⟨by omega, by omega⟩, .inl ⟨by omega, by omega⟩, by show (0 : Int) < 2147483646; omega, by show 2 ≤ 16777216; omega, fun a ha => q a ha _ _⟩
    · rw [decide_eq_false hc] at ct
      refine sif_f (M' := M) ct ?_
      exact ⟨by show (0 : Int) < 2147483646; omega, by show 2 ≤ 16777216; omega, fun a ha => q a ha _ _⟩
  have ct : ∀ K : Bool → Mem → Prop, K (decide ((k : Int) < (ns.length : Int))) M → (xB (xOp fLt (xVar 1) (xCB fLen (aCons (xVar 0) aNil)))) [some (.scr ns), some (.int (k : Int)), some (.int 0)] M K := fun K k => k
  by_cases hc : (k : Int) < (ns.length : Int)
  · rw [decide_eq_true hc] at ct
    refine sq (ρ' := [some (.scr ns), some (.int (k : Int)), some (.int (if ns[k]'(by omega) < 0 then -(ns[k]'(by omega)) else ns[k]'(by omega)))]) (M' := M) (fun K kk => if_t (M' := M) ct ?_) (fin _)
    show (match (atI ns (k : Int)).map D.int with | some d => _ | none => False)
    rw [atI_nat (xs := ns) (i := k) (List.getElem?_eq_getElem (by omega))]
    exact kk
  · rw [decide_eq_false hc] at ct
    exact sq (ρ' := [some (.scr ns), some (.int (k : Int)), some (.int 0)]) (M' := M) (fun K kk => if_f (M' := M) ct kk) (fin _)
def R_law_some_file : RF := fun ds M P => ∃ (a : Addr) (most : Int), ds = [.box a, .int most] ∧ Src M a ∧ 0 ≤ most ∧ most ≤ 1000 ∧ ∀ f : List Dg, (f.length : Int) ≤ most → ∀ c r : Int, P (.str (hx f)) (updM M a [.int c, .int r])
theorem join_hx0 : ∀ f : List Dg, Str.join ⟨#[]⟩ (f.map fun d => hx [d]) = hx f
  | [] => rfl
  | d :: f => by
    rw [List.map_cons, PyProof.Rows.join_nil_cons, join_hx0 f, hx_app]; rfl
theorem join_hx (f : List Dg) : Txt.join "" (f.map fun d => hx [d]) = hx f := by
  show Builtin.Str.glued "" _ = _
  rw [StrLaws.glued_eq_join]
  exact join_hx0 f
theorem pick_dg (x : D) (h : x ∈ chD "00117789ff") : ∃ d : Dg, x = .str (hx [d]) := by
  have e : chD "00117789ff" = ([0, 0, 1, 1, 7, 7, 8, 9, 15, 15] : List Dg).map fun d => D.str (hx [d]) := by rfl
  rw [e] at h
  obtain ⟨d, _, rfl⟩ := List.mem_map.mp h
  exact ⟨d, rfl⟩
theorem p_law_some_file (ds : List D) (M : Mem) (Q : DK) (h : R_law_some_file ds M Q) : t__law_some_file R_law_draw R_law_choice (en0 Q) (startD N__law_some_file ds) M := by
  obtain ⟨a, most, rfl, hM, h1, h2, q⟩ := h
  unfold t__law_some_file
  refine ⟨a, most + 1, rfl, hM, by omega, fun n c2 r2 hn0 hn1 => ?_⟩
  refine ⟨by show -(2 ^ 62) ≤ n; omega, by show n < 2 ^ 62; omega, ?_⟩
  refine draw_go (e := fun d : Dg => D.str (hx [d])) (ok := fun _ => True) (rgD 0 n.toNat) (by rw [rgD_len]; omega) src_upd (fun d hd M' hM' K k => ⟨by show 10 ≤ 16777216; omega, a, _, rfl, hM', by show 1 ≤ 10; omega, by show 10 < 1073741824; omega, fun x hx c r => ?_⟩) (fun f hfl hok c3 r3 => ?_)
  · obtain ⟨d, rfl⟩ := pick_dg x hx
    exact k d trivial c r
  · rw [rgD_len] at hfl
    rw [updM_updM]
    show (match txts (f.map fun d => D.str (hx [d])) with | some ys => _ | none => False)
    rw [txts_map (fun d : Dg => hx [d])]
    refine ⟨?_, ?_⟩
    · have e1 : ((f.map fun d => hx [d]).map (·.length)).sum = f.length := by
        clear hfl
        clear hok
        induction f with
        | nil => rfl
        | cons d f ih => rw [List.map_cons, List.map_cons, List.sum_cons, ih, hx_len, List.length_cons]; simp; omega
      have e2 : ("" : Str).length = 0 := by decide +kernel
      rw [e1, e2]; omega
    · rw [join_hx]
      exact q f (by omega) c3 r3
end DL
-- part Pl29
set_option Elab.async false
set_option linter.all false
set_option maxRecDepth 100000
set_option maxHeartbeats 1000000
namespace DL
open PySem PySem.Spec PyProof.Rows L2
local macro_rules | `(tactic| walk_at "dl") => `(tactic| simp (config := {decide := false}) only [sNext, sSeq, sDrop, sRet, sIf, sSet, sAsg, sPar, sStore, sNever, xC, xOp, xB, xChain, xUn, yAnd, yOr, yNot, xAnd, xOr, xNot, xIf, aNil, aCons, xTup, xLst, mk, xCB, xIsi, xSl, xJoin, xIndexS, xIndexL, xAppend, xCall, gN, gT, gCons, gNil, yYes, oNone, oSome, iT, iL, iS, xVar, startD, wipeD,
  fI0, fI, fLt, fLe, fGt, fGe, fSub, fMul, fMod, fDiv, fPow, fAnd, fLen, lenD, fNeg, fIs, isNon, fIx, fAdd, fEq, fIn, fMin2, fMax2, fTuple, fList, fAll, fInt, fStrS, fAbs, tyn, res, seqD, lstD,
  ixt0, ixt1, ixt2, ixt3, k_ii, k_ib, k_it, k_tt, k_ss, k_ns, Bool.not_true, Bool.not_false, Option.map_some,
  List.map_cons, List.map_nil, List.length_cons, List.length_nil, List.length_map, List.cons_append, List.nil_append, List.getElem?_cons_zero, List.getElem?_cons_succ, List.set_cons_zero, List.set_cons_succ, List.replicate_succ, List.replicate_zero, Nat.reduceAdd, Nat.reduceSub, Nat.reduceLeDiff, Nat.zero_le, true_and, and_true, Option.bind_some, if_true, if_false, Bool.false_eq_true, reduceIte, decide_true, decide_false, decide_eq_true_eq, imp_self, forall_const])
/-! ### all files of at most two digits -/
def dF (f : List Dg) : D := .str (hx f)
def longer (l : List (List Dg)) : List (List Dg) := l.flatMap fun f => every.map fun d => f ++ [d]
def levelL : Nat → List (List Dg)
  | 0 => [[]]
  | k + 1 => longer (levelL k)
def filesL : Nat → List (List Dg)
  | 0 => [[]]
  | k + 1 => filesL k ++ levelL (k + 1)
theorem longer_len (l : List (List Dg)) : (longer l).length ≤ l.length * 16 := flatMap_len _ 16 (fun f => by rw [List.length_map]; exact Nat.le_refl _) l
theorem ch_every : chD "0123456789abcdef" = every.map fun d => dF [d] := by rfl
theorem level_mem : ∀ (k : Nat) {f : List Dg}, f ∈ levelL k → f.length = k
  | 0, f, h => by rw [List.mem_singleton.mp h]; rfl
  | k + 1, f, h => by
    obtain ⟨g, hg, hz⟩ := List.mem_flatMap.mp h
    obtain ⟨d, _, rfl⟩ := List.mem_map.mp hz
    rw [List.length_append, level_mem k hg]; rfl
def R_law_files : RF := fun ds M P => ds = [.int 2] ∧ P (.lst ((filesL 2).map dF)) M
theorem level_small : ∀ k, k < 2 → (levelL k).length ≤ 16 ∧ (filesL k).length ≤ 17
  | 0, _ => by decide
  | 1, _ => by decide
theorem p_law_files (ds : List D) (M : Mem) (Q : DK) (h : R_law_files ds M Q) : t__law_files (en0 Q) (startD N__law_files ds) M := by
  obtain ⟨rfl, q⟩ := h
  unfold t__law_files
  refine sq (ρ' := [some (.int 2), some (.lst ((filesL 0).map dF)), some (.lst ((levelL 0).map dF)), none, none, none, none]) (M' := M) (fun K k => ⟨by show 1 ≤ 16777216; omega, by show 1 ≤ 16777216; omega, k⟩) ?_
  refine for_go (xs := List.range 2) (e := fun n => D.int (0 + ((n : Nat) : Int))) (fun pre ρ M' => M' = M ∧ ∃ x3 x4 x5 x6, ρ = [some (.int 2), some (.lst ((filesL pre.length).map dF)), some (.lst ((levelL pre.length).map dF)), x3, x4, x5, x6]) (fun Q h => ⟨by omega, by omega, h⟩) ⟨rfl, none, none, none, none, rfl⟩ ?_ ?_
  · rintro pre n post hb ρ M' ⟨rfl, x3, x4, x5, x6, rfl⟩
    have hpl : pre.length < 2 := by
      have := congrArg List.length hb
      rw [List.length_range, List.length_append, List.length_cons] at this
      omega
    rw [List.length_append]
    obtain ⟨k, hk⟩ : ∃ k, k = pre.length := ⟨_, rfl⟩
    rw [← hk] at hpl ⊢
    obtain ⟨l1, l2⟩ := level_small k hpl
    simp only [gN, List.set_cons_succ, List.set_cons_zero]
    refine sq (ρ' := [some (.int 2), some (.lst ((filesL k).map dF)), some (.lst ((levelL k).map dF)), some (.int (0 + ((n : Nat) : Int))), some (.lst []), x5, x6]) (M' := M') (fun K k => ⟨Nat.zero_le _, k⟩) ?_
    refine for_go (xs := levelL k) (e := dF) (fun ip ρ M2 => M2 = M' ∧ ∃ x5 x6, ρ = [some (.int 2), some (.lst ((filesL k).map dF)), some (.lst ((levelL k).map dF)), some (.int (0 + ((n : Nat) : Int))), some (.lst ((longer ip).map dF)), x5, x6]) (fun Q h => h) ⟨rfl, x5, x6, rfl⟩ ?_ ?_
    · rintro ip f ipost his ρ M2 ⟨rfl, y5, y6, rfl⟩
      have hfl : f.length = k := level_mem k (by rw [his]; simp)
      have hil : ip.length + 1 ≤ 16 := by
        have := congrArg List.length his
        rw [List.length_append, List.length_cons] at this
        omega
      have hll := longer_len ip
      have e1 : longer (ip ++ [f]) = longer ip ++ every.map fun d => f ++ [d] := by unfold longer; rw [List.flatMap_append, List.flatMap_singleton]
      rw [e1]
      simp only [gN, sSet, xOp, xVar, List.set_cons_succ, List.set_cons_zero, List.getElem?_cons_succ, List.getElem?_cons_zero]
      refine lc_map (xs := every) (e := fun d => dF [d]) (fun d => dF (f ++ [d])) (fun Q h => h) (by decide) (fun d hd K kk => ?_) ?_
      · refine ⟨by rw [hx_len, hx_len]; show f.length + 1 ≤ 16777216; omega, ?_⟩
        rw [hx_app]; exact kk
      · refine ⟨by rw [List.length_map, List.length_map]; show _ + 16 ≤ 16777216; omega, rfl, some (dF f), y6, ?_⟩
        rw [List.map_append, List.map_map]; rfl
    · rintro ρ M2 ⟨rfl, y5, y6, rfl⟩
      have hll := longer_len (levelL k)
      refine ⟨by rw [List.length_map, List.length_map]; omega, rfl, some (.int (0 + ((n : Nat) : Int))), some (.lst ((longer (levelL k)).map dF)), y5, y6, ?_⟩
      show _ = [some (D.int 2), some (.lst ((filesL k ++ levelL (k + 1)).map dF)), some (.lst ((longer (levelL k)).map dF)), some (.int (0 + ((n : Nat) : Int))), some (.lst ((longer (levelL k)).map dF)), y5, y6]
      rw [List.map_append]; rfl
  · rintro ρ M' ⟨rfl, x3, x4, x5, x6, rfl⟩
    exact q
theorem files_mem {f : List Dg} : f ∈ filesL 2 ↔ f.length ≤ 2 := by
  constructor
  · intro h
    rcases List.mem_append.mp h with z | z
    · rcases List.mem_append.mp z with z | z
      · rw [level_mem 0 z]; omega
      · rw [level_mem 1 z]; omega
    · rw [level_mem 2 z]; exact Nat.le_refl _
  · intro h
    match f, h with
    | [], _ => exact List.mem_append.mpr (.inl (List.mem_append.mpr (.inl (List.mem_singleton.mpr rfl))))
    | [a], _ => exact List.mem_append.mpr (.inl (List.mem_append.mpr (.inr (List.mem_flatMap.mpr ⟨[], List.mem_singleton.mpr rfl, List.mem_map.mpr ⟨a, mem_every a, rfl⟩⟩))))
    | [a, b], _ => exact List.mem_append.mpr (.inr (List.mem_flatMap.mpr ⟨[a], List.mem_flatMap.mpr ⟨[], List.mem_singleton.mpr rfl, List.mem_map.mpr ⟨a, mem_every a, rfl⟩⟩, List.mem_map.mpr ⟨b, mem_every b, rfl⟩⟩))
    | _ :: _ :: _ :: _, h => simp at h
/-! ### what the law knows of the files -/
def tblD (tl : List Dg → Option Str) : List (Str × D) := (filesL 2).map fun g => (hx g, dOS (tl g))
theorem getD_tbl (e : List Dg → D) : ∀ (l : List (List Dg)) {g : List Dg}, g ∈ l → getD' (l.map fun g => (hx g, e g)) (hx g) = some (e g)
  | [], _, h => by cases h
  | f :: l, g, h => by
    show (if hx f = hx g then some (e f) else getD' (l.map fun g => (hx g, e g)) (hx g)) = _
    by_cases q : hx f = hx g
    · rw [if_pos q, hx_inj q]
    · rw [if_neg q]
      rcases List.mem_cons.mp h with rfl | z
      · exact absurd rfl q
      · exact getD_tbl e l z
theorem tbl_get (tl : List Dg → Option Str) {g : List Dg} (h : g.length ≤ 2) : getD' (tblD tl) (hx g) = some (dOS (tl g)) := getD_tbl (fun g => dOS (tl g)) (filesL 2) (files_mem.mpr h)
def behindL (tl : List Dg → Option Str) (f : List Dg) : List (Option Str) :=
  tl (f.take 2) :: if f.length < 2 then every.flatMap fun d => tl (f ++ [d]) :: (if f = [] then every.map fun e => tl [d, e] else []) else []
def R_law_behind : RF := fun ds M P => ∃ (tl : List Dg → Option Str) (f : List Dg), ds = [.dic (tblD tl), .str (hx f)] ∧ f.length ≤ 40 ∧ P (.lst ((behindL tl f).map dOS)) M
theorem hx_nil (f : List Dg) : decide (hx f = ("" : Str)) = decide (f = []) := by
  by_cases h : f = []
  · rw [h]; rfl
  · rw [decide_eq_false h]; exact decide_eq_false fun e => h (hx_inj (g := []) e)
theorem p_law_behind (ds : List D) (M : Mem) (Q : DK) (h : R_law_behind ds M Q) : t__law_behind (en0 Q) (startD N__law_behind ds) M := by
  obtain ⟨tl, f, rfl, hf, q⟩ := h
  have hf2 : f.length ≤ 16777216 := by omega
  have hl := len_hx (M := M) hf2
  have hl1 : (hx f).length ≤ 16777216 := by rw [hx_len]; exact hf2
  unfold t__law_behind
  refine sq (ρ' := [some (.dic (tblD tl)), some (.str (hx f)), some (.lst ([tl (f.take 2)].map dOS)), none, none]) (M' := M) (fun K k => ?_) ?_
  · refine ⟨hl1, ?_⟩
    show (match getD' (tblD tl) (cutS (hx f) none (some ((2 : Nat) : Int))) with | some d' => _ | none => False)
    rw [cut_hx, tbl_get tl (by rw [List.length_take]; omega)]
    exact ⟨by show 1 ≤ 16777216; omega, k⟩
  have ct : ∀ K : Bool → Mem → Prop, K (decide ((f.length : Int) < 2)) M → (xB (xOp fLt (xCB fLen (aCons (xVar 1) aNil)) (xC (.int 2)))) [some (.dic (tblD tl)), some (.str (hx f)), some (.lst ([tl (f.take 2)].map dOS)), none, none] M K := fun K k => by
    simp only [xB, xOp, xCB, aCons, aNil, xVar, xC, fLen, List.getElem?_cons_zero, List.getElem?_cons_succ, hl]
    exact k
  by_cases hlt : f.length < 2
  · rw [decide_eq_true (by omega)] at ct
    have eb : behindL tl f = [tl (f.take 2)] ++ every.flatMap fun d => tl (f ++ [d]) :: (if f = [] then every.map fun e => tl [d, e] else []) := by
      unfold behindL; rw [if_pos hlt]; rfl
    rw [eb] at q
    refine sif_t (M' := M) ct ?_
    refine for_go (xs := every) (e := fun d => dF [d]) (fun pre ρ M' => M' = M ∧ ∃ x3 x4, ρ = [some (.dic (tblD tl)), some (.str (hx f)), some (.lst (([tl (f.take 2)] ++ pre.flatMap fun d => tl (f ++ [d]) :: (if f = [] then every.map fun e => tl [d, e] else [])).map dOS)), x3, x4]) (fun Q h => h) ⟨rfl, none, none, rfl⟩ ?_ ?_
    · rintro pre d post hb ρ M' ⟨rfl, x3, x4, rfl⟩
      have hpl : pre.length + 1 ≤ 16 := by
        have := congrArg List.length hb
        rw [List.length_append, List.length_cons] at this
        have e : every.length = 16 := rfl
        omega
      have hacc := flatMap_len (fun d => tl (f ++ [d]) :: (if f = [] then every.map fun e => tl [d, e] else [])) 17 (fun d => by
        rw [List.length_cons]
        split
        · rw [List.length_map]; decide
        · show 1 ≤ 17; omega) pre
      have e1 : ([tl (f.take 2)] ++ (pre ++ [d]).flatMap fun d => tl (f ++ [d]) :: (if f = [] then every.map fun e => tl [d, e] else [])) = (([tl (f.take 2)] ++ pre.flatMap fun d => tl (f ++ [d]) :: (if f = [] then every.map fun e => tl [d, e] else [])) ++ [tl (f ++ [d])]) ++ (if f = [] then every.map fun e => tl [d, e] else []) := by
        rw [List.flatMap_append, List.flatMap_singleton]; simp only [List.append_assoc, List.cons_append, List.nil_append]
      rw [e1]
      obtain ⟨acc, hac⟩ : ∃ acc, acc = [tl (f.take 2)] ++ pre.flatMap fun d => tl (f ++ [d]) :: (if f = [] then every.map fun e => tl [d, e] else []) := ⟨_, rfl⟩
      have hal : acc.length ≤ 300 := by rw [hac, List.length_append]; show 1 + _ ≤ 300; omega
      rw [← hac]
      simp only [gN, List.set_cons_succ, List.set_cons_zero]
      refine sq (ρ' := [some (.dic (tblD tl)), some (.str (hx f)), some (.lst ((acc ++ [tl (f ++ [d])]).map dOS)), some (dF [d]), x4]) (M' := M') (fun K k => ?_) ?_
      · refine ⟨by rw [hx_len, hx_len]; show f.length + 1 ≤ 16777216; omega, ?_⟩
        show (match getD' (tblD tl) (hx f ++ hx [d]) with | some d' => _ | none => False)
        rw [hx_app, tbl_get tl (by rw [List.length_append]; show f.length + 1 ≤ 2; omega)]
        rw [List.map_append] at k
        exact ⟨by show 1 ≤ 16777216; omega, by rw [List.length_map]; show acc.length + 1 ≤ 16777216; omega, k⟩
      · have ct2 : ∀ K : Bool → Mem → Prop, K (decide (f = [])) M' → (xB (xOp (fEq false) (xVar 1) (xC (.str "")))) [some (.dic (tblD tl)), some (.str (hx f)), some (.lst ((acc ++ [tl (f ++ [d])]).map dOS)), some (dF [d]), x4] M' K := fun K k => by
          refine ⟨rfl, ?_⟩
          show K (deqN 9 (.str (hx f)) (.str "")) M'
          rw [dq_str, hx_nil]; exact k
        by_cases h0 : f = []
        · rw [decide_eq_true h0] at ct2
          refine if_t (M' := M') ct2 ?_
          rw [if_pos h0]
          simp only [sSet, xOp, xVar, List.getElem?_cons_succ, List.getElem?_cons_zero]
          refine lc_map (xs := every) (e := fun d => dF [d]) (fun e => dOS (tl [d, e])) (fun Q h => h) (by decide) (fun e he K kk => ?_) ?_
          · refine ⟨by rw [hx_len, hx_len]; show 2 ≤ 16777216; omega, ?_⟩
            show (match getD' (tblD tl) (hx [d] ++ hx [e]) with | some d' => _ | none => False)
            rw [hx_app, tbl_get tl (show ([d] ++ [e]).length ≤ 2 from Nat.le_refl _)]
            exact kk
          · refine ⟨by rw [List.length_map, List.length_map, List.length_append]; show acc.length + 1 + 16 ≤ 16777216; omega, rfl, some (dF [d]), x4, ?_⟩
            rw [List.map_append (l₁ := acc ++ [tl (f ++ [d])]), List.map_map]; rfl
        · rw [decide_eq_false h0] at ct2
          refine if_f (M' := M') ct2 ⟨rfl, some (dF [d]), x4, ?_⟩
          rw [if_neg h0, List.append_nil]
    · rintro ρ M' ⟨rfl, x3, x4, rfl⟩
      exact q
  · rw [decide_eq_false (by omega)] at ct
    have eb : behindL tl f = [tl (f.take 2)] := by
      unfold behindL; rw [if_neg hlt]
    rw [eb] at q
    exact sif_f (M' := M) ct q
end DL
-- part Sm4
set_option Elab.async false
set_option linter.all false
set_option maxRecDepth 100000
set_option maxHeartbeats 1000000
namespace DL
open PySem PySem.Spec PyProof.Rows L2
local macro_rules | `(tactic| walk_at "dl") => `(tactic| simp (config := {decide := false}) only [sNext, sSeq, sDrop, sRet, sIf, sSet, sAsg, sPar, sStore, sNever, xC, xOp, xB, xChain, xUn, yAnd, yOr, yNot, xAnd, xOr, xNot, xIf, aNil, aCons, xTup, xLst, mk, xCB, xIsi, xSl, xJoin, xIndexS, xIndexL, xAppend, xCall, gN, gT, gCons, gNil, yYes, oNone, oSome, iT, iL, iS, xVar, startD, wipeD,
  fI0, fI, fLt, fLe, fGt, fGe, fSub, fMul, fMod, fDiv, fPow, fAnd, fLen, lenD, fNeg, fIs, isNon, fIx, fAdd, fEq, fIn, fMin2, fMax2, fTuple, fList, fAll, fInt, fStrS, fAbs, tyn, res, seqD, lstD,
  ixt0, ixt1, ixt2, ixt3, k_ii, k_ib, k_it, k_tt, k_ss, k_ns, Bool.not_true, Bool.not_false, Option.map_some,
  List.map_cons, List.map_nil, List.length_cons, List.length_nil, List.length_map, List.cons_append, List.nil_append, List.getElem?_cons_zero, List.getElem?_cons_succ, List.set_cons_zero, List.set_cons_succ, List.replicate_succ, List.replicate_zero, Nat.reduceAdd, Nat.reduceSub, Nat.reduceLeDiff, Nat.zero_le, true_and, and_true, Option.bind_some, if_true, if_false, Bool.false_eq_true, reduceIte, decide_true, decide_false, decide_eq_true_eq, imp_self, forall_const])
/-! ### what files that begin with one are told -/
theorem find_congr {α : Type} {p q : α → Bool} : ∀ {l : List α}, (∀ x ∈ l, p x = q x) → l.find? p = l.find? q
  | [], _ => rfl
  | a :: l, h => by
    have ha := h a List.mem_cons_self
    have hl := find_congr fun x hx => h x (List.mem_cons_of_mem a hx)
    cases e : p a with
    | true => rw [List.find?_cons_of_pos e, List.find?_cons_of_pos (ha ▸ e)]
    | false => rw [List.find?_cons_of_neg (by rw [e]; exact Bool.false_ne_true), List.find?_cons_of_neg (by rw [← ha, e]; exact Bool.false_ne_true), hl]
theorem all_congr' {α : Type} {p q : α → Bool} : ∀ {l : List α}, (∀ x ∈ l, p x = q x) → l.all p = l.all q
  | [], _ => rfl
  | a :: l, h => by rw [List.all_cons, List.all_cons, h a List.mem_cons_self, all_congr' fun x hx => h x (List.mem_cons_of_mem a hx)]
theorem sayT_congr {o c o' c' : Option Int} {n n' : Int} {v v' : Val} : ∀ {ps : List (Str × Tst)} {x : Str}, (∀ p ∈ ps, passV o c p.2 n v = passV o' c' p.2 n' v') → sayT o c ps n v x = sayT o' c' ps n' v' x
  | [], _, _ => rfl
  | p :: ps, x, h => by
    show sayT o c ps n v (if passV o c p.2 n v then _ else _) = sayT o' c' ps n' v' (if passV o' c' p.2 n' v' then _ else _)
    rw [h p List.mem_cons_self]
    exact sayT_congr fun q hq => h q (List.mem_cons_of_mem _ hq)
theorem toldV_congr {b : Book} {o c o' c' : Option Int} {n n' : Int} {v v' : Val} (h : ∀ r ∈ b, (∀ t ∈ r.tests, passV o c t n v = passV o' c' t n' v') ∧ ∀ p ∈ r.parts, passV o c p.2 n v = passV o' c' p.2 n' v') : toldV b o c n v = toldV b o' c' n' v' := by
  unfold toldV
  have e1 : (order b).find? (passR b o c n v) = (order b).find? (passR b o' c' n' v') := find_congr fun i hi => by
    obtain ⟨m, rfl, hm⟩ := order_mem hi
    exact all_congr' (h _ (ruleAt_mem hm).1).1
  rw [e1]
  cases e : (order b).find? (passR b o' c' n' v') with
  | none => rfl
  | some i =>
    obtain ⟨m, rfl, hm⟩ := order_mem (List.mem_of_find?_eq_some e)
    show some (sayT o c _ n v _) = some (sayT o' c' _ n' v' _)
    rw [sayT_congr (h _ (ruleAt_mem hm).1).2]
theorem mem_addText : ∀ (ls : List Lin) (acc : List (Option Str)) (o : Option Str), o ∈ ls.foldl addText acc ↔ o ∈ acc ∨ ∃ l ∈ ls, l.text = o
  | [], acc, o => ⟨.inl, fun h => h.elim id fun ⟨l, hl, _⟩ => by cases hl⟩
  | l :: ls, acc, o => by
    have ih := mem_addText ls (addText acc l) o
    have e : o ∈ addText acc l ↔ o ∈ acc ∨ l.text = o := by
      unfold addText
      split
      · rename_i h
        exact ⟨.inl, fun z => z.elim id fun q => q ▸ h⟩
      · rw [List.mem_append, List.mem_singleton]
        exact ⟨fun z => z.imp id Eq.symm, fun z => z.imp id Eq.symm⟩
    rw [List.foldl_cons, ih, e]
    constructor
    · rintro ((h | h) | ⟨m, hm, h⟩)
      · exact .inl h
      · exact .inr ⟨l, List.mem_cons_self, h⟩
      · exact .inr ⟨m, List.mem_cons_of_mem _ hm, h⟩
    · rintro (h | ⟨m, hm, h⟩)
      · exact .inl (.inl h)
      · rcases List.mem_cons.mp hm with rfl | z
        · exact .inl (.inr h)
        · exact .inr ⟨m, z, h⟩
theorem nodup_addText : ∀ (ls : List Lin) (acc : List (Option Str)), acc.Nodup → (ls.foldl addText acc).Nodup
  | [], _, h => h
  | l :: ls, acc, h => by
    refine nodup_addText ls (addText acc l) ?_
    unfold addText
    split
    · exact h
    · rename_i q
      rw [List.nodup_append]
      exact ⟨h, by simp, fun a ha b hb e => q (by rw [List.mem_singleton.mp hb] at e; rw [← e]; exact ha)⟩
theorem startCase_live {f : List Dg} (h : f.length ≤ 40) : live (startCase f) := by
  refine ⟨by show 0 ≤ (f.length : Int); omega, by show (f.length : Int) ≤ 40; omega, fun q hq => ?_⟩
  have hq : q ∈ f.mapIdx fun i d => ((i : Int), [d]) := hq
  rw [List.mem_mapIdx] at hq
  obtain ⟨i, hi, rfl⟩ := hq
  intro z; cases z
theorem in_start {f : List Dg} {n : Int} {v : Val} : inC (startCase f) n v ↔ (f.length : Int) ≤ n ∧ n ≤ 40 ∧ ∀ (i : Nat) (h : i < f.length), v (i : Int) = f[i] := by
  constructor
  · rintro ⟨h1, h2, h3⟩
    refine ⟨h1, h2, fun i h => ?_⟩
    have := h3 ((i : Int), [f[i]]) (List.mem_mapIdx.mpr ⟨i, h, rfl⟩)
    exact List.mem_singleton.mp this
  · rintro ⟨h1, h2, h3⟩
    refine ⟨h1, h2, fun q hq => ?_⟩
    have hq : q ∈ f.mapIdx fun i d => ((i : Int), [d]) := hq
    rw [List.mem_mapIdx] at hq
    obtain ⟨i, hi, rfl⟩ := hq
    exact List.mem_singleton.mpr (h3 i hi)
theorem behind_sem {b : Book} (hb : okBook b) {f : List Dg} (hf : f.length ≤ 40) (o : Option Str) : o ∈ textsBehind b f ↔ ∃ n v, inC (startCase f) n v ∧ toldV b none none n v = o := by
  obtain ⟨s1, s2, s3⟩ := linesFrom_sem hb (startCase_ok hf) none none
  have l1 := (linesFrom_facts hb (startCase_ok hf) none none).1
  unfold textsBehind
  rw [mem_addText]
  constructor
  · rintro (h | ⟨l, hl, rfl⟩)
    · cases h
    · obtain ⟨v, hv⟩ := live_in (l1 l hl) (s1 (startCase_live hf) l hl)
      obtain ⟨a, e⟩ := s2 l hl _ v hv
      exact ⟨_, v, a, e.symm⟩
  · rintro ⟨n, v, h, rfl⟩
    obtain ⟨l, hl, hi⟩ := s3 n v h
    exact .inr ⟨l, hl, (s2 l hl n v hi).2⟩
/-- the digits of a file as far as the second -/
def cutf (n : Int) (v : Val) : List Dg := if n ≤ 0 then [] else if n = 1 then [v 0] else [v 0, v 1]
def near (b : Book) : Prop := ∀ r ∈ b, (∀ t ∈ r.tests, ∃ p, t.w = .pl p ∧ 0 ≤ p ∧ p ≤ 1) ∧ ∀ t ∈ r.parts, ∃ p, t.2.w = .pl p ∧ 0 ≤ p ∧ p ≤ 1
theorem pass_cut {t : Tst} {n : Int} {v : Val} (h : ∃ p, t.w = .pl p ∧ 0 ≤ p ∧ p ≤ 1) : passV none none t n v = passV none none t ((cutf n v).length : Int) (valOf (cutf n v)) := by
  obtain ⟨p, e, h0, h1⟩ := h
  unfold passV
  rw [e]
  show spotV none none t.how t.val p n v = spotV none none t.how t.val p ((cutf n v).length : Int) (valOf (cutf n v))
  unfold spotV
  show (true && (decide (p < n) && fits ((v p).val : Int) t.how t.val)) = (true && (decide (p < ((cutf n v).length : Int)) && fits ((valOf (cutf n v) p).val : Int) t.how t.val))
  rw [Bool.true_and, Bool.true_and]
  unfold cutf
  by_cases a1 : n ≤ 0
  · rw [if_pos a1, decide_eq_false (by omega), decide_eq_false (by show ¬ p < (0 : Int); omega)]; rfl
  rw [if_neg a1]
  have hp : p = 0 ∨ p = 1 := by omega
  by_cases a2 : n = 1
  · rw [if_pos a2]
    rcases hp with rfl | rfl
    · rw [decide_eq_true (by omega)]; rfl
    · rw [decide_eq_false (by omega)]; rfl
  · rw [if_neg a2]
    rcases hp with rfl | rfl
    · rw [decide_eq_true (by omega)]; rfl
    · rw [decide_eq_true (by omega)]; rfl
theorem told_cut {b : Book} (h : near b) (n : Int) (v : Val) : toldV b none none n v = toldF b (cutf n v) :=
  toldV_congr fun r hr => ⟨fun t ht => pass_cut ((h r hr).1 t ht), fun p hp => pass_cut ((h r hr).2 p hp)⟩
theorem behind_law {b : Book} (hb : okBook b) (hn : near b) {f : List Dg} (hf : f.length ≤ 40) (o : Option Str) : o ∈ textsBehind b f ↔ o ∈ behindL (toldF b) f := by
  rw [behind_sem hb hf]
  match f, hf with
  | [], _ =>
    have e : ∀ o, o ∈ behindL (toldF b) [] ↔ o = toldF b [] ∨ ∃ d, o = toldF b [d] ∨ ∃ e, o = toldF b [d, e] := fun o => by
      unfold behindL
      rw [if_pos (by show 0 < 2; omega), List.mem_cons, List.mem_flatMap]
      refine or_congr Iff.rfl ⟨fun ⟨d, _, h⟩ => ⟨d, ?_⟩, fun ⟨d, h⟩ => ⟨d, mem_every d, ?_⟩⟩
      · rcases List.mem_cons.mp h with h | h
        · exact .inl h
        · rw [if_pos rfl] at h
          obtain ⟨e, _, rfl⟩ := List.mem_map.mp h
          exact .inr ⟨e, rfl⟩
      · rcases h with h | ⟨e, h⟩
        · exact List.mem_cons.mpr (.inl h)
        · refine List.mem_cons.mpr (.inr ?_)
          rw [if_pos rfl]
          exact List.mem_map.mpr ⟨e, mem_every e, h.symm⟩
    rw [e]
    constructor
    · rintro ⟨n, v, h, rfl⟩
      rw [told_cut hn]
      unfold cutf
      split
      · exact .inl rfl
      · split
        · exact .inr ⟨v 0, .inl rfl⟩
        · exact .inr ⟨v 0, .inr ⟨v 1, rfl⟩⟩
    · rintro (rfl | ⟨d, rfl | ⟨e, rfl⟩⟩)
      · exact ⟨0, fun _ => 0, in_start.mpr ⟨by show (0 : Int) ≤ 0; omega, by omega, fun i h => by simp at h⟩, told_cut hn _ _⟩
      · exact ⟨1, fun _ => d, in_start.mpr ⟨by show (0 : Int) ≤ 1; omega, by omega, fun i h => by simp at h⟩, told_cut hn _ _⟩
      · exact ⟨2, fun p => if p = 0 then d else e, in_start.mpr ⟨by show (0 : Int) ≤ 2; omega, by omega, fun i h => by simp at h⟩, told_cut hn _ _⟩
  | [a], _ =>
    have e : ∀ o, o ∈ behindL (toldF b) [a] ↔ o = toldF b [a] ∨ ∃ d, o = toldF b [a, d] := fun o => by
      unfold behindL
      rw [if_pos (by show 1 < 2; omega), List.mem_cons, List.mem_flatMap]
      refine or_congr Iff.rfl ⟨fun ⟨d, _, h⟩ => ⟨d, ?_⟩, fun ⟨d, h⟩ => ⟨d, mem_every d, ?_⟩⟩
      · rcases List.mem_cons.mp h with h | h
        · exact h
        · rw [if_neg (by intro z; cases z)] at h; cases h
      · exact List.mem_cons.mpr (.inl h)
    rw [e]
    constructor
    · rintro ⟨n, v, h, rfl⟩
      obtain ⟨h1, h2, h3⟩ := in_start.mp h
      have h1 : (1 : Int) ≤ n := h1
      have h0 : v 0 = a := h3 0 (by show 0 < 1; omega)
      rw [told_cut hn]
      unfold cutf
      rw [if_neg (by omega), h0]
      split
      · exact .inl rfl
      · exact .inr ⟨v 1, rfl⟩
    · rintro (rfl | ⟨d, rfl⟩)
      · exact ⟨1, fun _ => a, in_start.mpr ⟨by show (1 : Int) ≤ 1; omega, by omega, fun i h => by
          have : i = 0 := by have h : i < 1 := h; omega
          subst this; rfl⟩, told_cut hn _ _⟩
      · exact ⟨2, fun p => if p = 0 then a else d, in_start.mpr ⟨by show (1 : Int) ≤ 2; omega, by omega, fun i h => by
          have : i = 0 := by have h : i < 1 := h; omega
          subst this; rfl⟩, told_cut hn _ _⟩
  | a :: c :: g, hf =>
    have e : behindL (toldF b) (a :: c :: g) = [toldF b [a, c]] := by
      unfold behindL
      rw [if_neg (by show ¬ g.length + 1 + 1 < 2; omega)]; rfl
    rw [e, List.mem_singleton]
    have key : ∀ n v, inC (startCase (a :: c :: g)) n v → toldV b none none n v = toldF b [a, c] := fun n v h => by
      obtain ⟨h1, h2, h3⟩ := in_start.mp h
      have h1 : ((g.length + 1 + 1 : Nat) : Int) ≤ n := h1
      have h0 : v 0 = a := h3 0 (by show 0 < g.length + 1 + 1; omega)
      have h4 : v 1 = c := h3 1 (by show 1 < g.length + 1 + 1; omega)
      rw [told_cut hn]
      unfold cutf
      rw [if_neg (by omega), if_neg (by omega), h0, h4]
    constructor
    · rintro ⟨n, v, h, rfl⟩
      exact key n v h
    · rintro rfl
      obtain ⟨v, hv⟩ := live_in (startCase_ok hf) (startCase_live hf)
      exact ⟨_, v, hv, key _ v hv⟩
end DL
-- part Sm5
set_option Elab.async false
set_option linter.all false
set_option maxRecDepth 100000
set_option maxHeartbeats 1000000
namespace DL
open PySem PySem.Spec PyProof.Rows L2
local macro_rules | `(tactic| walk_at "dl") => `(tactic| simp (config := {decide := false}) only [sNext, sSeq, sDrop, sRet, sIf, sSet, sAsg, sPar, sStore, sNever, xC, xOp, xB, xChain, xUn, yAnd, yOr, yNot, xAnd, xOr, xNot, xIf, aNil, aCons, xTup, xLst, mk, xCB, xIsi, xSl, xJoin, xIndexS, xIndexL, xAppend, xCall, gN, gT, gCons, gNil, yYes, oNone, oSome, iT, iL, iS, xVar, startD, wipeD,
  fI0, fI, fLt, fLe, fGt, fGe, fSub, fMul, fMod, fDiv, fPow, fAnd, fLen, lenD, fNeg, fIs, isNon, fIx, fAdd, fEq, fIn, fMin2, fMax2, fTuple, fList, fAll, fInt, fStrS, fAbs, tyn, res, seqD, lstD,
  ixt0, ixt1, ixt2, ixt3, k_ii, k_ib, k_it, k_tt, k_ss, k_ns, Bool.not_true, Bool.not_false, Option.map_some,
  List.map_cons, List.map_nil, List.length_cons, List.length_nil, List.length_map, List.cons_append, List.nil_append, List.getElem?_cons_zero, List.getElem?_cons_succ, List.set_cons_zero, List.set_cons_succ, List.replicate_succ, List.replicate_zero, Nat.reduceAdd, Nat.reduceSub, Nat.reduceLeDiff, Nat.zero_le, true_and, and_true, Option.bind_some, if_true, if_false, Bool.false_eq_true, reduceIte, decide_true, decide_false, decide_eq_true_eq, imp_self, forall_const])
theorem all2_refl {f : D → D → Bool} : ∀ {xs : List D}, (∀ x ∈ xs, f x x = true) → all2 f xs xs = true
  | [], _ => rfl
  | x :: xs, h => by
    show (f x x && all2 f xs xs) = true
    rw [h x List.mem_cons_self, all2_refl fun y hy => h y (List.mem_cons_of_mem _ hy)]; rfl
theorem cmp_strs (n : Nat) (xs : List Str) : cmpN (n + 1) (.lst (xs.map D.str)) (.lst (xs.map D.str)) = true := by
  refine all2_refl fun x hx => ?_
  obtain ⟨s, _, rfl⟩ := List.mem_map.mp hx
  cases n <;> rfl
theorem cmp_poss (xs : List Str) (b : Bool) : cmpN 9 (.tup [.lst (xs.map D.str), .bl b]) (.tup [.lst (xs.map D.str), .bl b]) = true := by
  show (cmpN 8 (.lst (xs.map D.str)) (.lst (xs.map D.str)) && true) = true
  rw [cmp_strs]; rfl
theorem dq_OS (x y : Option Str) : cmpN 9 (dOS x) (dOS y) = true ∧ deqN 9 (dOS x) (dOS y) = decide (x = y) := by
  cases x with
  | none => cases y <;> exact ⟨rfl, rfl⟩
  | some x =>
    cases y with
    | none => exact ⟨rfl, rfl⟩
    | some y =>
      refine ⟨rfl, ?_⟩
      show decide (x = y) = decide (some x = some y)
      by_cases h : x = y
      · rw [h]; simp
      · simp [h]
theorem cmp_ON (x : Option Nat) : cmpN 9 (dON x) (dON x) = true := by cases x <;> rfl
theorem somes_mem {l : List (Option Str)} {x : Str} : x ∈ somes l ↔ some x ∈ l := by
  unfold somes
  rw [List.mem_filterMap]
  exact ⟨fun ⟨o, ho, e⟩ => by rw [show o = some x from e] at ho; exact ho, fun h => ⟨some x, h, rfl⟩⟩
theorem somes_nodup : ∀ {l : List (Option Str)}, l.Nodup → (somes l).Nodup
  | [], _ => List.Pairwise.nil
  | none :: l, h => show (somes l).Nodup from somes_nodup (List.nodup_cons.mp h).2
  | some x :: l, h => by
    obtain ⟨h1, h2⟩ := List.nodup_cons.mp h
    exact List.nodup_cons.mpr ⟨fun z => h1 (somes_mem.mp z), somes_nodup h2⟩
theorem texts_nodup (b : Book) (f : List Dg) : (textsBehind b f).Nodup := nodup_addText _ [] List.Pairwise.nil
/-- the law's texts are the program's -/
theorem texts_law {b : Book} (hb : okBook b) (hn : near b) {f : List Dg} (hf : f.length ≤ 40) : isort leS (nub (somes (behindL (toldF b) f))) = isort leS (somes (textsBehind b f)) := by
  refine isort_congr totS (perm_of_mem (nodup_nub _) (somes_nodup (texts_nodup b f)) fun x => ?_)
  rw [mem_nub, somes_mem, somes_mem, behind_law hb hn hf]
theorem none_law {b : Book} (hb : okBook b) (hn : near b) {f : List Dg} (hf : f.length ≤ 40) : decide (none ∈ behindL (toldF b) f) = decide (none ∈ textsBehind b f) := by
  have := behind_law hb hn hf none
  by_cases h : none ∈ textsBehind b f
  · rw [decide_eq_true h, decide_eq_true (this.mp h)]
  · rw [decide_eq_false h, decide_eq_false fun z => h (this.mpr z)]
theorem sure_law {b : Book} (hb : okBook b) (hn : near b) {f : List Dg} (hf : f.length ≤ 40) : isSure b f = (behindL (toldF b) f).all fun o => decide (o = toldF b (f.take 2)) := by
  have h := behind_law hb hn hf
  have hc : toldF b (f.take 2) ∈ textsBehind b f := (h _).mpr List.mem_cons_self
  have nd := texts_nodup b f
  unfold isSure
  by_cases e : (textsBehind b f).length = 1
  · rw [decide_eq_true e]
    symm
    rw [List.all_eq_true]
    intro o ho
    have ho := (h o).mpr ho
    obtain ⟨x, hx⟩ := List.length_eq_one_iff.mp e
    rw [hx] at ho hc
    rw [List.mem_singleton.mp ho, List.mem_singleton.mp hc]
    exact decide_eq_true rfl
  · rw [decide_eq_false e]
    symm
    rw [Bool.eq_false_iff]
    intro hall
    rw [List.all_eq_true] at hall
    refine e ?_
    have hall2 : ∀ o ∈ textsBehind b f, o = toldF b (f.take 2) := fun o ho => by simpa using hall o ((h o).mp ho)
    match hl : textsBehind b f with
    | [] => rw [hl] at hc; cases hc
    | [x] => rfl
    | x :: y :: l =>
      rw [hl] at hall2 nd
      have h1 := hall2 x List.mem_cons_self
      have h2 := hall2 y (List.mem_cons_of_mem _ List.mem_cons_self)
      exact absurd (show x ∈ y :: l by rw [h1, ← h2]; exact List.mem_cons_self) (List.nodup_cons.mp nd).1
/-- a law book is a book -/
theorem law_rul {most : Int} (hm : most ≤ 31) {r : Rul} (h : lawRul most r) : okRul r := by
  have ht : ∀ {t}, lawTst most t → okTst t := fun {t} ht => by
    obtain ⟨p, e, h0, h1⟩ := ht.pl
    refine ⟨?_, ht.how, ht.val⟩
    rw [e]; exact ⟨h0, by omega⟩
  exact ⟨h.word, by have := h.str; omega, by have := h.tl; omega, by have := h.pl; omega, fun t q => ht (h.ts t q), fun p q => ⟨(h.ps p q).1, ht (h.ps p q).2⟩⟩
theorem law_plain {most : Int} (hm : most ≤ 31) {b : Book} (hl : b.length ≤ 3) (h : ∀ r ∈ b, lawRul most r) : plainBook b := by
  refine ⟨⟨by omega, fun r hr => law_rul hm (h r hr), ?_⟩, hl, fun r hr => ⟨(h r hr).tl.2, fun t ht => ?_⟩, fun r hr => ⟨(h r hr).pl, fun t ht => ?_⟩⟩
  · have e : nPairs b = 0 := by
      clear hl
      induction b with
      | nil => rfl
      | cons r b ih =>
        have e1 : ((allTests r).filter fun t => isPtr t.w) = [] := by
          rw [List.filter_eq_nil_iff]
          intro t ht
          rcases List.mem_append.mp ht with z | z
          · obtain ⟨p, e, _⟩ := ((h r List.mem_cons_self).ts t z).pl
            rw [e]; exact Bool.false_ne_true
          · obtain ⟨q, hq, rfl⟩ := List.mem_map.mp z
            obtain ⟨p, e, _⟩ := ((h r List.mem_cons_self).ps q hq).2.pl
            rw [e]; exact Bool.false_ne_true
        have e2 : nPairs (r :: b) = ((allTests r).filter fun t => isPtr t.w).length + nPairs b := by
          unfold nPairs; rw [List.map_cons, List.sum_cons]
        rw [e2, e1, ih fun x hx => h x (List.mem_cons_of_mem _ hx)]; rfl
    omega
  · obtain ⟨p, e, _⟩ := ((h r hr).ts t ht).pl; exact ⟨p, e⟩
  · obtain ⟨p, e, _⟩ := ((h r hr).ps t ht).2.pl; exact ⟨p, e⟩
theorem law_near {b : Book} (h : ∀ r ∈ b, lawRul 1 r) : near b := fun r hr => ⟨fun t ht => ((h r hr).ts t ht).pl, fun t ht => ((h r hr).ps t ht).2.pl⟩
theorem plain_B {b : Book} (h : plainBook b) : linB ((order b).map (ruleAt b)) 1 0 ≤ 16777216 := Nat.le_trans (plain_linB h) (by omega)
/-! ### a table made of pairs -/
theorem prs_map (l : List (List Dg)) (e : List Dg → D) : prs (l.map fun g => D.tup [dF g, e g]) = some (l.map fun g => (hx g, e g)) := by
  induction l with
  | nil => rfl
  | cons g l ih =>
    show (prs (l.map fun g => D.tup [dF g, e g])).map _ = _
    rw [ih]; rfl
theorem put_new : ∀ (kvs : List (Str × D)) (k : Str) (d : D), (∀ kv ∈ kvs, kv.1 ≠ k) → putD kvs k d = kvs ++ [(k, d)] := fun kvs k d h => by
  unfold putD
  rw [if_neg]
  intro z
  rw [List.any_eq_true] at z
  obtain ⟨kv, hkv, e⟩ := z
  exact h kv hkv (by simpa using e)
theorem merge_new : ∀ (more kvs : List (Str × D)), ((kvs ++ more).map (·.1)).Nodup → mergeD kvs more = kvs ++ more
  | [], kvs, _ => (List.append_nil _).symm
  | (k, d) :: more, kvs, h => by
    have e : kvs ++ (k, d) :: more = (kvs ++ [(k, d)]) ++ more := by rw [List.append_assoc]; rfl
    show mergeD (putD kvs k d) more = _
    have hk : ∀ kv ∈ kvs, kv.1 ≠ k := fun kv hkv q => by
      rw [List.map_append, List.nodup_append] at h
      exact h.2.2 kv.1 (List.mem_map.mpr ⟨kv, hkv, rfl⟩) k (List.mem_map.mpr ⟨(k, d), List.mem_cons_self, rfl⟩) q
    rw [put_new kvs k d hk, merge_new more _ (by rw [← e]; exact h), ← e]
theorem files_nodup : (filesL 2).Nodup := by decide +kernel
theorem merge_tbl (tl : List Dg → Option Str) : mergeD [] (tblD tl) = tblD tl := by
  refine merge_new (tblD tl) [] ?_
  rw [List.nil_append]
  unfold tblD
  rw [List.map_map]
  have e : ((fun kv : Str × D => kv.1) ∘ fun g => (hx g, dOS (tl g))) = hx := rfl
  rw [e, List.nodup_iff_pairwise_ne, List.pairwise_map]
  exact (List.nodup_iff_pairwise_ne.mp files_nodup).imp fun h q => h (hx_inj q)
theorem cut_take (ds : List D) (n : Nat) : cutD ds none (some (n : Int)) = ds.take n := by
  unfold cutD
  rw [HT.sIx_nat, HT.sIx_none, Nat.sub_zero, List.drop_zero]
  rcases Nat.le_total n ds.length with h | h
  · rw [Nat.min_eq_left h]
  · rw [Nat.min_eq_right h, List.take_of_length_le h, List.take_of_length_le (Nat.le_refl _)]
theorem rg0 (n : Nat) : rgD 0 n = (List.range n).map fun i => D.int ((i : Nat) : Int) := by
  unfold rgD
  exact List.map_congr_left fun i _ => by rw [Int.zero_add]
end DL
-- part Sm6
set_option Elab.async false
set_option linter.all false
set_option maxRecDepth 100000
set_option maxHeartbeats 1000000
namespace DL
open PySem PySem.Spec PyProof.Rows L2
local macro_rules | `(tactic| walk_at "dl") => `(tactic| simp (config := {decide := false}) only [sNext, sSeq, sDrop, sRet, sIf, sSet, sAsg, sPar, sStore, sNever, xC, xOp, xB, xChain, xUn, yAnd, yOr, yNot, xAnd, xOr, xNot, xIf, aNil, aCons, xTup, xLst, mk, xCB, xIsi, xSl, xJoin, xIndexS, xIndexL, xAppend, xCall, gN, gT, gCons, gNil, yYes, oNone, oSome, iT, iL, iS, xVar, startD, wipeD,
  fI0, fI, fLt, fLe, fGt, fGe, fSub, fMul, fMod, fDiv, fPow, fAnd, fLen, lenD, fNeg, fIs, isNon, fIx, fAdd, fEq, fIn, fMin2, fMax2, fTuple, fList, fAll, fInt, fStrS, fAbs, tyn, res, seqD, lstD,
  ixt0, ixt1, ixt2, ixt3, k_ii, k_ib, k_it, k_tt, k_ss, k_ns, Bool.not_true, Bool.not_false, Option.map_some,
  List.map_cons, List.map_nil, List.length_cons, List.length_nil, List.length_map, List.cons_append, List.nil_append, List.getElem?_cons_zero, List.getElem?_cons_succ, List.set_cons_zero, List.set_cons_succ, List.replicate_succ, List.replicate_zero, Nat.reduceAdd, Nat.reduceSub, Nat.reduceLeDiff, Nat.zero_le, true_and, and_true, Option.bind_some, if_true, if_false, Bool.false_eq_true, reduceIte, decide_true, decide_false, decide_eq_true_eq, imp_self, forall_const])
/-! ### from how many digits on it is sure: the least -/
def leN (a b : Nat) : Bool := decide (a ≤ b)
theorem totN : TotB leN := ⟨fun x y h => by unfold leN at *; simp at *; omega, fun x y z h1 h2 => by unfold leN at *; simp at *; omega, fun x y h1 h2 => by unfold leN at *; simp at *; omega⟩
theorem range_sorted (n : Nat) : (List.range n).Pairwise (fun a b => leN a b = true) :=
  List.pairwise_lt_range.imp fun h => decide_eq_true (Nat.le_of_lt h)
/-- going down, the last one found -/
def Down (q : Nat → Bool) (len : Nat) (pre : List Nat) : Option Nat → Prop
  | none => ∀ i ∈ pre, q (len - i) = false
  | some m => m ≤ len ∧ q m = true ∧ ∀ i ∈ pre, q (len - i) = true → m ≤ len - i
theorem down_step {q : Nat → Bool} {len : Nat} {pre : List Nat} {i : Nat} {post : List Nat} (h : List.range (len + 1) = pre ++ i :: post) {o : Option Nat} (d : Down q len pre o) : Down q len (pre ++ [i]) (if q (len - i) then some (len - i) else o) := by
  have hp : ∀ j ∈ pre, j < i := fun j hj => by
    have := List.pairwise_lt_range (n := len + 1)
    rw [h, List.pairwise_append] at this
    exact this.2.2 j hj i List.mem_cons_self
  cases e : q (len - i) with
  | true =>
    rw [if_pos rfl]
    refine ⟨by omega, e, fun j hj _ => ?_⟩
    rcases List.mem_append.mp hj with z | z
    · have := hp j z; omega
    · rw [List.mem_singleton.mp z]; exact Nat.le_refl _
  | false =>
    rw [if_neg Bool.false_ne_true]
    cases o with
    | none =>
      intro j hj
      rcases List.mem_append.mp hj with z | z
      · exact d j z
      · rw [List.mem_singleton.mp z]; exact e
    | some m =>
      obtain ⟨a, b, c⟩ := d
      refine ⟨a, b, fun j hj qj => ?_⟩
      rcases List.mem_append.mp hj with z | z
      · exact c j z qj
      · rw [List.mem_singleton.mp z, e] at qj; cases qj
theorem down_end {q : Nat → Bool} {len : Nat} {o : Option Nat} (d : Down q len (List.range (len + 1)) o) : (List.range (len + 1)).find? q = o := by
  cases o with
  | none =>
    refine List.find?_eq_none.mpr fun n hn => ?_
    rw [List.mem_range] at hn
    have := d (len - n) (List.mem_range.mpr (by omega))
    rw [show len - (len - n) = n by omega] at this
    rw [this]; exact Bool.false_ne_true
  | some m =>
    obtain ⟨a, b, c⟩ := d
    refine find_least totN q (range_sorted _) (List.mem_range.mpr (by omega)) b fun y hy qy => ?_
    rw [List.mem_range] at hy
    have := c (len - y) (List.mem_range.mpr (by omega)) (by rw [show len - (len - y) = y by omega]; exact qy)
    exact decide_eq_true (by omega)
end DL
-- part Pl30
set_option Elab.async false
set_option linter.all false
set_option maxRecDepth 100000
set_option maxHeartbeats 1000000
namespace DL
open PySem PySem.Spec PyProof.Rows L2
local macro_rules | `(tactic| walk_at "dl") => `(tactic| simp (config := {decide := false}) only [sNext, sSeq, sDrop, sRet, sIf, sSet, sAsg, sPar, sStore, sNever, xC, xOp, xB, xChain, xUn, yAnd, yOr, yNot, xAnd, xOr, xNot, xIf, aNil, aCons, xTup, xLst, mk, xCB, xIsi, xSl, xJoin, xIndexS, xIndexL, xAppend, xCall, gN, gT, gCons, gNil, yYes, oNone, oSome, iT, iL, iS, xVar, startD, wipeD,
  fI0, fI, fLt, fLe, fGt, fGe, fSub, fMul, fMod, fDiv, fPow, fAnd, fLen, lenD, fNeg, fIs, isNon, fIx, fAdd, fEq, fIn, fMin2, fMax2, fTuple, fList, fAll, fInt, fStrS, fAbs, tyn, res, seqD, lstD,
  ixt0, ixt1, ixt2, ixt3, k_ii, k_ib, k_it, k_tt, k_ss, k_ns, Bool.not_true, Bool.not_false, Option.map_some,
  List.map_cons, List.map_nil, List.length_cons, List.length_nil, List.length_map, List.cons_append, List.nil_append, List.getElem?_cons_zero, List.getElem?_cons_succ, List.set_cons_zero, List.set_cons_succ, List.replicate_succ, List.replicate_zero, Nat.reduceAdd, Nat.reduceSub, Nat.reduceLeDiff, Nat.zero_le, true_and, and_true, Option.bind_some, if_true, if_false, Bool.false_eq_true, reduceIte, decide_true, decide_false, decide_eq_true_eq, imp_self, forall_const])
def t_k12down (R__law_behind : RF) : RS := (sFor (iR3 (xCB fLen (aCons (xVar 6) aNil)) (xUn fNeg (xC (.int 1))) (xUn fNeg (xC (.int 1)))) (gN 14) (sIf (xB (xOp (fEq false) (xLc false (iL (xCall R__law_behind (aCons (xVar 5) (aCons (xSl false (xVar 6) oNone (oSome (xVar 14))) aNil)))) (gN 11) (xB (xOp (fEq true) (xVar 11) (xOp fDix (xVar 5) (xSl false (xSl false (xVar 6) oNone (oSome (xVar 14))) oNone (oSome (xC (.int 2))))))) (xVar 11) [11]) (xLst false aNil))) (sSet 13 (xVar 14)) sNext))
def t_k12try (R__law_behind R_possible R_sure_at : RF) : RS := (sSeq (sSet 9 (xCall R__law_behind (aCons (xVar 5) (aCons (xVar 6) aNil)))) (sSeq (sSet 10 (xSortSetS false (xLc false (iL (xVar 9)) (gN 11) (xB (xOp (fIs true) (xVar 11) (xC .non))) (xVar 11) [11]))) (sSeq (sSet 12 (xCall R_possible (aCons (xVar 4) (aCons (xVar 6) aNil)))) (sSeq (sIf (xB (xOp (fEq true) (xVar 12) (xTup (aCons (xVar 10) (aCons (xOp (fIn false) (xC .non) (xVar 9)) aNil))))) (sRet (xC (.bl false))) sNext) (sSeq (sSet 13 (xC .non)) (sSeq (t_k12down R__law_behind) (sIf (xB (xOp (fEq true) (xCall R_sure_at (aCons (xVar 4) (aCons (xVar 6) aNil))) (xVar 13))) (sRet (xC (.bl false))) sNext)))))))
theorem res_OS (M : Mem) (o : Option Str) : res M (dOS o) = dOS o := by cases o <;> rfl
theorem res_ON (M : Mem) (o : Option Nat) : res M (dON o) = dON o := by cases o <;> rfl
theorem fEq_OS {ne : Bool} {x y : Option Str} {M : Mem} {P : DK} (h : P (.bl (if ne then !decide (x = y) else decide (x = y))) M) : fEq ne (dOS x) (dOS y) M P := by
  unfold fEq
  rw [res_OS, res_OS, (dq_OS x y).2]
  exact ⟨(dq_OS x y).1, h⟩
theorem fEq_ON {ne : Bool} {x : Option Nat} {M : Mem} {P : DK} (h : P (.bl (!ne)) M) : fEq ne (dON x) (dON x) M P := by
  unfold fEq
  rw [res_ON, deq_refl 9 _ (cmp_ON x)]
  refine ⟨cmp_ON x, ?_⟩
  cases ne <;> exact h
theorem behindL_len (tl : List Dg → Option Str) (f : List Dg) : (behindL tl f).length ≤ 300 := by
  unfold behindL
  rw [List.length_cons]
  split
  · have := flatMap_len (fun d => tl (f ++ [d]) :: (if f = [] then every.map fun e => tl [d, e] else [])) 17 (fun d => by
      rw [List.length_cons]
      split
      · rw [List.length_map]; decide
      · show 1 ≤ 17; omega) every
    have e : every.length = 16 := rfl
    omega
  · show 0 + 1 ≤ 300; omega
theorem p_k12down {b : Book} (hb : okBook b) (hn : near b) {f : List Dg} (hf : f.length ≤ 40) {x0 x1 x2 x3 x4 x7 x8 x9 x10 x11 x12 x14 : Option D} {E : DEnds} {M : Mem}
    (fin : ∀ x14, E.nx [x0, x1, x2, x3, x4, some (.dic (tblD (toldF b))), some (dF f), x7, x8, x9, x10, x11, x12, some (dON (sureAt b f)), x14] M) :
    t_k12down R_law_behind E [x0, x1, x2, x3, x4, some (.dic (tblD (toldF b))), some (dF f), x7, x8, x9, x10, x11, x12, some .non, x14] M := by
  have hf2 : f.length ≤ 16777216 := by omega
  have hl := len_hx (M := M) hf2
  have hl1 : (hx f).length ≤ 16777216 := by rw [hx_len]; exact hf2
  unfold t_k12down
  refine for_go (xs := List.range (f.length + 1)) (e := fun i => D.int (((f.length - i : Nat)) : Int)) (fun pre ρ M' => M' = M ∧ ∃ o, Down (fun n => isSure b (f.take n)) f.length pre o ∧ ∃ x14, ρ = [x0, x1, x2, x3, x4, some (.dic (tblD (toldF b))), some (dF f), x7, x8, x9, x10, x11, x12, some (dON o), x14]) (fun Q h => ?_) ⟨rfl, none, (fun i hi => by cases hi), x14, rfl⟩ ?_ ?_
  · have e : dnD (f.length : Int) ((f.length : Int) - (-1)).toNat = (List.range (f.length + 1)).map fun i => D.int (((f.length - i : Nat)) : Int) := by
      unfold dnD
      have e1 : ((f.length : Int) - (-1)).toNat = f.length + 1 := by omega
      rw [e1]
      refine List.map_congr_left fun i hi => ?_
      rw [List.mem_range] at hi
      congr 1; omega
    show (match lenD M (.str (hx f)) with | some n => _ | none => False)
    rw [hl]
    refine ⟨rfl, ⟨by omega, by omega, by omega, by omega⟩, ?_⟩
    show Q (dnD (f.length : Int) ((f.length : Int) - (-1)).toNat) M
    rw [e]; exact h
  · rintro pre i post hr ρ M' ⟨rfl, o, hd, y14, rfl⟩
    have hi : i < f.length + 1 := by
      have : i ∈ List.range (f.length + 1) := by rw [hr]; simp
      exact List.mem_range.mp this
    have hd2 := down_step (q := fun n => isSure b (f.take n)) hr hd
    obtain ⟨m, hm⟩ : ∃ m, m = f.length - i := ⟨_, rfl⟩
    rw [← hm] at hd2 ⊢
    obtain ⟨g, hg⟩ : ∃ g, g = f.take m := ⟨_, rfl⟩
    have hgl : g.length ≤ 40 := by rw [hg, List.length_take]; omega
    have e1 : cutS (hx f) none (some ((m : Nat) : Int)) = hx g := by rw [cut_hx, hg]
    have hs := sure_law hb hn hgl
    simp only [gN, List.set_cons_succ, List.set_cons_zero]
    have ct : ∀ K : Bool → Mem → Prop, K (isSure b g) M' → (xB (xOp (fEq false) (xLc false (iL (xCall R_law_behind (aCons (xVar 5) (aCons (xSl false (xVar 6) oNone (oSome (xVar 14))) aNil)))) (gN 11) (xB (xOp (fEq true) (xVar 11) (xOp fDix (xVar 5) (xSl false (xSl false (xVar 6) oNone (oSome (xVar 14))) oNone (oSome (xC (.int 2))))))) (xVar 11) [11]) (xLst false aNil))) [x0, x1, x2, x3, x4, some (.dic (tblD (toldF b))), some (dF f), x7, x8, x9, x10, x11, x12, some (dON o), some (.int (m : Int))] M' K := fun K k => by
      refine lc_filter (xs := behindL (toldF b) g) (e := dOS) (fun o => !decide (o = toldF b (g.take 2))) dOS (fun Q h => ⟨hl1, toldF b, g, by rw [e1], hgl, h⟩) (by have := behindL_len (toldF b) g; omega) (fun o ho K k => ?_) ?_
      · refine ⟨hl1, by rw [e1, hx_len]; omega, ?_⟩
        show (match getD' (tblD (toldF b)) (cutS (cutS (hx f) none (some (m : Int))) none (some ((2 : Nat) : Int))) with | some d' => _ | none => False)
        rw [e1, cut_hx, tbl_get _ (by rw [List.length_take]; omega)]
        refine fEq_OS (ne := true) ?_
        show (match !decide (o = toldF b (g.take 2)) with | true => _ | false => _)
        cases e : decide (o = toldF b (g.take 2)) with
        | true => rw [e] at k; exact k
        | false => rw [e] at k; exact k
      · refine ⟨Nat.zero_le _, cq_nilL _, ?_⟩
        show K (deqN 9 (.lst ((((behindL (toldF b) g).filter fun o => !decide (o = toldF b (g.take 2)))).map dOS)) (.lst [])) M'
        rw [dq_nilL, List.isEmpty_map, filt_all (fun o => decide (o = toldF b (g.take 2))), ← hs]
        exact k
    rw [← hg] at hd2
    cases e : isSure b g with
    | true =>
      rw [e] at ct hd2
      rw [if_pos rfl] at hd2
      exact if_t (M' := M') ct ⟨rfl, some m, hd2, some (.int (m : Int)), rfl⟩
    | false =>
      rw [e] at ct hd2
      rw [if_neg Bool.false_ne_true] at hd2
      exact if_f (M' := M') ct ⟨rfl, o, hd2, some (.int (m : Int)), rfl⟩
  · rintro ρ M' ⟨rfl, o, hd, y14, rfl⟩
    have e : sureAt b f = o := down_end hd
    have := fin y14
    rw [e] at this
    exact this
theorem p_k12try {b : Book} (hb : okBook b) (hn : near b) (hB : linB ((order b).map (ruleAt b)) 1 0 ≤ 16777216) {f : List Dg} (hf : f.length ≤ 40) {x0 x1 x2 x3 x7 x8 x9 x10 x11 x12 x13 x14 : Option D} {E : DEnds} {M : Mem}
    (fin : ∀ x9 x10 x11 x12 x13 x14, E.nx [x0, x1, x2, x3, some (dBook b), some (.dic (tblD (toldF b))), some (dF f), x7, x8, x9, x10, x11, x12, x13, x14] M) :
    t_k12try R_law_behind R_possible R_sure_at E [x0, x1, x2, x3, some (dBook b), some (.dic (tblD (toldF b))), some (dF f), x7, x8, x9, x10, x11, x12, x13, x14] M := by
  obtain ⟨B, hBd⟩ : ∃ B, B = behindL (toldF b) f := ⟨_, rfl⟩
  have hBl : B.length ≤ 300 := by rw [hBd]; exact behindL_len _ _
  obtain ⟨T, hT⟩ : ∃ T, T = isort leS (somes (textsBehind b f)) := ⟨_, rfl⟩
  obtain ⟨N, hN⟩ : ∃ N, N = decide (none ∈ textsBehind b f) := ⟨_, rfl⟩
  have hTB : isort leS (nub (somes B)) = T := by rw [hBd, hT]; exact texts_law hb hn hf
  have hNB : decide (none ∈ B) = N := by rw [hBd, hN]; exact none_law hb hn hf
  unfold t_k12try
  refine sq (ρ' := [x0, x1, x2, x3, some (dBook b), some (.dic (tblD (toldF b))), some (dF f), x7, x8, some (.lst (B.map dOS)), x10, x11, x12, x13, x14]) (M' := M) (fun K k => ⟨toldF b, f, rfl, hf, by rw [← hBd]; exact k⟩) ?_
  refine sq (ρ' := [x0, x1, x2, x3, some (dBook b), some (.dic (tblD (toldF b))), some (dF f), x7, x8, some (.lst (B.map dOS)), some (.lst (T.map D.str)), x11, x12, x13, x14]) (M' := M) (fun K k => ?_) ?_
  · refine lc_pure (xs := B) (e := dOS) (out := fun o => o.map D.str) (fun Q h => h) (by omega) (fun o ho K k => ?_) ?_
    · cases o with
      | none => exact k
      | some x => exact k
    · have e1 : B.filterMap (fun o => o.map D.str) = (somes B).map D.str := by
        unfold somes
        rw [List.map_filterMap]
        rfl
      have e2 : txts ((somes B).map D.str) = some (somes B) := by
        have := txts_map (fun x : Str => x) (somes B)
        rw [List.map_id'] at this
        exact this
      rw [e1]
      show (match txts ((somes B).map D.str) with | some xs => _ | none => False)
      rw [e2]
      refine ⟨?_, ?_⟩
      · have : (somes B).length ≤ B.length := List.length_filterMap_le _ _
        omega
      · rw [hTB]; exact k
  refine sq (ρ' := [x0, x1, x2, x3, some (dBook b), some (.dic (tblD (toldF b))), some (dF f), x7, x8, some (.lst (B.map dOS)), some (.lst (T.map D.str)), x11, some (.tup [.lst (T.map D.str), .bl N]), x13, x14]) (M' := M) (fun K k => ⟨b, f, rfl, hb, hB, hf, by rw [← hT, ← hN]; exact k⟩) ?_
  refine sif_f (M' := M) (fun K k => ?_) ?_
  · refine ⟨rfl, flat_OSs _, by show 2 ≤ 16777216; omega, ?_⟩
    have e3 : inD .non (B.map dOS) = N := by
      have := inD_OS none B
      rw [hNB] at this
      exact this
    simp only [Bool.false_eq_true, if_false, e3]
    refine ⟨cmp_poss T N, ?_⟩
    show K (!deqN 9 (.tup [.lst (T.map D.str), .bl N]) (.tup [.lst (T.map D.str), .bl N])) M
    rw [deq_refl 9 _ (cmp_poss T N)]
    exact k
  refine sq (ρ' := [x0, x1, x2, x3, some (dBook b), some (.dic (tblD (toldF b))), some (dF f), x7, x8, some (.lst (B.map dOS)), some (.lst (T.map D.str)), x11, some (.tup [.lst (T.map D.str), .bl N]), some .non, x14]) (M' := M) (fun K k => k) ?_
  refine p_k12down hb hn hf fun y14 => ?_
  dsimp only
  exact if_f (M' := M) (fun K k => ⟨b, f, rfl, hb, hB, hf, fEq_ON (ne := true) (x := sureAt b f) (M := M) (P := fun d M' => match d with | .bl b => K b M' | _ => False) k⟩) (fin _ _ _ _ _ _)
end DL
-- part Pl32
set_option Elab.async false
set_option linter.all false
set_option maxRecDepth 100000
set_option maxHeartbeats 1000000
namespace DL
open PySem PySem.Spec PyProof.Rows L2
local macro_rules | `(tactic| walk_at "dl") => `(tactic| simp (config := {decide := false}) only [sNext, sSeq, sDrop, sRet, sIf, sSet, sAsg, sPar, sStore, sNever, xC, xOp, xB, xChain, xUn, yAnd, yOr, yNot, xAnd, xOr, xNot, xIf, aNil, aCons, xTup, xLst, mk, xCB, xIsi, xSl, xJoin, xIndexS, xIndexL, xAppend, xCall, gN, gT, gCons, gNil, yYes, oNone, oSome, iT, iL, iS, xVar, startD, wipeD,
  fI0, fI, fLt, fLe, fGt, fGe, fSub, fMul, fMod, fDiv, fPow, fAnd, fLen, lenD, fNeg, fIs, isNon, fIx, fAdd, fEq, fIn, fMin2, fMax2, fTuple, fList, fAll, fInt, fStrS, fAbs, tyn, res, seqD, lstD,
  ixt0, ixt1, ixt2, ixt3, k_ii, k_ib, k_it, k_tt, k_ss, k_ns, Bool.not_true, Bool.not_false, Option.map_some,
  List.map_cons, List.map_nil, List.length_cons, List.length_nil, List.length_map, List.cons_append, List.nil_append, List.getElem?_cons_zero, List.getElem?_cons_succ, List.set_cons_zero, List.set_cons_succ, List.replicate_succ, List.replicate_zero, Nat.reduceAdd, Nat.reduceSub, Nat.reduceLeDiff, Nat.zero_le, true_and, and_true, Option.bind_some, if_true, if_false, Bool.false_eq_true, reduceIte, decide_true, decide_false, decide_eq_true_eq, imp_self, forall_const])
/-! ### places, numbers, lengths that matter: the program's way -/
def startC : Cas := ⟨0, 40, []⟩
theorem d_start : D_START = dCas startC := rfl
theorem startC_ok : okCas startC := ⟨List.Pairwise.nil, fun q hq => (by cases hq), fun q hq => (by cases hq)⟩
abbrev bB (b : Book) : Prop := linB ((order b).map (ruleAt b)) 1 0 ≤ 16777216
def R_lines_of : RF := fun ds M P => ∃ b : Book, ds = [dBook b] ∧ okBook b ∧ bB b ∧ P (.lst ((linesFrom b startC none none).map dLin)) M
theorem p_lines_of (ds : List D) (M : Mem) (Q : DK) (h : R_lines_of ds M Q) : t_lines_of R_lines_from (en0 Q) (startD N_lines_of ds) M := by
  obtain ⟨b, rfl, ok, hB, q⟩ := h
  exact ⟨b, startC, none, none, rfl, ok, startC_ok, hB, q⟩
def differs (ls : List Lin) (text : Option Str) : Bool := ls.any fun l => !decide (l.text = text)
theorem filt_any {α : Type} (q : α → Bool) : ∀ xs : List α, (xs.filter q).isEmpty = !xs.any q
  | [] => rfl
  | x :: xs => by
    cases h : q x with
    | true => rw [List.filter_cons_of_pos h, List.any_cons, h]; rfl
    | false => rw [List.filter_cons_of_neg (by rw [h]; exact Bool.false_ne_true), List.any_cons, h, filt_any q xs]; rfl
theorem fIx_lin0 {l : Lin} {M : Mem} {P : DK} (h : P (dOS l.text) M) : fIx (dLin l) (.int 0) M P := by
  unfold fIx
  show (match ixD M (dLin l) 0 with | some d' => P d' M | none => False)
  rw [show ixD M (dLin l) 0 = some (dOS l.text) from ixt0]
  exact h
theorem ct_diff {wi : RI} {j k : Nat} {ρ : DEnv} {M : Mem} {ls : List Lin} {text : Option Str} (hw : ∀ Q : List D → Mem → Prop, Q (ls.map dLin) M → wi ρ M Q) (hl : ls.length ≤ 16777216)
    (hj : ∀ (l : Lin) (P : DK), P (dLin l) M → xVar j ((wipeD ρ [j]).set j (some (dLin l))) M P) (hk : ∀ (l : Lin) (P : DK), P (dOS text) M → xVar k ((wipeD ρ [j]).set j (some (dLin l))) M P)
    (K : Bool → Mem → Prop) (h : K (differs ls text) M) :
    (xB (xOp (fEq true) (xLc false wi (gN j) (xB (xOp (fEq true) (xOp fIx (xVar j) (xC (.int 0))) (xVar k))) (xVar j) [j]) (xLst false aNil))) ρ M K := by
  refine lc_filter (xs := ls) (e := dLin) (fun l => !decide (l.text = text)) dLin hw hl (fun l _ K k => ?_) ?_
  · simp only [gN, xB, xOp, xC]
    refine hj l _ ?_
    refine fIx_lin0 ?_
    refine hk l _ ?_
    refine fEq_OS (ne := true) ?_
    show (match !decide (l.text = text) with | true => _ | false => _)
    cases e : decide (l.text = text) with
    | true => rw [e] at k; exact k
    | false => rw [e] at k; exact hj l _ k
  · refine ⟨Nat.zero_le _, cq_nilL _, ?_⟩
    show K (!deqN 9 (.lst ((ls.filter fun l => !decide (l.text = text)).map dLin)) (.lst [])) M
    rw [dq_nilL, List.isEmpty_map, filt_any, Bool.not_not]
    exact h
theorem lines_le {b : Book} (ok : okBook b) (hB : bB b) {c : Cas} (hc : okCas c) (o k : Option Int) : (linesFrom b c o k).length ≤ 16777216 := Nat.le_trans (linesFrom_facts ok hc o k).2 hB
/-- place_matters -/
def pmIn (b : Book) (p : Int) (s : Cas) : Bool := (linesFrom b s none none).any fun l => differs (linesFrom b l.cas (some p) none) l.text
def placeMatters (b : Book) (p : Int) : Bool := (withPlace startC p).any (pmIn b p)
def R_place_matters : RF := fun ds M P => ∃ (b : Book) (p : Int), ds = [dBook b, .int p] ∧ okBook b ∧ bB b ∧ P (.bl (placeMatters b p)) M
theorem any_none {α : Type} {q : α → Bool} {xs : List α} (h : ∀ x ∈ xs, q x = false) : xs.any q = false := by
  rw [List.any_eq_false]; exact fun x hx => by rw [h x hx]; exact Bool.false_ne_true
theorem any_some {α : Type} {q : α → Bool} {xs : List α} {x : α} (hx : x ∈ xs) (h : q x = true) : xs.any q = true := List.any_eq_true.mpr ⟨x, hx, h⟩
theorem p_place_matters (ds : List D) (M : Mem) (Q : DK) (h : R_place_matters ds M Q) : t_place_matters R_with_place R_lines_from (en0 Q) (startD N_place_matters ds) M := by
  obtain ⟨b, p, rfl, ok, hB, q⟩ := h
  unfold t_place_matters
  refine for_go (xs := withPlace startC p) (e := dCas) (fun pre ρ M' => M' = M ∧ (∀ s ∈ pre, pmIn b p s = false) ∧ ∃ x2 x3 x4 x5 x6 x7, ρ = [some (dBook b), some (.int p), x2, x3, x4, x5, x6, x7]) (fun Q h => ⟨startC, p, rfl, h⟩) ⟨rfl, (fun s hs => by cases hs), none, none, none, none, none, none, rfl⟩ ?_ ?_
  · rintro pre s post hs ρ M' ⟨rfl, hpre, x2, x3, x4, x5, x6, x7, rfl⟩
    have hsm : s ∈ withPlace startC p := by rw [hs]; simp
    have oks : okCas s := withPlace_ok startC_ok s hsm
    have hls := (linesFrom_facts ok oks none none).1
    simp only [gN, List.set_cons_succ, List.set_cons_zero]
    refine for_go (xs := linesFrom b s none none) (e := dLin) (fun ip ρ M2 => M2 = M' ∧ (∀ l ∈ ip, differs (linesFrom b l.cas (some p) none) l.text = false) ∧ ∃ x3 x4 x5 x6 x7, ρ = [some (dBook b), some (.int p), some (dCas s), x3, x4, x5, x6, x7]) (fun Q h => ⟨b, s, none, none, rfl, ok, oks, hB, h⟩) ⟨rfl, (fun s hs => by cases hs), x3, x4, x5, x6, x7, rfl⟩ ?_ ?_
    · rintro ip l ipost hl ρ M2 ⟨rfl, hip, y3, y4, y5, y6, y7, rfl⟩
      have hlm : l ∈ linesFrom b s none none := by rw [hl]; simp
      have okl : okCas l.cas := hls l hlm
      unfold dLin
      simp only [gT, gCons, gNil, gN, List.set_cons_succ, List.set_cons_zero]
      have ct := ct_diff (j := 7) (k := 3) (wi := iL (xCall R_lines_from (aCons (xVar 0) (aCons (xVar 6) (aCons (xVar 1) (aCons (xC .non) aNil)))))) (ρ := [some (dBook b), some (.int p), some (dCas s), some (dOS l.text), some (dOI l.index), some (.tup (l.said.map D.bl)), some (dCas l.cas), y7]) (M := M2) (ls := linesFrom b l.cas (some p) none) (text := l.text)
        (fun Q h => ⟨b, l.cas, some p, none, rfl, ok, okl, hB, h⟩) (lines_le ok hB okl _ _) (fun l P h => h) (fun l P h => h)
      cases e : differs (linesFrom b l.cas (some p) none) l.text with
      | true =>
        rw [e] at ct
        refine if_t (M' := M2) ct ?_
        have e2 : placeMatters b p = true := any_some hsm (any_some hlm e)
        rw [e2] at q
        exact q
      | false =>
        rw [e] at ct
        refine if_f (M' := M2) ct ⟨rfl, fun z hz => ?_, _, _, _, _, _, rfl⟩
        rcases List.mem_append.mp hz with w | w
        · exact hip z w
        · rw [List.mem_singleton.mp w]; exact e
    · rintro ρ M2 ⟨rfl, hip, y3, y4, y5, y6, y7, rfl⟩
      refine ⟨rfl, fun z hz => ?_, _, _, _, _, _, _, rfl⟩
      rcases List.mem_append.mp hz with w | w
      · exact hpre z w
      · rw [List.mem_singleton.mp w]; exact any_none hip
  · rintro ρ M' ⟨rfl, hpre, x2, x3, x4, x5, x6, x7, rfl⟩
    have e2 : placeMatters b p = false := any_none hpre
    rw [e2] at q
    exact q
def readsL (b : Book) : List Nat := (List.range 32).filter fun n => placeMatters b (n : Int)
def R_reads_of : RF := fun ds M P => ∃ b : Book, ds = [dBook b] ∧ okBook b ∧ bB b ∧ ∀ a, M a = none → P (.box a) (updM M a ((readsL b).map fun n => D.int ((n : Nat) : Int)))
theorem p_reads_of (ds : List D) (M : Mem) (Q : DK) (h : R_reads_of ds M Q) : t_reads_of R_place_matters (en0 Q) (startD N_reads_of ds) M := by
  obtain ⟨b, rfl, ok, hB, q⟩ := h
  unfold t_reads_of D_MOST_PLACE
  refine lc_filter (xs := List.range 32) (e := fun n => D.int ((n : Nat) : Int)) (fun n => placeMatters b (n : Int)) (fun n => D.int ((n : Nat) : Int)) (fun Q h => ⟨by omega, by omega, by rw [← rg0 32] at h; exact h⟩) (by decide) (fun n hn K k => ⟨b, (n : Int), rfl, ok, hB, ?_⟩) q
  show (match placeMatters b (n : Int) with | true => _ | false => _)
  cases e : placeMatters b (n : Int) with
  | true => rw [e] at k; exact k
  | false => rw [e] at k; exact k
def R_reads : RF := fun ds M P => ∃ b : Book, ds = [dBook b] ∧ okBook b ∧ bB b ∧ ∀ a, M a = none → P (.box a) (updM M a ((readsL b).map fun n => D.int ((n : Nat) : Int)))
theorem p_reads (ds : List D) (M : Mem) (Q : DK) (h : R_reads ds M Q) : t_reads R_need_book R_reads_of (en0 Q) (startD N_reads ds) M := by
  obtain ⟨b, rfl, ok, hB, q⟩ := h
  exact ⟨b, rfl, ok, b, rfl, ok, hB, q⟩
/-- is_enough -/
def isEnough (b : Book) (k : Int) : Bool := !(linesFrom b startC none none).any fun l => differs (linesFrom b l.cas none (some k)) l.text
def R_is_enough : RF := fun ds M P => ∃ (b : Book) (k : Int), ds = [dBook b, .int k] ∧ okBook b ∧ bB b ∧ P (.bl (isEnough b k)) M
theorem p_is_enough (ds : List D) (M : Mem) (Q : DK) (h : R_is_enough ds M Q) : t_is_enough R_lines_of R_lines_from (en0 Q) (startD N_is_enough ds) M := by
  obtain ⟨b, p, rfl, ok, hB, q⟩ := h
  have hls := (linesFrom_facts ok startC_ok none none).1
  unfold t_is_enough
  refine for_go (xs := linesFrom b startC none none) (e := dLin) (fun ip ρ M2 => M2 = M ∧ (∀ l ∈ ip, differs (linesFrom b l.cas none (some p)) l.text = false) ∧ ∃ x2 x3 x4 x5 x6, ρ = [some (dBook b), some (.int p), x2, x3, x4, x5, x6]) (fun Q h => ⟨b, rfl, ok, hB, h⟩) ⟨rfl, (fun s hs => by cases hs), none, none, none, none, none, rfl⟩ ?_ ?_
  · rintro ip l ipost hl ρ M2 ⟨rfl, hip, y2, y3, y4, y5, y6, rfl⟩
    have hlm : l ∈ linesFrom b startC none none := by rw [hl]; simp
    have okl : okCas l.cas := hls l hlm
    unfold dLin
    simp only [gT, gCons, gNil, gN, List.set_cons_succ, List.set_cons_zero]
    have ct := ct_diff (j := 6) (k := 2) (wi := iL (xCall R_lines_from (aCons (xVar 0) (aCons (xVar 5) (aCons (xC .non) (aCons (xVar 1) aNil)))))) (ρ := [some (dBook b), some (.int p), some (dOS l.text), some (dOI l.index), some (.tup (l.said.map D.bl)), some (dCas l.cas), y6]) (M := M2) (ls := linesFrom b l.cas none (some p)) (text := l.text)
      (fun Q h => ⟨b, l.cas, none, some p, rfl, ok, okl, hB, h⟩) (lines_le ok hB okl _ _) (fun l P h => h) (fun l P h => h)
    cases e : differs (linesFrom b l.cas none (some p)) l.text with
    | true =>
      rw [e] at ct
      refine if_t (M' := M2) ct ?_
      have e2 : isEnough b p = false := by unfold isEnough; rw [any_some hlm e]; rfl
      rw [e2] at q
      exact q
    | false =>
      rw [e] at ct
      refine if_f (M' := M2) ct ⟨rfl, fun z hz => ?_, _, _, _, _, _, rfl⟩
      rcases List.mem_append.mp hz with w | w
      · exact hip z w
      · rw [List.mem_singleton.mp w]; exact e
  · rintro ρ M2 ⟨rfl, hip, y2, y3, y4, y5, y6, rfl⟩
    have e2 : isEnough b p = true := by unfold isEnough; rw [any_none hip]; rfl
    rw [e2] at q
    exact q
/-- the least number that is enough -/
structure Least (q : Nat → Bool) (k : Nat) : Prop where
  yes : q k = true
  no : ∀ j, j < k → q j = false
def R_enough : RF := fun ds M P => ∃ (b : Book) (k : Nat), ds = [dBook b] ∧ okBook b ∧ bB b ∧ Least (fun j => isEnough b (j : Int)) k ∧ P (.int (k : Int)) M
theorem p_enough (ds : List D) (M : Mem) (Q : DK) (h : R_enough ds M Q) : t_enough R_need_book R_is_enough (en0 Q) (startD N_enough ds) M := by
  obtain ⟨b, k, rfl, ok, hB, hk, q⟩ := h
  unfold t_enough
  refine sq (ρ' := [some (dBook b), none]) (M' := M) (fun K k => ⟨b, rfl, ok, k⟩) ?_
  refine sq (ρ' := [some (dBook b), some (.int 0)]) (M' := M) (fun K k => k) ?_
  refine ⟨fun m ρ M' => M' = M ∧ ∃ j : Nat, j + m = k ∧ ρ = [some (dBook b), some (.int (j : Int))], ⟨k, rfl, 0, Nat.zero_add k, rfl⟩, ?_⟩
  rintro m ρ M' ⟨rfl, j, hj, rfl⟩
  refine ⟨b, (j : Int), rfl, ok, hB, ?_⟩
  show (match !isEnough b (j : Int) with | true => _ | false => _)
  cases m with
  | zero =>
    have e : isEnough b (j : Int) = true := by rw [show j = k by omega]; exact hk.yes
    rw [e, show j = k by omega]
    exact q
  | succ m =>
    have e : isEnough b (j : Int) = false := hk.no j (by omega)
    rw [e]
    exact ⟨m, Nat.lt_succ_self m, rfl, j + 1, by omega, rfl⟩
/-- length_matters -/
def lenC (n : Int) (digs : List (Int × List Dg)) : Cas := ⟨n, n, digs⟩
def lmIn (b : Book) (n : Int) (l : Lin) : Bool := differs (linesFrom b (withDigits (lenC (n + 1) l.cas.digs) n [0]) none none) l.text
def lengthMatters (b : Book) (n : Int) : Bool := (linesFrom b (lenC n []) none none).any (lmIn b n)
theorem lenC_ok (n : Int) : okCas (lenC n []) := ⟨List.Pairwise.nil, fun q hq => (by cases hq), fun q hq => (by cases hq)⟩
def R_length_matters : RF := fun ds M P => ∃ (b : Book) (n : Int), ds = [dBook b, .int n] ∧ okBook b ∧ bB b ∧ 0 ≤ n ∧ n < 48 ∧ P (.bl (lengthMatters b n)) M
theorem p_length_matters (ds : List D) (M : Mem) (Q : DK) (h : R_length_matters ds M Q) : t_length_matters R_lines_from R_with_digits (en0 Q) (startD N_length_matters ds) M := by
  obtain ⟨b, p, rfl, ok, hB, hp0, hp1, q⟩ := h
  have hls := (linesFrom_facts ok (lenC_ok p) none none).1
  unfold t_length_matters
  refine for_go (xs := linesFrom b (lenC p []) none none) (e := dLin) (fun ip ρ M2 => M2 = M ∧ (∀ l ∈ ip, lmIn b p l = false) ∧ ∃ x2 x3 x4 x5 x6 x7, ρ = [some (dBook b), some (.int p), x2, x3, x4, x5, x6, x7]) (fun Q h => ⟨Nat.zero_le _, by show 3 ≤ 16777216; omega, b, lenC p [], none, none, rfl, ok, lenC_ok p, hB, h⟩) ⟨rfl, (fun s hs => by cases hs), none, none, none, none, none, none, rfl⟩ ?_ ?_
  · rintro ip l ipost hl ρ M2 ⟨rfl, hip, y2, y3, y4, y5, y6, y7, rfl⟩
    have hlm : l ∈ linesFrom b (lenC p []) none none := by rw [hl]; simp
    have okl : okCas l.cas := hls l hlm
    have okn : okCas (lenC (p + 1) l.cas.digs) := ⟨okl.nd, okl.rg, okl.sz⟩
    have okw : okCas (withDigits (lenC (p + 1) l.cas.digs) p [0]) := withDigits_ok okn ⟨by omega, hp1⟩ (by show 1 ≤ 16; omega)
    unfold dLin
    simp only [gT, gCons, gNil, gN, List.set_cons_succ, List.set_cons_zero]
    refine sq (ρ' := [some (dBook b), some (.int p), some (dOS l.text), some (dOI l.index), some (.tup (l.said.map D.bl)), some (dCas l.cas), some (dCas (withDigits (lenC (p + 1) l.cas.digs) p [0])), y7]) (M' := M2) (fun K k => ?_) ?_
    · show (match ixD M2 (dCas l.cas) 2 with | some d => _ | none => False)
      rw [show ixD M2 (dCas l.cas) 2 = some (.tup (l.cas.digs.map dKey)) from ixt2]
      exact ⟨by show 3 ≤ 16777216; omega, by show 1 ≤ 16777216; omega, lenC (p + 1) l.cas.digs, p, [0], rfl, okn, k⟩
    have ct := ct_diff (j := 7) (k := 2) (wi := iL (xCall R_lines_from (aCons (xVar 0) (aCons (xVar 6) (aCons (xC .non) (aCons (xC .non) aNil)))))) (ρ := [some (dBook b), some (.int p), some (dOS l.text), some (dOI l.index), some (.tup (l.said.map D.bl)), some (dCas l.cas), some (dCas (withDigits (lenC (p + 1) l.cas.digs) p [0])), y7]) (M := M2) (ls := linesFrom b (withDigits (lenC (p + 1) l.cas.digs) p [0]) none none) (text := l.text)
      (fun Q h => ⟨b, _, none, none, rfl, ok, okw, hB, h⟩) (lines_le ok hB okw _ _) (fun l P h => h) (fun l P h => h)
    cases e : lmIn b p l with
    | true =>
      rw [show differs (linesFrom b (withDigits (lenC (p + 1) l.cas.digs) p [0]) none none) l.text = true from e] at ct
      refine if_t (M' := M2) ct ?_
      have e2 : lengthMatters b p = true := any_some hlm e
      rw [e2] at q
      exact q
    | false =>
      rw [show differs (linesFrom b (withDigits (lenC (p + 1) l.cas.digs) p [0]) none none) l.text = false from e] at ct
      refine if_f (M' := M2) ct ⟨rfl, fun z hz => ?_, _, _, _, _, _, _, rfl⟩
      rcases List.mem_append.mp hz with w | w
      · exact hip z w
      · rw [List.mem_singleton.mp w]; exact e
  · rintro ρ M2 ⟨rfl, hip, y2, y3, y4, y5, y6, y7, rfl⟩
    have e2 : lengthMatters b p = false := any_none hip
    rw [e2] at q
    exact q
def lengthsL (b : Book) : List Nat := (List.range 33).filter fun n => lengthMatters b (n : Int)
def R_lengths : RF := fun ds M P => ∃ b : Book, ds = [dBook b] ∧ okBook b ∧ bB b ∧ P (.lst ((lengthsL b).map fun n => D.int ((n : Nat) : Int))) M
theorem p_lengths (ds : List D) (M : Mem) (Q : DK) (h : R_lengths ds M Q) : t_lengths R_need_book R_length_matters (en0 Q) (startD N_lengths ds) M := by
  obtain ⟨b, rfl, ok, hB, q⟩ := h
  unfold t_lengths D_MOST_PLACE
  refine sq (ρ' := [some (dBook b), none]) (M' := M) (fun K k => ⟨b, rfl, ok, k⟩) ?_
  refine lc_filter (xs := List.range 33) (e := fun n => D.int ((n : Nat) : Int)) (fun n => lengthMatters b (n : Int)) (fun n => D.int ((n : Nat) : Int)) (fun Q h => ⟨by omega, by omega, by rw [← rg0 33] at h; exact h⟩) (by decide) (fun n hn K k => ⟨b, (n : Int), rfl, ok, hB, by omega, by have := List.mem_range.mp hn; omega, ?_⟩) q
  show (match lengthMatters b (n : Int) with | true => _ | false => _)
  cases e : lengthMatters b (n : Int) with
  | true => rw [e] at k; exact k
  | false => rw [e] at k; exact k
end DL
-- part Sm7
set_option Elab.async false
set_option linter.all false
set_option maxRecDepth 100000
set_option maxHeartbeats 1000000
namespace DL
open PySem PySem.Spec PyProof.Rows L2
local macro_rules | `(tactic| walk_at "dl") => `(tactic| simp (config := {decide := false}) only [sNext, sSeq, sDrop, sRet, sIf, sSet, sAsg, sPar, sStore, sNever, xC, xOp, xB, xChain, xUn, yAnd, yOr, yNot, xAnd, xOr, xNot, xIf, aNil, aCons, xTup, xLst, mk, xCB, xIsi, xSl, xJoin, xIndexS, xIndexL, xAppend, xCall, gN, gT, gCons, gNil, yYes, oNone, oSome, iT, iL, iS, xVar, startD, wipeD,
  fI0, fI, fLt, fLe, fGt, fGe, fSub, fMul, fMod, fDiv, fPow, fAnd, fLen, lenD, fNeg, fIs, isNon, fIx, fAdd, fEq, fIn, fMin2, fMax2, fTuple, fList, fAll, fInt, fStrS, fAbs, tyn, res, seqD, lstD,
  ixt0, ixt1, ixt2, ixt3, k_ii, k_ib, k_it, k_tt, k_ss, k_ns, Bool.not_true, Bool.not_false, Option.map_some,
  List.map_cons, List.map_nil, List.length_cons, List.length_nil, List.length_map, List.cons_append, List.nil_append, List.getElem?_cons_zero, List.getElem?_cons_succ, List.set_cons_zero, List.set_cons_succ, List.replicate_succ, List.replicate_zero, Nat.reduceAdd, Nat.reduceSub, Nat.reduceLeDiff, Nat.zero_le, true_and, and_true, Option.bind_some, if_true, if_false, Bool.false_eq_true, reduceIte, decide_true, decide_false, decide_eq_true_eq, imp_self, forall_const])
/-! ### what matters, by lengths and digits -/
theorem differs_sem {b : Book} (hb : okBook b) {c : Cas} (hc : okCas c) (lv : live c) {o k : Option Int} {text : Option Str} : differs (linesFrom b c o k) text = true ↔ ∃ n v, inC c n v ∧ toldV b o k n v ≠ text := by
  obtain ⟨s1, s2, s3⟩ := linesFrom_sem hb hc o k
  have l1 := (linesFrom_facts hb hc o k).1
  unfold differs
  rw [List.any_eq_true]
  constructor
  · rintro ⟨l, hl, h⟩
    obtain ⟨v, hv⟩ := live_in (l1 l hl) (s1 lv l hl)
    obtain ⟨a, e⟩ := s2 l hl _ v hv
    exact ⟨_, v, a, by rw [← e]; simpa using h⟩
  · rintro ⟨n, v, h, hne⟩
    obtain ⟨l, hl, hi⟩ := s3 n v h
    exact ⟨l, hl, by rw [(s2 l hl n v hi).2]; simpa using hne⟩
theorem two_sem {b : Book} (hb : okBook b) {c : Cas} (hc : okCas c) (lv : live c) {o k : Option Int} : ((linesFrom b c none none).any fun l => differs (linesFrom b l.cas o k) l.text) = true ↔ ∃ n v, inC c n v ∧ toldV b o k n v ≠ toldV b none none n v := by
  obtain ⟨s1, s2, s3⟩ := linesFrom_sem hb hc none none
  have l1 := (linesFrom_facts hb hc none none).1
  rw [List.any_eq_true]
  constructor
  · rintro ⟨l, hl, h⟩
    obtain ⟨n, v, hi, hne⟩ := (differs_sem hb (l1 l hl) (s1 lv l hl)).mp h
    obtain ⟨a, e⟩ := s2 l hl n v hi
    exact ⟨n, v, a, by rw [← e]; exact hne⟩
  · rintro ⟨n, v, h, hne⟩
    obtain ⟨l, hl, hi⟩ := s3 n v h
    obtain ⟨_, e⟩ := s2 l hl n v hi
    exact ⟨l, hl, (differs_sem hb (l1 l hl) (s1 lv l hl)).mpr ⟨n, v, hi, by rw [e]; exact hne⟩⟩
theorem startC_live : live startC := ⟨by show (0 : Int) ≤ 0; omega, by show (0 : Int) ≤ 40; omega, fun q hq => (by cases hq)⟩
theorem in_startC {n : Int} {v : Val} : inC startC n v ↔ 0 ≤ n ∧ n ≤ 40 := ⟨fun h => ⟨h.1, h.2.1⟩, fun h => ⟨h.1, h.2, fun q hq => (by cases hq)⟩⟩
theorem place_sem {b : Book} (hb : okBook b) (p : Int) : placeMatters b p = true ↔ ∃ n v, (0 ≤ n ∧ n ≤ 40) ∧ p < n ∧ toldV b (some p) none n v ≠ toldV b none none n v := by
  unfold placeMatters
  rw [List.any_eq_true]
  constructor
  · rintro ⟨s, hs, h⟩
    obtain ⟨n, v, hi, hne⟩ := (two_sem hb (withPlace_ok startC_ok s hs) (live_withp startC_live s hs)).mp h
    obtain ⟨a, e⟩ := in_withp.mp ⟨s, hs, hi⟩
    exact ⟨n, v, in_startC.mp a, e, hne⟩
  · rintro ⟨n, v, hn, hp, hne⟩
    obtain ⟨s, hs, hi⟩ := in_withp.mpr ⟨(in_startC (v := v)).mpr hn, hp⟩
    exact ⟨s, hs, (two_sem hb (withPlace_ok startC_ok s hs) (live_withp startC_live s hs)).mpr ⟨n, v, hi, hne⟩⟩
theorem enough_sem {b : Book} (hb : okBook b) (k : Int) : isEnough b k = true ↔ ∀ n v, 0 ≤ n → n ≤ 40 → toldV b none (some k) n v = toldV b none none n v := by
  unfold isEnough
  rw [Bool.not_eq_true', Bool.eq_false_iff, ne_eq, two_sem hb startC_ok startC_live]
  constructor
  · intro h n v h0 h1
    exact Classical.byContradiction fun z => h ⟨n, v, in_startC.mpr ⟨h0, h1⟩, z⟩
  · rintro h ⟨n, v, hi, hne⟩
    obtain ⟨a, c⟩ := in_startC.mp hi
    exact hne (h n v a c)
theorem length_sem {b : Book} (hb : okBook b) {n : Int} (h0 : 0 ≤ n) (h1 : n < 48) : lengthMatters b n = true ↔ ∃ v, toldV b none none (n + 1) (fun p => if p = n then 0 else v p) ≠ toldV b none none n v := by
  have lv : live (lenC n []) := ⟨h0, Int.le_refl _, fun q hq => (by cases hq)⟩
  obtain ⟨s1, s2, s3⟩ := linesFrom_sem hb (lenC_ok n) none none
  have l1 := (linesFrom_facts hb (lenC_ok n) none none).1
  have part : ∀ l ∈ linesFrom b (lenC n []) none none, okCas (withDigits (lenC (n + 1) l.cas.digs) n [0]) ∧ live (withDigits (lenC (n + 1) l.cas.digs) n [0]) ∧ ∀ m v, inC (withDigits (lenC (n + 1) l.cas.digs) n [0]) m v ↔ m = n + 1 ∧ v n = 0 ∧ ∀ q ∈ l.cas.digs, q.1 ≠ n → v q.1 ∈ q.2 := fun l hl => by
    have okl := l1 l hl
    have ll := s1 lv l hl
    have okn : okCas (lenC (n + 1) l.cas.digs) := ⟨okl.nd, okl.rg, okl.sz⟩
    have lvn : live (lenC (n + 1) l.cas.digs) := ⟨by show 0 ≤ n + 1; omega, Int.le_refl _, ll.ne⟩
    refine ⟨withDigits_ok okn ⟨by omega, h1⟩ (by show 1 ≤ 16; omega), live_with lvn (by intro z; cases z), fun m v => ?_⟩
    constructor
    · rintro ⟨a, c, d⟩
      have a : n + 1 ≤ m := a
      have c : m ≤ n + 1 := c
      refine ⟨by omega, ?_, fun q hq hne => d q (List.mem_append.mpr (.inl (List.mem_filter.mpr ⟨hq, by simp [hne]⟩)))⟩
      exact List.mem_singleton.mp (d (n, [0]) (List.mem_append.mpr (.inr (List.mem_singleton.mpr rfl))))
    · rintro ⟨a, c, d⟩
      refine ⟨by show n + 1 ≤ m; omega, by show m ≤ n + 1; omega, fun q hq => ?_⟩
      rcases List.mem_append.mp hq with z | z
      · obtain ⟨z1, z2⟩ := List.mem_filter.mp z
        exact d q z1 (by simpa using z2)
      · rw [List.mem_singleton.mp z]; exact List.mem_singleton.mpr c
  unfold lengthMatters
  rw [List.any_eq_true]
  constructor
  · rintro ⟨l, hl, h⟩
    obtain ⟨p1, p2, p3⟩ := part l hl
    obtain ⟨m, v', hi, hne⟩ := (differs_sem hb p1 p2).mp h
    obtain ⟨rfl, e0, hd⟩ := (p3 m v').mp hi
    have okl := l1 l hl
    have ll := s1 lv l hl
    obtain ⟨w, hw⟩ := live_in okl ll
    have elo : l.cas.lo = n := by
      obtain ⟨a, _⟩ := s2 l hl _ w hw
      have a1 : n ≤ l.cas.lo := a.1
      have a2 : l.cas.lo ≤ n := a.2.1
      omega
    have hin : inC l.cas n (fun p => if p = n then w n else v' p) := by
      refine ⟨by rw [elo]; exact Int.le_refl _, by have := ll.le; omega, fun q hq => ?_⟩
      show (if q.1 = n then w n else v' q.1) ∈ q.2
      by_cases e : q.1 = n
      · rw [if_pos e]
        have := hw.2.2 q hq
        rw [e] at this; exact this
      · rw [if_neg e]; exact hd q hq e
    obtain ⟨_, et⟩ := s2 l hl n _ hin
    refine ⟨fun p => if p = n then w n else v' p, ?_⟩
    rw [← et]
    have ev : (fun p => if p = n then (0 : Dg) else (fun p => if p = n then w n else v' p) p) = v' := by
      funext p
      by_cases e : p = n
      · rw [if_pos e, e, e0]
      · rw [if_neg e]; show (if p = n then w n else v' p) = _; rw [if_neg e]
    rw [ev]; exact hne
  · rintro ⟨v, hne⟩
    obtain ⟨l, hl, hi⟩ := s3 n v ⟨Int.le_refl _, Int.le_refl _, fun q hq => (by cases hq)⟩
    obtain ⟨_, et⟩ := s2 l hl n v hi
    obtain ⟨p1, p2, p3⟩ := part l hl
    refine ⟨l, hl, (differs_sem hb p1 p2).mpr ⟨n + 1, fun p => if p = n then 0 else v p, (p3 _ _).mpr ⟨rfl, if_pos rfl, fun q hq e => ?_⟩, by rw [et]; exact hne⟩⟩
    show (if q.1 = n then 0 else v q.1) ∈ q.2
    rw [if_neg e]; exact hi.2.2 q hq
/-! ### near books: files of at most two digits -/
def plainW (b : Book) : Prop := ∀ r ∈ b, (∀ t ∈ r.tests, ∃ p, t.w = .pl p ∧ 0 ≤ p) ∧ ∀ t ∈ r.parts, ∃ p, t.2.w = .pl p ∧ 0 ≤ p
theorem near_plain {b : Book} (h : near b) : plainW b := fun r hr => ⟨fun t ht => let ⟨p, a, c, _⟩ := (h r hr).1 t ht; ⟨p, a, c⟩, fun t ht => let ⟨p, a, c, _⟩ := (h r hr).2 t ht; ⟨p, a, c⟩⟩
theorem told_other {b : Book} (h : plainW b) (p n : Int) (v : Val) : toldV b (some p) none n v = toldV b none none n (fun q => v (nameOf (some p) q)) := by
  have key : ∀ t : Tst, (∃ p, t.w = .pl p ∧ 0 ≤ p) → passV (some p) none t n v = passV none none t n (fun q => v (nameOf (some p) q)) := fun t ⟨q, e, _⟩ => by
    unfold passV; rw [e]; rfl
  exact toldV_congr fun r hr => ⟨fun t ht => key t ((h r hr).1 t ht), fun q hq => key q.2 ((h r hr).2 q hq)⟩
theorem told_kut {b : Book} (h : plainW b) (k n : Int) (v : Val) : toldV b none (some k) n v = toldV b none none (if k < n then k else n) v := by
  have key : ∀ t : Tst, (∃ p, t.w = .pl p ∧ 0 ≤ p) → passV none (some k) t n v = passV none none t (if k < n then k else n) v := fun t ⟨q, e, _⟩ => by
    unfold passV; rw [e]
    show (!decide (k ≤ q) && (decide (q < n) && fits ((v q).val : Int) t.how t.val)) = (true && (decide (q < (if k < n then k else n)) && fits ((v q).val : Int) t.how t.val))
    rw [Bool.true_and]
    by_cases h1 : k ≤ q
    · rw [decide_eq_true h1, decide_eq_false (show ¬ q < (if k < n then k else n) by split <;> omega)]; rfl
    · rw [decide_eq_false h1]
      by_cases h2 : q < n
      · rw [decide_eq_true h2, decide_eq_true (show q < (if k < n then k else n) by split <;> omega)]; rfl
      · rw [decide_eq_false h2, decide_eq_false (show ¬ q < (if k < n then k else n) by split <;> omega)]; rfl
  exact toldV_congr fun r hr => ⟨fun t ht => key t ((h r hr).1 t ht), fun q hq => key q.2 ((h r hr).2 q hq)⟩
theorem cutf_val : ∀ {f : List Dg}, f.length ≤ 2 → cutf (f.length : Int) (valOf f) = f
  | [], _ => rfl
  | [a], _ => rfl
  | [a, c], _ => rfl
  | _ :: _ :: _ :: _, h => by simp at h
theorem cutf_len (n : Int) (v : Val) : (cutf n v).length ≤ 2 := by
  unfold cutf; split
  · exact Nat.zero_le _
  · split
    · exact Nat.le_succ 1
    · exact Nat.le_refl 2
theorem place_far {b : Book} (hb : okBook b) (hn : near b) {p : Int} (hp : 2 ≤ p) : placeMatters b p = false := by
  rw [Bool.eq_false_iff]
  intro h
  obtain ⟨n, v, _, _, hne⟩ := (place_sem hb p).mp h
  rw [told_other (near_plain hn), told_cut hn, told_cut hn] at hne
  refine hne (congrArg (toldF b) ?_)
  unfold cutf
  have e0 : nameOf (some p) 0 = 0 := if_neg (by omega)
  have e1 : nameOf (some p) 1 = 1 := if_neg (by omega)
  show (if n ≤ 0 then [] else if n = 1 then [v (nameOf (some p) 0)] else [v (nameOf (some p) 0), v (nameOf (some p) 1)]) = _
  rw [e0, e1]
theorem place_0 {b : Book} (hb : okBook b) (hn : near b) : placeMatters b 0 = true ↔ ∃ f ∈ filesL 2, f ≠ [] ∧ toldF b f ≠ toldF b (0 :: f.tail) := by
  rw [place_sem hb]
  constructor
  · rintro ⟨n, v, _, hp, hne⟩
    rw [told_other (near_plain hn), told_cut hn, told_cut hn] at hne
    have key : ∀ (a d : Dg) (t : List Dg), t.length ≤ 1 → toldF b (d :: t) ≠ toldF b (a :: t) → ∃ f ∈ filesL 2, f ≠ [] ∧ toldF b f ≠ toldF b (0 :: f.tail) := fun a d t ht h => by
      by_cases e : toldF b (a :: t) = toldF b (0 :: t)
      · exact ⟨d :: t, files_mem.mpr (by simp; omega), (by intro z; cases z), fun z => h (z.trans e.symm)⟩
      · exact ⟨a :: t, files_mem.mpr (by simp; omega), (by intro z; cases z), e⟩
    unfold cutf at hne
    have n0 : ¬ n ≤ 0 := by omega
    rw [if_neg n0, if_neg n0] at hne
    by_cases e : n = 1
    · rw [if_pos e, if_pos e] at hne
      exact key _ _ [] (Nat.zero_le _) hne
    · rw [if_neg e, if_neg e] at hne
      exact key (v 0) (v (nameOf (some 0) 0)) [v 1] (Nat.le_refl _) hne
  · rintro ⟨f, hf, h0, hne⟩
    have hl := files_mem.mp hf
    match f, hl, h0, hne with
    | [a], _, _, hne =>
      refine ⟨1, fun q => if q = -1 then 0 else a, by omega, by omega, ?_⟩
      rw [told_other (near_plain hn), told_cut hn, told_cut hn]
      exact fun z => hne z.symm
    | [a, c], _, _, hne =>
      refine ⟨2, fun q => if q = -1 then 0 else if q = 0 then a else c, by omega, by omega, ?_⟩
      rw [told_other (near_plain hn), told_cut hn, told_cut hn]
      exact fun z => hne z.symm
    | _ :: _ :: _ :: _, h, _, _ => simp at h
theorem place_1 {b : Book} (hb : okBook b) (hn : near b) : placeMatters b 1 = true ↔ ∃ f ∈ filesL 2, f.length = 2 ∧ toldF b f ≠ toldF b [f.headD 0, 0] := by
  rw [place_sem hb]
  constructor
  · rintro ⟨n, v, _, hp, hne⟩
    rw [told_other (near_plain hn), told_cut hn, told_cut hn] at hne
    unfold cutf at hne
    have n0 : ¬ n ≤ 0 := by omega
    have n1 : ¬ n = 1 := by omega
    rw [if_neg n0, if_neg n0, if_neg n1, if_neg n1] at hne
    have hne : toldF b [v 0, v (-1)] ≠ toldF b [v 0, v 1] := hne
    by_cases e : toldF b [v 0, v 1] = toldF b [v 0, 0]
    · exact ⟨[v 0, v (-1)], files_mem.mpr (Nat.le_refl 2), rfl, fun z => hne (z.trans e.symm)⟩
    · exact ⟨[v 0, v 1], files_mem.mpr (Nat.le_refl 2), rfl, e⟩
  · rintro ⟨f, hf, hl, hne⟩
    match f, hl, hne with
    | [a, c], _, hne =>
      refine ⟨2, fun q => if q = -1 then 0 else if q = 0 then a else c, by omega, by omega, ?_⟩
      rw [told_other (near_plain hn), told_cut hn, told_cut hn]
      exact fun z => hne z.symm
def enoughF (b : Book) (k : Nat) : Bool := (filesL 2).all fun f => decide (toldF b f = toldF b (f.take k))
theorem cutf_take (n : Int) (v : Val) (k : Nat) (h0 : 0 ≤ n) : (cutf n v).take k = cutf (if (k : Int) < n then (k : Int) else n) v := by
  match k with
  | 0 =>
    rw [List.take_zero]
    unfold cutf
    rw [if_pos (show (if ((0 : Nat) : Int) < n then ((0 : Nat) : Int) else n) ≤ 0 by split <;> omega)]
  | 1 =>
    unfold cutf
    by_cases a1 : n ≤ 0
    · rw [if_pos a1, if_pos (show (if ((1 : Nat) : Int) < n then ((1 : Nat) : Int) else n) ≤ 0 by split <;> omega)]; rfl
    · have e : (if ((1 : Nat) : Int) < n then ((1 : Nat) : Int) else n) = 1 := by split <;> omega
      rw [if_neg a1, e, if_neg (by omega : ¬ (1 : Int) ≤ 0), if_pos rfl]
      split <;> rfl
  | k + 2 =>
    have hl := cutf_len n v
    rw [List.take_of_length_le (by omega)]
    by_cases h : ((k + 2 : Nat) : Int) < n
    · rw [if_pos h]
      unfold cutf
      rw [if_neg (show ¬ n ≤ 0 by omega), if_neg (show ¬ n = 1 by omega), if_neg (show ¬ ((k + 2 : Nat) : Int) ≤ 0 by omega), if_neg (show ¬ ((k + 2 : Nat) : Int) = 1 by omega)]
    · rw [if_neg h]
theorem enough_near {b : Book} (hb : okBook b) (hn : near b) (k : Nat) : isEnough b (k : Int) = enoughF b k := by
  have h : isEnough b (k : Int) = true ↔ enoughF b k = true := by
    rw [enough_sem hb]
    unfold enoughF
    rw [List.all_eq_true]
    constructor
    · intro h f hf
      have hl := files_mem.mp hf
      have := h (f.length : Int) (valOf f) (by omega) (by omega)
      rw [told_kut (near_plain hn), told_cut hn, told_cut hn, ← cutf_take _ _ _ (by omega), cutf_val hl] at this
      exact decide_eq_true this.symm
    · intro h n v h0 h1
      rw [told_kut (near_plain hn), told_cut hn, told_cut hn, ← cutf_take _ _ _ h0]
      have := h (cutf n v) (files_mem.mpr (cutf_len n v))
      exact (of_decide_eq_true this).symm
  cases e : enoughF b k with
  | true => exact h.mpr e
  | false =>
    rw [Bool.eq_false_iff]
    intro z
    rw [h.mp z] at e; cases e
def leastK (q : Nat → Bool) : Nat := if q 0 then 0 else if q 1 then 1 else 2
theorem least_K {q : Nat → Bool} (h : q 2 = true) : Least q (leastK q) := by
  unfold leastK
  by_cases h0 : q 0 = true
  · rw [if_pos h0]; exact ⟨h0, fun j hj => by omega⟩
  · rw [if_neg h0]
    have h0 : q 0 = false := by simpa using h0
    by_cases h1 : q 1 = true
    · rw [if_pos h1]; exact ⟨h1, fun j hj => by rw [show j = 0 by omega]; exact h0⟩
    · rw [if_neg h1]
      have h1 : q 1 = false := by simpa using h1
      refine ⟨h, fun j hj => ?_⟩
      rcases (show j = 0 ∨ j = 1 by omega) with rfl | rfl
      · exact h0
      · exact h1
theorem enoughF_2 (b : Book) : enoughF b 2 = true := by
  unfold enoughF
  rw [List.all_eq_true]
  intro f hf
  rw [List.take_of_length_le (files_mem.mp hf)]
  exact decide_eq_true rfl
def longF (b : Book) (n : Nat) : Bool := (filesL 2).any fun f => decide (f.length = n) && !decide (toldF b f = toldF b (f ++ [0]))
theorem length_far {b : Book} (hb : okBook b) (hn : near b) {n : Nat} (h2 : 2 ≤ n) (h48 : n < 48) : lengthMatters b (n : Int) = false := by
  rw [Bool.eq_false_iff]
  intro h
  obtain ⟨v, hne⟩ := (length_sem hb (by omega) (by omega)).mp h
  rw [told_cut hn, told_cut hn] at hne
  refine hne (congrArg (toldF b) ?_)
  unfold cutf
  rw [if_neg (show ¬ (n : Int) + 1 ≤ 0 by omega), if_neg (show ¬ (n : Int) + 1 = 1 by omega), if_neg (show ¬ (n : Int) ≤ 0 by omega), if_neg (show ¬ (n : Int) = 1 by omega)]
  show [if (0 : Int) = (n : Int) then 0 else v 0, if (1 : Int) = (n : Int) then 0 else v 1] = [v 0, v 1]
  rw [if_neg (show ¬ (0 : Int) = (n : Int) by omega), if_neg (show ¬ (1 : Int) = (n : Int) by omega)]
theorem length_near {b : Book} (hb : okBook b) (hn : near b) {n : Nat} (h2 : n < 2) : lengthMatters b (n : Int) = longF b n := by
  have h : lengthMatters b (n : Int) = true ↔ longF b n = true := by
    rw [length_sem hb (by omega) (by omega)]
    unfold longF
    rw [List.any_eq_true]
    rcases (show n = 0 ∨ n = 1 by omega) with rfl | rfl
    · constructor
      · rintro ⟨v, hne⟩
        rw [told_cut hn, told_cut hn] at hne
        exact ⟨[], files_mem.mpr (Nat.zero_le _), by
          have : ¬ toldF b [] = toldF b [0] := fun z => hne z.symm
          simp [this]⟩
      · rintro ⟨f, hf, h⟩
        obtain ⟨h1, h2⟩ := Bool.and_eq_true_iff.mp h
        have h1 : f = [] := List.length_eq_zero_iff.mp (of_decide_eq_true h1)
        subst h1
        refine ⟨fun _ => 0, ?_⟩
        rw [told_cut hn, told_cut hn]
        intro z
        have : toldF b [] = toldF b ([] ++ [0]) := z.symm
        simp [this] at h2
    · constructor
      · rintro ⟨v, hne⟩
        rw [told_cut hn, told_cut hn] at hne
        refine ⟨[v 0], files_mem.mpr (Nat.le_succ 1), ?_⟩
        have : ¬ toldF b [v 0] = toldF b ([v 0] ++ [0]) := fun z => hne z.symm
        simp [this]
        exact this
      · rintro ⟨f, hf, h⟩
        obtain ⟨h1, h2⟩ := Bool.and_eq_true_iff.mp h
        obtain ⟨a, rfl⟩ := List.length_eq_one_iff.mp (of_decide_eq_true h1)
        refine ⟨fun _ => a, ?_⟩
        rw [told_cut hn, told_cut hn]
        intro z
        have : toldF b [a] = toldF b ([a] ++ [0]) := z.symm
        rw [decide_eq_true this] at h2
        cases h2
  cases e : longF b n with
  | true => exact h.mpr e
  | false =>
    rw [Bool.eq_false_iff]
    intro z
    rw [h.mp z] at e; cases e
def dueLen (b : Book) : List Nat := (List.range 2).filter (longF b)
theorem filt_congr {α : Type} {p q : α → Bool} : ∀ {l : List α}, (∀ x ∈ l, p x = q x) → l.filter p = l.filter q
  | [], _ => rfl
  | a :: l, h => by
    have ih := filt_congr fun x hx => h x (List.mem_cons_of_mem a hx)
    have ha := h a List.mem_cons_self
    cases e : q a with
    | true => rw [List.filter_cons_of_pos e, List.filter_cons_of_pos (ha.trans e), ih]
    | false => rw [List.filter_cons_of_neg (p := q) (by rw [e]; exact Bool.false_ne_true), List.filter_cons_of_neg (p := p) (by rw [ha, e]; exact Bool.false_ne_true), ih]
theorem lengths_near {b : Book} (hb : okBook b) (hn : near b) : lengthsL b = dueLen b := by
  have e : List.range 33 = List.range 2 ++ (List.range 31).map (· + 2) := by decide
  unfold lengthsL dueLen
  rw [e, List.filter_append, filt_congr (p := fun n : Nat => lengthMatters b (n : Int)) (q := longF b) (fun x hx => length_near hb hn (List.mem_range.mp hx))]
  have e2 : ((List.range 31).map (· + 2)).filter (fun n : Nat => lengthMatters b (n : Int)) = [] := by
    rw [List.filter_eq_nil_iff]
    intro x hx
    obtain ⟨y, hy, rfl⟩ := List.mem_map.mp hx
    rw [length_far hb hn (by omega) (by have := List.mem_range.mp hy; omega)]
    exact Bool.false_ne_true
  rw [e2, List.append_nil]
/-! ### the law's places -/
def dueOf (tl : List Dg → Option Str) (f : List Dg) : List Int :=
  (if decide (f ≠ []) && !decide (tl f = tl (0 :: f.tail)) then [0] else []) ++ (if decide (f.length = 2) && !decide (tl f = tl [f.headD 0, 0]) then [1] else [])
def dueRaw (tl : List Dg → Option Str) (l : List (List Dg)) : List Int := l.flatMap (dueOf tl)
def dueL (tl : List Dg → Option Str) : List Int := isort leI (nub (dueRaw tl (filesL 2)))
theorem due_mem {tl : List Dg → Option Str} {x : Int} : x ∈ dueRaw tl (filesL 2) ↔ (x = 0 ∧ ∃ f ∈ filesL 2, f ≠ [] ∧ tl f ≠ tl (0 :: f.tail)) ∨ (x = 1 ∧ ∃ f ∈ filesL 2, f.length = 2 ∧ tl f ≠ tl [f.headD 0, 0]) := by
  unfold dueRaw
  rw [List.mem_flatMap]
  constructor
  · rintro ⟨f, hf, h⟩
    rcases List.mem_append.mp h with z | z
    · split at z
      · rename_i e
        obtain ⟨e1, e2⟩ := Bool.and_eq_true_iff.mp e
        exact .inl ⟨List.mem_singleton.mp z, f, hf, of_decide_eq_true e1, by simpa using e2⟩
      · cases z
    · split at z
      · rename_i e
        obtain ⟨e1, e2⟩ := Bool.and_eq_true_iff.mp e
        exact .inr ⟨List.mem_singleton.mp z, f, hf, of_decide_eq_true e1, by simpa using e2⟩
      · cases z
  · rintro (⟨rfl, f, hf, h1, h2⟩ | ⟨rfl, f, hf, h1, h2⟩)
    · refine ⟨f, hf, List.mem_append.mpr (.inl ?_)⟩
      rw [if_pos (Bool.and_eq_true_iff.mpr ⟨decide_eq_true h1, by simpa using h2⟩)]
      exact List.mem_singleton.mpr rfl
    · refine ⟨f, hf, List.mem_append.mpr (.inr ?_)⟩
      rw [if_pos (Bool.and_eq_true_iff.mpr ⟨decide_eq_true h1, by simpa using h2⟩)]
      exact List.mem_singleton.mpr rfl
theorem reads_near {b : Book} (hb : okBook b) (hn : near b) : (readsL b).map (fun n => ((n : Nat) : Int)) = dueL (toldF b) := by
  unfold dueL
  have hs : (readsL b).Pairwise (fun a b => a < b) := List.Pairwise.sublist List.filter_sublist List.pairwise_lt_range
  refine isort_uniq totI (perm_of_mem ?_ (nodup_nub _) fun x => ?_) ?_
  · rw [List.nodup_iff_pairwise_ne, List.pairwise_map]
    exact hs.imp fun h => by omega
  · rw [mem_nub, due_mem, ← place_0 hb hn, ← place_1 hb hn, List.mem_map]
    constructor
    · rintro ⟨n, hnm, rfl⟩
      obtain ⟨h1, h2⟩ := List.mem_filter.mp hnm
      have h2 : placeMatters b (n : Int) = true := h2
      obtain ⟨m, hm⟩ : ∃ m : Int, m = (n : Int) := ⟨_, rfl⟩
      rw [← hm] at h2 ⊢
      rcases (show m = 0 ∨ m = 1 ∨ 2 ≤ m by omega) with e | e | e
      · rw [e] at h2; exact .inl ⟨e, h2⟩
      · rw [e] at h2; exact .inr ⟨e, h2⟩
      · rw [place_far hb hn e] at h2; cases h2
    · rintro (⟨rfl, h⟩ | ⟨rfl, h⟩)
      · exact ⟨0, List.mem_filter.mpr ⟨List.mem_range.mpr (by omega), (by rw [show ((0 : Nat) : Int) = 0 from rfl]; exact h)⟩, rfl⟩
      · exact ⟨1, List.mem_filter.mpr ⟨List.mem_range.mpr (by omega), (by rw [show ((1 : Nat) : Int) = 1 from rfl]; exact h)⟩, rfl⟩
  · rw [List.pairwise_map]
    exact hs.imp fun h => decide_eq_true (by omega)
end DL
-- part Pl33
set_option Elab.async false
set_option linter.all false
set_option maxRecDepth 100000
set_option maxHeartbeats 1000000
namespace DL
open PySem PySem.Spec PyProof.Rows L2
local macro_rules | `(tactic| walk_at "dl") => `(tactic| simp (config := {decide := false}) only [sNext, sSeq, sDrop, sRet, sIf, sSet, sAsg, sPar, sStore, sNever, xC, xOp, xB, xChain, xUn, yAnd, yOr, yNot, xAnd, xOr, xNot, xIf, aNil, aCons, xTup, xLst, mk, xCB, xIsi, xSl, xJoin, xIndexS, xIndexL, xAppend, xCall, gN, gT, gCons, gNil, yYes, oNone, oSome, iT, iL, iS, xVar, startD, wipeD,
  fI0, fI, fLt, fLe, fGt, fGe, fSub, fMul, fMod, fDiv, fPow, fAnd, fLen, lenD, fNeg, fIs, isNon, fIx, fAdd, fEq, fIn, fMin2, fMax2, fTuple, fList, fAll, fInt, fStrS, fAbs, tyn, res, seqD, lstD,
  ixt0, ixt1, ixt2, ixt3, k_ii, k_ib, k_it, k_tt, k_ss, k_ns, Bool.not_true, Bool.not_false, Option.map_some,
  List.map_cons, List.map_nil, List.length_cons, List.length_nil, List.length_map, List.cons_append, List.nil_append, List.getElem?_cons_zero, List.getElem?_cons_succ, List.set_cons_zero, List.set_cons_succ, List.replicate_succ, List.replicate_zero, Nat.reduceAdd, Nat.reduceSub, Nat.reduceLeDiff, Nat.zero_le, true_and, and_true, Option.bind_some, if_true, if_false, Bool.false_eq_true, reduceIte, decide_true, decide_false, decide_eq_true_eq, imp_self, forall_const])
theorem cmp_ints (xs : List Int) : cmpN 9 (.lst (xs.map D.int)) (.lst (xs.map D.int)) = true := by
  refine all2_refl fun x hx => ?_
  obtain ⟨s, _, rfl⟩ := List.mem_map.mp hx
  rfl
theorem fEq_box {ne : Bool} {a : Addr} {ds : List D} {M : Mem} {P : DK} (h : M a = some ds) (hc : cmpN 9 (.lst ds) (.lst ds) = true) (p : P (.bl (!ne)) M) : fEq ne (.box a) (.lst ds) M P := by
  unfold fEq
  have e : res M (.box a) = .lst ds := by
    show (match M a with | some ds => D.lst ds | none => .box a) = _
    rw [h]
  rw [e, show res M (.lst ds) = .lst ds from rfl, deq_refl 9 _ hc]
  refine ⟨hc, ?_⟩
  cases ne <;> exact p
theorem fEq_xob {ne : Bool} {a : Addr} {ds : List D} {M : Mem} {P : DK} (h : M a = some ds) (hc : cmpN 9 (.lst ds) (.lst ds) = true) (p : P (.bl (!ne)) M) : fEq ne (.lst ds) (.box a) M P := by
  unfold fEq
  have e : res M (.box a) = .lst ds := by
    show (match M a with | some ds => D.lst ds | none => .box a) = _
    rw [h]
  rw [e, show res M (.lst ds) = .lst ds from rfl, deq_refl 9 _ hc]
  refine ⟨hc, ?_⟩
  cases ne <;> exact p
theorem append_ok {i : Nat} {te : RE} {a : Addr} {ds : List D} {d : D} {M : Mem} {E : DEnds} {ρ : DEnv} (hi : ∀ P : DK, P (.box a) M → xVar i ρ M P) (he : ∀ P : DK, P d M → te ρ M P) (hM : M a = some ds) (hl : ds.length < 16777216) (h : E.nx ρ (updM M a (ds ++ [d]))) :
    sDrop (xAppend (xVar i) te) E ρ M := by
  unfold sDrop xAppend
  refine hi (fun d M1 => (∃ a, d = .box a ∧ (M1 a).isSome = true) ∧ (match d with
    | .box a => te ρ M1 fun e M2 => (match M2 a with
      | some ds => ds.length < 16777216 ∧ E.nx ρ (updM M2 a (ds ++ [e]))
      | none => False)
    | _ => False)) ⟨⟨a, rfl, by rw [hM]; rfl⟩, ?_⟩
  refine he (fun e M2 => (match M2 a with
      | some ds => ds.length < 16777216 ∧ E.nx ρ (updM M2 a (ds ++ [e]))
      | none => False)) ?_
  show (match M a with | some ds => ds.length < 16777216 ∧ E.nx ρ (updM M a (ds ++ [d])) | none => False)
  rw [hM]
  exact ⟨hl, h⟩
theorem nums_ints (xs : List Int) : nums (xs.map D.int) = some xs := by
  have := nums_map (fun x : Int => x) xs
  rw [List.map_id'] at this
  exact this
theorem cut_hx1 (f : List Dg) : cutS (hx f) (some ((1 : Nat) : Int)) none = hx f.tail := by
  unfold cutS
  rw [HT.sIx_nat, HT.sIx_none, hx_len]
  unfold hx
  congr 1
  rw [List.toList_toArray, ← List.map_drop]
  match f with
  | [] => rfl
  | a :: f =>
    have e : min 1 (a :: f).length = 1 := by rw [List.length_cons]; omega
    rw [e]
    show (List.take ((a :: f).length - 1) (List.map hc f)).toArray = (List.map hc f).toArray
    rw [List.take_of_length_le (by rw [List.length_map, List.length_cons]; omega)]
theorem dueOf_len (tl : List Dg → Option Str) (f : List Dg) : (dueOf tl f).length ≤ 2 := by
  unfold dueOf
  rw [List.length_append]
  split <;> split <;> simp
def R_law_due : RF := fun ds M P => ∃ tl : List Dg → Option Str, ds = [.lst ((filesL 2).map dF), .dic (tblD tl)] ∧ ∀ a xs, M a = none → P (.lst ((dueL tl).map D.int)) (updM M a xs)
theorem p_law_due (ds : List D) (M : Mem) (Q : DK) (h : R_law_due ds M Q) : t__law_due (en0 Q) (startD N__law_due ds) M := by
  obtain ⟨tl, rfl, q⟩ := h
  unfold t__law_due
  refine ⟨Nat.zero_le _, fun a ha => ?_⟩
  dsimp only
  refine for_go (xs := filesL 2) (e := dF) (fun pre ρ M' => M' = updM M a ((dueRaw tl pre).map D.int) ∧ ∃ x3, ρ = [some (.lst ((filesL 2).map dF)), some (.dic (tblD tl)), some (.box a), x3]) (fun Q h => h) ⟨rfl, none, rfl⟩ ?_ ?_
  · rintro pre f post hf ρ M' ⟨rfl, x3, rfl⟩
    have hfm : f ∈ filesL 2 := by rw [hf]; simp
    have hfl := files_mem.mp hfm
    have hpl : pre.length ≤ 273 := by
      have := congrArg List.length hf
      rw [List.length_append] at this
      have e : (filesL 2).length = 273 := by decide +kernel
      omega
    have hdl : (dueRaw tl pre).length ≤ 546 := by
      have := flatMap_len (dueOf tl) 2 (dueOf_len tl) pre
      unfold dueRaw
      omega
    have er : dueRaw tl (pre ++ [f]) = dueRaw tl pre ++ dueOf tl f := by unfold dueRaw; rw [List.flatMap_append, List.flatMap_singleton]
    rw [er]
    obtain ⟨L, hL⟩ : ∃ L, L = dueRaw tl pre := ⟨_, rfl⟩
    rw [← hL] at hdl ⊢
    simp only [gN, List.set_cons_succ, List.set_cons_zero]
    have c1 : ∀ M1 : Mem, ∀ K : Bool → Mem → Prop, K (decide (f ≠ []) && !decide (tl f = tl (0 :: f.tail))) M1 → (yAnd (xB (xOp (fEq true) (xVar 3) (xC (.str "")))) (xB (xOp (fEq true) (xOp fDix (xVar 1) (xVar 3)) (xOp fDix (xVar 1) (xOp fAdd (xC (.str "0")) (xSl false (xVar 3) (oSome (xC (.int 1))) oNone)))))) [some (.lst ((filesL 2).map dF)), some (.dic (tblD tl)), some (.box a), some (dF f)] M1 K := fun M1 K k => by
      refine ⟨rfl, ?_⟩
      show (match !deqN 9 (.str (hx f)) (.str "") with | true => _ | false => _)
      rw [dq_str, hx_nil]
      by_cases e : f = []
      · rw [decide_eq_true e]
        rw [decide_eq_false (fun z => z e)] at k
        exact k
      · rw [decide_eq_false e]
        rw [decide_eq_true e, Bool.true_and] at k
        have ft : (0 :: f.tail).length ≤ 2 := by
          match f, e, hfl with
          | [_], _, _ => exact Nat.le_succ 1
          | [_, _], _, _ => exact Nat.le_refl 2
          | _ :: _ :: _ :: _, _, h => simp at h
        show (match getD' (tblD tl) (hx f) with | some d' => _ | none => False)
        rw [tbl_get tl hfl]
        refine ⟨by rw [hx_len]; omega, ?_⟩
        show (_ : Nat) ≤ 16777216 ∧ (match getD' (tblD tl) (("0" : Str) ++ cutS (hx f) (some ((1 : Nat) : Int)) none) with | some d' => _ | none => False)
        have e1 : ("0" : Str) ++ cutS (hx f) (some ((1 : Nat) : Int)) none = hx (0 :: f.tail) := by rw [cut_hx1]; exact hx_app [0] f.tail
        refine ⟨?_, ?_⟩
        · show ("0" : Str).length + (cutS (hx f) (some ((1 : Nat) : Int)) none).length ≤ 16777216
          rw [cut_hx1, hx_len]
          have : ("0" : Str).length = 1 := by decide +kernel
          rw [this, List.length_tail]; omega
        rw [e1, tbl_get tl ft]
        refine fEq_OS (ne := true) ?_
        exact k
    have c2 : ∀ M1 : Mem, ∀ K : Bool → Mem → Prop, K (decide (f.length = 2) && !decide (tl f = tl [f.headD 0, 0])) M1 → (yAnd (xB (xOp (fEq false) (xCB fLen (aCons (xVar 3) aNil)) (xC (.int 2)))) (xB (xOp (fEq true) (xOp fDix (xVar 1) (xVar 3)) (xOp fDix (xVar 1) (xOp fAdd (xOp fIx (xVar 3) (xC (.int 0))) (xC (.str "0"))))))) [some (.lst ((filesL 2).map dF)), some (.dic (tblD tl)), some (.box a), some (dF f)] M1 K := fun M1 K k => by
      have hl := len_hx (M := M1) (f := f) (by omega)
      show (match lenD M1 (.str (hx f)) with | some n => _ | none => False)
      rw [hl]
      refine ⟨rfl, ?_⟩
      show (match deqN 9 (.int (f.length : Int)) (.int 2) with | true => _ | false => _)
      rw [dq_int]
      by_cases e : f.length = 2
      · rw [decide_eq_true (show (f.length : Int) = 2 by omega)]
        rw [decide_eq_true e, Bool.true_and] at k
        show (match getD' (tblD tl) (hx f) with | some d' => _ | none => False)
        rw [tbl_get tl hfl]
        show (match ixD M1 (.str (hx f)) 0 with | some d' => _ | none => False)
        rw [ix_hx (p := 0) (by omega) (by omega) (by omega)]
        have e0 : valOf f 0 = f.headD 0 := by
          match f, e with
          | [_, _], _ => rfl
        rw [e0]
        show (_ : Nat) ≤ 16777216 ∧ (match getD' (tblD tl) (hx [f.headD 0] ++ ("0" : Str)) with | some d' => _ | none => False)
        have e1 : hx [f.headD 0] ++ ("0" : Str) = hx [f.headD 0, 0] := hx_app [f.headD 0] [0]
        refine ⟨?_, ?_⟩
        · have : ("0" : Str).length = 1 := by decide +kernel
          rw [this, hx_len]; exact Nat.le_of_ble_eq_true rfl
        rw [e1, tbl_get tl (show [f.headD 0, 0].length ≤ 2 from Nat.le_refl 2)]
        refine fEq_OS (ne := true) ?_
        exact k
      · rw [decide_eq_false (show ¬ (f.length : Int) = 2 by omega)]
        rw [decide_eq_false e] at k
        exact k
    obtain ⟨d1, hd1⟩ : ∃ d1, d1 = (decide (f ≠ []) && !decide (tl f = tl (0 :: f.tail))) := ⟨_, rfl⟩
    obtain ⟨d2, hd2⟩ : ∃ d2, d2 = (decide (f.length = 2) && !decide (tl f = tl [f.headD 0, 0])) := ⟨_, rfl⟩
    have ed : dueOf tl f = (if d1 then [0] else []) ++ (if d2 then [1] else []) := by unfold dueOf; rw [← hd1, ← hd2]
    rw [← hd1] at c1
    rw [← hd2] at c2
    rw [ed]
    have e1 : (L ++ ((if d1 then [0] else []) ++ (if d2 then [1] else [])) : List Int) = (L ++ (if d1 then [0] else [])) ++ (if d2 then [1] else []) := (List.append_assoc _ _ _).symm
    rw [e1]
    refine sq (ρ' := [some (.lst ((filesL 2).map dF)), some (.dic (tblD tl)), some (.box a), some (dF f)]) (M' := updM M a ((L ++ (if d1 then [0] else [])).map D.int)) (fun K k => ?_) ?_
    · have c1 := c1 (updM M a (L.map D.int))
      cases d1 with
      | true =>
        rw [if_pos rfl] at k
        refine if_t (M' := updM M a (L.map D.int)) c1 ?_
        refine append_ok (a := a) (ds := L.map D.int) (d := .int 0) (fun P h => h) (fun P h => h) updM_same (by rw [List.length_map]; omega) ?_
        rw [updM_updM]
        rw [List.map_append] at k
        exact k
      | false =>
        rw [if_neg Bool.false_ne_true, List.append_nil] at k
        exact if_f (M' := updM M a (L.map D.int)) c1 k
    · obtain ⟨L2, hL2⟩ : ∃ L2, L2 = L ++ (if d1 then [0] else []) := ⟨_, rfl⟩
      have hl2 : L2.length ≤ 547 := by
        rw [hL2, List.length_append]
        have : (if d1 then [0] else [] : List Int).length ≤ 1 := by split <;> simp
        omega
      rw [← hL2]
      have c2 := c2 (updM M a (L2.map D.int))
      cases d2 with
      | true =>
        rw [if_pos rfl]
        refine if_t (M' := updM M a (L2.map D.int)) c2 ?_
        refine append_ok (a := a) (ds := L2.map D.int) (d := .int 1) (fun P h => h) (fun P h => h) updM_same (by rw [List.length_map]; omega) ?_
        rw [updM_updM]
        exact ⟨by rw [List.map_append]; rfl, _, rfl⟩
      | false =>
        rw [if_neg Bool.false_ne_true, List.append_nil]
        exact if_f (M' := updM M a (L2.map D.int)) c2 ⟨rfl, _, rfl⟩
  · rintro ρ M' ⟨rfl, x3, rfl⟩
    show (match ((updM M a ((dueRaw tl (filesL 2)).map D.int)) a).bind nums with | some xs => _ | none => False)
    rw [updM_same]
    show (match nums ((dueRaw tl (filesL 2)).map D.int) with | some xs => _ | none => False)
    rw [nums_ints]
    refine ⟨?_, q a _ ha⟩
    have := flatMap_len (dueOf tl) 2 (dueOf_len tl) (filesL 2)
    have e : (filesL 2).length = 273 := by decide +kernel
    unfold dueRaw
    omega
end DL
-- part Pl34
set_option Elab.async false
set_option linter.all false
set_option maxRecDepth 100000
set_option maxHeartbeats 1000000
namespace DL
open PySem PySem.Spec PyProof.Rows L2
local macro_rules | `(tactic| walk_at "dl") => `(tactic| simp (config := {decide := false}) only [sNext, sSeq, sDrop, sRet, sIf, sSet, sAsg, sPar, sStore, sNever, xC, xOp, xB, xChain, xUn, yAnd, yOr, yNot, xAnd, xOr, xNot, xIf, aNil, aCons, xTup, xLst, mk, xCB, xIsi, xSl, xJoin, xIndexS, xIndexL, xAppend, xCall, gN, gT, gCons, gNil, yYes, oNone, oSome, iT, iL, iS, xVar, startD, wipeD,
  fI0, fI, fLt, fLe, fGt, fGe, fSub, fMul, fMod, fDiv, fPow, fAnd, fLen, lenD, fNeg, fIs, isNon, fIx, fAdd, fEq, fIn, fMin2, fMax2, fTuple, fList, fAll, fInt, fStrS, fAbs, tyn, res, seqD, lstD,
  ixt0, ixt1, ixt2, ixt3, k_ii, k_ib, k_it, k_tt, k_ss, k_ns, Bool.not_true, Bool.not_false, Option.map_some,
  List.map_cons, List.map_nil, List.length_cons, List.length_nil, List.length_map, List.cons_append, List.nil_append, List.getElem?_cons_zero, List.getElem?_cons_succ, List.set_cons_zero, List.set_cons_succ, List.replicate_succ, List.replicate_zero, Nat.reduceAdd, Nat.reduceSub, Nat.reduceLeDiff, Nat.zero_le, true_and, and_true, Option.bind_some, if_true, if_false, Bool.false_eq_true, reduceIte, decide_true, decide_false, decide_eq_true_eq, imp_self, forall_const])
def t_k10whl : RS := (sWhile (xB (xOp (fEq true) (xLc false (iL (xVar 1)) (gN 6) (xB (xOp (fEq true) (xOp fDix (xVar 5) (xVar 6)) (xOp fDix (xVar 5) (xSl false (xVar 6) oNone (oSome (xVar 9)))))) (xVar 6) [6]) (xLst false aNil))) (sSet 9 (xOp fAdd (xVar 9) (xC (.int 1)))))
def t_k10for : RS := (sFor (iR1 (xC (.int 2))) (gN 10) (sSeq (sSet 11 (xLc false (iL (xVar 1)) (gN 6) (xB (xOp (fEq false) (xCB fLen (aCons (xVar 6) aNil)) (xVar 10))) (xVar 6) [6])) (sIf (xB (xOp (fEq true) (xLc false (iL (xVar 11)) (gN 6) (xB (xOp (fEq true) (xOp fDix (xVar 5) (xVar 6)) (xOp fDix (xVar 5) (xOp fAdd (xVar 6) (xC (.str "0")))))) (xVar 6) [6]) (xLst false aNil))) (sDrop (xAppend (xVar 7) (xVar 10))) sNext)))
theorem p_k10whl {tl : List Dg → Option Str} {k : Nat} (hk : Least (fun j => (filesL 2).all fun f => decide (tl f = tl (f.take j))) k) {x0 x2 x3 x4 x6 x7 x8 x10 x11 : Option D} {E : DEnds} {M : Mem}
    (fin : ∀ x6, E.nx [x0, some (.lst ((filesL 2).map dF)), x2, x3, x4, some (.dic (tblD tl)), x6, x7, x8, some (.int (k : Int)), x10, x11] M) :
    t_k10whl E [x0, some (.lst ((filesL 2).map dF)), x2, x3, x4, some (.dic (tblD tl)), x6, x7, x8, some (.int 0), x10, x11] M := by
  unfold t_k10whl
  refine ⟨fun m ρ M' => M' = M ∧ ∃ j : Nat, j + m = k ∧ ∃ x6, ρ = [x0, some (.lst ((filesL 2).map dF)), x2, x3, x4, some (.dic (tblD tl)), x6, x7, x8, some (.int (j : Int)), x10, x11], ⟨k, rfl, 0, Nat.zero_add k, x6, rfl⟩, ?_⟩
  rintro m ρ M' ⟨rfl, j, hj, y6, rfl⟩
  refine lc_filter (xs := filesL 2) (e := dF) (fun f => !decide (tl f = tl (f.take j))) dF (fun Q h => h) (by decide) (fun f hf K kk => ?_) ?_
  · have hfl := files_mem.mp hf
    show (match getD' (tblD tl) (hx f) with | some d' => _ | none => False)
    rw [tbl_get tl hfl]
    refine ⟨by rw [hx_len]; omega, ?_⟩
    show (match getD' (tblD tl) (cutS (hx f) none (some (j : Int))) with | some d' => _ | none => False)
    rw [cut_hx, tbl_get tl (by rw [List.length_take]; omega)]
    refine fEq_OS (ne := true) ?_
    show (match !decide (tl f = tl (f.take j)) with | true => _ | false => _)
    cases e : decide (tl f = tl (f.take j)) with
    | true => rw [e] at kk; exact kk
    | false => rw [e] at kk; exact kk
  · refine ⟨Nat.zero_le _, cq_nilL _, ?_⟩
    show (match !deqN 9 (.lst (((filesL 2).filter fun f => !decide (tl f = tl (f.take j))).map dF)) (.lst []) with | true => _ | false => _)
    rw [dq_nilL, List.isEmpty_map, filt_all (fun f => decide (tl f = tl (f.take j)))]
    cases m with
    | zero =>
      have e : ((filesL 2).all fun f => decide (tl f = tl (f.take j))) = true := by rw [show j = k by omega]; exact hk.yes
      rw [e, show j = k by omega]
      exact fin y6
    | succ m =>
      have e : ((filesL 2).all fun f => decide (tl f = tl (f.take j))) = false := hk.no j (by omega)
      rw [e]
      exact ⟨m, Nat.lt_succ_self m, rfl, j + 1, by omega, y6, rfl⟩
def longT (tl : List Dg → Option Str) (n : Nat) : Bool := (filesL 2).any fun f => decide (f.length = n) && !decide (tl f = tl (f ++ [0]))
theorem p_k10for {tl : List Dg → Option Str} {a : Addr} {x0 x2 x3 x4 x6 x8 x9 x10 x11 : Option D} {E : DEnds} {M : Mem}
    (fin : ∀ x6 x10 x11, E.nx [x0, some (.lst ((filesL 2).map dF)), x2, x3, x4, some (.dic (tblD tl)), x6, some (.box a), x8, x9, x10, x11] (updM M a (((List.range 2).filter (longT tl)).map fun n => D.int ((n : Nat) : Int)))) :
    t_k10for E [x0, some (.lst ((filesL 2).map dF)), x2, x3, x4, some (.dic (tblD tl)), x6, some (.box a), x8, x9, x10, x11] (updM M a []) := by
  unfold t_k10for
  refine for_go (xs := List.range 2) (e := fun n => D.int ((n : Nat) : Int)) (fun pre ρ M' => M' = updM M a ((pre.filter (longT tl)).map fun n => D.int ((n : Nat) : Int)) ∧ ∃ x6 x10 x11, ρ = [x0, some (.lst ((filesL 2).map dF)), x2, x3, x4, some (.dic (tblD tl)), x6, some (.box a), x8, x9, x10, x11]) (fun Q h => ⟨by omega, by omega, by rw [← rg0 2] at h; exact h⟩) ⟨rfl, x6, x10, x11, rfl⟩ ?_ ?_
  · rintro pre n post hr ρ M' ⟨rfl, y6, y10, y11, rfl⟩
    have hn : n < 2 := List.mem_range.mp (by rw [hr]; simp)
    have hpl : pre.length ≤ 2 := by
      have := congrArg List.length hr
      rw [List.length_range, List.length_append] at this
      omega
    have hfl : (pre.filter (longT tl)).length ≤ 2 := Nat.le_trans (List.length_filter_le _ _) hpl
    simp only [gN, List.set_cons_succ, List.set_cons_zero]
    obtain ⟨S, hS⟩ : ∃ S, S = (filesL 2).filter fun f => decide (f.length = n) := ⟨_, rfl⟩
    have hSl : S.length ≤ 273 := by
      rw [hS]
      have h1 := List.length_filter_le (fun f : List Dg => decide (f.length = n)) (filesL 2)
      have e : (filesL 2).length = 273 := by decide +kernel
      omega
    have hSm : ∀ f ∈ S, f.length = n := fun f hf => by
      rw [hS] at hf
      exact of_decide_eq_true (List.mem_filter.mp hf).2
    have hany : longT tl n = S.any fun f => !decide (tl f = tl (f ++ [0])) := by
      rw [hS, List.any_filter]; rfl
    obtain ⟨M1, hM1⟩ : ∃ M1, M1 = updM M a ((pre.filter (longT tl)).map fun n => D.int ((n : Nat) : Int)) := ⟨_, rfl⟩
    rw [← hM1]
    refine sq (ρ' := [x0, some (.lst ((filesL 2).map dF)), x2, x3, x4, some (.dic (tblD tl)), y6, some (.box a), x8, x9, some (.int (n : Int)), some (.lst (S.map dF))]) (M' := M1) (fun K k => ?_) ?_
    · refine lc_filter (xs := filesL 2) (e := dF) (fun f => decide (f.length = n)) dF (fun Q h => h) (by decide) (fun f hf K kk => ?_) ?_
      · have hl := len_hx (M := M1) (f := f) (by have := files_mem.mp hf; omega)
        show (match lenD M1 (.str (hx f)) with | some n => _ | none => False)
        rw [hl]
        refine ⟨rfl, ?_⟩
        show (match deqN 9 (.int (f.length : Int)) (.int (n : Int)) with | true => _ | false => _)
        rw [dq_int]
        by_cases e : f.length = n
        · rw [decide_eq_true (show (f.length : Int) = (n : Int) by omega)]
          rw [decide_eq_true e] at kk
          exact kk
        · rw [decide_eq_false (show ¬ (f.length : Int) = (n : Int) by omega)]
          rw [decide_eq_false e] at kk
          exact kk
      · rw [← hS]; exact k
    have ct : ∀ K : Bool → Mem → Prop, K (longT tl n) M1 → (xB (xOp (fEq true) (xLc false (iL (xVar 11)) (gN 6) (xB (xOp (fEq true) (xOp fDix (xVar 5) (xVar 6)) (xOp fDix (xVar 5) (xOp fAdd (xVar 6) (xC (.str "0")))))) (xVar 6) [6]) (xLst false aNil))) [x0, some (.lst ((filesL 2).map dF)), x2, x3, x4, some (.dic (tblD tl)), y6, some (.box a), x8, x9, some (.int (n : Int)), some (.lst (S.map dF))] M1 K := fun K k => by
      refine lc_filter (xs := S) (e := dF) (fun f => !decide (tl f = tl (f ++ [0]))) dF (fun Q h => h) (by omega) (fun f hf K kk => ?_) ?_
      · have hfl := hSm f hf
        show (match getD' (tblD tl) (hx f) with | some d' => _ | none => False)
        rw [tbl_get tl (by omega)]
        show (_ : Nat) ≤ 16777216 ∧ (match getD' (tblD tl) (hx f ++ ("0" : Str)) with | some d' => _ | none => False)
        have e1 : hx f ++ ("0" : Str) = hx (f ++ [0]) := hx_app f [0]
        refine ⟨?_, ?_⟩
        · show (hx f).length + ("0" : Str).length ≤ 16777216
          have : ("0" : Str).length = 1 := by decide +kernel
          rw [this, hx_len]; omega
        rw [e1, tbl_get tl (by rw [List.length_append]; show f.length + 1 ≤ 2; omega)]
        refine fEq_OS (ne := true) ?_
        show (match !decide (tl f = tl (f ++ [0])) with | true => _ | false => _)
        cases e : decide (tl f = tl (f ++ [0])) with
        | true => rw [e] at kk; exact kk
        | false => rw [e] at kk; exact kk
      · refine ⟨Nat.zero_le _, cq_nilL _, ?_⟩
        show K (!deqN 9 (.lst ((S.filter fun f => !decide (tl f = tl (f ++ [0]))).map dF)) (.lst [])) M1
        rw [dq_nilL, List.isEmpty_map, filt_any, Bool.not_not, ← hany]
        exact k
    cases e : longT tl n with
    | true =>
      rw [e] at ct
      refine if_t (M' := M1) ct ?_
      rw [hM1]
      refine append_ok (a := a) (d := .int (n : Int)) (fun P h => h) (fun P h => h) updM_same (by rw [List.length_map]; omega) ⟨?_, _, _, _, rfl⟩
      rw [updM_updM, List.filter_append, List.map_append]
      have e3 : [n].filter (longT tl) = [n] := by rw [List.filter_cons_of_pos e]; rfl
      rw [e3]; rfl
    | false =>
      rw [e] at ct
      refine if_f (M' := M1) ct ⟨?_, _, _, _, rfl⟩
      rw [hM1, List.filter_append]
      have e3 : [n].filter (longT tl) = [] := by rw [List.filter_cons_of_neg (by rw [e]; exact Bool.false_ne_true)]; rfl
      rw [e3, List.append_nil]
  · rintro ρ M' ⟨rfl, y6, y10, y11, rfl⟩
    exact fin y6 y10 y11
end DL
-- part Pl31
set_option Elab.async false
set_option linter.all false
set_option maxRecDepth 100000
set_option maxHeartbeats 1000000
namespace DL
open PySem PySem.Spec PyProof.Rows L2
local macro_rules | `(tactic| walk_at "dl") => `(tactic| simp (config := {decide := false}) only [sNext, sSeq, sDrop, sRet, sIf, sSet, sAsg, sPar, sStore, sNever, xC, xOp, xB, xChain, xUn, yAnd, yOr, yNot, xAnd, xOr, xNot, xIf, aNil, aCons, xTup, xLst, mk, xCB, xIsi, xSl, xJoin, xIndexS, xIndexL, xAppend, xCall, gN, gT, gCons, gNil, yYes, oNone, oSome, iT, iL, iS, xVar, startD, wipeD,
  fI0, fI, fLt, fLe, fGt, fGe, fSub, fMul, fMod, fDiv, fPow, fAnd, fLen, lenD, fNeg, fIs, isNon, fIx, fAdd, fEq, fIn, fMin2, fMax2, fTuple, fList, fAll, fInt, fStrS, fAbs, tyn, res, seqD, lstD,
  ixt0, ixt1, ixt2, ixt3, k_ii, k_ib, k_it, k_tt, k_ss, k_ns, Bool.not_true, Bool.not_false, Option.map_some,
  List.map_cons, List.map_nil, List.length_cons, List.length_nil, List.length_map, List.cons_append, List.nil_append, List.getElem?_cons_zero, List.getElem?_cons_succ, List.set_cons_zero, List.set_cons_succ, List.replicate_succ, List.replicate_zero, Nat.reduceAdd, Nat.reduceSub, Nat.reduceLeDiff, Nat.zero_le, true_and, and_true, Option.bind_some, if_true, if_false, Bool.false_eq_true, reduceIte, decide_true, decide_false, decide_eq_true_eq, imp_self, forall_const])
def bigB : Book := [⟨"big", 3, [⟨.pl 0, ">", 7⟩], [("odd", ⟨.pl 0, "=", 7⟩)]⟩]
theorem big_ok : okBook bigB := by
  refine ⟨by decide, fun r hr => ?_, by decide⟩
  rw [List.mem_singleton.mp hr]
  refine ⟨okw _ (.inr (.inr (.inr (.inr (.inl rfl))))), by decide, by decide, by decide, fun t ht => ?_, fun p hp => ?_⟩
  · rw [List.mem_singleton.mp ht]
    exact ⟨by show (0 : Int) ≤ 0 ∧ (0 : Int) ≤ 31; omega, .inr (.inr (.inr (.inl rfl))), by decide⟩
  · rw [List.mem_singleton.mp hp]
    exact ⟨okw _ (.inr (.inr (.inr (.inr (.inr (.inl rfl)))))), by show (0 : Int) ≤ 0 ∧ (0 : Int) ≤ 31; omega, .inl rfl, by decide⟩
theorem nil_ok : okBook [] := ⟨Nat.zero_le _, fun r hr => (by cases hr), Nat.zero_le _⟩
theorem big_B : linB ((order bigB).map (ruleAt bigB)) 1 0 ≤ 16777216 := by decide +kernel
theorem nil_B : linB ((order []).map (ruleAt [])) 1 0 ≤ 16777216 := by decide +kernel
theorem big_8 : isort leS (somes (textsBehind bigB [8])) = [("big" : Str)] ∧ decide (none ∈ textsBehind bigB [8]) = false := by decide +kernel
theorem big_3 : sureAt bigB [3] = some 1 ∧ sureAt bigB [] = none := by decide +kernel
theorem nil_0 : isort leS (somes (textsBehind [] [])) = [] ∧ decide (none ∈ textsBehind [] []) = true ∧ sureAt [] [7, 15] = some 0 := by decide +kernel
theorem fEq_self {ne : Bool} {d : D} {M : Mem} {P : DK} (hc : cmpN 9 d d = true) (hr : res M d = d) (h : P (.bl (!ne)) M) : fEq ne d d M P := by
  unfold fEq
  rw [hr, deq_refl 9 _ hc]
  refine ⟨hc, ?_⟩
  cases ne <;> exact h
theorem fDict_tbl {tl : List Dg → Option Str} {M : Mem} {P : DK} (h : P (.dic (tblD tl)) M) : fDict [.lst ((filesL 2).map fun g => D.tup [dF g, dOS (tl g)])] M P := by
  unfold fDict
  show (match prs ((filesL 2).map fun g => D.tup [dF g, dOS (tl g)]) with | some kvs => P (.dic (mergeD [] kvs)) M | none => False)
  rw [prs_map (filesL 2) fun g => dOS (tl g)]
  have e : mergeD [] ((filesL 2).map fun g => (hx g, dOS (tl g))) = tblD tl := merge_tbl tl
  show P (.dic (mergeD [] ((filesL 2).map fun g => (hx g, dOS (tl g))))) M
  rw [e]; exact h
def R_law_k12 : RF := fun ds M P => ∃ ns : List Int, ds = [.scr ns] ∧ ∀ M', P (.bl true) M'
theorem p_law_k12 (ds : List D) (M : Mem) (Q : DK) (h : R_law_k12 ds M Q) : t_law_k12 R_law_files R_law_source R_law_book R_law_tells R_law_some_file R_law_behind R_possible R_sure_at (en0 Q) (startD N_law_k12 ds) M := by
  obtain ⟨ns, rfl, q⟩ := h
  unfold t_law_k12
  refine sq (ρ' := [some (.scr ns), some (.lst ((filesL 2).map dF)), none, none, none, none, none, none, none, none, none, none, none, none, none]) (M' := M) (fun K k => ⟨rfl, k⟩) ?_
  obtain ⟨cnt, hcnt⟩ : ∃ cnt, cnt = (1 + (if (5 : Int) < (ns.length : Int) then 5 else (ns.length : Int))).toNat := ⟨_, rfl⟩
  have hc6 : cnt ≤ 6 := by rw [hcnt]; split <;> omega
  refine for_go (xs := List.range cnt) (e := fun i => D.int ((i : Nat) : Int)) (fun pre ρ M' => ∃ x2 x3 x4 x5 x6 x7 x8 x9 x10 x11 x12 x13 x14, ρ = [some (.scr ns), some (.lst ((filesL 2).map dF)), x2, x3, x4, x5, x6, x7, x8, x9, x10, x11, x12, x13, x14]) (fun Q h => ?_) ⟨none, none, none, none, none, none, none, none, none, none, none, none, none, rfl⟩ ?_ ?_
  · have e := rg0 cnt
    rw [hcnt] at e h hc6
    exact ⟨by omega, by omega, by rw [e]; exact h⟩
  · rintro pre i post hr ρ M' ⟨x2, x3, x4, x5, x6, x7, x8, x9, x10, x11, x12, x13, x14, rfl⟩
    have hi : i < cnt := by
      have : i ∈ List.range cnt := by rw [hr]; simp
      exact List.mem_range.mp this
    refine ⟨ns, i, rfl, by omega, fun a ha c r => ?_⟩
    refine ⟨a, 1, rfl, src_upd, by omega, by omega, fun b hbl hbr c2 r2 => ?_⟩
    rw [updM_updM]
    have hp := law_plain (by omega) hbl hbr
    have hok := hp.ok
    have hn := law_near hbr
    have hB := plain_B hp
    dsimp only
    refine sq (ρ' := [some (.scr ns), some (.lst ((filesL 2).map dF)), some (.int (i : Int)), some (.box a), some (dBook b), some (.dic (tblD (toldF b))), x6, x7, x8, x9, x10, x11, x12, x13, x14]) (M' := updM M' a [.int c2, .int r2]) (fun K k => ?_) ?_
    · refine lc_map (xs := filesL 2) (e := dF) (fun g => .tup [dF g, dOS (toldF b g)]) (fun Q h => h) (by decide) (fun g hg K kk => ⟨b, g, rfl, by omega, hok.2.1, by have := files_mem.mp hg; omega, by show 2 ≤ 16777216; omega, kk⟩) ?_
      simp only [mk, aNil]
      refine fDict_tbl (tl := toldF b) ?_
      exact k
    refine ⟨by omega, by omega, ?_⟩
    refine draw_go (e := dF) (ok := fun f => f.length ≤ 2) (rgD 0 (20 : Int).toNat) (by rw [rgD_len]; decide) src_upd (fun d hd M2 hM2 K k => ⟨a, 2, rfl, hM2, by omega, by omega, fun f hf c r => k f (by omega) c r⟩) (fun fs hfs hfok c3 r3 => ?_)
    rw [rgD_len] at hfs
    rw [updM_updM]
    have el : cutD ((filesL 2).map dF) none (some ((17 : Nat) : Int)) = ((filesL 2).take 17).map dF := by rw [cut_take, List.map_take]
    have e17 : (((filesL 2).take 17).map dF).length ≤ 17 := by rw [List.length_map, List.length_take]; omega
    refine ⟨by show (cutD ((filesL 2).map dF) none (some ((17 : Nat) : Int))).length + (fs.map dF).length ≤ 16777216; rw [el, List.length_map (as := fs), hfs]; omega, ?_⟩
    refine ⟨a, 9, rfl, src_upd, by omega, by omega, fun f9 hf9 c4 r4 => ?_⟩
    rw [updM_updM]
    obtain ⟨tries, htr⟩ : ∃ tries, tries = (filesL 2).take 17 ++ fs ++ [f9] := ⟨_, rfl⟩
    have hte : cutD ((filesL 2).map dF) none (some ((17 : Nat) : Int)) ++ fs.map dF ++ [dF f9] = tries.map dF := by rw [el, htr, List.map_append, List.map_append]; rfl
    have htl : ∀ f ∈ tries, f.length ≤ 40 := fun f hf => by
      rw [htr] at hf
      rcases List.mem_append.mp hf with z | z
      · rcases List.mem_append.mp z with z | z
        · have := files_mem.mp (List.mem_of_mem_take z); omega
        · have := hfok f z; omega
      · rw [List.mem_singleton.mp z]; omega
    refine ⟨by show 1 ≤ 16777216; omega, by show (cutD ((filesL 2).map dF) none (some ((17 : Nat) : Int)) ++ fs.map dF).length + 1 ≤ 16777216; rw [List.length_append, el, List.length_map (as := fs), hfs]; omega, ?_⟩
    dsimp only
    refine for_go (xs := tries) (e := dF) (fun pre ρ M2 => ∃ x6 x9 x10 x11 x12 x13 x14, ρ = [some (.scr ns), some (.lst ((filesL 2).map dF)), some (.int (i : Int)), some (.box a), some (dBook b), some (.dic (tblD (toldF b))), x6, some (.lst (tries.map dF)), x8, x9, x10, x11, x12, x13, x14]) (fun Q h => ?_) ⟨x6, x9, x10, x11, x12, x13, x14, ?_⟩ ?_ ?_
    · show Q (cutD ((filesL 2).map dF) none (some ((17 : Nat) : Int)) ++ fs.map dF ++ [dF f9]) _
      rw [hte]; exact h
    · show [some (.scr ns), some (.lst ((filesL 2).map dF)), some (.int (i : Int)), some (.box a), some (dBook b), some (.dic (tblD (toldF b))), x6, some (.lst (cutD ((filesL 2).map dF) none (some ((17 : Nat) : Int)) ++ fs.map dF ++ [dF f9])), x8, x9, x10, x11, x12, x13, x14] = _
      rw [hte]
    · rintro pre f post ht ρ M2 ⟨y6, y9, y10, y11, y12, y13, y14, rfl⟩
      simp only [gN, List.set_cons_succ, List.set_cons_zero]
      exact p_k12try hok hn hB (htl f (by rw [ht]; simp)) fun z9 z10 z11 z12 z13 z14 => ⟨_, _, _, _, _, _, _, rfl⟩
    · rintro ρ M2 ⟨y6, y9, y10, y11, y12, y13, y14, rfl⟩
      exact ⟨_, _, _, _, _, _, _, _, _, _, _, _, _, rfl⟩
  · rintro ρ M' ⟨x2, x3, x4, x5, x6, x7, x8, x9, x10, x11, x12, x13, x14, rfl⟩
    dsimp only
    have le {n : Nat} (h : n.ble 16777216 = true) : n ≤ 16777216 := Nat.le_of_ble_eq_true h
    refine sq (ρ' := [some (.scr ns), some (.lst ((filesL 2).map dF)), x2, x3, some (dBook bigB), x5, x6, x7, x8, x9, x10, x11, x12, x13, x14]) (M' := M') (fun K k => ⟨le rfl, le rfl, le rfl, le rfl, le rfl, le rfl, le rfl, k⟩) ?_
    refine sif_f (M' := M') (fun K k => ?_) ?_
    · refine ⟨bigB, [8], rfl, big_ok, big_B, by decide, ?_⟩
      rw [big_8.1, big_8.2]
      refine ⟨le rfl, le rfl, fEq_self (ne := true) (d := .tup [.lst ([("big" : Str)].map D.str), .bl false]) (cmp_poss [("big" : Str)] false) rfl ?_⟩
      refine ⟨bigB, [3], rfl, big_ok, big_B, by decide, ?_⟩
      rw [big_3.1]
      dsimp only [xC, dON]
      refine fEq_self (ne := true) (d := .int 1) rfl rfl ?_
      refine ⟨bigB, [], rfl, big_ok, big_B, by decide, ?_⟩
      rw [big_3.2]
      exact k
    refine ⟨le rfl, [], [], rfl, nil_ok, nil_B, by decide, ?_⟩
    rw [nil_0.1, nil_0.2.1]
    refine ⟨le rfl, le rfl, fEq_self (ne := false) (d := .tup [.lst (([] : List Str).map D.str), .bl true]) (cmp_poss [] true) rfl ?_⟩
    refine ⟨le rfl, [], [7, 15], rfl, nil_ok, nil_B, by decide, ?_⟩
    rw [nil_0.2.2]
    dsimp only [xC, dON]
    exact fEq_self (ne := false) (d := .int 0) rfl rfl (q M')
end DL
-- part Pl35
set_option Elab.async false
set_option linter.all false
set_option maxRecDepth 100000
set_option maxHeartbeats 1000000
namespace DL
open PySem PySem.Spec PyProof.Rows L2
local macro_rules | `(tactic| walk_at "dl") => `(tactic| simp (config := {decide := false}) only [sNext, sSeq, sDrop, sRet, sIf, sSet, sAsg, sPar, sStore, sNever, xC, xOp, xB, xChain, xUn, yAnd, yOr, yNot, xAnd, xOr, xNot, xIf, aNil, aCons, xTup, xLst, mk, xCB, xIsi, xSl, xJoin, xIndexS, xIndexL, xAppend, xCall, gN, gT, gCons, gNil, yYes, oNone, oSome, iT, iL, iS, xVar, startD, wipeD,
  fI0, fI, fLt, fLe, fGt, fGe, fSub, fMul, fMod, fDiv, fPow, fAnd, fLen, lenD, fNeg, fIs, isNon, fIx, fAdd, fEq, fIn, fMin2, fMax2, fTuple, fList, fAll, fInt, fStrS, fAbs, tyn, res, seqD, lstD,
  ixt0, ixt1, ixt2, ixt3, k_ii, k_ib, k_it, k_tt, k_ss, k_ns, Bool.not_true, Bool.not_false, Option.map_some,
  List.map_cons, List.map_nil, List.length_cons, List.length_nil, List.length_map, List.cons_append, List.nil_append, List.getElem?_cons_zero, List.getElem?_cons_succ, List.set_cons_zero, List.set_cons_succ, List.replicate_succ, List.replicate_zero, Nat.reduceAdd, Nat.reduceSub, Nat.reduceLeDiff, Nat.zero_le, true_and, and_true, Option.bind_some, if_true, if_false, Bool.false_eq_true, reduceIte, decide_true, decide_false, decide_eq_true_eq, imp_self, forall_const])
def lowB : Book := [⟨"low", 1, [⟨.pl 2, "<", 5⟩], []⟩]
theorem low_ok : okBook lowB := by
  refine ⟨by decide, fun r hr => ?_, by decide⟩
  rw [List.mem_singleton.mp hr]
  refine ⟨okw _ (.inr (.inr (.inr (.inl rfl)))), by decide, by decide, by decide, fun t ht => ?_, fun p hp => (by cases hp)⟩
  rw [List.mem_singleton.mp ht]
  exact ⟨by show (0 : Int) ≤ 2 ∧ (2 : Int) ≤ 31; omega, .inr (.inr (.inl rfl)), by decide⟩
theorem low_B : bB lowB := by decide +kernel
theorem low_len : lengthsL lowB = [2] := by decide +kernel
theorem nil_reads : readsL [] = [] ∧ isEnough [] 0 = true := by decide +kernel
theorem nats_ints (xs : List Nat) : (xs.map fun n => D.int ((n : Nat) : Int)) = (xs.map fun n => ((n : Nat) : Int)).map D.int := by rw [List.map_map]; rfl
theorem cmp_nats (xs : List Nat) : cmpN 9 (.lst (xs.map fun n => D.int ((n : Nat) : Int))) (.lst (xs.map fun n => D.int ((n : Nat) : Int))) = true := by rw [nats_ints]; exact cmp_ints _
def R_law_k10 : RF := fun ds M P => ∃ ns : List Int, ds = [.scr ns] ∧ ∀ M', P (.bl true) M'
theorem p_law_k10 (ds : List D) (M : Mem) (Q : DK) (h : R_law_k10 ds M Q) : t_law_k10 R_law_files R_law_source R_law_book R_law_tells R_law_due R_reads R_enough R_lengths (en0 Q) (startD N_law_k10 ds) M := by
  obtain ⟨ns, rfl, q⟩ := h
  unfold t_law_k10
  refine sq (ρ' := [some (.scr ns), some (.lst ((filesL 2).map dF)), none, none, none, none, none, none, none, none, none, none]) (M' := M) (fun K k => ⟨rfl, k⟩) ?_
  obtain ⟨cnt, hcnt⟩ : ∃ cnt, cnt = (1 + (if (6 : Int) < (ns.length : Int) then 6 else (ns.length : Int))).toNat := ⟨_, rfl⟩
  have hc6 : cnt ≤ 7 := by rw [hcnt]; split <;> omega
  refine for_go (xs := List.range cnt) (e := fun i => D.int ((i : Nat) : Int)) (fun pre ρ M' => ∃ x2 x3 x4 x5 x6 x7 x8 x9 x10 x11, ρ = [some (.scr ns), some (.lst ((filesL 2).map dF)), x2, x3, x4, x5, x6, x7, x8, x9, x10, x11]) (fun Q h => ?_) ⟨none, none, none, none, none, none, none, none, none, none, rfl⟩ ?_ ?_
  · have e := rg0 cnt
    rw [hcnt] at e h hc6
    exact ⟨by omega, by omega, by rw [e]; exact h⟩
  · rintro pre i post hr ρ M' ⟨x2, x3, x4, x5, x6, x7, x8, x9, x10, x11, rfl⟩
    have hi : i < cnt := by
      have : i ∈ List.range cnt := by rw [hr]; simp
      exact List.mem_range.mp this
    refine ⟨ns, i, rfl, by omega, fun a ha c r => ?_⟩
    refine ⟨a, 1, rfl, src_upd, by omega, by omega, fun b hbl hbr c2 r2 => ?_⟩
    rw [updM_updM]
    have hp := law_plain (by omega) hbl hbr
    have hok := hp.ok
    have hn := law_near hbr
    have hB := plain_B hp
    obtain ⟨M1, hM1⟩ : ∃ M1, M1 = updM M' a [.int c2, .int r2] := ⟨_, rfl⟩
    rw [← hM1]
    dsimp only
    refine sq (ρ' := [some (.scr ns), some (.lst ((filesL 2).map dF)), some (.int (i : Int)), some (.box a), some (dBook b), some (.dic (tblD (toldF b))), x6, x7, x8, x9, x10, x11]) (M' := M1) (fun K k => ?_) ?_
    · refine lc_map (xs := filesL 2) (e := dF) (fun g => .tup [dF g, dOS (toldF b g)]) (fun Q h => h) (by decide) (fun g hg K kk => ⟨b, g, rfl, by omega, hok.2.1, by have := files_mem.mp hg; omega, by show 2 ≤ 16777216; omega, kk⟩) ?_
      simp only [mk, aNil]
      refine fDict_tbl (tl := toldF b) ?_
      exact k
    refine ⟨toldF b, rfl, fun a1 xs h1 => ?_⟩
    obtain ⟨M2, hM2⟩ : ∃ M2, M2 = updM M1 a1 xs := ⟨_, rfl⟩
    rw [← hM2]
    dsimp only
    refine ⟨b, rfl, hok, hB, fun a2 h2 => ?_⟩
    have erd : (dueL (toldF b)).map D.int = (readsL b).map fun n => D.int ((n : Nat) : Int) := by rw [← reads_near hok hn, nats_ints]
    rw [erd]
    obtain ⟨RD, hRD⟩ : ∃ RD, RD = (readsL b).map fun n => D.int ((n : Nat) : Int) := ⟨_, rfl⟩
    have hRc : cmpN 9 (.lst RD) (.lst RD) = true := by rw [hRD]; exact cmp_nats _
    have hRl : RD.length ≤ 32 := by
      rw [hRD, List.length_map]
      have := List.length_filter_le (fun n : Nat => placeMatters b (n : Int)) (List.range 32)
      rw [List.length_range] at this
      exact this
    rw [← hRD]
    obtain ⟨M3, hM3⟩ : ∃ M3, M3 = updM M2 a2 RD := ⟨_, rfl⟩
    rw [← hM3]
    dsimp only
    refine sif_f (M' := M3) (fun K k => fEq_box (ne := true) (M := M3) (a := a2) (P := fun d M' => match d with | .bl b => K b M' | _ => False) (by rw [hM3]; exact updM_same) hRc k) ?_
    refine sq (ρ' := [some (.scr ns), some (.lst ((filesL 2).map dF)), some (.int (i : Int)), some (.box a), some (dBook b), some (.dic (tblD (toldF b))), x6, some (.lst RD), some (.box a2), x9, x10, x11]) (M' := updM M3 a2 (RD ++ [D.int 99])) (fun K k => append_ok (a := a2) (ds := RD) (d := .int 99) (fun P h => h) (fun P h => h) (by rw [hM3]; exact updM_same) (by omega) k) ?_
    obtain ⟨M4, hM4⟩ : ∃ M4, M4 = updM M3 a2 (RD ++ [D.int 99]) := ⟨_, rfl⟩
    rw [← hM4]
    refine ⟨b, rfl, hok, hB, fun a3 h3 => ?_⟩
    rw [← hRD]
    obtain ⟨M5, hM5⟩ : ∃ M5, M5 = updM M4 a3 RD := ⟨_, rfl⟩
    rw [← hM5]
    simp only [xVar, List.set_cons_succ, List.set_cons_zero, List.getElem?_cons_succ, List.getElem?_cons_zero]
    refine fEq_box (ne := true) (a := a3) (M := M5) (by rw [hM5]; exact updM_same) hRc ?_
    dsimp only [Bool.not_true, sNext]
    refine sq (ρ' := [some (.scr ns), some (.lst ((filesL 2).map dF)), some (.int (i : Int)), some (.box a), some (dBook b), some (.dic (tblD (toldF b))), x6, some (.lst RD), some (.box a2), some (.int 0), x10, x11]) (M' := M5) (fun K k => k) ?_
    have e2 : ((filesL 2).all fun f => decide (toldF b f = toldF b (f.take 2))) = true := enoughF_2 b
    have hk := least_K (q := fun j => (filesL 2).all fun f => decide (toldF b f = toldF b (f.take j))) e2
    obtain ⟨k0, hk0⟩ : ∃ k0, k0 = leastK (fun j => (filesL 2).all fun f => decide (toldF b f = toldF b (f.take j))) := ⟨_, rfl⟩
    rw [← hk0] at hk
    have hk' : Least (fun j => isEnough b (j : Int)) k0 := ⟨(enough_near hok hn k0).trans hk.yes, fun j hj => (enough_near hok hn j).trans (hk.no j hj)⟩
    refine p_k10whl hk fun y6 => ?_
    dsimp only
    refine sif_f (M' := M5) (fun K k => ⟨b, k0, rfl, hok, hB, hk', fEq_self (ne := true) (d := .int (k0 : Int)) (M := M5) (P := fun d M' => match d with | .bl b => K b M' | _ => False) rfl rfl k⟩) ?_
    refine ⟨Nat.zero_le _, fun a4 h4 => ?_⟩
    dsimp only
    refine p_k10for fun z6 z10 z11 => ?_
    dsimp only
    have eln : ((List.range 2).filter (longT (toldF b))).map (fun n => D.int ((n : Nat) : Int)) = (lengthsL b).map fun n => D.int ((n : Nat) : Int) := by rw [lengths_near hok hn]; rfl
    rw [eln]
    refine if_f (M' := _) (fun K k => ⟨b, rfl, hok, hB, fEq_xob (ne := true) (a := a4) (M := updM M5 a4 ((lengthsL b).map fun n => D.int ((n : Nat) : Int))) (P := fun d M' => match d with | .bl b => K b M' | _ => False) updM_same (cmp_nats _) k⟩) ?_
    exact ⟨_, _, _, _, _, _, _, _, _, _, rfl⟩
  · rintro ρ M' ⟨x2, x3, x4, x5, x6, x7, x8, x9, x10, x11, rfl⟩
    dsimp only
    have le {n : Nat} (h : n.ble 16777216 = true) : n ≤ 16777216 := Nat.le_of_ble_eq_true h
    refine ⟨le rfl, [], rfl, nil_ok, nil_B, fun a1 h1 => ?_⟩
    rw [nil_reads.1]
    refine ⟨le rfl, ?_⟩
    dsimp only [mk, List.map_nil]
    refine fEq_box (ne := false) (ds := []) updM_same rfl ?_
    refine ⟨le rfl, [], 0, rfl, nil_ok, nil_B, ⟨nil_reads.2, fun j hj => by omega⟩, ?_⟩
    dsimp only [xC]
    refine fEq_self (ne := false) (d := .int 0) rfl rfl ?_
    refine ⟨le rfl, le rfl, le rfl, le rfl, le rfl, lowB, rfl, low_ok, low_B, ?_⟩
    rw [low_len]
    refine ⟨le rfl, ?_⟩
    dsimp only [mk]
    exact fEq_self (ne := false) (d := .lst [.int 2]) rfl rfl (q _)
end DL
-- part Pz_k10
-- part End_k10
set_option Elab.async false
set_option linter.all false
set_option maxRecDepth 100000
set_option maxHeartbeats 4000000
namespace DL
open PySem PySem.Spec PyProof.Rows L2 Tp
theorem ln__law_files : ∀ ds M P, R_law_files ds M P → ds.length = 1 := by
  intro ds M P h
  unfold R_law_files at h
  repeat (obtain ⟨_, h⟩ := h)
  subst_vars
  rfl
theorem ln__law_source : ∀ ds M P, R_law_source ds M P → ds.length = 2 := by
  intro ds M P h
  unfold R_law_source at h
  repeat (obtain ⟨_, h⟩ := h)
  subst_vars
  rfl
theorem ln__law_draw : ∀ ds M P, R_law_draw ds M P → ds.length = 2 := by
  intro ds M P h
  unfold R_law_draw at h
  repeat (obtain ⟨_, h⟩ := h)
  subst_vars
  rfl
theorem ln__law_choice : ∀ ds M P, R_law_choice ds M P → ds.length = 2 := by
  intro ds M P h
  unfold R_law_choice at h
  repeat (obtain ⟨_, h⟩ := h)
  subst_vars
  rfl
theorem ln__law_test : ∀ ds M P, R_law_test ds M P → ds.length = 2 := by
  intro ds M P h
  unfold R_law_test at h
  repeat (obtain ⟨_, h⟩ := h)
  subst_vars
  rfl
theorem ln__law_rule : ∀ ds M P, R_law_rule ds M P → ds.length = 2 := by
  intro ds M P h
  unfold R_law_rule at h
  repeat (obtain ⟨_, h⟩ := h)
  subst_vars
  rfl
theorem ln__law_book : ∀ ds M P, R_law_book ds M P → ds.length = 2 := by
  intro ds M P h
  unfold R_law_book at h
  repeat (obtain ⟨_, h⟩ := h)
  subst_vars
  rfl
theorem ln__law_due : ∀ ds M P, R_law_due ds M P → ds.length = 2 := by
  intro ds M P h
  unfold R_law_due at h
  repeat (obtain ⟨_, h⟩ := h)
  subst_vars
  rfl
theorem ln_tests_of : ∀ ds M P, R_tests_of ds M P → ds.length = 1 := by
  intro ds M P h
  unfold R_tests_of at h
  repeat (obtain ⟨_, h⟩ := h)
  subst_vars
  rfl
theorem ln_pairs_in : ∀ ds M P, R_pairs_in ds M P → ds.length = 1 := by
  intro ds M P h
  unfold R_pairs_in at h
  repeat (obtain ⟨_, h⟩ := h)
  subst_vars
  rfl
theorem ln_is_word : ∀ ds M P, R_is_word ds M P → ds.length = 1 := by
  intro ds M P h
  unfold R_is_word at h
  repeat (obtain ⟨_, h⟩ := h)
  subst_vars
  rfl
theorem ln_is_between : ∀ ds M P, R_is_between ds M P → ds.length = 3 := by
  intro ds M P h
  unfold R_is_between at h
  repeat (obtain ⟨_, h⟩ := h)
  subst_vars
  rfl
theorem ln_is_where : ∀ ds M P, R_is_where ds M P → ds.length = 1 := by
  intro ds M P h
  unfold R_is_where at h
  repeat (obtain ⟨_, h⟩ := h)
  subst_vars
  rfl
theorem ln_is_test : ∀ ds M P, R_is_test ds M P → ds.length = 1 := by
  intro ds M P h
  unfold R_is_test at h
  repeat (obtain ⟨_, h⟩ := h)
  subst_vars
  rfl
theorem ln_is_part : ∀ ds M P, R_is_part ds M P → ds.length = 1 := by
  intro ds M P h
  unfold R_is_part at h
  repeat (obtain ⟨_, h⟩ := h)
  subst_vars
  rfl
theorem ln_is_rule : ∀ ds M P, R_is_rule ds M P → ds.length = 1 := by
  intro ds M P h
  unfold R_is_rule at h
  repeat (obtain ⟨_, h⟩ := h)
  subst_vars
  rfl
theorem ln_is_book : ∀ ds M P, R_is_book ds M P → ds.length = 1 := by
  intro ds M P h
  unfold R_is_book at h
  repeat (obtain ⟨_, h⟩ := h)
  subst_vars
  rfl
theorem ln_need_book : ∀ ds M P, R_need_book ds M P → ds.length = 1 := by
  intro ds M P h
  unfold R_need_book at h
  repeat (obtain ⟨_, h⟩ := h)
  subst_vars
  rfl
theorem ln_with_place : ∀ ds M P, R_with_place ds M P → ds.length = 2 := by
  intro ds M P h
  unfold R_with_place at h
  repeat (obtain ⟨_, h⟩ := h)
  subst_vars
  rfl
theorem ln_order_of : ∀ ds M P, R_order_of ds M P → ds.length = 1 := by
  intro ds M P h
  unfold R_order_of at h
  repeat (obtain ⟨_, h⟩ := h)
  subst_vars
  rfl
theorem ln_digits_at : ∀ ds M P, R_digits_at ds M P → ds.length = 2 := by
  intro ds M P h
  unfold R_digits_at at h
  repeat (obtain ⟨_, h⟩ := h)
  subst_vars
  rfl
theorem ln_without_place : ∀ ds M P, R_without_place ds M P → ds.length = 2 := by
  intro ds M P h
  unfold R_without_place at h
  repeat (obtain ⟨_, h⟩ := h)
  subst_vars
  rfl
theorem ln_fits : ∀ ds M P, R_fits ds M P → ds.length = 3 := by
  intro ds M P h
  unfold R_fits at h
  repeat (obtain ⟨_, h⟩ := h)
  subst_vars
  rfl
theorem ln_with_digits : ∀ ds M P, R_with_digits ds M P → ds.length = 3 := by
  intro ds M P h
  unfold R_with_digits at h
  repeat (obtain ⟨_, h⟩ := h)
  subst_vars
  rfl
theorem ln_split_place : ∀ ds M P, R_split_place ds M P → ds.length = 5 := by
  intro ds M P h
  unfold R_split_place at h
  repeat (obtain ⟨_, h⟩ := h)
  subst_vars
  rfl
theorem ln_split_test : ∀ ds M P, R_split_test ds M P → ds.length = 4 := by
  intro ds M P h
  unfold R_split_test at h
  repeat (obtain ⟨_, h⟩ := h)
  subst_vars
  rfl
theorem ln_split_all : ∀ ds M P, R_split_all ds M P → ds.length = 4 := by
  intro ds M P h
  unfold R_split_all at h
  repeat (obtain ⟨_, h⟩ := h)
  subst_vars
  rfl
theorem ln_split_parts : ∀ ds M P, R_split_parts ds M P → ds.length = 4 := by
  intro ds M P h
  unfold R_split_parts at h
  repeat (obtain ⟨_, h⟩ := h)
  subst_vars
  rfl
theorem ln_lines_from : ∀ ds M P, R_lines_from ds M P → ds.length = 4 := by
  intro ds M P h
  unfold R_lines_from at h
  repeat (obtain ⟨_, h⟩ := h)
  subst_vars
  rfl
theorem ln_place_matters : ∀ ds M P, R_place_matters ds M P → ds.length = 2 := by
  intro ds M P h
  unfold R_place_matters at h
  repeat (obtain ⟨_, h⟩ := h)
  subst_vars
  rfl
theorem ln_reads_of : ∀ ds M P, R_reads_of ds M P → ds.length = 1 := by
  intro ds M P h
  unfold R_reads_of at h
  repeat (obtain ⟨_, h⟩ := h)
  subst_vars
  rfl
theorem ln_reads : ∀ ds M P, R_reads ds M P → ds.length = 1 := by
  intro ds M P h
  unfold R_reads at h
  repeat (obtain ⟨_, h⟩ := h)
  subst_vars
  rfl
theorem ln_lines_of : ∀ ds M P, R_lines_of ds M P → ds.length = 1 := by
  intro ds M P h
  unfold R_lines_of at h
  repeat (obtain ⟨_, h⟩ := h)
  subst_vars
  rfl
theorem ln_is_enough : ∀ ds M P, R_is_enough ds M P → ds.length = 2 := by
  intro ds M P h
  unfold R_is_enough at h
  repeat (obtain ⟨_, h⟩ := h)
  subst_vars
  rfl
theorem ln_enough : ∀ ds M P, R_enough ds M P → ds.length = 1 := by
  intro ds M P h
  unfold R_enough at h
  repeat (obtain ⟨_, h⟩ := h)
  subst_vars
  rfl
theorem ln_length_matters : ∀ ds M P, R_length_matters ds M P → ds.length = 2 := by
  intro ds M P h
  unfold R_length_matters at h
  repeat (obtain ⟨_, h⟩ := h)
  subst_vars
  rfl
theorem ln_lengths : ∀ ds M P, R_lengths ds M P → ds.length = 1 := by
  intro ds M P h
  unfold R_lengths at h
  repeat (obtain ⟨_, h⟩ := h)
  subst_vars
  rfl
theorem ln__law_number : ∀ ds M P, R_law_number ds M P → ds.length = 1 := by
  intro ds M P h
  unfold R_law_number at h
  repeat (obtain ⟨_, h⟩ := h)
  subst_vars
  rfl
theorem ln__law_passes : ∀ ds M P, R_law_passes ds M P → ds.length = 2 := by
  intro ds M P h
  unfold R_law_passes at h
  repeat (obtain ⟨_, h⟩ := h)
  subst_vars
  rfl
theorem ln__law_speaks : ∀ ds M P, R_law_speaks ds M P → ds.length = 2 := by
  intro ds M P h
  unfold R_law_speaks at h
  repeat (obtain ⟨_, h⟩ := h)
  subst_vars
  rfl
theorem ln__law_tells : ∀ ds M P, R_law_tells ds M P → ds.length = 2 := by
  intro ds M P h
  unfold R_law_tells at h
  repeat (obtain ⟨_, h⟩ := h)
  subst_vars
  rfl
theorem ln_law_k10 : ∀ ds M P, R_law_k10 ds M P → ds.length = 1 := by
  intro ds M P h
  obtain ⟨ns, rfl, _⟩ := h
  rfl
theorem facts {P : Program} {w : World} {K : PySem.W.Frag} {h : Heap} {mg : Str → Option Value} {f : Addr} (X : K.In h) (G : h.Ns mainGlobals mg) (hfa : mg ("law" : Str) = some (.ref f)) (c : obsC Tp.fa Tp.fn Tp.cs K = valC Tp.fn) :
    ∃ fd : FuncData, (∀ (s : Shared) (v : Value), BindsTo s fd ⟨[v], []⟩ [("_law_script", v)]) ∧ ∀ base : Heap, FnOk P w K mg base CX0 9 f fd ["_law_script"] (spD K R_law_k10) := by
  have c1 := saysC_d c
  have g_range : mg "range" = none := He.free_ok X G (c1.fact 54 (f := .free "range") rfl)
  have g_len : mg "len" = none := He.free_ok X G (c1.fact 50 (f := .free "len") rfl)
  have g_abs : mg "abs" = none := He.free_ok X G (c1.fact 43 (f := .free "abs") rfl)
  have g_int : mg "int" = none := He.free_ok X G (c1.fact 48 (f := .free "int") rfl)
  have g_tuple : mg "tuple" = none := He.free_ok X G (c1.fact 58 (f := .free "tuple") rfl)
  have g_sorted : mg "sorted" = none := He.free_ok X G (c1.fact 56 (f := .free "sorted") rfl)
  have g_set : mg "set" = none := He.free_ok X G (c1.fact 55 (f := .free "set") rfl)
  have g_list : mg "list" = none := He.free_ok X G (c1.fact 51 (f := .free "list") rfl)
  have g_isinstance : mg "isinstance" = none := He.free_ok X G (c1.fact 49 (f := .free "isinstance") rfl)
  have g_str : mg "str" = none := He.free_ok X G (c1.fact 57 (f := .free "str") rfl)
  have g_all : mg "all" = none := He.free_ok X G (c1.fact 44 (f := .free "all") rfl)
  have g_bool : mg "bool" = none := He.free_ok X G (c1.fact 45 (f := .free "bool") rfl)
  have g_max : mg "max" = none := He.free_ok X G (c1.fact 52 (f := .free "max") rfl)
  have g_enumerate : mg "enumerate" = none := He.free_ok X G (c1.fact 47 (f := .free "enumerate") rfl)
  have g_min : mg "min" = none := He.free_ok X G (c1.fact 53 (f := .free "min") rfl)
  have g_dict : mg "dict" = none := He.free_ok X G (c1.fact 46 (f := .free "dict") rfl)
  have c_MOST_WORD : Con K mg "MOST_WORD" D_MOST_WORD := saysC_con c X G 3 rfl
  have c_LETTERS : Con K mg "LETTERS" D_LETTERS := saysC_con c X G 0 rfl
  have c_MOST_PLACE : Con K mg "MOST_PLACE" D_MOST_PLACE := saysC_con c X G 1 rfl
  have c_MOST_ADD : Con K mg "MOST_ADD" D_MOST_ADD := saysC_con c X G 2 rfl
  have c_MOST_STRENGTH : Con K mg "MOST_STRENGTH" D_MOST_STRENGTH := saysC_con c X G 4 rfl
  have c_MOST_TESTS : Con K mg "MOST_TESTS" D_MOST_TESTS := saysC_con c X G 5 rfl
  have c_MOST_PARTS : Con K mg "MOST_PARTS" D_MOST_PARTS := saysC_con c X G 6 rfl
  have c_MOST_RULES : Con K mg "MOST_RULES" D_MOST_RULES := saysC_con c X G 7 rfl
  have c_MOST_PAIRS : Con K mg "MOST_PAIRS" D_MOST_PAIRS := saysC_con c X G 8 rfl
  have c_EVERY : Con K mg "EVERY" D_EVERY := saysC_con c X G 9 rfl
  have c_START : Con K mg "START" D_START := saysC_con c X G 10 rfl
  obtain ⟨fd, FL⟩ := c1.def_ 41 (d := d_law) rfl
  have eL := hfa.symm.trans (He.glo_ok X G (c1.fact 41 (f := .glo "law") rfl))
  cases eL
  have bL := FunD.bindsA (ps := ["_law_script"]) FL fun _ _ _ _ _ _ us hl => match us, hl with | [_], _ => rfl
  refine ⟨fd, fun s v => bL s [v] rfl, fun base => ?_⟩
  have A__law_files : DefAtD K mg "_law_files" s_law_files ["_law_most"] := by
    obtain ⟨fd, F⟩ := c1.def_ 39 (d := d_law_files) rfl
    exact ⟨_, fd, He.glo_ok X G (c1.fact 39 (f := .glo "_law_files") rfl), F, FunD.bindsN F fun _ _ _ _ _ _ us hl => match us, hl with | [_], _ => rfl⟩
  have C__law_files : Callee P w K mg base "_law_files" ["_law_most"] 1 R_law_files := w__law_files g_range A__law_files ln__law_files p_law_files
  have A__law_source : DefAtD K mg "_law_source" s_law_source ["_law_script", "_law_index"] := by
    obtain ⟨fd, F⟩ := c1.def_ 29 (d := d_law_source) rfl
    exact ⟨_, fd, He.glo_ok X G (c1.fact 29 (f := .glo "_law_source") rfl), F, FunD.bindsN F fun _ _ _ _ _ _ us hl => match us, hl with | [_, _], _ => rfl⟩
  have C__law_source : Callee P w K mg base "_law_source" ["_law_script", "_law_index"] 1 R_law_source := w__law_source g_len g_abs g_int A__law_source ln__law_source p_law_source
  have A__law_draw : DefAtD K mg "_law_draw" s_law_draw ["_law_source_here", "_law_size"] := by
    obtain ⟨fd, F⟩ := c1.def_ 30 (d := d_law_draw) rfl
    exact ⟨_, fd, He.glo_ok X G (c1.fact 30 (f := .glo "_law_draw") rfl), F, FunD.bindsN F fun _ _ _ _ _ _ us hl => match us, hl with | [_, _], _ => rfl⟩
  have C__law_draw : Callee P w K mg base "_law_draw" ["_law_source_here", "_law_size"] 1 R_law_draw := w__law_draw g_int A__law_draw ln__law_draw p_law_draw
  have A__law_due : DefAtD K mg "_law_due" s_law_due ["_law_every", "_law_tells_here"] := by
    obtain ⟨fd, F⟩ := c1.def_ 40 (d := d_law_due) rfl
    exact ⟨_, fd, He.glo_ok X G (c1.fact 40 (f := .glo "_law_due") rfl), F, FunD.bindsN F fun _ _ _ _ _ _ us hl => match us, hl with | [_, _], _ => rfl⟩
  have C__law_due : Callee P w K mg base "_law_due" ["_law_every", "_law_tells_here"] 1 R_law_due := w__law_due g_len g_sorted g_set A__law_due ln__law_due p_law_due
  have A_tests_of : DefAtD K mg "tests_of" s_tests_of ["rule"] := by
    obtain ⟨fd, F⟩ := c1.def_ 6 (d := d_tests_of) rfl
    exact ⟨_, fd, He.glo_ok X G (c1.fact 6 (f := .glo "tests_of") rfl), F, FunD.bindsN F fun _ _ _ _ _ _ us hl => match us, hl with | [_], _ => rfl⟩
  have C_tests_of : Callee P w K mg base "tests_of" ["rule"] 1 R_tests_of := w_tests_of g_list A_tests_of ln_tests_of p_tests_of
  have A_is_word : DefAtD K mg "is_word" s_is_word ["value"] := by
    obtain ⟨fd, F⟩ := c1.def_ 3 (d := d_is_word) rfl
    exact ⟨_, fd, He.glo_ok X G (c1.fact 3 (f := .glo "is_word") rfl), F, FunD.bindsN F fun _ _ _ _ _ _ us hl => match us, hl with | [_], _ => rfl⟩
  have C_is_word : Callee P w K mg base "is_word" ["value"] 1 R_is_word := w_is_word g_isinstance g_str g_len g_all c_MOST_WORD c_LETTERS A_is_word ln_is_word p_is_word
  have A_is_between : DefAtD K mg "is_between" s_is_between ["value", "low", "high"] := by
    obtain ⟨fd, F⟩ := c1.def_ 0 (d := d_is_between) rfl
    exact ⟨_, fd, He.glo_ok X G (c1.fact 0 (f := .glo "is_between") rfl), F, FunD.bindsN F fun _ _ _ _ _ _ us hl => match us, hl with | [_, _, _], _ => rfl⟩
  have C_is_between : Callee P w K mg base "is_between" ["value", "low", "high"] 1 R_is_between := w_is_between g_isinstance g_int g_bool A_is_between ln_is_between p_is_between
  have A_with_place : DefAtD K mg "with_place" s_with_place ["case", "place"] := by
    obtain ⟨fd, F⟩ := c1.def_ 15 (d := d_with_place) rfl
    exact ⟨_, fd, He.glo_ok X G (c1.fact 15 (f := .glo "with_place") rfl), F, FunD.bindsN F fun _ _ _ _ _ _ us hl => match us, hl with | [_, _], _ => rfl⟩
  have C_with_place : Callee P w K mg base "with_place" ["case", "place"] 1 R_with_place := w_with_place g_max A_with_place ln_with_place p_with_place
  have A_order_of : DefAtD K mg "order_of" s_order_of ["book"] := by
    obtain ⟨fd, F⟩ := c1.def_ 11 (d := d_order_of) rfl
    exact ⟨_, fd, He.glo_ok X G (c1.fact 11 (f := .glo "order_of") rfl), F, FunD.bindsN F fun _ _ _ _ _ _ us hl => match us, hl with | [_], _ => rfl⟩
  have C_order_of : Callee P w K mg base "order_of" ["book"] 1 R_order_of := w_order_of g_sorted g_enumerate A_order_of ln_order_of p_order_of
  have A_digits_at : DefAtD K mg "digits_at" s_digits_at ["case", "place"] := by
    obtain ⟨fd, F⟩ := c1.def_ 12 (d := d_digits_at) rfl
    exact ⟨_, fd, He.glo_ok X G (c1.fact 12 (f := .glo "digits_at") rfl), F, FunD.bindsN F fun _ _ _ _ _ _ us hl => match us, hl with | [_, _], _ => rfl⟩
  have C_digits_at : Callee P w K mg base "digits_at" ["case", "place"] 1 R_digits_at := w_digits_at c_EVERY A_digits_at ln_digits_at p_digits_at
  have A_without_place : DefAtD K mg "without_place" s_without_place ["case", "place"] := by
    obtain ⟨fd, F⟩ := c1.def_ 14 (d := d_without_place) rfl
    exact ⟨_, fd, He.glo_ok X G (c1.fact 14 (f := .glo "without_place") rfl), F, FunD.bindsN F fun _ _ _ _ _ _ us hl => match us, hl with | [_, _], _ => rfl⟩
  have C_without_place : Callee P w K mg base "without_place" ["case", "place"] 1 R_without_place := w_without_place g_min A_without_place ln_without_place p_without_place
  have A_fits : DefAtD K mg "fits" s_fits ["number", "how", "value"] := by
    obtain ⟨fd, F⟩ := c1.def_ 10 (d := d_fits) rfl
    exact ⟨_, fd, He.glo_ok X G (c1.fact 10 (f := .glo "fits") rfl), F, FunD.bindsN F fun _ _ _ _ _ _ us hl => match us, hl with | [_, _, _], _ => rfl⟩
  have C_fits : Callee P w K mg base "fits" ["number", "how", "value"] 1 R_fits := w_fits A_fits ln_fits p_fits
  have A_with_digits : DefAtD K mg "with_digits" s_with_digits ["case", "place", "digits"] := by
    obtain ⟨fd, F⟩ := c1.def_ 13 (d := d_with_digits) rfl
    exact ⟨_, fd, He.glo_ok X G (c1.fact 13 (f := .glo "with_digits") rfl), F, FunD.bindsN F fun _ _ _ _ _ _ us hl => match us, hl with | [_, _, _], _ => rfl⟩
  have C_with_digits : Callee P w K mg base "with_digits" ["case", "place", "digits"] 1 R_with_digits := w_with_digits g_tuple A_with_digits ln_with_digits p_with_digits
  have A__law_number : DefAtD K mg "_law_number" s_law_number ["_law_digit"] := by
    obtain ⟨fd, F⟩ := c1.def_ 35 (d := d_law_number) rfl
    exact ⟨_, fd, He.glo_ok X G (c1.fact 35 (f := .glo "_law_number") rfl), F, FunD.bindsN F fun _ _ _ _ _ _ us hl => match us, hl with | [_], _ => rfl⟩
  have C__law_number : Callee P w K mg base "_law_number" ["_law_digit"] 1 R_law_number := w__law_number g_list A__law_number ln__law_number p_law_number
  have A__law_choice : DefAtD K mg "_law_choice" s_law_choice ["_law_source_here", "_law_items"] := by
    obtain ⟨fd, F⟩ := c1.def_ 31 (d := d_law_choice) rfl
    exact ⟨_, fd, He.glo_ok X G (c1.fact 31 (f := .glo "_law_choice") rfl), F, FunD.bindsN F fun _ _ _ _ _ _ us hl => match us, hl with | [_, _], _ => rfl⟩
  have C__law_choice : Callee P w K mg base "_law_choice" ["_law_source_here", "_law_items"] 2 R_law_choice := w__law_choice C__law_draw g_len A__law_choice ln__law_choice p_law_choice
  have A_pairs_in : DefAtD K mg "pairs_in" s_pairs_in ["rules"] := by
    obtain ⟨fd, F⟩ := c1.def_ 7 (d := d_pairs_in) rfl
    exact ⟨_, fd, He.glo_ok X G (c1.fact 7 (f := .glo "pairs_in") rfl), F, FunD.bindsN F fun _ _ _ _ _ _ us hl => match us, hl with | [_], _ => rfl⟩
  have C_pairs_in : Callee P w K mg base "pairs_in" ["rules"] 2 R_pairs_in := w_pairs_in C_tests_of g_len g_isinstance g_tuple A_pairs_in ln_pairs_in p_pairs_in
  have A_is_where : DefAtD K mg "is_where" s_is_where ["value"] := by
    obtain ⟨fd, F⟩ := c1.def_ 1 (d := d_is_where) rfl
    exact ⟨_, fd, He.glo_ok X G (c1.fact 1 (f := .glo "is_where") rfl), F, FunD.bindsN F fun _ _ _ _ _ _ us hl => match us, hl with | [_], _ => rfl⟩
  have C_is_where : Callee P w K mg base "is_where" ["value"] 2 R_is_where := w_is_where C_is_between g_isinstance g_tuple g_len c_MOST_PLACE c_MOST_ADD A_is_where ln_is_where p_is_where
  have A_split_place : DefAtD K mg "split_place" s_split_place ["case", "place", "how", "value", "named"] := by
    obtain ⟨fd, F⟩ := c1.def_ 16 (d := d_split_place) rfl
    exact ⟨_, fd, He.glo_ok X G (c1.fact 16 (f := .glo "split_place") rfl), F, FunD.bindsN F fun _ _ _ _ _ _ us hl => match us, hl with | [_, _, _, _, _], _ => rfl⟩
  have C_split_place : Callee P w K mg base "split_place" ["case", "place", "how", "value", "named"] 2 R_split_place := w_split_place C_without_place C_with_place C_digits_at C_fits C_with_digits g_tuple A_split_place ln_split_place p_split_place
  have A__law_passes : DefAtD K mg "_law_passes" s_law_passes ["_law_test_here", "_law_file"] := by
    obtain ⟨fd, F⟩ := c1.def_ 36 (d := d_law_passes) rfl
    exact ⟨_, fd, He.glo_ok X G (c1.fact 36 (f := .glo "_law_passes") rfl), F, FunD.bindsN F fun _ _ _ _ _ _ us hl => match us, hl with | [_, _], _ => rfl⟩
  have C__law_passes : Callee P w K mg base "_law_passes" ["_law_test_here", "_law_file"] 2 R_law_passes := w__law_passes C__law_number g_isinstance g_tuple g_len A__law_passes ln__law_passes p_law_passes
  have A__law_test : DefAtD K mg "_law_test" s_law_test ["_law_source_here", "_law_most"] := by
    obtain ⟨fd, F⟩ := c1.def_ 32 (d := d_law_test) rfl
    exact ⟨_, fd, He.glo_ok X G (c1.fact 32 (f := .glo "_law_test") rfl), F, FunD.bindsN F fun _ _ _ _ _ _ us hl => match us, hl with | [_, _], _ => rfl⟩
  have C__law_test : Callee P w K mg base "_law_test" ["_law_source_here", "_law_most"] 3 R_law_test := w__law_test C__law_choice C__law_draw A__law_test ln__law_test p_law_test
  have A_is_test : DefAtD K mg "is_test" s_is_test ["value"] := by
    obtain ⟨fd, F⟩ := c1.def_ 2 (d := d_is_test) rfl
    exact ⟨_, fd, He.glo_ok X G (c1.fact 2 (f := .glo "is_test") rfl), F, FunD.bindsN F fun _ _ _ _ _ _ us hl => match us, hl with | [_], _ => rfl⟩
  have C_is_test : Callee P w K mg base "is_test" ["value"] 3 R_is_test := w_is_test C_is_where C_is_between g_isinstance g_tuple g_len g_str A_is_test ln_is_test p_is_test
  have A_split_test : DefAtD K mg "split_test" s_split_test ["case", "test", "other", "cut"] := by
    obtain ⟨fd, F⟩ := c1.def_ 17 (d := d_split_test) rfl
    exact ⟨_, fd, He.glo_ok X G (c1.fact 17 (f := .glo "split_test") rfl), F, FunD.bindsN F fun _ _ _ _ _ _ us hl => match us, hl with | [_, _, _, _], _ => rfl⟩
  have C_split_test : Callee P w K mg base "split_test" ["case", "test", "other", "cut"] 3 R_split_test := w_split_test C_without_place C_with_place C_digits_at C_with_digits C_split_place g_isinstance g_tuple A_split_test ln_split_test p_split_test
  have A__law_speaks : DefAtD K mg "_law_speaks" s_law_speaks ["_law_book_here", "_law_file"] := by
    obtain ⟨fd, F⟩ := c1.def_ 37 (d := d_law_speaks) rfl
    exact ⟨_, fd, He.glo_ok X G (c1.fact 37 (f := .glo "_law_speaks") rfl), F, FunD.bindsN F fun _ _ _ _ _ _ us hl => match us, hl with | [_, _], _ => rfl⟩
  have C__law_speaks : Callee P w K mg base "_law_speaks" ["_law_book_here", "_law_file"] 3 R_law_speaks := w__law_speaks C__law_passes g_enumerate A__law_speaks ln__law_speaks p_law_speaks
  have A__law_rule : DefAtD K mg "_law_rule" s_law_rule ["_law_source_here", "_law_most"] := by
    obtain ⟨fd, F⟩ := c1.def_ 33 (d := d_law_rule) rfl
    exact ⟨_, fd, He.glo_ok X G (c1.fact 33 (f := .glo "_law_rule") rfl), F, FunD.bindsN F fun _ _ _ _ _ _ us hl => match us, hl with | [_, _], _ => rfl⟩
  have C__law_rule : Callee P w K mg base "_law_rule" ["_law_source_here", "_law_most"] 4 R_law_rule := w__law_rule C__law_choice C__law_draw C__law_test g_tuple g_range A__law_rule ln__law_rule p_law_rule
  have A_is_part : DefAtD K mg "is_part" s_is_part ["value"] := by
    obtain ⟨fd, F⟩ := c1.def_ 4 (d := d_is_part) rfl
    exact ⟨_, fd, He.glo_ok X G (c1.fact 4 (f := .glo "is_part") rfl), F, FunD.bindsN F fun _ _ _ _ _ _ us hl => match us, hl with | [_], _ => rfl⟩
  have C_is_part : Callee P w K mg base "is_part" ["value"] 4 R_is_part := w_is_part C_is_word C_is_test g_isinstance g_tuple g_len A_is_part ln_is_part p_is_part
  have A_split_all : DefAtD K mg "split_all" s_split_all ["cases", "tests", "other", "cut"] := by
    obtain ⟨fd, F⟩ := c1.def_ 18 (d := d_split_all) rfl
    exact ⟨_, fd, He.glo_ok X G (c1.fact 18 (f := .glo "split_all") rfl), F, FunD.bindsN F fun _ _ _ _ _ _ us hl => match us, hl with | [_, _, _, _], _ => rfl⟩
  have C_split_all : Callee P w K mg base "split_all" ["cases", "tests", "other", "cut"] 4 R_split_all := w_split_all C_split_test g_list A_split_all ln_split_all p_split_all
  have A_split_parts : DefAtD K mg "split_parts" s_split_parts ["rule", "cases", "other", "cut"] := by
    obtain ⟨fd, F⟩ := c1.def_ 19 (d := d_split_parts) rfl
    exact ⟨_, fd, He.glo_ok X G (c1.fact 19 (f := .glo "split_parts") rfl), F, FunD.bindsN F fun _ _ _ _ _ _ us hl => match us, hl with | [_, _, _, _], _ => rfl⟩
  have C_split_parts : Callee P w K mg base "split_parts" ["rule", "cases", "other", "cut"] 4 R_split_parts := w_split_parts C_split_test A_split_parts ln_split_parts p_split_parts
  have A__law_tells : DefAtD K mg "_law_tells" s_law_tells ["_law_book_here", "_law_file"] := by
    obtain ⟨fd, F⟩ := c1.def_ 38 (d := d_law_tells) rfl
    exact ⟨_, fd, He.glo_ok X G (c1.fact 38 (f := .glo "_law_tells") rfl), F, FunD.bindsN F fun _ _ _ _ _ _ us hl => match us, hl with | [_, _], _ => rfl⟩
  have C__law_tells : Callee P w K mg base "_law_tells" ["_law_book_here", "_law_file"] 4 R_law_tells := w__law_tells C__law_speaks C__law_passes A__law_tells ln__law_tells p_law_tells
  have A__law_book : DefAtD K mg "_law_book" s_law_book ["_law_source_here", "_law_most"] := by
    obtain ⟨fd, F⟩ := c1.def_ 34 (d := d_law_book) rfl
    exact ⟨_, fd, He.glo_ok X G (c1.fact 34 (f := .glo "_law_book") rfl), F, FunD.bindsN F fun _ _ _ _ _ _ us hl => match us, hl with | [_, _], _ => rfl⟩
  have C__law_book : Callee P w K mg base "_law_book" ["_law_source_here", "_law_most"] 5 R_law_book := w__law_book C__law_draw C__law_rule g_tuple g_range A__law_book ln__law_book p_law_book
  have A_is_rule : DefAtD K mg "is_rule" s_is_rule ["value"] := by
    obtain ⟨fd, F⟩ := c1.def_ 5 (d := d_is_rule) rfl
    exact ⟨_, fd, He.glo_ok X G (c1.fact 5 (f := .glo "is_rule") rfl), F, FunD.bindsN F fun _ _ _ _ _ _ us hl => match us, hl with | [_], _ => rfl⟩
  have C_is_rule : Callee P w K mg base "is_rule" ["value"] 5 R_is_rule := w_is_rule C_is_word C_is_between C_is_test C_is_part g_isinstance g_tuple g_len g_all c_MOST_STRENGTH c_MOST_TESTS c_MOST_PARTS A_is_rule ln_is_rule p_is_rule
  have A_lines_from : DefAtD K mg "lines_from" s_lines_from ["book", "case", "other", "cut"] := by
    obtain ⟨fd, F⟩ := c1.def_ 20 (d := d_lines_from) rfl
    exact ⟨_, fd, He.glo_ok X G (c1.fact 20 (f := .glo "lines_from") rfl), F, FunD.bindsN F fun _ _ _ _ _ _ us hl => match us, hl with | [_, _, _, _], _ => rfl⟩
  have C_lines_from : Callee P w K mg base "lines_from" ["book", "case", "other", "cut"] 5 R_lines_from := w_lines_from C_order_of C_split_all C_split_parts A_lines_from ln_lines_from p_lines_from
  have A_is_book : DefAtD K mg "is_book" s_is_book ["value"] := by
    obtain ⟨fd, F⟩ := c1.def_ 8 (d := d_is_book) rfl
    exact ⟨_, fd, He.glo_ok X G (c1.fact 8 (f := .glo "is_book") rfl), F, FunD.bindsN F fun _ _ _ _ _ _ us hl => match us, hl with | [_], _ => rfl⟩
  have C_is_book : Callee P w K mg base "is_book" ["value"] 6 R_is_book := w_is_book C_is_rule C_pairs_in g_isinstance g_tuple g_len g_all c_MOST_RULES c_MOST_PAIRS A_is_book ln_is_book p_is_book
  have A_place_matters : DefAtD K mg "place_matters" s_place_matters ["book", "place"] := by
    obtain ⟨fd, F⟩ := c1.def_ 22 (d := d_place_matters) rfl
    exact ⟨_, fd, He.glo_ok X G (c1.fact 22 (f := .glo "place_matters") rfl), F, FunD.bindsN F fun _ _ _ _ _ _ us hl => match us, hl with | [_, _], _ => rfl⟩
  have C_place_matters : Callee P w K mg base "place_matters" ["book", "place"] 6 R_place_matters := w_place_matters C_with_place C_lines_from c_START A_place_matters ln_place_matters p_place_matters
  have A_lines_of : DefAtD K mg "lines_of" s_lines_of ["book"] := by
    obtain ⟨fd, F⟩ := c1.def_ 21 (d := d_lines_of) rfl
    exact ⟨_, fd, He.glo_ok X G (c1.fact 21 (f := .glo "lines_of") rfl), F, FunD.bindsN F fun _ _ _ _ _ _ us hl => match us, hl with | [_], _ => rfl⟩
  have C_lines_of : Callee P w K mg base "lines_of" ["book"] 6 R_lines_of := w_lines_of C_lines_from c_START A_lines_of ln_lines_of p_lines_of
  have A_length_matters : DefAtD K mg "length_matters" s_length_matters ["book", "length"] := by
    obtain ⟨fd, F⟩ := c1.def_ 27 (d := d_length_matters) rfl
    exact ⟨_, fd, He.glo_ok X G (c1.fact 27 (f := .glo "length_matters") rfl), F, FunD.bindsN F fun _ _ _ _ _ _ us hl => match us, hl with | [_, _], _ => rfl⟩
  have C_length_matters : Callee P w K mg base "length_matters" ["book", "length"] 6 R_length_matters := w_length_matters C_lines_from C_with_digits A_length_matters ln_length_matters p_length_matters
  have A_need_book : DefAtD K mg "need_book" s_need_book ["book"] := by
    obtain ⟨fd, F⟩ := c1.def_ 9 (d := d_need_book) rfl
    exact ⟨_, fd, He.glo_ok X G (c1.fact 9 (f := .glo "need_book") rfl), F, FunD.bindsN F fun _ _ _ _ _ _ us hl => match us, hl with | [_], _ => rfl⟩
  have C_need_book : Callee P w K mg base "need_book" ["book"] 7 R_need_book := w_need_book C_is_book A_need_book ln_need_book p_need_book
  have A_reads_of : DefAtD K mg "reads_of" s_reads_of ["book"] := by
    obtain ⟨fd, F⟩ := c1.def_ 23 (d := d_reads_of) rfl
    exact ⟨_, fd, He.glo_ok X G (c1.fact 23 (f := .glo "reads_of") rfl), F, FunD.bindsN F fun _ _ _ _ _ _ us hl => match us, hl with | [_], _ => rfl⟩
  have C_reads_of : Callee P w K mg base "reads_of" ["book"] 7 R_reads_of := w_reads_of C_place_matters g_range c_MOST_PLACE A_reads_of ln_reads_of p_reads_of
  have A_is_enough : DefAtD K mg "is_enough" s_is_enough ["book", "number"] := by
    obtain ⟨fd, F⟩ := c1.def_ 25 (d := d_is_enough) rfl
    exact ⟨_, fd, He.glo_ok X G (c1.fact 25 (f := .glo "is_enough") rfl), F, FunD.bindsN F fun _ _ _ _ _ _ us hl => match us, hl with | [_, _], _ => rfl⟩
  have C_is_enough : Callee P w K mg base "is_enough" ["book", "number"] 7 R_is_enough := w_is_enough C_lines_of C_lines_from A_is_enough ln_is_enough p_is_enough
  have A_reads : DefAtD K mg "reads" s_reads ["book"] := by
    obtain ⟨fd, F⟩ := c1.def_ 24 (d := d_reads) rfl
    exact ⟨_, fd, He.glo_ok X G (c1.fact 24 (f := .glo "reads") rfl), F, FunD.bindsN F fun _ _ _ _ _ _ us hl => match us, hl with | [_], _ => rfl⟩
  have C_reads : Callee P w K mg base "reads" ["book"] 8 R_reads := w_reads C_need_book C_reads_of A_reads ln_reads p_reads
  have A_enough : DefAtD K mg "enough" s_enough ["book"] := by
    obtain ⟨fd, F⟩ := c1.def_ 26 (d := d_enough) rfl
    exact ⟨_, fd, He.glo_ok X G (c1.fact 26 (f := .glo "enough") rfl), F, FunD.bindsN F fun _ _ _ _ _ _ us hl => match us, hl with | [_], _ => rfl⟩
  have C_enough : Callee P w K mg base "enough" ["book"] 8 R_enough := w_enough C_need_book C_is_enough A_enough ln_enough p_enough
  have A_lengths : DefAtD K mg "lengths" s_lengths ["book"] := by
    obtain ⟨fd, F⟩ := c1.def_ 28 (d := d_lengths) rfl
    exact ⟨_, fd, He.glo_ok X G (c1.fact 28 (f := .glo "lengths") rfl), F, FunD.bindsN F fun _ _ _ _ _ _ us hl => match us, hl with | [_], _ => rfl⟩
  have C_lengths : Callee P w K mg base "lengths" ["book"] 8 R_lengths := w_lengths C_need_book C_length_matters g_range c_MOST_PLACE A_lengths ln_lengths p_lengths
  exact w_law_k10 C__law_files C__law_source C__law_book C__law_tells C__law_due C_reads C_enough C_lengths g_range g_min g_len g_dict FL ln_law_k10 p_law_k10
end DL
open PySem PySem.W PySem.Calls PyProof.Rows
set_option maxHeartbeats 0 in
theorem PySem.Challenge.cw_filemarks_k10_places_and_lengths_that_ma_holds : PySem.Challenge.rw_filemarks_k10_places_and_lengths_that_ma.Holds := by
  refine head ?_
  refine L2.walk_ofE (l := PySem.Challenge.rw_filemarks_k10_places_and_lengths_that_ma) (n := 63) (k := 9) (x := "_law_script") (CX := L2.CX0) rfl (by decide) (by kernel_rfl) ⟨rfl, by decide, by decide⟩ ?F (fun _ _ _ _ z => z)
  intro w mg fa h Y G hmg0
  obtain ⟨K, KX, c⟩ := Y
  have hmg : mg ("law" : PySem.Str) = some (.ref fa) := by
    have e : (HandSHeadRun.topDef (OpenLaw.row PySem.Challenge.rw_filemarks_k10_places_and_lengths_that_ma).prog 59).name = ("law" : PySem.Str) := by kernel_rfl
    rw [← e]
    exact hmg0
  obtain ⟨fd, hb, hF⟩ := DL.facts (P := (PySem.Challenge.rw_filemarks_k10_places_and_lengths_that_ma).prog) (w := w) KX G hmg c
  exact ⟨K, fd, DL.spD K DL.R_law_k10, KX, hb, fun H a ns hl _ hS => ⟨H, fun _ => none, [.scr ns], fun d _ => d = .bl true, ⟨L2.Same.refl H, fun a ds e => (by cases e)⟩, .cons (.scr hS) .nil, ⟨ns, rfl, fun _ => rfl⟩, fun d M' v F' H' e g r => by
    cases e
    cases r
    rfl⟩, fun base _ _ => hF base⟩
