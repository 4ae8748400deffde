import PyProof.Rows.All
import Wide.All
import OpenK.AllK
import Wide.FinOn
import HandS.ForMost
import HandS.ForExc
import HandS.Wide
import HandS.IsInst
import HandS.CallSlots
import HandS.Defaults
import HandS.Small
import HandS.More
import HandS.Rev
import HandS.Conv
import HandS.Style
import KE.KDictList
import HandS.SortKw
import KE.DataMinMax
import KE.KStateDown
import HandS.Base
import HandS.Call
import HandS.Ends
import HandS.Words
import HandS.WordsExc
import HandS.Head0
import HandS.Head1
import HandS.Head2
import HandS.HeadEnd
import HandS.HeadHook1
import HandS.HeadHook2
import PySem.Challenge.RW_oneleash_k35_whole_papers_of_hops
set_option Elab.async false
set_option linter.all false
set_option maxRecDepth 100000
set_option maxHeartbeats 0
namespace Lw
open PySem PySem.Spec L2

/-! ## plain data, values, cells -/
inductive Dt where
  | non | bl (b : Bool) | int (i : Int) | str (x : Str)
  | tup (xs : List Dt) | lst (xs : List Dt) | scr (xs : List Dt)
  | dct (kvs : List (List Int × Dt))
  | obj (C : Addr) (fs : List (Str × Dt))
inductive Wv where
  | d (x : Dt) | c (a : Addr)
inductive MO where
  | lst (ws : List Wv) | tup (ws : List Wv) | dT (kvs : List (List Int × Wv)) | ins (C : Addr) (fs : List (Str × Wv))
abbrev Mh := Addr → Option MO
@[irreducible] def Mh.set (M : Mh) (a : Addr) (o : MO) : Mh := fun b => if b = a then some o else M b
@[irreducible] def Mh.del (M : Mh) (a : Addr) : Mh := fun b => if b = a then none else M b
theorem Mh.set_same {M : Mh} {a : Addr} {o : MO} : M.set a o a = some o := by unfold Mh.set; exact if_pos rfl
theorem Mh.set_ne {M : Mh} {a b : Addr} {o : MO} (h : b ≠ a) : M.set a o b = M b := by unfold Mh.set; exact if_neg h
theorem Mh.del_same {M : Mh} {a : Addr} : M.del a a = none := by unfold Mh.del; exact if_pos rfl
theorem Mh.del_ne {M : Mh} {a b : Addr} (h : b ≠ a) : M.del a b = M b := by unfold Mh.del; exact if_neg h
theorem Mh.set_set {M : Mh} {a : Addr} {o u : MO} : (M.set a o).set a u = M.set a u := by funext b; unfold Mh.set; split <;> rfl
theorem Mh.del_set {M : Mh} {a : Addr} {o : MO} (h : M a = none) : (M.set a o).del a = M := by
  funext b
  by_cases e : b = a
  · rw [e, Mh.del_same, h]
  · rw [Mh.del_ne e, Mh.set_ne e]
theorem Mh.set_self {M : Mh} {a : Addr} {o : MO} (h : M a = some o) : M.set a o = M := by
  funext b; unfold Mh.set; split
  · rename_i e; rw [e, h]
  · rfl
/-- M' has all of M's cells as they are -/
def Sub (M M' : Mh) : Prop := ∀ a o, M a = some o → M' a = some o
theorem Sub.refl (M : Mh) : Sub M M := fun _ _ h => h
theorem Sub.trans {M M1 M2 : Mh} (a : Sub M M1) (b : Sub M1 M2) : Sub M M2 := fun c o h => b c o (a c o h)
theorem Sub.set {M : Mh} {a : Addr} {o : MO} (h : M a = none) : Sub M (M.set a o) := fun b u e => by
  have : b ≠ a := by intro z; rw [z, h] at e; cases e
  rw [Mh.set_ne this]; exact e
theorem Sub.none {M M' : Mh} (s : Sub M M') {a : Addr} (h : M' a = none) : M a = none := by
  cases e : M a with
  | none => rfl
  | some o => rw [s a o e] at h; cases h

abbrev Ext (F F' : Hp) : Prop := Same F F'

mutual
inductive Rp (F : Hp) : V → Dt → Prop
  | non : Rp F .non .non
  | bl (b : Bool) : Rp F (.bl b) (.bl b)
  | int (i : Int) : Rp F (.int i) (.int i)
  | str (x : Str) : Rp F (.str x) (.str x)
  | tup {a : Addr} {vs : List V} {ds : List Dt} : F a = some (.tup vs) → RpL F vs ds → Rp F (.ref a) (.tup ds)
  | lst {a : Addr} {vs : List V} {ds : List Dt} : F a = some (.lst vs) → RpL F vs ds → Rp F (.ref a) (.lst ds)
  | scr {a : Addr} {o : Obj} {vs : List V} {ds : List Dt} : F a = some (.frz o (.lst vs)) → RpL F vs ds → Rp F (.ref a) (.scr ds)
  | dct {a : Addr} {kvs : List (List Key × V)} {ds : List (List Int × Dt)} : F a = some (.dT kvs) → RpK F kvs ds → Rp F (.ref a) (.dct ds)
  | obj {a C dx : Addr} {fs : List (Str × V)} {ds : List (Str × Dt)} : F a = some (.ins C dx fs) → RpF F fs ds → Rp F (.ref a) (.obj C ds)
inductive RpL (F : Hp) : List V → List Dt → Prop
  | nil : RpL F [] []
  | cons {v : V} {vs : List V} {d : Dt} {ds : List Dt} : Rp F v d → RpL F vs ds → RpL F (v :: vs) (d :: ds)
inductive RpK (F : Hp) : List (List Key × V) → List (List Int × Dt) → Prop
  | nil : RpK F [] []
  | cons {k : List Int} {v : V} {vs : List (List Key × V)} {d : Dt} {ds : List (List Int × Dt)} : Rp F v d → RpK F vs ds → RpK F ((k.map Sum.inl, v) :: vs) ((k, d) :: ds)
inductive RpF (F : Hp) : List (Str × V) → List (Str × Dt) → Prop
  | nil : RpF F [] []
  | cons {k : Str} {v : V} {vs : List (Str × V)} {d : Dt} {ds : List (Str × Dt)} : Rp F v d → RpF F vs ds → RpF F ((k, v) :: vs) ((k, d) :: ds)
end

theorem Ext.rd {F F' : Hp} (x : Ext F F') {a : Addr} {u : HO} (h : Rd F a u) : Rd F' a u := by
  rcases h with h | ⟨o, h⟩
  · exact .inl (x _ _ h)
  · exact .inr ⟨o, x _ _ h⟩
mutual
theorem Rp.mono {F F' : Hp} (x : Ext F F') : ∀ {v : V} {d : Dt}, Rp F v d → Rp F' v d
  | _, _, .non => .non
  | _, _, .bl b => .bl b
  | _, _, .int i => .int i
  | _, _, .str z => .str z
  | _, _, .tup h l => .tup (x _ _ h) (RpL.mono x l)
  | _, _, .lst h l => .lst (x _ _ h) (RpL.mono x l)
  | _, _, .scr h l => .scr (x _ _ h) (RpL.mono x l)
  | _, _, .dct h l => .dct (x _ _ h) (RpK.mono x l)
  | _, _, .obj h l => .obj (x _ _ h) (RpF.mono x l)
theorem RpL.mono {F F' : Hp} (x : Ext F F') : ∀ {vs : List V} {ds : List Dt}, RpL F vs ds → RpL F' vs ds
  | _, _, .nil => .nil
  | _, _, .cons h t => .cons (Rp.mono x h) (RpL.mono x t)
theorem RpK.mono {F F' : Hp} (x : Ext F F') : ∀ {vs : List (List Key × V)} {ds : List (List Int × Dt)}, RpK F vs ds → RpK F' vs ds
  | _, _, .nil => .nil
  | _, _, .cons h t => .cons (Rp.mono x h) (RpK.mono x t)
theorem RpF.mono {F F' : Hp} (x : Ext F F') : ∀ {vs : List (Str × V)} {ds : List (Str × Dt)}, RpF F vs ds → RpF F' vs ds
  | _, _, .nil => .nil
  | _, _, .cons h t => .cons (Rp.mono x h) (RpF.mono x t)
end

def RpW (F : Hp) (v : V) : Wv → Prop
  | .d x => Rp F v x
  | .c a => v = .ref a
theorem RpW.mono {F F' : Hp} (x : Ext F F') {v : V} : ∀ {w : Wv}, RpW F v w → RpW F' v w
  | .d _, h => Rp.mono x h
  | .c _, h => h
abbrev RpWs (F : Hp) : List V → List Wv → Prop := Paired (RpW F)
theorem RpWs.mono {F F' : Hp} (x : Ext F F') {vs : List V} {ws : List Wv} (h : RpWs F vs ws) : RpWs F' vs ws := Paired.mapP h fun _ _ => RpW.mono x
abbrev RpWK (F : Hp) : List (List Key × V) → List (List Int × Wv) → Prop := Paired fun p q => p.1 = q.1.map Sum.inl ∧ RpW F p.2 q.2
theorem RpWK.mono {F F' : Hp} (x : Ext F F') {vs : List (List Key × V)} {ws : List (List Int × Wv)} (h : RpWK F vs ws) : RpWK F' vs ws := Paired.mapP h fun _ _ q => ⟨q.1, RpW.mono x q.2⟩
abbrev RpWF (F : Hp) : List (Str × V) → List (Str × Wv) → Prop := Paired fun p q => p.1 = q.1 ∧ RpW F p.2 q.2
theorem RpWF.mono {F F' : Hp} (x : Ext F F') {vs : List (Str × V)} {ws : List (Str × Wv)} (h : RpWF F vs ws) : RpWF F' vs ws := Paired.mapP h fun _ _ q => ⟨q.1, RpW.mono x q.2⟩
theorem RpL.ws {F : Hp} : ∀ {vs : List V} {ds : List Dt}, RpL F vs ds → RpWs F vs (ds.map .d)
  | _, _, .nil => .nil
  | _, _, .cons h t => .cons h (RpL.ws t)
theorem RpWs.ds {F : Hp} : ∀ {vs : List V} {ds : List Dt}, RpWs F vs (ds.map .d) → RpL F vs ds
  | [], [], _ => .nil
  | _ :: _, _ :: _, .cons h t => .cons h (RpWs.ds t)

/-- a cell's object in the concrete heap -/
def MoOk (F H : Hp) (a : Addr) : MO → Prop
  | .lst ws => ∃ vs, H a = some (.lst vs) ∧ RpWs F vs ws
  | .tup ws => ∃ vs, H a = some (.tup vs) ∧ RpWs F vs ws
  | .dT ws => ∃ vs, H a = some (.dT vs) ∧ RpWK F vs ws
  | .ins C ws => ∃ dx vs, H a = some (.ins C dx vs) ∧ RpWF F vs ws
theorem MoOk.mono {F F' H : Hp} (x : Ext F F') {a : Addr} : ∀ {o : MO}, MoOk F H a o → MoOk F' H a o
  | .lst _, ⟨vs, h, r⟩ => ⟨vs, h, RpWs.mono x r⟩
  | .tup _, ⟨vs, h, r⟩ => ⟨vs, h, RpWs.mono x r⟩
  | .dT _, ⟨vs, h, r⟩ => ⟨vs, h, RpWK.mono x r⟩
  | .ins _ _, ⟨dx, vs, h, r⟩ => ⟨dx, vs, h, RpWF.mono x r⟩
theorem MoOk.heap {F H H' : Hp} {a : Addr} (e : H' a = H a) : ∀ {o : MO}, MoOk F H a o → MoOk F H' a o
  | .lst _, ⟨vs, h, r⟩ => ⟨vs, e.trans h, r⟩
  | .tup _, ⟨vs, h, r⟩ => ⟨vs, e.trans h, r⟩
  | .dT _, ⟨vs, h, r⟩ => ⟨vs, e.trans h, r⟩
  | .ins _ _, ⟨dx, vs, h, r⟩ => ⟨dx, vs, e.trans h, r⟩
theorem MoOk.some {F H : Hp} {a : Addr} : ∀ {o : MO}, MoOk F H a o → ∃ u, H a = some u
  | .lst _, ⟨_, h, _⟩ => ⟨_, h⟩
  | .tup _, ⟨_, h, _⟩ => ⟨_, h⟩
  | .dT _, ⟨_, h, _⟩ => ⟨_, h⟩
  | .ins _ _, ⟨_, _, h, _⟩ => ⟨_, h⟩

structure Rel (F : Hp) (M : Mh) (H : Hp) : Prop where
  fz : Same F H
  mu : ∀ a o, M a = some o → F a = none ∧ MoOk F H a o
theorem Rel.noM {F H : Hp} {M : Mh} (r : Rel F M H) {a : Addr} (h : H a = none) : M a = none := by
  cases e : M a with
  | none => rfl
  | some o =>
    obtain ⟨u, q⟩ := (r.mu a o e).2.some
    rw [h] at q; cases q
theorem Rel.noF {F H : Hp} {M : Mh} (r : Rel F M H) {a : Addr} (h : H a = none) : F a = none := r.fz.free h
theorem Rel.sub {F H : Hp} {M M' : Mh} (r : Rel F M H) (s : Sub M' M) : Rel F M' H := ⟨r.fz, fun a o e => r.mu a o (s a o e)⟩
/-- a new object: frozen -/
theorem Rel.newF {F H : Hp} {M : Mh} (r : Rel F M H) {p : Addr} {o : HO} (h : H p = none) : Rel (upd F p o) M (upd H p o) ∧ Ext F (upd F p o) := by
  have hx : Ext F (upd F p o) := fun b u e => by rw [upd_ne (ne_of_none e (r.noF h))]; exact e
  refine ⟨⟨fun b u e => ?_, fun a m e => ?_⟩, hx⟩
  · by_cases hb : b = p
    · subst hb; rw [upd_same] at e ⊢; exact e
    · rw [upd_ne hb] at e ⊢; exact r.fz b u e
  · obtain ⟨f, q⟩ := r.mu a m e
    have ne : a ≠ p := by intro z; rw [z, r.noM h] at e; cases e
    exact ⟨by rw [upd_ne ne]; exact f, (q.heap (upd_ne ne)).mono hx⟩
/-- a new object: a cell -/
theorem Rel.newM {F H : Hp} {M : Mh} (r : Rel F M H) {p : Addr} {o : HO} {m : MO} (h : H p = none) (k : MoOk F (upd H p o) p m) : Rel F (M.set p m) (upd H p o) := by
  refine ⟨fun b u e => ?_, fun a m' e => ?_⟩
  · rw [upd_ne (ne_of_none (r.fz b u e) h)]; exact r.fz b u e
  · by_cases ha : a = p
    · subst ha; rw [Mh.set_same] at e; cases e; exact ⟨r.noF h, k⟩
    · rw [Mh.set_ne ha] at e
      obtain ⟨f, q⟩ := r.mu a m' e
      exact ⟨f, q.heap (upd_ne ha)⟩
/-- a cell is written -/
theorem Rel.wrM {F H : Hp} {M : Mh} (r : Rel F M H) {p : Addr} {o : HO} {m m' : MO} (e : M p = some m) (k : MoOk F (upd H p o) p m') : Rel F (M.set p m') (upd H p o) := by
  obtain ⟨f, _⟩ := r.mu p m e
  refine ⟨fun b u q => ?_, fun a m2 q => ?_⟩
  · rw [upd_ne (ne_of_none q f)]; exact r.fz b u q
  · by_cases ha : a = p
    · subst ha; rw [Mh.set_same] at q; cases q; exact ⟨f, k⟩
    · rw [Mh.set_ne ha] at q
      obtain ⟨f2, q2⟩ := r.mu a m2 q
      exact ⟨f2, q2.heap (upd_ne ha)⟩
/-- a cell is frozen -/
theorem Rel.frz {F H : Hp} {M : Mh} (r : Rel F M H) {p : Addr} {o : HO} {m : MO} (e : M p = some m) (h : H p = some o) : Rel (upd F p o) (M.del p) H ∧ Ext F (upd F p o) := by
  obtain ⟨f, _⟩ := r.mu p m e
  have hx : Ext F (upd F p o) := fun b u q => by rw [upd_ne (ne_of_none q f)]; exact q
  refine ⟨⟨fun b u q => ?_, fun a m2 q => ?_⟩, hx⟩
  · by_cases hb : b = p
    · subst hb; rw [upd_same] at q; rw [h]; exact q
    · rw [upd_ne hb] at q; exact r.fz b u q
  · by_cases ha : a = p
    · subst ha; rw [Mh.del_same] at q; cases q
    · rw [Mh.del_ne ha] at q
      obtain ⟨f2, q2⟩ := r.mu a m2 q
      exact ⟨by rw [upd_ne ha]; exact f2, q2.mono hx⟩

abbrev Rho := List (Option Wv)
structure SlOk (F : Hp) (σ : St) (ρ : Rho) : Prop where
  len : ρ.length = σ.length
  at_ : ∀ (i : Nat) (w : Wv), ρ[i]? = some (some w) → ∃ v : V, σ[i]? = some (some v) ∧ RpW F v w
theorem SlOk.mono {F F' : Hp} (x : Ext F F') {σ : St} {ρ : Rho} (h : SlOk F σ ρ) : SlOk F' σ ρ := ⟨h.len, fun i w e => let ⟨v, a, b⟩ := h.at_ i w e; ⟨v, a, RpW.mono x b⟩⟩
theorem SlOk.set {F : Hp} {σ : St} {ρ : Rho} (h : SlOk F σ ρ) {v : V} {w : Wv} (i : Nat) (r : RpW F v w) : SlOk F (σ.set i (some v)) (ρ.set i (some w)) := by
  refine ⟨by simpa using h.len, fun j u e => ?_⟩
  by_cases hj : i = j
  · subst hj
    have hl : i < ρ.length := by
      have := (List.getElem?_eq_some_iff.mp e).1
      simpa using this
    rw [List.getElem?_set_self hl] at e
    cases e
    exact ⟨v, by rw [List.getElem?_set_self (h.len ▸ hl)], r⟩
  · rw [List.getElem?_set_ne hj] at e
    obtain ⟨v', a, b⟩ := h.at_ j u e
    exact ⟨v', by rw [List.getElem?_set_ne hj]; exact a, b⟩
theorem SlOk.unset {F : Hp} {σ : St} {ρ : Rho} (h : SlOk F σ ρ) (i : Nat) : SlOk F (σ.set i none) (ρ.set i none) := by
  refine ⟨by simpa using h.len, fun j u e => ?_⟩
  by_cases hj : i = j
  · subst hj
    have hl : i < ρ.length := by
      have := (List.getElem?_eq_some_iff.mp e).1
      simpa using this
    rw [List.getElem?_set_self hl] at e
    cases e
  · rw [List.getElem?_set_ne hj] at e
    obtain ⟨v', a, b⟩ := h.at_ j u e
    exact ⟨v', by rw [List.getElem?_set_ne hj]; exact a, b⟩

/-! ## canonical readings -/
abbrev EW := Addr → Mh → Prop
abbrev WG (β : Type) := Rho → Mh → (β → Mh → Prop) → EW → Prop
abbrev WE := WG Wv
abbrev WT := WG Bool
abbrev WA := WG (List Wv)
section
variable {α α' β β' : Type}
def canAt (R : Hp → α → β → Prop) (W : WX) (F : Hp) (w : WG β) : St → Hp → (α → Hp → Prop) → Prop := fun σ H Q => ∃ ρ M Qw Ew, Rel F M H ∧ SlOk F σ ρ ∧ w ρ M Qw Ew ∧
  (∀ v H' F' x M', Ext F F' → Rel F' M' H' → R F' v x → Qw x M' → Q v H') ∧ (∀ C H' F' M', Ext F F' → Rel F' M' H' → Ew C M' → W (.ref C) none σ H')
def can (R : Hp → α → β → Prop) (W : WX) (w : WG β) : St → Hp → (α → Hp → Prop) → Prop := fun σ H Q => ∃ F, canAt R W F w σ H Q
theorem canAt.mono {R : Hp → α → β → Prop} {W : WX} {F : Hp} {w : WG β} {σ : St} {H : Hp} {Q Q' : α → Hp → Prop} (h : canAt R W F w σ H Q) (k : ∀ v H', Q v H' → Q' v H') : canAt R W F w σ H Q' := by
  obtain ⟨ρ, M, Qw, Ew, r, s, h, q, e⟩ := h
  exact ⟨ρ, M, Qw, Ew, r, s, h, fun v H' F' x M' a b c d => k _ _ (q v H' F' x M' a b c d), e⟩
def wBind {β β' : Type} (w : WG β) (k : β → WG β') : WG β' := fun ρ M Q E => w ρ M (fun x M1 => k x ρ M1 Q E) E
theorem canAt.seq {R : Hp → α → β → Prop} {R' : Hp → α' → β' → Prop} {W : WX} {F : Hp} {w : WG β} {k : β → WG β'} {σ : St} {H : Hp} {Q : α' → Hp → Prop} (h : canAt R' W F (wBind w k) σ H Q) :
    canAt R W F w σ H (fun v H1 => ∃ F' x, Ext F F' ∧ R F' v x ∧ canAt R' W F' (k x) σ H1 Q) := by
  obtain ⟨ρ, M, Qw, Ew, r, s, h, q, e⟩ := h
  refine ⟨ρ, M, fun x M1 => k x ρ M1 Qw Ew, Ew, r, s, h, fun v H' F' x M' a b c d => ⟨F', x, a, c, ρ, M', Qw, Ew, b, s.mono a, d, ?_, ?_⟩, e⟩
  · exact fun v2 H2 F2 x2 M2 a2 b2 c2 d2 => q v2 H2 F2 x2 M2 (Same.trans a a2) b2 c2 d2
  · exact fun C H2 F2 M2 a2 b2 d2 => e C H2 F2 M2 (Same.trans a a2) b2 d2
/-- the end of a chain: the wish itself -/
theorem canAt.ret {R : Hp → α → β → Prop} {W : WX} {F : Hp} {x : β} {σ : St} {H : Hp} {Q : α → Hp → Prop} {v : α} (h : canAt R W F (fun _ M Q _ => Q x M) σ H Q) (r : R F v x) : Q v H := by
  obtain ⟨ρ, M, Qw, Ew, r', s, h, q, e⟩ := h
  exact q v H F x M (Same.refl F) r' r h
end
def RB (_ : Hp) (a b : Bool) : Prop := a = b
def RO (_ : Hp) (a b : Option Int) : Prop := a = b
abbrev PEw (X : Cx) (W : WX) (e : Expr) (w : WE) : Prop := PE X e (can RpW W w)
abbrev PTw (X : Cx) (W : WX) (e : Expr) (w : WT) : Prop := PT X e (can RB W w)
abbrev PWw (X : Cx) (W : WX) (e : Expr) (w : WT) : Prop := PW X e (can RB W w)
abbrev PAw (X : Cx) (W : WX) (e : List Expr) (w : WA) : Prop := PA X e (can RpWs W w)
theorem PE.imp {X : Cx} {e : Expr} {t t' : TE} (h : PE X e t) (k : ∀ σ H Q, t' σ H Q → t σ H Q) : PE X e t' := ⟨fun pins s σ H Q I z => h.run pins s σ H Q I (k σ H Q z)⟩
theorem PT.imp {X : Cx} {e : Expr} {t t' : TT} (h : PT X e t) (k : ∀ σ H Q, t' σ H Q → t σ H Q) : PT X e t' := ⟨fun pins s σ H Q I z => h.run pins s σ H Q I (k σ H Q z)⟩
theorem PW.imp {X : Cx} {e : Expr} {t t' : TT} (h : PW X e t) (k : ∀ σ H Q, t' σ H Q → t σ H Q) : PW X e t' := ⟨fun wh pins s σ H Q I z => h.run wh pins s σ H Q I (k σ H Q z)⟩
theorem PA.imp {X : Cx} {e : List Expr} {t t' : TA} (h : PA X e t) (k : ∀ σ H Q, t' σ H Q → t σ H Q) : PA X e t' := ⟨fun po pins s σ H Q I z => h.run po pins s σ H Q I (k σ H Q z)⟩
end Lw

namespace Lw
open PySem PySem.Spec L2

/-! ## expressions -/
def bch (c : Bool) (A B : Prop) : Prop := match c with | true => A | false => B
theorem bch_true {A B : Prop} : bch true A B = A := rfl
theorem bch_false {A B : Prop} : bch false A B = B := rfl
theorem bch_iff {c : Bool} {A B : Prop} : bch c A B ↔ ((c = true → A) ∧ (c = false → B)) := by cases c <;> simp [bch]
theorem bch_dec {p : Prop} [Decidable p] {A B : Prop} : bch (decide p) A B ↔ ((p → A) ∧ (¬p → B)) := by
  by_cases h : p <;> simp [h, bch]
theorem bch_not {c : Bool} {A B : Prop} : bch (!c) A B = bch c B A := by cases c <;> rfl

def wV (i : Nat) : WE := fun ρ M Q _ => match ρ[i]? with | some (some w) => Q w M | _ => False
def wC (d : Dt) : WE := fun _ M Q _ => Q (.d d) M
abbrev W2 := Wv → Wv → Mh → (Wv → Mh → Prop) → Prop
abbrev W1 := Wv → Mh → (Wv → Mh → Prop) → Prop
abbrev WC := List Wv → Mh → (Wv → Mh → Prop) → Prop
def wOp (r : W2) (a b : WE) : WE := fun ρ M Q E => a ρ M (fun x M1 => b ρ M1 (fun y M2 => r x y M2 Q) E) E
def wUn (r : W1) (a : WE) : WE := fun ρ M Q E => a ρ M (fun x M1 => r x M1 Q) E
def wNil : WA := fun _ M Q _ => Q [] M
def wCons (a : WE) (t : WA) : WA := fun ρ M Q E => a ρ M (fun x M1 => t ρ M1 (fun xs M2 => Q (x :: xs) M2) E) E
def wCB (r : WC) (t : WA) : WE := fun ρ M Q E => t ρ M (fun xs M1 => r xs M1 Q) E

section
variable {X : Cx} {W : WX} {a b c : Expr} {wa wb wc : WE} {pos : Pos}
theorem pew_var {i : Nat} {x : Str} (hN : X.N[i]? = some x := by rfl) (hv : Vis X.env.scope x := by first | exact Or.inl rfl | exact Or.inr (Or.inl rfl) | exact Or.inr (Or.inr rfl)) (hd : (x == ("__debug__" : Str)) = false := by decide)
    (hcd : (x == ("__classdict__" : Str)) = false := by decide) : PEw X W (.Name x pos) (wV i) := by
  refine PE.imp (pe_var hN hv hd hcd) fun σ H Q h => ?_
  obtain ⟨F, ρ, M, Qw, Ew, r, s, h, q, e⟩ := h
  unfold wV at h
  split at h
  · rename_i w he
    obtain ⟨v, e1, e2⟩ := s.at_ i w he
    exact ⟨v, e1, q v H F w M (Same.refl F) r e2 h⟩
  · exact h.elim
theorem pew_c {e : Expr} {v : V} {d : Dt} (h : PE X e (tC v)) (r : ∀ F, Rp F v d) : PEw X W e (wC d) := by
  refine PE.imp h fun σ H Q h => ?_
  obtain ⟨F, ρ, M, Qw, Ew, r', s, h, q, e⟩ := h
  exact q v H F (.d d) M (Same.refl F) r' (r F) h
theorem pew_int {i : Int} {j} : PEw X W (.Constant (.int i) j pos) (wC (.int i)) := pew_c pe_int fun _ => .int i
theorem pew_bl {b : Bool} {j} : PEw X W (.Constant (.bool b) j pos) (wC (.bl b)) := pew_c pe_bl fun _ => .bl b
theorem pew_non {j} : PEw X W (.Constant .none j pos) (wC .non) := pew_c pe_non fun _ => .non
theorem pew_str {x : Str} {j} : PEw X W (.Constant (.str x) j pos) (wC (.str x)) := pew_c pe_str fun _ => .str x
/-- a module's int or text -/
theorem pew_gint {x : Str} {i : Int} (hg : Gl X x) (hm : ∃ t, X.mg x = some (.int i t)) (hd : (x == ("__debug__" : Str)) = false := by decide) : PEw X W (.Name x pos) (wC (.int i)) := by
  obtain ⟨t, hm⟩ := hm
  exact pew_c (pe_glob (v := .int i) hg hm ⟨t, rfl⟩ hd) fun _ => .int i
theorem pew_gstr {x : Str} {z : Str} (hg : Gl X x) (hm : ∃ t, X.mg x = some (.str z t)) (hd : (x == ("__debug__" : Str)) = false := by decide) : PEw X W (.Name x pos) (wC (.str z)) := by
  obtain ⟨t, hm⟩ := hm
  exact pew_c (pe_glob (v := .str z) hg hm ⟨t, rfl⟩ hd) fun _ => .str z

/-! ### operators by values -/
def Ab2 (r : R2) (wr : W2) : Prop := ∀ F M H x y wx wy Qw Q, Rel F M H → RpW F x wx → RpW F y wy → wr wx wy M Qw → (∀ v H' F' z M', Ext F F' → Rel F' M' H' → RpW F' v z → Qw z M' → Q v H') → r x y H Q
def Ab1 (r : V → Hp → VK → Prop) (wr : W1) : Prop := ∀ F M H x wx Qw Q, Rel F M H → RpW F x wx → wr wx M Qw → (∀ v H' F' z M', Ext F F' → Rel F' M' H' → RpW F' v z → Qw z M' → Q v H') → r x H Q
def AbC (r : List V → Hp → VK → Prop) (wr : WC) : Prop := ∀ F M H xs ws Qw Q, Rel F M H → RpWs F xs ws → wr ws M Qw → (∀ v H' F' z M', Ext F F' → Rel F' M' H' → RpW F' v z → Qw z M' → Q v H') → r xs H Q
/-- .. two canonical readings in a row -/
theorem can2 {σ : St} {H : Hp} {Q : VK} {r : R2} {wr : W2} (ab : Ab2 r wr) (h : can RpW W (wOp wr wa wb) σ H Q) : can RpW W wa σ H (fun x H1 => can RpW W wb σ H1 (fun y H2 => r x y H2 Q)) := by
  obtain ⟨F, h⟩ := h
  have h1 := canAt.seq (R := RpW) (w := wa) (k := fun x => fun ρ M Q E => wb ρ M (fun y M2 => wr x y M2 Q) E) h
  refine ⟨F, h1.mono fun x H1 ⟨F1, wx, x1, rx, h2⟩ => ⟨F1, ?_⟩⟩
  have h3 := canAt.seq (R := RpW) (w := wb) (k := fun y => fun ρ M Q E => wr wx y M Q) h2
  refine h3.mono fun y H2 ⟨F2, wy, x2, ry, h4⟩ => ?_
  obtain ⟨ρ, M, Qw, Ew, r', s, h, q, e⟩ := h4
  exact ab F2 M H2 x y wx wy Qw Q r' (RpW.mono x2 rx) ry h q
theorem can1 {σ : St} {H : Hp} {Q : VK} {r : V → Hp → VK → Prop} {wr : W1} (ab : Ab1 r wr) (h : can RpW W (wUn wr wa) σ H Q) : can RpW W wa σ H (fun x H1 => r x H1 Q) := by
  obtain ⟨F, h⟩ := h
  have h1 := canAt.seq (R := RpW) (w := wa) (k := fun x => fun ρ M Q E => wr x M Q) h
  refine ⟨F, h1.mono fun x H1 ⟨F1, wx, x1, rx, h2⟩ => ?_⟩
  obtain ⟨ρ, M, Qw, Ew, r', s, h, q, e⟩ := h2
  exact ab F1 M H1 x wx Qw Q r' rx h q
theorem pew_op {op : Operator} {r : R2} {wr : W2} (ho : OpR X (binaryOp op) r) (ab : Ab2 r wr) (ha : PEw X W a wa) (hb : PEw X W b wb) : PEw X W (.BinOp a op b pos) (wOp wr wa wb) :=
  PE.imp (pe_op ho ha hb) fun _ _ _ h => can2 ab h
theorem pew_un {op : UnaryOp} {r : V → Hp → VK → Prop} {wr : W1} (ho : UnR X (unaryOp op) r) (ab : Ab1 r wr) (ha : PEw X W a wa) : PEw X W (.UnaryOp op a pos) (wUn wr wa) :=
  PE.imp (pe_un ho ha) fun _ _ _ h => can1 ab h
theorem pew_cmp {op : CmpOp} {r : R2} {wr : W2} (ho : OpR X (compareOp op) r) (ab : Ab2 r wr) (hm : behindInMarks op b = false) (ha : PEw X W a wa) (hb : PEw X W b wb) : PEw X W (.Compare a [op] [b] pos) (wOp wr wa wb) :=
  PE.imp (pe_cmpR ho ha hb hm) fun _ _ _ h => can2 ab h
def wTest (e : WE) : WT := fun ρ M Q E => e ρ M (fun x M1 => match x with | .d (.bl k) => Q k M1 | _ => False) E
theorem can_test {σ : St} {H : Hp} {Q : Bool → Hp → Prop} (h : can RB W (wTest wa) σ H Q) : can RpW W wa σ H (fun x H1 => ∃ k, x = .bl k ∧ Q k H1) := by
  obtain ⟨F, h⟩ := h
  have h1 := canAt.seq (R := RpW) (w := wa) (k := fun x => fun ρ M (Q : Bool → Mh → Prop) E => match x with | .d (.bl k) => Q k M | _ => False) h
  refine ⟨F, h1.mono fun x H1 ⟨F1, wx, x1, rx, h2⟩ => ?_⟩
  obtain ⟨ρ, M, Qw, Ew, r', s, h, q, e⟩ := h2
  split at h
  · rename_i k
    cases rx
    exact ⟨k, rfl, q k H1 F1 k M (Same.refl F1) r' rfl h⟩
  · exact h.elim
theorem ptw_cmp {op : CmpOp} {r : R2} {wr : W2} (ho : OpR X (compareOp op) r) (ab : Ab2 r wr) (hm : behindInMarks op b = false) (ha : PEw X W a wa) (hb : PEw X W b wb) : PTw X W (.Compare a [op] [b] pos) (wTest (wOp wr wa wb)) := by
  refine PT.imp (pt_cmpR ho ha hb hm) fun σ H Q h => ?_
  have h1 := can_test h
  exact can2 (r := fun x y H Q => r x y H Q) ab h1
theorem ptw_val {e : Expr} {w : WE} (h : PEw X W e w) (he : ∀ whole, isTrue e X.env whole = (do let v ← whole; standAt e.pos; holding [v] (truthy v)) := by intro _; rfl) : PTw X W e (wTest w) :=
  PT.imp (pt_val h he) fun _ _ _ h => can_test h

/-! ### chains -/
def wChain (r r' : W2) (a b c : WE) : WE := fun ρ M Q E => a ρ M (fun x M1 => b ρ M1 (fun y M2 => r x y M2 (fun z M3 => match z with | .d (.bl k) => bch k (c ρ M3 (fun w M4 => r' y w M4 Q) E) (Q (.d (.bl false)) M3) | _ => False)) E) E
theorem can_chain {σ : St} {H : Hp} {Q : VK} {r r' : R2} {wr wr' : W2} (ab : Ab2 r wr) (ab' : Ab2 r' wr') (h : can RpW W (wChain wr wr' wa wb wc) σ H Q) : tChain r r' (can RpW W wa) (can RpW W wb) (can RpW W wc) σ H Q := by
  obtain ⟨F, h⟩ := h
  have h1 := canAt.seq (R := RpW) (w := wa) (k := fun x => fun ρ M Q E => wb ρ M (fun y M2 => wr x y M2 (fun z M3 => match z with | .d (.bl k) => bch k (wc ρ M3 (fun w M4 => wr' y w M4 Q) E) (Q (.d (.bl false)) M3) | _ => False)) E) h
  refine ⟨F, h1.mono fun x H1 ⟨F1, wx, x1, rx, h2⟩ => ⟨F1, ?_⟩⟩
  have h3 := canAt.seq (R := RpW) (w := wb) (k := fun y => fun ρ M Q E => wr wx y M (fun z M3 => match z with | .d (.bl k) => bch k (wc ρ M3 (fun w M4 => wr' y w M4 Q) E) (Q (.d (.bl false)) M3) | _ => False)) h2
  refine h3.mono fun y H2 ⟨F2, wy, x2, ry, h4⟩ => ?_
  obtain ⟨ρ, M, Qw, Ew, r', s, h, q, e⟩ := h4
  refine ab F2 M H2 x y wx wy _ _ r' (RpW.mono x2 rx) ry h fun v H3 F3 z M3 x3 r3 rz h5 => ?_
  split at h5
  · rename_i k
    cases rz
    refine ⟨k, rfl, ?_⟩
    cases k with
    | false => exact iteF (q _ H3 F3 (.d (.bl false)) M3 x3 r3 (Rp.bl false) h5)
    | true =>
      refine iteT ⟨F3, ?_⟩
      have h6 : canAt RpW W F3 (fun ρ M Q E => wc ρ M (fun w M4 => wr' wy w M4 Q) E) σ H3 Q := ⟨ρ, M3, Qw, Ew, r3, s.mono x3, h5, fun v H' F' x M' a b c d => q v H' F' x M' (Same.trans x3 a) b c d, fun C H' F' M' a b d => e C H' F' M' (Same.trans x3 a) b d⟩
      have h7 := canAt.seq (R := RpW) (w := wc) (k := fun w => fun ρ M Q E => wr' wy w M Q) h6
      refine h7.mono fun w H4 ⟨F4, ww, x4, rw4, h8⟩ => ?_
      obtain ⟨ρ8, M8, Qw8, Ew8, r8, s8, h8, q8, e8⟩ := h8
      exact ab' F4 M8 H4 y w wy ww Qw8 Q r8 (RpW.mono (Same.trans x3 x4) ry) rw4 h8 q8
  · exact h5.elim
theorem pew_chain {op op' : CmpOp} {r r' : R2} {wr wr' : W2} (ho : OpR X (compareOp op) r) (ab : Ab2 r wr) (ho' : OpR X (compareOp op') r') (ab' : Ab2 r' wr') (ha : PEw X W a wa) (hb : PEw X W b wb) (hc : PEw X W c wc)
    (hm : lastMarks [op, op'] [b, c] = false := by with_unfolding_all rfl) : PEw X W (.Compare a [op, op'] [b, c] pos) (wChain wr wr' wa wb wc) :=
  PE.imp (pe_chain ho ho' ha hb hc hm) fun _ _ _ h => can_chain ab ab' h
theorem ptw_chain {op op' : CmpOp} {r r' : R2} {wr wr' : W2} (ho : OpR X (compareOp op) r) (ab : Ab2 r wr) (ho' : OpR X (compareOp op') r') (ab' : Ab2 r' wr') (ha : PEw X W a wa) (hb : PEw X W b wb) (hc : PEw X W c wc)
    (hm : lastMarks [op, op'] [b, c] = false := by with_unfolding_all rfl) : PTw X W (.Compare a [op, op'] [b, c] pos) (wTest (wChain wr wr' wa wb wc)) :=
  PT.imp (pt_chain ho ho' ha hb hc hm) fun _ _ _ h => can_chain ab ab' (can_test h)

/-! ### and, or, not -/
def wAndT (a b : WT) : WT := fun ρ M Q E => a ρ M (fun c M1 => bch c (b ρ M1 Q E) (Q false M1)) E
def wOrT (a b : WT) : WT := fun ρ M Q E => a ρ M (fun c M1 => bch c (Q true M1) (b ρ M1 Q E)) E
def wNotT (a : WT) : WT := fun ρ M Q E => a ρ M (fun c M1 => Q (!c) M1) E
variable {ta tb : WT} {rest : List Expr}
theorem canT_seq {w : WT} {k : Bool → WG Bool} {σ : St} {H : Hp} {Q Q' : Bool → Hp → Prop} (h : can RB W (fun ρ M Q E => w ρ M (fun c M1 => k c ρ M1 Q E) E) σ H Q)
    (hk : ∀ c H1, can RB W (k c) σ H1 Q → Q' c H1) : can RB W w σ H Q' := by
  obtain ⟨F, h⟩ := h
  have h1 := canAt.seq (R := RB) (w := w) (k := k) h
  exact ⟨F, h1.mono fun x H1 ⟨F1, wx, x1, rx, h2⟩ => hk x H1 (by cases rx; exact ⟨F1, h2⟩)⟩
theorem can_retB {c : Bool} {σ : St} {H : Hp} {Q : Bool → Hp → Prop} (h : can RB W (fun _ M Q _ => Q c M) σ H Q) : Q c H := by
  obtain ⟨F, h⟩ := h
  exact canAt.ret h rfl
theorem pww_and (ha : PTw X W a ta) (hb : PWw X W (.BoolOp .And (b :: rest) pos) tb) : PWw X W (.BoolOp .And (a :: b :: rest) pos) (wAndT ta tb) := by
  refine PW.imp (pw_and ha hb) fun σ H Q h => ?_
  refine canT_seq (k := fun c ρ M1 Q E => bch c (tb ρ M1 Q E) (Q false M1)) h fun c H1 h1 => ?_
  cases c with
  | true => exact iteT h1
  | false => exact iteF (can_retB h1)
theorem pww_or (ha : PTw X W a ta) (hb : PWw X W (.BoolOp .Or (b :: rest) pos) tb) : PWw X W (.BoolOp .Or (a :: b :: rest) pos) (wOrT ta tb) := by
  refine PW.imp (pw_or ha hb) fun σ H Q h => ?_
  refine canT_seq (k := fun c ρ M1 Q E => bch c (Q true M1) (tb ρ M1 Q E)) h fun c H1 h1 => ?_
  cases c with
  | true => exact iteT (can_retB h1)
  | false => exact iteF h1
theorem pww_and1 (ha : PTw X W a ta) : PWw X W (.BoolOp .And [a] pos) ta := pw_and1 ha
theorem pww_or1 (ha : PTw X W a ta) : PWw X W (.BoolOp .Or [a] pos) ta := pw_or1 ha
theorem ptw_bool {e : Expr} (h : PWw X W e ta) : PTw X W e ta := PW.pt h
theorem ptw_not (ha : PTw X W a ta) : PTw X W (.UnaryOp .Not a pos) (wNotT ta) := by
  refine PT.imp (pt_not ha) fun σ H Q h => ?_
  exact canT_seq (k := fun c ρ M1 Q E => Q (!c) M1) h fun c H1 h1 => can_retB h1
/-- .. as values -/
def wAndV (a b : WE) : WE := fun ρ M Q E => a ρ M (fun x M1 => match x with | .d (.bl c) => bch c (b ρ M1 Q E) (Q (.d (.bl false)) M1) | _ => False) E
def wOrV (a b : WE) : WE := fun ρ M Q E => a ρ M (fun x M1 => match x with | .d (.bl c) => bch c (Q (.d (.bl true)) M1) (b ρ M1 Q E) | _ => False) E
def wNotV (a : WE) : WE := fun ρ M Q E => a ρ M (fun x M1 => match x with | .d (.bl c) => Q (.d (.bl (!c))) M1 | _ => False) E
theorem canE_bl {w : WE} {k : Bool → WG Wv} {σ : St} {H : Hp} {Q : VK} {Q' : V → Hp → Prop} (h : can RpW W (fun ρ M Q E => w ρ M (fun x M1 => match x with | .d (.bl c) => k c ρ M1 Q E | _ => False) E) σ H Q)
    (hk : ∀ c H1, can RpW W (k c) σ H1 Q → Q' (.bl c) H1) : can RpW W w σ H Q' := by
  obtain ⟨F, h⟩ := h
  have h1 := canAt.seq (R := RpW) (w := w) (k := fun x ρ M1 Q E => match x with | .d (.bl c) => k c ρ M1 Q E | _ => False) h
  refine ⟨F, h1.mono fun x H1 ⟨F1, wx, x1, rx, h2⟩ => ?_⟩
  obtain ⟨ρ, M, Qw, Ew, r', s, h, q, e⟩ := h2
  split at h
  · rename_i c
    cases rx
    exact hk c H1 ⟨F1, ρ, M, Qw, Ew, r', s, h, q, e⟩
  · exact h.elim
theorem can_ret {d : Dt} {v : V} (r : ∀ F, Rp F v d) {σ : St} {H : Hp} {Q : VK} (h : can RpW W (fun _ M Q _ => Q (.d d) M) σ H Q) : Q v H := by
  obtain ⟨F, h⟩ := h
  exact canAt.ret h (r F)
theorem pew_one {op} {w : WE} (h : PEw X W a w) : PEw X W (.BoolOp op [a] pos) w := pe_one h
theorem pew_and (ha : PEw X W a wa) (hb : PEw X W (.BoolOp .And (b :: rest) pos) wb) : PEw X W (.BoolOp .And (a :: b :: rest) pos) (wAndV wa wb) := by
  refine PE.imp (pe_and ha hb) fun σ H Q h => ?_
  refine canE_bl (k := fun c ρ M1 Q E => bch c (wb ρ M1 Q E) (Q (.d (.bl false)) M1)) h fun c H1 h1 => ⟨c, rfl, ?_⟩
  cases c with
  | true => exact iteT h1
  | false => exact iteF (can_ret (fun _ => .bl false) h1)
theorem pew_or (ha : PEw X W a wa) (hb : PEw X W (.BoolOp .Or (b :: rest) pos) wb) : PEw X W (.BoolOp .Or (a :: b :: rest) pos) (wOrV wa wb) := by
  refine PE.imp (pe_or ha hb) fun σ H Q h => ?_
  refine canE_bl (k := fun c ρ M1 Q E => bch c (Q (.d (.bl true)) M1) (wb ρ M1 Q E)) h fun c H1 h1 => ⟨c, rfl, ?_⟩
  cases c with
  | true => exact iteT (can_ret (fun _ => .bl true) h1)
  | false => exact iteF h1
theorem pew_not (ha : PEw X W a wa) : PEw X W (.UnaryOp .Not a pos) (wNotV wa) := by
  refine PE.imp (pe_not ha) fun σ H Q h => ?_
  exact canE_bl (k := fun c ρ M1 Q E => Q (.d (.bl (!c))) M1) h fun c H1 h1 => ⟨c, rfl, can_ret (fun _ => .bl _) h1⟩
def wIfE (t : WT) (a b : WE) : WE := fun ρ M Q E => t ρ M (fun c M1 => bch c (a ρ M1 Q E) (b ρ M1 Q E)) E
theorem pew_ifExp {e : Expr} (hc : PTw X W e ta) (ha : PEw X W a wa) (hb : PEw X W b wb) : PEw X W (.IfExp e a b pos) (wIfE ta wa wb) := by
  refine PE.imp (pe_ifExp hc ha hb) fun σ H Q h => ?_
  obtain ⟨F, h⟩ := h
  have h1 := canAt.seq (R := RB) (w := ta) (k := fun c ρ M1 Q E => bch c (wa ρ M1 Q E) (wb ρ M1 Q E)) h
  refine ⟨F, h1.mono fun x H1 ⟨F1, wx, x1, rx, h2⟩ => ?_⟩
  cases rx
  cases x with
  | true => exact iteT ⟨F1, h2⟩
  | false => exact iteF ⟨F1, h2⟩

/-! ### argument lists, displays -/
theorem paw_nil : PAw X W [] wNil := by
  refine PA.imp pa_nil fun σ H Q h => ?_
  obtain ⟨F, h⟩ := h
  exact canAt.ret h .nil
theorem paw_cons {es : List Expr} {t : WA} (ha : PEw X W a wa) (hr : PAw X W es t) (hs : starEach (a :: es) X.env = (false, eval a X.env) :: starEach es X.env := by rfl) : PAw X W (a :: es) (wCons wa t) := by
  refine PA.imp (pa_cons ha hr hs) fun σ H Q h => ?_
  obtain ⟨F, h⟩ := h
  have h1 := canAt.seq (R := RpW) (w := wa) (k := fun x ρ M Q E => t ρ M (fun xs M2 => Q (x :: xs) M2) E) h
  refine ⟨F, h1.mono fun x H1 ⟨F1, wx, x1, rx, h2⟩ => ⟨F1, ?_⟩⟩
  have h3 := canAt.seq (R := RpWs) (w := t) (k := fun xs ρ M Q E => Q (wx :: xs) M) h2
  exact h3.mono fun xs H2 ⟨F2, ws, x2, rs, h4⟩ => canAt.ret h4 (.cons (RpW.mono x2 rx) rs)
def allD : List Wv → Option (List Dt)
  | [] => some []
  | .d x :: r => (allD r).map (x :: ·)
  | .c _ :: _ => none
theorem allD_eq : ∀ {ws : List Wv} {ds : List Dt}, allD ws = some ds → ws = ds.map .d
  | [], _, h => by cases h; rfl
  | .d x :: r, _, h => by
    unfold allD at h
    cases e : allD r with
    | none => rw [e] at h; cases h
    | some l => rw [e] at h; cases h; rw [allD_eq e]; rfl
  | .c _ :: _, _, h => nomatch h
theorem allD_map : ∀ (ds : List Dt), allD (ds.map .d) = some ds
  | [] => rfl
  | d :: r => by show (allD (r.map .d)).map (d :: ·) = _; rw [allD_map r]; rfl
def wTup (t : WA) : WE := fun ρ M Q E => t ρ M (fun ws M1 => match allD ws with | some ds => ds.length ≤ sizeLine ∧ Q (.d (.tup ds)) M1 | none => False) E
def wLst (t : WA) : WE := fun ρ M Q E => t ρ M (fun ws M1 => match allD ws with | some ds => ds.length ≤ sizeLine ∧ Q (.d (.lst ds)) M1 | none => False) E
def wTupC (t : WA) : WE := fun ρ M Q E => t ρ M (fun ws M1 => ws.length ≤ sizeLine ∧ ∀ p, M1 p = none → Q (.c p) (M1.set p (.tup ws))) E
def wLstC (t : WA) : WE := fun ρ M Q E => t ρ M (fun ws M1 => ws.length ≤ sizeLine ∧ ∀ p, M1 p = none → Q (.c p) (M1.set p (.lst ws))) E
theorem pew_tup {es : List Expr} {t : WA} {x1} (h : PAw X W es t) : PEw X W (.Tuple es x1 pos) (wTup t) := by
  refine PE.imp (pe_tup h) fun σ H Q h => ?_
  obtain ⟨F, h⟩ := h
  have h1 := canAt.seq (R := RpWs) (w := t) (k := fun ws ρ M1 (Q : Wv → Mh → Prop) E => match allD ws with | some ds => ds.length ≤ sizeLine ∧ Q (.d (.tup ds)) M1 | none => False) h
  refine ⟨F, h1.mono fun vs H1 ⟨F1, ws, x1, rs, h2⟩ => ?_⟩
  obtain ⟨ρ, M, Qw, Ew, r', s, h, q, e⟩ := h2
  split at h
  · rename_i ds e
    cases allD_eq e
    refine ⟨by rw [rs.length]; simpa using h.1, fun p hp => ?_⟩
    obtain ⟨rN, xN⟩ := r'.newF (o := .tup vs) hp
    exact q _ _ _ (.d (.tup ds)) _ xN rN (Rp.tup upd_same (RpL.mono xN (RpWs.ds rs))) h.2
  · exact h.elim
theorem pew_lst {es : List Expr} {t : WA} (h : PAw X W es t) : PEw X W (.List es pos) (wLst t) := by
  refine PE.imp (pe_lst h) fun σ H Q h => ?_
  obtain ⟨F, h⟩ := h
  have h1 := canAt.seq (R := RpWs) (w := t) (k := fun ws ρ M1 (Q : Wv → Mh → Prop) E => match allD ws with | some ds => ds.length ≤ sizeLine ∧ Q (.d (.lst ds)) M1 | none => False) h
  refine ⟨F, h1.mono fun vs H1 ⟨F1, ws, x1, rs, h2⟩ => ?_⟩
  obtain ⟨ρ, M, Qw, Ew, r', s, h, q, e⟩ := h2
  split at h
  · rename_i ds e
    cases allD_eq e
    refine ⟨by rw [rs.length]; simpa using h.1, fun p hp => ?_⟩
    obtain ⟨rN, xN⟩ := r'.newF (o := .lst vs) hp
    exact q _ _ _ (.d (.lst ds)) _ xN rN (Rp.lst upd_same (RpL.mono xN (RpWs.ds rs))) h.2
  · exact h.elim
theorem pew_tupC {es : List Expr} {t : WA} {x1} (h : PAw X W es t) : PEw X W (.Tuple es x1 pos) (wTupC t) := by
  refine PE.imp (pe_tup h) fun σ H Q h => ?_
  obtain ⟨F, h⟩ := h
  have h1 := canAt.seq (R := RpWs) (w := t) (k := fun ws ρ M1 (Q : Wv → Mh → Prop) E => ws.length ≤ sizeLine ∧ ∀ p, M1 p = none → Q (.c p) (M1.set p (.tup ws))) h
  refine ⟨F, h1.mono fun vs H1 ⟨F1, ws, x1, rs, h2⟩ => ?_⟩
  obtain ⟨ρ, M, Qw, Ew, r', s, h, q, e⟩ := h2
  refine ⟨by rw [rs.length]; exact h.1, fun p hp => ?_⟩
  exact q _ _ _ (.c p) _ (Same.refl F1) (r'.newM (m := .tup ws) hp ⟨vs, upd_same, rs⟩) rfl (h.2 p (r'.noM hp))
theorem pew_lstC {es : List Expr} {t : WA} (h : PAw X W es t) : PEw X W (.List es pos) (wLstC t) := by
  refine PE.imp (pe_lst h) fun σ H Q h => ?_
  obtain ⟨F, h⟩ := h
  have h1 := canAt.seq (R := RpWs) (w := t) (k := fun ws ρ M1 (Q : Wv → Mh → Prop) E => ws.length ≤ sizeLine ∧ ∀ p, M1 p = none → Q (.c p) (M1.set p (.lst ws))) h
  refine ⟨F, h1.mono fun vs H1 ⟨F1, ws, x1, rs, h2⟩ => ?_⟩
  obtain ⟨ρ, M, Qw, Ew, r', s, h, q, e⟩ := h2
  refine ⟨by rw [rs.length]; exact h.1, fun p hp => ?_⟩
  exact q _ _ _ (.c p) _ (Same.refl F1) (r'.newM (m := .lst ws) hp ⟨vs, upd_same, rs⟩) rfl (h.2 p (r'.noM hp))
/-- a call by values -/
theorem canC {r : List V → Hp → VK → Prop} {wr : WC} {t : WA} {σ : St} {H : Hp} {Q : VK} (ab : AbC r wr) (h : can RpW W (wCB wr t) σ H Q) : tCB r (can RpWs W t) σ H Q := by
  obtain ⟨F, h⟩ := h
  have h1 := canAt.seq (R := RpWs) (w := t) (k := fun ws ρ M1 Q E => wr ws M1 Q) h
  refine ⟨F, h1.mono fun vs H1 ⟨F1, ws, x1, rs, h2⟩ => ?_⟩
  obtain ⟨ρ, M, Qw, Ew, r', s, h, q, e⟩ := h2
  exact ab F1 M H1 vs ws Qw Q r' rs h q
variable {x : Str} {p : Pos} {es : List Expr} {t : WA} {id T : String} {r : List V → Hp → VK → Prop} {wr : WC}
theorem pew_callB (hc : CallR X (.builtin id) r) (ab : AbC r wr) (hg : Gl X x) (hm : X.mg x = none) (hv : bootBuiltins x = some (.builtin id)) (ha : PAw X W (a :: es) t) (hn : x ≠ "__name__" := by decide) (hdb : (x == ("__debug__" : Str)) = false := by decide)
    (he : starEach (a :: es) X.env = (false, eval a X.env) :: starEach es X.env := by rfl) (hpl : (backTo pos (starEach es X.env)).any (·.1) = false := by rfl) : PEw X W (.Call (.Name x p) (a :: es) [] pos) (wCB wr t) :=
  PE.imp (pe_callB hc hg hm hv ha hn hdb he hpl) fun _ _ _ h => canC ab h
theorem pew_callTy (hc : CallR X (.type T) r) (ab : AbC r wr) (hg : Gl X x) (hm : X.mg x = none) (hv : bootBuiltins x = some (.type T)) (ha : PAw X W (a :: es) t) (hn : x ≠ "__name__" := by decide) (hdb : (x == ("__debug__" : Str)) = false := by decide)
    (he : starEach (a :: es) X.env = (false, eval a X.env) :: starEach es X.env := by rfl) (hpl : (backTo pos (starEach es X.env)).any (·.1) = false := by rfl) : PEw X W (.Call (.Name x p) (a :: es) [] pos) (wCB wr t) :=
  PE.imp (pe_callTy hc hg hm hv ha hn hdb he hpl) fun _ _ _ h => canC ab h
end
end Lw

namespace Lw
open PySem PySem.Spec L2

/-! ## by values: what the operators ask -/
def Sz (n : Nat) (x : Int) : Prop := x.natAbs < 2 ^ n
def MulOk (i j : Int) : Prop := Sz 64 i ∨ Sz 64 j ∨ ∃ a b, Sz a i ∧ Sz b j ∧ 0 < a ∧ 0 < b ∧ a + b ≤ 1000000
def DivOk (j : Int) : Prop := j ≠ 0 ∧ ∃ a, Sz a j ∧ 0 < a ∧ a ≤ 8999
section
variable {X : Cx}
theorem op_mulG : OpR X (binaryOp .Mult) (rI MulOk fun i j => .int (i * j)) := opI fun i j _ _ _ _ _ hc q => by
  rcases hc with h | h | ⟨a, b, h1, h2, h3, h4, h5⟩
  · have h : i.natAbs < 2 ^ 64 := h
    exact PyProof.Rows.mul_int q (CMul.ok (.inl (by constructor <;> omega)))
  · have h : j.natAbs < 2 ^ 64 := h
    exact PyProof.Rows.mul_int q (CMul.ok (.inr (by constructor <;> omega)))
  · exact PyProof.Rows.mul_int q (CMulW.ok (wide_mul h1 h2 h3 h4 h5))
theorem op_fdivG : OpR X (binaryOp .FloorDiv) (rI (fun _ j => DivOk j) fun i j => .int (i.fdiv j)) := opI fun i j _ _ _ _ _ hc q => by
  obtain ⟨h0, a, h1, h2, h3⟩ := hc
  exact PyProof.Rows.floordiv_int h0 q (.inl (PyProof.noPylong_of_log2 (Nat.lt_of_lt_of_le (PySem.Flt.log2_lt_of h2 h1) (by omega))))
theorem RpL.len {F : Hp} : ∀ {vs : List V} {ds : List Dt}, RpL F vs ds → vs.length = ds.length
  | _, _, .nil => rfl
  | _, _, .cons _ t => congrArg Nat.succ (RpL.len t)
theorem RpL.get {F : Hp} : ∀ {vs : List V} {ds : List Dt} {i : Nat} {d : Dt}, RpL F vs ds → ds[i]? = some d → ∃ v, vs[i]? = some v ∧ Rp F v d
  | _, _, _, _, .nil, e => by simp at e
  | _, _, 0, _, .cons h _, e => by simp at e; subst e; exact ⟨_, rfl, h⟩
  | _, _, i + 1, d, .cons _ t, e => by
    obtain ⟨v, h1, h2⟩ := RpL.get (i := i) (d := d) t (by simpa using e)
    exact ⟨v, by simpa using h1, h2⟩
theorem RpL.append {F : Hp} : ∀ {xs ys : List V} {as bs : List Dt}, RpL F xs as → RpL F ys bs → RpL F (xs ++ ys) (as ++ bs)
  | _, _, _, _, .nil, s => s
  | _, _, _, _, .cons r t, s => .cons r (RpL.append t s)
theorem RpL.take {F : Hp} : ∀ {xs : List V} {as : List Dt} (n : Nat), RpL F xs as → RpL F (xs.take n) (as.take n)
  | _, _, 0, _ => .nil
  | _, _, _ + 1, .nil => .nil
  | _, _, n + 1, .cons r t => .cons r (RpL.take n t)
theorem RpL.drop {F : Hp} : ∀ {xs : List V} {as : List Dt} (n : Nat), RpL F xs as → RpL F (xs.drop n) (as.drop n)
  | _, _, 0, r => r
  | _, _, _ + 1, .nil => .nil
  | _, _, n + 1, .cons _ t => RpL.drop n t
theorem RpL.rev {F : Hp} : ∀ {xs : List V} {as : List Dt}, RpL F xs as → RpL F xs.reverse as.reverse
  | _, _, .nil => .nil
  | _, _, .cons r t => by rw [List.reverse_cons, List.reverse_cons]; exact RpL.append (RpL.rev t) (.cons r .nil)
theorem RpWs.len {F : Hp} {vs : List V} {ws : List Wv} (h : RpWs F vs ws) : vs.length = ws.length := Paired.length h
theorem RpWs.get {F : Hp} : ∀ {vs : List V} {ds : List Wv} {i : Nat} {d : Wv}, RpWs F vs ds → ds[i]? = some d → ∃ v, vs[i]? = some v ∧ RpW F v d
  | _, _, _, _, .nil, e => by simp at e
  | _, _, 0, _, .cons h _, e => by simp at e; subst e; exact ⟨_, rfl, h⟩
  | _, _, i + 1, d, .cons _ t, e => by
    obtain ⟨v, h1, h2⟩ := RpWs.get (i := i) (d := d) t (by simpa using e)
    exact ⟨v, by simpa using h1, h2⟩
theorem RpWs.append {F : Hp} : ∀ {xs ys : List V} {as bs : List Wv}, RpWs F xs as → RpWs F ys bs → RpWs F (xs ++ ys) (as ++ bs)
  | _, _, _, _, .nil, s => s
  | _, _, _, _, .cons r t, s => .cons r (RpWs.append t s)
theorem RpWs.set {F : Hp} {v : V} {w : Wv} (r : RpW F v w) : ∀ {xs : List V} {as : List Wv} (i : Nat), RpWs F xs as → RpWs F (xs.set i v) (as.set i w)
  | _, _, _, .nil => .nil
  | _, _, 0, .cons _ t => .cons r t
  | _, _, i + 1, .cons q t => .cons q (RpWs.set r i t)
theorem RpWs.rev {F : Hp} : ∀ {xs : List V} {as : List Wv}, RpWs F xs as → RpWs F xs.reverse as.reverse
  | _, _, .nil => .nil
  | _, _, .cons r t => by rw [List.reverse_cons, List.reverse_cons]; exact RpWs.append (RpWs.rev t) (.cons r .nil)
theorem RpWs.take {F : Hp} : ∀ {xs : List V} {as : List Wv} (n : Nat), RpWs F xs as → RpWs F (xs.take n) (as.take n)
  | _, _, 0, _ => .nil
  | _, _, _ + 1, .nil => .nil
  | _, _, n + 1, .cons r t => .cons r (RpWs.take n t)
theorem RpWs.drop {F : Hp} : ∀ {xs : List V} {as : List Wv} (n : Nat), RpWs F xs as → RpWs F (xs.drop n) (as.drop n)
  | _, _, 0, r => r
  | _, _, _ + 1, .nil => .nil
  | _, _, n + 1, .cons _ t => RpWs.drop n t

theorem qD {F : Hp} {Q : VK} {Qw : Wv → Mh → Prop} (q : ∀ v H' F' z M', Ext F F' → Rel F' M' H' → RpW F' v z → Qw z M' → Q v H') {v : V} {H' F' : Hp} {d : Dt} {M' : Mh} (x : Ext F F') (r : Rel F' M' H') (p : Rp F' v d) (h : Qw (.d d) M') : Q v H' :=
  q v H' F' (.d d) M' x r p h
/-! ### arithmetic -/
def rAdd : W2 := fun x y M Q => match x, y with
  | .d (.int i), .d (.int j) => Q (.d (.int (i + j))) M
  | .d (.str a), .d (.str b) => a.length + b.length ≤ sizeLine ∧ Q (.d (.str (a ++ b))) M
  | .d (.lst a), .d (.lst b) => a.length + b.length ≤ sizeLine ∧ Q (.d (.lst (a ++ b))) M
  | .d (.tup a), .d (.tup b) => a ≠ [] ∧ a.length + b.length ≤ sizeLine ∧ Q (.d (.tup (a ++ b))) M
  | _, _ => False
abbrev hAdd (K : PySem.W.Frag) : R2 := fun x y H Q => rI0 (fun i j => .int (i + j)) x y H Q ∨ ((∃ i j, x = .str i ∧ y = .str j ∧ i.length + j.length ≤ sizeLine ∧ Q (.str (i ++ j)) H) ∨ (rCat x y H Q ∨ rCatT K x y H Q))
theorem op_addG : OpR X (binaryOp .Add) (hAdd X.K) := op_add.or (op_add_str.or (op_cat.or op_catT))
theorem ab_add {K : PySem.W.Frag} : Ab2 (hAdd K) rAdd := by
  intro F M H x y wx wy Qw Q r rx ry h q
  unfold rAdd at h
  split at h
  · cases rx; cases ry
    exact .inl ⟨_, _, rfl, rfl, qD q (Same.refl F) r (Rp.int _) h⟩
  · cases rx; cases ry
    exact .inr (.inl ⟨_, _, rfl, rfl, h.1, qD q (Same.refl F) r (Rp.str _) h.2⟩)
  · rename_i a b
    cases rx with
    | lst h1 l1 => cases ry with
      | lst h2 l2 =>
        refine .inr (.inr (.inl ⟨_, _, _, _, rfl, rfl, r.fz _ _ h1, r.fz _ _ h2, by rw [l1.len, l2.len]; exact h.1, fun p hp => ?_⟩))
        obtain ⟨rN, xN⟩ := r.newF hp
        exact qD q xN rN (Rp.lst upd_same (RpL.mono xN (l1.append l2))) h.2
  · rename_i a b
    cases rx with
    | tup h1 l1 => cases ry with
      | tup h2 l2 =>
        refine .inr (.inr (.inr ⟨_, _, _, _, rfl, rfl, SqT.of (r.fz _ _ h1), SqT.of (r.fz _ _ h2), ?_, by rw [l1.len, l2.len]; exact h.2.1, fun e => ?_, fun _ p hp => ?_⟩))
        · intro e; subst e; cases l1; exact h.1 rfl
        · subst e
          cases l2
          refine qD q (Same.refl F) r (Rp.tup h1 ?_) h.2.2
          rw [List.append_nil]; exact l1
        · obtain ⟨rN, xN⟩ := r.newF hp
          exact qD q xN rN (Rp.tup upd_same (RpL.mono xN (l1.append l2))) h.2.2
  · exact h.elim
/-- a list of two: a cell -/
def rCatC : W2 := fun x y M Q => match x, y with
  | .d (.lst a), .d (.lst b) => a.length + b.length ≤ sizeLine ∧ ∀ p, M p = none → Q (.c p) (M.set p (.lst ((a ++ b).map .d)))
  | _, _ => False
theorem ab_catC : Ab2 rCat rCatC := by
  intro F M H x y wx wy Qw Q r rx ry h q
  unfold rCatC at h
  split at h
  · rename_i a b
    cases rx with
    | lst h1 l1 => cases ry with
      | lst h2 l2 =>
        refine ⟨_, _, _, _, rfl, rfl, r.fz _ _ h1, r.fz _ _ h2, by rw [l1.len, l2.len]; exact h.1, fun p hp => ?_⟩
        exact q _ _ _ (.c p) _ (Same.refl F) (r.newM (m := .lst ((a ++ b).map .d)) hp ⟨_, upd_same, RpL.ws (l1.append l2)⟩) rfl (h.2 p (r.noM hp))
  · exact h.elim
def rSub : W2 := fun x y M Q => match x, y with
  | .d (.int i), .d (.int j) => Q (.d (.int (i - j))) M
  | _, _ => False
theorem ab_sub : Ab2 (rI0 fun i j => .int (i - j)) rSub := by
  intro F M H x y wx wy Qw Q r rx ry h q
  unfold rSub at h
  split at h
  · cases rx; cases ry
    exact ⟨_, _, rfl, rfl, qD q (Same.refl F) r (Rp.int _) h⟩
  · exact h.elim
def rMul : W2 := fun x y M Q => match x, y with
  | .d (.int i), .d (.int j) => MulOk i j ∧ Q (.d (.int (i * j))) M
  | .d (.lst a), .d (.int k) => -(2 ^ 63) ≤ k ∧ k < 2 ^ 63 ∧ a.length * k.toNat ≤ sizeLine ∧ Q (.d (.lst (List.replicate k.toNat a).flatten)) M
  | _, _ => False
abbrev hMul : R2 := fun x y H Q => rI MulOk (fun i j => .int (i * j)) x y H Q ∨ rRep x y H Q
theorem op_mulO : OpR X (binaryOp .Mult) hMul := op_mulG.or op_rep
theorem RpL.rep {F : Hp} {vs : List V} {ds : List Dt} (h : RpL F vs ds) : ∀ n, RpL F (List.replicate n vs).flatten (List.replicate n ds).flatten
  | 0 => .nil
  | n + 1 => by rw [List.replicate_succ, List.replicate_succ, List.flatten_cons, List.flatten_cons]; exact h.append (RpL.rep h n)
theorem ab_mul : Ab2 hMul rMul := by
  intro F M H x y wx wy Qw Q r rx ry h q
  unfold rMul at h
  split at h
  · cases rx; cases ry
    exact .inl ⟨_, _, rfl, rfl, h.1, qD q (Same.refl F) r (Rp.int _) h.2⟩
  · cases rx with
    | lst h1 l1 =>
      cases ry
      refine .inr ⟨_, _, _, rfl, rfl, r.fz _ _ h1, h.1, h.2.1, by rw [l1.len]; exact h.2.2.1, fun p hp => ?_⟩
      obtain ⟨rN, xN⟩ := r.newF hp
      exact qD q xN rN (Rp.lst upd_same (RpL.mono xN (l1.rep _))) h.2.2.2
  · exact h.elim
/-- [x] * n : a cell -/
def rRepC : W2 := fun x y M Q => match x, y with
  | .d (.lst a), .d (.int k) => -(2 ^ 63) ≤ k ∧ k < 2 ^ 63 ∧ a.length * k.toNat ≤ sizeLine ∧ ∀ p, M p = none → Q (.c p) (M.set p (.lst ((List.replicate k.toNat a).flatten.map .d)))
  | _, _ => False
theorem ab_repC : Ab2 rRep rRepC := by
  intro F M H x y wx wy Qw Q r rx ry h q
  unfold rRepC at h
  split at h
  · rename_i a k
    cases rx with
    | lst h1 l1 =>
      cases ry
      refine ⟨_, _, _, rfl, rfl, r.fz _ _ h1, h.1, h.2.1, by rw [l1.len]; exact h.2.2.1, fun p hp => ?_⟩
      exact q _ _ _ (.c p) _ (Same.refl F) (r.newM (m := .lst ((List.replicate k.toNat a).flatten.map .d)) hp ⟨_, upd_same, RpL.ws (l1.rep _)⟩) rfl (h.2.2.2 p (r.noM hp))
  · exact h.elim
def rDiv : W2 := fun x y M Q => match x, y with
  | .d (.int i), .d (.int j) => DivOk j ∧ Q (.d (.int (i.fdiv j))) M
  | _, _ => False
theorem ab_div : Ab2 (rI (fun _ j => DivOk j) fun i j => .int (i.fdiv j)) rDiv := by
  intro F M H x y wx wy Qw Q r rx ry h q
  unfold rDiv at h
  split at h
  · cases rx; cases ry
    exact ⟨_, _, rfl, rfl, h.1, qD q (Same.refl F) r (Rp.int _) h.2⟩
  · exact h.elim
def rMod : W2 := fun x y M Q => match x, y with
  | .d (.int i), .d (.int j) => 0 < j ∧ Q (.d (.int (i % j))) M
  | _, _ => False
theorem ab_mod : Ab2 (rI (fun _ j => 0 < j) fun i j => .int (i % j)) rMod := by
  intro F M H x y wx wy Qw Q r rx ry h q
  unfold rMod at h
  split at h
  · cases rx; cases ry
    exact ⟨_, _, rfl, rfl, h.1, qD q (Same.refl F) r (Rp.int _) h.2⟩
  · exact h.elim
def rPow : W2 := fun x y M Q => match x, y with
  | .d (.int i), .d (.int j) => (0 ≤ j ∧ j ≤ 1000000 ∧ Sz 64 i) ∧ Q (.d (.int (i ^ j.toNat))) M
  | _, _ => False
theorem ab_pow : Ab2 (rI CPow fun i j => .int (i ^ j.toNat)) rPow := by
  intro F M H x y wx wy Qw Q r rx ry h q
  unfold rPow at h
  split at h
  · cases rx; cases ry
    exact ⟨_, _, rfl, rfl, h.1, qD q (Same.refl F) r (Rp.int _) h.2⟩
  · exact h.elim
def rNeg : W1 := fun x M Q => match x with
  | .d (.int i) => Q (.d (.int (-i))) M
  | _ => False
theorem ab_neg : Ab1 (rU fun i => .int (-i)) rNeg := by
  intro F M H x wx Qw Q r rx h q
  unfold rNeg at h
  split at h
  · cases rx
    exact ⟨_, rfl, qD q (Same.refl F) r (Rp.int _) h⟩
  · exact h.elim

/-! ### comparisons -/
def rCmp (p : Int → Int → Bool) : W2 := fun x y M Q => match x, y with
  | .d (.int i), .d (.int j) => Q (.d (.bl (p i j))) M
  | _, _ => False
theorem ab_cmp {p : Int → Int → Bool} : Ab2 (rI0 fun i j => .bl (p i j)) (rCmp p) := by
  intro F M H x y wx wy Qw Q r rx ry h q
  unfold rCmp at h
  split at h
  · cases rx; cases ry
    exact ⟨_, _, rfl, rfl, qD q (Same.refl F) r (Rp.bl _) h⟩
  · exact h.elim
abbrev rLt : W2 := rCmp fun i j => decide (i < j)
abbrev rLe : W2 := rCmp fun i j => decide (i ≤ j)
abbrev rGt : W2 := rCmp fun i j => decide (j < i)
abbrev rGe : W2 := rCmp fun i j => decide (j ≤ i)
mutual
def toPy : Dt → PyData
  | .non => .none
  | .bl b => .bool b
  | .int i => .int i
  | .str x => .str x
  | .tup xs => .tuple (toPys xs)
  | .lst xs => .list (toPys xs)
  | .scr xs => .list (toPys xs)
  | .dct _ => .dict []
  | .obj _ _ => .dict []
def toPys : List Dt → List PyData
  | [] => []
  | x :: r => toPy x :: toPys r
end
mutual
def eqD : Dt → Dt → Bool
  | .non, .non => true
  | .bl a, .bl b => a == b
  | .bl a, .int j => (if a then 1 else 0) == j
  | .int i, .bl b => i == (if b then 1 else 0)
  | .int i, .int j => i == j
  | .str x, .str y => x == y
  | .tup xs, .tup ys => eqDs xs ys
  | .lst xs, .lst ys => eqDs xs ys
  | .scr xs, .lst ys => eqDs xs ys
  | .lst xs, .scr ys => eqDs xs ys
  | .scr xs, .scr ys => eqDs xs ys
  | _, _ => false
def eqDs : List Dt → List Dt → Bool
  | [], [] => true
  | x :: xs, y :: ys => eqD x y && eqDs xs ys
  | _, _ => false
end
mutual
theorem eqD_py : ∀ a b : Dt, PyData.eqv (toPy a) (toPy b) = eqD a b
  | .non, b => by cases b <;> rfl
  | .bl _, b => by cases b <;> rfl
  | .int _, b => by cases b <;> rfl
  | .str _, b => by cases b <;> rfl
  | .tup xs, b => by
    cases b with
    | tup ys => exact eqDs_py xs ys
    | _ => rfl
  | .lst xs, b => by
    cases b with
    | lst ys => exact eqDs_py xs ys
    | scr ys => exact eqDs_py xs ys
    | _ => rfl
  | .scr xs, b => by
    cases b with
    | lst ys => exact eqDs_py xs ys
    | scr ys => exact eqDs_py xs ys
    | _ => rfl
  | .dct _, b => by cases b <;> rfl
  | .obj _ _, b => by cases b <;> rfl
theorem eqDs_py : ∀ xs ys : List Dt, PyData.eqvAll (toPys xs) (toPys ys) = eqDs xs ys
  | [], [] => rfl
  | [], _ :: _ => rfl
  | _ :: _, [] => rfl
  | x :: xs, y :: ys => by
    show (PyData.eqv (toPy x) (toPy y) && PyData.eqvAll (toPys xs) (toPys ys)) = (eqD x y && eqDs xs ys)
    rw [eqD_py x y, eqDs_py xs ys]
end
mutual
def shD : Nat → Dt → Bool
  | _, .non => true
  | _, .bl _ => true
  | _, .int _ => true
  | _, .str x => PyData.canLay0 (.str x)
  | 0, .tup _ => false
  | n + 1, .tup xs => shDs n xs
  | 0, .lst _ => false
  | n + 1, .lst xs => shDs n xs
  | 0, .scr _ => false
  | n + 1, .scr xs => shDs n xs
  | _, _ => false
def shDs : Nat → List Dt → Bool
  | _, [] => true
  | n, x :: xs => shD n x && shDs n xs
end
theorem shDs_all {n : Nat} : ∀ {xs : List Dt}, shDs n xs = xs.all (shD n)
  | [] => by cases n <;> rfl
  | x :: xs => by rw [List.all_cons, ← shDs_all (xs := xs)]; cases n <;> rfl
mutual
theorem shD_ok : ∀ (n : Nat) (d : Dt), shD n d = true → (toPy d).canLay0 = true ∧ (toPy d).depth ≤ n
  | n, .non, _ => ⟨rfl, Nat.zero_le _⟩
  | n, .bl _, _ => ⟨rfl, Nat.zero_le _⟩
  | n, .int _, _ => ⟨rfl, Nat.zero_le _⟩
  | n, .str x, h => ⟨by cases n <;> exact h, Nat.zero_le _⟩
  | 0, .tup _, h => nomatch h
  | n + 1, .tup xs, h => by
    obtain ⟨a, b⟩ := shDs_ok n xs (by simpa [shD] using h)
    refine ⟨a, ?_⟩
    show (PyData.tuple (toPys xs)).depth ≤ n + 1
    unfold PyData.depth; omega
  | 0, .lst _, h => nomatch h
  | n + 1, .lst xs, h => by
    obtain ⟨a, b⟩ := shDs_ok n xs (by simpa [shD] using h)
    refine ⟨a, ?_⟩
    show (PyData.list (toPys xs)).depth ≤ n + 1
    unfold PyData.depth; omega
  | 0, .scr _, h => nomatch h
  | n + 1, .scr xs, h => by
    obtain ⟨a, b⟩ := shDs_ok n xs (by simpa [shD] using h)
    refine ⟨a, ?_⟩
    show (PyData.list (toPys xs)).depth ≤ n + 1
    unfold PyData.depth; omega
  | n, .dct _, h => by cases n <;> exact nomatch h
  | n, .obj _ _, h => by cases n <;> exact nomatch h
theorem shDs_ok : ∀ (n : Nat) (ds : List Dt), shDs n ds = true → PyData.canLayAll0 (toPys ds) = true ∧ PyData.depthAll (toPys ds) ≤ n
  | n, [], _ => ⟨rfl, Nat.zero_le _⟩
  | n, x :: xs, h => by
    have h' : (shD n x && shDs n xs) = true := by cases n <;> exact h
    obtain ⟨h1, h2⟩ := Bool.and_eq_true_iff.mp h'
    obtain ⟨a1, b1⟩ := shD_ok n x h1
    obtain ⟨a2, b2⟩ := shDs_ok n xs h2
    refine ⟨Bool.and_eq_true_iff.mpr ⟨a1, a2⟩, ?_⟩
    show PyData.depthAll (toPy x :: toPys xs) ≤ n
    unfold PyData.depthAll; omega
end
theorem shaped_of {d : Dt} (h : shD 60 d = true) : SeqAt.shaped (toPy d) = true := by
  obtain ⟨a, b⟩ := shD_ok 60 d h
  exact Bool.and_eq_true_iff.mpr ⟨a, decide_eq_true (by omega)⟩
mutual
theorem Rp.dp {K : PySem.W.Frag} {F H : Hp} (z : Same F H) : ∀ {n : Nat} {v : V} {d : Dt}, Rp F v d → shD n d = true → Dp K H v (toPy d)
  | _, _, _, .non, _ => .non
  | _, _, _, .bl b, _ => .bl b
  | _, _, _, .int i, _ => .int i
  | _, _, _, .str x, _ => .str x
  | 0, _, _, .tup h l, s => nomatch s
  | n + 1, _, _, .tup h l, s => .tup (SqT.of (z _ _ h)) (RpL.dp (n := n) z l (by simpa [shD] using s))
  | 0, _, _, .lst h l, s => nomatch s
  | n + 1, _, _, .lst h l, s => .lst (SqL.of (z _ _ h)) (RpL.dp (n := n) z l (by simpa [shD] using s))
  | 0, _, _, .scr h l, s => nomatch s
  | n + 1, _, _, .scr h l, s => .lst (.inl (.inr ⟨_, z _ _ h⟩)) (RpL.dp (n := n) z l (by simpa [shD] using s))
  | n, _, _, .dct _ _, s => by cases n <;> exact nomatch s
  | n, _, _, .obj _ _, s => by cases n <;> exact nomatch s
theorem RpL.dp {K : PySem.W.Frag} {F H : Hp} (z : Same F H) : ∀ {n : Nat} {vs : List V} {ds : List Dt}, RpL F vs ds → shDs n ds = true → DpAll K H vs (toPys ds)
  | _, _, _, .nil, _ => .nil
  | n, _, _, .cons h t, s => by
    have s' := Bool.and_eq_true_iff.mp (show (shD n _ && shDs n _) = true by cases n <;> exact s)
    exact .cons (Rp.dp (n := n) z h s'.1) (RpL.dp (n := n) z t s'.2)
end
def rEq : W2 := fun x y M Q => match x, y with
  | .d a, .d b => shD 60 a = true ∧ shD 60 b = true ∧ Q (.d (.bl (eqD a b))) M
  | _, _ => False
def rNe : W2 := fun x y M Q => match x, y with
  | .d a, .d b => shD 60 a = true ∧ shD 60 b = true ∧ Q (.d (.bl (!eqD a b))) M
  | _, _ => False
theorem ab_eq {K : PySem.W.Frag} : Ab2 (rEqD K) rEq := by
  intro F M H x y wx wy Qw Q r rx ry h q
  unfold rEq at h
  split at h
  · rename_i a b
    refine ⟨toPy a, toPy b, Rp.dp (n := 60) r.fz rx h.1, Rp.dp (n := 60) r.fz ry h.2.1, shaped_of h.1, shaped_of h.2.1, ?_⟩
    rw [eqD_py]
    exact qD q (Same.refl F) r (Rp.bl _) h.2.2
  · exact h.elim
theorem ab_ne {K : PySem.W.Frag} : Ab2 (rNeD K) rNe := by
  intro F M H x y wx wy Qw Q r rx ry h q
  unfold rNe at h
  split at h
  · rename_i a b
    refine ⟨toPy a, toPy b, Rp.dp (n := 60) r.fz rx h.1, Rp.dp (n := 60) r.fz ry h.2.1, shaped_of h.1, shaped_of h.2.1, ?_⟩
    rw [eqD_py]
    exact qD q (Same.refl F) r (Rp.bl _) h.2.2
  · exact h.elim
/-- is None -/
def isNonW : Wv → Bool
  | .d .non => true
  | _ => false
theorem isNonW_ok {F : Hp} {v : V} {w : Wv} (r : RpW F v w) : decide (v = .non) = isNonW w := by
  cases w with
  | c a => cases r; rfl
  | d x => cases r <;> rfl
def rIsN : W2 := fun x y M Q => match y with
  | .d .non => Q (.d (.bl (isNonW x))) M
  | _ => False
def rNotN : W2 := fun x y M Q => match y with
  | .d .non => Q (.d (.bl (!isNonW x))) M
  | _ => False
theorem ab_isN : Ab2 (fun x y H Q => y = .non ∧ Q (.bl (decide (x = .non))) H) rIsN := by
  intro F M H x y wx wy Qw Q r rx ry h q
  unfold rIsN at h
  split at h
  · cases ry
    refine ⟨rfl, ?_⟩
    rw [isNonW_ok rx]
    exact qD q (Same.refl F) r (Rp.bl _) h
  · exact h.elim
theorem ab_notN : Ab2 (fun x y H Q => y = .non ∧ Q (.bl (!decide (x = .non))) H) rNotN := by
  intro F M H x y wx wy Qw Q r rx ry h q
  unfold rNotN at h
  split at h
  · cases ry
    refine ⟨rfl, ?_⟩
    rw [isNonW_ok rx]
    exact qD q (Same.refl F) r (Rp.bl _) h
  · exact h.elim
/-- x in a tuple or list of flat things -/
def flatD : Dt → Bool
  | .non => true | .bl _ => true | .int _ => true | .str _ => true | _ => false
theorem flat_ok {F : Hp} {v : V} {d : Dt} (r : Rp F v d) : flatV v = flatD d := by cases r <;> rfl
theorem flats_ok {F : Hp} : ∀ {vs : List V} {ds : List Dt}, RpL F vs ds → vs.all flatV = ds.all flatD
  | _, _, .nil => rfl
  | _, _, .cons h t => by rw [List.all_cons, List.all_cons, flat_ok h, flats_ok t]
theorem eqV_ok {F : Hp} {x y : V} {a b : Dt} (rx : Rp F x a) (ry : Rp F y b) (f : flatD a = true) (g : flatD b = true) : eqV x y = eqD a b := by
  cases rx <;> cases ry <;> first | rfl | (exact absurd f (by decide)) | (exact absurd g (by decide)) | (exact absurd f (by simp [flatD])) | (exact absurd g (by simp [flatD]))
theorem inV_ok {F : Hp} {x : V} {a : Dt} (rx : Rp F x a) (f : flatD a = true) : ∀ {vs : List V} {ds : List Dt}, RpL F vs ds → ds.all flatD = true → inV x vs = ds.any fun y => eqD y a
  | _, _, .nil, _ => rfl
  | _, _, .cons h t, g => by
    rw [List.all_cons, Bool.and_eq_true] at g
    have ih := inV_ok rx f t g.2
    unfold inV at ih ⊢
    rw [List.any_cons, List.any_cons, eqV_ok h rx g.1 f, ih]
def rInS (neg : Bool) : W2 := fun x y M Q => match x, y with
  | .d a, .d (.tup ys) => flatD a = true ∧ ys.all flatD = true ∧ Q (.d (.bl (if neg then !(ys.any fun y => eqD y a) else ys.any fun y => eqD y a))) M
  | .d a, .d (.lst ys) => flatD a = true ∧ ys.all flatD = true ∧ Q (.d (.bl (if neg then !(ys.any fun y => eqD y a) else ys.any fun y => eqD y a))) M
  | _, _ => False
theorem ab_in {K : PySem.W.Frag} {neg : Bool} : Ab2 (rIn K neg) (rInS neg) := by
  intro F M H x y wx wy Qw Q r rx ry h q
  unfold rInS at h
  split at h
  · cases ry with
    | tup h1 l1 =>
      refine ⟨_, _, rfl, .inr (SqT.of (r.fz _ _ h1)), by rw [flat_ok rx]; exact h.1, by rw [flats_ok l1]; exact h.2.1, ?_⟩
      rw [inV_ok rx h.1 l1 h.2.1]
      exact qD q (Same.refl F) r (Rp.bl _) h.2.2
  · cases ry with
    | lst h1 l1 =>
      refine ⟨_, _, rfl, .inl (SqL.of (r.fz _ _ h1)), by rw [flat_ok rx]; exact h.1, by rw [flats_ok l1]; exact h.2.1, ?_⟩
      rw [inV_ok rx h.1 l1 h.2.1]
      exact qD q (Same.refl F) r (Rp.bl _) h.2.2
  · exact h.elim

/-! ### items -/
theorem ixN_len {n m : Nat} (e : n = m) (i : Int) : ixN n i = ixN m i := by rw [e]
theorem RpL.atI {F : Hp} {vs : List V} {ds : List Dt} (h : RpL F vs ds) {i : Int} {d : Dt} (e : atI ds i = some d) : ∃ v, L2.atI vs i = some v ∧ Rp F v d := by
  unfold L2.atI at e ⊢
  rw [h.len]
  cases q : ixN ds.length i with
  | none => rw [q] at e; cases e
  | some j => rw [q] at e; exact h.get e
theorem RpWs.atI {F : Hp} {vs : List V} {ds : List Wv} (h : RpWs F vs ds) {i : Int} {d : Wv} (e : atI ds i = some d) : ∃ v, L2.atI vs i = some v ∧ RpW F v d := by
  unfold L2.atI at e ⊢
  rw [h.len]
  cases q : ixN ds.length i with
  | none => rw [q] at e; cases e
  | some j => rw [q] at e; exact h.get e
def rIxW : W2 := fun x y M Q => match x, y with
  | .d (.tup xs), .d (.int i) => (match atI xs i with | some v => Q (.d v) M | none => False)
  | .d (.lst xs), .d (.int i) => (match atI xs i with | some v => Q (.d v) M | none => False)
  | .d (.scr xs), .d (.int i) => (match atI xs i with | some v => Q (.d v) M | none => False)
  | .d (.str z), .d (.int i) => z.length ≤ sizeLine ∧ (match atI z.cps.toList i with | some c => Q (.d (.str ⟨#[c]⟩)) M | none => False)
  | .c p, .d (.int i) => (match M p with
    | some (.lst ws) => (match atI ws i with | some w => Q w M | none => False)
    | some (.tup ws) => (match atI ws i with | some w => Q w M | none => False)
    | _ => False)
  | _, _ => False
theorem ab_ix {K : PySem.W.Frag} : Ab2 (rIx K) rIxW := by
  intro F M H x y wx wy Qw Q r rx ry h q
  unfold rIxW at h
  split at h
  · rename_i xs i
    cases ry
    cases rx with
    | tup h1 l1 =>
      cases e : atI xs i with
      | none => rw [e] at h; exact h.elim
      | some d =>
        rw [e] at h
        obtain ⟨v, a, b⟩ := l1.atI e
        exact .inr (.inl ⟨_, _, _, v, rfl, rfl, SqT.of (r.fz _ _ h1), a, qD q (Same.refl F) r b h⟩)
  · rename_i xs i
    cases ry
    cases rx with
    | lst h1 l1 =>
      cases e : atI xs i with
      | none => rw [e] at h; exact h.elim
      | some d =>
        rw [e] at h
        obtain ⟨v, a, b⟩ := l1.atI e
        exact .inl ⟨_, _, _, v, rfl, rfl, SqL.of (r.fz _ _ h1), a, qD q (Same.refl F) r b h⟩
  · rename_i xs i
    cases ry
    cases rx with
    | scr h1 l1 =>
      cases e : atI xs i with
      | none => rw [e] at h; exact h.elim
      | some d =>
        rw [e] at h
        obtain ⟨v, a, b⟩ := l1.atI e
        exact .inl ⟨_, _, _, v, rfl, rfl, .inl (.inr ⟨_, r.fz _ _ h1⟩), a, qD q (Same.refl F) r b h⟩
  · rename_i z i
    cases ry
    cases rx
    cases e : atI z.cps.toList i with
    | none => rw [e] at h; exact h.2.elim
    | some c =>
      rw [e] at h
      exact .inr (.inr ⟨_, _, c, rfl, rfl, h.1, e, qD q (Same.refl F) r (Rp.str _) h.2⟩)
  · rename_i p i
    cases ry
    cases rx
    cases e : M p with
    | none => rw [e] at h; exact h.elim
    | some o =>
      rw [e] at h
      obtain ⟨_, k⟩ := r.mu p o e
      cases o with
      | lst ws =>
        obtain ⟨vs, h1, l1⟩ := k
        cases e2 : atI ws i with
        | none => simp only [e2] at h
        | some w =>
          simp only [e2] at h
          obtain ⟨v, a, b⟩ := l1.atI e2
          exact .inl ⟨_, _, _, v, rfl, rfl, SqL.of h1, a, q _ _ _ _ _ (Same.refl F) r b h⟩
      | tup ws =>
        obtain ⟨vs, h1, l1⟩ := k
        cases e2 : atI ws i with
        | none => simp only [e2] at h
        | some w =>
          simp only [e2] at h
          obtain ⟨v, a, b⟩ := l1.atI e2
          exact .inr (.inl ⟨_, _, _, v, rfl, rfl, SqT.of h1, a, q _ _ _ _ _ (Same.refl F) r b h⟩)
      | _ => exact h.elim
  · exact h.elim
variable {W : WX} {a b : Expr} {wa wb : WE} {pos : Pos}
theorem pew_ix (ha : PEw X W a wa) (hb : PEw X W b wb) (hs : PlainIx b) : PEw X W (.Subscript a b pos) (wOp rIxW wa wb) :=
  PE.imp (pe_ix ix_seq ha hb hs) fun _ _ _ h => can2 ab_ix h
end
end Lw

namespace Lw
open PySem PySem.Spec L2

/-! ## calls -/
abbrev SpW := List Wv → Mh → (Wv → Mh → Prop) → EW → Prop
def lift (sp : SpW) : Sp := fun vs H Q E => ∃ F M ws Qw Ew, Rel F M H ∧ RpWs F vs ws ∧ sp ws M Qw Ew ∧ (∀ v H' F' x M', Ext F F' → Rel F' M' H' → RpW F' v x → Qw x M' → Q v H') ∧ (∀ C H' F' M', Ext F F' → Rel F' M' H' → Ew C M' → E (.ref C) none H')
def wCall (sp : SpW) (dd : List Dt) (t : WA) : WE := fun ρ M Q E => t ρ M (fun ws M1 => sp (ws ++ dd.map .d) M1 Q E) E
section
variable {X : Cx} {W : WX}
theorem call_go {F : Hp} {M : Mh} {ρ : Rho} {σ : St} {H : Hp} {Q : VK} {sp : SpW} {vs : List V} {ws : List Wv} {Qw : Wv → Mh → Prop} {Ew : EW} (r : Rel F M H) (rs : RpWs F vs ws) (h : sp ws M Qw Ew)
    (q : ∀ v H' F' x M', Ext F F' → Rel F' M' H' → RpW F' v x → Qw x M' → Q v H') (e : ∀ C H' F' M', Ext F F' → Rel F' M' H' → Ew C M' → W (.ref C) none σ H') : lift sp vs H Q (L2.WE W σ) :=
  ⟨F, M, ws, Qw, Ew, r, rs, h, q, e⟩
variable {k : Nat} {f C : Addr} {fd : FuncData} {ps : List Str} {sp : SpW} {dvs : List V} {ds : List Value} {dd : List Dt} {x m : Str} {p pos apos : Pos} {a o : Expr} {es : List Expr} {t : WA} {wa wo : WE}
theorem pew_call (F : FnOk X.prog X.w X.K X.mg X.base (L2.CX X.prog X.w) k f fd ps (lift sp)) (hr : Room k X.A) (hg : Gl X x) (hm : X.mg x = some (.ref f)) (hk : PySem.W.keepIn X.K (.ref f) = true) (hb : Binds X.K fd ps ds) (hd : Vals dvs ds) (hdd : ∀ F, RpL F dvs dd) (tk : Takes X W)
    (ha : PAw X W (a :: es) t) (hdb : (x == ("__debug__" : Str)) = false := by decide) (he : starEach (a :: es) X.env = (false, eval a X.env) :: starEach es X.env := by rfl) (hpl : (backTo pos (starEach es X.env)).any (·.1) = false := by rfl) :
    PEw X W (.Call (.Name x p) (a :: es) [] pos) (wCall sp dd t) := by
  refine PE.imp (pe_callSD (E := L2.WE W) F hr hg hm hk hb hd (fun σ => passAt tk σ) ha hdb he hpl) fun σ H Q h => ?_
  obtain ⟨F0, h⟩ := h
  have h1 := canAt.seq (R := RpWs) (w := t) (k := fun ws ρ M1 Q E => sp (ws ++ dd.map .d) M1 Q E) h
  refine ⟨F0, h1.mono fun vs H1 ⟨F1, ws, x1, rs, h2⟩ => ?_⟩
  obtain ⟨ρ, M, Qw, Ew, r', s, h, q, e⟩ := h2
  exact call_go (ρ := ρ) r' (RpWs.append rs (hdd F1).ws) h q e
/-- a call without arguments -/
theorem pew_call0 (F : FnOk X.prog X.w X.K X.mg X.base (L2.CX X.prog X.w) k f fd ps (lift sp)) (hr : Room k X.A) (hg : Gl X x) (hm : X.mg x = some (.ref f)) (hk : PySem.W.keepIn X.K (.ref f) = true) (hb : Binds X.K fd ps ds) (hd : Vals dvs ds) (hdd : ∀ F, RpL F dvs dd) (tk : Takes X W)
    (hdb : (x == ("__debug__" : Str)) = false := by decide) : PEw X W (.Call (.Name x p) [] [] pos) (wCall sp dd wNil) := by
  refine ⟨fun pins s σ H Q I h => ?_⟩
  refine wpAny_Call_Name_kw (ld_glob I hg hm ?_ hdb)
  obtain ⟨F0, ρ, M, Qw, Ew, r', s', h, q, e⟩ := h
  exact PySem.W.callWith_K0 I.kIn hk (run_fnSD (E := L2.WE W) (us := []) (vs := []) F hr hb hd (passAt tk σ) I .nil (call_go (ρ := ρ) (ws := dd.map .d) r' (hdd F0).ws h q e))
/-! ### methods -/
/-- the receiver: an instance of C; its attributes -/
def insOf (C : Addr) (x : Wv) (M : Mh) (k : List (Str × Wv) → Prop) : Prop := match x with
  | .c p => (match M p with | some (.ins C' fs) => C' = C ∧ k fs | _ => False)
  | .d (.obj C' fs) => C' = C ∧ k (fs.map fun q => (q.1, .d q.2))
  | _ => False
theorem RpF.ws {F : Hp} : ∀ {vs : List (Str × V)} {ds : List (Str × Dt)}, RpF F vs ds → RpWF F vs (ds.map fun q => (q.1, .d q.2))
  | _, _, .nil => .nil
  | _, _, .cons h t => .cons ⟨rfl, h⟩ (RpF.ws t)
theorem insOf_ok {F H : Hp} {M : Mh} (r : Rel F M H) {v : V} {x : Wv} (rx : RpW F v x) {k : List (Str × Wv) → Prop} (h : insOf C x M k) : ∃ a dx fs ws, v = .ref a ∧ H a = some (.ins C dx fs) ∧ RpWF F fs ws ∧ k ws := by
  unfold insOf at h
  split at h
  · rename_i p
    cases rx
    split at h
    · rename_i C' fs e
      obtain ⟨rfl, h⟩ := h
      obtain ⟨_, dx, vs, h1, h2⟩ := r.mu p _ e
      exact ⟨p, dx, vs, fs, rfl, h1, h2, h⟩
    · exact h.elim
  · rename_i C' fs
    obtain ⟨rfl, h⟩ := h
    cases rx with
    | obj h1 l1 => exact ⟨_, _, _, _, rfl, r.fz _ _ h1, l1.ws, h⟩
  · exact h.elim
theorem RpWF.none {F : Hp} {f : Str} : ∀ {vs : List (Str × V)} {ws : List (Str × Wv)}, RpWF F vs ws → ws.lookup f = none → vs.lookup f = none
  | _, _, .nil, _ => rfl
  | (k, v) :: vs, (k', w) :: ws, .cons h t, e => by
    have hk : k = k' := h.1
    subst hk
    cases q : f == k with
    | true => simp only [List.lookup, q] at e; cases e
    | false => simp only [List.lookup, q] at e ⊢; exact RpWF.none t e
theorem RpWF.look {F : Hp} {f : Str} {w : Wv} : ∀ {vs : List (Str × V)} {ws : List (Str × Wv)}, RpWF F vs ws → ws.lookup f = some w → ∃ v, vs.lookup f = some v ∧ RpW F v w
  | _, _, .nil, e => nomatch e
  | (k, v) :: vs, (k', w') :: ws, .cons h t, e => by
    have hk : k = k' := h.1
    subst hk
    cases q : f == k with
    | true =>
      simp only [List.lookup, q] at e ⊢
      cases e
      exact ⟨v, rfl, h.2⟩
    | false => simp only [List.lookup, q] at e ⊢; exact RpWF.look t e
def wMeth (C : Addr) (m : Str) (sp : SpW) (dd : List Dt) (o : WE) (t : WA) : WE := fun ρ M Q E => o ρ M (fun x M1 => insOf C x M1 fun fs => fs.lookup m = none ∧ t ρ M1 (fun ws M2 => sp (x :: (ws ++ dd.map .d)) M2 Q E) E) E
/-- what a method's call asks, behind its receiver -/
theorem meth_go {σ : St} {H : Hp} {Q : VK} {t : WA} (h : can RpW W (wMeth C m sp dd wo t) σ H Q) :
    can RpW W wo σ H (fun x H1 => ∃ a dx fs, x = .ref a ∧ H1 a = some (.ins C dx fs) ∧ fs.lookup m = none ∧ can RpWs W t σ H1 (fun vs H2 => ∀ dvs, (∀ F, RpL F dvs dd) → lift sp (x :: (vs ++ dvs)) H2 Q (L2.WE W σ))) := by
  obtain ⟨F0, h⟩ := h
  have h1 := canAt.seq (R := RpW) (w := wo) (k := fun x ρ M1 Q E => insOf C x M1 fun fs => fs.lookup m = none ∧ t ρ M1 (fun ws M2 => sp (x :: (ws ++ dd.map .d)) M2 Q E) E) h
  refine ⟨F0, h1.mono fun v H1 ⟨F1, x, x1, rx, h2⟩ => ?_⟩
  obtain ⟨ρ, M, Qw, Ew, r', s, h, q, e⟩ := h2
  obtain ⟨a, dx, fs, ws, ev, ea, rf, hl, h3⟩ := insOf_ok r' rx h
  subst ev
  refine ⟨a, dx, fs, rfl, ea, rf.none hl, F1, ?_⟩
  have h4 : canAt RpW W F1 (wBind t fun ws ρ M2 Q E => sp (x :: (ws ++ dd.map .d)) M2 Q E) σ H1 Q := ⟨ρ, M, Qw, Ew, r', s, h3, q, e⟩
  have h5 := canAt.seq (R := RpWs) h4
  refine h5.mono fun vs H2 ⟨F2, ws2, x2, rs, h6⟩ dvs hdd => ?_
  obtain ⟨ρ2, M2, Qw2, Ew2, r2, s2, h6, q2, e2⟩ := h6
  exact call_go (ρ := ρ2) r2 (.cons (RpW.mono x2 rx) (RpWs.append rs (hdd F2).ws)) h6 q2 e2
theorem pew_meth {pl : Sem Bool} (c : Cls X.K C) (hm : Meth X.K C m f) (F : FnOk X.prog X.w X.K X.mg X.base (L2.CX X.prog X.w) k f fd ps (lift sp)) (hr : Room k X.A) (hb : Binds X.K fd ps ds) (hd : Vals dvs ds) (hdd : ∀ F, RpL F dvs dd) (tk : Takes X W) (he : PEw X W o wo) (ha : PAw X W (a :: es) t)
    (hst : starEach (a :: es) X.env = (false, eval a X.env) :: starEach es X.env := by rfl) (hpl : (backTo pos (starEach es X.env)).any (·.1) = false := by rfl)
    (ht : eval (.Call (.Attribute o m apos) (a :: es) [] pos) X.env = (do
      let ov ← eval o X.env
      standAt apos.atName
      let (f, first) ← holding [ov] (getMethod ov m pl)
      callWith pos f first (backTo pos (starEach (a :: es) X.env)) (backToKw pos (keywordEach [] X.env))) := by rfl) :
    PEw X W (.Call (.Attribute o m apos) (a :: es) [] pos) (wMeth C m sp dd wo t) := by
  refine ⟨fun pins s σ H Q I h => ?_⟩
  refine PySem.W.methodCall_KW (pl := pl) (thn (he.run pins s σ H _ I (meth_go h)) fun u s1 ⟨x, H1, I1, rx, a', dx, fs, ex, ea, l, q⟩ => ?_) ht
  subst ex
  obtain rfl : u = Value.ref a' := rx
  refine getmeth_ok I1 ea c hm l ?_
  refine PySem.W.callWith_K (first := [.ref a']) (h₀ := X.base) I.ok.mod.kin hm.kp (thn (ha.run pos pins s1 σ H1 _ I1 q) fun us s2 ⟨vs, H2, I2, r, q2⟩ => ⟨I2.kIn, ?_⟩) hst hpl
  exact run_fnSD (E := L2.WE W) (us := .ref a' :: us) (vs := .ref a' :: vs) F hr hb hd (passAt tk σ) I2 (.cons rfl r) (q2 dvs hdd)
theorem pew_meth0 {pl : Sem Bool} (c : Cls X.K C) (hm : Meth X.K C m f) (F : FnOk X.prog X.w X.K X.mg X.base (L2.CX X.prog X.w) k f fd ps (lift sp)) (hr : Room k X.A) (hb : Binds X.K fd ps ds) (hd : Vals dvs ds) (hdd : ∀ F, RpL F dvs dd) (tk : Takes X W) (he : PEw X W o wo)
    (ht : eval (.Call (.Attribute o m apos) [] [] pos) X.env = (do
      let ov ← eval o X.env
      standAt apos.atName
      let (f, first) ← holding [ov] (getMethod ov m pl)
      callWith pos f first (backTo pos (starEach [] X.env)) (backToKw pos (keywordEach [] X.env))) := by rfl) :
    PEw X W (.Call (.Attribute o m apos) [] [] pos) (wMeth C m sp dd wo wNil) := by
  refine ⟨fun pins s σ H Q I h => ?_⟩
  refine PySem.W.methodCall_KW (pl := pl) (thn (he.run pins s σ H _ I (meth_go h)) fun u s1 ⟨x, H1, I1, rx, a', dx, fs, ex, ea, l, q⟩ => ?_) ht
  subst ex
  obtain rfl : u = Value.ref a' := rx
  refine getmeth_ok I1 ea c hm l ?_
  obtain ⟨F1, q⟩ := q
  have q2 := canAt.ret q Paired.nil
  exact PySem.W.callWith_K0 (first := [.ref a']) I1.kIn hm.kp (run_fnSD (E := L2.WE W) (us := [.ref a']) (vs := [.ref a']) F hr hb hd (passAt tk σ) I1 (.cons rfl .nil) (q2 dvs hdd))
/-! ### instances made -/
def isNone (v : Wv) : Prop := match v with | .d .non => True | _ => False
def wMake (C : Addr) (sp : SpW) (dd : List Dt) (t : WA) : WE := fun ρ M Q E => t ρ M (fun ws M1 => ∀ x, M1 x = none → sp (.c x :: (ws ++ dd.map .d)) (M1.set x (.ins C [])) (fun v M2 => isNone v ∧ Q (.c x) M2) E) E
theorem run_makeS {pins : List (Addr × Obj)} {σ : St} {H : Hp} {s : Shared} {Q : VK} {us : List Value} {vs : List V} {sp : Sp} {E : St → XK} (M : Mk X.K C f) (F : FnOk X.prog X.w X.K X.mg X.base (L2.CX X.prog X.w) k f fd ps sp) (hr : Room (k + 1) X.A) (hb : Binds X.K fd ps ds) (hd : Vals dvs ds)
    (hx : PassesAt (L2.CX X.prog X.w) X σ (E σ)) (hE : True) (I : Inv X pins σ H s) (r : Vals vs us)
    (h : ∀ x dx, H x = none → H dx = none → dx ≠ x → sp (.ref x :: (vs ++ dvs)) (upd (upd H dx (.own x)) x (.ins C dx [])) (fun v H2 => v = .non ∧ Q (.ref x) H2) (E σ)) :
    wpAny (model X.prog X.w) X.A (call (.ref C) us) (EP X pins σ Q) X.xe s := by
  have hq := h (s.heap.objs.size + 1) s.heap.objs.size (I.hok.fresh (Nat.le_succ _)) (I.hok.fresh (Nat.le_refl _)) (Nat.ne_of_lt (Nat.lt_succ_self _))
  have I2 := Inv.made (C := C) I
  have r2 : Vals (V.ref (s.heap.objs.size + 1) :: (vs ++ dvs)) (Value.ref (s.heap.objs.size + 1) :: (us ++ ds)) := .cons rfl (r.append hd)
  have hl : (Value.ref (s.heap.objs.size + 1) :: us ++ ds).length = ps.length := by
    have e := r2.length
    rw [F.len _ _ _ _ hq] at e
    exact e.symm
  refine wpAny_call (make_map (f := f) I.kIn M.makes M.init (beq_iff_eq.mp M.fn) (codeAny_mono (F.run _ X.stack _ _ ⟨Value.ref (s.heap.objs.size + 1) :: us, []⟩ (Value.ref (s.heap.objs.size + 1) :: (us ++ ds)) _ _ (E σ) (hr.make C us [])
    (I2.env0.make C us []) (hb _ (Value.ref (s.heap.objs.size + 1) :: us) I2.kIn hl) r2 hq) fun r s' hq' => ?_))
  cases r with
  | error e => exact hx pins _ _ e s' I2 hq'
  | ok fl =>
    cases fl with
    | ret u =>
      obtain ⟨v, H', I3, rv, ev, q3⟩ := I2.after hq'
      subst ev
      exact ⟨rv, ⟨V.ref (s.heap.objs.size + 1), H', I3, rfl, q3⟩⟩
    | next => exact False.elim hq'
    | brk => exact False.elim hq'
    | cont => exact False.elim hq'
theorem make_go {F : Hp} {M : Mh} {σ : St} {H : Hp} {Q : VK} {vs : List V} {ws : List Wv} {Qw : Wv → Mh → Prop} {Ew : EW} (r : Rel F M H) (rs : RpWs F vs ws)
    (h : ∀ x, M x = none → sp (.c x :: ws) (M.set x (.ins C [])) (fun v M2 => isNone v ∧ Qw (.c x) M2) Ew)
    (q : ∀ v H' F' x M', Ext F F' → Rel F' M' H' → RpW F' v x → Qw x M' → Q v H') (e : ∀ C H' F' M', Ext F F' → Rel F' M' H' → Ew C M' → W (.ref C) none σ H') :
    ∀ x dx, H x = none → H dx = none → dx ≠ x → lift sp (.ref x :: vs) (upd (upd H dx (.own x)) x (.ins C dx [])) (fun v H2 => v = .non ∧ Q (.ref x) H2) (L2.WE W σ) := by
  intro x dx hx hdx ne
  have r1 : Rel F M (upd H dx (.own x)) := ⟨fun b u z => by rw [upd_ne (ne_of_none (r.fz b u z) hdx)]; exact r.fz b u z, fun a o z => by
    obtain ⟨f1, k1⟩ := r.mu a o z
    have : a ≠ dx := by intro w; rw [w, r.noM hdx] at z; cases z
    exact ⟨f1, k1.heap (upd_ne this)⟩⟩
  have hx1 : upd H dx (.own x) x = none := by rw [upd_ne (Ne.symm ne)]; exact hx
  have r2 : Rel F (M.set x (.ins C [])) (upd (upd H dx (.own x)) x (.ins C dx [])) := r1.newM hx1 ⟨dx, [], upd_same, .nil⟩
  refine ⟨F, _, .c x :: ws, _, Ew, r2, .cons rfl rs, h x (r.noM hx), fun v H' F' w M' a b c ⟨d1, d2⟩ => ?_, fun C' H' F' M' a b d => e C' H' F' M' a b d⟩
  unfold isNone at d1
  split at d1
  · cases c
    exact ⟨rfl, q (.ref x) H' F' (.c x) M' a b rfl d2⟩
  · exact d1.elim
theorem pew_make (Mk' : Mk X.K C f) (F : FnOk X.prog X.w X.K X.mg X.base (L2.CX X.prog X.w) k f fd ps (lift sp)) (hr : Room (k + 1) X.A) (hg : Gl X x) (hm : X.mg x = some (.ref C)) (hb : Binds X.K fd ps ds) (hd : Vals dvs ds) (hdd : ∀ F, RpL F dvs dd) (tk : Takes X W)
    (ha : PAw X W (a :: es) t) (hdb : (x == ("__debug__" : Str)) = false := by decide) (he : starEach (a :: es) X.env = (false, eval a X.env) :: starEach es X.env := by rfl) (hpl : (backTo pos (starEach es X.env)).any (·.1) = false := by rfl) :
    PEw X W (.Call (.Name x p) (a :: es) [] pos) (wMake C sp dd t) := by
  refine ⟨fun pins s σ H Q I h => ?_⟩
  refine wpAny_Call_Name_kw (ld_glob I hg hm ?_ hdb)
  obtain ⟨F0, h⟩ := h
  have h1 := canAt.seq (R := RpWs) (w := t) (k := fun ws ρ M1 (Q : Wv → Mh → Prop) E => ∀ x, M1 x = none → sp (.c x :: (ws ++ dd.map .d)) (M1.set x (.ins C [])) (fun v M2 => isNone v ∧ Q (.c x) M2) E) h
  refine PySem.W.callWith_K (h₀ := X.base) I.ok.mod.kin Mk'.kp (thn (ha.run pos pins s σ H _ I ⟨F0, h1⟩) fun us s1 ⟨vs, H1, I1, r, F1, ws, x1, rs, h2⟩ => ⟨I1.kIn, ?_⟩) he hpl
  obtain ⟨ρ, M, Qw, Ew, r', s', h, q, e⟩ := h2
  exact run_makeS (E := L2.WE W) Mk' F hr hb hd (passAt tk σ) trivial I1 r (make_go r' (RpWs.append rs (hdd F1).ws) h q e)
theorem pew_make0 (Mk' : Mk X.K C f) (F : FnOk X.prog X.w X.K X.mg X.base (L2.CX X.prog X.w) k f fd ps (lift sp)) (hr : Room (k + 1) X.A) (hg : Gl X x) (hm : X.mg x = some (.ref C)) (hb : Binds X.K fd ps ds) (hd : Vals dvs ds) (hdd : ∀ F, RpL F dvs dd) (tk : Takes X W)
    (hdb : (x == ("__debug__" : Str)) = false := by decide) : PEw X W (.Call (.Name x p) [] [] pos) (wMake C sp dd wNil) := by
  refine ⟨fun pins s σ H Q I h => ?_⟩
  refine wpAny_Call_Name_kw (ld_glob I hg hm ?_ hdb)
  obtain ⟨F0, ρ, M, Qw, Ew, r', s', h, q, e⟩ := h
  exact PySem.W.callWith_K0 I.kIn Mk'.kp (run_makeS (E := L2.WE W) (us := []) (vs := []) Mk' F hr hb hd (passAt tk σ) trivial I .nil (make_go r' (hdd F0).ws h q e))
/-! ### attributes -/
def wFld (C : Addr) (f : Str) (o : WE) : WE := fun ρ M Q E => o ρ M (fun x M1 => insOf C x M1 fun fs => match fs.lookup f with | some w => Q w M1 | none => False) E
theorem pew_fld {f : Str} (cl : Cls X.K C) (na : NoAttr X.K C f) (he : PEw X W o wo) (hb : attributeBase o f X.env (eval o X.env) = eval o X.env) : PEw X W (.Attribute o f pos) (wFld C f wo) := by
  refine PE.imp (pe_fld he hb) fun σ H Q h => ?_
  obtain ⟨F0, h⟩ := h
  have h1 := canAt.seq (R := RpW) (w := wo) (k := fun x ρ M1 (Q : Wv → Mh → Prop) E => insOf C x M1 fun fs => match fs.lookup f with | some w => Q w M1 | none => False) h
  refine ⟨F0, h1.mono fun v H1 ⟨F1, x, x1, rx, h2⟩ => ?_⟩
  obtain ⟨ρ, M, Qw, Ew, r', s, h, q, e⟩ := h2
  obtain ⟨a, dx, fs, ws, ev, ea, rf, h3⟩ := insOf_ok r' rx h
  cases hl : ws.lookup f with
  | none => rw [hl] at h3; exact h3.elim
  | some w =>
    rw [hl] at h3
    obtain ⟨u, l, ru⟩ := rf.look hl
    exact ⟨a, C, dx, fs, u, ev, ea, cl, na, l, q u H1 F1 w M (Same.refl F1) r' ru h3⟩
end
end Lw

namespace Lw
open PySem PySem.Spec L2

/-! ## statements -/
structure WEnds where
  nx : Rho → Mh → Prop
  rt : Wv → Mh → Prop
  bk : Rho → Mh → Prop := fun _ _ => False
  ct : Rho → Mh → Prop := fun _ _ => False
  ex : Addr → Rho → Mh → Prop
abbrev WS := WEnds → Rho → Mh → Prop
structure SEnd (W : WX) (F : Hp) (Dw : WEnds) (D : Ends) : Prop where
  nx : ∀ σ' H' F' ρ' M', Ext F F' → Rel F' M' H' → SlOk F' σ' ρ' → Dw.nx ρ' M' → D.nx σ' H'
  rt : ∀ v H' F' x M', Ext F F' → Rel F' M' H' → RpW F' v x → Dw.rt x M' → D.rt v H'
  bk : ∀ σ' H' F' ρ' M', Ext F F' → Rel F' M' H' → SlOk F' σ' ρ' → Dw.bk ρ' M' → D.bk σ' H'
  ct : ∀ σ' H' F' ρ' M', Ext F F' → Rel F' M' H' → SlOk F' σ' ρ' → Dw.ct ρ' M' → D.ct σ' H'
  ex : ∀ C σ' H' F' ρ' M', Ext F F' → Rel F' M' H' → SlOk F' σ' ρ' → Dw.ex C ρ' M' → W (.ref C) none σ' H'
theorem SEnd.mono {W : WX} {F F' : Hp} {Dw : WEnds} {D : Ends} (x : Ext F F') (s : SEnd W F Dw D) : SEnd W F' Dw D :=
  ⟨fun a b c d e f => s.nx a b c d e (Same.trans x f), fun a b c d e f => s.rt a b c d e (Same.trans x f), fun a b c d e f => s.bk a b c d e (Same.trans x f), fun a b c d e f => s.ct a b c d e (Same.trans x f), fun g a b c d e f => s.ex g a b c d e (Same.trans x f)⟩
def canSAt (W : WX) (F : Hp) (w : WS) : TS := fun D σ H => ∃ ρ M Dw, Rel F M H ∧ SlOk F σ ρ ∧ w Dw ρ M ∧ SEnd W F Dw D
def canS (W : WX) (w : WS) : TS := fun D σ H => ∃ F, canSAt W F w D σ H
abbrev PSw (X : Cx) (W : WX) (st : Stmt) (w : WS) : Prop := PS X st (canS W w)
abbrev PSsw (X : Cx) (W : WX) (st : List Stmt) (w : WS) : Prop := PSs X st (canS W w)
theorem PS.imp {X : Cx} {e : Stmt} {t t' : TS} (h : PS X e t) (k : ∀ D σ H, t' D σ H → t D σ H) : PS X e t' := ⟨fun pins s σ H D I z => h.run pins s σ H D I (k D σ H z)⟩
theorem PSs.imp {X : Cx} {e : List Stmt} {t t' : TS} (h : PSs X e t) (k : ∀ D σ H, t' D σ H → t D σ H) : PSs X e t' := ⟨fun pins s σ H D I z => h.run pins s σ H D I (k D σ H z)⟩
/-- a statement that begins with an expression -/
def wThen {β : Type} (e : WG β) (k : β → WS) : WS := fun D ρ M => e ρ M (fun x M1 => k x D ρ M1) (fun C M1 => D.ex C ρ M1)
section
variable {X : Cx} {W : WX}
theorem can_thenAt {α β : Type} {R : Hp → α → β → Prop} {F : Hp} {w : WG β} {k : β → WS} {D : Ends} {σ : St} {H : Hp} (h : canSAt W F (wThen w k) D σ H) : canAt R W F w σ H (fun v H1 => ∃ F' x, Ext F F' ∧ R F' v x ∧ canSAt W F' (k x) D σ H1) := by
  obtain ⟨ρ, M, Dw, r, s, h, e⟩ := h
  exact ⟨ρ, M, _, _, r, s, h, fun v H' F' x M' a b c d => ⟨F', x, a, c, ρ, M', Dw, b, s.mono a, d, e.mono a⟩, fun C H' F' M' a b d => e.ex C σ H' F' ρ M' a b (s.mono a) d⟩
theorem can_then {α β : Type} {R : Hp → α → β → Prop} {w : WG β} {k : β → WS} {D : Ends} {σ : St} {H : Hp} (h : canS W (wThen w k) D σ H) : can R W w σ H (fun v H1 => ∃ F x, R F v x ∧ canSAt W F (k x) D σ H1) := by
  obtain ⟨F, ρ, M, Dw, r, s, h, e⟩ := h
  exact ⟨F, ρ, M, _, _, r, s, h, fun v H' F' x M' a b c d => ⟨F', x, c, ρ, M', Dw, b, s.mono a, d, e.mono a⟩, fun C H' F' M' a b d => e.ex C σ H' F' ρ M' a b (s.mono a) d⟩
variable {st : Stmt} {rest : List Stmt} {w u : WS} {e : Expr} {we : WE} {pos pos' : Pos}
def wSeq (w u : WS) : WS := fun D ρ M => w { D with nx := u D } ρ M
def wNext : WS := fun D ρ M => D.nx ρ M
theorem can_seqS {D : Ends} {σ : St} {H : Hp} (h : canS W (wSeq w u) D σ H) : canS W w { D with nx := canS W u D } σ H := by
  obtain ⟨F, ρ, M, Dw, r, s, h, e⟩ := h
  exact ⟨F, ρ, M, _, r, s, h, ⟨fun σ' H' F' ρ' M' a b c d => ⟨F', ρ', M', Dw, b, c, d, e.mono a⟩, e.rt, e.bk, e.ct, e.ex⟩⟩
theorem pssw_nil : PSsw X W [] wNext := PSs.imp pss_nil fun D σ H ⟨F, ρ, M, Dw, r, s, h, e⟩ => e.nx σ H F ρ M (Same.refl F) r s h
theorem pssw_cons (h1 : PSw X W st w) (h2 : PSsw X W rest u) : PSsw X W (st :: rest) (wSeq w u) := PSs.imp (pss_cons h1 h2) fun D σ H h => can_seqS h
theorem pssw_one (h1 : PSw X W st w) : PSsw X W [st] w := pss_one h1
theorem psw_pass : PSw X W (.Pass pos) wNext := PS.imp ps_pass fun D σ H ⟨F, ρ, M, Dw, r, s, h, e⟩ => e.nx σ H F ρ M (Same.refl F) r s h
def wBrk : WS := fun D ρ M => D.bk ρ M
def wCnt : WS := fun D ρ M => D.ct ρ M
theorem psw_break : PSw X W (.Break pos) wBrk := PS.imp ps_break fun D σ H ⟨F, ρ, M, Dw, r, s, h, e⟩ => e.bk σ H F ρ M (Same.refl F) r s h
theorem psw_continue : PSw X W (.Continue pos) wCnt := PS.imp ps_continue fun D σ H ⟨F, ρ, M, Dw, r, s, h, e⟩ => e.ct σ H F ρ M (Same.refl F) r s h
theorem psw_doc {x j} : PSw X W (.Expr (.Constant (.str x) j pos) pos') wNext := PS.imp ps_doc fun D σ H ⟨F, ρ, M, Dw, r, s, h, e⟩ => e.nx σ H F ρ M (Same.refl F) r s h
/-- e as a statement -/
def wDrop (e : WE) : WS := fun D ρ M => e ρ M (fun _ M1 => D.nx ρ M1) (fun C M1 => D.ex C ρ M1)
theorem psw_expr (he : PEw X W e we) (hs : swapsWith e none pos.line X.env = pure false := by rfl) : PSw X W (.Expr e pos) (wDrop we) := by
  refine PS.imp (ps_expr he hs) fun D σ H h => ?_
  obtain ⟨F, h⟩ := can_then (R := RpW) (w := we) (k := fun _ D ρ M => D.nx ρ M) h
  exact ⟨F, h.mono fun v H1 ⟨F', x, rx, ρ, M, Dw, r, s, h, e⟩ => e.nx σ H1 F' ρ M (Same.refl F') r s h⟩
def wRet (e : WE) : WS := fun D ρ M => e ρ M D.rt (fun C M1 => D.ex C ρ M1)
theorem psw_ret (he : PEw X W e we) : PSw X W (.Return (some e) pos) (wRet we) := by
  refine PS.imp (ps_ret he) fun D σ H h => ?_
  obtain ⟨F, h⟩ := can_then (R := RpW) (w := we) (k := fun x D ρ M => D.rt x M) h
  exact ⟨F, h.mono fun v H1 ⟨F', x, rx, ρ, M, Dw, r, s, h, e⟩ => e.rt v H1 F' x M (Same.refl F') r rx h⟩
def wRetN : WS := fun D _ M => D.rt (.d .non) M
theorem psw_retN : PSw X W (.Return none pos) wRetN := PS.imp ps_retN fun D σ H ⟨F, ρ, M, Dw, r, s, h, e⟩ => e.rt .non H F (.d .non) M (Same.refl F) r Rp.non h
def wIf (c : WT) (w u : WS) : WS := fun D ρ M => c ρ M (fun b M1 => bch b (w D ρ M1) (u D ρ M1)) (fun C M1 => D.ex C ρ M1)
theorem psw_if {c : Expr} {a b : List Stmt} {wc : WT} (hc : PTw X W c wc) (ha : PSsw X W a w) (hb : PSsw X W b u) : PSw X W (.If c a b pos) (wIf wc w u) := by
  refine PS.imp (ps_if hc ha hb) fun D σ H h => ?_
  obtain ⟨F, h⟩ := can_then (R := RB) (w := wc) (k := fun c D ρ M => bch c (w D ρ M) (u D ρ M)) h
  refine ⟨F, h.mono fun v H1 ⟨F', x, rx, ρ, M, Dw, r, s, h, e⟩ => ?_⟩
  cases rx
  cases v with
  | true => exact iteT ⟨F', ρ, M, Dw, r, s, h, e⟩
  | false => exact iteF ⟨F', ρ, M, Dw, r, s, h, e⟩
def wNever : WS := fun _ _ _ => False
theorem psw_never : PSw X W st wNever := PS.imp ps_never fun D σ H ⟨F, ρ, M, Dw, r, s, h, e⟩ => h
/-! ### raise of an own error -/
def wRaise (C : Addr) : WS := fun D ρ M => D.ex C ρ M
theorem pmk_own0 {C : Addr} {bmB : List Value} {B newId initId : String} {x : Str} {p : Pos} (F : PySem.ExcBaseFacts B newId initId bmB) (q : PySem.W.excIn X.K C bmB newId = true) (gC : X.mg x = some (.ref C)) (kC : PySem.W.keepIn X.K (.ref C) = true) (r : Raises X (.ref C)) (hg : Gl X x)
    (hdb : (x == ("__debug__" : Str)) = false := by decide) : PMk X (.Call (.Name x p) [] [] pos) (fun _ H Q => Q (.ref C) none H) := by
  intro pins s σ H Q I h
  refine wpAny_Call_Name_kw (ld_glob I hg gC ?_ hdb)
  refine PySem.W.callWith_K0 I.kIn kC ?_
  obtain ⟨bm, N, nm, qn, bs, hdct, sn, sub, ab, col, dd, k0, k1, k2, k3, k5, mN, hC, hN, hni, T⟩ := exc_obj I.kIn q
  refine PySem.wpAny_call_exc_subT F T hC hN hni (fun h' e hm => ?_) (by show 0 ≤ sizeLine; exact Nat.zero_le _)
  exact mk_of I hm r h (I.hok.gone hm.new)
/-- an own error's class, as the top has made it -/
structure ExCls (K : PySem.W.Frag) (mg : Str → Option Value) (x : Str) (C : Addr) : Prop where
  ob : PySem.W.excIn K C [.type "ValueError", .type "Exception", .type "BaseException", .type "object"] "ValueError.__new__" = true
  at_ : mg x = some (.ref C)
  kp : PySem.W.keepIn K (.ref C) = true
  sb : PySem.W.subIn K (.ref C) (.type "BaseException") = some true
  ty : PySem.W.typeIn K (.ref C) = some (.type "type")
theorem psw_raise {C : Addr} {x : Str} {p : Pos} (hc : X.calm = true) (tk : Takes X W) (E : ExCls X.K X.mg x C) (hg : Gl X x) (hdb : (x == ("__debug__" : Str)) = false := by decide) : PSw X W (.Raise (some (.Call (.Name x p) [] [] pos')) none pos) (wRaise C) := by
  refine PS.imp (ps_raise hc tk (pmk_own0 PySem.F.excBase_ValueError E.ob E.at_ E.kp (raises_own E.sb E.ty) hg hdb)) fun D σ H ⟨F, ρ, M, Dw, r, s, h, e⟩ => ?_
  exact e.ex C σ H F ρ M (Same.refl F) r s h
/-! ### targets -/
abbrev WTg := Wv → Rho → Mh → (Rho → Mh → Prop) → Prop
abbrev WTgs := List Wv → Rho → Mh → (Rho → Mh → Prop) → Prop
def Keeps (vs : List Nat) (σ σ' : St) : Prop := wipe σ' vs = wipe σ vs
theorem Keeps.refl {vs : List Nat} {σ : St} : Keeps vs σ σ := rfl
theorem Keeps.trans {vs : List Nat} {σ σ1 σ2 : St} (a : Keeps vs σ σ1) (b : Keeps vs σ1 σ2) : Keeps vs σ σ2 := Eq.trans b a
theorem wipe_set {i : Nat} {o : Option V} : ∀ {vs : List Nat} {σ : St}, i ∈ vs → wipe (σ.set i o) vs = wipe σ vs
  | [], _, h => by cases h
  | v :: vs, σ, h => by
    show (wipe (σ.set i o) vs).set v none = (wipe σ vs).set v none
    by_cases hv : i ∈ vs
    · rw [wipe_set hv]
    · have e : i = v := by
        rcases List.mem_cons.mp h with e | e
        · exact e
        · exact absurd e hv
      subst e
      have key : ∀ (vs : List Nat) (σ : St), i ∉ vs → wipe (σ.set i o) vs = (wipe σ vs).set i o := by
        intro vs
        induction vs with
        | nil => intro σ _; rfl
        | cons a r ih =>
          intro σ h
          have h1 : i ≠ a := fun e => h (by rw [e]; exact List.mem_cons_self ..)
          show (wipe (σ.set i o) r).set a none = ((wipe σ r).set a none).set i o
          rw [ih σ fun z => h (List.mem_cons_of_mem _ z), List.set_comm _ _ h1]
      rw [key vs σ hv, List.set_set]
def canG (vs : List Nat) (g : WTg) : TG := fun v σ H Q => ∃ F ρ M x Qw, Rel F M H ∧ SlOk F σ ρ ∧ RpW F v x ∧ g x ρ M Qw ∧ ∀ σ' H' F' ρ' M', Keeps vs σ σ' → Ext F F' → Rel F' M' H' → SlOk F' σ' ρ' → Qw ρ' M' → Q σ' H'
def canGs (vs : List Nat) (g : WTgs) : TGs := fun v σ H Q => ∃ F ρ M xs Qw, Rel F M H ∧ SlOk F σ ρ ∧ RpWs F v xs ∧ g xs ρ M Qw ∧ ∀ σ' H' F' ρ' M', Keeps vs σ σ' → Ext F F' → Rel F' M' H' → SlOk F' σ' ρ' → Qw ρ' M' → Q σ' H'
abbrev PGw (X : Cx) (vs : List Nat) (e : Expr) (g : WTg) : Prop := PG X e (canG vs g)
abbrev PGsw (X : Cx) (vs : List Nat) (e : List Expr) (g : WTgs) : Prop := PGs X e (canGs vs g)
theorem PG.imp {X : Cx} {e : Expr} {t t' : TG} (h : PG X e t) (k : ∀ v σ H Q, t' v σ H Q → t v σ H Q) : PG X e t' := ⟨fun pins s σ H v u Q I r z => h.run pins s σ H v u Q I r (k v σ H Q z)⟩
theorem PGs.imp {X : Cx} {e : List Expr} {t t' : TGs} (h : PGs X e t) (k : ∀ v σ H Q, t' v σ H Q → t v σ H Q) : PGs X e t' := ⟨fun pins s σ H v u Q I r z => h.run pins s σ H v u Q I r (k v σ H Q z)⟩
variable {vs : List Nat}
def wgName (i : Nat) : WTg := fun x ρ M Q => Q (ρ.set i (some x)) M
theorem pgw_name {i : Nat} {x : Str} (hN : X.N.Nodup) (hiv : i ∈ vs := by decide) (hi : X.N[i]? = some x := by rfl) (hx : Loc X.env.scope x := by first | exact Or.inl rfl | exact Or.inr rfl) (hf : X.fn x = true ∨ X.env.scope.names.lookup x = some .local := by first | exact .inl rfl | exact .inr rfl | assumption) : PGw X vs (.Name x pos) (wgName i) := by
  refine PG.imp (pg_name hN hi hx hf) fun v σ H Q ⟨F, ρ, M, w, Qw, r, s, rx, h, q⟩ => ?_
  exact q _ H F _ M (wipe_set hiv) (Same.refl F) r (s.set i rx) h
def wgNil : WTgs := fun ws ρ M Q => match ws with | [] => Q ρ M | _ => False
def wgCons (g : WTg) (t : WTgs) : WTgs := fun ws ρ M Q => match ws with | x :: r => g x ρ M (fun ρ' M' => t r ρ' M' Q) | [] => False
theorem pgsw_nil : PGsw X vs [] wgNil := by
  refine PGs.imp pgs_nil fun v σ H Q ⟨F, ρ, M, ws, Qw, r, s, rx, h, q⟩ => ?_
  cases rx with
  | nil => exact ⟨rfl, q σ H F ρ M Keeps.refl (Same.refl F) r s h⟩
  | cons _ _ => exact h.elim
theorem pgsw_cons {es : List Expr} {g : WTg} {t : WTgs} (h1 : PGw X vs e g) (h2 : PGsw X vs es t)
    (hs : (assignEach (e :: es) X.env).map (·.2) = assign e X.env :: (assignEach es X.env).map (·.2) := by rfl) : PGsw X vs (e :: es) (wgCons g t) := by
  refine PGs.imp (pgs_cons h1 h2 hs) fun v σ H Q ⟨F, ρ, M, ws, Qw, r, s, rx, h, q⟩ => ?_
  cases rx with
  | nil => exact h.elim
  | cons rv rr =>
    refine ⟨_, _, rfl, F, ρ, M, _, _, r, s, rv, h, fun σ' H' F' ρ' M' z a b c d => ?_⟩
    exact ⟨F', ρ', M', _, Qw, b, c, RpWs.mono a rr, d, fun σ2 H2 F2 ρ2 M2 z2 a2 b2 c2 d2 => q σ2 H2 F2 ρ2 M2 (z.trans z2) (Same.trans a a2) b2 c2 d2⟩
/-- the items of a tuple -/
def tupOf (x : Wv) (M : Mh) (k : List Wv → Prop) : Prop := match x with
  | .d (.tup ds) => k (ds.map .d)
  | .c p => (match M p with | some (.tup ws) => k ws | _ => False)
  | _ => False
theorem tupOf_ok {F H : Hp} {M : Mh} (r : Rel F M H) {v : V} {x : Wv} (rx : RpW F v x) {k : List Wv → Prop} (h : tupOf x M k) : ∃ a vs ws, v = .ref a ∧ H a = some (.tup vs) ∧ RpWs F vs ws ∧ k ws := by
  unfold tupOf at h
  split at h
  · cases rx with
    | tup h1 l1 => exact ⟨_, _, _, rfl, r.fz _ _ h1, l1.ws, h⟩
  · rename_i p
    cases rx
    split at h
    · rename_i ws e
      obtain ⟨_, vs, h1, h2⟩ := r.mu p _ e
      exact ⟨p, vs, ws, rfl, h1, h2, h⟩
    · exact h.elim
  · exact h.elim
def wgTup (n : Nat) (t : WTgs) : WTg := fun x ρ M Q => tupOf x M fun ws => ws.length = n ∧ t ws ρ M Q
theorem pgw_tup {es : List Expr} {k : Nat} {t : WTgs} {n : Nat} (hc : X.calm = true) (h : PGsw X vs es t)
    (hn : (assignEach es X.env).length = n := by rfl) (hst : (assignEach es X.env).findIdx? (·.1) = none := by rfl) : PGw X vs (.Tuple es k pos) (wgTup n t) := by
  refine PG.imp (pg_tup hc h hn hst) fun v σ H Q ⟨F, ρ, M, w, Qw, r, s, rx, h, q⟩ => ?_
  obtain ⟨a, us, ws, ev, ea, rs, hl, h⟩ := tupOf_ok r rx h
  exact ⟨a, us, ev, SqT.of ea, rs.len.trans hl, F, ρ, M, ws, Qw, r, s, rs, h, q⟩
/-! ### assignment -/
def wAsg (e : WE) (g : WTg) : WS := fun D ρ M => e ρ M (fun x M1 => g x ρ M1 D.nx) (fun C M1 => D.ex C ρ M1)
def wSet (i : Nat) (e : WE) : WS := fun D ρ M => e ρ M (fun x M1 => D.nx (ρ.set i (some x)) M1) (fun C M1 => D.ex C ρ M1)
theorem can_asg {g : WTg} {D : Ends} {σ : St} {H : Hp} (h : canS W (wAsg we g) D σ H) : tAsg (can RpW W we) (canG vs g) D σ H := by
  obtain ⟨F, h⟩ := can_then (R := RpW) (w := we) (k := fun x D ρ M => g x ρ M D.nx) h
  exact ⟨F, h.mono fun v H1 ⟨F', x, rx, ρ, M, Dw, r, s, h, e⟩ => ⟨F', ρ, M, x, _, r, s, rx, h, fun σ' H' F'' ρ' M' _ a b c d => e.nx σ' H' F'' ρ' M' a b c d⟩⟩
theorem psw_asg {tg : Expr} {g : WTg} (he : PEw X W e we) (hg : PGw X vs tg g) (hs : swapsWithSole [tg] e pos.line X.env = pure false := by rfl) (hw : swappedStores [tg] e X.env = pure none := by rfl)
    (h1 : (assignEach [tg] X.env).map (·.2) = [assign tg X.env] := by rfl) : PSw X W (.Assign [tg] e pos) (wAsg we g) := PS.imp (ps_asg he hg hs hw h1) fun D σ H h => can_asg h
theorem psw_set {i : Nat} {x : Str} (hN : X.N.Nodup) (he : PEw X W e we) (hi : X.N[i]? = some x := by rfl) (hx : Loc X.env.scope x := by first | exact Or.inl rfl | exact Or.inr rfl) (hs : swapsWith e (some (.Name x pos')) pos.line X.env = pure false := by rfl) (hf : X.fn x = true ∨ X.env.scope.names.lookup x = some .local := by first | exact .inl rfl | exact .inr rfl | assumption) :
    PSw X W (.Assign [.Name x pos'] e pos) (wSet i we) := by
  refine PS.imp (ps_set hN hi hx he hs hf) fun D σ H h => ?_
  obtain ⟨F, h⟩ := can_then (R := RpW) (w := we) (k := fun x D ρ M => D.nx (ρ.set i (some x)) M) h
  exact ⟨F, h.mono fun v H1 ⟨F', x, rx, ρ, M, Dw, r, s, h, e⟩ => e.nx _ H1 F' _ M (Same.refl F') r (s.set i rx) h⟩
def wPar (i j : Nat) (a : WA) : WS := fun D ρ M => a ρ M (fun ws M1 => match ws with | [v, w] => D.nx ((ρ.set i (some v)).set j (some w)) M1 | _ => False) (fun C M1 => D.ex C ρ M1)
theorem psw_par {i j : Nat} {x y : Str} {a b : Expr} {wa : WA} {px py pt : Pos} {kt k2 pt2} (hc : X.calm = true) (hN : X.N.Nodup) (ha : PAw X W [a, b] wa)
    (hw : swappedStores [.Tuple [.Name x px, .Name y py] kt pt] (.Tuple [a, b] k2 pt2) X.env = pure (some [x, y])) (hi : X.N[i]? = some x := by rfl) (hj : X.N[j]? = some y := by rfl) (hij : i ≠ j := by decide)
    (hx : X.env.scope.names.lookup x = some .local := by rfl) (hy : X.env.scope.names.lookup y = some .local := by rfl)
    (hs : swapsWithSole [.Tuple [.Name x px, .Name y py] kt pt] (.Tuple [a, b] k2 pt2) pos.line X.env = pure false := by rfl) :
    PSw X W (.Assign [.Tuple [.Name x px, .Name y py] kt pt] (.Tuple [a, b] k2 pt2) pos) (wPar i j wa) := by
  refine PS.imp (ps_par hc hN hi hj hij hx hy ha hw hs) fun D σ H h => ?_
  obtain ⟨F, h⟩ := can_then (R := RpWs) (w := wa) (k := fun ws D ρ M => match ws with | [v, w] => D.nx ((ρ.set i (some v)).set j (some w)) M | _ => False) h
  refine ⟨F, h.mono fun vs H1 ⟨F', ws, rx, ρ, M, Dw, r, s, h, e⟩ => ?_⟩
  split at h
  · cases rx with
    | cons r1 t => cases t with
      | cons r2 t2 =>
        cases t2
        exact ⟨_, _, rfl, e.nx _ H1 F' _ M (Same.refl F') r ((s.set i r1).set j r2) h⟩
  · exact h.elim
/-- x += e, ints -/
def wAug (i : Nat) (rr : W2) (e : WE) : WS := fun D ρ M => match ρ[i]? with
  | some (some x) => e ρ M (fun y M1 => rr x y M1 (fun z M2 => D.nx (ρ.set i (some z)) M2)) (fun C M1 => D.ex C ρ M1)
  | _ => False
theorem psw_aug {i : Nat} {x : Str} {op : Operator} {ti : TIp} {rr : W2} (hN : X.N.Nodup) (ho : PIp X op ti) (ab : Ab2 ti rr) (he : PEw X W e we) (hi : X.N[i]? = some x := by rfl) (hx : Loc X.env.scope x := by first | exact Or.inl rfl | exact Or.inr rfl) (hf : X.fn x = true ∨ X.env.scope.names.lookup x = some .local := by first | exact .inl rfl | exact .inr rfl | assumption) :
    PSw X W (.AugAssign (.Name x pos') op e pos) (wAug i rr we) := by
  refine PS.imp (ps_aug hN hi hx he ho hf) fun D σ H h => ?_
  obtain ⟨F, ρ, M, Dw, r, s, h, e⟩ := h
  unfold wAug at h
  split at h
  · rename_i w ew
    obtain ⟨v, ev, rv⟩ := s.at_ i w ew
    refine ⟨v, ev, F, ρ, M, _, _, r, s, h, fun v2 H' F' x M' a b c d => ?_, fun C H' F' M' a b d => e.ex C σ H' F' ρ M' a b (s.mono a) d⟩
    exact ab F' M' H' v v2 w x _ _ b (RpW.mono a rv) c d fun v3 H3 F3 z M3 a3 b3 c3 d3 => e.nx _ H3 F3 _ M3 (Same.trans a a3) b3 ((s.mono (Same.trans a a3)).set i c3) d3
  · exact h.elim
def rAddI : W2 := fun x y M Q => match x, y with
  | .d (.int i), .d (.int j) => Q (.d (.int (i + j))) M
  | _, _ => False
theorem ab_ipadd : Ab2 (ipI fun i j => i + j) rAddI := by
  intro F M H x y wx wy Qw Q r rx ry h q
  unfold rAddI at h
  split at h
  · cases rx; cases ry
    exact ⟨_, _, rfl, rfl, qD q (Same.refl F) r (Rp.int _) h⟩
  · exact h.elim
/-! ### stores -/
/-- xs[i] = e -/
@[irreducible] def wPut3 (v x y : Wv) : WS := fun D ρ M => match x, y with
  | .c p, .d (.int k) => (match M p with | some (.lst ws) => (match ixN ws.length k with | some j => D.nx ρ (M.set p (.lst (ws.set j v))) | none => False) | _ => False)
  | _, _ => False
def wPut (e o i : WE) : WS := wThen e fun v => wThen o fun x => wThen i fun y => wPut3 v x y
theorem put3_ok {F : Hp} {M : Mh} {H : Hp} {σ : St} {ρ : Rho} {D : Ends} {Dw : WEnds} {wv wx wy : Wv} {v x y : V} (r : Rel F M H) (s : SlOk F σ ρ) (rv : RpW F v wv) (rx : RpW F x wx) (ry : RpW F y wy) (h : wPut3 wv wx wy Dw ρ M) (e : SEnd W F Dw D) :
    rSetL x y v H fun H3 => D.nx σ H3 := by
  unfold wPut3 at h
  split at h
  · rename_i p k
    cases rx
    cases ry
    split at h
    · rename_i ws ew
      obtain ⟨_, vs, ev, rs⟩ := r.mu p _ ew
      split at h
      · rename_i j ej
        refine ⟨p, vs, k, j, rfl, rfl, ev, by rw [rs.len]; exact ej, ?_⟩
        exact e.nx σ _ F ρ _ (Same.refl F) (r.wrM (m' := .lst (ws.set j wv)) ew ⟨_, upd_same, RpWs.set rv j rs⟩) s h
      · exact h.elim
    · exact h.elim
  · exact h.elim
theorem psw_put {o i : Expr} {wo wi : WE} (he : PEw X W e we) (ho : PEw X W o wo) (hi : PEw X W i wi)
    (ha : ∀ v, assign (.Subscript o i pos') X.env v = (do
      let ov ← holding [v] (eval o X.env)
      let iv ← holding [v, ov] (eval i X.env)
      standAt pos'
      holding [v, ov, iv] (setItem ov iv v)
      release [v, ov, iv] []) := by intro _; rfl)
    (hs : swapsWithSole [.Subscript o i pos'] e pos.line X.env = pure false := by rfl) (hw : swappedStores [.Subscript o i pos'] e X.env = pure none := by rfl)
    (h1 : (assignEach [.Subscript o i pos'] X.env).map (·.2) = [assign (.Subscript o i pos') X.env] := by rfl) : PSw X W (.Assign [.Subscript o i pos'] e pos) (wPut we wo wi) := by
  refine PS.imp (ps_asg he (pg_sub ho hi set_list ha) hs hw h1) fun D σ H h => ?_
  obtain ⟨F, h⟩ := h
  refine ⟨F, (can_thenAt (R := RpW) h).mono fun v H1 ⟨F1, wv, x1, rv, h2⟩ => ⟨F1, (can_thenAt (R := RpW) h2).mono fun x H2 ⟨F2, wx, x2, rx, h3⟩ => ⟨F2, (can_thenAt (R := RpW) h3).mono fun y H3 ⟨F3, wy, x3, ry, h4⟩ => ?_⟩⟩⟩
  obtain ⟨ρ, M, Dw, r, s, h, e⟩ := h4
  exact put3_ok r s (RpW.mono (Same.trans x2 x3) rv) (RpW.mono x3 rx) ry h e
/-- d[k] = e, the keys tuples of ints -/
def keyOf : Dt → Option (List Int)
  | .tup ds => ds.foldr (fun d r => match d, r with | .int i, some l => some (i :: l) | _, _ => none) (some [])
  | _ => none
def wgetK (kvs : List (List Int × Wv)) (k : List Int) : Option Wv := (kvs.find? fun kv => decide (kv.1 = k)).map (·.2)
def wputK (kvs : List (List Int × Wv)) (k : List Int) (v : Wv) : List (List Int × Wv) := if (kvs.any fun kv => decide (kv.1 = k)) = true then kvs.map fun kv => if kv.1 = k then (kv.1, v) else kv else kvs ++ [(k, v)]
end
end Lw

namespace Lw
open PySem PySem.Spec L2

/-! ## dicts whose keys are tuples of ints -/
theorem inl_inj : ∀ {a b : List Int}, (a.map Sum.inl : List Key) = b.map Sum.inl → a = b
  | [], [], _ => rfl
  | [], _ :: _, h => by simp at h
  | _ :: _, [], h => by simp at h
  | x :: a, y :: b, h => by
    simp only [List.map_cons, List.cons.injEq, Sum.inl.injEq] at h
    rw [h.1, inl_inj h.2]
theorem keyOf_ok {F : Hp} : ∀ {d : Dt} {v : V} {k : List Int}, keyOf d = some k → Rp F v d → ∃ b, v = .ref b ∧ F b = some (.tup ((k.map Sum.inl : List Key).map kV)) := by
  intro d v k h r
  cases r with
  | tup h1 l1 =>
    refine ⟨_, rfl, ?_⟩
    rename_i a vs ds
    have key : ∀ (ds : List Dt) (vs : List V) (k : List Int), ds.foldr (fun d r => match d, r with | .int i, some l => some (i :: l) | _, _ => none) (some []) = some k → RpL F vs ds → vs = (k.map Sum.inl : List Key).map kV := by
      intro ds
      induction ds with
      | nil => intro vs k e l; cases l; cases e; rfl
      | cons d ds ih =>
        intro vs k e l
        cases l with
        | cons r t =>
          rw [List.foldr_cons] at e
          split at e
          · rename_i i l2 e2
            cases e
            cases r
            rw [ih _ _ e2 t]
            rfl
          · cases e
    rw [h1, ← key ds vs k h l1]
  | _ => cases h
theorem RpWK.get {F : Hp} {k : List Int} : ∀ {vs : List (List Key × V)} {ws : List (List Int × Wv)}, RpWK F vs ws → (match wgetK ws k with | some w => ∃ v, valV vs (k.map Sum.inl) = some v ∧ RpW F v w | none => valV vs (k.map Sum.inl) = none)
  | _, _, .nil => rfl
  | (k1, v) :: vs, (k2, w) :: ws, .cons h t => by
    obtain ⟨h1, h2⟩ := h
    have h1 : k1 = k2.map Sum.inl := h1
    subst h1
    have ih := RpWK.get (k := k) t
    unfold wgetK valV at *
    by_cases e : k2 = k
    · subst e
      rw [List.find?_cons_of_pos (by simp)]
      exact ⟨v, by rw [List.find?_cons_of_pos (by simp)]; rfl, h2⟩
    · rw [List.find?_cons_of_neg (by simpa using e), List.find?_cons_of_neg (by simpa using fun q => e (inl_inj q))]
      exact ih
theorem RpWK.any {F : Hp} {k : List Int} : ∀ {vs : List (List Key × V)} {ws : List (List Int × Wv)}, RpWK F vs ws → (vs.any fun kv => decide (kv.1 = k.map Sum.inl)) = ws.any fun kv => decide (kv.1 = k)
  | _, _, .nil => rfl
  | (k1, v) :: vs, (k2, w) :: ws, .cons h t => by
    obtain ⟨h1, h2⟩ := h
    have h1 : k1 = k2.map Sum.inl := h1
    subst h1
    rw [List.any_cons, List.any_cons, RpWK.any t]
    congr 1
    by_cases e : k2 = k
    · subst e; simp
    · rw [decide_eq_false e, decide_eq_false fun q => e (inl_inj q)]
theorem RpWK.map {F : Hp} {k : List Int} {v0 : V} {w0 : Wv} (r : RpW F v0 w0) : ∀ {vs : List (List Key × V)} {ws : List (List Int × Wv)}, RpWK F vs ws →
    RpWK F (vs.map fun kv => if kv.1 = k.map Sum.inl then (kv.1, v0) else kv) (ws.map fun kv => if kv.1 = k then (kv.1, w0) else kv)
  | _, _, .nil => .nil
  | (k1, v) :: vs, (k2, w) :: ws, .cons h t => by
    obtain ⟨h1, h2⟩ := h
    have h1 : k1 = k2.map Sum.inl := h1
    subst h1
    refine .cons ?_ (RpWK.map r t)
    by_cases e : k2 = k
    · subst e; simp [r]
    · simp only [if_neg e, if_neg (fun q => e (inl_inj q) : ¬ (k2.map Sum.inl : List Key) = k.map Sum.inl)]
      exact ⟨by simp, h2⟩
theorem RpWK.snoc {F : Hp} {p : List Key × V} {q : List Int × Wv} (r : p.1 = q.1.map Sum.inl ∧ RpW F p.2 q.2) : ∀ {vs : List (List Key × V)} {ws : List (List Int × Wv)}, RpWK F vs ws → RpWK F (vs ++ [p]) (ws ++ [q])
  | _, _, .nil => .cons r .nil
  | _, _, .cons h t => .cons h (RpWK.snoc r t)
theorem RpWK.put {F : Hp} {k : List Int} {v0 : V} {w0 : Wv} (r : RpW F v0 w0) {vs : List (List Key × V)} {ws : List (List Int × Wv)} (h : RpWK F vs ws) : RpWK F (putK vs (k.map Sum.inl) v0) (wputK ws k w0) := by
  unfold putK wputK
  rw [RpWK.any h]
  by_cases e : (ws.any fun kv => decide (kv.1 = k)) = true
  · rw [if_pos e, if_pos e]; exact RpWK.map r h
  · rw [if_neg e, if_neg e]; exact RpWK.snoc ⟨rfl, r⟩ h
theorem RpK.ws {F : Hp} : ∀ {vs : List (List Key × V)} {ds : List (List Int × Dt)}, RpK F vs ds → RpWK F vs (ds.map fun q => (q.1, .d q.2))
  | _, _, .nil => .nil
  | _, _, .cons h t => .cons ⟨rfl, h⟩ (RpK.ws t)
/-- the table of a dict -/
def dctOf (x : Wv) (M : Mh) (k : List (List Int × Wv) → Prop) : Prop := match x with
  | .c p => (match M p with | some (.dT kvs) => k kvs | _ => False)
  | .d (.dct kvs) => k (kvs.map fun q => (q.1, .d q.2))
  | _ => False
theorem dctOf_ok {F H : Hp} {M : Mh} (r : Rel F M H) {v : V} {x : Wv} (rx : RpW F v x) {k : List (List Int × Wv) → Prop} (h : dctOf x M k) : ∃ a vs ws, v = .ref a ∧ H a = some (.dT vs) ∧ RpWK F vs ws ∧ k ws := by
  unfold dctOf at h
  split at h
  · rename_i p
    cases rx
    split at h
    · rename_i kvs e
      obtain ⟨_, vs, h1, h2⟩ := r.mu p _ e
      exact ⟨p, vs, kvs, rfl, h1, h2, h⟩
    · exact h.elim
  · cases rx with
    | dct h1 l1 => exact ⟨_, _, _, rfl, r.fz _ _ h1, l1.ws, h⟩
  · exact h.elim
def keyW (y : Wv) (k : List Int → Prop) : Prop := match y with
  | .d d => (match keyOf d with | some l => k l | none => False)
  | _ => False
theorem keyW_ok {F H : Hp} {M : Mh} (r : Rel F M H) {v : V} {y : Wv} (ry : RpW F v y) {k : List Int → Prop} (h : keyW y k) : ∃ b l, v = .ref b ∧ H b = some (.tup ((l.map Sum.inl : List Key).map kV)) ∧ k l := by
  unfold keyW at h
  split at h
  · rename_i d
    split at h
    · rename_i l e
      obtain ⟨b, e1, e2⟩ := keyOf_ok e ry
      exact ⟨b, l, e1, r.fz _ _ e2, h⟩
    · exact h.elim
  · exact h.elim
@[irreducible] def rDGet : W2 := fun x y M Q => dctOf x M fun kvs => keyW y fun k => match wgetK kvs k with | some w => Q w M | none => False
@[irreducible] def rDIn (neg : Bool) : W2 := fun y x M Q => dctOf x M fun kvs => keyW y fun k => Q (.d (.bl (if neg then !(wgetK kvs k).isSome else (wgetK kvs k).isSome))) M
theorem ab_dget : Ab2 (fun x y H Q => ∃ a v, x = .ref a ∧ DGet H a y (some v) ∧ Q v H) rDGet := by
  intro F M H x y wx wy Qw Q r rx ry h q
  unfold rDGet at h
  obtain ⟨a, vs, ws, ex, ea, rs, h⟩ := dctOf_ok r rx h
  obtain ⟨b, l, ey, eb, h⟩ := keyW_ok r ry h
  subst ex ey
  have g := RpWK.get (k := l) rs
  split at h
  · rename_i w e
    rw [e] at g
    obtain ⟨v, e2, rv⟩ := g
    refine ⟨a, v, rfl, ?_, q v H F w M (Same.refl F) r rv h⟩
    rw [← e2]
    exact DGet.t ea eb
  · exact h.elim
theorem ab_din {neg : Bool} : Ab2 (fun y x H Q => ∃ a o, x = .ref a ∧ DGet H a y o ∧ Q (.bl (if neg then !o.isSome else o.isSome)) H) (rDIn neg) := by
  intro F M H y x wy wx Qw Q r ry rx h q
  unfold rDIn at h
  obtain ⟨a, vs, ws, ex, ea, rs, h⟩ := dctOf_ok r rx h
  obtain ⟨b, l, ey, eb, h⟩ := keyW_ok r ry h
  subst ex ey
  have g := RpWK.get (k := l) rs
  refine ⟨a, _, rfl, DGet.t ea eb, ?_⟩
  have : (valV vs (l.map Sum.inl)).isSome = (wgetK ws l).isSome := by
    split at g
    · rename_i w e
      obtain ⟨v, e2, _⟩ := g
      rw [e, e2]; rfl
    · rename_i e
      rw [e, g]; rfl
  rw [this]
  exact qD q (Same.refl F) r (Rp.bl _) h
section
variable {X : Cx} {W : WX} {a b o i e : Expr} {wa wb wo wi we : WE} {pos pos' : Pos}
theorem pew_dget (hu : X.A.units + 1 < cLine) (ho : PEw X W o wo) (hi : PEw X W i wi) (hs : NoSl i) : PEw X W (.Subscript o i pos) (wOp rDGet wo wi) :=
  PE.imp (pe_dget hu ho hi hs) fun _ _ _ h => can2 (r := fun x y H Q => ∃ a v, x = .ref a ∧ DGet H a y (some v) ∧ Q v H) ab_dget h
theorem pew_din (hu : X.A.units + 1 < cLine) (hi : PEw X W i wi) (ho : PEw X W o wo) (h1 : behindInMarks .In o = false := by rfl) : PEw X W (.Compare i [.In] [o] pos) (wOp (rDIn false) wi wo) :=
  PE.imp (pe_cmp (pc_din hu hi ho) h1) fun _ _ _ h => can2 (r := fun y x H Q => ∃ a o, x = .ref a ∧ DGet H a y o ∧ Q (.bl (if false then !o.isSome else o.isSome)) H) ab_din h
theorem pew_dnotin (hu : X.A.units + 1 < cLine) (hi : PEw X W i wi) (ho : PEw X W o wo) (h1 : behindInMarks .NotIn o = false := by rfl) : PEw X W (.Compare i [.NotIn] [o] pos) (wOp (rDIn true) wi wo) :=
  PE.imp (pe_cmp (pc_dnotin hu hi ho) h1) fun _ _ _ h => can2 (r := fun y x H Q => ∃ a o, x = .ref a ∧ DGet H a y o ∧ Q (.bl (if true then !o.isSome else o.isSome)) H) ab_din h
theorem ptw_din (hu : X.A.units + 1 < cLine) (hi : PEw X W i wi) (ho : PEw X W o wo) (h1 : behindInMarks .In o = false := by rfl) : PTw X W (.Compare i [.In] [o] pos) (wTest (wOp (rDIn false) wi wo)) :=
  PT.imp (pt_cmp (pc_din hu hi ho) h1) fun _ _ _ h => can2 (r := fun y x H Q => ∃ a o, x = .ref a ∧ DGet H a y o ∧ Q (.bl (if false then !o.isSome else o.isSome)) H) ab_din (can_test h)
theorem ptw_dnotin (hu : X.A.units + 1 < cLine) (hi : PEw X W i wi) (ho : PEw X W o wo) (h1 : behindInMarks .NotIn o = false := by rfl) : PTw X W (.Compare i [.NotIn] [o] pos) (wTest (wOp (rDIn true) wi wo)) :=
  PT.imp (pt_cmp (pc_dnotin hu hi ho) h1) fun _ _ _ h => can2 (r := fun y x H Q => ∃ a o, x = .ref a ∧ DGet H a y o ∧ Q (.bl (if true then !o.isSome else o.isSome)) H) ab_din (can_test h)
/-- {} -/
def wDNew : WE := fun _ M Q _ => ∀ p, M p = none → Q (.c p) (M.set p (.dT []))
theorem pew_dnew : PEw X W (.Dict [] [] pos) wDNew := by
  refine PE.imp pe_dnewT fun σ H Q ⟨F, ρ, M, Qw, Ew, r, s, h, q, e⟩ p hp => ?_
  exact q _ _ _ (.c p) _ (Same.refl F) (r.newM (m := .dT []) hp ⟨[], upd_same, .nil⟩) rfl (h p (r.noM hp))
/-- d[k] = e -/
@[irreducible] def wDPut3 (v x y : Wv) : WS := fun D ρ M => match x with
  | .c p => (match M p with | some (.dT kvs) => keyW y fun k => kvs.length < sizeLine ∧ D.nx ρ (M.set p (.dT (wputK kvs k v))) | _ => False)
  | _ => False
def wDPut (e o i : WE) : WS := wThen e fun v => wThen o fun x => wThen i fun y => wDPut3 v x y
theorem dput3_ok {F : Hp} {M : Mh} {H : Hp} {σ : St} {ρ : Rho} {D : Ends} {Dw : WEnds} {wv wx wy : Wv} {v x y : V} (r : Rel F M H) (s : SlOk F σ ρ) (rv : RpW F v wv) (rx : RpW F x wx) (ry : RpW F y wy) (h : wDPut3 wv wx wy Dw ρ M) (e : SEnd W F Dw D) :
    ∃ a H4, x = .ref a ∧ DPut H a y v H4 ∧ D.nx σ H4 := by
  unfold wDPut3 at h
  split at h
  · rename_i p
    cases rx
    split at h
    · rename_i kvs ew
      obtain ⟨_, vs, ev, rs⟩ := r.mu p _ ew
      obtain ⟨b, l, ey, eb, h1, h2⟩ := keyW_ok r ry h
      subst ey
      refine ⟨p, _, rfl, DPut.t ev eb (by rw [Paired.length rs]; exact h1), ?_⟩
      exact e.nx σ _ F ρ _ (Same.refl F) (r.wrM (m' := .dT (wputK kvs l wv)) ew ⟨_, upd_same, RpWK.put rv rs⟩) s h2
    · exact h.elim
  · exact h.elim
theorem psw_dput (hu : X.A.units + 1 < cLine) (he : PEw X W e we) (ho : PEw X W o wo) (hi : PEw X W i wi) (hs : swapsWith e (some (.Subscript o i pos')) pos.line X.env = pure false := by rfl) : PSw X W (.Assign [.Subscript o i pos'] e pos) (wDPut we wo wi) := by
  refine PS.imp (ps_dput hu ho hi he hs) fun D σ H h => ?_
  obtain ⟨F, h⟩ := h
  refine ⟨F, (can_thenAt (R := RpW) h).mono fun v H1 ⟨F1, wv, x1, rv, h2⟩ => ⟨F1, (can_thenAt (R := RpW) h2).mono fun x H2 ⟨F2, wx, x2, rx, h3⟩ => ⟨F2, (can_thenAt (R := RpW) h3).mono fun y H3 ⟨F3, wy, x3, ry, h4⟩ => ?_⟩⟩⟩
  obtain ⟨ρ, M, Dw, r, s, h, e⟩ := h4
  exact dput3_ok r s (RpW.mono (Same.trans x2 x3) rv) (RpW.mono x3 rx) ry h e
/-! ### o.f = e -/
def wputF (f : Str) (v : Wv) : List (Str × Wv) → List (Str × Wv)
  | [] => [(f, v)]
  | (g, x) :: r => if g = f then (g, v) :: r else (g, x) :: wputF f v r
theorem RpWF.put {F : Hp} {f : Str} {v : V} {w : Wv} (r : RpW F v w) : ∀ {vs : List (Str × V)} {ws : List (Str × Wv)}, RpWF F vs ws → RpWF F (putF f v vs) (wputF f w ws)
  | _, _, .nil => .cons ⟨rfl, r⟩ .nil
  | (k, v') :: vs, (k', w') :: ws, .cons h t => by
    have hk : k = k' := h.1
    subst hk
    unfold putF wputF
    by_cases e : k = f
    · rw [if_pos e, if_pos e]; exact .cons ⟨rfl, r⟩ t
    · rw [if_neg e, if_neg e]; exact .cons h (RpWF.put r t)
def wFldPut2 (C : Addr) (f : Str) (v x : Wv) : WS := fun D ρ M => match x with
  | .c p => (match M p with | some (.ins C' fs) => C' = C ∧ fs.length < 1000 ∧ D.nx ρ (M.set p (.ins C (wputF f v fs))) | _ => False)
  | _ => False
def wFldPut (C : Addr) (f : Str) (e o : WE) : WS := wThen e fun v => wThen o fun x => wFldPut2 C f v x
theorem psw_fld {C : Addr} {f : Str} (cl : Cls X.K C) (na : NoAttr X.K C f) (he : PEw X W e we) (ho : PEw X W o wo) (hs : swapsWith e (some (.Attribute o f pos')) pos.line X.env = pure false := by rfl) : PSw X W (.Assign [.Attribute o f pos'] e pos) (wFldPut C f we wo) := by
  refine PS.imp (ps_fld ho he hs) fun D σ H h => ?_
  obtain ⟨F, h⟩ := h
  refine ⟨F, (can_thenAt (R := RpW) h).mono fun v H1 ⟨F1, wv, x1, rv, h2⟩ => ⟨F1, (can_thenAt (R := RpW) h2).mono fun x H2 ⟨F2, wx, x2, rx, h3⟩ => ?_⟩⟩
  obtain ⟨ρ, M, Dw, r, s, h, e⟩ := h3
  unfold wFldPut2 at h
  split at h
  · rename_i p
    cases rx
    split at h
    · rename_i C' fs ew
      obtain ⟨rfl, h1, h2⟩ := h
      obtain ⟨_, dx, vs, ev, rs⟩ := r.mu p _ ew
      refine ⟨p, C', dx, vs, rfl, ev, cl, na, by rw [Paired.length rs]; exact h1, ?_⟩
      exact e.nx σ _ F2 ρ _ (Same.refl F2) (r.wrM (m' := .ins C' (wputF f wv fs)) ew ⟨dx, _, upd_same, RpWF.put (RpW.mono x2 rv) rs⟩) s h2
    · exact h.elim
  · exact h.elim
end
end Lw

namespace Lw
open PySem PySem.Spec L2

/-! ## loops -/
structure ItOk (J : It) (F : Hp) (xs : List Wv) : Prop where
  go : ∀ i F' M H, i < xs.length → Ext F F' → Rel F' M H → J.go i H
  stop : ∀ i F' M H, xs.length ≤ i → Ext F F' → Rel F' M H → J.stop i H
  yld : ∀ (i : Nat) F' M H v H', i < xs.length → Ext F F' → Rel F' M H → J.yld i H v H' → ∃ w F'', xs[i]? = some w ∧ Ext F' F'' ∧ Rel F'' M H' ∧ RpW F'' v w
abbrev WI := WG (List Wv)
def canI (W : WX) (wi : WI) : TI := fun σ H R => ∃ F ρ M Qw Ew, Rel F M H ∧ SlOk F σ ρ ∧ wi ρ M Qw Ew ∧ (∀ J H' F' xs M', Ext F F' → Rel F' M' H' → ItOk J F' xs → Qw xs M' → R J H') ∧ (∀ C H' F' M', Ext F F' → Rel F' M' H' → Ew C M' → W (.ref C) none σ H')
abbrev PIw (X : Cx) (W : WX) (tg e : Expr) (wi : WI) : Prop := PI X tg e (canI W wi)
theorem PI.imp {X : Cx} {tg e : Expr} {t t' : TI} (h : PI X tg e t) (k : ∀ σ H Q, t' σ H Q → t σ H Q) : PI X tg e t' := ⟨fun pins s σ H R I z => h.run pins s σ H R I (k σ H R z)⟩
section
variable {X : Cx} {W : WX} {tg : Expr} {e e2 : Expr} {we : WE} {wa : WA} {pos p tpos : Pos}
/-- an iterable whose items come from one expression's value -/
theorem canI_e {β α : Type} {R' : Hp → α → β → Prop} {w : WG β} {k : β → Mh → (List Wv → Mh → Prop) → Prop} {σ : St} {H : Hp} {R : It → Hp → Prop} (h : canI W (fun ρ M Q E => w ρ M (fun x M1 => k x M1 Q) E) σ H R) :
    can R' W w σ H (fun v H1 => ∃ F x M Qw, Rel F M H1 ∧ R' F v x ∧ k x M Qw ∧ ∀ J H' F' xs M', Ext F F' → Rel F' M' H' → ItOk J F' xs → Qw xs M' → R J H') := by
  obtain ⟨F, ρ, M, Qw, Ew, r, s, h, q, e⟩ := h
  exact ⟨F, ρ, M, _, Ew, r, s, h, fun v H' F' x M' a b c d => ⟨F', x, M', Qw, b, c, d, fun J H2 F2 xs M2 a2 b2 c2 d2 => q J H2 F2 xs M2 (Same.trans a a2) b2 c2 d2⟩, e⟩
def itList (x : Wv) (M : Mh) (Q : List Wv → Mh → Prop) : Prop := match x with
  | .d (.lst ds) => Q (ds.map .d) M
  | .d (.scr ds) => Q (ds.map .d) M
  | _ => False
def itTup (x : Wv) (M : Mh) (Q : List Wv → Mh → Prop) : Prop := match x with
  | .d (.tup ds) => Q (ds.map .d) M
  | _ => False
theorem Paired.get? {F : Hp} {vs : List V} {ws : List Wv} (h : RpWs F vs ws) {i : Nat} {v : V} (e : vs[i]? = some v) : ∃ w, ws[i]? = some w ∧ RpW F v w := by
  have hl := RpWs.len h
  have hi : i < ws.length := by rw [← hl]; exact (List.getElem?_eq_some_iff.mp e).1
  obtain ⟨u, h1, h2⟩ := RpWs.get h (i := i) (List.getElem?_eq_getElem hi)
  rw [e] at h1; cases h1
  exact ⟨_, List.getElem?_eq_getElem hi, h2⟩
/-- a list that is read and stands -/
theorem itOk_list {K : PySem.W.Frag} {F : Hp} {a : Addr} {vs : List V} {ws : List Wv} (h : ∀ F' M H, Ext F F' → Rel F' M H → SqL K H a vs) (rs : RpWs F vs ws) : ItOk (Itl K a) F ws := by
  refine ⟨fun i F' M H hi x r => ?_, fun i F' M H hi x r => ⟨vs, h F' M H x r, by rw [rs.len]; exact hi⟩, fun i F' M H v H' _ x r y => ?_⟩
  · have hi' : i < vs.length := by rw [rs.len]; exact hi
    exact ⟨vs, _, h F' M H x r, List.getElem?_eq_getElem hi'⟩
  · obtain ⟨rfl, y⟩ := y
    obtain ⟨w, e, rw'⟩ := Paired.get? rs (y vs (h F' M _ x r))
    exact ⟨w, F', e, Same.refl F', r, RpW.mono x rw'⟩
theorem itOk_tup {K : PySem.W.Frag} {F : Hp} {a : Addr} {vs : List V} {ws : List Wv} (h : ∀ F' M H, Ext F F' → Rel F' M H → SqT K H a vs) (rs : RpWs F vs ws) : ItOk (Itt K a) F ws := by
  refine ⟨fun i F' M H hi x r => ?_, fun i F' M H hi x r => ⟨vs, h F' M H x r, by rw [rs.len]; exact hi⟩, fun i F' M H v H' _ x r y => ?_⟩
  · have hi' : i < vs.length := by rw [rs.len]; exact hi
    exact ⟨vs, _, h F' M H x r, List.getElem?_eq_getElem hi'⟩
  · obtain ⟨rfl, y⟩ := y
    obtain ⟨w, e, rw'⟩ := Paired.get? rs (y vs (h F' M _ x r))
    exact ⟨w, F', e, Same.refl F', r, RpW.mono x rw'⟩
def wiList (e : WE) : WI := fun ρ M Q E => e ρ M (fun x M1 => itList x M1 Q) E
theorem piw_list (he : PEw X W e we) : PIw X W tg e (wiList we) := by
  refine PI.imp (pi_list he) fun σ H R h => ?_
  obtain ⟨F0, h⟩ := canI_e (R' := RpW) h
  refine ⟨F0, h.mono fun v H1 ⟨F, x, M, Qw, r, rx, h, q⟩ => ?_⟩
  unfold itList at h
  split at h
  · rename_i ds
    cases rx with
    | lst h1 l1 => exact ⟨_, rfl, ⟨_, SqL.of (r.fz _ _ h1)⟩, q _ H1 F _ M (Same.refl F) r (itOk_list (fun F' M' H' x' r' => SqL.of (r'.fz _ _ (x' _ _ h1))) l1.ws) h⟩
  · cases rx with
    | scr h1 l1 => exact ⟨_, rfl, ⟨_, .inl (.inr ⟨_, r.fz _ _ h1⟩)⟩, q _ H1 F _ M (Same.refl F) r (itOk_list (fun F' M' H' x' r' => .inl (.inr ⟨_, r'.fz _ _ (x' _ _ h1)⟩)) l1.ws) h⟩
  · exact h.elim
def wiTup (e : WE) : WI := fun ρ M Q E => e ρ M (fun x M1 => itTup x M1 Q) E
theorem piw_tup (he : PEw X W e we) : PIw X W tg e (wiTup we) := by
  refine PI.imp (pi_tup he) fun σ H R h => ?_
  obtain ⟨F0, h⟩ := canI_e (R' := RpW) h
  refine ⟨F0, h.mono fun v H1 ⟨F, x, M, Qw, r, rx, h, q⟩ => ?_⟩
  unfold itTup at h
  split at h
  · cases rx with
    | tup h1 l1 => exact ⟨_, rfl, ⟨_, SqT.of (r.fz _ _ h1)⟩, q _ H1 F _ M (Same.refl F) r (itOk_tup (fun F' M' H' x' r' => SqT.of (r'.fz _ _ (x' _ _ h1))) l1.ws) h⟩
  · exact h.elim
def rngW (lo c : Int) (n : Nat) : List Wv := (List.range n).map fun i => .d (.int (lo + (i : Nat) * c))
theorem rngW_len {lo c : Int} {n : Nat} : (rngW lo c n).length = n := by simp [rngW]
theorem rngW_get {lo c : Int} {n i : Nat} (h : i < n) : (rngW lo c n)[i]? = some (.d (.int (lo + (i : Nat) * c))) := by
  unfold rngW
  rw [List.getElem?_map, List.getElem?_range h]
  rfl
theorem itOk_range {F : Hp} {lo : Int} {n : Nat} : ItOk (Itr lo n) F (rngW lo 1 n) := by
  refine ⟨fun i F' M H hi x r => by rw [rngW_len] at hi; exact hi, fun i F' M H hi x r => by rw [rngW_len] at hi; exact hi, fun i F' M H v H' hi x r y => ?_⟩
  rw [rngW_len] at hi
  obtain ⟨rfl, rfl⟩ := y
  exact ⟨_, F', rngW_get hi, Same.refl F', r, by rw [Int.mul_one]; exact Rp.int _⟩
theorem itOk_rangeC {F : Hp} {lo c : Int} {n : Nat} : ItOk (Itc lo c n) F (rngW lo c n) := by
  refine ⟨fun i F' M H hi x r => by rw [rngW_len] at hi; exact hi, fun i F' M H hi x r => by rw [rngW_len] at hi; exact hi, fun i F' M H v H' hi x r y => ?_⟩
  rw [rngW_len] at hi
  obtain ⟨rfl, rfl⟩ := y
  exact ⟨_, F', rngW_get hi, Same.refl F', r, Rp.int _⟩
def itRng1 (ws : List Wv) (M : Mh) (Q : List Wv → Mh → Prop) : Prop := match ws with
  | [.d (.int j)] => -(2 ^ 62) ≤ j ∧ j < 2 ^ 62 ∧ Q (rngW 0 1 j.toNat) M
  | _ => False
def itRng2 (ws : List Wv) (M : Mh) (Q : List Wv → Mh → Prop) : Prop := match ws with
  | [.d (.int i), .d (.int j)] => (-(2 ^ 62) ≤ i ∧ i < 2 ^ 62 ∧ -(2 ^ 62) ≤ j ∧ j < 2 ^ 62) ∧ Q (rngW i 1 (j - i).toNat) M
  | _ => False
def itRng3 (ws : List Wv) (M : Mh) (Q : List Wv → Mh → Prop) : Prop := match ws with
  | [.d (.int i), .d (.int j), .d (.int c)] => ∃ n, RgC i j c n ∧ Q (rngW i c n) M
  | _ => False
def wiRng1 (a : WA) : WI := fun ρ M Q E => a ρ M (fun x M1 => itRng1 x M1 Q) E
def wiRng2 (a : WA) : WI := fun ρ M Q E => a ρ M (fun x M1 => itRng2 x M1 Q) E
def wiRng3 (a : WA) : WI := fun ρ M Q E => a ρ M (fun x M1 => itRng3 x M1 Q) E
theorem piw_range1 {a : Expr} (hg : Gl X "range") (hm : X.mg "range" = none) (ha : PAw X W [a] wa) (hs : starEach [a] X.env = [(false, eval a X.env)] := by rfl) : PIw X W tg (.Call (.Name "range" p) [a] [] pos) (wiRng1 wa) := by
  refine PI.imp (pi_range1 hg hm ha hs) fun σ H R h => ?_
  obtain ⟨F0, h⟩ := canI_e (R' := RpWs) (w := wa) (k := itRng1) h
  refine ⟨F0, h.mono fun v H1 ⟨F, x, M, Qw, r, rx, h, q⟩ => ?_⟩
  unfold itRng1 at h
  split at h
  · cases rx with
    | cons r1 t =>
      cases t
      cases r1
      exact ⟨_, rfl, h.1, h.2.1, q _ H1 F _ M (Same.refl F) r itOk_range h.2.2⟩
  · exact h.elim
theorem piw_range2 {a b : Expr} (hg : Gl X "range") (hm : X.mg "range" = none) (ha : PAw X W [a, b] wa) (hs : starEach [a, b] X.env = [(false, eval a X.env), (false, eval b X.env)] := by rfl) (hs2 : starEach [b] X.env = [(false, eval b X.env)] := by rfl) : PIw X W tg (.Call (.Name "range" p) [a, b] [] pos) (wiRng2 wa) := by
  refine PI.imp (pi_range2 hg hm ha hs hs2) fun σ H R h => ?_
  obtain ⟨F0, h⟩ := canI_e (R' := RpWs) (w := wa) (k := itRng2) h
  refine ⟨F0, h.mono fun v H1 ⟨F, x, M, Qw, r, rx, h, q⟩ => ?_⟩
  unfold itRng2 at h
  split at h
  · cases rx with
    | cons r1 t => cases t with
      | cons r2 t2 =>
        cases t2
        cases r1; cases r2
        exact ⟨_, _, rfl, h.1, q _ H1 F _ M (Same.refl F) r itOk_range h.2⟩
  · exact h.elim
theorem piw_range3 {a b c : Expr} (hg : Gl X "range") (hm : X.mg "range" = none) (ha : PAw X W [a, b, c] wa) (hs : starEach [a, b, c] X.env = (false, eval a X.env) :: starEach [b, c] X.env := by rfl) (hpl : (backTo pos (starEach [b, c] X.env)).any (·.1) = false := by rfl) : PIw X W tg (.Call (.Name "range" p) [a, b, c] [] pos) (wiRng3 wa) := by
  refine PI.imp (pi_range3 hg hm ha hs hpl) fun σ H R h => ?_
  obtain ⟨F0, h⟩ := canI_e (R' := RpWs) (w := wa) (k := itRng3) h
  refine ⟨F0, h.mono fun v H1 ⟨F, x, M, Qw, r, rx, h, q⟩ => ?_⟩
  unfold itRng3 at h
  split at h
  · obtain ⟨n, h1, h2⟩ := h
    cases rx with
    | cons r1 t => cases t with
      | cons r2 t2 => cases t2 with
        | cons r3 t3 =>
          cases t3
          cases r1; cases r2; cases r3
          exact ⟨_, _, _, n, rfl, h1, q _ H1 F _ M (Same.refl F) r itOk_rangeC h2⟩
  · exact h.elim
/-- enumerate, zip of lists of data: new tuples -/
def enumD (ds : List Dt) : List Wv := (List.range ds.length).map fun i => .d (.tup [.int (i : Nat), ds.getD i .non])
def zipD : List Dt → List Dt → List Wv
  | x :: xs, y :: ys => .d (.tup [x, y]) :: zipD xs ys
  | _, _ => []
theorem zipD_len : ∀ (xs ys : List Dt), (zipD xs ys).length = min xs.length ys.length
  | [], ys => by simp [zipD]
  | x :: xs, [] => by simp [zipD]
  | x :: xs, y :: ys => by simp only [zipD, List.length_cons, zipD_len xs ys]; omega
theorem zipD_get : ∀ (xs ys : List Dt) (i : Nat) (x y : Dt), xs[i]? = some x → ys[i]? = some y → (zipD xs ys)[i]? = some (.d (.tup [x, y]))
  | [], _, _, _, _, h, _ => by simp at h
  | _ :: _, [], _, _, _, _, h => by simp at h
  | a :: xs, b :: ys, 0, x, y, h1, h2 => by simp at h1 h2; subst h1 h2; rfl
  | a :: xs, b :: ys, i + 1, x, y, h1, h2 => by
    show (zipD xs ys)[i]? = _
    exact zipD_get xs ys i x y (by simpa using h1) (by simpa using h2)
theorem RpL.get? {F : Hp} {vs : List V} {ds : List Dt} (h : RpL F vs ds) {i : Nat} {v : V} (e : vs[i]? = some v) : ∃ d, ds[i]? = some d ∧ Rp F v d := by
  have hl := h.len
  have hi : i < ds.length := by rw [← hl]; exact (List.getElem?_eq_some_iff.mp e).1
  obtain ⟨u, h1, h2⟩ := h.get (i := i) (List.getElem?_eq_getElem hi)
  rw [e] at h1; cases h1
  exact ⟨_, List.getElem?_eq_getElem hi, h2⟩
theorem itOk_enum {K : PySem.W.Frag} {F : Hp} {a : Addr} {vs : List V} {ds : List Dt} (h : ∀ F' M H, Ext F F' → Rel F' M H → SqL K H a vs) (rs : RpL F vs ds) : ItOk (Ite K a) F (enumD ds) := by
  have hl : (enumD ds).length = ds.length := by simp [enumD]
  refine ⟨fun i F' M H hi x r => ?_, fun i F' M H hi x r => ⟨vs, h F' M H x r, by rw [rs.len, ← hl]; exact hi⟩, fun i F' M H v H' hi x r y => ?_⟩
  · have hi' : i < vs.length := by rw [rs.len, ← hl]; exact hi
    exact ⟨vs, _, h F' M H x r, List.getElem?_eq_getElem hi'⟩
  · obtain ⟨T, u, rfl, hT, rfl, y⟩ := y
    obtain ⟨d, ed, rd⟩ := rs.get? (y vs (h F' M _ x r))
    obtain ⟨rN, xN⟩ := r.newF (o := .tup [.int (i : Nat), u]) hT
    refine ⟨.d (.tup [.int (i : Nat), d]), _, ?_, xN, rN, Rp.tup upd_same (.cons (.int _) (.cons (Rp.mono (Same.trans x xN) rd) .nil))⟩
    unfold enumD
    rw [List.getElem?_map, List.getElem?_range (by rw [hl] at hi; exact hi)]
    simp [List.getD, ed]
theorem itOk_zip {K : PySem.W.Frag} {F : Hp} {a b : Addr} {vs us : List V} {ds es : List Dt} (h : ∀ F' M H, Ext F F' → Rel F' M H → SqL K H a vs) (h' : ∀ F' M H, Ext F F' → Rel F' M H → SqL K H b us) (rs : RpL F vs ds) (rs' : RpL F us es) : ItOk (Itz K a b) F (zipD ds es) := by
  refine ⟨fun i F' M H hi x r => ?_, fun i F' M H hi x r => ⟨vs, us, h F' M H x r, h' F' M H x r, ?_⟩, fun i F' M H v H' hi x r y => ?_⟩
  · rw [zipD_len] at hi
    have h1 : i < vs.length := by rw [rs.len]; omega
    have h2 : i < us.length := by rw [rs'.len]; omega
    exact ⟨vs, us, _, _, h F' M H x r, h' F' M H x r, List.getElem?_eq_getElem h1, List.getElem?_eq_getElem h2⟩
  · rw [zipD_len, ← rs.len, ← rs'.len] at hi
    omega
  · obtain ⟨T, u, w, rfl, hT, rfl, y1, y2⟩ := y
    obtain ⟨d, ed, rd⟩ := rs.get? (y1 vs (h F' M _ x r))
    obtain ⟨d2, ed2, rd2⟩ := rs'.get? (y2 us (h' F' M _ x r))
    obtain ⟨rN, xN⟩ := r.newF (o := .tup [u, w]) hT
    exact ⟨.d (.tup [d, d2]), _, zipD_get _ _ _ _ _ ed ed2, xN, rN, Rp.tup upd_same (.cons (Rp.mono (Same.trans x xN) rd) (.cons (Rp.mono (Same.trans x xN) rd2) .nil))⟩
def itEnum (ws : List Wv) (M : Mh) (Q : List Wv → Mh → Prop) : Prop := match ws with
  | [.d (.lst ds)] => Q (enumD ds) M
  | [.d (.scr ds)] => Q (enumD ds) M
  | _ => False
def itZip (ws : List Wv) (M : Mh) (Q : List Wv → Mh → Prop) : Prop := match ws with
  | [.d (.lst ds), .d (.lst es)] => Q (zipD ds es) M
  | _ => False
def wiEnum (a : WA) : WI := fun ρ M Q E => a ρ M (fun x M1 => itEnum x M1 Q) E
def wiZip (a : WA) : WI := fun ρ M Q E => a ρ M (fun x M1 => itZip x M1 Q) E
variable {elts : List Expr} {kk : Nat}
theorem piw_enum (hg : Gl X "enumerate") (hm : X.mg "enumerate" = none) (ha : PAw X W [e] wa) (hs : starEach [e] X.env = [(false, eval e X.env)] := by rfl) : PIw X W (.Tuple elts kk tpos) (.Call (.Name "enumerate" p) [e] [] pos) (wiEnum wa) := by
  refine PI.imp (pi_enum hg hm ha hs) fun σ H R h => ?_
  obtain ⟨F0, h⟩ := canI_e (R' := RpWs) (w := wa) (k := itEnum) h
  refine ⟨F0, h.mono fun v H1 ⟨F, x, M, Qw, r, rx, h, q⟩ => ?_⟩
  unfold itEnum at h
  split at h
  · cases rx with
    | cons r1 t =>
      cases t
      cases r1 with
      | lst h1 l1 => exact ⟨_, _, rfl, SqL.of (r.fz _ _ h1), q _ H1 F _ M (Same.refl F) r (itOk_enum (fun F' M' H' x' r' => SqL.of (r'.fz _ _ (x' _ _ h1))) l1) h⟩
  · cases rx with
    | cons r1 t =>
      cases t
      cases r1 with
      | scr h1 l1 => exact ⟨_, _, rfl, .inl (.inr ⟨_, r.fz _ _ h1⟩), q _ H1 F _ M (Same.refl F) r (itOk_enum (fun F' M' H' x' r' => .inl (.inr ⟨_, r'.fz _ _ (x' _ _ h1)⟩)) l1) h⟩
  · exact h.elim
theorem piw_zip (hg : Gl X "zip") (hm : X.mg "zip" = none) (ha : PAw X W [e, e2] wa) (hs : starEach [e, e2] X.env = (false, eval e X.env) :: starEach [e2] X.env := by rfl) (hpl : (backTo pos (starEach [e2] X.env)).any (·.1) = false := by rfl) :
    PIw X W (.Tuple elts kk tpos) (.Call (.Name "zip" p) [e, e2] [] pos) (wiZip wa) := by
  refine PI.imp (pi_zip hg hm ha hs hpl) fun σ H R h => ?_
  obtain ⟨F0, h⟩ := canI_e (R' := RpWs) (w := wa) (k := itZip) h
  refine ⟨F0, h.mono fun v H1 ⟨F, x, M, Qw, r, rx, h, q⟩ => ?_⟩
  unfold itZip at h
  split at h
  · cases rx with
    | cons r1 t => cases t with
      | cons r2 t2 =>
        cases t2
        cases r1 with
        | lst h1 l1 => cases r2 with
          | lst h2 l2 => exact ⟨_, _, _, _, rfl, SqL.of (r.fz _ _ h1), SqL.of (r.fz _ _ h2), q _ H1 F _ M (Same.refl F) r (itOk_zip (fun F' M' H' x' r' => SqL.of (r'.fz _ _ (x' _ _ h1))) (fun F' M' H' x' r' => SqL.of (r'.fz _ _ (x' _ _ h2))) l1 l2) h⟩
  · exact h.elim
/-- the signs of a text -/
def strW (z : Str) : List Wv := z.cps.toList.map fun c => .d (.str ⟨#[c]⟩)
def itStr (x : Wv) (M : Mh) (Q : List Wv → Mh → Prop) : Prop := match x with
  | .d (.str z) => Q (strW z) M
  | _ => False
def wiStr (e : WE) : WI := fun ρ M Q E => e ρ M (fun x M1 => itStr x M1 Q) E
theorem itOk_str {F : Hp} {z : Str} : ItOk (Its z) F (strW z) := by
  have hl : (strW z).length = z.cps.size := by simp [strW]
  refine ⟨fun i F' M H hi x r => by rw [hl] at hi; exact hi, fun i F' M H hi x r => by rw [hl] at hi; exact hi, fun i F' M H v H' hi x r y => ?_⟩
  obtain ⟨rfl, c, ec, rfl⟩ := y
  refine ⟨.d (.str ⟨#[c]⟩), F', ?_, Same.refl F', r, Rp.str _⟩
  unfold strW
  rw [List.getElem?_map, Array.getElem?_toList, ec]
  rfl
theorem piw_str (he : PEw X W e we) : PIw X W tg e (wiStr we) := by
  refine PI.imp (pi_str he) fun σ H R h => ?_
  obtain ⟨F0, h⟩ := canI_e (R' := RpW) h
  refine ⟨F0, h.mono fun v H1 ⟨F, x, M, Qw, r, rx, h, q⟩ => ?_⟩
  unfold itStr at h
  split at h
  · cases rx
    exact ⟨_, rfl, q _ H1 F _ M (Same.refl F) r itOk_str h⟩
  · exact h.elim
/-! ### for -/
def forGo (g : WTg) (tb : WS) (D : WEnds) : List Wv → Rho → Mh → Prop
  | [], ρ, M => D.nx ρ M
  | x :: xs, ρ, M => g x ρ M fun ρ' M' => tb { D with nx := forGo g tb D xs, ct := forGo g tb D xs, bk := D.nx } ρ' M'
def wFor (wi : WI) (g : WTg) (tb : WS) : WS := fun D ρ M => wi ρ M (fun xs M1 => forGo g tb D xs ρ M1) (fun C M1 => D.ex C ρ M1)
theorem psw_for {iter : Expr} {body : List Stmt} {wi : WI} {g : WTg} {tb : WS} {vs : List Nat} (hp : PassesOwn (model X.prog X.w) X.A X.env X.xe) (hc : X.calm = true) (hi : PIw X W tg iter wi) (hg : PGw X vs tg g) (hb : PSsw X W body tb)
    (hs : ∀ x, foldedSetIterable iter X.env x = pure x := by intro _; rfl) : PSw X W (.For tg iter body [] pos) (wFor wi g tb) := by
  refine PS.imp (ps_for hp hc hi hg hb hs) fun D σ H ⟨F, ρ, M, Dw, r, s, h, e⟩ => ?_
  refine ⟨F, ρ, M, _, _, r, s, h, fun J H1 F1 xs M1 x1 r1 ok h1 => ?_, fun C H' F' M' a b d => e.ex C σ H' F' ρ M' a b (s.mono a) d⟩
  refine ⟨fun i m σ H => i + m = xs.length ∧ ∃ F2 ρ M, Ext F1 F2 ∧ Rel F2 M H ∧ SlOk F2 σ ρ ∧ forGo g tb Dw (xs.drop i) ρ M, ⟨xs.length, Nat.zero_add _, F1, ρ, M1, Same.refl F1, r1, s.mono x1, h1⟩, ?_⟩
  rintro i m σ2 H2 ⟨hm, F2, ρ2, M2, x2, r2, s2, h2⟩
  by_cases hi : i < xs.length
  · refine .inr ⟨ok.go i F2 M2 H2 hi x2 r2, fun σ' H' => i + 1 ≤ xs.length ∧ ∃ F3 ρ M, Ext F1 F3 ∧ Rel F3 M H' ∧ SlOk F3 σ' ρ ∧ forGo g tb Dw (xs.drop (i + 1)) ρ M, fun σ' H' ⟨z, h'⟩ => ⟨m - 1, by omega, by omega, h'⟩, fun v H3 y => ?_⟩
    obtain ⟨w, F3, ew, x3, r3, rw3⟩ := ok.yld i F2 M2 H2 v H3 hi x2 r2 y
    rw [List.drop_eq_getElem_cons hi] at h2
    rw [List.getElem?_eq_getElem hi] at ew
    have ew := Option.some.inj ew
    rw [ew] at h2
    refine ⟨F3, ρ2, M2, w, _, r3, s2.mono x3, rw3, h2, fun σ4 H4 F4 ρ4 M4 _ x4 r4 s4 h4 => ⟨F4, ρ4, M4, _, r4, s4, h4, ?_⟩⟩
    have xx : Ext F1 F4 := Same.trans x2 (Same.trans x3 x4)
    have xe : Ext F F4 := Same.trans x1 xx
    refine ⟨fun σ' H' F' ρ' M' a b c d => ⟨by omega, F', ρ', M', Same.trans xx a, b, c, d⟩, fun v H' F' x M' a b c d => e.rt v H' F' x M' (Same.trans xe a) b c d, fun σ' H' F' ρ' M' a b c d => e.nx σ' H' F' ρ' M' (Same.trans xe a) b c d,
      fun σ' H' F' ρ' M' a b c d => ⟨by omega, F', ρ', M', Same.trans xx a, b, c, d⟩, fun C σ' H' F' ρ' M' a b c d => e.ex C σ' H' F' ρ' M' (Same.trans xe a) b c d⟩
  · have hi' : xs.length ≤ i := Nat.le_of_not_lt hi
    rw [List.drop_eq_nil_of_le hi'] at h2
    exact .inl ⟨ok.stop i F2 M2 H2 hi' x2 r2, e.nx σ2 H2 F2 ρ2 M2 (Same.trans x1 x2) r2 s2 h2⟩
/-! ### while -/
/-- a while, by its turns counted -/
def whileN (c : WT) (tb : WS) (D : WEnds) : Nat → Rho → Mh → Prop
  | 0, _, _ => False
  | n + 1, ρ, M => c ρ M (fun b M1 => bch b (tb { D with nx := whileN c tb D n, ct := whileN c tb D n, bk := D.nx } ρ M1) (D.nx ρ M1)) (fun C M1 => D.ex C ρ M1)
def wWhileI (c : WT) (tb : WS) : WS := fun D ρ M => ∃ I : Nat → Rho → Mh → Prop, (∃ m, I m ρ M) ∧ ∀ m ρ M, I m ρ M →
  c ρ M (fun b M1 => bch b (tb { D with nx := fun ρ' M' => ∃ m', m' < m ∧ I m' ρ' M', ct := fun ρ' M' => ∃ m', m' < m ∧ I m' ρ' M', bk := D.nx } ρ M1) (D.nx ρ M1)) (fun C M1 => D.ex C ρ M1)
def wWhile (c : WT) (tb : WS) : WS := fun D ρ M => wWhileI c tb D ρ M ∨ ∃ n, whileN c tb D n ρ M
theorem psw_while {c : Expr} {body : List Stmt} {wc : WT} {tb : WS} (hp : PassesOwn (model X.prog X.w) X.A X.env X.xe) (hc : PTw X W c wc) (hb : PSsw X W body tb) : PSw X W (.While c body [] pos) (wWhile wc tb) := by
  refine PS.imp (ps_while hp hc hb) fun D σ H ⟨F, ρ, M, Dw, r, s, hw, e⟩ => ?_
  rcases hw with ⟨I, ⟨m0, h0⟩, hI⟩ | ⟨n0, h0⟩
  · refine ⟨fun m σ H => ∃ F2 ρ M, Ext F F2 ∧ Rel F2 M H ∧ SlOk F2 σ ρ ∧ I m ρ M, ⟨m0, F, ρ, M, Same.refl F, r, s, h0⟩, ?_⟩
    rintro m σ1 H1 ⟨F1, ρ1, M1, x1, r1, s1, h1⟩
    refine ⟨F1, ρ1, M1, _, _, r1, s1, hI m ρ1 M1 h1, fun b H2 F2 c M2 x2 r2 rc h2 => ?_, fun C H' F' M' a b d => e.ex C σ1 H' F' ρ1 M' (Same.trans x1 a) b (s1.mono a) d⟩
    cases rc
    have xx : Ext F F2 := Same.trans x1 x2
    cases b with
    | false => exact iteF (e.nx σ1 H2 F2 ρ1 M2 xx r2 (s1.mono x2) h2)
    | true =>
      refine iteT ⟨fun σ' H' => ∃ m', m' < m ∧ ∃ F3 ρ M, Ext F F3 ∧ Rel F3 M H' ∧ SlOk F3 σ' ρ ∧ I m' ρ M, fun σ' H' h => h, F2, ρ1, M2, _, r2, s1.mono x2, h2, ?_⟩
      exact ⟨fun σ' H' F' ρ' M' a b c ⟨m', l, d⟩ => ⟨m', l, F', ρ', M', Same.trans xx a, b, c, d⟩, fun v H' F' x M' a b c d => e.rt v H' F' x M' (Same.trans xx a) b c d, fun σ' H' F' ρ' M' a b c d => e.nx σ' H' F' ρ' M' (Same.trans xx a) b c d,
        fun σ' H' F' ρ' M' a b c ⟨m', l, d⟩ => ⟨m', l, F', ρ', M', Same.trans xx a, b, c, d⟩, fun C σ' H' F' ρ' M' a b c d => e.ex C σ' H' F' ρ' M' (Same.trans xx a) b c d⟩
  · refine ⟨fun m σ H => ∃ F2 ρ M, Ext F F2 ∧ Rel F2 M H ∧ SlOk F2 σ ρ ∧ whileN wc tb Dw m ρ M, ⟨n0, F, ρ, M, Same.refl F, r, s, h0⟩, ?_⟩
    rintro m σ1 H1 ⟨F1, ρ1, M1, x1, r1, s1, h1⟩
    cases m with
    | zero => exact h1.elim
    | succ n =>
      refine ⟨F1, ρ1, M1, _, _, r1, s1, h1, fun b H2 F2 c M2 x2 r2 rc h2 => ?_, fun C H' F' M' a b d => e.ex C σ1 H' F' ρ1 M' (Same.trans x1 a) b (s1.mono a) d⟩
      cases rc
      have xx : Ext F F2 := Same.trans x1 x2
      cases b with
      | false => exact iteF (e.nx σ1 H2 F2 ρ1 M2 xx r2 (s1.mono x2) h2)
      | true =>
        refine iteT ⟨fun σ' H' => ∃ F3 ρ M, Ext F F3 ∧ Rel F3 M H' ∧ SlOk F3 σ' ρ ∧ whileN wc tb Dw n ρ M, fun σ' H' h => ⟨n, Nat.lt_succ_self n, h⟩, F2, ρ1, M2, _, r2, s1.mono x2, h2, ?_⟩
        exact ⟨fun σ' H' F' ρ' M' a b c d => ⟨F', ρ', M', Same.trans xx a, b, c, d⟩, fun v H' F' x M' a b c d => e.rt v H' F' x M' (Same.trans xx a) b c d, fun σ' H' F' ρ' M' a b c d => e.nx σ' H' F' ρ' M' (Same.trans xx a) b c d,
          fun σ' H' F' ρ' M' a b c d => ⟨F', ρ', M', Same.trans xx a, b, c, d⟩, fun C σ' H' F' ρ' M' a b c d => e.ex C σ' H' F' ρ' M' (Same.trans xx a) b c d⟩
end
end Lw

namespace Lw
open PySem PySem.Spec L2

/-! ## freezing -/
@[irreducible] def frzC (p : Addr) (M : Mh) (Q : Wv → Mh → Prop) : Prop := match M p with
    | some (.lst ws) => (match allD ws with | some ds => Q (.d (.lst ds)) (M.del p) | none => False)
    | some (.tup ws) => (match allD ws with | some ds => Q (.d (.tup ds)) (M.del p) | none => False)
    | some (.dT kvs) => (match allD (kvs.map (·.2)) with | some ds => Q (.d (.dct ((kvs.map (·.1)).zip ds))) (M.del p) | none => False)
    | some (.ins C fs) => (match allD (fs.map (·.2)) with | some ds => Q (.d (.obj C ((fs.map (·.1)).zip ds))) (M.del p) | none => False)
    | none => False
def frz1 (x : Wv) (M : Mh) (Q : Wv → Mh → Prop) : Prop := match x with
  | .d d => Q (.d d) M
  | .c p => frzC p M Q
theorem RpWK.ds {F : Hp} : ∀ {vs : List (List Key × V)} {ws : List (List Int × Wv)} {ds : List Dt}, RpWK F vs ws → ws.map (·.2) = ds.map .d → RpK F vs ((ws.map (·.1)).zip ds)
  | _, _, [], .nil, _ => .nil
  | _, _, _ :: _, .nil, e => nomatch e
  | _, _, [], .cons _ _, e => nomatch e
  | (k, v) :: vs, (k', w) :: ws, d :: ds, .cons h t, e => by
    simp only [List.map_cons, List.cons.injEq] at e
    obtain ⟨e1, e2⟩ := e
    have e1 : w = .d d := e1
    subst e1
    have hk : k = k'.map Sum.inl := h.1
    subst hk
    exact .cons h.2 (RpWK.ds t e2)
theorem RpWF.ds {F : Hp} : ∀ {vs : List (Str × V)} {ws : List (Str × Wv)} {ds : List Dt}, RpWF F vs ws → ws.map (·.2) = ds.map .d → RpF F vs ((ws.map (·.1)).zip ds)
  | _, _, [], .nil, _ => .nil
  | _, _, _ :: _, .nil, e => nomatch e
  | _, _, [], .cons _ _, e => nomatch e
  | (k, v) :: vs, (k', w) :: ws, d :: ds, .cons h t, e => by
    simp only [List.map_cons, List.cons.injEq] at e
    obtain ⟨e1, e2⟩ := e
    have e1 : w = .d d := e1
    subst e1
    have hk : k = k' := h.1
    subst hk
    exact .cons h.2 (RpWF.ds t e2)
theorem frz1_ok {F H : Hp} {M : Mh} (r : Rel F M H) {v : V} {x : Wv} (rx : RpW F v x) {Q : Wv → Mh → Prop} (h : frz1 x M Q) : ∃ F' d M', Ext F F' ∧ Rel F' M' H ∧ Rp F' v d ∧ Q (.d d) M' := by
  unfold frz1 at h
  split at h
  · exact ⟨F, _, M, Same.refl F, r, rx, h⟩
  · rename_i p
    cases rx
    unfold frzC at h
    cases e : M p with
    | none => rw [e] at h; exact h.elim
    | some o =>
      rw [e] at h
      obtain ⟨_, k⟩ := r.mu p o e
      cases o with
      | lst ws =>
        obtain ⟨vs, h1, rs⟩ := k
        cases ea : allD ws with
        | none => simp only [ea] at h
        | some ds =>
          simp only [ea] at h
          cases allD_eq ea
          obtain ⟨r', x'⟩ := r.frz e h1
          exact ⟨_, _, _, x', r', Rp.lst upd_same (RpL.mono x' (RpWs.ds rs)), h⟩
      | tup ws =>
        obtain ⟨vs, h1, rs⟩ := k
        cases ea : allD ws with
        | none => simp only [ea] at h
        | some ds =>
          simp only [ea] at h
          cases allD_eq ea
          obtain ⟨r', x'⟩ := r.frz e h1
          exact ⟨_, _, _, x', r', Rp.tup upd_same (RpL.mono x' (RpWs.ds rs)), h⟩
      | dT ws =>
        obtain ⟨vs, h1, rs⟩ := k
        cases ea : allD (ws.map (·.2)) with
        | none => simp only [ea] at h
        | some ds =>
          simp only [ea] at h
          obtain ⟨r', x'⟩ := r.frz e h1
          exact ⟨_, _, _, x', r', Rp.dct upd_same (RpK.mono x' (RpWK.ds rs (allD_eq ea))), h⟩
      | ins C ws =>
        obtain ⟨dx, vs, h1, rs⟩ := k
        cases ea : allD (ws.map (·.2)) with
        | none => simp only [ea] at h
        | some ds =>
          simp only [ea] at h
          obtain ⟨r', x'⟩ := r.frz e h1
          exact ⟨_, _, _, x', r', Rp.obj upd_same (RpF.mono x' (RpWF.ds rs (allD_eq ea))), h⟩
def wFz (e : WE) : WE := fun ρ M Q E => e ρ M (fun x M' => frz1 x M' Q) E
theorem can_fz {W : WX} {w : WE} {σ : St} {H : Hp} {Q : VK} (h : can RpW W (wFz w) σ H Q) : can RpW W w σ H Q := by
  obtain ⟨F, ρ, M, Qw, Ew, r, s, h, q, e⟩ := h
  refine ⟨F, ρ, M, _, Ew, r, s, h, fun v H' F' x M' a b c d => ?_, e⟩
  obtain ⟨F2, d2, M2, x2, r2, rp, h2⟩ := frz1_ok b c d
  exact q v H' F2 (.d d2) M2 (Same.trans a x2) r2 rp h2
theorem pew_fz {X : Cx} {W : WX} {e : Expr} {w : WE} (h : PEw X W e w) : PEw X W e (wFz w) := PE.imp h fun _ _ _ => can_fz

/-! ## comprehensions -/
def wipeW (ρ : Rho) : List Nat → Rho
  | [] => ρ
  | v :: vs => (wipeW ρ vs).set v none
theorem SlOk.wipe {F : Hp} {σ : St} {ρ : Rho} (h : SlOk F σ ρ) : ∀ vs, SlOk F (wipe σ vs) (wipeW ρ vs)
  | [] => h
  | v :: vs => (SlOk.wipe h vs).unset v
theorem wipe_set' {i : Nat} : ∀ {vs : List Nat} {σ : St}, wipe (σ.set i none) vs = (wipe σ vs).set i none
  | [], _ => rfl
  | v :: vs, σ => by
    show (wipe (σ.set i none) vs).set v none = ((wipe σ vs).set v none).set i none
    rw [wipe_set']
    by_cases e : i = v
    · subst e; rfl
    · rw [List.set_comm _ _ e]
theorem wipe_wipe {vs : List Nat} {σ : St} : wipe (wipe σ vs) vs = wipe σ vs := by
  have key : ∀ (us : List Nat), (∀ i ∈ us, i ∈ vs) → wipe (wipe σ us) vs = wipe σ vs := by
    intro us
    induction us with
    | nil => intro _; rfl
    | cons a r ih =>
      intro h
      show wipe ((wipe σ r).set a none) vs = _
      rw [wipe_set (h a (List.mem_cons_self ..)), ih fun i hi => h i (List.mem_cons_of_mem _ hi)]
  exact key vs fun _ h => h
abbrev WF : WX := fun _ _ _ _ => False
abbrev EF : EW := fun _ _ => False
theorem takesF {X : Cx} (h : X.xe = fun _ _ => False) : Takes X WF := fun u s' ⟨_, _, _, _, _, _, _, _, _, _, _, _, _, _, _, _, w⟩ => w.elim
def lcGo (D : Addr) (g : WTg) (tt : WT) (te : WE) (vs : List Nat) (ρ : Rho) (Q : Mh → Prop) : List Wv → Mh → Prop
  | [], M => Q M
  | x :: xs, M => g x (wipeW ρ vs) M fun ρ2 M2 => tt ρ2 M2 (fun b M3 => bch b (te ρ2 M3 (fun y M4 => match M4 D with
      | some (.lst acc) => acc.length < sizeLine ∧ lcGo D g tt te vs ρ Q xs (M4.set D (.lst (acc ++ [y])))
      | _ => False) EF) (lcGo D g tt te vs ρ Q xs M3)) EF
def wLc (wi : WI) (g : WTg) (tt : WT) (te : WE) (vs : List Nat) : WE := fun ρ M Q E => wi ρ M (fun xs M1 => ∀ D, M1 D = none → lcGo D g tt te vs ρ (fun M' => Q (.c D) M') xs (M1.set D (.lst []))) E
def wYes : WT := fun _ M Q _ => Q true M
section
variable {X : Cx} {W : WX} {tg : Expr} {e e2 : Expr} {we : WE} {wa : WA} {pos p tpos : Pos}
theorem can_lc {wi : WI} {g : WTg} {tt : WT} {te : WE} {vs : List Nat} {σ : St} {H : Hp} {Q : VK} (h : can RpW W (wLc wi g tt te vs) σ H Q) : tLc (canI W wi) (canG vs g) (can RB WF tt) (can RpW WF te) vs σ H Q := by
  obtain ⟨F, ρ, M, Qw, Ew, r, s, h, q, e⟩ := h
  refine ⟨F, ρ, M, _, Ew, r, s, h, fun J H1 F1 xs M1 x1 r1 ok h1 D hD => ?_, e⟩
  have h2 := h1 D (r1.noM hD)
  refine ⟨fun i m H => i + m = xs.length ∧ ∃ F2 M, Ext F1 F2 ∧ Rel F2 M H ∧ lcGo D g tt te vs ρ (fun M' => Qw (.c D) M') (xs.drop i) M, ⟨xs.length, Nat.zero_add _, F1, _, Same.refl F1, r1.newM (m := .lst []) hD ⟨[], upd_same, .nil⟩, h2⟩, ?_⟩
  rintro i m H2 ⟨hm, F2, M2, x2, r2, h2⟩
  by_cases hi : i < xs.length
  · refine .inr ⟨ok.go i F2 M2 H2 hi x2 r2, fun H' => i + 1 ≤ xs.length ∧ ∃ F3 M, Ext F1 F3 ∧ Rel F3 M H' ∧ lcGo D g tt te vs ρ (fun M' => Qw (.c D) M') (xs.drop (i + 1)) M, fun H' ⟨z, h'⟩ => ⟨m - 1, by omega, by omega, h'⟩, fun v H3 y => ?_⟩
    obtain ⟨w, F3, ew, x3, r3, rw3⟩ := ok.yld i F2 M2 H2 v H3 hi x2 r2 y
    rw [List.drop_eq_getElem_cons hi] at h2
    rw [List.getElem?_eq_getElem hi] at ew
    have ew := Option.some.inj ew
    rw [ew] at h2
    have x03 : Ext F F3 := Same.trans x1 (Same.trans x2 x3)
    refine ⟨F3, wipeW ρ vs, M2, w, _, r3, (s.mono x03).wipe vs, rw3, h2, fun σ4 H4 F4 ρ4 M4 k4 x4 r4 s4 h4 => ⟨Eq.trans k4 wipe_wipe, F4, ρ4, M4, _, _, r4, s4, h4, fun b H5 F5 c M5 x5 r5 rc h5 => ?_, fun C H' F' M' a b d => d.elim⟩⟩
    cases rc
    have x15 : Ext F1 F5 := Same.trans x2 (Same.trans x3 (Same.trans x4 x5))
    cases b with
    | false => exact iteF ⟨by omega, F5, M5, x15, r5, h5⟩
    | true =>
      refine iteT ⟨F5, ρ4, M5, _, _, r5, s4.mono x5, h5, fun y H6 F6 wy M6 x6 r6 ry h6 => ?_, fun C H' F' M' a b d => d.elim⟩
      split at h6
      · rename_i acc ea
        obtain ⟨_, as, ha, ra⟩ := r6.mu D _ ea
        refine ⟨as, ha, by rw [ra.len]; exact h6.1, by omega, F6, _, Same.trans x15 x6, r6.wrM (m' := .lst (acc ++ [wy])) ea ⟨_, upd_same, RpWs.append ra (.cons ry .nil)⟩, h6.2⟩
      · exact h6.elim
  · have hi' : xs.length ≤ i := Nat.le_of_not_lt hi
    rw [List.drop_eq_nil_of_le hi'] at h2
    exact .inl ⟨ok.stop i F2 M2 H2 hi' x2 r2, q (.ref D) H2 F2 (.c D) M2 (Same.trans x1 x2) r2 rfl h2⟩
abbrev PTsw (X : Cx) (ifs : List Expr) (t : WT) : Prop := PTs X ifs (can RB WF t)
theorem ptsw_nil : PTsw X [] wYes := ⟨fun pins s σ H Q I h => pts_nil.run pins s σ H Q I (by
  obtain ⟨F, ρ, M, Qw, Ew, r, s, h, q, e⟩ := h
  exact q true H F true M (Same.refl F) r rfl h)⟩
theorem ptsw_one {c : Expr} {t : WT} (h : PTw X WF c t) : PTsw X [c] t := pts_one h
theorem pew_lc {elt iter : Expr} {ifs : List Expr} {scope : Scope} {own : List (Str × Nat)} {wi : WI} {g : WTg} {tt : WT} {te : WE} (hc : X.calm = true) (hN : X.N.Nodup) (hi : PIw X W tg iter wi) (ok : BlkOk X.N X.env.scope scope own)
    (hg : ∀ (s : Shared) (H : Hp) (C : Addr) (cl : List (Str × Addr)) (fp : List Addr), PGw (X.blk s H scope (compEnvC scope cl C X.env) fp) (own.map (·.2)) tg g) (ht : ∀ (s : Shared) (H : Hp) (C : Addr) (cl : List (Str × Addr)) (fp : List Addr), PTsw (X.blk s H scope (compEnvC scope cl C X.env) fp) ifs tt)
    (he : ∀ (s : Shared) (H : Hp) (C : Addr) (cl : List (Str × Addr)) (fp : List Addr), PEw (X.blk s H scope (compEnvC scope cl C X.env) fp) WF elt te) (hs : ∀ x, foldedSetIterable iter X.env x = pure x := by intro _; rfl) :
    PEw X W (.ListComp elt [⟨tg, iter, ifs, 0⟩] scope pos) (wLc wi g tt te (own.map (·.2))) :=
  PE.imp (pe_lc hc hN hi ok hg ht he hs) fun _ _ _ h => can_lc h
/-- y = [..] -/
theorem psw_setLc {i : Nat} {y : Str} {py : Pos} {elt iter : Expr} {ifs : List Expr} {scope : Scope} {own : List (Str × Nat)} {spos : Pos} {wi : WI} {g : WTg} {tt : WT} {te : WE} {w : WE} (hc : X.calm = true) (hN : X.N.Nodup) (hi : PIw X W tg iter wi) (ok : BlkOk X.N X.env.scope scope own)
    (hg : ∀ (s : Shared) (H : Hp) (C : Addr) (cl : List (Str × Addr)) (fp : List Addr), PGw (X.blk s H scope (compEnvC scope cl C X.env) fp) (own.map (·.2)) tg g) (ht : ∀ (s : Shared) (H : Hp) (C : Addr) (cl : List (Str × Addr)) (fp : List Addr), PTsw (X.blk s H scope (compEnvC scope cl C X.env) fp) ifs tt)
    (he : ∀ (s : Shared) (H : Hp) (C : Addr) (cl : List (Str × Addr)) (fp : List Addr), PEw (X.blk s H scope (compEnvC scope cl C X.env) fp) WF elt te)
    (hw : ∀ σ H Q, can RpW W w σ H Q → can RpW W (wLc wi g tt te (own.map (·.2))) σ H Q)
    (hsw : swapsWith (.ListComp elt [⟨tg, iter, ifs, 0⟩] scope pos) (some (.Name y py)) spos.line X.env = pure true) (hy : X.N[i]? = some y := by rfl) (hyl : X.env.scope.names.lookup y = some .local := by rfl) (hs : ∀ x, foldedSetIterable iter X.env x = pure x := by intro _; rfl) :
    PSw X W (.Assign [.Name y py] (.ListComp elt [⟨tg, iter, ifs, 0⟩] scope pos) spos) (wSet i w) := by
  refine PS.imp (ps_setLc hc hN hy hyl hsw hi ok hg ht he hs) fun D σ H h => ?_
  have h1 := can_then (R := RpW) (w := w) (k := fun x D ρ M => D.nx (ρ.set i (some x)) M) h
  refine can_lc (hw σ H _ ?_)
  obtain ⟨F, h1⟩ := h1
  exact ⟨F, h1.mono fun v H1 ⟨F', x, rx, ρ, M, Dw, r, s, h, e⟩ => e.nx _ H1 F' _ M (Same.refl F') r (s.set i rx) h⟩
end

/-! ## defs -/
def startW (N : List Str) (ws : List Wv) : Rho := ws.map some ++ List.replicate (N.length - ws.length) none
theorem slOk_start {F : Hp} {N : List Str} {vs : List V} {ws : List Wv} (rs : RpWs F vs ws) : SlOk F (L2.start N vs) (startW N ws) := by
  have hl := rs.len
  refine ⟨by simp [L2.start, startW, hl], fun i w e => ?_⟩
  unfold startW at e
  by_cases hi : i < ws.length
  · rw [List.getElem?_append_left (by simpa using hi), List.getElem?_map] at e
    cases q : ws[i]? with
    | none => rw [q] at e; cases e
    | some w' =>
      rw [q] at e
      cases e
      obtain ⟨v, ev, rv⟩ := rs.get q
      refine ⟨v, ?_, rv⟩
      unfold L2.start
      rw [List.getElem?_append_left (by rw [List.length_map, hl]; exact hi), List.getElem?_map, ev]
      rfl
  · rw [List.getElem?_append_right (by simpa using Nat.le_of_not_lt hi)] at e
    obtain ⟨_, e2⟩ := List.getElem?_eq_some_iff.mp e
    rw [List.getElem_replicate] at e2
    cases e2
/-- what a def's body must bring about -/
def endsOf (Q : Wv → Mh → Prop) (E : EW) : WEnds where
  nx := fun _ M => ∃ M', Sub M' M ∧ Q (.d .non) M'
  rt := fun x M => ∃ M', Sub M' M ∧ Q x M'
  ex := fun C _ M => ∃ M', Sub M' M ∧ E C M'
section
variable {P : Program} {w : World} {K : PySem.W.Frag} {mg : Str → Option Value} {base : Heap} {x qual : Str} {params : Arguments} {body : List Stmt} {scope : Scope} {dvs : List V} {kws : List (Str × V)} {f : Addr} {fd : FuncData}
theorem fnW {N ps : List Str} {k : Nat} {sp : SpW} {t : WS} (F : FunD K x qual params body scope dvs kws f fd) (S : FnScope N ps scope) (len : ∀ ws M Q E, sp ws M Q E → ws.length = ps.length)
    (hbody : ∀ (cdv : Value) (A : Around) (outer : List Env) (s : Shared) (H : Hp) (E : XK), Room k (A.deeper (PyProof.Rows.envOfC qual scope s.heap.objs.size f cdv)) →
      PSsw (cxOf (L2.CX P w) P w K mg base N qual scope f cdv A outer s H E) (fun cls d _ H => E cls d H) body t)
    (hw : ∀ ws M Q E, sp ws M Q E → t (endsOf Q E) (startW N ws) M) : FnOk P w K mg base (L2.CX P w) (k + 1) f fd ps (lift sp) := by
  refine F.ok S (fun vs H Q E ⟨F, M, ws, Qw, Ew, r, rs, h, _⟩ => by rw [rs.len]; exact len ws M Qw Ew h) fun cdv A outer s H vs Q E hr ⟨F, M, ws, Qw, Ew, r, rs, h, q, e⟩ => ?_
  refine ⟨_, hbody cdv A outer s H E hr, F, startW N ws, M, endsOf Qw Ew, r, slOk_start rs, hw ws M Qw Ew h, ⟨fun σ' H' F' ρ' M' a b c ⟨M2, z, d⟩ => q .non H' F' (.d .non) M2 a (b.sub z) Rp.non d, fun v H' F' x M' a b c ⟨M2, z, d⟩ => q v H' F' x M2 a (b.sub z) c d, fun _ _ _ _ _ _ _ _ d => d.elim, fun _ _ _ _ _ _ _ _ d => d.elim, fun C σ' H' F' ρ' M' a b c ⟨M2, z, d⟩ => e C H' F' M2 a (b.sub z) d⟩⟩
/-- a def of the module, as callers see it -/
structure FnAt (P : Program) (w : World) (K : PySem.W.Frag) (mg : Str → Option Value) (base : Heap) (x : Str) (k : Nat) (dd : List Dt) (sp : SpW) : Prop where
  ex : ∃ (f : Addr) (fd : FuncData) (ps : List Str) (ds : List Value) (dvs : List V), mg x = some (.ref f) ∧ PySem.W.keepIn K (.ref f) = true ∧ FnOk P w K mg base (L2.CX P w) k f fd ps (lift sp) ∧ Binds K fd ps ds ∧ Vals dvs ds ∧ ∀ F, RpL F dvs dd
/-- a method of a class -/
structure MtAt (P : Program) (w : World) (K : PySem.W.Frag) (mg : Str → Option Value) (base : Heap) (C : Addr) (m : Str) (k : Nat) (dd : List Dt) (sp : SpW) : Prop where
  cl : Cls K C
  ex : ∃ (f : Addr) (fd : FuncData) (ps : List Str) (ds : List Value) (dvs : List V), Meth K C m f ∧ FnOk P w K mg base (L2.CX P w) k f fd ps (lift sp) ∧ Binds K fd ps ds ∧ Vals dvs ds ∧ ∀ F, RpL F dvs dd
/-- a class that is made by its __init__ -/
structure MkAt (P : Program) (w : World) (K : PySem.W.Frag) (mg : Str → Option Value) (base : Heap) (x : Str) (C : Addr) (k : Nat) (dd : List Dt) (sp : SpW) : Prop where
  at_ : mg x = some (.ref C)
  ex : ∃ (f : Addr) (fd : FuncData) (ps : List Str) (ds : List Value) (dvs : List V), Mk K C f ∧ FnOk P w K mg base (L2.CX P w) k f fd ps (lift sp) ∧ Binds K fd ps ds ∧ Vals dvs ds ∧ ∀ F, RpL F dvs dd
end
section
variable {X : Cx} {W : WX} {k : Nat} {C : Addr} {sp : SpW} {dd : List Dt} {x m : Str} {p pos apos : Pos} {a o : Expr} {es : List Expr} {t : WA} {wa wo : WE}
theorem pew_f (F : FnAt X.prog X.w X.K X.mg X.base x k dd sp) (hr : Room k X.A) (tk : Takes X W) (ha : PAw X W (a :: es) t) (hg : Gl X x := by rfl) (hdb : (x == ("__debug__" : Str)) = false := by decide) (he : starEach (a :: es) X.env = (false, eval a X.env) :: starEach es X.env := by rfl) (hpl : (backTo pos (starEach es X.env)).any (·.1) = false := by rfl) :
    PEw X W (.Call (.Name x p) (a :: es) [] pos) (wCall sp dd t) := by
  obtain ⟨f, fd, ps, ds, dvs, h1, h2, h3, h4, h5, h6⟩ := F.ex
  exact pew_call h3 hr hg h1 h2 h4 h5 h6 tk ha hdb he hpl
theorem pew_f0 (F : FnAt X.prog X.w X.K X.mg X.base x k dd sp) (hr : Room k X.A) (tk : Takes X W) (hg : Gl X x := by rfl) (hdb : (x == ("__debug__" : Str)) = false := by decide) : PEw X W (.Call (.Name x p) [] [] pos) (wCall sp dd wNil) := by
  obtain ⟨f, fd, ps, ds, dvs, h1, h2, h3, h4, h5, h6⟩ := F.ex
  exact pew_call0 h3 hr hg h1 h2 h4 h5 h6 tk hdb
theorem pew_m {pl : Sem Bool} (F : MtAt X.prog X.w X.K X.mg X.base C m k dd sp) (hr : Room k X.A) (tk : Takes X W) (he : PEw X W o wo) (ha : PAw X W (a :: es) t)
    (hst : starEach (a :: es) X.env = (false, eval a X.env) :: starEach es X.env := by rfl) (hpl : (backTo pos (starEach es X.env)).any (·.1) = false := by rfl)
    (ht : eval (.Call (.Attribute o m apos) (a :: es) [] pos) X.env = (do
      let ov ← eval o X.env
      standAt apos.atName
      let (f, first) ← holding [ov] (getMethod ov m pl)
      callWith pos f first (backTo pos (starEach (a :: es) X.env)) (backToKw pos (keywordEach [] X.env))) := by rfl) :
    PEw X W (.Call (.Attribute o m apos) (a :: es) [] pos) (wMeth C m sp dd wo t) := by
  obtain ⟨f, fd, ps, ds, dvs, h1, h3, h4, h5, h6⟩ := F.ex
  exact pew_meth F.cl h1 h3 hr h4 h5 h6 tk he ha hst hpl ht
theorem pew_m0 {pl : Sem Bool} (F : MtAt X.prog X.w X.K X.mg X.base C m k dd sp) (hr : Room k X.A) (tk : Takes X W) (he : PEw X W o wo)
    (ht : eval (.Call (.Attribute o m apos) [] [] pos) X.env = (do
      let ov ← eval o X.env
      standAt apos.atName
      let (f, first) ← holding [ov] (getMethod ov m pl)
      callWith pos f first (backTo pos (starEach [] X.env)) (backToKw pos (keywordEach [] X.env))) := by rfl) :
    PEw X W (.Call (.Attribute o m apos) [] [] pos) (wMeth C m sp dd wo wNil) := by
  obtain ⟨f, fd, ps, ds, dvs, h1, h3, h4, h5, h6⟩ := F.ex
  exact pew_meth0 F.cl h1 h3 hr h4 h5 h6 tk he ht
theorem pew_k (F : MkAt X.prog X.w X.K X.mg X.base x C k dd sp) (hr : Room (k + 1) X.A) (tk : Takes X W) (ha : PAw X W (a :: es) t) (hg : Gl X x := by rfl) (hdb : (x == ("__debug__" : Str)) = false := by decide) (he : starEach (a :: es) X.env = (false, eval a X.env) :: starEach es X.env := by rfl) (hpl : (backTo pos (starEach es X.env)).any (·.1) = false := by rfl) :
    PEw X W (.Call (.Name x p) (a :: es) [] pos) (wMake C sp dd t) := by
  obtain ⟨f, fd, ps, ds, dvs, h1, h3, h4, h5, h6⟩ := F.ex
  exact pew_make h1 h3 hr hg F.at_ h4 h5 h6 tk ha hdb he hpl
theorem pew_k0 (F : MkAt X.prog X.w X.K X.mg X.base x C k dd sp) (hr : Room (k + 1) X.A) (tk : Takes X W) (hg : Gl X x := by rfl) (hdb : (x == ("__debug__" : Str)) = false := by decide) : PEw X W (.Call (.Name x p) [] [] pos) (wMake C sp dd wNil) := by
  obtain ⟨f, fd, ps, ds, dvs, h1, h3, h4, h5, h6⟩ := F.ex
  exact pew_make0 h1 h3 hr hg F.at_ h4 h5 h6 tk hdb
end
end Lw

namespace Lw
open PySem PySem.Spec L2

/-! ## built-in functions by values -/
section
variable {X : Cx} {W : WX}
def rLen : WC := fun ws M Q => match ws with
  | [.d (.lst ds)] => Q (.d (.int ds.length)) M
  | [.d (.scr ds)] => Q (.d (.int ds.length)) M
  | [.d (.tup ds)] => Q (.d (.int ds.length)) M
  | [.d (.str z)] => z.length ≤ sizeLine ∧ Q (.d (.int z.length)) M
  | [.c p] => (match M p with | some (.lst ws) => Q (.d (.int ws.length)) M | some (.tup ws) => Q (.d (.int ws.length)) M | _ => False)
  | _ => False
abbrev hLen (K : PySem.W.Frag) : List V → Hp → VK → Prop := fun xs H Q => ∃ x n, xs = [x] ∧ LenV K x H n ∧ Q (.int n) H
theorem ab_len {K : PySem.W.Frag} : AbC (hLen K) rLen := by
  intro F M H xs ws Qw Q r rs h q
  unfold rLen at h
  split at h
  · cases rs with | cons r1 t => cases t; cases r1 with | lst h1 l1 => exact ⟨_, _, rfl, .inl ⟨_, SqL.of (r.fz _ _ h1), l1.len.symm⟩, qD q (Same.refl F) r (Rp.int _) h⟩
  · cases rs with | cons r1 t => cases t; cases r1 with | scr h1 l1 => exact ⟨_, _, rfl, .inl ⟨_, .inl (.inr ⟨_, r.fz _ _ h1⟩), l1.len.symm⟩, qD q (Same.refl F) r (Rp.int _) h⟩
  · cases rs with | cons r1 t => cases t; cases r1 with | tup h1 l1 => exact ⟨_, _, rfl, .inr ⟨_, SqT.of (r.fz _ _ h1), l1.len.symm⟩, qD q (Same.refl F) r (Rp.int _) h⟩
  · cases rs with | cons r1 t => cases t; cases r1; exact ⟨_, _, rfl, ⟨h.1, rfl⟩, qD q (Same.refl F) r (Rp.int _) h.2⟩
  · rename_i p
    cases rs with
    | cons r1 t =>
      cases t; cases r1
      cases e : M p with
      | none => rw [e] at h; exact h.elim
      | some o =>
        rw [e] at h
        obtain ⟨_, k⟩ := r.mu p o e
        cases o with
        | lst ws => obtain ⟨vs, h1, l1⟩ := k; exact ⟨_, _, rfl, .inl ⟨_, SqL.of h1, l1.len.symm⟩, qD q (Same.refl F) r (Rp.int _) h⟩
        | tup ws => obtain ⟨vs, h1, l1⟩ := k; exact ⟨_, _, rfl, .inr ⟨_, SqT.of h1, l1.len.symm⟩, qD q (Same.refl F) r (Rp.int _) h⟩
        | _ => exact h.elim
  · exact h.elim
def rAbs : WC := fun ws M Q => match ws with
  | [.d (.int i)] => Q (.d (.int (if i < 0 then -i else i))) M
  | _ => False
theorem ab_abs : AbC (fun xs H Q => ∃ i, xs = [.int i] ∧ Q (.int (if i < 0 then -i else i)) H) rAbs := by
  intro F M H xs ws Qw Q r rs h q
  unfold rAbs at h
  split at h
  · cases rs with | cons r1 t => cases t; cases r1; exact ⟨_, rfl, qD q (Same.refl F) r (Rp.int _) h⟩
  · exact h.elim
def rMax2 : WC := fun ws M Q => match ws with
  | [.d (.int i), .d (.int j)] => Q (.d (.int (if j > i then j else i))) M
  | _ => False
theorem ab_max2 : AbC (fun xs H Q => ∃ i j, xs = [.int i, .int j] ∧ Q (.int (if j > i then j else i)) H) rMax2 := by
  intro F M H xs ws Qw Q r rs h q
  unfold rMax2 at h
  split at h
  · cases rs with | cons r1 t => cases t with | cons r2 t => cases t; cases r1; cases r2; exact ⟨_, _, rfl, qD q (Same.refl F) r (Rp.int _) h⟩
  · exact h.elim
def rMin2 : WC := fun ws M Q => match ws with
  | [.d (.int i), .d (.int j)] => Q (.d (.int (if j < i then j else i))) M
  | _ => False
theorem ab_min2 : AbC (fun xs H Q => ∃ i j, xs = [.int i, .int j] ∧ Q (.int (if j < i then j else i)) H) rMin2 := by
  intro F M H xs ws Qw Q r rs h q
  unfold rMin2 at h
  split at h
  · cases rs with | cons r1 t => cases t with | cons r2 t => cases t; cases r1; cases r2; exact ⟨_, _, rfl, qD q (Same.refl F) r (Rp.int _) h⟩
  · exact h.elim
def rInt1 : WC := fun ws M Q => match ws with
  | [.d (.int i)] => Q (.d (.int i)) M
  | [.d (.bl k)] => Q (.d (.int (if k then 1 else 0))) M
  | _ => False
theorem ab_int1 : AbC (fun xs H Q => (∃ i, xs = [.int i] ∧ Q (.int i) H) ∨ ∃ k, xs = [.bl k] ∧ Q (.int (if k then 1 else 0)) H) rInt1 := by
  intro F M H xs ws Qw Q r rs h q
  unfold rInt1 at h
  split at h
  · cases rs with | cons r1 t => cases t; cases r1; exact .inl ⟨_, rfl, qD q (Same.refl F) r (Rp.int _) h⟩
  · cases rs with | cons r1 t => cases t; cases r1; exact .inr ⟨_, rfl, qD q (Same.refl F) r (Rp.int _) h⟩
  · exact h.elim
def rStrI : WC := fun ws M Q => match ws with
  | [.d (.int i)] => i.natAbs.log2 < 1920 ∧ Q (.d (.str (toString i))) M
  | _ => False
theorem ab_strI : AbC (fun xs H Q => ∃ i, xs = [.int i] ∧ i.natAbs.log2 < 1920 ∧ Q (.str (toString i)) H) rStrI := by
  intro F M H xs ws Qw Q r rs h q
  unfold rStrI at h
  split at h
  · cases rs with | cons r1 t => cases t; cases r1; exact ⟨_, rfl, h.1, qD q (Same.refl F) r (Rp.str _) h.2⟩
  · exact h.elim
/-- the items of a list or a tuple that is read -/
def seqOf (x : Wv) (M : Mh) (k : List Wv → Prop) : Prop := match x with
  | .d (.lst ds) => k (ds.map .d)
  | .d (.scr ds) => k (ds.map .d)
  | .d (.tup ds) => k (ds.map .d)
  | .c p => (match M p with | some (.lst ws) => k ws | some (.tup ws) => k ws | _ => False)
  | _ => False
theorem seqOf_ok {K : PySem.W.Frag} {F H : Hp} {M : Mh} (r : Rel F M H) {v : V} {x : Wv} (rx : RpW F v x) {k : List Wv → Prop} (h : seqOf x M k) : ∃ a vs ws, v = .ref a ∧ (SqL K H a vs ∨ SqT K H a vs) ∧ RpWs F vs ws ∧ k ws := by
  unfold seqOf at h
  split at h
  · cases rx with | lst h1 l1 => exact ⟨_, _, _, rfl, .inl (SqL.of (r.fz _ _ h1)), l1.ws, h⟩
  · cases rx with | scr h1 l1 => exact ⟨_, _, _, rfl, .inl (.inl (.inr ⟨_, r.fz _ _ h1⟩)), l1.ws, h⟩
  · cases rx with | tup h1 l1 => exact ⟨_, _, _, rfl, .inr (SqT.of (r.fz _ _ h1)), l1.ws, h⟩
  · rename_i p
    cases rx
    split at h
    · rename_i ws e
      obtain ⟨_, vs, h1, h2⟩ := r.mu p _ e
      exact ⟨p, vs, ws, rfl, .inl (SqL.of h1), h2, h⟩
    · rename_i ws e
      obtain ⟨_, vs, h1, h2⟩ := r.mu p _ e
      exact ⟨p, vs, ws, rfl, .inr (SqT.of h1), h2, h⟩
    · exact h.elim
  · exact h.elim
/-- list(x): a new cell -/
def rListC : WC := fun ws M Q => match ws with
  | [x] => seqOf x M fun xs => ∀ p, M p = none → Q (.c p) (M.set p (.lst xs))
  | _ => False
theorem ab_listC {K : PySem.W.Frag} : AbC (fun xs H Q => ∃ p ys, xs = [.ref p] ∧ (SqL K H p ys ∨ SqT K H p ys) ∧ ∀ l, H l = none → Q (.ref l) (upd H l (.lst ys))) rListC := by
  intro F M H xs ws Qw Q r rs h q
  unfold rListC at h
  split at h
  · cases rs with
    | cons r1 t =>
      cases t
      obtain ⟨a, vs, ws, rfl, e, rv, h⟩ := seqOf_ok (K := K) r r1 h
      exact ⟨a, vs, rfl, e, fun l hl => q _ _ _ (.c l) _ (Same.refl F) (r.newM (m := .lst ws) hl ⟨_, upd_same, rv⟩) rfl (h l (r.noM hl))⟩
  · exact h.elim
/-- all, any of a list of truths -/
def blsOf : List Dt → Option (List Bool)
  | [] => some []
  | .bl b :: r => (blsOf r).map (b :: ·)
  | _ => none
theorem blsOf_ok {F : Hp} : ∀ {ds : List Dt} {vs : List V} {bs : List Bool}, blsOf ds = some bs → RpL F vs ds → vs = bs.map V.bl
  | [], _, _, h, .nil => by cases h; rfl
  | .bl b :: r, _, _, h, .cons r1 t => by
    unfold blsOf at h
    cases e : blsOf r with
    | none => rw [e] at h; cases h
    | some l => rw [e] at h; cases h; cases r1; rw [blsOf_ok e t]; rfl
theorem blsOf_map (bs : List Bool) : blsOf (bs.map .bl) = some bs := by
  induction bs with
  | nil => rfl
  | cons b r ih => show (blsOf (r.map .bl)).map (b :: ·) = _; rw [ih]; rfl
def rAll : WC := fun ws M Q => match ws with
  | [.d (.lst ds)] => (match blsOf ds with | some bs => Q (.d (.bl (bs.all id))) M | none => False)
  | _ => False
def rAny : WC := fun ws M Q => match ws with
  | [.d (.lst ds)] => (match blsOf ds with | some bs => Q (.d (.bl (bs.any id))) M | none => False)
  | _ => False
theorem ab_all {K : PySem.W.Frag} : AbC (L2.rAll K) rAll := by
  intro F M H xs ws Qw Q r rs h q
  unfold rAll at h
  split at h
  · cases rs with
    | cons r1 t =>
      cases t
      cases r1 with
      | lst h1 l1 =>
        split at h
        · rename_i bs e
          refine ⟨_, bs, rfl, ?_, qD q (Same.refl F) r (Rp.bl _) h⟩
          rw [← blsOf_ok e l1]
          exact SqL.of (r.fz _ _ h1)
        · exact h.elim
  · exact h.elim
theorem ab_any {K : PySem.W.Frag} : AbC (L2.rAny K) rAny := by
  intro F M H xs ws Qw Q r rs h q
  unfold rAny at h
  split at h
  · cases rs with
    | cons r1 t =>
      cases t
      cases r1 with
      | lst h1 l1 =>
        split at h
        · rename_i bs e
          refine ⟨_, bs, rfl, ?_, qD q (Same.refl F) r (Rp.bl _) h⟩
          rw [← blsOf_ok e l1]
          exact SqL.of (r.fz _ _ h1)
        · exact h.elim
  · exact h.elim
/-- the ints of a list -/
def intsOf : List Dt → Option (List Int)
  | [] => some []
  | .int b :: r => (intsOf r).map (b :: ·)
  | _ => none
theorem intsOf_ok {F : Hp} : ∀ {ds : List Dt} {vs : List V} {bs : List Int}, intsOf ds = some bs → RpL F vs ds → vs = bs.map V.int
  | [], _, _, h, .nil => by cases h; rfl
  | .int b :: r, _, _, h, .cons r1 t => by
    unfold intsOf at h
    cases e : intsOf r with
    | none => rw [e] at h; cases h
    | some l => rw [e] at h; cases h; cases r1; rw [intsOf_ok e t]; rfl
theorem intsOf_map (bs : List Int) : intsOf (bs.map .int) = some bs := by
  induction bs with
  | nil => rfl
  | cons b r ih => show (intsOf (r.map .int)).map (b :: ·) = _; rw [ih]; rfl
def rMin1 : WC := fun ws M Q => match ws with
  | [.d (.lst ds)] => (match intsOf ds with | some ns => 0 < ns.length ∧ ∀ m, m ∈ ns → (∀ y, y ∈ ns → m ≤ y) → Q (.d (.int m)) M | none => False)
  | _ => False
theorem ab_min1 {K : PySem.W.Frag} : AbC (rMin K) rMin1 := by
  intro F M H xs ws Qw Q r rs h q
  unfold rMin1 at h
  split at h
  · cases rs with
    | cons r1 t =>
      cases t
      cases r1 with
      | lst h1 l1 =>
        split at h
        · rename_i bs e
          refine ⟨_, bs, rfl, ?_, h.1, fun m hm hy => qD q (Same.refl F) r (Rp.int _) (h.2 m hm hy)⟩
          rw [← intsOf_ok e l1]
          exact SqL.of (r.fz _ _ h1)
        · exact h.elim
  · exact h.elim
/-! ### isinstance against a built-in class -/
def tyName : Dt → Option String
  | .non => some "NoneType" | .bl _ => some "bool" | .int _ => some "int" | .str _ => some "str" | .tup _ => some "tuple" | .lst _ => some "list" | .scr _ => some "list" | .dct _ => some "dict" | .obj _ _ => none
def isiT (t T : String) : Bool := t == T || (t == "bool" && T == "int")
theorem kit_tab : ∀ t ∈ ["NoneType", "bool", "int", "str", "tuple", "list", "dict"], ∀ T ∈ ["int", "bool", "str", "tuple", "list"], kitB t T = some (isiT t T) := by decide +kernel
theorem tyName_ok {K : PySem.W.Frag} {F H : Hp} (z : Same F H) {v : V} {d : Dt} {t : String} (r : Rp F v d) (h : tyName d = some t) : TyX K H v (.type t) ∧ t ∈ ["NoneType", "bool", "int", "str", "tuple", "list", "dict"] := by
  cases r with
  | non => cases h; exact ⟨.base .non, by decide⟩
  | bl b => cases h; exact ⟨.base (.bl b), by decide⟩
  | int i => cases h; exact ⟨.base (.int i), by decide⟩
  | str x => cases h; exact ⟨.base (.str x), by decide⟩
  | tup h1 l1 => cases h; exact ⟨.base (.tup (z _ _ h1)), by decide⟩
  | lst h1 l1 => cases h; exact ⟨.base (.lst (z _ _ h1)), by decide⟩
  | scr h1 l1 => cases h; exact ⟨.base (.frz (z _ _ h1)), by decide⟩
  | dct h1 l1 => cases h; exact ⟨.base (.dT (z _ _ h1)), by decide⟩
  | obj h1 l1 => cases h
/-- isinstance(x, T) -/
def rIsi (T : String) : W1 := fun x M Q => match x with
  | .d d => (match tyName d with | some t => Q (.d (.bl (isiT t T))) M | none => False)
  | .c p => (match M p with | some (.lst _) => Q (.d (.bl (isiT "list" T))) M | some (.tup _) => Q (.d (.bl (isiT "tuple" T))) M | some (.dT _) => Q (.d (.bl (isiT "dict" T))) M | _ => False)
def wIsi (T : String) (a : WE) : WE := wUn (rIsi T) a
variable {a : Expr} {wa : WE} {p p2 pos : Pos} {x : Str} {T : String}
theorem pew_isi (hx : bootBuiltins x = some (.type T)) (hT : T ∈ ["int", "bool", "str", "tuple", "list"]) (hm1 : X.mg "isinstance" = none) (hm2 : X.mg x = none) (ha : PEw X W a wa) (hg1 : Gl X "isinstance" := by rfl) (hg2 : Gl X x := by rfl) (hn : x ≠ "__name__" := by decide) (hd : (x == ("__debug__" : Str)) = false := by decide)
    (hs : starEach [a, .Name x p2] X.env = (false, eval a X.env) :: starEach [.Name x p2] X.env := by rfl) (hs2 : starEach [.Name x p2] X.env = (false, eval (.Name x p2) X.env) :: starEach [] X.env := by rfl)
    (hpl : (backTo pos (starEach [.Name x p2] X.env)).any (·.1) = false := by rfl) : PEw X W (.Call (.Name "isinstance" p) [a, .Name x p2] [] pos) (wIsi T wa) := by
  refine PE.imp (pe_callB call_isi hg1 hm1 (by decide +kernel) (pa_cons ha (pa_cons (pe_bltn (v := .ty T) hg2 hm2 hx rfl hn hd) pa_nil hs2) hs) (by decide) (by decide) hs hpl) fun σ H Q h => ?_
  obtain ⟨F, h⟩ := h
  have h1 := canAt.seq (R := RpW) (w := wa) (k := fun x ρ M Q E => rIsi T x M Q) h
  refine ⟨F, h1.mono fun v H1 ⟨F1, y, x1, ry, h2⟩ => ?_⟩
  obtain ⟨ρ, M, Qw, Ew, r, s, h, q, e⟩ := h2
  unfold rIsi at h
  split at h
  · rename_i d
    split at h
    · rename_i t et
      obtain ⟨ty, mt⟩ := tyName_ok (K := X.K) r.fz ry et
      exact ⟨v, .ty T, .type t, .type T, isiT t T, rfl, .ty T, ty, kit_ty (kit_tab t mt T hT), qD q (Same.refl F1) r (Rp.bl _) h⟩
    · exact h.elim
  · rename_i pp
    cases ry
    split at h
    · rename_i ws e
      obtain ⟨_, vs, h1, _⟩ := r.mu pp _ e
      exact ⟨_, .ty T, .type "list", .type T, isiT "list" T, rfl, .ty T, .base (.lst h1), kit_ty (kit_tab _ (by decide) T hT), qD q (Same.refl F1) r (Rp.bl _) h⟩
    · rename_i ws e
      obtain ⟨_, vs, h1, _⟩ := r.mu pp _ e
      exact ⟨_, .ty T, .type "tuple", .type T, isiT "tuple" T, rfl, .ty T, .base (.tup h1), kit_ty (kit_tab _ (by decide) T hT), qD q (Same.refl F1) r (Rp.bl _) h⟩
    · rename_i ws e
      obtain ⟨_, vs, h1, _⟩ := r.mu pp _ e
      exact ⟨_, .ty T, .type "dict", .type T, isiT "dict" T, rfl, .ty T, .base (.dT h1), kit_ty (kit_tab _ (by decide) T hT), qD q (Same.refl F1) r (Rp.bl _) h⟩
    · exact h.elim
/-! ## methods by values -/
abbrev WM := Wv → List Wv → Mh → (Wv → Mh → Prop) → Prop
def AbM (r : V → List V → Hp → VK → Prop) (wr : WM) : Prop := ∀ F M H x xs wx ws Qw Q, Rel F M H → RpW F x wx → RpWs F xs ws → wr wx ws M Qw → (∀ v H' F' z M', Ext F F' → Rel F' M' H' → RpW F' v z → Qw z M' → Q v H') → r x xs H Q
def tyW (T : String) (x : Wv) (M : Mh) : Prop := match x with
  | .d (.str _) => T = "str"
  | .d (.lst _) => T = "list"
  | .d (.scr _) => T = "list"
  | .c p => (match M p with | some (.lst _) => T = "list" | _ => False)
  | _ => False
theorem tyW_ok {K : PySem.W.Frag} {T : String} {F H : Hp} {M : Mh} (r : Rel F M H) {v : V} {x : Wv} (rx : RpW F v x) (h : tyW T x M) : tyV K T v H := by
  unfold tyW at h
  split at h
  · cases rx; exact h
  · cases rx with | lst h1 l1 => exact .inl ⟨h, _, SqL.of (r.fz _ _ h1)⟩
  · cases rx with | scr h1 l1 => exact .inl ⟨h, _, .inl (.inr ⟨_, r.fz _ _ h1⟩)⟩
  · cases rx
    split at h
    · rename_i ws e
      obtain ⟨_, vs, h1, _⟩ := r.mu _ _ e
      exact .inl ⟨h, _, SqL.of h1⟩
    · exact h.elim
  · exact h.elim
def wBM (T : String) (wr : WM) (o : WE) (t : WA) : WE := fun ρ M Q E => o ρ M (fun x M1 => tyW T x M1 ∧ t ρ M1 (fun ws M2 => wr x ws M2 Q) E) E
variable {o e : Expr} {es : List Expr} {wo : WE} {t : WA} {name : Str} {apos cpos : Pos} {id : String} {r : V → List V → Hp → VK → Prop} {wr : WM}
theorem can_bm (ab : AbM r wr) {σ : St} {H : Hp} {Q : VK} (h : can RpW W (wBM T wr wo t) σ H Q) : tBM X.K T r (can RpW W wo) (can RpWs W t) σ H Q := by
  obtain ⟨F0, h⟩ := h
  have h1 := canAt.seq (R := RpW) (w := wo) (k := fun x ρ M1 Q E => tyW T x M1 ∧ t ρ M1 (fun ws M2 => wr x ws M2 Q) E) h
  refine ⟨F0, h1.mono fun v H1 ⟨F1, x, x1, rx, h2⟩ => ?_⟩
  obtain ⟨ρ, M, Qw, Ew, r', s, h, q, e⟩ := h2
  refine ⟨tyW_ok r' rx h.1, F1, ?_⟩
  have h4 : canAt RpW W F1 (wBind t fun ws ρ M2 Q E => wr x ws M2 Q) σ H1 Q := ⟨ρ, M, Qw, Ew, r', s, h.2, q, e⟩
  refine (canAt.seq (R := RpWs) h4).mono fun vs H2 ⟨F2, ws2, x2, rs, h6⟩ => ?_
  obtain ⟨ρ2, M2, Qw2, Ew2, r2, s2, h6, q2, e2⟩ := h6
  exact ab F2 M2 H2 v vs x ws2 Qw2 Q r2 (RpW.mono x2 rx) rs h6 q2
theorem pew_bm (pa : PlainAttrs T) (slot : Slot T name id) (hty : typeOf (.builtin id) = pure (.type "method_descriptor")) (hm : MtR X id r) (ab : AbM r wr) (ho : PEw X W o wo) (ha : PAw X W (e :: es) t)
    (hbase : attributeBase o name X.env (eval o X.env) = eval o X.env := by rfl)
    (hfew : ((backTo cpos (starEach (e :: es) X.env)).all (fun x => !x.1) && (backToKw cpos (keywordEach [] X.env)).all (fun x => x.1.isSome)
      && decide ((e :: es).length + ([] : List Keyword).length + (if ([] : List Keyword).isEmpty then 0 else 1) < 30)) = true := by rfl) (hline : (apos.endLine == cpos.line) = true := by rfl)
    (hs : starEach (e :: es) X.env = (false, eval e X.env) :: starEach es X.env := by rfl) (hplain : (backTo cpos (starEach es X.env)).any (·.1) = false := by rfl) :
    PEw X W (.Call (.Attribute o name apos) (e :: es) [] cpos) (wBM T wr wo t) :=
  PE.imp (pe_bm pa slot hty hm ho ha (hbase := hbase) (hfew := hfew) (hline := hline) (hs := hs) (hplain := hplain)) fun _ _ _ h => can_bm ab h
theorem pew_bm0 (pa : PlainAttrs T) (slot : Slot T name id) (hty : typeOf (.builtin id) = pure (.type "method_descriptor")) (hm : MtR X id r) (ab : AbM r wr) (ho : PEw X W o wo)
    (hbase : attributeBase o name X.env (eval o X.env) = eval o X.env := by rfl) (hline : (apos.endLine == cpos.line) = true := by rfl) :
    PEw X W (.Call (.Attribute o name apos) [] [] cpos) (wBM T wr wo wNil) := by
  refine PE.imp (pe_bm0 pa slot hty hm ho hbase hline) fun σ H Q h => ?_
  have h1 := can_bm (X := X) ab h
  obtain ⟨F, h1⟩ := h1
  refine ⟨F, h1.mono fun v H1 ⟨a, F2, b⟩ => ⟨a, canAt.ret b .nil⟩⟩
@[irreducible] def mAppend : WM := fun x ws M Q => match x, ws with
  | .c p, [y] => (match M p with | some (.lst xs) => xs.length < sizeLine ∧ Q (.d .non) (M.set p (.lst (xs ++ [y]))) | _ => False)
  | _, _ => False
theorem ab_append : AbM rAppend mAppend := by
  intro F M H x xs wx ws Qw Q r rx rs h q
  unfold mAppend at h
  split at h
  · rename_i p y
    cases rx
    cases rs with
    | cons r1 t =>
      cases t
      split at h
      · rename_i zs e
        obtain ⟨_, vs, h1, l1⟩ := r.mu _ _ e
        exact ⟨_, _, _, rfl, rfl, h1, by rw [l1.len]; exact h.1, qD q (Same.refl F) (r.wrM (m' := .lst (zs ++ [y])) e ⟨_, upd_same, RpWs.append l1 (.cons r1 .nil)⟩) Rp.non h.2⟩
      · exact h.elim
  · exact h.elim
/-- xs.extend(ys) -/
@[irreducible] def mExtend : WM := fun x ws M Q => match x, ws with
  | .c p, [.d (.lst ys)] => (match M p with | some (.lst xs) => xs.length + ys.length ≤ sizeLine ∧ Q (.d .non) (M.set p (.lst (xs ++ ys.map .d))) | _ => False)
  | _, _ => False
theorem ab_extend : AbM rExtend mExtend := by
  intro F M H x xs wx ws Qw Q r rx rs h q
  unfold mExtend at h
  split at h
  · rename_i p ys
    cases rx
    cases rs with
    | cons r1 t =>
      cases t
      cases r1 with
      | lst hy ly =>
        split at h
        · rename_i zs e
          obtain ⟨_, vs, h1, l1⟩ := r.mu _ _ e
          exact ⟨_, _, _, _, rfl, rfl, h1, r.fz _ _ hy, by rw [l1.len, ly.len]; exact h.1, qD q (Same.refl F) (r.wrM (m' := .lst (zs ++ ys.map .d)) e ⟨_, upd_same, RpWs.append l1 ly.ws⟩) Rp.non h.2⟩
        · exact h.elim
  · exact h.elim
@[irreducible] def mReverse : WM := fun x ws M Q => match x, ws with
  | .c p, [] => (match M p with | some (.lst xs) => Q (.d .non) (M.set p (.lst xs.reverse)) | _ => False)
  | _, _ => False
theorem ab_reverse : AbM rReverse mReverse := by
  intro F M H x xs wx ws Qw Q r rx rs h q
  unfold mReverse at h
  split at h
  · cases rx
    cases rs
    split at h
    · rename_i zs e
      obtain ⟨_, vs, h1, l1⟩ := r.mu _ _ e
      exact ⟨_, _, rfl, rfl, h1, qD q (Same.refl F) (r.wrM (m' := .lst zs.reverse) e ⟨_, upd_same, RpWs.rev l1⟩) Rp.non h⟩
    · exact h.elim
  · exact h.elim
@[irreducible] def mClear : WM := fun x ws M Q => match x, ws with
  | .c p, [] => (match M p with | some (.lst xs) => Q (.d .non) (M.set p (.lst [])) | _ => False)
  | _, _ => False
theorem ab_clear : AbM rClear mClear := by
  intro F M H x xs wx ws Qw Q r rx rs h q
  unfold mClear at h
  split at h
  · cases rx
    cases rs
    split at h
    · rename_i zs e
      obtain ⟨_, vs, h1, l1⟩ := r.mu _ _ e
      exact ⟨_, _, rfl, rfl, h1, qD q (Same.refl F) (r.wrM (m' := .lst []) e ⟨_, upd_same, .nil⟩) Rp.non h⟩
    · exact h.elim
  · exact h.elim
theorem RpWs.dropLast {F : Hp} : ∀ {xs : List V} {as : List Wv}, RpWs F xs as → RpWs F xs.dropLast as.dropLast
  | _, _, .nil => .nil
  | _, _, .cons r .nil => .nil
  | _, _, .cons r (.cons r2 t) => .cons r (RpWs.dropLast (.cons r2 t))
@[irreducible] def mPop : WM := fun x ws M Q => match x, ws with
  | .c p, [] => (match M p with | some (.lst xs) => (match xs[xs.length - 1]? with | some y => Q y (M.set p (.lst xs.dropLast)) | none => False) | _ => False)
  | _, _ => False
theorem ab_pop : AbM rPop mPop := by
  intro F M H x xs wx ws Qw Q r rx rs h q
  unfold mPop at h
  split at h
  · cases rx
    cases rs
    split at h
    · rename_i zs e
      obtain ⟨_, vs, h1, l1⟩ := r.mu _ _ e
      split at h
      · rename_i y ey
        obtain ⟨v, e1, e2⟩ := RpWs.get l1 ey
        exact ⟨_, _, v, rfl, rfl, h1, by rw [l1.len]; exact e1, q _ _ _ _ _ (Same.refl F) (r.wrM (m' := .lst zs.dropLast) e ⟨_, upd_same, RpWs.dropLast l1⟩) e2 h⟩
      · exact h.elim
    · exact h.elim
  · exact h.elim
/-! ## slices -/
abbrev WO := WG (Option Int)
abbrev POw (X : Cx) (W : WX) (e : Option Expr) (w : WO) : Prop := PO X e (can RO W w)
def wNoP : WO := fun _ M Q _ => Q none M
def wPart (e : WE) : WO := fun ρ M Q E => e ρ M (fun x M1 => match x with | .d (.int i) => Q (some i) M1 | _ => False) E
theorem pow_none : POw X W none wNoP := ⟨fun pins s σ H Q I h => po_none.run pins s σ H Q I (by
  obtain ⟨F, ρ, M, Qw, Ew, r, s, h, q, e⟩ := h
  exact q none H F none M (Same.refl F) r rfl h)⟩
theorem pow_some (ha : PEw X W a wa) : POw X W (some a) (wPart wa) := ⟨fun pins s σ H Q I h => (po_some ha).run pins s σ H Q I (by
  obtain ⟨F, h⟩ := h
  have h1 := canAt.seq (R := RpW) (w := wa) (k := fun x ρ M (Q : Option Int → Mh → Prop) E => match x with | .d (.int i) => Q (some i) M | _ => False) h
  refine ⟨F, h1.mono fun v H1 ⟨F1, x, x1, rx, h2⟩ => ?_⟩
  obtain ⟨ρ, M, Qw, Ew, r, s, h, q, e⟩ := h2
  split at h
  · cases rx
    exact ⟨_, rfl, q _ H1 F1 _ M (Same.refl F1) r rfl h⟩
  · exact h.elim)⟩
def cutW (xs : List Wv) (lo hi : Option Int) : List Wv := (xs.drop (HT.sIx xs.length 0 lo)).take (HT.sIx xs.length xs.length hi - HT.sIx xs.length 0 lo)
theorem RpWs.cut {F : Hp} {vs : List V} {ws : List Wv} (h : RpWs F vs ws) (lo hi : Option Int) : RpWs F (cutV vs lo hi) (cutW ws lo hi) := by
  unfold cutV cutW
  rw [h.len]
  exact (h.drop _).take _
/-- the items of a list that is read -/
def lstOf (x : Wv) (M : Mh) (k : List Wv → Prop) : Prop := match x with
  | .d (.lst ds) => k (ds.map .d)
  | .d (.scr ds) => k (ds.map .d)
  | .c p => (match M p with | some (.lst ws) => k ws | _ => False)
  | _ => False
theorem lstOf_ok {K : PySem.W.Frag} {F H : Hp} {M : Mh} (r : Rel F M H) {v : V} {x : Wv} (rx : RpW F v x) {k : List Wv → Prop} (h : lstOf x M k) : ∃ a vs ws, v = .ref a ∧ SqL K H a vs ∧ RpWs F vs ws ∧ k ws := by
  unfold lstOf at h
  split at h
  · cases rx with | lst h1 l1 => exact ⟨_, _, _, rfl, SqL.of (r.fz _ _ h1), l1.ws, h⟩
  · cases rx with | scr h1 l1 => exact ⟨_, _, _, rfl, .inl (.inr ⟨_, r.fz _ _ h1⟩), l1.ws, h⟩
  · rename_i p
    cases rx
    split at h
    · rename_i ws e
      obtain ⟨_, vs, h1, h2⟩ := r.mu p _ e
      exact ⟨p, vs, ws, rfl, SqL.of h1, h2, h⟩
    · exact h.elim
  · exact h.elim
abbrev W3 := Wv → Option Int → Option Int → Mh → (Wv → Mh → Prop) → Prop
/-- xs[lo:hi]: a new list, a cell -/
def rSl : W3 := fun x lo hi M Q => lstOf x M fun ws => ∀ p, M p = none → Q (.c p) (M.set p (.lst (cutW ws lo hi)))
/-- a text's part -/
def rSlS : W3 := fun x lo hi M Q => match x with
  | .d (.str z) => False
  | _ => False
def wSl (rr : W3) (e : WE) (lo hi : WO) : WE := fun ρ M Q E => e ρ M (fun x M1 => lo ρ M1 (fun l M2 => hi ρ M2 (fun u M3 => rr x l u M3 Q) E) E) E
def Ab3 (r : V → Option Int → Option Int → Hp → VK → Prop) (wr : W3) : Prop := ∀ F M H x wx lo hi Qw Q, Rel F M H → RpW F x wx → wr wx lo hi M Qw → (∀ v H' F' z M', Ext F F' → Rel F' M' H' → RpW F' v z → Qw z M' → Q v H') → r x lo hi H Q
theorem ab_sl {K : PySem.W.Frag} : Ab3 (rSlL K) rSl := by
  intro F M H x wx lo hi Qw Q r rx h q
  obtain ⟨a, vs, ws, rfl, e, rv, h⟩ := lstOf_ok (K := K) r rx h
  exact ⟨a, vs, rfl, e, fun p hp => q _ _ _ (.c p) _ (Same.refl F) (r.newM (m := .lst (cutW ws lo hi)) hp ⟨_, upd_same, rv.cut lo hi⟩) rfl (h p (r.noM hp))⟩
theorem pew_slice {rr : V → Option Int → Option Int → Hp → VK → Prop} {wr : W3} {lo hi : Option Expr} {wl wh : WO} (hr : SlR X rr) (ab : Ab3 rr wr) (he : PEw X W a wa) (hl : POw X W lo wl) (hu : POw X W hi wh) : PEw X W (.Subscript a (.Slice lo hi none p2) pos) (wSl wr wa wl wh) := by
  refine PE.imp (pe_slice hr he hl hu) fun σ H Q h => ?_
  obtain ⟨F, h⟩ := h
  have h1 := canAt.seq (R := RpW) (w := wa) (k := fun x ρ M Q E => wl ρ M (fun l M2 => wh ρ M2 (fun u M3 => wr x l u M3 Q) E) E) h
  refine ⟨F, h1.mono fun v H1 ⟨F1, x, x1, rx, h2⟩ => ⟨F1, ?_⟩⟩
  have h3 := canAt.seq (R := RO) (w := wl) (k := fun l ρ M Q E => wh ρ M (fun u M3 => wr x l u M3 Q) E) h2
  refine h3.mono fun l H2 ⟨F2, l', x2, rl, h4⟩ => ⟨F2, ?_⟩
  have h5 := canAt.seq (R := RO) (w := wh) (k := fun u ρ M Q E => wr x l' u M Q) h4
  refine h5.mono fun u H3 ⟨F3, u', x3, ru, h6⟩ => ?_
  obtain ⟨ρ, M, Qw, Ew, r, s, h, q, e⟩ := h6
  cases rl
  cases ru
  exact ab F3 M H3 v x l u Qw Q r (RpW.mono (Same.trans x2 x3) rx) h q
end
end Lw

namespace Lw
section
open PySem PySem.W PySem.Calls PyProof.Rows PyProof.V PySem.Spec RT
variable {prog : Program} {w : World} {A : Around} {E : Value → Shared → Prop} {s : Shared}
theorem extend_rev {R : Result → Shared → Prop} {it l : Addr} {items : Array Value} (hh : A.handled = none) (hit : s.heap.IsRevIter it l ((items.size : Int) - 1)) (hl : s.heap.IsList l items) (hne : l ≠ it) (hn : items.size ≤ sizeLine) (S : Addr) (hSi : S ≠ it) (hSl : S ≠ l) (res : Value) (c₀ : Nat)
    (hS : s.heap.get? S = some { cls := .type "list", data := .seq #[] c₀ })
    (hR : ∀ h' tk acc' c', (∀ b o, b ≠ S → b ≠ it → s.heap.get? b = some o → h'.get? b = some o) → h'.get? S = some { cls := .type "list", dict := none, data := .seq acc' c', slots := #[] } → ItemsOf (fun i v => items[items.size - 1 - i]? = some v) acc' items.size → R (.ok (.ret res)) { s with heap := h', toks := tk }) :
    wpAny (model prog w) A.in1 (Builtin.List.listExtendWith (.ref S) (.ref it) res)
      (fun fin s' => match fin with | .done f => R (.ok f) s' | .again c' => c'.quiet = true ∧ codeAny (model prog w) A c' R s') (fun e s' => R (.error e) s') s := by
  have W := (Walks.listRev (prog := prog) (w := w) (A := A.in1) hh it l hne items).toS
  have hSf : S ∉ [it, l] := by simp only [List.mem_cons, List.not_mem_nil, or_false, not_or]; exact ⟨hSi, hSl⟩
  have hT : s.TypeIs (.ref it) "list_reverseiterator" := Heap.IsRevIter.typeIs hit
  have h1 : Builtin.List.listSameRef (.ref S) (.ref it) = false := by simp [Builtin.List.listSameRef, hSi]
  unfold Builtin.List.listExtendWith
  refine wpAny_bind (wpAny_typeOf hT ?_)
  rw [if_neg (by rw [h1]; decide)]
  refine wpAny_bind (wpAny_pyIter_revIter hit ?_)
  refine wpAny_bind (wpAny_holding ?_)
  unfold Builtin.List.listLengthHint
  refine wpAny_bind (wpAny_specialOf hT nolen_lri ?_)
  show wpAny _ A.in1 (specialOf (Value.ref it) (Str.ofString "__length_hint__") >>= _) _ _ _
  refine wpAny_bind (wpAny_specialOf hT hint_lri ?_)
  generalize hid : ("list_reverseiterator.__length_hint__" : String) = id0
  wp_delta
  rw [show splitId id0 = some ("list_reverseiterator", "__length_hint__") from by subst hid; decide +kernel]
  subst hid
  refine wpAny_bind (wpAny_isInstance (b := true) hT (by rw [isSubtype_type]; kernel_rfl) ?_)
  refine wpAny_pure ?_
  rw [if_neg (by decide)]
  have e0 : ((items.size : Nat) : Int) - 1 - ((0 : Nat) : Int) = (items.size : Int) - 1 := by omega
  refine wpAny_pure ⟨plainId_quiet F.plain_extend_loop _, codeAny_extend_loopS W hn S hSf res items.size 0 _ _ _ rfl (Nat.zero_le _) ⟨Nat.zero_le _, by rw [e0]; exact hit, hl⟩ hS (ItemsOf.nil _) fun s' acc' c' hm hS' hacc => ?_⟩
  rw [Moved.eq_with hm]
  refine hR s'.heap s'.toks acc' c' (fun b o hb hb2 e => hm.heap b o (fun hmem => ?_) e) hS' hacc
  rcases List.mem_cons.mp hmem with e' | hmem
  · exact hb e'
  · exact hb2 (List.mem_singleton.mp hmem)
theorem init_rev {R : Result → Shared → Prop} {it l : Addr} {items : Array Value} (hh : A.handled = none) (hit : s.heap.IsRevIter it l ((items.size : Int) - 1)) (hl : s.heap.IsList l items) (hne : l ≠ it) (hn : items.size ≤ sizeLine) (S : Addr) (hSi : S ≠ it) (hSl : S ≠ l) (hS : s.heap.get? S = some { cls := .type "list", data := .seq #[] })
    (hR : ∀ h' tk acc' c', (∀ b o, b ≠ S → b ≠ it → s.heap.get? b = some o → h'.get? b = some o) → h'.get? S = some { cls := .type "list", dict := none, data := .seq acc' c', slots := #[] } → ItemsOf (fun i v => items[items.size - 1 - i]? = some v) acc' items.size → R (.ok (.ret .none)) { s with heap := h', toks := tk }) :
    wpAny (model prog w) A.in1 (Builtin.«list.__init__» ⟨[.ref S, .ref it], []⟩)
      (fun fin s' => match fin with | .done f => R (.ok f) s' | .again c' => c'.quiet = true ∧ codeAny (model prog w) A c' R s') (fun e s' => R (.error e) s') s := by
  show wpAny _ _ (do let old ← Builtin.List.listItems (.ref S); Builtin.List.listUpdate (.ref S) (fun _ => #[]); letGo old.toList.reverse; Builtin.List.listExtendWith (.ref S) (.ref it) .none) _ _ s
  refine wpAny_bind ?_
  unfold Builtin.List.listItems
  refine wpAny_bind (wpAny_seqItems hS rfl (wpAny_pure ?_))
  show wpAny _ _ (updateSeq S (fun _ => #[]) >>= fun _ => letGo (#[] : Array Value).toList.reverse >>= fun _ => Builtin.List.listExtendWith (.ref S) (.ref it) .none) _ _ s
  refine wpAny_bind (wpAny_updateSeq hS rfl ?_)
  have hS₂ := Heap.get?_update_self (Obj.mapSeq (fun _ => (#[] : Array Value))) hS rfl
  have oth : ∀ b o, b ≠ S → s.heap.get? b = some o → (s.heap.update S (Obj.mapSeq (fun _ => (#[] : Array Value)))).get? b = some o :=
    fun b o hb e => (Heap.get?_update_other _ _ (Ne.symm hb)).trans e
  refine wpAny_bind (wpAny_letGo ?_)
  obtain ⟨ol, hol, r1, r2⟩ := id hl
  refine extend_rev (s := { s with heap := s.heap.update S (Obj.mapSeq (fun _ => (#[] : Array Value))) }) hh (hit.at fun o e => oth _ _ (Ne.symm hSi) e) ⟨ol, oth _ _ (Ne.symm hSl) hol, r1, r2⟩ hne hn S hSi hSl .none _ hS₂ (fun h' tk acc' c' hk hS' hacc => ?_)
  exact hR h' tk acc' c' (fun b o hb hb2 e => hk b o hb hb2 (oth b o hb e)) hS' hacc
theorem call_list_rev {it l : Addr} {items : Array Value} {Q : Value → Shared → Prop} (hh : A.handled = none) (hit : s.heap.IsRevIter it l ((items.size : Int) - 1)) (hl : s.heap.IsList l items) (hne : l ≠ it) (hn : items.size ≤ sizeLine)
    (hQ : ∀ h' tk acc' c', (∀ b o, b ≠ it → s.heap.get? b = some o → h'.get? b = some o) → h'.get? s.heap.objs.size = some { cls := .type "list", dict := none, data := .seq acc' c', slots := #[] } → ItemsOf (fun i v => items[items.size - 1 - i]? = some v) acc' items.size → Q (.ref s.heap.objs.size) { s with heap := h', toks := tk }) :
    wpAny (model prog w) A (call (.type "list") [.ref it]) Q E s := by
  refine callType_codes (Q₁ := fun obj s₁ => obj = .ref s.heap.objs.size ∧ s₁ = { s with heap := s.heap.push { cls := .type "list", data := .seq #[] } }) PySem.F.called_list (PySem.F.typeCall_list_1 _) PySem.F.entry_list_init
    (code_list_new _ ⟨rfl, rfl⟩) fun obj s₁ h₁ => ?_
  obtain ⟨rfl, rfl⟩ := h₁
  have hS : (s.heap.push { cls := .type "list", data := .seq #[] }).get? s.heap.objs.size = some { cls := .type "list", data := .seq #[] } := Heap.get?_push_size _ rfl
  obtain ⟨oi, hoi, _⟩ := id hit
  obtain ⟨ol, hol, r1, r2⟩ := id hl
  refine ⟨⟨_, hS, rfl⟩, PySem.F.args_list_init_2 _ _, init_rev (s := { s with heap := s.heap.push { cls := .type "list", data := .seq #[] } }) (A := A.in1) hh (hit.at fun o e => Heap.get?_push_of_some _ e) ⟨ol, Heap.get?_push_of_some _ hol, r1, r2⟩ hne hn _ (Nat.ne_of_gt (Heap.lt_size hoi)) (Nat.ne_of_gt (Heap.lt_size hol)) hS (fun h' tk acc' c' hk hS' hacc => ?_)⟩
  exact ⟨rfl, hQ h' tk acc' c' (fun b o hb2 e => hk b o (Nat.ne_of_lt (Heap.lt_size e)) hb2 (Heap.get?_push_of_some _ e)) hS' hacc⟩
end
open PySem PySem.Spec L2
section
variable {X : Cx} {W : WX}
theorem pe_listRev {e : Expr} {te : TE} {p p2 pos pos2 : Pos} (hc : X.calm = true) (hg : Gl X "list") (hm : X.mg "list" = none) (hg2 : Gl X "reversed") (hm2 : X.mg "reversed" = none) (he : PE X e te)
    (hs : starEach [e] X.env = (false, eval e X.env) :: starEach [] X.env := by rfl)
    (hs2 : starEach [.Call (.Name "reversed" p2) [e] [] pos2] X.env = (false, eval (.Call (.Name "reversed" p2) [e] [] pos2) X.env) :: starEach [] X.env := by rfl) :
    PE X (.Call (.Name "list" p) [.Call (.Name "reversed" p2) [e] [] pos2] [] pos) (tRevL X.K te) := by
  refine ⟨fun pins s σ H Q I h => ?_⟩
  refine PyProof.Rows.Call_ (ld_blt (u := .type "list") I hg hm (by decide +kernel) (PyProof.Rows.callWith_type1 (PyProof.Rows.args_cons (PyProof.Rows.Call_ (ld_blt I hg2 hm2 PyProof.Rows.boot_reversed (PyProof.Rows.callWith_type1 (PyProof.Rows.args_cons (thn (he.run pins s σ H _ I h) fun u s1 ⟨v, H1, I1, r1, q1⟩ => PyProof.Rows.args_nil ?_) hs) hs rfl))) hs2) hs2 rfl))
  obtain ⟨a, xs, ev, hq, q⟩ := q1
  subst ev
  obtain rfl : u = Value.ref a := r1
  obtain ⟨its, rv, p', hz⟩ := I1.list hq
  refine call_reversed_list p'.isList (PyProof.Rows.args_nil ?_)
  have k0 : ∀ b o, s1.heap.get? b = some o → (s1.heap.push (revObj a ((its.toArray.size : Int) - 1))).get? b = some o := fun b o e => Heap.get?_push_of_some _ e
  have I2 : Inv X pins σ H1 { s1 with heap := s1.heap.push (revObj a ((its.toArray.size : Int) - 1)) } := I1.kept (t' := s1.toks) k0
  obtain ⟨f0, f1, f2, f3, f4, f5⟩ := I1.fpOk (H' := H1) (b := s1.heap.objs.size) (Nat.le_refl _) (I1.hok.fresh (Nat.le_refl _))
  have hl := p'.isList
  obtain ⟨ol, hol, _⟩ := id hl
  have hne : a ≠ s1.heap.objs.size := Nat.ne_of_lt (Heap.lt_size hol)
  have hn : its.toArray.size ≤ sizeLine := by rw [List.size_toArray, ← rv.length]; exact hz
  refine call_list_rev (s := { s1 with heap := s1.heap.push (revObj a ((its.toArray.size : Int) - 1)) }) (I1.ok.hd hc) ⟨_, Heap.get?_push_size _ rfl, rfl, rfl⟩ (hl.push _) hne hn fun h' tk acc c' hk hS hi => ?_
  have nS : H1 (s1.heap.push (revObj a ((its.toArray.size : Int) - 1))).objs.size = none := I2.hok.fresh (Nat.le_refl _)
  have I3' : Inv X pins σ H1 { s1 with heap := h', toks := tk } := I2.turned (t' := tk) (fun b o hb e => hk b o hb e) f0 f1 f3 f4 f5
  have hok : HOk X.prog X.w (upd H1 (s1.heap.push (revObj a ((its.toArray.size : Int) - 1))).objs.size (.lst xs.reverse)) h' := fun b u e => by
    by_cases hb : b = (s1.heap.push (revObj a ((its.toArray.size : Int) - 1))).objs.size
    · subst hb
      rw [upd_same] at e
      cases e
      exact ⟨by rw [List.length_reverse]; exact hz, acc.toList, c', RT.vals_rev rv hi, by rw [Array.toArray_toList]; exact hS⟩
    · rw [upd_ne hb] at e
      exact (I3'.hok b u e).stay (fun c v _ q => q) (fun c q => by rw [upd_ne (ne_of_none q nS)]; exact q) fun c xs q => by rw [upd_ne (ne_of_none q nS)]; exact q
  have lt : ∀ b o, (s1.heap.push (revObj a ((its.toArray.size : Int) - 1))).get? b = some o → b ≠ (s1.heap.push (revObj a ((its.toArray.size : Int) - 1))).objs.size := fun b o e => Nat.ne_of_lt (Heap.lt_size e)
  have I3 : Inv X pins σ (upd H1 (s1.heap.push (revObj a ((its.toArray.size : Int) - 1))).objs.size (.lst xs.reverse)) { s1 with heap := h', toks := tk } :=
    Inv.step (s := { s1 with heap := s1.heap.push (revObj a ((its.toArray.size : Int) - 1)) }) (g' := s1.gens) (d' := s1.drawn) (t' := tk) (ch := [s1.heap.objs.size]) I2 (fun b hb => by
        have e : b = s1.heap.objs.size := by simpa using hb
        subst e
        exact ⟨f3, f1, f4, f5⟩)
      (fun b o _ _ hc e _ => hk b o (fun z => hc (by simp [z])) e) (fun b o _ _ hc e _ => ⟨o.slots, hk b o (fun z => hc (by simp [z])) e⟩) (fun b o _ e n => by rw [upd_ne (lt b o e)]; exact n)
      (fun b o hc e => ⟨o, hk b o (fun z => hc (by simp [z])) e⟩) (fun b xs e => by rw [upd_ne (ne_of_none e nS)]; exact e) (fun b o u e => by rw [upd_ne (ne_of_none e nS)]; exact e) (fun b ps e => ⟨#[], by rw [upd_ne (ne_of_none e nS), e]; simp⟩)
      (fun m hm => by
        obtain ⟨o, es, ep, ho, r⟩ := hm
        exact ⟨o, es, ep, hk _ o (Ne.symm f1) ho, r⟩) hok I2.bare
  exact ⟨.ref _, _, I3, rfl, q _ nS⟩
/-- list(reversed(xs)), xs[::-1]: a new cell -/
def wRevL (e : WE) : WE := fun ρ M Q E => e ρ M (fun x M1 => lstOf x M1 fun ws => ∀ p, M1 p = none → Q (.c p) (M1.set p (.lst ws.reverse))) E
theorem can_revL {we : WE} {σ : St} {H : Hp} {Q : VK} (h : can RpW W (wRevL we) σ H Q) : tRevL X.K (can RpW W we) σ H Q := by
  obtain ⟨F, h⟩ := h
  have h1 := canAt.seq (R := RpW) (w := we) (k := fun x ρ M1 (Q : Wv → Mh → Prop) E => lstOf x M1 fun ws => ∀ p, M1 p = none → Q (.c p) (M1.set p (.lst ws.reverse))) h
  refine ⟨F, h1.mono fun v H1 ⟨F1, x, x1, rx, h2⟩ => ?_⟩
  obtain ⟨ρ, M, Qw, Ew, r, s, h, q, e⟩ := h2
  obtain ⟨a, vs, ws, rfl, e', rv, h⟩ := lstOf_ok (K := X.K) r rx h
  exact ⟨a, vs, rfl, e', fun p hp => q _ _ _ (.c p) _ (Same.refl F1) (r.newM (m := .lst ws.reverse) hp ⟨_, upd_same, rv.rev⟩) rfl (h p (r.noM hp))⟩
theorem pew_listRev {e : Expr} {we : WE} {p p2 pos pos2 : Pos} (hc : X.calm = true) (hg : Gl X "list") (hm : X.mg "list" = none) (hg2 : Gl X "reversed") (hm2 : X.mg "reversed" = none) (he : PEw X W e we)
    (hs : starEach [e] X.env = (false, eval e X.env) :: starEach [] X.env := by rfl)
    (hs2 : starEach [.Call (.Name "reversed" p2) [e] [] pos2] X.env = (false, eval (.Call (.Name "reversed" p2) [e] [] pos2) X.env) :: starEach [] X.env := by rfl) :
    PEw X W (.Call (.Name "list" p) [.Call (.Name "reversed" p2) [e] [] pos2] [] pos) (wRevL we) := PE.imp (pe_listRev hc hg hm hg2 hm2 he hs hs2) fun _ _ _ h => can_revL h
theorem pew_revL {e : Expr} {we : WE} {k : Nat} {p1 p2 p3 pos : Pos} (he : PEw X W e we) : PEw X W (.Subscript e (.Slice none none (some (.UnaryOp .USub (.Constant (.int 1) k p1) p2)) p3) pos) (wRevL we) := PE.imp (pe_revL he) fun _ _ _ h => can_revL h
end
end Lw

namespace Lw
open PySem PySem.Spec L2
/-! ## for over a list that lives -/
def forGoC (g : WTg) (tb : WS) (D : WEnds) (p : Addr) : Nat → Nat → Rho → Mh → Prop
  | 0, _, _, _ => False
  | n + 1, i, ρ, M => match M p with
    | some (.lst ws) => (match ws[i]? with
      | some w => g w ρ M fun ρ' M' => tb { D with nx := forGoC g tb D p n (i + 1), ct := forGoC g tb D p n (i + 1), bk := D.nx } ρ' M'
      | none => D.nx ρ M)
    | _ => False
def forC (g : WTg) (tb : WS) (x : Wv) : WS := fun D ρ M => match x with
  | .c p => ∃ n, forGoC g tb D p n 0 ρ M
  | _ => False
def wForC (e : WE) (g : WTg) (tb : WS) : WS := wThen e fun x => forC g tb x
section
variable {X : Cx} {W : WX} {tg : Expr} {pos : Pos}
theorem psw_forC {iter : Expr} {body : List Stmt} {we : WE} {g : WTg} {tb : WS} {vs : List Nat} (hp : PassesOwn (model X.prog X.w) X.A X.env X.xe) (hc : X.calm = true) (he : PEw X W iter we) (hg : PGw X vs tg g) (hb : PSsw X W body tb)
    (hs : ∀ x, foldedSetIterable iter X.env x = pure x := by intro _; rfl) : PSw X W (.For tg iter body [] pos) (wForC we g tb) := by
  refine PS.imp (ps_for hp hc (pi_list he) hg hb hs) fun D σ H h => ?_
  obtain ⟨F0, h⟩ := h
  refine ⟨F0, (can_thenAt (R := RpW) h).mono fun v H1 ⟨F1, x, x1, rx, h2⟩ => ?_⟩
  obtain ⟨ρ, M, Dw, r, s, h, e⟩ := h2
  unfold forC at h
  cases x with
  | d _ => exact h.elim
  | c p =>
  cases rx
  obtain ⟨n0, h0⟩ := h
  cases n0 with
  | zero => exact h0.elim
  | succ n0 =>
  have hl : ∃ ws, M p = some (.lst ws) := by
    unfold forGoC at h0
    split at h0
    · rename_i ws e1; exact ⟨ws, e1⟩
    · exact h0.elim
  obtain ⟨ws0, e0⟩ := hl
  obtain ⟨_, vs0, hv0, _⟩ := r.mu p _ e0
  refine ⟨p, rfl, ⟨vs0, SqL.of hv0⟩, fun i m σ H => ∃ F2 ρ M, Ext F1 F2 ∧ Rel F2 M H ∧ SlOk F2 σ ρ ∧ forGoC g tb Dw p m i ρ M, ⟨n0 + 1, F1, ρ, M, Same.refl F1, r, s, h0⟩, ?_⟩
  rintro i m σ2 H2 ⟨F2, ρ2, M2, x2, r2, s2, h2⟩
  cases m with
  | zero => exact h2.elim
  | succ m =>
  unfold forGoC at h2
  split at h2
  · rename_i ws e1
    obtain ⟨_, vs, hv, rs⟩ := r2.mu p _ e1
    split at h2
    · rename_i w ew
      have hi : i < ws.length := (List.getElem?_eq_some_iff.mp ew).1
      have hi' : i < vs.length := by rw [rs.len]; exact hi
      refine .inr ⟨⟨vs, _, SqL.of hv, List.getElem?_eq_getElem hi'⟩, fun σ' H' => ∃ F3 ρ M, Ext F1 F3 ∧ Rel F3 M H' ∧ SlOk F3 σ' ρ ∧ forGoC g tb Dw p m (i + 1) ρ M, fun σ' H' h' => ⟨m, Nat.lt_succ_self m, h'⟩, fun v H3 y => ?_⟩
      obtain ⟨rfl, y⟩ := y
      obtain ⟨w', ew', rw'⟩ := Paired.get? rs (y vs (SqL.of hv))
      rw [ew] at ew'; cases ew'
      refine ⟨F2, ρ2, M2, w, _, r2, s2, rw', h2, fun σ4 H4 F4 ρ4 M4 _ x4 r4 s4 h4 => ⟨F4, ρ4, M4, _, r4, s4, h4, ?_⟩⟩
      have xx : Ext F1 F4 := Same.trans x2 x4
      refine ⟨fun σ' H' F' ρ' M' a b c d => ⟨F', ρ', M', Same.trans xx a, b, c, d⟩, fun v H' F' x M' a b c d => e.rt v H' F' x M' (Same.trans xx a) b c d, fun σ' H' F' ρ' M' a b c d => e.nx σ' H' F' ρ' M' (Same.trans xx a) b c d,
        fun σ' H' F' ρ' M' a b c d => ⟨F', ρ', M', Same.trans xx a, b, c, d⟩, fun C σ' H' F' ρ' M' a b c d => e.ex C σ' H' F' ρ' M' (Same.trans xx a) b c d⟩
    · rename_i ew
      have hi : ws.length ≤ i := by
        rcases Nat.lt_or_ge i ws.length with h | h
        · rw [List.getElem?_eq_getElem h] at ew; cases ew
        · exact h
      exact .inl ⟨⟨vs, SqL.of hv, by rw [rs.len]; exact hi⟩, e.nx σ2 H2 F2 ρ2 M2 x2 r2 s2 h2⟩
  · exact h2.elim
end
end Lw

namespace Lw
open PySem PySem.Spec L2 PyProof.Rows PySem.W
/-! ## min(xs, default=d) -/
theorem ints_reads {h : Heap} : ∀ {vs : List Value} {ns : List Int}, IntsAre vs ns → ReadsAll h vs (ns.map PyData.int) []
  | [], [], _ => .nil
  | _ :: _, _ :: _, h => by
    cases h with
    | cons n t r => exact .cons (as := []) (bs := []) (.int _ _) (ints_reads r)
theorem alike_ints (ns : List Int) : AlikeAll (ns.map PyData.int) := by
  refine ⟨fun x hx y hy => ?_, fun x hx => ?_⟩
  · obtain ⟨i, _, rfl⟩ := List.mem_map.mp hx
    obtain ⟨j, _, rfl⟩ := List.mem_map.mp hy
    rfl
  · obtain ⟨i, _, rfl⟩ := List.mem_map.mp hx
    intro h; cases h
theorem depth_ints : ∀ (ns : List Int), PyData.depthAll (ns.map PyData.int) = 0
  | [] => rfl
  | n :: ns => by
    show max (PyData.depth (.int n)) (PyData.depthAll (ns.map PyData.int)) = 0
    rw [depth_ints ns]; rfl
def rMinDef (K : PySem.W.Frag) : List V → List V → Hp → VK → Prop := fun vs zs H Q => ∃ (a : Addr) (ns : List Int) (d : Int), vs = [V.ref a] ∧ zs = [V.int d] ∧ SqL K H a (ns.map V.int) ∧ (ns = [] → Q (.int d) H) ∧ ∀ n r, ns = n :: r → Q (.int (r.foldl min n)) H
theorem cr_minDef {X : Cx} (hc : X.calm = true) (hu : X.A.units + 1 < cLine) : CallRK X (.builtin "min") [Str.ofString "default"] (rMinDef X.K) := by
  intro pins s σ H vs zs us ws Q I r rz h
  obtain ⟨a, ns, d, rfl, rfl, hs, q0, q1⟩ := h
  obtain ⟨its, rv, hl, _⟩ := I.list hs
  rw [Vals.ref1 r]
  obtain ⟨w1, rfl, e1⟩ := vals1 rz
  obtain ⟨t1, e1⟩ := e1
  subst e1
  refine min_list_default (I.ok.hd hc) hl.isList (ints_reads rv.ints) (alike_ints ns) (by rw [depth_ints]; exact hu) (fun e h' tk hk => ?_) (fun y ys i v h' tk bs e hi hr hk => ?_)
  · exact ⟨.int d, H, I.kept hk, ⟨_, rfl⟩, q0 (List.map_eq_nil_iff.mp e)⟩
  · cases ns with
    | nil => cases e
    | cons n ns =>
      cases e
      rw [minD_ints] at hr
      cases hr
      exact ⟨.int _, H, I.kept hk, ⟨_, rfl⟩, q1 _ _ rfl⟩
def rMinD : W2 := fun x y M Q => match x, y with
  | .d (.lst ds), .d (.int k) => (match intsOf ds with | some ns => (ns = [] → Q (.d (.int k)) M) ∧ ∀ n r, ns = n :: r → Q (.d (.int (r.foldl min n))) M | none => False)
  | _, _ => False
theorem ab_minD {K : PySem.W.Frag} : Ab2 (fun x y H Q => rMinDef K [x] [y] H Q) rMinD := by
  intro F M H x y wx wy Qw Q r rx ry h q
  unfold rMinD at h
  split at h
  · cases ry
    cases rx with
    | lst h1 l1 =>
      split at h
      · rename_i bs e
        refine ⟨_, bs, _, rfl, rfl, ?_, fun e0 => qD q (Same.refl F) r (Rp.int _) (h.1 e0), fun n t e0 => qD q (Same.refl F) r (Rp.int _) (h.2 n t e0)⟩
        rw [← intsOf_ok e l1]
        exact SqL.of (r.fz _ _ h1)
      · exact h.elim
  · exact h.elim
section
variable {X : Cx} {W : WX} {a d : Expr} {wa wd : WE} {p pos kpos : Pos}
theorem pew_minD (hc : X.calm = true) (hu : X.A.units + 1 < cLine) (hg : Gl X "min") (hm : X.mg "min" = none) (ha : PEw X W a wa) (hd : PEw X W d wd) (hs : starEach [a] X.env = [(false, eval a X.env)] := by rfl)
    (he : backTo pos (starEach [a] X.env) = (false, eval a X.env) :: backTo pos (starEach [] X.env) := by rfl) (hpl : (backTo pos (starEach [a] X.env)).any (·.1) = false := by rfl)
    (hall : (backToKw pos (keywordEach [⟨some "default", d, kpos⟩] X.env)).all (·.1.isSome) = true := by rfl) (hnone : (backToKw pos (keywordEach [⟨some "default", d, kpos⟩] X.env)).any (·.1.isNone) = false := by rfl) (hks : (backToKw pos (keywordEach [⟨some "default", d, kpos⟩] X.env)).filterMap (·.1) = [Str.ofString "default"] := by rfl) :
    PEw X W (.Call (.Name "min" p) [a] [⟨some "default", d, kpos⟩] pos) (wOp rMinD wa wd) :=
  PE.imp (pe_callBK (cr_minDef hc hu) hg hm (by decide +kernel) (pa_cons ha pa_nil hs) (pk_cons hd pk_nil) (he := he) (hpl := hpl) (hall := hall) (hnone := hnone) (hks := hks)) fun _ _ _ h => can2 (r := fun x y H Q => rMinDef X.K [x] [y] H Q) ab_minD h
end
end Lw

namespace Lw
open PySem PySem.Spec L2
/-! ## cells, looked at as data -/
def peek : Nat → Mh → Wv → Option Dt
  | _, _, .d d => some d
  | 0, _, .c _ => none
  | n + 1, M, .c p => match M p with
    | some (.lst ws) => (ws.mapM (peek n M)).map .lst
    | some (.tup ws) => (ws.mapM (peek n M)).map .tup
    | _ => none
/-- all cells frozen -/
def FA (F : Hp) (M : Mh) (H : Hp) : Hp := fun b => match F b with
  | some u => some u
  | none => match M b with
    | some _ => H b
    | none => none
theorem fa_ext {F : Hp} {M : Mh} {H : Hp} : Ext F (FA F M H) := fun b u e => by unfold FA; rw [e]
theorem fa_same {F : Hp} {M : Mh} {H : Hp} (r : Rel F M H) : Same (FA F M H) H := fun b u e => by
  unfold FA at e
  cases hf : F b with
  | some w => rw [hf] at e; cases e; exact r.fz b _ hf
  | none =>
    rw [hf] at e
    cases hm : M b with
    | some o => rw [hm] at e; exact e
    | none => rw [hm] at e; cases e
theorem fa_at {F : Hp} {M : Mh} {H : Hp} (r : Rel F M H) {p : Addr} {o : MO} (e : M p = some o) : FA F M H p = H p := by
  unfold FA
  rw [(r.mu p o e).1, e]
theorem mapM_ok {F G : Hp} {f : Wv → Option Dt} (h : ∀ v w d, RpW F v w → f w = some d → Rp G v d) : ∀ {vs : List V} {ws : List Wv} {ds : List Dt}, RpWs F vs ws → ws.mapM f = some ds → RpL G vs ds
  | _, [], ds, .nil, e => by cases e; exact .nil
  | _, w :: ws, ds, .cons r t, e => by
    rw [List.mapM_cons] at e
    cases e1 : f w with
    | none => rw [e1] at e; cases e
    | some d =>
      rw [e1] at e
      cases e2 : ws.mapM f with
      | none => rw [e2] at e; cases e
      | some ds' =>
        rw [e2] at e
        cases e
        exact .cons (h _ _ _ r e1) (mapM_ok h t e2)
theorem peek_ok {F : Hp} {M : Mh} {H : Hp} (r : Rel F M H) : ∀ (n : Nat) (v : V) (w : Wv) (d : Dt), RpW F v w → peek n M w = some d → Rp (FA F M H) v d := by
  intro n
  induction n with
  | zero =>
    intro v w d rv e
    cases w with
    | d x => cases e; exact Rp.mono fa_ext rv
    | c p => cases e
  | succ n ih =>
    intro v w d rv e
    cases w with
    | d x => cases e; exact Rp.mono fa_ext rv
    | c p =>
      cases rv
      unfold peek at e
      cases em : M p with
      | none => rw [em] at e; cases e
      | some o =>
        rw [em] at e
        obtain ⟨_, ok⟩ := r.mu p o em
        cases o with
        | lst ws =>
          obtain ⟨vs, h1, rs⟩ := ok
          simp only at e
          cases e2 : ws.mapM (peek n M) with
          | none => rw [e2] at e; cases e
          | some ds =>
            rw [e2] at e; cases e
            exact .lst (by rw [fa_at r em]; exact h1) (mapM_ok ih rs e2)
        | tup ws =>
          obtain ⟨vs, h1, rs⟩ := ok
          simp only at e
          cases e2 : ws.mapM (peek n M) with
          | none => rw [e2] at e; cases e
          | some ds =>
            rw [e2] at e; cases e
            exact .tup (by rw [fa_at r em]; exact h1) (mapM_ok ih rs e2)
        | dT _ => cases e
        | ins _ _ => cases e
/-! ### == and != of cells -/
@[irreducible] def rEqP : W2 := fun x y M Q => match peek 4 M x, peek 4 M y with
  | some a, some b => shD 60 a = true ∧ shD 60 b = true ∧ Q (.d (.bl (eqD a b))) M
  | _, _ => False
@[irreducible] def rNeP : W2 := fun x y M Q => match peek 4 M x, peek 4 M y with
  | some a, some b => shD 60 a = true ∧ shD 60 b = true ∧ Q (.d (.bl (!eqD a b))) M
  | _, _ => False
theorem ab_eqP {K : PySem.W.Frag} : Ab2 (rEqD K) rEqP := by
  intro F M H x y wx wy Qw Q r rx ry h q
  unfold rEqP at h
  split at h
  · rename_i a b ea eb
    refine ⟨toPy a, toPy b, Rp.dp (n := 60) (fa_same r) (peek_ok r _ _ _ _ rx ea) h.1, Rp.dp (n := 60) (fa_same r) (peek_ok r _ _ _ _ ry eb) h.2.1, shaped_of h.1, shaped_of h.2.1, ?_⟩
    rw [eqD_py]
    exact qD q (Same.refl F) r (Rp.bl _) h.2.2
  · exact h.elim
theorem ab_neP {K : PySem.W.Frag} : Ab2 (rNeD K) rNeP := by
  intro F M H x y wx wy Qw Q r rx ry h q
  unfold rNeP at h
  split at h
  · rename_i a b ea eb
    refine ⟨toPy a, toPy b, Rp.dp (n := 60) (fa_same r) (peek_ok r _ _ _ _ rx ea) h.1, Rp.dp (n := 60) (fa_same r) (peek_ok r _ _ _ _ ry eb) h.2.1, shaped_of h.1, shaped_of h.2.1, ?_⟩
    rw [eqD_py]
    exact qD q (Same.refl F) r (Rp.bl _) h.2.2
  · exact h.elim
/-! ### an expression over cells that are only looked at -/
def peekRho (M : Mh) (ρ : Rho) : Rho := ρ.map fun o => o.bind fun w => (peek 4 M w).map .d
def atomD : Dt → Bool
  | .non => true
  | .bl _ => true
  | .int _ => true
  | .str _ => true
  | _ => false
theorem atom_any {F G : Hp} {v : V} {d : Dt} (h : Rp F v d) (a : atomD d = true) : Rp G v d := by
  cases h with
  | non => exact .non
  | bl b => exact .bl b
  | int i => exact .int i
  | str x => exact .str x
  | _ => cases a
@[irreducible] def wBor (w : WE) : WE := fun ρ M Q E => w (peekRho M ρ) (fun _ => none) (fun x _ => ∃ d, x = .d d ∧ atomD d = true ∧ Q (.d d) M) (fun C _ => E C M)
theorem peek_d {n : Nat} {M : Mh} {d : Dt} : peek n M (.d d) = some d := by cases n <;> rfl
theorem bor_ok {w : WE} {ρ ρ1 : Rho} {M : Mh} {Q : Wv → Mh → Prop} {E : EW} (h : peekRho M ρ = ρ1) (k : w ρ1 (fun _ => none) (fun x _ => ∃ d, x = .d d ∧ atomD d = true ∧ Q (.d d) M) (fun C _ => E C M)) : wBor w ρ M Q E := by
  unfold wBor; rw [h]; exact k
theorem rel_back {F F' : Hp} {M M' : Mh} {H H' : Hp} (r : Rel F M H) (x : Ext (FA F M H) F') (r' : Rel F' M' H') : Rel F M H' := by
  have hh : ∀ b u, FA F M H b = some u → H' b = some u := fun b u e => r'.fz b u (x b u e)
  refine ⟨fun b u e => hh b u (fa_ext b u e), fun a o e => ?_⟩
  obtain ⟨f, k⟩ := r.mu a o e
  refine ⟨f, k.heap ?_⟩
  obtain ⟨u, eu⟩ := k.some
  rw [eu]
  exact hh a u (by rw [fa_at r e]; exact eu)
theorem pew_bor {X : Cx} {W : WX} {e : Expr} {w : WE} (h : PEw X W e w) : PEw X W e (wBor w) := PE.imp h fun σ H Q ⟨F, ρ, M, Qw, Ew, r, s, h, q, e⟩ => by
  unfold wBor at h
  refine ⟨FA F M H, peekRho M ρ, fun _ => none, _, _, ⟨fa_same r, fun a o z => (by cases z)⟩, ⟨?_, ?_⟩, h, fun v H' F' x M' x1 r1 rx hx => ?_, fun C H' F' M' x1 r1 hx => e C H' F M (Same.refl F) (rel_back r x1 r1) hx⟩
  · unfold peekRho; rw [List.length_map]; exact s.len
  · intro i w e
    unfold peekRho at e
    rw [List.getElem?_map] at e
    cases e1 : ρ[i]? with
    | none => rw [e1] at e; cases e
    | some o =>
      rw [e1] at e
      cases o with
      | none => cases e
      | some w0 =>
        obtain ⟨v, h1, h2⟩ := s.at_ i w0 e1
        refine ⟨v, h1, ?_⟩
        have e : (peek 4 M w0).map Wv.d = some w := Option.some.inj e
        cases e2 : peek 4 M w0 with
        | none => rw [e2] at e; cases e
        | some d => rw [e2] at e; cases e; exact peek_ok r _ _ _ _ h2 e2
  · obtain ⟨d, rfl, at_, hq⟩ := hx
    exact q v H' F (.d d) M (Same.refl F) (rel_back r x1 r1) (atom_any rx at_) hq
end Lw

namespace Lw
open PySem PySem.Spec L2

/-! # the program: fractions -/
/-- where the program's own classes stand -/
structure Cs where
  (NoRatio NoLine NoPlace NoWay NoWalk NoFence NoSquare NoLines NoText NoName Twice TooMany NoRow NoDeed : Addr)
  (Cells Reach Barrier Book : Addr)
/-- a def over plain data -/
def pS (n : Nat) (f : List Dt → (Dt → Prop) → (Addr → Prop) → Prop) : SpW := fun ws M Q E => match allD ws with
  | some ds => ds.length = n ∧ f ds (fun d => Q (.d d) M) (fun C => E C M)
  | none => False
theorem pS_len {n : Nat} {f : List Dt → (Dt → Prop) → (Addr → Prop) → Prop} : ∀ ws M Q E, pS n f ws M Q E → ws.length = n := by
  intro ws M Q E h
  unfold pS at h
  split at h
  · rename_i ds e
    rw [allD_eq e, List.length_map]; exact h.1
  · exact h.elim
theorem pS_out {n : Nat} {f : List Dt → (Dt → Prop) → (Addr → Prop) → Prop} {ws M Q E} (h : pS n f ws M Q E) : ∃ ds, ws = ds.map .d ∧ ds.length = n ∧ f ds (fun d => Q (.d d) M) (fun C => E C M) := by
  unfold pS at h
  split at h
  · rename_i ds e
    exact ⟨ds, allD_eq e, h⟩
  · exact h.elim
section
variable {f : List Dt → (Dt → Prop) → (Addr → Prop) → Prop} {a b c d e : Dt} {M : Mh} {Q : Wv → Mh → Prop} {E : EW}
theorem pS1 : pS 1 f [.d a] M Q E = f [a] (fun d => Q (.d d) M) (fun C => E C M) := by simp [pS, allD]
theorem pS2 : pS 2 f [.d a, .d b] M Q E = f [a, b] (fun d => Q (.d d) M) (fun C => E C M) := by simp [pS, allD]
theorem pS3 : pS 3 f [.d a, .d b, .d c] M Q E = f [a, b, c] (fun d => Q (.d d) M) (fun C => E C M) := by simp [pS, allD]
theorem pS4 : pS 4 f [.d a, .d b, .d c, .d d] M Q E = f [a, b, c, d] (fun d => Q (.d d) M) (fun C => E C M) := by simp [pS, allD]
theorem pS5 : pS 5 f [.d a, .d b, .d c, .d d, .d e] M Q E = f [a, b, c, d, e] (fun d => Q (.d d) M) (fun C => E C M) := by simp [pS, allD]
end
theorem atI_zero {α : Type} {x : α} {r : List α} : L2.atI (x :: r) 0 = some x := by simp [L2.atI, ixN]
theorem atI_one {α : Type} {x y : α} {r : List α} : L2.atI (x :: y :: r) 1 = some y := by
  have : (1 : Int) < (r.length : Int) + 1 + 1 := by omega
  simp [L2.atI, ixN, this]
theorem atI_two {α : Type} {x y z : α} {r : List α} : L2.atI (x :: y :: z :: r) 2 = some z := by
  have : (2 : Int) < (r.length : Int) + 1 + 1 + 1 := by omega
  simp [L2.atI, ixN, this]
theorem atI_of {α : Type} {xs : List α} {i : Int} {k : Nat} {x : α} (e : i = k) (h : xs[k]? = some x) : L2.atI xs i = some x := by
  subst e
  have hk := (List.getElem?_eq_some_iff.mp h).1
  have : (k : Int) < xs.length := by omega
  simp [L2.atI, ixN, this, h]
theorem atI_last' {α : Type} {xs : List α} {x : α} (h : xs[xs.length - 1]? = some x) : L2.atI xs (-1) = some x := by
  have hk := (List.getElem?_eq_some_iff.mp h).1
  have h1 : ¬ ((0 : Int) ≤ -1) := by omega
  have h2 : -(xs.length : Int) ≤ -1 := by omega
  have h3 : (-1 + (xs.length : Int)).toNat = xs.length - 1 := by omega
  simp [L2.atI, ixN, h2, h3, h]
local macro_rules | `(tactic| walk_at "wp") => `(tactic| try simp only [wSeq, wIf, wRet, wSet, wTest, wOp, wUn, wV, wC, wCall, wCons, wNil, wCB, wTup, wLst, wOrT, wAndT, wNotT, wAndV, wOrV, wNotV, wIfE, wChain, wRaise, wNext, wPar, wDrop, wAsg, wgName, wgTup, wgCons, wgNil, tupOf, wAug, rAddI, rAbs, rMax2, rMin2, rMod, rLt, rGt, rLe, rGe, rCmp, rSub, rAdd, rMul, rDiv, rNeg, rPow, rEq, rNe, rLen, rIxW, rIsN, rNotN, isNonW, wFld, insOf, wMeth, wIsi, rIsi, tyName, startW, List.map, List.length, List.cons_append, List.nil_append, List.append_nil, List.replicate, List.getElem?_cons_zero, List.getElem?_cons_succ, List.set_cons_zero, List.set_cons_succ, bch_true, bch_false, bch_not, bch_dec, allD, Option.map, endsOf, pS1, pS2, pS3, pS4, pS5, atI_zero, atI_one, atI_two, Bool.not_true, Bool.not_false, Nat.reduceAdd, Nat.reduceSub])
local macro_rules | `(tactic| walk_at "wh") => `(tactic| conv => whnf)
local macro_rules | `(tactic| walk_at "wx") => `(tactic| (conv => whnf); repeat (first | (rw [Mh.set_same]; conv => whnf) | ((refine And.intro ?_ ?_; focus (first | ((with_reducible show (_ : Nat) ≤ _); first | exact sl2 | exact sl1 | exact sl3 | exact sl0 | exact sl4 | decide) | ((with_reducible show (_ : Nat) = _); rfl) | ((with_reducible show (_ : Bool) = _); first | rfl | decide +kernel) | ((with_reducible show (_ : Int) < _); first | omega | (simp only [List.length_map]; omega)) | ((with_reducible show (_ : Int) ≤ _); first | omega | (simp only [List.length_map]; omega)) | ((with_reducible show MulOk _ _); first | exact MulOk.nat_l rfl | exact MulOk.nat_r rfl) | ((with_reducible show DivOk _); exact (DivOk.lit rfl rfl)) | ((with_reducible show (_ ∧ _ ∧ Sz _ _)); exact PowOk.lit rfl rfl rfl))); conv => whnf)))
local macro_rules | `(tactic| walk_at "sz") => `(tactic| exact szs (by omega) (by decide))

theorem sl1 : 1 ≤ sizeLine := by decide
theorem sl2 : 2 ≤ sizeLine := by decide
theorem sl3 : 3 ≤ sizeLine := by decide
theorem sl4 : 4 ≤ sizeLine := by decide
theorem sl0 : 0 ≤ sizeLine := by decide
theorem okD {Q : Wv → Mh → Prop} {M : Mh} {x : Wv} (h : Q x M) : ∃ M', Sub M' M ∧ Q x M' := ⟨M, Sub.refl M, h⟩
theorem okE {E : EW} {M : Mh} {C : Addr} (h : E C M) : ∃ M', Sub M' M ∧ E C M' := ⟨M, Sub.refl M, h⟩

theorem szs {k : Nat} {x : Int} (h : x.natAbs < 1152921504606846976) (hk : 60 ≤ k) : Sz k x :=
  Nat.lt_of_lt_of_le (Nat.lt_of_lt_of_le h (by decide : 1152921504606846976 ≤ 2 ^ 60)) (Nat.pow_le_pow_right (by decide) hk)
theorem Sz.lit {i : Int} (h : Nat.blt i.natAbs (2 ^ 64) = true) : Sz 64 i := Nat.le_of_ble_eq_true h
theorem MulOk.nat_l {i j : Int} (h : Nat.blt i.natAbs (2 ^ 64) = true) : MulOk i j := .inl (Sz.lit h)
theorem MulOk.nat_r {i j : Int} (h : Nat.blt j.natAbs (2 ^ 64) = true) : MulOk i j := .inr (.inl (Sz.lit h))
theorem DivOk.lit {j : Int} (h : Nat.blt j.natAbs (2 ^ 64) = true) (h0 : Nat.beq j.natAbs 0 = false) : DivOk j :=
  ⟨fun e => (by rw [e] at h0; cases h0), 64, Sz.lit h, by decide, by decide⟩
theorem PowOk.lit {i j : Int} (h0 : decide (0 ≤ j) = true) (h1 : decide (j ≤ 1000000) = true) (h : Nat.blt i.natAbs (2 ^ 64) = true) : 0 ≤ j ∧ j ≤ 1000000 ∧ Sz 64 i := ⟨of_decide_eq_true h0, of_decide_eq_true h1, Sz.lit h⟩
/-! ## encodings, sizes -/
def eQ (q : Rat) : Dt := .tup [.int q.num, .int (q.den : Int)]
def eC (p : Int × Int) : Dt := .tup [.int p.1, .int p.2]
def eL (l : List (Int × Int)) : Dt := .lst (l.map eC)
/-- a pair of fractions -/
def ePr (p : Rat × Rat) : Dt := .tup [eQ p.1, eQ p.2]
def eN (k : Nat) : Dt := .int (k : Int)
structure Qz (k : Nat) (q : Rat) : Prop where
  n : Sz k q.num
  d : Sz k (q.den : Int)
theorem Sz.mono {k l : Nat} {x : Int} (h : Sz k x) (hl : k ≤ l) : Sz l x := Nat.lt_of_lt_of_le h (Nat.pow_le_pow_right (by decide) hl)
theorem Sz.add {k l : Nat} {x y : Int} (h : Sz k x) (h' : Sz l y) : Sz (max k l + 1) (x + y) := by
  have a : Sz (max k l) x := h.mono (Nat.le_max_left _ _)
  have b : Sz (max k l) y := h'.mono (Nat.le_max_right _ _)
  unfold Sz at *
  rw [Nat.pow_succ]; omega
theorem Sz.sub {k l : Nat} {x y : Int} (h : Sz k x) (h' : Sz l y) : Sz (max k l + 1) (x - y) := by
  have a : Sz (max k l) x := h.mono (Nat.le_max_left _ _)
  have b : Sz (max k l) y := h'.mono (Nat.le_max_right _ _)
  unfold Sz at *
  rw [Nat.pow_succ]; omega
theorem Sz.neg {k : Nat} {x : Int} (h : Sz k x) : Sz k (-x) := by unfold Sz at *; omega
theorem Sz.mul {k l : Nat} {x y : Int} (h : Sz k x) (h' : Sz l y) : Sz (k + l) (x * y) := wide_lt h h'
theorem Sz.le {k : Nat} {x y : Int} (h : Sz k y) (hx : x.natAbs ≤ y.natAbs) : Sz k x := Nat.lt_of_le_of_lt hx h
theorem Sz.one : Sz 1 1 := by unfold Sz; decide
theorem MulOk.of {k l : Nat} {x y : Int} (h : Sz k x) (h' : Sz l y) (hk : k ≤ 400000) (hl : l ≤ 400000) : MulOk x y :=
  .inr (.inr ⟨k + 1, l + 1, h.mono (Nat.le_succ _), h'.mono (Nat.le_succ _), Nat.succ_pos _, Nat.succ_pos _, by omega⟩)
theorem DivOk.of {k : Nat} {x : Int} (h0 : x ≠ 0) (h : Sz k x) (hk : k ≤ 8998) : DivOk x := ⟨h0, k + 1, h.mono (Nat.le_succ _), Nat.succ_pos _, by omega⟩
theorem Qz.mono {k l : Nat} {q : Rat} (h : Qz k q) (hl : k ≤ l) : Qz l q := ⟨h.n.mono hl, h.d.mono hl⟩
theorem num_divInt_le (t b : Int) : (Rat.divInt t b).num.natAbs ≤ t.natAbs := by
  rw [Rat.num_divInt]
  by_cases hb : b = 0
  · subst hb; simp
  · rw [Int.natAbs_ediv_of_dvd]
    · rw [Int.natAbs_mul, Int.natAbs_sign_of_ne_zero hb, Nat.one_mul]
      exact Nat.div_le_self _ _
    · exact Int.dvd_mul_of_dvd_right (Int.gcd_dvd_right ..)
theorem den_divInt_le (t b : Int) (hb : b ≠ 0) : (Rat.divInt t b).den ≤ b.natAbs := by
  rw [Rat.den_divInt, if_neg hb]
  exact Nat.div_le_self _ _
theorem Qz.divInt {k l : Nat} {t b : Int} (hb : b ≠ 0) (h : Sz k t) (h' : Sz l b) : Qz (max k l) (Rat.divInt t b) :=
  ⟨(h.mono (Nat.le_max_left _ _)).le (num_divInt_le t b), (h'.mono (Nat.le_max_right _ _)).le (by simpa using den_divInt_le t b hb)⟩
theorem add_eq (a b : Rat) : a + b = Rat.divInt (a.num * b.den + b.num * a.den) ((a.den : Int) * b.den) := by
  have h1 : (a.den : Int) ≠ 0 := by have := a.den_nz; omega
  have h2 : (b.den : Int) ≠ 0 := by have := b.den_nz; omega
  rw [← Rat.divInt_add_divInt _ _ h1 h2, Rat.num_divInt_den, Rat.num_divInt_den]
theorem sub_eq (a b : Rat) : a - b = Rat.divInt (a.num * b.den - b.num * a.den) ((a.den : Int) * b.den) := by
  have h1 : (a.den : Int) ≠ 0 := by have := a.den_nz; omega
  have h2 : (b.den : Int) ≠ 0 := by have := b.den_nz; omega
  rw [← Rat.divInt_sub_divInt _ _ h1 h2, Rat.num_divInt_den, Rat.num_divInt_den]
theorem mul_eq (a b : Rat) : a * b = Rat.divInt (a.num * b.num) ((a.den : Int) * b.den) := by
  rw [← Rat.divInt_mul_divInt, Rat.num_divInt_den, Rat.num_divInt_den]
theorem den_ne (a : Rat) : (a.den : Int) ≠ 0 := by have := a.den_nz; omega
theorem den_pos (a : Rat) : (0 : Int) < a.den := by have := a.den_nz; omega
theorem den2_ne (a b : Rat) : (a.den : Int) * b.den ≠ 0 := Int.mul_ne_zero (den_ne a) (den_ne b)
theorem Qz.add {k l : Nat} {a b : Rat} (h : Qz k a) (h' : Qz l b) : Qz (k + l + 1) (a + b) := by
  rw [add_eq]
  refine (Qz.divInt (den2_ne a b) ((h.n.mul h'.d).add (h'.n.mul h.d)) (h.d.mul h'.d)).mono (by omega)
theorem Qz.sub {k l : Nat} {a b : Rat} (h : Qz k a) (h' : Qz l b) : Qz (k + l + 1) (a - b) := by
  rw [sub_eq]
  refine (Qz.divInt (den2_ne a b) ((h.n.mul h'.d).sub (h'.n.mul h.d)) (h.d.mul h'.d)).mono (by omega)
theorem Qz.mul {k l : Nat} {a b : Rat} (h : Qz k a) (h' : Qz l b) : Qz (k + l) (a * b) := by
  rw [mul_eq]
  refine (Qz.divInt (den2_ne a b) (h.n.mul h'.n) (h.d.mul h'.d)).mono (by omega)
theorem Qz.int {k : Nat} {i : Int} (h : Sz k i) (hk : 0 < k) : Qz k (i : Rat) := ⟨h, Sz.one.mono hk⟩
theorem eQ_int (i : Int) : eQ (i : Rat) = .tup [.int i, .int 1] := rfl
theorem eQ_zero : eQ 0 = .tup [.int 0, .int 1] := rfl

/-! ## ratios.py -/
def isWhole : Dt → Bool
  | .int _ => true
  | _ => false
def isVal : Dt → Bool
  | .obj _ _ => false
  | _ => true
@[irreducible] def sp_is_whole (c : Cs) : SpW := pS 1 fun ds Q _ => ∃ d, ds = [d] ∧ isVal d = true ∧ Q (.bl (isWhole d))
def N_is_whole : List Str := ["thing"]
def t_is_whole (c : Cs) : WS :=
  (wRet (wAndV (wIsi "int" (wV 0)) (wNotV (wIsi "bool" (wV 0)))))

theorem pu_is_whole (c : Cs) : ∀ ws M Q E, sp_is_whole c ws M Q E → t_is_whole c (endsOf Q E) (startW N_is_whole ws) M := by
  intro ws M Q E h; unfold sp_is_whole at h; replace h := pS_out h
  obtain ⟨ds, rfl, hl, d, rfl, h1, h2⟩ := h
  cases d with
  | obj _ _ => cases h1
  | _ => exact okD h2
@[irreducible] def sp_divisor (c : Cs) : SpW := pS 2 fun ds Q _ => ∃ a b, ds = [.int a, .int b] ∧ 0 < b ∧ Q (.int (Int.gcd a b))
def N_divisor : List Str := ["one", "other"]
def b1_divisor (c : Cs) : WS :=
  (wPar 0 1 (wCons (wOp rMod (wV 1) (wV 0)) (wCons (wV 0) wNil)))
def t_divisor (c : Cs) : WS :=
  (wSeq (wSet 0 (wCB rAbs (wCons (wV 0) wNil)))
  (wSeq (wWhile (wTest (wOp rGt (wV 0) (wC (.int 0)))) (b1_divisor c))
  (wRet (wV 1))))

theorem pu_divisor (c : Cs) : ∀ ws M Q E, sp_divisor c ws M Q E → t_divisor c (endsOf Q E) (startW N_divisor ws) M := by
  intro ws M Q E h; unfold sp_divisor at h; replace h := pS_out h
  obtain ⟨ds, rfl, hl, a, b, rfl, hb, h⟩ := h
  simp only [t_divisor, N_divisor]
  walk_at "wp"
  refine .inl ⟨fun m ρ M' => M' = M ∧ ∃ x y : Int, m = x.toNat ∧ ρ = [some (.d (.int x)), some (.d (.int y))] ∧ 0 ≤ x ∧ 0 ≤ y ∧ 0 < x + y ∧ Int.gcd x y = Int.gcd a b, ⟨_, rfl, (if a < 0 then -a else a), b, rfl, rfl, ?_, by omega, ?_, ?_⟩, ?_⟩
  · split <;> omega
  · split <;> omega
  · split
    · rw [Int.neg_gcd]
    · rfl
  · rintro m ρ M' ⟨rfl, x, y, rfl, rfl, hx, hy, hxy, hg⟩
    walk_at "wp"
    refine ⟨fun h0 => ⟨h0, ⟨(y % x).toNat, ?_, rfl, y % x, x, rfl, rfl, ?_, by omega, ?_, ?_⟩⟩, fun h0 => okD ?_⟩
    · have := Int.emod_lt_of_pos y h0
      have := Int.emod_nonneg y (by omega : x ≠ 0)
      omega
    · exact Int.emod_nonneg y (by omega)
    · have := Int.emod_nonneg y (by omega : x ≠ 0)
      omega
    · rw [Int.emod_def, Int.gcd_sub_mul_left_left, Int.gcd_comm]
      exact hg
    · have : x = 0 := by omega
      subst this
      rw [← hg, Int.gcd_zero_left] at h
      have e : ((y.natAbs : Nat) : Int) = y := by omega
      rw [e] at h
      exact h
@[irreducible] def sp_ratio (c : Cs) : SpW := pS 2 fun ds Q _ => ∃ t b, ds = [.int t, .int b] ∧ b ≠ 0 ∧ Sz 8998 b ∧ Q (eQ (Rat.divInt t b))
def N_ratio : List Str := ["top", "bottom", "by"]
def t_ratio (c : Cs) : WS :=
  (wSeq (wIf (wOrT (wNotT (wTest (wCall (sp_is_whole c) [] (wCons (wV 0) wNil)))) (wOrT (wNotT (wTest (wCall (sp_is_whole c) [] (wCons (wV 1) wNil)))) (wTest (wOp rEq (wV 1) (wC (.int 0))))))
  (wRaise c.NoRatio)
  wNext)
  (wSeq (wSet 2 (wCall (sp_divisor c) [] (wCons (wV 0) (wCons (wCB rAbs (wCons (wV 1) wNil)) wNil))))
  (wSeq (wIf (wTest (wOp rLt (wV 1) (wC (.int 0))))
  (wSet 2 (wOp rSub (wC (.int 0)) (wV 2)))
  wNext)
  (wRet (wTup (wCons (wOp rDiv (wV 0) (wV 2)) (wCons (wOp rDiv (wV 1) (wV 2)) wNil)))))))

theorem fdiv_dvd {a b : Int} (h : b ∣ a) : a.fdiv b = a / b := Int.fdiv_eq_ediv_of_dvd h
theorem pu_ratio (c : Cs) : ∀ ws M Q E, sp_ratio c ws M Q E → t_ratio c (endsOf Q E) (startW N_ratio ws) M := by
  intro ws M Q E h; unfold sp_ratio at h; replace h := pS_out h
  obtain ⟨ds, rfl, hl, t, b, rfl, hb, hz, h⟩ := h
  simp only [t_ratio, N_ratio]
  walk_at "wp"
  simp only [sp_is_whole, sp_divisor]
  walk_at "wp"
  refine ⟨_, rfl, rfl, ?_⟩
  simp only [isWhole]
  walk_at "wp"
  refine ⟨_, rfl, rfl, ?_⟩
  simp only [isWhole]
  walk_at "wp"
  refine ⟨rfl, rfl, ?_⟩
  have e0 : eqD (.int b) (.int 0) = false := by simp [eqD, hb]
  rw [e0]
  walk_at "wp"
  have hpos : 0 < (if b < 0 then -b else b) := by split <;> omega
  refine ⟨t, _, rfl, hpos, ?_⟩
  have hg : Int.gcd t (if b < 0 then -b else b) = Int.gcd b t := by split <;> simp [Int.gcd_comm]
  rw [hg]
  have gne : ((Int.gcd b t : Nat) : Int) ≠ 0 := by
    have : Int.gcd b t ≠ 0 := by rw [Ne, Int.gcd_eq_zero_iff]; exact fun z => hb z.1
    omega
  have gz : Sz 8998 ((Int.gcd b t : Nat) : Int) := hz.le (by
    have : Int.gcd b t ≤ b.natAbs := Nat.le_of_dvd (by omega) (Int.gcd_dvd_natAbs_left ..)
    simpa using this)
  have dt : ((Int.gcd b t : Nat) : Int) ∣ t := Int.gcd_dvd_right ..
  have db : ((Int.gcd b t : Nat) : Int) ∣ b := Int.gcd_dvd_left ..
  have e1 : eQ (Rat.divInt t b) = .tup [.int (b.sign * t / (Int.gcd b t : Nat)), .int ((b.natAbs / Int.gcd b t : Nat) : Int)] := by
    unfold eQ
    rw [Rat.num_divInt, Rat.den_divInt, if_neg hb]
  rw [e1] at h
  refine ⟨fun hn => ?_, fun hn => ?_⟩
  · have gz' : Sz 8998 (0 - ((Int.gcd b t : Nat) : Int)) := by
      have := gz.neg
      simpa using this
    refine ⟨.of (by omega) gz' (by omega), .of (by omega) gz' (by omega), by decide, okD ?_⟩
    have e2 : t.fdiv (0 - ((Int.gcd b t : Nat) : Int)) = b.sign * t / (Int.gcd b t : Nat) := by
      rw [fdiv_dvd (by rw [Int.zero_sub]; exact Int.neg_dvd.mpr dt), Int.zero_sub, Int.ediv_neg, Int.sign_eq_neg_one_of_neg hn, ← Int.neg_mul_eq_neg_mul, Int.one_mul, Int.neg_ediv_of_dvd dt]
    have e3 : b.fdiv (0 - ((Int.gcd b t : Nat) : Int)) = ((b.natAbs / Int.gcd b t : Nat) : Int) := by
      rw [fdiv_dvd (by rw [Int.zero_sub]; exact Int.neg_dvd.mpr db), Int.zero_sub, Int.ediv_neg, ← Int.neg_ediv_of_dvd db, Int.natCast_ediv]
      congr 1
      omega
    rw [e2, e3]
    exact h
  · have hp : 0 < b := by omega
    refine ⟨.of gne gz (by omega), .of gne gz (by omega), by decide, okD ?_⟩
    have e2 : t.fdiv ((Int.gcd b t : Nat) : Int) = b.sign * t / (Int.gcd b t : Nat) := by
      rw [fdiv_dvd dt, Int.sign_eq_one_of_pos hp, Int.one_mul]
    have e3 : b.fdiv ((Int.gcd b t : Nat) : Int) = ((b.natAbs / Int.gcd b t : Nat) : Int) := by
      rw [fdiv_dvd db, Int.natCast_ediv]
      congr 1
      omega
    rw [e2, e3]
    exact h
@[irreducible] def sp_plus (c : Cs) : SpW := pS 2 fun ds Q _ => ∃ a b, ds = [eQ a, eQ b] ∧ Qz 4000 a ∧ Qz 4000 b ∧ Q (eQ (a + b))
@[irreducible] def sp_minus (c : Cs) : SpW := pS 2 fun ds Q _ => ∃ a b, ds = [eQ a, eQ b] ∧ Qz 4000 a ∧ Qz 4000 b ∧ Q (eQ (a - b))
@[irreducible] def sp_times (c : Cs) : SpW := pS 2 fun ds Q _ => ∃ a b, ds = [eQ a, eQ b] ∧ Qz 4000 a ∧ Qz 4000 b ∧ Q (eQ (a * b))
@[irreducible] def sp_over (c : Cs) : SpW := pS 2 fun ds Q _ => ∃ a b, ds = [eQ a, eQ b] ∧ b ≠ 0 ∧ Qz 4000 a ∧ Qz 4000 b ∧ Q (eQ (a / b))
@[irreducible] def sp_less (c : Cs) : SpW := pS 2 fun ds Q _ => ∃ a b, ds = [eQ a, eQ b] ∧ Qz 100000 a ∧ Qz 100000 b ∧ Q (.bl (decide (a < b)))
@[irreducible] def sp_floor_of (c : Cs) : SpW := pS 1 fun ds Q _ => ∃ a, ds = [eQ a] ∧ Qz 8998 a ∧ Q (.int a.floor)
def N_plus : List Str := ["a", "b"]
def t_plus (c : Cs) : WS :=
  (wRet (wCall (sp_ratio c) [] (wCons (wOp rAdd (wOp rMul (wOp rIxW (wV 0) (wC (.int 0))) (wOp rIxW (wV 1) (wC (.int 1)))) (wOp rMul (wOp rIxW (wV 1) (wC (.int 0))) (wOp rIxW (wV 0) (wC (.int 1))))) (wCons (wOp rMul (wOp rIxW (wV 0) (wC (.int 1))) (wOp rIxW (wV 1) (wC (.int 1)))) wNil))))

def N_minus : List Str := ["a", "b"]
def t_minus (c : Cs) : WS :=
  (wRet (wCall (sp_ratio c) [] (wCons (wOp rSub (wOp rMul (wOp rIxW (wV 0) (wC (.int 0))) (wOp rIxW (wV 1) (wC (.int 1)))) (wOp rMul (wOp rIxW (wV 1) (wC (.int 0))) (wOp rIxW (wV 0) (wC (.int 1))))) (wCons (wOp rMul (wOp rIxW (wV 0) (wC (.int 1))) (wOp rIxW (wV 1) (wC (.int 1)))) wNil))))

def N_times : List Str := ["a", "b"]
def t_times (c : Cs) : WS :=
  (wRet (wCall (sp_ratio c) [] (wCons (wOp rMul (wOp rIxW (wV 0) (wC (.int 0))) (wOp rIxW (wV 1) (wC (.int 0)))) (wCons (wOp rMul (wOp rIxW (wV 0) (wC (.int 1))) (wOp rIxW (wV 1) (wC (.int 1)))) wNil))))

def N_over : List Str := ["a", "b"]
def t_over (c : Cs) : WS :=
  (wRet (wCall (sp_ratio c) [] (wCons (wOp rMul (wOp rIxW (wV 0) (wC (.int 0))) (wOp rIxW (wV 1) (wC (.int 1)))) (wCons (wOp rMul (wOp rIxW (wV 0) (wC (.int 1))) (wOp rIxW (wV 1) (wC (.int 0)))) wNil))))

def N_less : List Str := ["a", "b"]
def t_less (c : Cs) : WS :=
  (wRet (wOp rLt (wOp rMul (wOp rIxW (wV 0) (wC (.int 0))) (wOp rIxW (wV 1) (wC (.int 1)))) (wOp rMul (wOp rIxW (wV 1) (wC (.int 0))) (wOp rIxW (wV 0) (wC (.int 1))))))

def N_floor_of : List Str := ["a"]
def t_floor_of (c : Cs) : WS :=
  (wRet (wOp rDiv (wOp rIxW (wV 0) (wC (.int 0))) (wOp rIxW (wV 0) (wC (.int 1)))))

theorem pu_plus (c : Cs) : ∀ ws M Q E, sp_plus c ws M Q E → t_plus c (endsOf Q E) (startW N_plus ws) M := by
  intro ws M Q E h; unfold sp_plus at h; replace h := pS_out h
  obtain ⟨ds, rfl, hl, a, b, rfl, ha, hb, h⟩ := h
  simp only [t_plus, N_plus, eQ]
  walk_at "wp"
  refine ⟨.of ha.n hb.d (by omega) (by omega), .of hb.n ha.d (by omega) (by omega), .of ha.d hb.d (by omega) (by omega), ?_⟩
  simp only [sp_ratio]
  walk_at "wp"
  exact ⟨_, _, rfl, den2_ne a b, (ha.d.mul hb.d).mono (by omega), okD (by rw [← add_eq]; exact h)⟩
theorem pu_minus (c : Cs) : ∀ ws M Q E, sp_minus c ws M Q E → t_minus c (endsOf Q E) (startW N_minus ws) M := by
  intro ws M Q E h; unfold sp_minus at h; replace h := pS_out h
  obtain ⟨ds, rfl, hl, a, b, rfl, ha, hb, h⟩ := h
  simp only [t_minus, N_minus, eQ]
  walk_at "wp"
  refine ⟨.of ha.n hb.d (by omega) (by omega), .of hb.n ha.d (by omega) (by omega), .of ha.d hb.d (by omega) (by omega), ?_⟩
  simp only [sp_ratio]
  walk_at "wp"
  exact ⟨_, _, rfl, den2_ne a b, (ha.d.mul hb.d).mono (by omega), okD (by rw [← sub_eq]; exact h)⟩
theorem pu_times (c : Cs) : ∀ ws M Q E, sp_times c ws M Q E → t_times c (endsOf Q E) (startW N_times ws) M := by
  intro ws M Q E h; unfold sp_times at h; replace h := pS_out h
  obtain ⟨ds, rfl, hl, a, b, rfl, ha, hb, h⟩ := h
  simp only [t_times, N_times, eQ]
  walk_at "wp"
  refine ⟨.of ha.n hb.n (by omega) (by omega), .of ha.d hb.d (by omega) (by omega), ?_⟩
  simp only [sp_ratio]
  walk_at "wp"
  exact ⟨_, _, rfl, den2_ne a b, (ha.d.mul hb.d).mono (by omega), okD (by rw [← mul_eq]; exact h)⟩
theorem num_ne {b : Rat} (h : b ≠ 0) : b.num ≠ 0 := fun e => h (Rat.num_eq_zero.mp e)
theorem div_eq (a b : Rat) : a / b = Rat.divInt (a.num * b.den) ((a.den : Int) * b.num) := by
  rw [Rat.div_def, Rat.inv_def, ← Rat.divInt_mul_divInt, Rat.num_divInt_den]
theorem pu_over (c : Cs) : ∀ ws M Q E, sp_over c ws M Q E → t_over c (endsOf Q E) (startW N_over ws) M := by
  intro ws M Q E h; unfold sp_over at h; replace h := pS_out h
  obtain ⟨ds, rfl, hl, a, b, rfl, h0, ha, hb, h⟩ := h
  simp only [t_over, N_over, eQ]
  walk_at "wp"
  refine ⟨.of ha.n hb.d (by omega) (by omega), .of ha.d hb.n (by omega) (by omega), ?_⟩
  simp only [sp_ratio]
  walk_at "wp"
  exact ⟨_, _, rfl, Int.mul_ne_zero (den_ne a) (num_ne h0), (ha.d.mul hb.n).mono (by omega), okD (by rw [← div_eq]; exact h)⟩
theorem pu_less (c : Cs) : ∀ ws M Q E, sp_less c ws M Q E → t_less c (endsOf Q E) (startW N_less ws) M := by
  intro ws M Q E h; unfold sp_less at h; replace h := pS_out h
  obtain ⟨ds, rfl, hl, a, b, rfl, ha, hb, h⟩ := h
  simp only [t_less, N_less, eQ]
  walk_at "wp"
  refine ⟨.of ha.n hb.d (by omega) (by omega), .of hb.n ha.d (by omega) (by omega), okD ?_⟩
  have e : decide (a.num * b.den < b.num * a.den) = decide (a < b) := by rw [decide_eq_decide]; exact (Rat.lt_iff a b).symm
  rw [e]; exact h
theorem pu_floor_of (c : Cs) : ∀ ws M Q E, sp_floor_of c ws M Q E → t_floor_of c (endsOf Q E) (startW N_floor_of ws) M := by
  intro ws M Q E h; unfold sp_floor_of at h; replace h := pS_out h
  obtain ⟨ds, rfl, hl, a, rfl, ha, h⟩ := h
  simp only [t_floor_of, N_floor_of, eQ]
  walk_at "wp"
  refine ⟨.of (den_ne a) ha.d (by omega), okD ?_⟩
  rw [Int.fdiv_eq_ediv_of_nonneg _ (Int.le_of_lt (den_pos a)), ← Rat.floor_def]
  exact h
/-- a fraction in lowest terms; what is none -/
def asQ : Dt → Option Rat
  | .tup [.int n, .int d] => if 0 < d ∧ Int.gcd n d = 1 then some (Rat.divInt n d) else none
  | _ => none
theorem asQ_eQ (q : Rat) : asQ (eQ q) = some q := by
  show (if 0 < (q.den : Int) ∧ Int.gcd q.num q.den = 1 then some (Rat.divInt q.num q.den) else none) = some q
  rw [if_pos ⟨den_pos q, q.reduced⟩, Rat.num_divInt_den]
/-- data without instances at its first two layers -/
def val2 : Dt → Bool
  | .obj _ _ => false
  | .tup xs => xs.all isVal
  | _ => true
@[irreducible] def sp_is_ratio (c : Cs) : SpW := pS 1 fun ds Q _ => ∃ d, ds = [d] ∧ val2 d = true ∧ Q (.bl (asQ d).isSome)
def N_is_ratio : List Str := ["thing"]
def t_is_ratio (c : Cs) : WS :=
  (wSeq (wIf (wOrT (wNotT (wTest (wIsi "tuple" (wV 0)))) (wTest (wOp rNe (wCB rLen (wCons (wV 0) wNil)) (wC (.int 2)))))
  (wRet (wC (.bl false)))
  wNext)
  (wSeq (wIf (wOrT (wNotT (wTest (wCall (sp_is_whole c) [] (wCons (wOp rIxW (wV 0) (wC (.int 0))) wNil)))) (wOrT (wNotT (wTest (wCall (sp_is_whole c) [] (wCons (wOp rIxW (wV 0) (wC (.int 1))) wNil)))) (wTest (wOp rLt (wOp rIxW (wV 0) (wC (.int 1))) (wC (.int 1))))))
  (wRet (wC (.bl false)))
  wNext)
  (wRet (wOp rEq (wCall (sp_divisor c) [] (wCons (wOp rIxW (wV 0) (wC (.int 0))) (wCons (wOp rIxW (wV 0) (wC (.int 1))) wNil))) (wC (.int 1))))))

theorem pu_is_ratio (c : Cs) : ∀ ws M Q E, sp_is_ratio c ws M Q E → t_is_ratio c (endsOf Q E) (startW N_is_ratio ws) M := by
  intro ws M Q E h; unfold sp_is_ratio at h; replace h := pS_out h
  obtain ⟨ds, rfl, hl, d, rfl, hv, h⟩ := h
  simp only [t_is_ratio, N_is_ratio]
  cases d with
  | obj _ _ => cases hv
  | tup xs =>
    walk_at "wp"
    simp only [show isiT "tuple" "tuple" = true from rfl]
    walk_at "wp"
    by_cases hl2 : xs.length = 2
    · obtain ⟨x, y, rfl⟩ : ∃ x y, xs = [x, y] := by
        match xs, hl2 with
        | [x, y], _ => exact ⟨x, y, rfl⟩
      have hx : isVal x = true ∧ isVal y = true := by simpa [val2] using hv
      have e0 : eqD (.int (([x, y] : List Dt).length : Int)) (.int 2) = true := rfl
      refine ⟨rfl, rfl, ?_⟩
      simp only [e0, sp_is_whole, sp_divisor]
      walk_at "wp"
      refine ⟨x, rfl, hx.1, ?_⟩
      cases x with
      | int n =>
        simp only [isWhole]
        walk_at "wp"
        refine ⟨y, rfl, hx.2, ?_⟩
        cases y with
        | int b =>
          simp only [isWhole]
          walk_at "wp"
          refine ⟨fun hb => okD ?_, fun hb => ⟨n, b, rfl, by omega, rfl, rfl, okD ?_⟩⟩
          · have e : (asQ (.tup [.int n, .int b])).isSome = false := by
              show (if 0 < b ∧ Int.gcd n b = 1 then some (Rat.divInt n b) else none).isSome = false
              rw [if_neg (by omega)]; rfl
            rw [e] at h
            exact h
          · have e : eqD (.int ((Int.gcd n b : Nat) : Int)) (.int 1) = (asQ (.tup [.int n, .int b])).isSome := by
              show (((Int.gcd n b : Nat) : Int) == 1) = (if 0 < b ∧ Int.gcd n b = 1 then some (Rat.divInt n b) else none).isSome
              by_cases hg : Int.gcd n b = 1
              · rw [if_pos ⟨by omega, hg⟩, hg]; rfl
              · rw [if_neg (fun z => hg z.2)]
                have : ((Int.gcd n b : Nat) : Int) ≠ 1 := by omega
                simpa using this
            rw [e]
            exact h
        | obj _ _ => cases hx.2
        | _ => simp only [isWhole]; walk_at "wp"; exact okD h
      | obj _ _ => cases hx.1
      | _ => simp only [isWhole]; walk_at "wp"; exact okD h
    · have e0 : eqD (.int (xs.length : Int)) (.int 2) = false := by
        show ((xs.length : Int) == 2) = false
        have : (xs.length : Int) ≠ 2 := by omega
        simpa using this
      refine ⟨rfl, rfl, ?_⟩
      simp only [e0]
      walk_at "wp"
      have e : (asQ (.tup xs)).isSome = false := by
        unfold asQ
        split
        · rename_i e; cases e; exact absurd rfl hl2
        · rfl
      rw [e] at h
      exact okD h
  | _ =>
    walk_at "wp"
    exact okD h
/-! ## calls, in short -/
section
variable {c : Cs} {M : Mh} {Q : Wv → Mh → Prop} {E : EW}
theorem cl_ratio {t b : Int} (hb : b ≠ 0) (hz : Sz 8998 b) (h : Q (.d (eQ (Rat.divInt t b))) M) : sp_ratio c [.d (.int t), .d (.int b)] M Q E := by
  unfold sp_ratio; rw [pS2]; exact ⟨t, b, rfl, hb, hz, h⟩
theorem cl_ratio1 {t : Int} (h : Q (.d (eQ (t : Rat))) M) : sp_ratio c [.d (.int t), .d (.int 1)] M Q E :=
  cl_ratio (by decide) (Sz.one.mono (by decide)) (by rw [show Rat.divInt t 1 = (t : Rat) from Rat.num_divInt_den (t : Rat)]; exact h)
theorem cl_plus (a b : Rat) (ha : Qz 4000 a) (hb : Qz 4000 b) (h : Q (.d (eQ (a + b))) M) : sp_plus c [.d (eQ a), .d (eQ b)] M Q E := by
  unfold sp_plus; rw [pS2]; exact ⟨a, b, rfl, ha, hb, h⟩
theorem cl_minus (a b : Rat) (ha : Qz 4000 a) (hb : Qz 4000 b) (h : Q (.d (eQ (a - b))) M) : sp_minus c [.d (eQ a), .d (eQ b)] M Q E := by
  unfold sp_minus; rw [pS2]; exact ⟨a, b, rfl, ha, hb, h⟩
theorem cl_times (a b : Rat) (ha : Qz 4000 a) (hb : Qz 4000 b) (h : Q (.d (eQ (a * b))) M) : sp_times c [.d (eQ a), .d (eQ b)] M Q E := by
  unfold sp_times; rw [pS2]; exact ⟨a, b, rfl, ha, hb, h⟩
theorem cl_over (a b : Rat) (h0 : b ≠ 0) (ha : Qz 4000 a) (hb : Qz 4000 b) (h : Q (.d (eQ (a / b))) M) : sp_over c [.d (eQ a), .d (eQ b)] M Q E := by
  unfold sp_over; rw [pS2]; exact ⟨a, b, rfl, h0, ha, hb, h⟩
theorem cl_less (a b : Rat) (ha : Qz 100000 a) (hb : Qz 100000 b) (h : Q (.d (.bl (decide (a < b)))) M) : sp_less c [.d (eQ a), .d (eQ b)] M Q E := by
  unfold sp_less; rw [pS2]; exact ⟨a, b, rfl, ha, hb, h⟩
theorem cl_floor_of (a : Rat) (ha : Qz 8998 a) (h : Q (.d (.int a.floor)) M) : sp_floor_of c [.d (eQ a)] M Q E := by
  unfold sp_floor_of; rw [pS1]; exact ⟨a, rfl, ha, h⟩
theorem cl_is_ratio (d : Dt) (hv : val2 d = true) (h : Q (.d (.bl (asQ d).isSome)) M) : sp_is_ratio c [.d d] M Q E := by
  unfold sp_is_ratio; rw [pS1]; exact ⟨d, rfl, hv, h⟩
theorem val2_eQ (q : Rat) : val2 (eQ q) = true := rfl
end
end Lw

namespace Lw
open PySem PySem.Spec L2
local macro_rules | `(tactic| walk_at "wp") => `(tactic| try simp only [wSeq, wIf, wRet, wSet, wTest, wOp, wUn, wV, wC, wCall, wCons, wNil, wCB, wTup, wLst, wOrT, wAndT, wNotT, wAndV, wOrV, wNotV, wIfE, wChain, wRaise, wNext, wPar, wDrop, wAsg, wgName, wgTup, wgCons, wgNil, tupOf, wAug, rAddI, rAbs, rMax2, rMin2, rMod, rLt, rGt, rLe, rGe, rCmp, rSub, rAdd, rMul, rDiv, rNeg, rPow, rEq, rNe, rLen, rIxW, rIsN, rNotN, isNonW, wFld, insOf, wMeth, wIsi, rIsi, tyName, startW, List.map, List.length, List.cons_append, List.nil_append, List.append_nil, List.replicate, List.getElem?_cons_zero, List.getElem?_cons_succ, List.set_cons_zero, List.set_cons_succ, bch_true, bch_false, bch_not, bch_dec, allD, Option.map, endsOf, pS1, pS2, pS3, pS4, pS5, atI_zero, atI_one, atI_two, Bool.not_true, Bool.not_false, Nat.reduceAdd, Nat.reduceSub])
local macro_rules | `(tactic| walk_at "wh") => `(tactic| conv => whnf)
local macro_rules | `(tactic| walk_at "wx") => `(tactic| (conv => whnf); repeat (first | (rw [Mh.set_same]; conv => whnf) | ((refine And.intro ?_ ?_; focus (first | ((with_reducible show (_ : Nat) ≤ _); first | exact sl2 | exact sl1 | exact sl3 | exact sl0 | exact sl4 | decide) | ((with_reducible show (_ : Nat) = _); rfl) | ((with_reducible show (_ : Bool) = _); first | rfl | decide +kernel) | ((with_reducible show (_ : Int) < _); first | omega | (simp only [List.length_map]; omega)) | ((with_reducible show (_ : Int) ≤ _); first | omega | (simp only [List.length_map]; omega)) | ((with_reducible show MulOk _ _); first | exact MulOk.nat_l rfl | exact MulOk.nat_r rfl) | ((with_reducible show DivOk _); exact (DivOk.lit rfl rfl)) | ((with_reducible show (_ ∧ _ ∧ Sz _ _)); exact PowOk.lit rfl rfl rfl))); conv => whnf)))
local macro_rules | `(tactic| walk_at "sz") => `(tactic| exact szs (by omega) (by decide))


/-! # lines.py, places.py -/
abbrev Cor := Int × Int
abbrev Ln := List Cor
structure LnOk (l : Ln) : Prop where
  ne : 0 < l.length
  le : l.length ≤ 100
  sz : ∀ p ∈ l, Sz 41 p.1 ∧ Sz 41 p.2
def cr (l : Ln) (k : Nat) : Cor := l.getD k (0, 0)
theorem LnOk.cr {l : Ln} (h : LnOk l) (k : Nat) : Sz 41 (cr l k).1 ∧ Sz 41 (cr l k).2 := by
  unfold Lw.cr
  by_cases hk : k < l.length
  · rw [List.getD_eq_getElem?_getD, List.getElem?_eq_getElem hk]
    exact h.sz _ (List.getElem_mem hk)
  · rw [List.getD_eq_getElem?_getD, List.getElem?_eq_none (by omega)]
    exact ⟨by show (0 : Int).natAbs < 2 ^ 41; decide, by show (0 : Int).natAbs < 2 ^ 41; decide⟩
theorem eL_get {l : Ln} {k : Nat} (hk : k < l.length) : (l.map eC)[k]? = some (eC (cr l k)) := by
  rw [List.getElem?_map, List.getElem?_eq_getElem hk]
  unfold cr
  rw [List.getD_eq_getElem?_getD, List.getElem?_eq_getElem hk]
  rfl
theorem eL_ix {l : Ln} {i : Int} {k : Nat} (e : i = k) (hk : k < l.length) : L2.atI (l.map eC) i = some (eC (cr l k)) := atI_of e (eL_get hk)
/-- q is a place on l -/
structure Pl (l : Ln) (q : Rat) : Prop where
  lo : 0 ≤ q
  hi : q ≤ ((l.length - 1 : Nat) : Rat)
@[irreducible] def sp_last_of (c : Cs) : SpW := pS 1 fun ds Q _ => ∃ xs, ds = [.lst xs] ∧ Q (.int ((xs.length : Int) - 1))
@[irreducible] def sp_is_place (c : Cs) : SpW := pS 2 fun ds Q _ => ∃ xs q, ds = [.lst xs, eQ q] ∧ xs.length ≤ 1000000 ∧ Q (.bl (decide (0 ≤ q.num ∧ q.num ≤ ((xs.length : Int) - 1) * q.den)))
@[irreducible] def sp_look_at_place (c : Cs) : SpW := pS 2 fun ds Q _ => ∃ l q, ds = [eL l, eQ q] ∧ LnOk l ∧ Pl l q ∧ Q .non
def N_last_of : List Str := ["line"]
def t_last_of (c : Cs) : WS :=
  (wRet (wOp rSub (wCB rLen (wCons (wV 0) wNil)) (wC (.int 1))))

def N_is_place : List Str := ["line", "thing"]
def t_is_place (c : Cs) : WS :=
  (wRet (wAndV (wCall (sp_is_ratio c) [] (wCons (wV 1) wNil)) (wChain rLe rLe (wC (.int 0)) (wOp rIxW (wV 1) (wC (.int 0))) (wOp rMul (wCall (sp_last_of c) [] (wCons (wV 0) wNil)) (wOp rIxW (wV 1) (wC (.int 1)))))))

def N_look_at_place : List Str := ["line", "thing"]
def t_look_at_place (c : Cs) : WS :=
  (wIf (wNotT (wTest (wCall (sp_is_place c) [] (wCons (wV 0) (wCons (wV 1) wNil)))))
  (wRaise c.NoPlace)
  wNext)

theorem pu_last_of (c : Cs) : ∀ ws M Q E, sp_last_of c ws M Q E → t_last_of c (endsOf Q E) (startW N_last_of ws) M := by
  intro ws M Q E h; unfold sp_last_of at h; replace h := pS_out h
  obtain ⟨ds, rfl, hl, xs, rfl, h⟩ := h
  simp only [t_last_of, N_last_of]
  walk_at "wp"
  exact okD h
theorem pu_is_place (c : Cs) : ∀ ws M Q E, sp_is_place c ws M Q E → t_is_place c (endsOf Q E) (startW N_is_place ws) M := by
  intro ws M Q E h; unfold sp_is_place at h; replace h := pS_out h
  obtain ⟨ds, rfl, hl, xs, q, rfl, hx, h⟩ := h
  simp only [t_is_place, N_is_place, sp_is_ratio, sp_last_of]
  walk_at "wp"
  refine ⟨_, rfl, by simp [val2, eQ, isVal], ?_⟩
  rw [asQ_eQ]
  simp only [Option.isSome, eQ]
  walk_at "wp"
  refine ⟨fun h0 => ⟨xs, rfl, ?_⟩, fun h0 => okD ?_⟩
  · walk_at "wp"
    refine ⟨.inl (by show ((xs.length : Int) - 1).natAbs < 2 ^ 64; omega), okD ?_⟩
    have e : decide (0 ≤ q.num ∧ q.num ≤ ((xs.length : Int) - 1) * q.den) = decide (q.num ≤ ((xs.length : Int) - 1) * q.den) := by simp [h0]
    rw [e] at h
    exact h
  · have e : decide (0 ≤ q.num ∧ q.num ≤ ((xs.length : Int) - 1) * q.den) = false := by simp [h0]
    rw [e] at h
    exact h
theorem Pl.iff {l : Ln} {q : Rat} (hl : 0 < l.length) : Pl l q ↔ 0 ≤ q.num ∧ q.num ≤ ((l.length : Int) - 1) * q.den := by
  have e1 : (0 : Rat) ≤ q ↔ 0 ≤ q.num := Rat.num_nonneg.symm
  have e2 : q ≤ ((l.length - 1 : Nat) : Rat) ↔ q.num ≤ ((l.length : Int) - 1) * q.den := by
    rw [Rat.le_iff]
    have : (((l.length - 1 : Nat) : Rat)).num = (l.length : Int) - 1 := by
      show ((l.length - 1 : Nat) : Int) = _
      omega
    have d1 : (((l.length - 1 : Nat) : Rat)).den = 1 := rfl
    rw [this, d1]
    simp
  exact ⟨fun h => ⟨e1.mp h.lo, e2.mp h.hi⟩, fun h => ⟨e1.mpr h.1, e2.mpr h.2⟩⟩
theorem pu_look_at_place (c : Cs) : ∀ ws M Q E, sp_look_at_place c ws M Q E → t_look_at_place c (endsOf Q E) (startW N_look_at_place ws) M := by
  intro ws M Q E h; unfold sp_look_at_place at h; replace h := pS_out h
  obtain ⟨ds, rfl, hl, l, q, rfl, ol, pl, h⟩ := h
  simp only [t_look_at_place, N_look_at_place, sp_is_place, eL]
  walk_at "wp"
  have := ol.le
  refine ⟨_, q, rfl, by simp; omega, ?_⟩
  have e : decide (0 ≤ q.num ∧ q.num ≤ (((l.map eC).length : Int) - 1) * q.den) = true := by
    rw [List.length_map]
    exact decide_eq_true ((Pl.iff ol.ne).mp pl)
  refine ⟨fun _ => okD h, fun h0 => absurd (of_decide_eq_true e) h0⟩
/-- the stretch at a place -/
def nxt (l : Ln) (k : Nat) : Cor := cr l (min (k + 1) (l.length - 1))
def pt (l : Ln) (q : Rat) : Rat × Rat :=
  let k := q.floor.toNat
  ((((cr l k).1 : Int) : Rat) + (q - (q.floor : Int)) * (((nxt l k).1 - (cr l k).1 : Int) : Rat), (((cr l k).2 : Int) : Rat) + (q - (q.floor : Int)) * (((nxt l k).2 - (cr l k).2 : Int) : Rat))
def sqB (p q : Rat × Rat) : Rat := (p.1 - q.1) * (p.1 - q.1) + (p.2 - q.2) * (p.2 - q.2)
def sqOf (one : Ln) (x : Rat) (other : Ln) (y : Rat) : Rat := sqB (pt one x) (pt other y)
theorem Pl.floor {l : Ln} {q : Rat} (h : Pl l q) (hl : 0 < l.length) : 0 ≤ q.floor ∧ q.floor.toNat < l.length := by
  have h0 : 0 ≤ q.floor := Rat.le_floor_iff.mpr (by simpa using h.lo)
  refine ⟨h0, ?_⟩
  have h1 : (q.floor : Rat) ≤ q := Rat.floor_le q
  have h2 : ((q.floor : Int) : Rat) ≤ (((l.length - 1 : Nat) : Int) : Rat) := Rat.le_trans h1 h.hi
  have h3 : q.floor ≤ ((l.length - 1 : Nat) : Int) := Rat.intCast_le_intCast.mp h2
  omega
@[irreducible] def sp_ends_of (c : Cs) : SpW := pS 2 fun ds Q _ => ∃ l k, ds = [eL l, .int k] ∧ 0 ≤ k ∧ k.toNat < l.length ∧ Q (.tup [eC (cr l k.toNat), eC (nxt l k.toNat)])
@[irreducible] def sp_point_at (c : Cs) : SpW := pS 2 fun ds Q _ => ∃ l q, ds = [eL l, eQ q] ∧ LnOk l ∧ Pl l q ∧ Qz 400 q ∧ Q (ePr (pt l q))
@[irreducible] def sp_square_between (c : Cs) : SpW := pS 2 fun ds Q _ => ∃ p q, ds = [ePr p, ePr q] ∧ (Qz 900 p.1 ∧ Qz 900 p.2) ∧ (Qz 900 q.1 ∧ Qz 900 q.2) ∧ Q (eQ (sqB p q))
@[irreducible] def sp_square_of (c : Cs) : SpW := pS 4 fun ds Q _ => ∃ one x other y, ds = [eL one, eQ x, eL other, eQ y] ∧ (LnOk one ∧ Pl one x ∧ Qz 400 x) ∧ (LnOk other ∧ Pl other y ∧ Qz 400 y) ∧ Q (eQ (sqOf one x other y))
section
variable {c : Cs} {M : Mh} {Q : Wv → Mh → Prop} {E : EW}
theorem cl_last_of (xs : List Dt) (h : Q (.d (.int ((xs.length : Int) - 1))) M) : sp_last_of c [.d (.lst xs)] M Q E := by
  unfold sp_last_of; rw [pS1]; exact ⟨xs, rfl, h⟩
theorem cl_look_at_place (l : Ln) (q : Rat) (ol : LnOk l) (pl : Pl l q) (h : Q (.d .non) M) : sp_look_at_place c [.d (eL l), .d (eQ q)] M Q E := by
  unfold sp_look_at_place; rw [pS2]; exact ⟨l, q, rfl, ol, pl, h⟩
theorem cl_ends_of (l : Ln) (k : Int) (h0 : 0 ≤ k) (hk : k.toNat < l.length) (h : Q (.d (.tup [eC (cr l k.toNat), eC (nxt l k.toNat)])) M) : sp_ends_of c [.d (eL l), .d (.int k)] M Q E := by
  unfold sp_ends_of; rw [pS2]; exact ⟨l, k, rfl, h0, hk, h⟩
theorem cl_point_at (l : Ln) (q : Rat) (ol : LnOk l) (pl : Pl l q) (hq : Qz 400 q) (h : Q (.d (ePr (pt l q))) M) : sp_point_at c [.d (eL l), .d (eQ q)] M Q E := by
  unfold sp_point_at; rw [pS2]; exact ⟨l, q, rfl, ol, pl, hq, h⟩
theorem cl_square_between (p q : Rat × Rat) (hp : Qz 900 p.1 ∧ Qz 900 p.2) (hq : Qz 900 q.1 ∧ Qz 900 q.2) (h : Q (.d (eQ (sqB p q))) M) : sp_square_between c [.d (ePr p), .d (ePr q)] M Q E := by
  unfold sp_square_between; rw [pS2]; exact ⟨p, q, rfl, hp, hq, h⟩
theorem cl_square_of (one : Ln) (x : Rat) (other : Ln) (y : Rat) (h1 : LnOk one ∧ Pl one x ∧ Qz 400 x) (h2 : LnOk other ∧ Pl other y ∧ Qz 400 y) (h : Q (.d (eQ (sqOf one x other y))) M) : sp_square_of c [.d (eL one), .d (eQ x), .d (eL other), .d (eQ y)] M Q E := by
  unfold sp_square_of; rw [pS4]; exact ⟨one, x, other, y, rfl, h1, h2, h⟩
end
def N_ends_of : List Str := ["line", "number"]
def t_ends_of (c : Cs) : WS :=
  (wRet (wTup (wCons (wOp rIxW (wV 0) (wV 1)) (wCons (wOp rIxW (wV 0) (wCB rMin2 (wCons (wOp rAdd (wV 1) (wC (.int 1))) (wCons (wCall (sp_last_of c) [] (wCons (wV 0) wNil)) wNil)))) wNil))))

def N_point_at : List Str := ["line", "place", "number", "begin", "end", "part", "x"]
def t_point_at (c : Cs) : WS :=
  (wSeq (wDrop (wCall (sp_look_at_place c) [] (wCons (wV 0) (wCons (wV 1) wNil))))
  (wSeq (wSet 2 (wCall (sp_floor_of c) [] (wCons (wV 1) wNil)))
  (wSeq (wAsg (wCall (sp_ends_of c) [] (wCons (wV 0) (wCons (wV 2) wNil))) (wgTup 2 (wgCons (wgName 3) (wgCons (wgName 4) wgNil))))
  (wSeq (wSet 5 (wCall (sp_minus c) [] (wCons (wV 1) (wCons (wTup (wCons (wV 2) (wCons (wC (.int 1)) wNil))) wNil))))
  (wSeq (wSet 6 (wCall (sp_plus c) [] (wCons (wTup (wCons (wOp rIxW (wV 3) (wC (.int 0))) (wCons (wC (.int 1)) wNil))) (wCons (wCall (sp_times c) [] (wCons (wV 5) (wCons (wTup (wCons (wOp rSub (wOp rIxW (wV 4) (wC (.int 0))) (wOp rIxW (wV 3) (wC (.int 0)))) (wCons (wC (.int 1)) wNil))) wNil))) wNil))))
  (wRet (wTup (wCons (wV 6) (wCons (wCall (sp_plus c) [] (wCons (wTup (wCons (wOp rIxW (wV 3) (wC (.int 1))) (wCons (wC (.int 1)) wNil))) (wCons (wCall (sp_times c) [] (wCons (wV 5) (wCons (wTup (wCons (wOp rSub (wOp rIxW (wV 4) (wC (.int 1))) (wOp rIxW (wV 3) (wC (.int 1)))) (wCons (wC (.int 1)) wNil))) wNil))) wNil))) wNil)))))))))

def N_square_between : List Str := ["point", "other", "x", "y"]
def t_square_between (c : Cs) : WS :=
  (wSeq (wSet 2 (wCall (sp_minus c) [] (wCons (wOp rIxW (wV 0) (wC (.int 0))) (wCons (wOp rIxW (wV 1) (wC (.int 0))) wNil))))
  (wSeq (wSet 3 (wCall (sp_minus c) [] (wCons (wOp rIxW (wV 0) (wC (.int 1))) (wCons (wOp rIxW (wV 1) (wC (.int 1))) wNil))))
  (wRet (wCall (sp_plus c) [] (wCons (wCall (sp_times c) [] (wCons (wV 2) (wCons (wV 2) wNil))) (wCons (wCall (sp_times c) [] (wCons (wV 3) (wCons (wV 3) wNil))) wNil))))))

def N_square_of : List Str := ["one", "x", "other", "y"]
def t_square_of (c : Cs) : WS :=
  (wRet (wCall (sp_square_between c) [] (wCons (wCall (sp_point_at c) [] (wCons (wV 0) (wCons (wV 1) wNil))) (wCons (wCall (sp_point_at c) [] (wCons (wV 2) (wCons (wV 3) wNil))) wNil))))

theorem pu_ends_of (c : Cs) : ∀ ws M Q E, sp_ends_of c ws M Q E → t_ends_of c (endsOf Q E) (startW N_ends_of ws) M := by
  intro ws M Q E h; unfold sp_ends_of at h; replace h := pS_out h
  obtain ⟨ds, rfl, hl, l, k, rfl, h0, hk, h⟩ := h
  simp only [t_ends_of, N_ends_of, sp_last_of, eL]
  walk_at "wp"
  rw [eL_ix (k := k.toNat) (by omega) hk]
  walk_at "wp"
  refine ⟨_, rfl, ?_⟩
  walk_at "wp"
  rw [eL_ix (k := min (k.toNat + 1) (l.length - 1)) (by rw [List.length_map]; split <;> omega) (by omega)]
  walk_at "wp"
  exact ⟨by decide, okD h⟩
theorem pt_size {l : Ln} {q : Rat} (ol : LnOk l) (pl : Pl l q) (hq : Qz 400 q) : Qz 890 (pt l q).1 ∧ Qz 890 (pt l q).2 := by
  have f := pl.floor ol.ne
  have fz : Sz 401 q.floor := by
    have h1 : (q.floor : Rat) ≤ q := Rat.floor_le q
    have : q.floor.natAbs ≤ q.num.natAbs := by
      have h2 := (Rat.le_iff _ _).mp h1
      have d1 : ((q.floor : Int) : Rat).den = 1 := rfl
      have n1 : ((q.floor : Int) : Rat).num = q.floor := rfl
      rw [d1, n1] at h2
      have h3 := den_pos q
      have h4 : q.floor * 1 ≤ q.floor * q.den := Int.mul_le_mul_of_nonneg_left (by omega) f.1
      simp at h2 h4
      omega
    exact (hq.n.mono (by omega)).le this
  have p1 := hq.sub (Qz.int fz (by omega))
  have a := ol.cr q.floor.toNat
  have b := ol.cr (min (q.floor.toNat + 1) (l.length - 1))
  exact ⟨((Qz.int a.1 (by omega)).add (p1.mul (Qz.int (b.1.sub a.1) (by omega)))).mono (by omega), ((Qz.int a.2 (by omega)).add (p1.mul (Qz.int (b.2.sub a.2) (by omega)))).mono (by omega)⟩
theorem floor_size {q : Rat} {k : Nat} (h : Qz k q) (h0 : 0 ≤ q.floor) : Sz k q.floor := by
  have h1 : (q.floor : Rat) ≤ q := Rat.floor_le q
  have : q.floor.natAbs ≤ q.num.natAbs := by
    have h2 := (Rat.le_iff _ _).mp h1
    have d1 : ((q.floor : Int) : Rat).den = 1 := rfl
    have n1 : ((q.floor : Int) : Rat).num = q.floor := rfl
    rw [d1, n1] at h2
    have h3 := den_pos q
    have h4 : q.floor * 1 ≤ q.floor * q.den := Int.mul_le_mul_of_nonneg_left (by omega) h0
    simp at h2 h4
    omega
  exact h.n.le this
theorem pu_point_at (c : Cs) : ∀ ws M Q E, sp_point_at c ws M Q E → t_point_at c (endsOf Q E) (startW N_point_at ws) M := by
  intro ws M Q E h; unfold sp_point_at at h; replace h := pS_out h
  obtain ⟨ds, rfl, hl, l, q, rfl, ol, pl, hq, h⟩ := h
  have f := pl.floor ol.ne
  have fz := floor_size hq f.1
  have a := ol.cr q.floor.toNat
  have b := ol.cr (min (q.floor.toNat + 1) (l.length - 1))
  have p1 := hq.sub (Qz.int fz (by omega))
  have b1 := Qz.int (b.1.sub a.1) (by omega)
  have b2 := Qz.int (b.2.sub a.2) (by omega)
  walk_at "wh"
  refine cl_look_at_place l q ol pl ?_
  walk_at "wh"
  refine cl_floor_of q (hq.mono (by omega)) ?_
  walk_at "wh"
  refine cl_ends_of l q.floor f.1 f.2 ?_
  walk_at "wh"
  refine ⟨rfl, ?_⟩
  walk_at "wh"
  refine ⟨sl2, ?_⟩
  walk_at "wh"
  refine cl_minus q (q.floor : Rat) (hq.mono (by omega)) ((Qz.int fz (by omega)).mono (by omega)) ?_
  walk_at "wh"
  refine ⟨sl2, ?_⟩
  walk_at "wh"
  refine ⟨sl2, ?_⟩
  walk_at "wh"
  refine cl_times (q - (q.floor : Int)) (((nxt l q.floor.toNat).1 - (cr l q.floor.toNat).1 : Int) : Rat) (p1.mono (by omega)) (b1.mono (by omega)) ?_
  walk_at "wh"
  refine cl_plus ((cr l q.floor.toNat).1 : Rat) _ ((Qz.int a.1 (by omega)).mono (by omega)) ((p1.mul b1).mono (by omega)) ?_
  walk_at "wh"
  refine ⟨sl2, ?_⟩
  walk_at "wh"
  refine ⟨sl2, ?_⟩
  walk_at "wh"
  refine cl_times (q - (q.floor : Int)) (((nxt l q.floor.toNat).2 - (cr l q.floor.toNat).2 : Int) : Rat) (p1.mono (by omega)) (b2.mono (by omega)) ?_
  walk_at "wh"
  refine cl_plus ((cr l q.floor.toNat).2 : Rat) _ ((Qz.int a.2 (by omega)).mono (by omega)) ((p1.mul b2).mono (by omega)) ?_
  walk_at "wh"
  exact ⟨sl2, okD h⟩
theorem pu_square_between (c : Cs) : ∀ ws M Q E, sp_square_between c ws M Q E → t_square_between c (endsOf Q E) (startW N_square_between ws) M := by
  intro ws M Q E h; unfold sp_square_between at h; replace h := pS_out h
  obtain ⟨ds, rfl, hl, p, q, rfl, hp, hq, h⟩ := h
  have d1 := hp.1.sub hq.1
  have d2 := hp.2.sub hq.2
  walk_at "wh"
  refine cl_minus p.1 q.1 (hp.1.mono (by omega)) (hq.1.mono (by omega)) ?_
  walk_at "wh"
  refine cl_minus p.2 q.2 (hp.2.mono (by omega)) (hq.2.mono (by omega)) ?_
  walk_at "wh"
  refine cl_times _ _ (d1.mono (by omega)) (d1.mono (by omega)) ?_
  walk_at "wh"
  refine cl_times _ _ (d2.mono (by omega)) (d2.mono (by omega)) ?_
  walk_at "wh"
  exact cl_plus _ _ ((d1.mul d1).mono (by omega)) ((d2.mul d2).mono (by omega)) (okD h)
theorem pu_square_of (c : Cs) : ∀ ws M Q E, sp_square_of c ws M Q E → t_square_of c (endsOf Q E) (startW N_square_of ws) M := by
  intro ws M Q E h; unfold sp_square_of at h; replace h := pS_out h
  obtain ⟨ds, rfl, hl, one, x, other, y, rfl, ⟨o1, p1, q1⟩, ⟨o2, p2, q2⟩, h⟩ := h
  have s1 := pt_size o1 p1 q1
  have s2 := pt_size o2 p2 q2
  walk_at "wh"
  refine cl_point_at one x o1 p1 q1 ?_
  walk_at "wh"
  refine cl_point_at other y o2 p2 q2 ?_
  walk_at "wh"
  exact cl_square_between _ _ ⟨s1.1.mono (by omega), s1.2.mono (by omega)⟩ ⟨s2.1.mono (by omega), s2.2.mono (by omega)⟩ (okD h)
/-! ### corners as places -/
theorem Pl.corner {l : Ln} {i : Nat} (h : i < l.length) : Pl l ((i : Nat) : Rat) := by
  refine ⟨?_, ?_⟩
  · exact_mod_cast Nat.zero_le i
  · exact_mod_cast (by omega : i ≤ l.length - 1)
theorem floor_nat (i : Nat) : ((i : Nat) : Rat).floor = i := by
  have : ((i : Nat) : Rat) = (((i : Nat) : Int) : Rat) := rfl
  rw [this, Rat.floor_intCast]
theorem pt_corner (l : Ln) (i : Nat) : pt l ((i : Nat) : Rat) = (((cr l i).1 : Rat), ((cr l i).2 : Rat)) := by
  unfold pt
  simp only [floor_nat]
  have e : ((i : Nat) : Rat) - (((i : Nat) : Int) : Rat) = 0 := by
    have : ((i : Nat) : Rat) = (((i : Nat) : Int) : Rat) := rfl
    rw [this]; grind
  rw [e]
  simp [Rat.zero_mul, Rat.add_zero]
/-- the square of two corners -/
def sqC (p q : Cor) : Int := (p.1 - q.1) * (p.1 - q.1) + (p.2 - q.2) * (p.2 - q.2)
theorem sqOf_corner (one other : Ln) (i j : Nat) : sqOf one (i : Nat) other (j : Nat) = ((sqC (cr one i) (cr other j) : Int) : Rat) := by
  unfold sqOf sqB sqC
  rw [pt_corner, pt_corner]
  simp only [Rat.intCast_add, Rat.intCast_mul, Rat.intCast_sub]
theorem sqC_size {one other : Ln} (h1 : LnOk one) (h2 : LnOk other) (i j : Nat) : Sz 90 (sqC (cr one i) (cr other j)) := by
  have a := h1.cr i
  have b := h2.cr j
  exact (((a.1.sub b.1).mul (a.1.sub b.1)).add ((a.2.sub b.2).mul (a.2.sub b.2))).mono (by decide)
theorem imul_self (x : Int) : 0 ≤ x * x := by
  rcases Int.le_total 0 x with h | h
  · exact Int.mul_nonneg h h
  · exact Int.mul_nonneg_of_nonpos_of_nonpos h h
theorem sqC_nonneg (p q : Cor) : 0 ≤ sqC p q := by
  unfold sqC
  have h1 := imul_self (p.1 - q.1)
  have h2 := imul_self (p.2 - q.2)
  omega
end Lw

namespace Lw
open PySem PySem.Spec L2
local macro_rules | `(tactic| walk_at "wp") => `(tactic| try simp only [wSeq, wIf, wRet, wSet, wTest, wOp, wUn, wV, wC, wCall, wCons, wNil, wCB, wTup, wLst, wOrT, wAndT, wNotT, wAndV, wOrV, wNotV, wIfE, wChain, wRaise, wNext, wPar, wDrop, wAsg, wgName, wgTup, wgCons, wgNil, tupOf, wAug, rAddI, rAbs, rMax2, rMin2, rMod, rLt, rGt, rLe, rGe, rCmp, rSub, rAdd, rMul, rDiv, rNeg, rPow, rEq, rNe, rLen, rIxW, rIsN, rNotN, isNonW, wFld, insOf, wMeth, wIsi, rIsi, tyName, startW, List.map, List.length, List.cons_append, List.nil_append, List.append_nil, List.replicate, List.getElem?_cons_zero, List.getElem?_cons_succ, List.set_cons_zero, List.set_cons_succ, bch_true, bch_false, bch_not, bch_dec, allD, Option.map, endsOf, pS1, pS2, pS3, pS4, pS5, atI_zero, atI_one, atI_two, Bool.not_true, Bool.not_false, Nat.reduceAdd, Nat.reduceSub])
local macro_rules | `(tactic| walk_at "wh") => `(tactic| conv => whnf)
local macro_rules | `(tactic| walk_at "wx") => `(tactic| (conv => whnf); repeat (first | (rw [Mh.set_same]; conv => whnf) | ((refine And.intro ?_ ?_; focus (first | ((with_reducible show (_ : Nat) ≤ _); first | exact sl2 | exact sl1 | exact sl3 | exact sl0 | exact sl4 | decide) | ((with_reducible show (_ : Nat) = _); rfl) | ((with_reducible show (_ : Bool) = _); first | rfl | decide +kernel) | ((with_reducible show (_ : Int) < _); first | omega | (simp only [List.length_map]; omega)) | ((with_reducible show (_ : Int) ≤ _); first | omega | (simp only [List.length_map]; omega)) | ((with_reducible show MulOk _ _); first | exact MulOk.nat_l rfl | exact MulOk.nat_r rfl) | ((with_reducible show DivOk _); exact (DivOk.lit rfl rfl)) | ((with_reducible show (_ ∧ _ ∧ Sz _ _)); exact PowOk.lit rfl rfl rfl))); conv => whnf)))
local macro_rules | `(tactic| walk_at "sz") => `(tactic| exact szs (by omega) (by decide))

/-! # loops, by the state they come to -/
/-- a for whose turns go from state to state: the state it comes to, whatever follows -/
theorem for_fold {Γ S : Type} {g : WTg} {tb : WS} (xs : List Wv) (I : Nat → S → Prop) (ρ : Γ → S → Rho) (μ : Γ → S → Mh)
    (hs : ∀ i x s, xs[i]? = some x → I i s → ∃ s', I (i + 1) s' ∧ ∀ (D : WEnds) (γ : Γ) (K : Rho → Mh → Prop), K (ρ γ s') (μ γ s') → g x (ρ γ s) (μ γ s) (fun ρ' M' => tb { D with nx := K, ct := K, bk := D.nx } ρ' M'))
    (s0 : S) (h0 : I 0 s0) : ∃ s', I xs.length s' ∧ ∀ (D : WEnds) (γ : Γ), D.nx (ρ γ s') (μ γ s') → forGo g tb D xs (ρ γ s0) (μ γ s0) := by
  have key : ∀ (ys : List Wv) (k : Nat) (s : S), xs.drop k = ys → k ≤ xs.length → I k s → ∃ s', I xs.length s' ∧ ∀ (D : WEnds) (γ : Γ), D.nx (ρ γ s') (μ γ s') → forGo g tb D ys (ρ γ s) (μ γ s) := by
    intro ys
    induction ys with
    | nil =>
      intro k s e hk hi
      have : k = xs.length := by have := congrArg List.length e; simp at this; omega
      subst this
      exact ⟨s, hi, fun D γ h => h⟩
    | cons y ys ih =>
      intro k s e hk hi
      have hlt : k < xs.length := by have := congrArg List.length e; simp at this; omega
      have hy : xs[k]? = some y := by
        rw [List.drop_eq_getElem_cons hlt] at e
        rw [List.getElem?_eq_getElem hlt, (List.cons.inj e).1]
      have e2 : xs.drop (k + 1) = ys := by
        rw [List.drop_eq_getElem_cons hlt] at e
        exact (List.cons.inj e).2
      obtain ⟨s1, i1, h1⟩ := hs k y s hy hi
      obtain ⟨s2, i2, h2⟩ := ih (k + 1) s1 e2 hlt i1
      exact ⟨s2, i2, fun D γ h => h1 D γ _ (h2 D γ h)⟩
  exact key xs 0 s0 rfl (Nat.zero_le _) h0
/-- a while's turn -/
def WStep (wc : WT) (tb : WS) (D : WEnds) (K : Rho → Mh → Prop) (ρ : Rho) (M : Mh) : Prop := wc ρ M (fun b M1 => bch b (tb { D with nx := K, ct := K, bk := D.nx } ρ M1) (D.nx ρ M1)) (fun C M1 => D.ex C ρ M1)
/-- a while whose turns go from state to state, or end -/
theorem while_run {Γ S R : Type} {wc : WT} {tb : WS} (I : S → Prop) (m : S → Nat) (ρ : Γ → S → Rho) (μ : Γ → S → Mh) (Ret : R → Prop) (fin : R → Γ → WEnds → Prop)
    (hs : ∀ s, I s → (∃ s', I s' ∧ m s' < m s ∧ ∀ D γ K, K (ρ γ s') (μ γ s') → WStep wc tb D K (ρ γ s) (μ γ s)) ∨ (∃ r, Ret r ∧ ∀ D γ K, fin r γ D → WStep wc tb D K (ρ γ s) (μ γ s)))
    (s0 : S) (h0 : I s0) : ∃ r, Ret r ∧ ∀ D γ, fin r γ D → wWhile wc tb D (ρ γ s0) (μ γ s0) := by
  have key : ∀ (k : Nat) (s : S), m s < k → I s → ∃ r n, Ret r ∧ ∀ D γ, fin r γ D → whileN wc tb D n (ρ γ s) (μ γ s) := by
    intro k
    induction k with
    | zero => intro s h; exact absurd h (Nat.not_lt_zero _)
    | succ k ih =>
      intro s hk hi
      rcases hs s hi with ⟨s', i', l, st⟩ | ⟨r, hr, st⟩
      · obtain ⟨r, n, hr, go⟩ := ih s' (by omega) i'
        exact ⟨r, n + 1, hr, fun D γ h => st D γ _ (go D γ h)⟩
      · exact ⟨r, 1, hr, fun D γ h => st D γ _ h⟩
  obtain ⟨r, n, hr, go⟩ := key (m s0 + 1) s0 (Nat.lt_succ_self _) h0
  exact ⟨r, hr, fun D γ h => .inr ⟨n, go D γ h⟩⟩
/-- a for whose turns go from state to state, or end -/
theorem for_run {Γ S R : Type} {g : WTg} {tb : WS} (xs : List Wv) (I : Nat → S → Prop) (ρ : Γ → S → Rho) (μ : Γ → S → Mh) (Ret : R → Prop) (fin : R → Γ → WEnds → Prop)
    (hs : ∀ i x s, xs[i]? = some x → I i s → (∃ s', I (i + 1) s' ∧ ∀ (D : WEnds) (γ : Γ) (K : Rho → Mh → Prop), K (ρ γ s') (μ γ s') → g x (ρ γ s) (μ γ s) (fun ρ' M' => tb { D with nx := K, ct := K, bk := D.nx } ρ' M')) ∨
      (∃ r, Ret r ∧ ∀ (D : WEnds) (γ : Γ) (K : Rho → Mh → Prop), fin r γ D → g x (ρ γ s) (μ γ s) (fun ρ' M' => tb { D with nx := K, ct := K, bk := D.nx } ρ' M')))
    (s0 : S) (h0 : I 0 s0) : (∃ s', I xs.length s' ∧ ∀ (D : WEnds) (γ : Γ), D.nx (ρ γ s') (μ γ s') → forGo g tb D xs (ρ γ s0) (μ γ s0)) ∨ (∃ r, Ret r ∧ ∀ (D : WEnds) (γ : Γ), fin r γ D → forGo g tb D xs (ρ γ s0) (μ γ s0)) := by
  have key : ∀ (ys : List Wv) (k : Nat) (s : S), xs.drop k = ys → k ≤ xs.length → I k s → (∃ s', I xs.length s' ∧ ∀ (D : WEnds) (γ : Γ), D.nx (ρ γ s') (μ γ s') → forGo g tb D ys (ρ γ s) (μ γ s)) ∨ (∃ r, Ret r ∧ ∀ (D : WEnds) (γ : Γ), fin r γ D → forGo g tb D ys (ρ γ s) (μ γ s)) := by
    intro ys
    induction ys with
    | nil =>
      intro k s e hk hi
      have : k = xs.length := by have := congrArg List.length e; simp at this; omega
      subst this
      exact .inl ⟨s, hi, fun D γ h => h⟩
    | cons y ys ih =>
      intro k s e hk hi
      have hlt : k < xs.length := by have := congrArg List.length e; simp at this; omega
      have hy : xs[k]? = some y := by
        rw [List.drop_eq_getElem_cons hlt] at e
        rw [List.getElem?_eq_getElem hlt, (List.cons.inj e).1]
      have e2 : xs.drop (k + 1) = ys := by
        rw [List.drop_eq_getElem_cons hlt] at e
        exact (List.cons.inj e).2
      rcases hs k y s hy hi with ⟨s1, i1, h1⟩ | ⟨r, hr, h1⟩
      · rcases ih (k + 1) s1 e2 hlt i1 with ⟨s2, i2, h2⟩ | ⟨r, hr, h2⟩
        · exact .inl ⟨s2, i2, fun D γ h => h1 D γ _ (h2 D γ h)⟩
        · exact .inr ⟨r, hr, fun D γ h => h1 D γ _ (h2 D γ h)⟩
      · exact .inr ⟨r, hr, fun D γ h => h1 D γ _ h⟩
  exact key xs 0 s0 rfl (Nat.zero_le _) h0
/-- a comprehension over plain data -/
theorem lc_map {α : Type} {D : Addr} {g : WTg} {tt : WT} {te : WE} {vs : List Nat} {ρ : Rho} (φ : α → Wv) (b : α → Bool) (f : α → Dt) (M : Mh) (Q : Mh → Prop) :
    ∀ (ys : List α) (acc : List Wv), (∀ y ∈ ys, ∀ (ac : List Wv) (T : Wv → Mh → Prop) (Fq : Mh → Prop), (b y = true → T (.d (f y)) (M.set D (.lst ac))) → (b y = false → Fq (M.set D (.lst ac))) →
      g (φ y) (wipeW ρ vs) (M.set D (.lst ac)) (fun ρ2 M2 => tt ρ2 M2 (fun b' M3 => bch b' (te ρ2 M3 T EF) (Fq M3)) EF)) → acc.length + ys.length ≤ sizeLine →
    Q (M.set D (.lst (acc ++ (ys.filter b).map fun y => .d (f y)))) → lcGo D g tt te vs ρ Q (ys.map φ) (M.set D (.lst acc)) := by
  intro ys
  induction ys with
  | nil => intro acc _ _ h; simpa [lcGo] using h
  | cons y ys ih =>
    intro acc hs hl h
    simp only [List.length_cons] at hl
    refine hs y (List.mem_cons_self ..) _ _ _ (fun hb => ?_) (fun hb => ?_)
    · rw [Mh.set_same]
      refine ⟨by omega, ?_⟩
      rw [Mh.set_set]
      refine ih _ (fun z hz => hs z (List.mem_cons_of_mem _ hz)) (by simp; omega) ?_
      rw [List.filter_cons_of_pos hb, List.map_cons] at h
      simpa using h
    · refine ih acc (fun z hz => hs z (List.mem_cons_of_mem _ hz)) (by omega) ?_
      rw [List.filter_cons_of_neg (by simp [hb])] at h
      exact h
theorem frz_lst {M : Mh} {p : Addr} {ds : List Dt} {Q : Wv → Mh → Prop} (h : M p = none) (k : Q (.d (.lst ds)) M) : frz1 (.c p) (M.set p (.lst (ds.map .d))) Q := by
  unfold frz1 frzC
  simp only [Mh.set_same, allD_map]
  rw [Mh.del_set h]; exact k
theorem tyW_lst {M : Mh} {p : Addr} {ws : List Wv} (h : M p = some (.lst ws)) : tyW "list" (.c p) M := by simp only [tyW, h]
theorem ap_ok {M : Mh} {p : Addr} {xs : List Wv} {y : Wv} {Q : Wv → Mh → Prop} (h : M p = some (.lst xs)) (hl : xs.length < sizeLine) (k : Q (.d .non) (M.set p (.lst (xs ++ [y])))) : mAppend (.c p) [y] M Q := by
  unfold mAppend; simp only [h]; exact ⟨hl, k⟩
/-- the append of a list that has just been set -/
theorem ap_set {M : Mh} {p : Addr} {xs : List Wv} {y : Wv} {Q : Wv → Mh → Prop} (hl : xs.length < sizeLine) (k : Q (.d .non) (M.set p (.lst (xs ++ [y])))) : mAppend (.c p) [y] (M.set p (.lst xs)) Q :=
  ap_ok Mh.set_same hl (by rw [Mh.set_set]; exact k)
/-- an item of an enumeration -/
theorem enumD_at {ds : List Dt} {i : Nat} {x : Wv} (h : (enumD ds)[i]? = some x) : i < ds.length ∧ x = .d (.tup [.int (i : Nat), ds.getD i .non]) := by
  have hl : i < ds.length := by
    have := (List.getElem?_eq_some_iff.mp h).1
    simpa [enumD] using this
  refine ⟨hl, ?_⟩
  unfold enumD at h
  rw [List.getElem?_map, List.getElem?_range hl] at h
  exact (Option.some.inj h).symm
theorem enumD_len (ds : List Dt) : (enumD ds).length = ds.length := by simp [enumD]
theorem rngW_at {lo k : Int} {n i : Nat} {x : Wv} (h : (rngW lo k n)[i]? = some x) : i < n ∧ x = .d (.int (lo + (i : Nat) * k)) := by
  have hl : i < n := by
    have := (List.getElem?_eq_some_iff.mp h).1
    simpa [rngW] using this
  refine ⟨hl, ?_⟩
  unfold rngW at h
  rw [List.getElem?_map, List.getElem?_range hl] at h
  exact (Option.some.inj h).symm
theorem sl_of {n : Nat} (h : n ≤ 1000000) : n < sizeLine := by unfold sizeLine; omega
theorem sle_of {n : Nat} (h : n ≤ 1000000) : n ≤ sizeLine := by unfold sizeLine; omega
/-- a for over a list that lives and stays -/
theorem forC_fold {Γ S : Type} {g : WTg} {tb : WS} (xs : List Wv) (I : Nat → S → Prop) (ρ : Γ → S → Rho) (μ : Γ → S → Mh) (pp : Γ → Addr) (hp : ∀ γ s, μ γ s (pp γ) = some (.lst xs))
    (hs : ∀ i x s, xs[i]? = some x → I i s → ∃ s', I (i + 1) s' ∧ ∀ (D : WEnds) (γ : Γ) (K : Rho → Mh → Prop), K (ρ γ s') (μ γ s') → g x (ρ γ s) (μ γ s) (fun ρ' M' => tb { D with nx := K, ct := K, bk := D.nx } ρ' M'))
    (s0 : S) (h0 : I 0 s0) : ∃ s', I xs.length s' ∧ ∀ (D : WEnds) (γ : Γ), D.nx (ρ γ s') (μ γ s') → forC g tb (.c (pp γ)) D (ρ γ s0) (μ γ s0) := by
  have key : ∀ (n k : Nat) (s : S), n + k = xs.length → I k s → ∃ s', I xs.length s' ∧ ∀ (D : WEnds) (γ : Γ), D.nx (ρ γ s') (μ γ s') → forGoC g tb D (pp γ) (n + 1) k (ρ γ s) (μ γ s) := by
    intro n
    induction n with
    | zero =>
      intro k s e hi
      have : k = xs.length := by omega
      subst this
      refine ⟨s, hi, fun D γ h => ?_⟩
      unfold forGoC
      simp only [hp, List.getElem?_eq_none (Nat.le_refl _)]
      exact h
    | succ n ih =>
      intro k s e hi
      have hlt : k < xs.length := by omega
      obtain ⟨s1, i1, h1⟩ := hs k _ s (List.getElem?_eq_getElem hlt) hi
      obtain ⟨s2, i2, h2⟩ := ih (k + 1) s1 (by omega) i1
      refine ⟨s2, i2, fun D γ h => ?_⟩
      unfold forGoC
      simp only [hp, List.getElem?_eq_getElem hlt]
      exact h1 D γ _ (h2 D γ h)
  obtain ⟨s', i', go⟩ := key xs.length 0 s0 (by omega) h0
  exact ⟨s', i', fun D γ h => ⟨_, go D γ h⟩⟩
/-- a for, by an invariant -/
theorem for_inv {g : WTg} {tb : WS} {D : WEnds} {xs : List Wv} (J : Nat → Rho → Mh → Prop) {ρ : Rho} {M : Mh} (h0 : J 0 ρ M)
    (hs : ∀ (i : Nat) (x : Wv) (ρ : Rho) (M : Mh) (K : Rho → Mh → Prop), xs[i]? = some x → J i ρ M → (∀ ρ' M', J (i + 1) ρ' M' → K ρ' M') → g x ρ M (fun ρ' M' => tb { D with nx := K, ct := K, bk := D.nx } ρ' M'))
    (hn : ∀ ρ M, J xs.length ρ M → D.nx ρ M) : forGo g tb D xs ρ M := by
  have key : ∀ (ys : List Wv) (k : Nat) (ρ : Rho) (M : Mh), xs.drop k = ys → k ≤ xs.length → J k ρ M → forGo g tb D ys ρ M := by
    intro ys
    induction ys with
    | nil =>
      intro k ρ M e hk h
      have : k = xs.length := by have := congrArg List.length e; simp at this; omega
      subst this
      exact hn _ _ h
    | cons y ys ih =>
      intro k ρ M e hk h
      have hlt : k < xs.length := by have := congrArg List.length e; simp at this; omega
      rw [List.drop_eq_getElem_cons hlt] at e
      have e1 := (List.cons.inj e).1
      have e2 := (List.cons.inj e).2
      exact hs k y ρ M _ (by rw [List.getElem?_eq_getElem hlt, e1]) h (fun ρ M hj => ih (k + 1) ρ M e2 hlt hj)
  exact key xs 0 ρ M rfl (Nat.zero_le _) h0
/-- a comprehension, by an invariant -/
theorem lc_inv {D : Addr} {g : WTg} {tt : WT} {te : WE} {vs : List Nat} {ρ : Rho} {Q : Mh → Prop} {xs : List Wv} (J : Nat → Mh → Prop) {M : Mh} (h0 : J 0 M)
    (hs : ∀ (i : Nat) (x : Wv) (M : Mh) (K : Mh → Prop), xs[i]? = some x → J i M → (∀ M', J (i + 1) M' → K M') → g x (wipeW ρ vs) M (fun ρ2 M2 => tt ρ2 M2 (fun b M3 => bch b (te ρ2 M3 (fun y M4 => match M4 D with
      | some (.lst acc) => acc.length < sizeLine ∧ K (M4.set D (.lst (acc ++ [y])))
      | _ => False) EF) (K M3)) EF))
    (hn : ∀ M, J xs.length M → Q M) : lcGo D g tt te vs ρ Q xs M := by
  have key : ∀ (ys : List Wv) (k : Nat) (M : Mh), xs.drop k = ys → k ≤ xs.length → J k M → lcGo D g tt te vs ρ Q ys M := by
    intro ys
    induction ys with
    | nil =>
      intro k M e hk h
      have : k = xs.length := by have := congrArg List.length e; simp at this; omega
      subst this
      exact hn _ h
    | cons y ys ih =>
      intro k M e hk h
      have hlt : k < xs.length := by have := congrArg List.length e; simp at this; omega
      rw [List.drop_eq_getElem_cons hlt] at e
      have e1 := (List.cons.inj e).1
      have e2 := (List.cons.inj e).2
      exact hs k y M _ (by rw [List.getElem?_eq_getElem hlt, e1]) h (fun M hj => ih (k + 1) M e2 hlt hj)
  exact key xs 0 M rfl (Nat.zero_le _) h0
theorem put_ok {M : Mh} {p : Addr} {ws : List Wv} {v : Wv} {k : Int} {j : Nat} {D : WEnds} {ρ : Rho} (h : M p = some (.lst ws)) (hj : ixN ws.length k = some j) (q : D.nx ρ (M.set p (.lst (ws.set j v)))) : wPut3 v (.c p) (.d (.int k)) D ρ M := by
  simp only [wPut3, h, hj]; exact q
theorem ixN_nat {n j : Nat} {k : Int} (e : k = j) (h : j < n) : ixN n k = some j := by
  subst e
  have : (j : Int) < n := by omega
  simp [ixN, this]
theorem bch_t {p : Prop} [Decidable p] {A B : Prop} (h : p) (a : A) : bch (decide p) A B := by rw [decide_eq_true h]; exact a
theorem bch_f {p : Prop} [Decidable p] {A B : Prop} (h : ¬ p) (b : B) : bch (decide p) A B := by rw [decide_eq_false h]; exact b
theorem bch_tt {k : Bool} {A B : Prop} (h : k = true) (a : A) : bch k A B := by rw [h]; exact a
theorem bch_ff {k : Bool} {A B : Prop} (h : k = false) (b : B) : bch k A B := by rw [h]; exact b
theorem bch_nt {k : Bool} {A B : Prop} (h : k = true) (b : B) : bch (!k) A B := by rw [h]; exact b
theorem bch_nf {k : Bool} {A B : Prop} (h : k = false) (a : A) : bch (!k) A B := by rw [h]; exact a
end Lw

namespace Lw
open PySem PySem.Spec L2
local macro_rules | `(tactic| walk_at "wp") => `(tactic| try simp only [wSeq, wIf, wRet, wSet, wTest, wOp, wUn, wV, wC, wCall, wCons, wNil, wCB, wTup, wLst, wOrT, wAndT, wNotT, wAndV, wOrV, wNotV, wIfE, wChain, wRaise, wNext, wPar, wDrop, wAsg, wgName, wgTup, wgCons, wgNil, tupOf, wAug, rAddI, rAbs, rMax2, rMin2, rMod, rLt, rGt, rLe, rGe, rCmp, rSub, rAdd, rMul, rDiv, rNeg, rPow, rEq, rNe, rLen, rIxW, rIsN, rNotN, isNonW, wFld, insOf, wMeth, wIsi, rIsi, tyName, startW, List.map, List.length, List.cons_append, List.nil_append, List.append_nil, List.replicate, List.getElem?_cons_zero, List.getElem?_cons_succ, List.set_cons_zero, List.set_cons_succ, bch_true, bch_false, bch_not, bch_dec, allD, Option.map, endsOf, pS1, pS2, pS3, pS4, pS5, atI_zero, atI_one, atI_two, Bool.not_true, Bool.not_false, Nat.reduceAdd, Nat.reduceSub])
local macro_rules | `(tactic| walk_at "wh") => `(tactic| conv => whnf)
local macro_rules | `(tactic| walk_at "wx") => `(tactic| (conv => whnf); repeat (first | (rw [Mh.set_same]; conv => whnf) | ((refine And.intro ?_ ?_; focus (first | ((with_reducible show (_ : Nat) ≤ _); first | exact sl2 | exact sl1 | exact sl3 | exact sl0 | exact sl4 | decide) | ((with_reducible show (_ : Nat) = _); rfl) | ((with_reducible show (_ : Bool) = _); first | rfl | decide +kernel) | ((with_reducible show (_ : Int) < _); first | omega | (simp only [List.length_map]; omega)) | ((with_reducible show (_ : Int) ≤ _); first | omega | (simp only [List.length_map]; omega)) | ((with_reducible show MulOk _ _); first | exact MulOk.nat_l rfl | exact MulOk.nat_r rfl) | ((with_reducible show DivOk _); exact (DivOk.lit rfl rfl)) | ((with_reducible show (_ ∧ _ ∧ Sz _ _)); exact PowOk.lit rfl rfl rfl))); conv => whnf)))
local macro_rules | `(tactic| walk_at "sz") => `(tactic| exact szs (by omega) (by decide))

/-! # gates.look_at_square, hopping.py -/
theorem asQ_some {d : Dt} {q : Rat} (h : asQ d = some q) : d = eQ q := by
  unfold asQ at h
  split at h
  · rename_i n b
    split at h
    · rename_i hb
      cases h
      unfold eQ
      rw [Rat.num_divInt, Rat.den_divInt, if_neg (by omega), Int.sign_eq_one_of_pos hb.1]
      have : Int.gcd b n = 1 := by rw [Int.gcd_comm]; exact hb.2
      rw [this]
      simp
      omega
    · cases h
  · cases h
@[irreducible] def sp_look_at_square (c : Cs) : SpW := pS 1 fun ds Q E => ∃ d, ds = [d] ∧ val2 d = true ∧ (match asQ d with | some q => (q.num < 0 → E c.NoSquare) ∧ (¬ q.num < 0 → Q .non) | none => E c.NoSquare)
def N_look_at_square : List Str := ["square"]
def t_look_at_square (c : Cs) : WS :=
  (wIf (wOrT (wNotT (wTest (wCall (sp_is_ratio c) [] (wCons (wV 0) wNil)))) (wTest (wOp rLt (wOp rIxW (wV 0) (wC (.int 0))) (wC (.int 0)))))
  (wRaise c.NoSquare)
  wNext)

theorem pu_look_at_square (c : Cs) : ∀ ws M Q E, sp_look_at_square c ws M Q E → t_look_at_square c (endsOf Q E) (startW N_look_at_square ws) M := by
  intro ws M Q E h; unfold sp_look_at_square at h; replace h := pS_out h
  obtain ⟨ds, rfl, hl, d, rfl, hv, h⟩ := h
  walk_at "wh"
  refine cl_is_ratio d hv ?_
  cases e : asQ d with
  | none =>
    rw [e] at h
    exact okE h
  | some q =>
    rw [e] at h
    cases asQ_some e
    walk_at "wh"
    by_cases hq : q.num < 0
    · show bch (decide (q.num < 0)) _ _
      rw [show decide (q.num < 0) = true from decide_eq_true hq]
      exact okE (h.1 hq)
    · show bch (decide (q.num < 0)) _ _
      rw [show decide (q.num < 0) = false from decide_eq_false hq]
      exact okD (h.2 hq)
theorem cl_look_ok {c : Cs} {M : Mh} {Q : Wv → Mh → Prop} {E : EW} (q : Rat) (h0 : 0 ≤ q.num) (h : Q (.d .non) M) : sp_look_at_square c [.d (eQ q)] M Q E := by
  unfold sp_look_at_square; rw [pS1]; exact ⟨_, rfl, rfl, by rw [asQ_eQ]; exact ⟨fun z => absurd z (by omega), fun _ => h⟩⟩

/-! ### the table of squares -/
def tabD (n m : Nat) (T : Nat → Nat → Int) : List Dt := (List.range n).map fun i => .lst ((List.range m).map fun j => eQ ((T i j : Int) : Rat))
def sqT (one other : Ln) (i j : Nat) : Int := sqC (cr one i) (cr other j)
@[irreducible] def sp_squares_of (c : Cs) : SpW := pS 2 fun ds Q _ => ∃ one other, ds = [eL one, eL other] ∧ LnOk one ∧ LnOk other ∧ Q (.lst (tabD one.length other.length (sqT one other)))
def N_squares_of : List Str := ["one", "other", "table", "x", "y"]
def b1_squares_of (c : Cs) : WS :=
  (wDrop (wBM "list" mAppend (wV 2) (wCons (wFz (wLc (wiRng1 (wCons (wCB rLen (wCons (wV 1) wNil)) wNil)) (wgName 4) wYes (wCall (sp_square_of c) [] (wCons (wV 0) (wCons (wTup (wCons (wV 3) (wCons (wC (.int 1)) wNil))) (wCons (wV 1) (wCons (wTup (wCons (wV 4) (wCons (wC (.int 1)) wNil))) wNil))))) [4])) wNil)))
def t_squares_of (c : Cs) : WS :=
  (wSeq (wSet 2 (wLstC wNil))
  (wSeq (wFor (wiRng1 (wCons (wCB rLen (wCons (wV 0) wNil)) wNil)) (wgName 3) (b1_squares_of c))
  (wRet (wFz (wV 2)))))

theorem eQ_nat (i : Nat) : eQ ((i : Nat) : Rat) = .tup [.int (i : Int), .int 1] := rfl
theorem Qz.nat {i k : Nat} (h : i < 2 ^ k) (hk : 0 < k) : Qz k ((i : Nat) : Rat) := Qz.int (i := (i : Int)) (by show (i : Int).natAbs < 2 ^ k; simpa using h) hk
theorem Qz.corner {i : Nat} (h : i < 100) : Qz 400 ((i : Nat) : Rat) := Qz.mono (k := 7) (Qz.nat (by omega) (by decide)) (by decide)
theorem pu_squares_of (c : Cs) : ∀ ws M Q E, sp_squares_of c ws M Q E → t_squares_of c (endsOf Q E) (startW N_squares_of ws) M := by
  intro ws M Q E h; unfold sp_squares_of at h; replace h := pS_out h
  obtain ⟨ds, rfl, hl, one, other, rfl, o1, o2, h⟩ := h
  have l1 := o1.le
  have l2 := o2.le
  walk_at "wh"
  refine ⟨sl0, fun p hp => ?_⟩
  walk_at "wh"
  obtain ⟨s', hs', go⟩ := for_fold (Γ := Unit) (S := Nat × Option Wv) (g := wgName 3) (tb := b1_squares_of c) (rngW 0 1 ((one.map eC).length : Int).toNat)
    (fun i s => s.1 = i) (fun _ s => [some (.d (eL one)), some (.d (eL other)), some (.c p), s.2, none])
    (fun _ s => M.set p (.lst ((((List.range s.1).map fun i => Dt.lst ((List.range other.length).map fun j => eQ ((sqT one other i j : Int) : Rat)))).map .d)))
    (fun i x s hx hi => ⟨(i + 1, some (.d (.int (0 + (i : Int) * 1)))), rfl, fun D γ K k => by
      subst hi
      obtain ⟨hlt, rfl⟩ := rngW_at hx
      have hlt : s.1 < one.length := by simpa using hlt
      walk_at "wh"
      refine ⟨tyW_lst Mh.set_same, ?_⟩
      walk_at "wh"
      refine ⟨by simp <;> omega, by simp <;> omega, ?_⟩
      intro D2 hD
      have hpD : D2 ≠ p := by intro z; subst z; rw [Mh.set_same] at hD; cases hD
      have e0 : rngW 0 1 ((other.map eC).length : Int).toNat = (List.range other.length).map fun i => Wv.d (.int (0 + (i : Nat) * 1)) := by simp [rngW]
      rw [e0]
      have ei : (0 : Int) + (s.1 : Int) * 1 = s.1 := by omega
      refine lc_map _ (fun _ => true) (fun j => eQ ((sqT one other s.1 j : Int) : Rat)) _ _ (List.range other.length) [] (fun j hj M T Fq hT _ => ?_) (by simp; unfold sizeLine; omega) ?_
      · have hj : j < other.length := by simpa using hj
        walk_at "wh"
        refine ⟨sl2, ?_⟩
        walk_at "wh"
        refine ⟨sl2, ?_⟩
        walk_at "wh"
        have ej : (0 : Int) + (j : Int) * 1 = j := by omega
        rw [ei, ej]
        refine cl_square_of one (s.1 : Nat) other (j : Nat) ⟨o1, .corner hlt, .corner (by omega)⟩ ⟨o2, .corner hj, .corner (by omega)⟩ ?_
        rw [sqOf_corner]
        exact hT rfl
      · rw [List.nil_append, List.filter_eq_self.mpr (fun _ _ => rfl)]
        rw [show (List.range other.length).map (fun j => Wv.d (eQ ((sqT one other s.1 j : Int) : Rat))) = ((List.range other.length).map fun j => eQ ((sqT one other s.1 j : Int) : Rat)).map .d by rw [List.map_map]; rfl]
        refine frz_lst hD ?_
        walk_at "wh"
        refine ap_set ?_ ?_
        · exact sl_of (by simp <;> omega)
        rw [List.range_succ, List.map_append, List.map_append] at k
        exact k⟩)
    (0, none) rfl
  refine ⟨by simp <;> omega, by simp <;> omega, go _ () ?_⟩
  have e1 : s'.1 = one.length := by simpa [rngW] using hs'
  walk_at "wh"
  refine frz_lst hp ?_
  refine okD ?_
  rw [e1]
  exact h
/-! ### dicts of pairs -/
abbrev HD (β : Type) := List (Cor × β)
abbrev HA := HD (Option Cor)
def kI (k : Cor) : List Int := [k.1, k.2]
def eO : Option Cor → Dt
  | none => .non
  | some p => eC p
def encWG {β : Type} (en : β → Dt) (A : HD β) : List (List Int × Wv) := A.map fun e => (kI e.1, .d (en e.2))
def encAG {β : Type} (en : β → Dt) (A : HD β) : List (List Int × Dt) := A.map fun e => (kI e.1, en e.2)
abbrev encW (A : HA) := encWG eO A
abbrev encA (A : HA) := encAG eO A
def lk {β : Type} (A : HD β) (k : Cor) : Option β := (A.find? fun e => decide (e.1 = k)).map (·.2)
def put {β : Type} (A : HD β) (k : Cor) (v : β) : HD β := if (A.any fun e => decide (e.1 = k)) = true then A.map (fun e => if e.1 = k then (e.1, v) else e) else A ++ [(k, v)]
theorem kI_inj {a b : Cor} (h : kI a = kI b) : a = b := by
  obtain ⟨x, y⟩ := a; obtain ⟨z, w⟩ := b
  simp only [kI, List.cons.injEq] at h
  rw [h.1, h.2.1]
theorem kI_iff {a b : Cor} : kI a = kI b ↔ a = b := ⟨kI_inj, fun h => by rw [h]⟩
theorem lk_enc {β : Type} {en : β → Dt} (A : HD β) (k : Cor) : wgetK (encWG en A) (kI k) = (lk A k).map fun v => .d (en v) := by
  unfold wgetK encWG lk
  rw [List.find?_map]
  simp only [Function.comp_def, kI_iff, Option.map_map]
theorem put_enc {β : Type} {en : β → Dt} (A : HD β) (k : Cor) (v : β) : wputK (encWG en A) (kI k) (.d (en v)) = encWG en (put A k v) := by
  unfold wputK encWG put
  simp only [List.any_map, Function.comp_def, kI_iff]
  split
  · rw [List.map_map, List.map_map]
    apply List.map_congr_left
    intro e _
    simp only [Function.comp_def, kI_iff]
    split <;> rfl
  · rw [List.map_append]; rfl
theorem any_lk {β : Type} (A : HD β) (k : Cor) : (A.any fun e => decide (e.1 = k)) = (lk A k).isSome := by
  unfold lk
  induction A with
  | nil => rfl
  | cons e A ih =>
    rw [List.any_cons, ih]
    by_cases h : e.1 = k
    · rw [List.find?_cons_of_pos (by simpa using h)]; simp [h]
    · rw [List.find?_cons_of_neg (by simpa using h)]; simp [h]
theorem lk_put {β : Type} (A : HD β) (k : Cor) (v : β) (j : Cor) : lk (put A k v) j = if j = k then some v else lk A j := by
  unfold put
  split
  · rename_i h
    rw [any_lk] at h
    induction A with
    | nil => simp [lk] at h
    | cons e A ih =>
      rw [List.map_cons]
      by_cases he : e.1 = k
      · simp only [he, if_true]
        by_cases hj : j = k
        · subst hj; simp [lk]
        · rw [if_neg hj]
          unfold lk
          rw [List.find?_cons_of_neg (by simpa using fun z => hj z.symm), List.find?_cons_of_neg (by simpa [he] using fun z => hj z.symm)]
          clear ih h
          induction A with
          | nil => rfl
          | cons f A ih2 =>
            rw [List.map_cons]
            by_cases hf : f.1 = k
            · simp only [hf, if_true]
              rw [List.find?_cons_of_neg (by simpa using fun z => hj z.symm), List.find?_cons_of_neg (by simpa [hf] using fun z => hj z.symm)]
              exact ih2
            · simp only [if_neg hf]
              by_cases hfj : f.1 = j
              · rw [List.find?_cons_of_pos (by simpa using hfj), List.find?_cons_of_pos (by simpa using hfj)]
              · rw [List.find?_cons_of_neg (by simpa using hfj), List.find?_cons_of_neg (by simpa using hfj)]
                exact ih2
      · simp only [if_neg he]
        by_cases hej : e.1 = j
        · have : j ≠ k := by rw [← hej]; exact he
          rw [if_neg this]
          unfold lk
          rw [List.find?_cons_of_pos (by simpa using hej), List.find?_cons_of_pos (by simpa using hej)]
        · have h' : (lk A k).isSome = true := by
            unfold lk at h ⊢
            rw [List.find?_cons_of_neg (by simpa using he)] at h
            exact h
          have := ih h'
          unfold lk at this ⊢
          rw [List.find?_cons_of_neg (by simpa using hej), List.find?_cons_of_neg (by simpa using hej)]
          exact this
  · rename_i h
    rw [any_lk] at h
    unfold lk at h ⊢
    rw [List.find?_append]
    by_cases hj : j = k
    · subst hj
      simp only [if_true]
      cases e : List.find? (fun e => decide (e.1 = j)) A with
      | none => simp
      | some x => rw [e] at h; simp at h
    · rw [if_neg hj]
      cases e : List.find? (fun e => decide (e.1 = j)) A with
      | none => simp [show ¬ k = j from fun z => hj z.symm]
      | some x => simp
theorem len_put {β : Type} (A : HD β) (k : Cor) (v : β) : (put A k v).length = if (lk A k).isSome then A.length else A.length + 1 := by
  unfold put
  rw [any_lk]
  split <;> simp
theorem lk_mem {β : Type} {A : HD β} {k : Cor} {v : β} (h : lk A k = some v) : (k, v) ∈ A := by
  unfold lk at h
  cases e : A.find? (fun e => decide (e.1 = k)) with
  | none => rw [e] at h; cases h
  | some x =>
    rw [e] at h
    have h1 := List.find?_some e
    have h2 := List.mem_of_find?_eq_some e
    simp at h1 h
    subst h1 h
    exact h2
section
variable {β : Type} {en : β → Dt} {M : Mh} {p : Addr} {A : HD β} {k : Cor} {v : β}
theorem dget_c {Q : Wv → Mh → Prop} (h : M p = some (.dT (encWG en A))) (e : lk A k = some v) (q : Q (.d (en v)) M) : rDGet (.c p) (.d (eC k)) M Q := by
  simp only [rDGet, dctOf, h]
  show match wgetK (encWG en A) (kI k) with | some w => Q w M | none => False
  rw [lk_enc, e]; exact q
theorem encA_W (A : HD β) : (encAG en A).map (fun q => (q.1, Wv.d q.2)) = encWG en A := by unfold encAG encWG; rw [List.map_map]; rfl
theorem dget_d {Q : Wv → Mh → Prop} (e : lk A k = some v) (q : Q (.d (en v)) M) : rDGet (.d (.dct (encAG en A))) (.d (eC k)) M Q := by
  simp only [rDGet, dctOf, encA_W]
  show match wgetK (encWG en A) (kI k) with | some w => Q w M | none => False
  rw [lk_enc, e]; exact q
theorem din_c {neg : Bool} {Q : Wv → Mh → Prop} (h : M p = some (.dT (encWG en A))) (q : Q (.d (.bl (if neg then !(lk A k).isSome else (lk A k).isSome))) M) : rDIn neg (.d (eC k)) (.c p) M Q := by
  simp only [rDIn, dctOf, h]
  show Q (.d (.bl (if neg then !(wgetK (encWG en A) (kI k)).isSome else (wgetK (encWG en A) (kI k)).isSome))) M
  rw [lk_enc, Option.isSome_map]; exact q
theorem din_d {neg : Bool} {Q : Wv → Mh → Prop} (q : Q (.d (.bl (if neg then !(lk A k).isSome else (lk A k).isSome))) M) : rDIn neg (.d (eC k)) (.d (.dct (encAG en A))) M Q := by
  simp only [rDIn, dctOf, encA_W]
  show Q (.d (.bl (if neg then !(wgetK (encWG en A) (kI k)).isSome else (wgetK (encWG en A) (kI k)).isSome))) M
  rw [lk_enc, Option.isSome_map]; exact q
theorem dput_c {D : WEnds} {ρ : Rho} (h : M p = some (.dT (encWG en A))) (hl : A.length < sizeLine) (q : D.nx ρ (M.set p (.dT (encWG en (put A k v))))) : wDPut3 (.d (en v)) (.c p) (.d (eC k)) D ρ M := by
  simp only [wDPut3, h]
  show (encWG en A).length < sizeLine ∧ D.nx ρ (M.set p (.dT (wputK (encWG en A) (kI k) (.d (en v)))))
  rw [put_enc]
  exact ⟨by simpa [encWG] using hl, q⟩
theorem frz_dct {Q : Wv → Mh → Prop} (h : M p = none) (q : Q (.d (.dct (encAG en A))) M) : frz1 (.c p) (M.set p (.dT (encWG en A))) Q := by
  unfold frz1 frzC
  have e1 : allD ((encWG en A).map (·.2)) = some (A.map fun e => en e.2) := by
    rw [show (encWG en A).map (·.2) = (A.map fun e => en e.2).map .d by unfold encWG; rw [List.map_map, List.map_map]; rfl]
    exact allD_map _
  have e2 : ((encWG en A).map (·.1)).zip (A.map fun e => en e.2) = encAG en A := by
    unfold encWG encAG
    rw [List.map_map]
    clear q e1
    induction A with
    | nil => rfl
    | cons e A ih => simp only [List.map_cons, List.zip_cons_cons, Function.comp_def] at ih ⊢; rw [ih]
  simp only [Mh.set_same, e1, e2]
  rw [Mh.del_set h]; exact q
end
/-! ### reached -/
/-- the pairs of corners hops come to, where ok -/
inductive Rch (ok : Nat → Nat → Prop) : Nat → Nat → Prop
  | zero : ok 0 0 → Rch ok 0 0
  | diag {x y : Nat} : Rch ok x y → ok (x + 1) (y + 1) → Rch ok (x + 1) (y + 1)
  | right {x y : Nat} : Rch ok x y → ok (x + 1) y → Rch ok (x + 1) y
  | up {x y : Nat} : Rch ok x y → ok x (y + 1) → Rch ok x (y + 1)
theorem Rch.ok {ok : Nat → Nat → Prop} {x y : Nat} (h : Rch ok x y) : ok x y := by cases h <;> assumption
def cN (x y : Nat) : Cor := ((x : Int), (y : Int))
theorem cN_inj {x y a b : Nat} (h : cN x y = cN a b) : x = a ∧ y = b := by
  simp only [cN, Prod.mk.injEq] at h
  omega
/-- p is a hop ahead of k -/
def Hop (p k : Cor) : Prop := 0 ≤ k.1 - p.1 ∧ k.1 - p.1 ≤ 1 ∧ 0 ≤ k.2 - p.2 ∧ k.2 - p.2 ≤ 1 ∧ 0 < (k.1 - p.1) + (k.2 - p.2)
/-- what was told of the pairs ahead of (x, y), row by row -/
structure RInv (ok : Nat → Nat → Prop) (m x y : Nat) (A : HA) : Prop where
  all : ∀ a b, (a < x ∧ b < m ∨ a = x ∧ b < y) → Rch ok a b → (lk A (cN a b)).isSome = true
  zero : ok 0 0 → (lk A (cN 0 0)).isSome = true
  only : ∀ k v, lk A k = some v → ∃ a b, k = cN a b ∧ b < m ∧ Rch ok a b ∧ (a < x ∨ a = x ∧ b < y ∨ a = 0 ∧ b = 0)
  prev : ∀ k p, lk A k = some (some p) → (lk A p).isSome = true ∧ Hop p k
  first : ∀ k, lk A k = some none → k = cN 0 0
  len : A.length ≤ 1 + 300 * x + 3 * y
def rhoR (tab sq p x row y here pair : Option Wv) : Rho := [tab, sq, p, x, row, y, here, pair]
def N_reached : List Str := ["table", "square", "ahead", "x", "row", "y", "here", "pair"]
def b1_reached (c : Cs) : WS :=
  (wIf (wAndT (wTest (wOp (rDIn false) (wV 7) (wV 2))) (wNotT (wTest (wCall (sp_less c) [] (wCons (wV 1) (wCons (wV 6) wNil))))))
  (wDPut (wV 7) (wV 2) (wTup (wCons (wV 3) (wCons (wV 5) wNil))))
  wNext)
def b2_reached (c : Cs) : WS :=
  (wFor (wiList (wLst (wCons (wTup (wCons (wOp rSub (wV 3) (wC (.int 1))) (wCons (wOp rSub (wV 5) (wC (.int 1))) wNil))) (wCons (wTup (wCons (wOp rSub (wV 3) (wC (.int 1))) (wCons (wV 5) wNil))) (wCons (wTup (wCons (wV 3) (wCons (wOp rSub (wV 5) (wC (.int 1))) wNil))) wNil))))) (wgName 7) (b1_reached c))
def b3_reached (c : Cs) : WS :=
  (wFor (wiEnum (wCons (wV 4) wNil)) (wgTup 2 (wgCons (wgName 5) (wgCons (wgName 6) wgNil))) (b2_reached c))
def t_reached (c : Cs) : WS :=
  (wSeq (wSet 2 wDNew)
  (wSeq (wIf (wNotT (wTest (wCall (sp_less c) [] (wCons (wV 1) (wCons (wOp rIxW (wOp rIxW (wV 0) (wC (.int 0))) (wC (.int 0))) wNil)))))
  (wDPut (wC .non) (wV 2) (wTup (wCons (wC (.int 0)) (wCons (wC (.int 0)) wNil))))
  wNext)
  (wSeq (wFor (wiEnum (wCons (wV 0) wNil)) (wgTup 2 (wgCons (wgName 3) (wgCons (wgName 4) wgNil))) (b3_reached c))
  (wRet (wFz (wV 2))))))

theorem Rch.inv {ok : Nat → Nat → Prop} {x y : Nat} (h : Rch ok x y) : (x = 0 ∧ y = 0) ∨ (∃ a b, (cN a b = ((x : Int) - 1, (y : Int) - 1) ∨ cN a b = ((x : Int) - 1, (y : Int)) ∨ cN a b = ((x : Int), (y : Int) - 1)) ∧ Rch ok a b ∧ (a < x ∧ b ≤ y ∨ a = x ∧ b < y)) := by
  cases h with
  | zero h => exact .inl ⟨rfl, rfl⟩
  | @diag a b h _ => exact .inr ⟨a, b, .inl (by simp only [cN, Prod.mk.injEq]; omega), h, by omega⟩
  | @right a _ h _ => exact .inr ⟨a, y, .inr (.inl (by simp only [cN, Prod.mk.injEq, and_true, true_and]; omega)), h, by omega⟩
  | @up _ b h _ => exact .inr ⟨x, b, .inr (.inr (by simp only [cN, Prod.mk.injEq, and_true, true_and]; omega)), h, by omega⟩
theorem Rch.of {ok : Nat → Nat → Prop} {x y a b : Nat} (e : cN a b = ((x : Int) - 1, (y : Int) - 1) ∨ cN a b = ((x : Int) - 1, (y : Int)) ∨ cN a b = ((x : Int), (y : Int) - 1)) (h : Rch ok a b) (k : ok x y) : Rch ok x y := by
  simp only [cN, Prod.mk.injEq] at e
  rcases e with ⟨e1, e2⟩ | ⟨e1, e2⟩ | ⟨e1, e2⟩
  · have : x = a + 1 := by omega
    have : y = b + 1 := by omega
    subst_vars; exact .diag h k
  · have : x = a + 1 := by omega
    have : y = b := by omega
    subst_vars; exact .right h k
  · have : x = a := by omega
    have : y = b + 1 := by omega
    subst_vars; exact .up h k
/-- the one candidate after the other -/
structure RInv3 (ok : Nat → Nat → Prop) (m x y i : Nat) (A0 A : HA) : Prop where
  old : RInv ok m x y A0
  lk0 : ∀ j, j ≠ cN x y → lk A j = lk A0 j
  here : (∃ v, lk A (cN x y) = some v) → Rch ok x y
  got : ∀ j, j < i → ∀ cd, [((x : Int) - 1, (y : Int) - 1), ((x : Int) - 1, (y : Int)), ((x : Int), (y : Int) - 1)][j]? = some cd → (lk A0 cd).isSome = true → ok x y → (lk A (cN x y)).isSome = true
  keep : (lk A0 (cN x y)).isSome = true → (lk A (cN x y)).isSome = true
  prev : ∀ p, lk A (cN x y) = some (some p) → (lk A0 p).isSome = true ∧ Hop p (cN x y) ∧ p ≠ cN x y
  first : lk A (cN x y) = some none → cN x y = cN 0 0
  len : A.length ≤ A0.length + i
theorem RInv3.start {ok : Nat → Nat → Prop} {m x y : Nat} {A : HA} (h : RInv ok m x y A) : RInv3 ok m x y 0 A A where
  old := h
  lk0 := fun _ _ => rfl
  here := fun ⟨v, e⟩ => by
    obtain ⟨a, b, e1, _, e2, _⟩ := h.only _ _ e
    have := cN_inj e1
    obtain ⟨rfl, rfl⟩ := this
    exact e2
  got := fun j hj => absurd hj (Nat.not_lt_zero _)
  keep := fun h => h
  prev := fun p e => by
    have := h.prev _ _ e
    refine ⟨this.1, this.2, fun z => ?_⟩
    subst z
    have := this.2.2.2.2.2
    omega
  first := fun e => h.first _ e
  len := Nat.le_refl _
theorem RInv3.step {ok : Nat → Nat → Prop} {m x y i : Nat} {A0 A : HA} {cd : Cor} (h : RInv3 ok m x y i A0 A) (hm : y < m) (e : [((x : Int) - 1, (y : Int) - 1), ((x : Int) - 1, (y : Int)), ((x : Int), (y : Int) - 1)][i]? = some cd) :
    (¬ ((lk A cd).isSome = true ∧ ok x y) → RInv3 ok m x y (i + 1) A0 A) ∧ ((lk A cd).isSome = true → ok x y → RInv3 ok m x y (i + 1) A0 (put A (cN x y) (some cd))) := by
  have hc : cd = ((x : Int) - 1, (y : Int) - 1) ∨ cd = ((x : Int) - 1, (y : Int)) ∨ cd = ((x : Int), (y : Int) - 1) := by
    have hi : i < 3 := (List.getElem?_eq_some_iff.mp e).1
    match i, hi, e with
    | 0, _, e => left; cases e; rfl
    | 1, _, e => right; left; cases e; rfl
    | 2, _, e => right; right; cases e; rfl
  have hne : cd ≠ cN x y := by
    intro z
    rw [z] at hc
    simp only [cN, Prod.mk.injEq] at hc
    omega
  have hhop : Hop cd (cN x y) := by
    rcases hc with rfl | rfl | rfl <;> simp only [Hop, cN] <;> omega
  refine ⟨fun hn => ⟨h.old, h.lk0, h.here, fun j hj cd' e' he hk => ?_, h.keep, h.prev, h.first, by have := h.len; omega⟩, fun hs hk => ?_⟩
  · by_cases hji : j < i
    · exact h.got j hji cd' e' he hk
    · have : j = i := by omega
      subst this
      rw [e] at e'; cases e'
      rw [← h.lk0 _ hne] at he
      exact absurd ⟨he, hk⟩ hn
  · have hs0 : (lk A0 cd).isSome = true := by rw [← h.lk0 _ hne]; exact hs
    refine ⟨h.old, fun j hj => by rw [lk_put, if_neg hj]; exact h.lk0 j hj, fun _ => ?_, fun _ _ _ _ _ _ => by rw [lk_put, if_pos rfl]; rfl, fun _ => by rw [lk_put, if_pos rfl]; rfl, fun p e => ?_, fun e => ?_, ?_⟩
    · obtain ⟨v, ev⟩ := Option.isSome_iff_exists.mp hs0
      obtain ⟨a, b, e1, _, e2, _⟩ := h.old.only _ _ ev
      exact Rch.of (by rw [← e1]; exact hc) e2 hk
    · rw [lk_put, if_pos rfl] at e
      cases e
      exact ⟨hs0, hhop, hne⟩
    · rw [lk_put, if_pos rfl] at e
      cases e
    · rw [len_put]
      have := h.len
      split <;> omega
theorem RInv3.done {ok : Nat → Nat → Prop} {m x y : Nat} {A0 A : HA} (h : RInv3 ok m x y 3 A0 A) (hm : y < m) : RInv ok m x (y + 1) A where
  all := fun a b hab hr => by
    by_cases e : cN a b = cN x y
    · obtain ⟨rfl, rfl⟩ := cN_inj e
      rcases hr.inv with ⟨rfl, rfl⟩ | ⟨p, q, e1, e2, e3⟩
      · exact h.keep (h.old.zero hr.ok)
      · have hp : (lk A0 (cN p q)).isSome = true := h.old.all p q (by rcases e3 with ⟨a1, a2⟩ | ⟨a1, a2⟩ <;> omega) e2
        rcases e1 with e1 | e1 | e1
        · exact h.got 0 (by omega) _ rfl (by rw [← e1]; exact hp) hr.ok
        · exact h.got 1 (by omega) _ rfl (by rw [← e1]; exact hp) hr.ok
        · exact h.got 2 (by omega) _ rfl (by rw [← e1]; exact hp) hr.ok
    · rw [h.lk0 _ e]
      refine h.old.all a b ?_ hr
      have : ¬ (a = x ∧ b = y) := fun z => e (by rw [z.1, z.2])
      omega
  zero := fun hk => by
    by_cases e : cN 0 0 = cN x y
    · rw [e]; exact h.keep (by rw [← e]; exact h.old.zero hk)
    · rw [h.lk0 _ e]; exact h.old.zero hk
  only := fun k v e => by
    by_cases ek : k = cN x y
    · subst ek
      exact ⟨x, y, rfl, hm, h.here ⟨v, e⟩, by omega⟩
    · rw [h.lk0 _ ek] at e
      obtain ⟨a, b, e1, e2, e3, e4⟩ := h.old.only k v e
      exact ⟨a, b, e1, e2, e3, by omega⟩
  prev := fun k p e => by
    by_cases ek : k = cN x y
    · subst ek
      obtain ⟨e1, e2, e3⟩ := h.prev p e
      exact ⟨by rw [h.lk0 _ e3]; exact e1, e2⟩
    · rw [h.lk0 _ ek] at e
      obtain ⟨e1, e2⟩ := h.old.prev k p e
      refine ⟨?_, e2⟩
      by_cases ep : p = cN x y
      · rw [ep]; exact h.keep (by rw [← ep]; exact e1)
      · rw [h.lk0 _ ep]; exact e1
  first := fun k e => by
    by_cases ek : k = cN x y
    · subst ek; exact h.first e
    · rw [h.lk0 _ ek] at e; exact h.old.first k e
  len := by have := h.len; have := h.old.len; omega
theorem RInv.row {ok : Nat → Nat → Prop} {m x : Nat} {A : HA} (h : RInv ok m x m A) (hm : m ≤ 100) : RInv ok m (x + 1) 0 A where
  all := fun a b hab hr => h.all a b (by omega) hr
  zero := h.zero
  only := fun k v e => by
    obtain ⟨a, b, e1, e2, e3, e4⟩ := h.only k v e
    exact ⟨a, b, e1, e2, e3, by omega⟩
  prev := h.prev
  first := h.first
  len := by have := h.len; omega
theorem RInv.begin0 {ok : Nat → Nat → Prop} {m : Nat} (hm : 0 < m) (h : ¬ ok 0 0) : RInv ok m 0 0 [] where
  all := fun a b hab => by omega
  zero := fun z => absurd z h
  only := fun k v e => by cases e
  prev := fun k p e => by cases e
  first := fun k e => by cases e
  len := by simp
theorem RInv.begin1 {ok : Nat → Nat → Prop} {m : Nat} (hm : 0 < m) (h : ok 0 0) : RInv ok m 0 0 (put [] (cN 0 0) none) where
  all := fun a b hab => by omega
  zero := fun z => by rw [lk_put, if_pos rfl]; rfl
  only := fun k v e => by
    rw [lk_put] at e
    split at e
    · exact ⟨0, 0, by assumption, hm, .zero h, by omega⟩
    · cases e
  prev := fun k p e => by
    rw [lk_put] at e
    split at e <;> cases e
  first := fun k e => by
    rw [lk_put] at e
    split at e
    · assumption
    · cases e
  len := by rw [len_put]; split <;> simp
theorem tab_row {n m : Nat} {T : Nat → Nat → Int} {i : Nat} (h : i < n) : (tabD n m T).getD i .non = .lst ((List.range m).map fun j => eQ ((T i j : Int) : Rat)) := by
  simp [tabD, List.getD_eq_getElem?_getD, h]
theorem tab_at {n m : Nat} {T : Nat → Nat → Int} {i : Nat} (h : i < m) : ((List.range m).map fun j => eQ ((T n j : Int) : Rat)).getD i .non = eQ ((T n i : Int) : Rat) := by
  simp [List.getD_eq_getElem?_getD, h]
def okT (T : Nat → Nat → Int) (q : Rat) (i j : Nat) : Prop := ¬ q < ((T i j : Int) : Rat)
/-- what reached tells -/
structure RPost (n m : Nat) (T : Nat → Nat → Int) (q : Rat) (A : HA) : Prop where
  inv : RInv (okT T q) m n 0 A
theorem ex_reached (c : Cs) (n m : Nat) (T : Nat → Nat → Int) (q : Rat) (hn : 0 < n) (hm : 0 < m) (ln : n ≤ 100) (lm : m ≤ 100) (hT : ∀ i j, Sz 90 (T i j)) (hq : Qz 90000 q) :
    ∃ A, RPost n m T q A ∧ ∀ M Q E, Q (.d (.dct (encA A))) M → t_reached c (endsOf Q E) (startW N_reached [.d (.lst (tabD n m T)), .d (eQ q)]) M := by
  have hA0 : ∃ A0, RInv (okT T q) m 0 0 A0 ∧ A0 = if q < ((T 0 0 : Int) : Rat) then [] else put [] (cN 0 0) none := by
    by_cases h : q < ((T 0 0 : Int) : Rat)
    · exact ⟨_, .begin0 hm (fun z => z h), by rw [if_pos h]⟩
    · exact ⟨_, .begin1 hm h, by rw [if_neg h]⟩
  obtain ⟨A0, i0, e0⟩ := hA0
  have hz : ∀ i j, Qz 100000 ((T i j : Int) : Rat) := fun i j => (Qz.int (hT i j) (by decide)).mono (by decide)
  have hq' : Qz 100000 q := hq.mono (by decide)
  obtain ⟨s', ⟨hs', _⟩, go⟩ := for_fold (Γ := Mh × Addr) (S := HA × (Option Wv × Option Wv × Option Wv × Option Wv × Option Wv)) (g := wgTup 2 (wgCons (wgName 3) (wgCons (wgName 4) wgNil))) (tb := b3_reached c) (enumD (tabD n m T))
    (fun i s => RInv (okT T q) m i 0 s.1 ∧ True) (fun γ s => rhoR (some (.d (.lst (tabD n m T)))) (some (.d (eQ q))) (some (.c γ.2)) s.2.1 s.2.2.1 s.2.2.2.1 s.2.2.2.2.1 s.2.2.2.2.2)
    (fun γ s => γ.1.set γ.2 (.dT (encW s.1)))
    (fun i x s hx hi => by
      obtain ⟨hlt, rfl⟩ := enumD_at hx
      have hlt : i < n := by simpa [tabD] using hlt
      rw [tab_row hlt]
      obtain ⟨s1, ⟨h1, _⟩, go1⟩ := for_fold (Γ := Mh × Addr) (S := HA × (Option Wv × Option Wv × Option Wv)) (g := wgTup 2 (wgCons (wgName 5) (wgCons (wgName 6) wgNil))) (tb := b2_reached c) (enumD ((List.range m).map fun j => eQ ((T i j : Int) : Rat)))
        (fun j s => RInv (okT T q) m i j s.1 ∧ True) (fun γ s => rhoR (some (.d (.lst (tabD n m T)))) (some (.d (eQ q))) (some (.c γ.2)) (some (.d (.int i))) (some (.d (.lst ((List.range m).map fun j => eQ ((T i j : Int) : Rat))))) s.2.1 s.2.2.1 s.2.2.2)
        (fun γ s => γ.1.set γ.2 (.dT (encW s.1)))
        (fun j x s hx hi => by
          obtain ⟨hlt2, rfl⟩ := enumD_at hx
          have hlt2 : j < m := by simpa using hlt2
          rw [tab_at hlt2]
          obtain ⟨s2, h2, go2⟩ := for_fold (Γ := Mh × Addr) (S := HA × Option Wv) (g := wgName 7) (tb := b1_reached c) ([((i : Int) - 1, (j : Int) - 1), ((i : Int) - 1, (j : Int)), ((i : Int), (j : Int) - 1)].map fun p => .d (eC p))
            (fun k z => RInv3 (okT T q) m i j k s.1 z.1) (fun γ z => rhoR (some (.d (.lst (tabD n m T)))) (some (.d (eQ q))) (some (.c γ.2)) (some (.d (.int i))) (some (.d (.lst ((List.range m).map fun j => eQ ((T i j : Int) : Rat))))) (some (.d (.int j))) (some (.d (eQ ((T i j : Int) : Rat)))) z.2)
            (fun γ z => γ.1.set γ.2 (.dT (encW z.1)))
            (fun k x z hx hk => by
              rw [List.getElem?_map] at hx
              cases ecd : [((i : Int) - 1, (j : Int) - 1), ((i : Int) - 1, (j : Int)), ((i : Int), (j : Int) - 1)][k]? with
              | none => rw [ecd] at hx; cases hx
              | some cd =>
              rw [ecd] at hx
              cases hx
              have st := hk.step hlt2 ecd
              by_cases hb : (lk z.1 cd).isSome = true ∧ okT T q i j
              · refine ⟨(put z.1 (cN i j) (some cd), some (.d (eC cd))), st.2 hb.1 hb.2, fun D γ K hK => ?_⟩
                walk_at "wh"
                refine din_c Mh.set_same ?_
                simp only [hb.1]
                walk_at "wh"
                refine cl_less q _ hq' (hz i j) ?_
                rw [decide_eq_false hb.2]
                walk_at "wh"
                refine ⟨sl2, ?_⟩
                walk_at "wh"
                refine dput_c (en := eO) (A := z.1) (k := cN i j) (v := some cd) Mh.set_same ?_ ?_
                · have := hk.len; have := hk.old.len
                  have : k < 3 := (List.getElem?_eq_some_iff.mp ecd).1
                  exact sl_of (by omega)
                · rw [Mh.set_set]; exact hK
              · refine ⟨(z.1, some (.d (eC cd))), st.1 hb, fun D γ K hK => ?_⟩
                walk_at "wh"
                refine din_c Mh.set_same ?_
                by_cases hs : (lk z.1 cd).isSome = true
                · simp only [hs]
                  walk_at "wh"
                  refine cl_less q _ hq' (hz i j) ?_
                  rw [decide_eq_true (Decidable.not_not.mp (fun h => hb ⟨hs, h⟩))]
                  walk_at "wh"
                  exact hK
                · simp only [hs]
                  walk_at "wh"
                  exact hK)
            (s.1, s.2.2.2) (.start hi.1)
          refine ⟨(s2.1, some (.d (.int j)), some (.d (eQ ((T i j : Int) : Rat))), s2.2), ⟨h2.done hlt2, trivial⟩, fun D γ K hK => ?_⟩
          walk_at "wh"
          refine ⟨rfl, ?_⟩
          walk_at "wh"
          refine ⟨sl2, ?_⟩
          walk_at "wh"
          refine ⟨sl2, ?_⟩
          walk_at "wh"
          refine ⟨sl2, ?_⟩
          walk_at "wh"
          refine ⟨sl3, ?_⟩
          refine go2 _ γ ?_
          exact hK)
        (s.1, s.2.2.2.1, s.2.2.2.2.1, s.2.2.2.2.2) ⟨hi.1, trivial⟩
      rw [enumD_len, List.length_map, List.length_range] at h1
      refine ⟨(s1.1, some (.d (.int i)), some (.d (.lst ((List.range m).map fun j => eQ ((T i j : Int) : Rat)))), s1.2), ⟨h1.row lm, trivial⟩, fun D γ K hK => ?_⟩
      walk_at "wh"
      refine ⟨rfl, ?_⟩
      refine go1 _ γ ?_
      exact hK)
    (A0, none, none, none, none, none) ⟨i0, trivial⟩
  rw [enumD_len, show (tabD n m T).length = n by simp [tabD]] at hs'
  refine ⟨s'.1, ⟨hs'⟩, fun M Q E h => ?_⟩
  walk_at "wh"
  intro p hp
  walk_at "wh"
  have e00 : L2.atI (tabD n m T) 0 = some (.lst ((List.range m).map fun j => eQ ((T 0 j : Int) : Rat))) := atI_of (k := 0) rfl (by simp [tabD, hn])
  rw [e00]
  walk_at "wh"
  have e01 : L2.atI ((List.range m).map fun j => eQ ((T 0 j : Int) : Rat)) 0 = some (eQ ((T 0 0 : Int) : Rat)) := atI_of (k := 0) rfl (by simp [hm])
  rw [e01]
  walk_at "wh"
  refine cl_less q _ hq' (hz 0 0) ?_
  have fin : ∀ σ, σ = rhoR (some (.d (.lst (tabD n m T)))) (some (.d (eQ q))) (some (.c p)) none none none none none → (wSeq (wFor (wiEnum (wCons (wV 0) wNil)) (wgTup 2 (wgCons (wgName 3) (wgCons (wgName 4) wgNil))) (b3_reached c)) (wRet (wFz (wV 2)))) (endsOf Q E) σ (M.set p (.dT (encW A0))) := by
    rintro σ rfl
    walk_at "wh"
    refine go _ (M, p) ?_
    walk_at "wh"
    refine frz_dct hp (okD h)
  by_cases hlt : q < ((T 0 0 : Int) : Rat)
  · rw [decide_eq_true hlt]
    rw [if_pos hlt] at e0
    subst e0
    exact fin _ rfl
  · rw [decide_eq_false hlt]
    rw [if_neg hlt] at e0
    walk_at "wh"
    refine ⟨sl2, ?_⟩
    walk_at "wh"
    refine dput_c (en := eO) (A := []) (k := cN 0 0) (v := none) Mh.set_same (sl_of (by simp)) ?_
    rw [Mh.set_set, ← e0]
    exact fin _ rfl
end Lw
namespace Lw
open PySem PySem.Spec L2
local macro_rules | `(tactic| walk_at "wp") => `(tactic| try simp only [wSeq, wIf, wRet, wSet, wTest, wOp, wUn, wV, wC, wCall, wCons, wNil, wCB, wTup, wLst, wOrT, wAndT, wNotT, wAndV, wOrV, wNotV, wIfE, wChain, wRaise, wNext, wPar, wDrop, wAsg, wgName, wgTup, wgCons, wgNil, tupOf, wAug, rAddI, rAbs, rMax2, rMin2, rMod, rLt, rGt, rLe, rGe, rCmp, rSub, rAdd, rMul, rDiv, rNeg, rPow, rEq, rNe, rLen, rIxW, rIsN, rNotN, isNonW, wFld, insOf, wMeth, wIsi, rIsi, tyName, startW, List.map, List.length, List.cons_append, List.nil_append, List.append_nil, List.replicate, List.getElem?_cons_zero, List.getElem?_cons_succ, List.set_cons_zero, List.set_cons_succ, bch_true, bch_false, bch_not, bch_dec, allD, Option.map, endsOf, pS1, pS2, pS3, pS4, pS5, atI_zero, atI_one, atI_two, Bool.not_true, Bool.not_false, Nat.reduceAdd, Nat.reduceSub])
local macro_rules | `(tactic| walk_at "wh") => `(tactic| conv => whnf)
local macro_rules | `(tactic| walk_at "wx") => `(tactic| (conv => whnf); repeat (first | (rw [Mh.set_same]; conv => whnf) | ((refine And.intro ?_ ?_; focus (first | ((with_reducible show (_ : Nat) ≤ _); first | exact sl2 | exact sl1 | exact sl3 | exact sl0 | exact sl4 | decide) | ((with_reducible show (_ : Nat) = _); rfl) | ((with_reducible show (_ : Bool) = _); first | rfl | decide +kernel) | ((with_reducible show (_ : Int) < _); first | omega | (simp only [List.length_map]; omega)) | ((with_reducible show (_ : Int) ≤ _); first | omega | (simp only [List.length_map]; omega)) | ((with_reducible show MulOk _ _); first | exact MulOk.nat_l rfl | exact MulOk.nat_r rfl) | ((with_reducible show DivOk _); exact (DivOk.lit rfl rfl)) | ((with_reducible show (_ ∧ _ ∧ Sz _ _)); exact PowOk.lit rfl rfl rfl))); conv => whnf)))
local macro_rules | `(tactic| walk_at "sz") => `(tactic| exact szs (by omega) (by decide))

theorem Sub.set2 {M M' : Mh} {p : Addr} {o : MO} (h : Sub M M') : Sub (M.set p o) (M'.set p o) := fun a u e => by
  by_cases ha : a = p
  · subst ha; rw [Mh.set_same] at e ⊢; exact e
  · rw [Mh.set_ne ha] at e ⊢; exact h a u e
theorem Mh.set_comm {M : Mh} {p q : Addr} {o u : MO} (h : p ≠ q) : (M.set p o).set q u = (M.set q u).set p o := by
  funext b
  by_cases h1 : b = p
  · subst h1; rw [Mh.set_ne h, Mh.set_same, Mh.set_same]
  · by_cases h2 : b = q
    · subst h2; rw [Mh.set_same, Mh.set_ne h1, Mh.set_same]
    · rw [Mh.set_ne h2, Mh.set_ne h1, Mh.set_ne h1, Mh.set_ne h2]
/-- a fresh address differs from one that is set -/
theorem fresh_ne {M : Mh} {p q : Addr} {o : MO} (h : (M.set p o) q = none) : q ≠ p := by
  intro z; subst z; rw [Mh.set_same] at h; cases h
theorem fresh_old {M : Mh} {p q : Addr} {o : MO} (h : (M.set p o) q = none) : M q = none := by
  rw [Mh.set_ne (fresh_ne h)] at h; exact h
/-- a place of a corner: a pair of corners told as places -/
def ePl (p : Cor) : Dt := .tup [.tup [.int p.1, .int 1], .tup [.int p.2, .int 1]]
def ePls (L : List Cor) : List Dt := L.map ePl
/-- a spec whose result is a new list -/
def newL (M : Mh) (Q : Wv → Mh → Prop) (ds : List Dt) : Prop := ∀ p, M p = none → Q (.c p) (M.set p (.lst (ds.map .d)))

/-! ### traced -/
inductive IsTrace (A : HA) : Option Cor → List Cor → Prop
  | nil : IsTrace A none []
  | cons {k : Cor} {v : Option Cor} {L : List Cor} : lk A k = some v → IsTrace A v L → IsTrace A (some k) (L ++ [k])
@[irreducible] def sp_traced (c : Cs) : SpW := fun ws M Q E => ∃ A k L, ws = [.d (.dct (encA A)), .d (eC k)] ∧ L.length ≤ 100000 ∧ IsTrace A (some k) L ∧ newL M Q (ePls L)
theorem len_traced (c : Cs) : ∀ ws M Q E, sp_traced c ws M Q E → ws.length = 2 := by
  intro ws M Q E h; unfold sp_traced at h
  obtain ⟨A, k, L, rfl, _⟩ := h; rfl
def N_traced : List Str := ["ahead", "pair", "found"]
def b1_traced (c : Cs) : WS :=
  (wSeq (wDrop (wBM "list" mAppend (wV 2) (wCons (wTup (wCons (wTup (wCons (wOp rIxW (wV 1) (wC (.int 0))) (wCons (wC (.int 1)) wNil))) (wCons (wTup (wCons (wOp rIxW (wV 1) (wC (.int 1))) (wCons (wC (.int 1)) wNil))) wNil))) wNil)))
  (wSet 1 (wOp rDGet (wV 0) (wV 1))))
def t_traced (c : Cs) : WS :=
  (wSeq (wSet 2 (wLstC wNil))
  (wSeq (wWhile (wTest (wOp rNotN (wV 1) (wC .non))) (b1_traced c))
  (wRet (wRevL (wV 2)))))

theorem pu_traced (c : Cs) : ∀ ws M Q E, sp_traced c ws M Q E → t_traced c (endsOf Q E) (startW N_traced ws) M := by
  intro ws M Q E h; unfold sp_traced at h
  obtain ⟨A, k, L, rfl, hl, ht, h⟩ := h
  walk_at "wh"
  refine ⟨sl0, fun f hf => ?_⟩
  walk_at "wh"
  have key : ∀ (v : Option Cor) (L : List Cor), IsTrace A v L → ∀ (acc : List Cor) (D : WEnds), acc.length + L.length ≤ 100000 →
      D.nx [some (.d (.dct (encA A))), some (.d .non), some (.c f)] (M.set f (.lst ((ePls (acc ++ L.reverse)).map .d))) →
      whileN (wTest (wOp rNotN (wV 1) (wC .non))) (b1_traced c) D (L.length + 1) [some (.d (.dct (encA A))), some (.d (eO v)), some (.c f)] (M.set f (.lst ((ePls acc).map .d))) := by
    intro v L ht
    induction ht with
    | nil =>
      intro acc D _ hD
      walk_at "wh"
      rw [List.reverse_nil, List.append_nil] at hD
      exact hD
    | @cons k v L e ht ih =>
      intro acc D hlen hD
      simp only [List.length_append, List.length_cons, List.length_nil] at hlen ⊢
      walk_at "wh"
      refine ⟨tyW_lst Mh.set_same, ?_⟩
      walk_at "wh"
      refine ⟨sl2, ?_⟩
      walk_at "wh"
      refine ⟨sl2, ?_⟩
      walk_at "wh"
      refine ⟨sl2, ?_⟩
      walk_at "wh"
      refine ap_set ?_ ?_
      · exact sl_of (by simp [ePls]; omega)
      · walk_at "wh"
        refine dget_d e ?_
        have := ih (acc ++ [k]) D (by simp; omega) (by simpa using hD)
        rw [show ((ePls (acc ++ [k])).map Wv.d) = (ePls acc).map .d ++ [.d (ePl k)] by simp [ePls]] at this
        exact this
  refine .inr ⟨_, key (some k) L ht [] _ (by simpa using hl) ?_⟩
  walk_at "wh"
  simp only [Mh.set_same]
  intro p hp
  refine ⟨M.set p (.lst ((ePls L).map .d)), ?_, h p (fresh_old hp)⟩
  have e1 : ((ePls ([] ++ L.reverse)).map Wv.d).reverse = (ePls L).map .d := by simp [ePls]
  rw [e1]
  exact Sub.set2 (Sub.set hf)
section
variable {c : Cs} {M : Mh} {Q : Wv → Mh → Prop} {E : EW}
theorem cl_traced {A : HA} {k : Cor} {L : List Cor} (hl : L.length ≤ 100000) (ht : IsTrace A (some k) L) (h : newL M Q (ePls L)) : sp_traced c [.d (.dct (encA A)), .d (eC k)] M Q E := by
  unfold sp_traced; exact ⟨A, k, L, rfl, hl, ht, h⟩
end
/-! ### may_follow -/
def mayF (p l : Cor) : Bool := decide (l.1 - p.1 ≤ 0 ∧ l.2 - p.2 ≥ -1 ∨ l.1 - p.1 ≤ 1 ∧ l.2 - p.2 ≥ 0)
@[irreducible] def sp_may_follow (c : Cs) : SpW := pS 2 fun ds Q _ => ∃ p l, ds = [eC p, eC l] ∧ Q (.bl (mayF p l))
def N_may_follow : List Str := ["pair", "later", "further", "higher"]
def t_may_follow (c : Cs) : WS :=
  (wSeq (wSet 2 (wOp rSub (wOp rIxW (wV 1) (wC (.int 0))) (wOp rIxW (wV 0) (wC (.int 0)))))
  (wSeq (wSet 3 (wOp rSub (wOp rIxW (wV 1) (wC (.int 1))) (wOp rIxW (wV 0) (wC (.int 1)))))
  (wRet (wOrV (wAndV (wOp rLe (wV 2) (wC (.int 0))) (wOp rGe (wV 3) (wUn rNeg (wC (.int 1))))) (wAndV (wOp rLe (wV 2) (wC (.int 1))) (wOp rGe (wV 3) (wC (.int 0))))))))

theorem pu_may_follow (c : Cs) : ∀ ws M Q E, sp_may_follow c ws M Q E → t_may_follow c (endsOf Q E) (startW N_may_follow ws) M := by
  intro ws M Q E h; unfold sp_may_follow at h; replace h := pS_out h
  obtain ⟨ds, rfl, hl, p, l, rfl, h⟩ := h
  have hm : ∀ b, b = mayF p l → (endsOf Q E).rt (.d (.bl b)) M := fun b e => okD (by rw [e]; exact h)
  simp only [t_may_follow, N_may_follow, eC]
  walk_at "wp"
  refine ⟨fun h1 => ?_, fun h1 => ?_⟩
  · walk_at "wp"
    refine ⟨fun h2 => hm _ (decide_eq_true (by omega)).symm, fun h2 => ⟨fun h3 => hm _ (decide_eq_decide.mpr (by omega)), fun h3 => hm _ (decide_eq_false (by omega)).symm⟩⟩
  · walk_at "wp"
    exact ⟨fun h3 => hm _ (decide_eq_decide.mpr (by omega)), fun h3 => hm _ (decide_eq_false (by omega)).symm⟩
theorem cl_may_follow {c : Cs} {M : Mh} {Q : Wv → Mh → Prop} {E : EW} (p l : Cor) (h : Q (.d (.bl (mayF p l))) M) : sp_may_follow c [.d (eC p), .d (eC l)] M Q E := by
  unfold sp_may_follow; rw [pS2]; exact ⟨p, l, rfl, h⟩
/-! ### far_pairs -/
def farB (T : Nat → Nat → Int) (q : Rat) (also : Bool) (i j : Nat) : Bool := decide (q < ((T i j : Int) : Rat)) || (also && decide (((T i j : Int) : Rat) = q))
def farRow (m : Nat) (T : Nat → Nat → Int) (q : Rat) (also : Bool) (i : Nat) : List Cor := ((List.range m).filter (farB T q also i)).map (cN i)
def farL (n m : Nat) (T : Nat → Nat → Int) (q : Rat) (also : Bool) : List Cor := (List.range n).flatMap (farRow m T q also)
/-- a table of squares that the defs of hopping walk through -/
structure TabOk (n m : Nat) (T : Nat → Nat → Int) (q : Rat) : Prop where
  hn : 0 < n
  hm : 0 < m
  ln : n ≤ 100
  lm : m ≤ 100
  hT : ∀ i j, Sz 90 (T i j)
  hq : Qz 90000 q
theorem eqD_eQ (a b : Rat) : eqD (eQ a) (eQ b) = decide (a = b) := by
  show (a.num == b.num && (((a.den : Nat) : Int) == ((b.den : Nat) : Int) && true)) = decide (a = b)
  by_cases h : a = b
  · subst h; simp
  · rw [decide_eq_false h]
    by_cases h1 : a.num = b.num
    · by_cases h2 : a.den = b.den
      · exact absurd (Rat.ext h1 h2) h
      · have : ¬ ((a.den : Nat) : Int) = ((b.den : Nat) : Int) := by omega
        simp [this]
    · simp [h1]
theorem shD_eQ (a : Rat) : shD 60 (eQ a) = true := rfl
@[irreducible] def sp_far_pairs (c : Cs) : SpW := pS 3 fun ds Q _ => ∃ n m T q also, ds = [.lst (tabD n m T), eQ q, .bl also] ∧ TabOk n m T q ∧ Q (.lst ((farL n m T q also).map eC))
def N_far_pairs : List Str := ["table", "square", "also", "found", "x", "row", "y", "here"]
def b1_far_pairs (c : Cs) : WS :=
  (wIf (wOrT (wTest (wCall (sp_less c) [] (wCons (wV 1) (wCons (wV 7) wNil)))) (wAndT (wTest (wV 2)) (wTest (wOp rEq (wV 7) (wV 1)))))
  (wDrop (wBM "list" mAppend (wV 3) (wCons (wTup (wCons (wV 4) (wCons (wV 6) wNil))) wNil)))
  wNext)
def b2_far_pairs (c : Cs) : WS :=
  (wFor (wiEnum (wCons (wV 5) wNil)) (wgTup 2 (wgCons (wgName 6) (wgCons (wgName 7) wgNil))) (b1_far_pairs c))
def t_far_pairs (c : Cs) : WS :=
  (wSeq (wSet 3 (wLstC wNil))
  (wSeq (wFor (wiEnum (wCons (wV 0) wNil)) (wgTup 2 (wgCons (wgName 4) (wgCons (wgName 5) wgNil))) (b2_far_pairs c))
  (wRet (wFz (wV 3)))))

theorem farRow_len {m : Nat} {T : Nat → Nat → Int} {q : Rat} {also : Bool} {i : Nat} : (farRow m T q also i).length ≤ m := by
  unfold farRow
  rw [List.length_map]
  exact Nat.le_trans (List.length_filter_le ..) (by simp)
theorem farL_len {n m : Nat} {T : Nat → Nat → Int} {q : Rat} {also : Bool} (hm : m ≤ 100) : (farL n m T q also).length ≤ 100 * n := by
  unfold farL
  induction n with
  | zero => simp
  | succ n ih =>
    rw [List.range_succ, List.flatMap_append, List.length_append]
    have : (farRow m T q also n).length ≤ m := farRow_len
    simp only [List.flatMap_cons, List.flatMap_nil, List.append_nil]
    omega
theorem pu_far_pairs (c : Cs) : ∀ ws M Q E, sp_far_pairs c ws M Q E → t_far_pairs c (endsOf Q E) (startW N_far_pairs ws) M := by
  intro ws M Q E h; unfold sp_far_pairs at h; replace h := pS_out h
  obtain ⟨ds, rfl, hl, n, m, T, q, also, rfl, ok, h⟩ := h
  have hz : ∀ i j, Qz 100000 ((T i j : Int) : Rat) := fun i j => (Qz.int (ok.hT i j) (by decide)).mono (by decide)
  have hq' : Qz 100000 q := ok.hq.mono (by decide)
  have lm := ok.lm
  have ln := ok.ln
  walk_at "wh"
  refine ⟨sl0, fun p hp => ?_⟩
  walk_at "wh"
  obtain ⟨s', hs', go⟩ := for_fold (Γ := Unit) (S := List Cor × (Option Wv × Option Wv × Option Wv × Option Wv)) (g := wgTup 2 (wgCons (wgName 4) (wgCons (wgName 5) wgNil))) (tb := b2_far_pairs c) (enumD (tabD n m T))
    (fun i s => s.1 = farL i m T q also) (fun _ s => [some (.d (.lst (tabD n m T))), some (.d (eQ q)), some (.d (.bl also)), some (.c p), s.2.1, s.2.2.1, s.2.2.2.1, s.2.2.2.2])
    (fun _ s => M.set p (.lst ((s.1.map eC).map .d)))
    (fun i x s hx hi => by
      obtain ⟨hlt, rfl⟩ := enumD_at hx
      have hlt : i < n := by simpa [tabD] using hlt
      rw [tab_row hlt]
      obtain ⟨s1, h1, go1⟩ := for_fold (Γ := Unit) (S := List Cor × (Option Wv × Option Wv)) (g := wgTup 2 (wgCons (wgName 6) (wgCons (wgName 7) wgNil))) (tb := b1_far_pairs c) (enumD ((List.range m).map fun j => eQ ((T i j : Int) : Rat)))
        (fun j s => s.1 = farL i m T q also ++ farRow j T q also i) (fun _ s => [some (.d (.lst (tabD n m T))), some (.d (eQ q)), some (.d (.bl also)), some (.c p), some (.d (.int i)), some (.d (.lst ((List.range m).map fun j => eQ ((T i j : Int) : Rat)))), s.2.1, s.2.2])
        (fun _ s => M.set p (.lst ((s.1.map eC).map .d)))
        (fun j x s hx hi => by
          obtain ⟨hlt2, rfl⟩ := enumD_at hx
          have hlt2 : j < m := by simpa using hlt2
          rw [tab_at hlt2]
          have hlen : s.1.length ≤ 100 * i + j := by
            rw [hi, List.length_append]
            have := farL_len (n := i) (T := T) (q := q) (also := also) lm
            have := farRow_len (m := j) (T := T) (q := q) (also := also) (i := i)
            omega
          have hrow : farRow (j + 1) T q also i = farRow j T q also i ++ (if farB T q also i j then [cN i j] else []) := by
            unfold farRow
            rw [List.range_succ, List.filter_append, List.map_append]
            congr 1
            by_cases hb : farB T q also i j = true <;> simp [hb]
          by_cases hb : farB T q also i j = true
          · refine ⟨(s.1 ++ [cN i j], some (.d (.int j)), some (.d (eQ ((T i j : Int) : Rat)))), by rw [hrow, if_pos hb, ← List.append_assoc, ← hi], fun D γ K hK => ?_⟩
            have app : ∀ σ, σ = [some (.d (.lst (tabD n m T))), some (.d (eQ q)), some (.d (.bl also)), some (.c p), some (.d (.int i)), some (.d (.lst ((List.range m).map fun j => eQ ((T i j : Int) : Rat)))), some (.d (.int j)), some (.d (eQ ((T i j : Int) : Rat)))] →
                (wDrop (wBM "list" mAppend (wV 3) (wCons (wTup (wCons (wV 4) (wCons (wV 6) wNil))) wNil))) { D with nx := K, ct := K, bk := D.nx } σ (M.set p (.lst ((s.1.map eC).map .d))) := by
              rintro σ rfl
              walk_at "wh"
              refine ⟨tyW_lst Mh.set_same, ?_⟩
              walk_at "wh"
              refine ⟨sl2, ?_⟩
              walk_at "wh"
              refine ap_set ?_ ?_
              · exact sl_of (by simp; omega)
              · rw [List.map_append, List.map_append] at hK
                exact hK
            walk_at "wh"
            refine ⟨rfl, ?_⟩
            walk_at "wh"
            refine cl_less q _ hq' (hz i j) ?_
            by_cases hlt : q < ((T i j : Int) : Rat)
            · rw [decide_eq_true hlt]
              exact app _ rfl
            · rw [decide_eq_false hlt]
              have hb' : also = true ∧ ((T i j : Int) : Rat) = q := by simpa [farB, hlt] using hb
              obtain ⟨rfl, he⟩ := hb'
              walk_at "wh"
              refine ⟨rfl, rfl, ?_⟩
              rw [eqD_eQ, decide_eq_true he]
              exact app _ rfl
          · refine ⟨(s.1, some (.d (.int j)), some (.d (eQ ((T i j : Int) : Rat)))), by rw [hrow, if_neg hb, List.append_nil]; exact hi, fun D γ K hK => ?_⟩
            have hb' : ¬ q < ((T i j : Int) : Rat) ∧ (also = true → ¬ ((T i j : Int) : Rat) = q) := by simpa [farB] using hb
            walk_at "wh"
            refine ⟨rfl, ?_⟩
            walk_at "wh"
            refine cl_less q _ hq' (hz i j) ?_
            rw [decide_eq_false hb'.1]
            cases also with
            | false => exact hK
            | true =>
              walk_at "wh"
              refine ⟨rfl, rfl, ?_⟩
              rw [eqD_eQ, decide_eq_false (hb'.2 rfl)]
              exact hK)
        (s.1, s.2.2.2.1, s.2.2.2.2) (by rw [hi]; simp [farRow])
      rw [enumD_len, List.length_map, List.length_range] at h1
      refine ⟨(s1.1, some (.d (.int i)), some (.d (.lst ((List.range m).map fun j => eQ ((T i j : Int) : Rat)))), s1.2), by rw [h1]; unfold farL; rw [List.range_succ, List.flatMap_append]; simp, fun D γ K hK => ?_⟩
      walk_at "wh"
      refine ⟨rfl, ?_⟩
      refine go1 _ γ ?_
      exact hK)
    ([], none, none, none, none) rfl
  rw [enumD_len, show (tabD n m T).length = n by simp [tabD]] at hs'
  refine go _ () ?_
  walk_at "wh"
  refine frz_lst hp ?_
  rw [hs']
  exact okD h
theorem cl_far_pairs {c : Cs} {M : Mh} {Q : Wv → Mh → Prop} {E : EW} {n m : Nat} {T : Nat → Nat → Int} {q : Rat} {also : Bool} (ok : TabOk n m T q) (h : Q (.d (.lst ((farL n m T q also).map eC))) M) : sp_far_pairs c [.d (.lst (tabD n m T)), .d (eQ q), .d (.bl also)] M Q E := by
  unfold sp_far_pairs; rw [pS3]; exact ⟨n, m, T, q, also, rfl, ok, h⟩
end Lw

namespace Lw
open PySem PySem.Spec L2
local macro_rules | `(tactic| walk_at "wp") => `(tactic| try simp only [wSeq, wIf, wRet, wSet, wTest, wOp, wUn, wV, wC, wCall, wCons, wNil, wCB, wTup, wLst, wOrT, wAndT, wNotT, wAndV, wOrV, wNotV, wIfE, wChain, wRaise, wNext, wPar, wDrop, wAsg, wgName, wgTup, wgCons, wgNil, tupOf, wAug, rAddI, rAbs, rMax2, rMin2, rMod, rLt, rGt, rLe, rGe, rCmp, rSub, rAdd, rMul, rDiv, rNeg, rPow, rEq, rNe, rLen, rIxW, rIsN, rNotN, isNonW, wFld, insOf, wMeth, wIsi, rIsi, tyName, startW, List.map, List.length, List.cons_append, List.nil_append, List.append_nil, List.replicate, List.getElem?_cons_zero, List.getElem?_cons_succ, List.set_cons_zero, List.set_cons_succ, bch_true, bch_false, bch_not, bch_dec, allD, Option.map, endsOf, pS1, pS2, pS3, pS4, pS5, atI_zero, atI_one, atI_two, Bool.not_true, Bool.not_false, Nat.reduceAdd, Nat.reduceSub])
local macro_rules | `(tactic| walk_at "wh") => `(tactic| conv => whnf)
local macro_rules | `(tactic| walk_at "wx") => `(tactic| (conv => whnf); repeat (first | (rw [Mh.set_same]; conv => whnf) | ((refine And.intro ?_ ?_; focus (first | ((with_reducible show (_ : Nat) ≤ _); first | exact sl2 | exact sl1 | exact sl3 | exact sl0 | exact sl4 | decide) | ((with_reducible show (_ : Nat) = _); rfl) | ((with_reducible show (_ : Bool) = _); first | rfl | decide +kernel) | ((with_reducible show (_ : Int) < _); first | omega | (simp only [List.length_map]; omega)) | ((with_reducible show (_ : Int) ≤ _); first | omega | (simp only [List.length_map]; omega)) | ((with_reducible show MulOk _ _); first | exact MulOk.nat_l rfl | exact MulOk.nat_r rfl) | ((with_reducible show DivOk _); exact (DivOk.lit rfl rfl)) | ((with_reducible show (_ ∧ _ ∧ Sz _ _)); exact PowOk.lit rfl rfl rfl))); conv => whnf)))
local macro_rules | `(tactic| walk_at "sz") => `(tactic| exact szs (by omega) (by decide))

/-! ### fence_among -/
def StB (m : Int) (k : Cor) : Bool := decide (k.1 = 0) || decide (k.2 = m)
def EnB (n : Int) (k : Cor) : Bool := decide (k.1 = n) || decide (k.2 = 0)
/-- a chain of steps that a fence may take, from a start to k -/
structure FTo (F : List Cor) (m : Int) (k : Cor) (L : List Cor) : Prop where
  last : L.getLast? = some k
  head : ∃ h, L.head? = some h ∧ StB m h = true
  step : ∀ i a b, L[i]? = some a → L[i + 1]? = some b → mayF a b = true
  mem : ∀ x ∈ L, x ∈ F
theorem FTo.one {F : List Cor} {m : Int} {k : Cor} (h : k ∈ F) (hs : StB m k = true) : FTo F m k [k] where
  last := rfl
  head := ⟨k, rfl, hs⟩
  step := fun i a b _ e => by simp at e
  mem := fun x hx => by simp at hx; rw [hx]; exact h
theorem FTo.snoc {F : List Cor} {m : Int} {k l : Cor} {L : List Cor} (h : FTo F m k L) (hl : l ∈ F) (hm : mayF k l = true) : FTo F m l (L ++ [l]) where
  last := by simp
  head := by
    obtain ⟨x, hx, hs⟩ := h.head
    refine ⟨x, ?_, hs⟩
    cases L with
    | nil => cases hx
    | cons a L => exact hx
  step := fun i a b ea eb => by
    have hlen := (List.getElem?_eq_some_iff.mp eb).1
    simp at hlen
    by_cases hi : i + 1 < L.length
    · rw [List.getElem?_append_left hi] at eb
      rw [List.getElem?_append_left (by omega)] at ea
      exact h.step i a b ea eb
    · have hi' : i + 1 = L.length := by omega
      rw [List.getElem?_append_right (by omega)] at eb
      have : i + 1 - L.length = 0 := by omega
      rw [this] at eb
      cases eb
      rw [List.getElem?_append_left (by omega)] at ea
      have := h.last
      rw [List.getLast?_eq_getElem?] at this
      rw [show L.length - 1 = i by omega, ea] at this
      cases this
      exact hm
  mem := fun x hx => by
    rcases List.mem_append.mp hx with hx | hx
    · exact h.mem x hx
    · simp at hx; rw [hx]; exact hl
theorem IsTrace.put {A : HA} {j : Cor} {w : Option Cor} (hj : lk A j = none) : ∀ {v : Option Cor} {L : List Cor}, IsTrace A v L → IsTrace (put A j w) v L := by
  intro v L h
  induction h with
  | nil => exact .nil
  | @cons k v L e _ ih =>
    refine .cons ?_ ih
    rw [lk_put]
    have : k ≠ j := by intro z; rw [z, hj] at e; cases e
    rw [if_neg this]; exact e
def unk (F : List Cor) (A : HA) : Nat := F.countP fun k => (lk A k).isNone
theorem unk_put {F : List Cor} {A : HA} {j : Cor} {v : Option Cor} (hj : lk A j = none) (hm : j ∈ F) : unk F (put A j v) + 1 ≤ unk F A := by
  unfold unk
  induction F with
  | nil => cases hm
  | cons k F ih =>
    have hle : ∀ F : List Cor, F.countP (fun k => (lk (put A j v) k).isNone) ≤ F.countP (fun k => (lk A k).isNone) := by
      intro F
      apply List.countP_mono_left
      intro x _ hx
      rw [lk_put] at hx
      split at hx
      · simp at hx
      · exact hx
    rw [List.countP_cons, List.countP_cons]
    by_cases e : k = j
    · subst e
      have h1 : (lk (put A k v) k).isNone = false := by rw [lk_put, if_pos rfl]; rfl
      have h2 : (lk A k).isNone = true := by rw [hj]; rfl
      rw [h1, h2]
      have := hle F
      simp
      omega
    · have hmF : j ∈ F := by
        rcases List.mem_cons.mp hm with h | h
        · exact absurd h.symm e
        · exact h
      have := ih hmF
      rw [lk_put, if_neg e]
      omega
/-- what is known of the pairs that wait -/
structure FI (F : List Cor) (m : Int) (W : List Cor) (A : HA) : Prop where
  keys : ∀ k, (lk A k).isSome = true ↔ k ∈ W
  sub : ∀ k ∈ W, k ∈ F
  tr : ∀ k ∈ W, ∃ L, IsTrace A (some k) L ∧ L.length ≤ W.length ∧ FTo F m k L
  starts : ∀ k ∈ F, StB m k = true → k ∈ W
  lenA : A.length ≤ W.length
  lenW : W.length + unk F A ≤ 2 * F.length
theorem FI.add {F : List Cor} {m : Int} {W : List Cor} {A : HA} {k l : Cor} (h : FI F m W A) (hk : k ∈ W) (hl : l ∈ F) (hn : (lk A l).isSome = false) (hm : mayF k l = true) : FI F m (W ++ [l]) (put A l (some k)) where
  keys := fun x => by
    rw [lk_put, List.mem_append]
    by_cases e : x = l
    · subst e; simp
    · rw [if_neg e, h.keys]; simp [e]
  sub := fun x hx => by
    rcases List.mem_append.mp hx with hx | hx
    · exact h.sub x hx
    · simp at hx; rw [hx]; exact hl
  tr := fun x hx => by
    have hn' : lk A l = none := by simpa using hn
    have old : ∀ y ∈ W, ∃ L, IsTrace (put A l (some k)) (some y) L ∧ L.length ≤ W.length ∧ FTo F m y L := by
      intro y hy
      obtain ⟨L, h1, h2, h3⟩ := h.tr y hy
      exact ⟨L, h1.put hn', h2, h3⟩
    rcases List.mem_append.mp hx with hx | hx
    · obtain ⟨L, h1, h2, h3⟩ := old x hx
      exact ⟨L, h1, by simp; omega, h3⟩
    · simp at hx
      subst hx
      obtain ⟨L, h1, h2, h3⟩ := old k hk
      exact ⟨L ++ [x], .cons (by rw [lk_put, if_pos rfl]) h1, by simp; omega, h3.snoc hl hm⟩
  starts := fun x hx hs => List.mem_append_left _ (h.starts x hx hs)
  lenA := by rw [len_put]; have := h.lenA; split <;> simp <;> omega
  lenW := by
    have := unk_put (v := some k) (show lk A l = none by simpa using hn) hl
    have := h.lenW
    simp
    omega
/-- what fence_among tells -/
structure FClosed (F : List Cor) (n m : Int) (W : List Cor) : Prop where
  sub : ∀ k ∈ W, k ∈ F
  starts : ∀ k ∈ F, StB m k = true → k ∈ W
  noend : ∀ k ∈ W, EnB n k = false
  closed : ∀ k ∈ W, ∀ l ∈ F, mayF k l = true → l ∈ W
def FPost (F : List Cor) (n m : Int) : Option (List Cor) → Prop
  | some L => ∃ k, FTo F m k L ∧ EnB n k = true ∧ L.length ≤ 2 * F.length
  | none => ∃ W, FClosed F n m W
def N_fence_among : List Str := ["far", "n", "m", "waiting", "pair", "ahead", "at", "here"]
def b1_fence_among (c : Cs) : WS :=
  (wDPut (wC .non) (wV 5) (wV 4))
def b2_fence_among (c : Cs) : WS :=
  (wIf (wAndT (wTest (wOp (rDIn true) (wV 4) (wV 5))) (wTest (wCall (sp_may_follow c) [] (wCons (wV 7) (wCons (wV 4) wNil)))))
  (wSeq (wDPut (wV 7) (wV 5) (wV 4))
  (wDrop (wBM "list" mAppend (wV 3) (wCons (wV 4) wNil))))
  wNext)
def b3_fence_among (c : Cs) : WS :=
  (wSeq (wSet 7 (wOp rIxW (wV 3) (wV 6)))
  (wSeq (wIf (wOrT (wTest (wOp rEq (wOp rIxW (wV 7) (wC (.int 0))) (wV 1))) (wTest (wOp rEq (wOp rIxW (wV 7) (wC (.int 1))) (wC (.int 0)))))
  (wRet (wCall (sp_traced c) [] (wCons (wFz (wV 5)) (wCons (wV 7) wNil))))
  wNext)
  (wSeq (wFor (wiList (wV 0)) (wgName 4) (b2_fence_among c))
  (wAug 6 rAddI (wC (.int 1))))))
def t_fence_among (c : Cs) : WS :=
  (wSeq (wSet 3 (wLc (wiList (wV 0)) (wgName 4) (wOrT (wTest (wOp rEq (wOp rIxW (wV 4) (wC (.int 0))) (wC (.int 0)))) (wTest (wOp rEq (wOp rIxW (wV 4) (wC (.int 1))) (wV 2)))) (wV 4) [4]))
  (wSeq (wSet 5 wDNew)
  (wSeq (wForC (wV 3) (wgName 4) (b1_fence_among c))
  (wSeq (wSet 6 (wC (.int 0)))
  (wSeq (wWhile (wTest (wOp rLt (wV 6) (wCB rLen (wCons (wV 3) wNil)))) (b3_fence_among c))
  (wRet (wC .non)))))))

structure FG where
  M : Mh
  w : Addr
  p : Addr
  ne : w ≠ p
  fw : M w = none
  fp : M p = none
def FG.mem (γ : FG) (W : List Cor) (A : HA) : Mh := (γ.M.set γ.w (.lst ((W.map eC).map .d))).set γ.p (.dT (encW A))
theorem FG.at_w (γ : FG) {W : List Cor} {A : HA} : γ.mem W A γ.w = some (.lst ((W.map eC).map .d)) := by unfold FG.mem; rw [Mh.set_ne γ.ne, Mh.set_same]
theorem FG.at_p (γ : FG) {W : List Cor} {A : HA} : γ.mem W A γ.p = some (.dT (encW A)) := by unfold FG.mem; rw [Mh.set_same]
theorem FG.set_p (γ : FG) {W : List Cor} {A B : HA} : (γ.mem W A).set γ.p (.dT (encW B)) = γ.mem W B := by unfold FG.mem; rw [Mh.set_set]
theorem FG.set_w (γ : FG) {W V : List Cor} {A : HA} : (γ.mem W A).set γ.w (.lst ((V.map eC).map .d)) = γ.mem V A := by unfold FG.mem; rw [Mh.set_comm (Ne.symm γ.ne), Mh.set_set]
theorem FG.sub (γ : FG) {W : List Cor} {A : HA} : Sub γ.M (γ.mem W A) := by
  unfold FG.mem
  refine (Sub.set γ.fw).trans (Sub.set ?_)
  rw [Mh.set_ne (Ne.symm γ.ne)]; exact γ.fp
def rhoF (F : List Cor) (n m : Int) (γ : FG) (pair at_ here : Option Wv) : Rho := [some (.d (.lst (F.map eC))), some (.d (.int n)), some (.d (.int m)), some (.c γ.w), pair, some (.c γ.p), at_, here]
def finF (r : Option (List Cor)) (γ : FG) (D : WEnds) : Prop := match r with
  | some L => ∀ p' M', Sub γ.M M' → M' p' = none → D.rt (.c p') (M'.set p' (.lst ((ePls L).map .d)))
  | none => ∀ σ M', Sub γ.M M' → D.nx σ M'
theorem FG.del_p (γ : FG) {W : List Cor} {A : HA} : (γ.mem W A).del γ.p = γ.M.set γ.w (.lst ((W.map eC).map .d)) := by
  unfold FG.mem; rw [Mh.del_set]; rw [Mh.set_ne (Ne.symm γ.ne)]; exact γ.fp
theorem ex_fence (c : Cs) (F : List Cor) (n m : Int) (hF : F.length ≤ 10000) :
    ∃ r, FPost F n m r ∧ ∀ M Q E, (match r with | some L => newL M Q (ePls L) | none => Q (.d .non) M) → t_fence_among c (endsOf Q E) (startW N_fence_among [.d (.lst (F.map eC)), .d (.int n), .d (.int m)]) M := by
  have hW0 : (F.filter (StB m)).length ≤ F.length := List.length_filter_le ..
  obtain ⟨s1, ⟨h1, h1l⟩, go1⟩ := forC_fold (Γ := FG) (S := HA × Option Wv) (g := wgName 4) (tb := b1_fence_among c) (((F.filter (StB m)).map eC).map .d)
    (fun i s => (∀ k, lk s.1 k = if k ∈ (F.filter (StB m)).take i then some none else none) ∧ s.1.length ≤ i) (fun γ s => rhoF F n m γ s.2 none none) (fun γ s => γ.mem (F.filter (StB m)) s.1) (fun γ => γ.w)
    (fun γ s => γ.at_w)
    (fun i x s hx hi => by
      have hlt : i < (F.filter (StB m)).length := by
        have := (List.getElem?_eq_some_iff.mp hx).1
        simpa using this
      rw [List.getElem?_map, List.getElem?_map, List.getElem?_eq_getElem hlt] at hx
      cases hx
      refine ⟨(put s.1 (F.filter (StB m))[i] none, some (.d (eC (F.filter (StB m))[i]))), ⟨fun k => ?_, ?_⟩, fun D γ K hK => ?_⟩
      · rw [lk_put, hi.1, List.take_succ_eq_append_getElem hlt]
        by_cases e : k = (F.filter (StB m))[i]
        · simp only [List.mem_append, List.mem_singleton, e, or_true, if_true]
        · rw [if_neg e]
          simp only [List.mem_append, List.mem_singleton, e, or_false]
      · rw [len_put]; have := hi.2; split <;> omega
      · walk_at "wh"
        refine dput_c (en := eO) (v := none) γ.at_p (sl_of (by have := hi.2; omega)) ?_
        rw [γ.set_p]
        exact hK)
    ([], none) ⟨fun k => by simp [lk], by simp⟩
  rw [List.length_map, List.length_map, List.take_length] at h1
  rw [List.length_map, List.length_map] at h1l
  have i0 : FI F m (F.filter (StB m)) s1.1 := {
    keys := fun k => by rw [h1]; split <;> simp [*]
    sub := fun k hk => (List.mem_filter.mp hk).1
    tr := fun k hk => ⟨[k], .cons (L := []) (by rw [h1, if_pos hk]) .nil, List.length_pos_of_mem hk, .one (List.mem_filter.mp hk).1 (List.mem_filter.mp hk).2⟩
    starts := fun k hk hs => List.mem_filter.mpr ⟨hk, hs⟩
    lenA := h1l
    lenW := by
      have : unk F s1.1 ≤ F.length := List.countP_le_length
      omega }
  obtain ⟨r, hr, go⟩ := while_run (Γ := FG) (S := List Cor × HA × Nat × (Option Wv × Option Wv)) (R := Option (List Cor)) (wc := wTest (wOp rLt (wV 6) (wCB rLen (wCons (wV 3) wNil)))) (tb := b3_fence_among c)
    (fun s => FI F m s.1 s.2.1 ∧ s.2.2.1 ≤ s.1.length ∧ ∀ i k, i < s.2.2.1 → s.1[i]? = some k → EnB n k = false ∧ ∀ l ∈ F, mayF k l = true → l ∈ s.1)
    (fun s => s.1.length - s.2.2.1 + unk F s.2.1)
    (fun γ s => rhoF F n m γ s.2.2.2.1 (some (.d (.int s.2.2.1))) s.2.2.2.2) (fun γ s => γ.mem s.1 s.2.1) (FPost F n m) finF
    (fun s hi => by
      obtain ⟨hI, hat, hdone⟩ := hi
      have hlen : ((s.1.map eC).map Wv.d).length = s.1.length := by simp
      by_cases hlt : s.2.2.1 < s.1.length
      · have hk : s.1[s.2.2.1]? = some (s.1[s.2.2.1]) := List.getElem?_eq_getElem hlt
        generalize hkk : s.1[s.2.2.1] = k at hk
        have hkm : k ∈ s.1 := List.mem_of_getElem? hk
        have hix : L2.atI ((s.1.map eC).map Wv.d) (s.2.2.1 : Nat) = some (.d (eC k)) := atI_of (k := s.2.2.1) rfl (by rw [List.getElem?_map, List.getElem?_map, hk]; rfl)
        by_cases hend : EnB n k = true
        · obtain ⟨L, ht, hl, hf⟩ := hI.tr k hkm
          have hw := hI.lenW
          refine .inr ⟨some L, ⟨k, hf, hend, by omega⟩, fun D γ K h => ?_⟩
          walk_at "wh"
          rw [γ.at_w]
          walk_at "wh"
          rw [hlen]
          show bch (decide ((s.2.2.1 : Int) < (s.1.length : Int))) _ _
          rw [decide_eq_true (by omega)]
          walk_at "wh"
          rw [γ.at_w]
          walk_at "wh"
          rw [hix]
          walk_at "wh"
          refine ⟨rfl, rfl, ?_⟩
          have trc : ∀ σ, σ = rhoF F n m γ s.2.2.2.1 (some (.d (.int s.2.2.1))) (some (.d (eC k))) → (wRet (wCall (sp_traced c) [] (wCons (wFz (wV 5)) (wCons (wV 7) wNil)))) { D with nx := K, ct := K, bk := D.nx } σ (γ.mem s.1 s.2.1) := by
            rintro σ rfl
            walk_at "wh"
            refine frz_dct (M := γ.M.set γ.w (.lst ((s.1.map eC).map .d))) (by rw [Mh.set_ne (Ne.symm γ.ne)]; exact γ.fp) ?_
            walk_at "wh"
            refine cl_traced (by omega) ht fun p' hp' => h p' _ (Sub.set γ.fw) hp'
          show bch (decide (k.1 = n)) _ _
          by_cases h1 : k.1 = n
          · rw [decide_eq_true h1]
            exact trc _ rfl
          · rw [decide_eq_false h1]
            have h2 : k.2 = 0 := by simpa [EnB, h1] using hend
            walk_at "wh"
            refine ⟨rfl, rfl, ?_⟩
            show bch (decide (k.2 = 0)) _ _
            rw [decide_eq_true h2]
            exact trc _ rfl
        · have hend' : ¬ k.1 = n ∧ ¬ k.2 = 0 := by simpa [EnB] using hend
          obtain ⟨s2, ⟨h2, ⟨V, hV⟩, h2d, h2m⟩, go2⟩ := for_fold (Γ := FG) (S := List Cor × HA × Option Wv) (g := wgName 4) (tb := b2_fence_among c) ((F.map eC).map .d)
            (fun i z => FI F m z.1 z.2.1 ∧ (∃ V, z.1 = s.1 ++ V) ∧ (∀ j l, j < i → F[j]? = some l → mayF k l = true → l ∈ z.1) ∧ z.1.length + unk F z.2.1 ≤ s.1.length + unk F s.2.1)
            (fun γ z => rhoF F n m γ z.2.2 (some (.d (.int s.2.2.1))) (some (.d (eC k)))) (fun γ z => γ.mem z.1 z.2.1)
            (fun i x z hx hz => by
              obtain ⟨z1, ⟨V, z2⟩, z3, z4⟩ := hz
              have hlt : i < F.length := by
                have := (List.getElem?_eq_some_iff.mp hx).1
                simpa using this
              have hl : F[i]? = some F[i] := List.getElem?_eq_getElem hlt
              generalize F[i] = l at hl
              rw [List.getElem?_map, List.getElem?_map, hl] at hx
              cases hx
              have hlm : l ∈ F := List.mem_of_getElem? hl
              have hkz : k ∈ z.1 := by rw [z2]; exact List.mem_append_left _ hkm
              by_cases hs : (lk z.2.1 l).isSome = true
              · refine ⟨(z.1, z.2.1, some (.d (eC l))), ⟨z1, ⟨V, z2⟩, fun j l' hj hl' hm' => ?_, z4⟩, fun D γ K hK => ?_⟩
                · by_cases hji : j < i
                  · exact z3 j l' hji hl' hm'
                  · have : j = i := by omega
                    subst this
                    rw [hl] at hl'; cases hl'
                    exact (z1.keys l).mp hs
                · walk_at "wh"
                  refine din_c γ.at_p ?_
                  simp only [hs]
                  walk_at "wh"
                  exact hK
              · have hs' : (lk z.2.1 l).isSome = false := by simpa using hs
                by_cases hm : mayF k l = true
                · refine ⟨(z.1 ++ [l], put z.2.1 l (some k), some (.d (eC l))), ⟨z1.add hkz hlm hs' hm, ⟨V ++ [l], by rw [z2, List.append_assoc]⟩, fun j l' hj hl' hm' => ?_, ?_⟩, fun D γ K hK => ?_⟩
                  · by_cases hji : j < i
                    · exact List.mem_append_left _ (z3 j l' hji hl' hm')
                    · have : j = i := by omega
                      subst this
                      rw [hl] at hl'; cases hl'
                      simp
                  · have := unk_put (v := some k) (show lk z.2.1 l = none by simpa using hs') hlm
                    simp
                    omega
                  · walk_at "wh"
                    refine din_c γ.at_p ?_
                    simp only [hs']
                    walk_at "wh"
                    refine cl_may_follow k l ?_
                    rw [hm]
                    walk_at "wh"
                    refine dput_c (en := eO) (v := some k) γ.at_p (sl_of (by have := z1.lenA; have := z1.lenW; omega)) ?_
                    rw [γ.set_p]
                    walk_at "wh"
                    refine ⟨tyW_lst γ.at_w, ?_⟩
                    walk_at "wh"
                    refine ap_ok γ.at_w (sl_of (by have := z1.lenW; simp; omega)) ?_
                    rw [show (z.1.map eC).map Wv.d ++ [.d (eC l)] = ((z.1 ++ [l]).map eC).map .d by simp, γ.set_w]
                    exact hK
                · have hm' : mayF k l = false := by simpa using hm
                  refine ⟨(z.1, z.2.1, some (.d (eC l))), ⟨z1, ⟨V, z2⟩, fun j l' hj hl' hm2 => ?_, z4⟩, fun D γ K hK => ?_⟩
                  · by_cases hji : j < i
                    · exact z3 j l' hji hl' hm2
                    · have : j = i := by omega
                      subst this
                      rw [hl] at hl'; cases hl'
                      rw [hm'] at hm2; cases hm2
                  · walk_at "wh"
                    refine din_c γ.at_p ?_
                    simp only [hs']
                    walk_at "wh"
                    refine cl_may_follow k l ?_
                    rw [hm']
                    walk_at "wh"
                    exact hK)
            (s.1, s.2.1, s.2.2.2.1) ⟨hI, ⟨[], by simp⟩, fun j l hj => absurd hj (Nat.not_lt_zero _), Nat.le_refl _⟩
          rw [List.length_map, List.length_map] at h2d
          have hpre : ∀ i x, s.1[i]? = some x → s2.1[i]? = some x := fun i x hx => by
            rw [hV, List.getElem?_append_left (List.getElem?_eq_some_iff.mp hx).1]; exact hx
          have hlen2 : s.1.length ≤ s2.1.length := by rw [hV]; simp
          refine .inl ⟨(s2.1, s2.2.1, s.2.2.1 + 1, s2.2.2, some (.d (eC k))), ⟨h2, by show s.2.2.1 + 1 ≤ s2.1.length; omega, fun i x hi hx => ?_⟩, by show s2.1.length - (s.2.2.1 + 1) + unk F s2.2.1 < _; omega, fun D γ K hK => ?_⟩
          · have hi : i < s.2.2.1 + 1 := hi
            by_cases hi2 : i < s.2.2.1
            · have hx2 : s.1[i]? = some x := by
                have : s.1[i]? = some s.1[i] := List.getElem?_eq_getElem (by omega)
                have h3 := hpre i _ this
                rw [show s2.1[i]? = some x from hx] at h3
                rw [this, ← h3]
              obtain ⟨e1, e2⟩ := hdone i x hi2 hx2
              exact ⟨e1, fun l hl hm => by show l ∈ s2.1; rw [hV]; exact List.mem_append_left _ (e2 l hl hm)⟩
            · have : i = s.2.2.1 := by omega
              subst this
              have h3 := hpre _ _ hk
              rw [show s2.1[s.2.2.1]? = some x from hx] at h3
              cases h3
              refine ⟨by simpa using hend, fun l hl hm => ?_⟩
              obtain ⟨j, hj⟩ := List.mem_iff_getElem?.mp hl
              exact h2d j l (List.getElem?_eq_some_iff.mp hj).1 hj hm
          · walk_at "wh"
            rw [γ.at_w]
            walk_at "wh"
            rw [hlen]
            show bch (decide ((s.2.2.1 : Int) < (s.1.length : Int))) _ _
            rw [decide_eq_true (by omega)]
            walk_at "wh"
            rw [γ.at_w]
            walk_at "wh"
            rw [hix]
            walk_at "wh"
            refine ⟨rfl, rfl, ?_⟩
            show bch (decide (k.1 = n)) _ _
            rw [decide_eq_false hend'.1]
            walk_at "wh"
            refine ⟨rfl, rfl, ?_⟩
            show bch (decide (k.2 = 0)) _ _
            rw [decide_eq_false hend'.2]
            walk_at "wh"
            refine go2 _ γ ?_
            walk_at "wh"
            exact hK
      · refine .inr ⟨none, ⟨s.1, hI.sub, hI.starts, fun k hk => ?_, fun k hk => ?_⟩, fun D γ K h => ?_⟩
        · obtain ⟨i, hi⟩ := List.mem_iff_getElem?.mp hk
          exact (hdone i k (by have := (List.getElem?_eq_some_iff.mp hi).1; omega) hi).1
        · obtain ⟨i, hi⟩ := List.mem_iff_getElem?.mp hk
          exact (hdone i k (by have := (List.getElem?_eq_some_iff.mp hi).1; omega) hi).2
        · walk_at "wh"
          rw [γ.at_w]
          walk_at "wh"
          rw [hlen]
          show bch (decide ((s.2.2.1 : Int) < (s.1.length : Int))) _ _
          rw [decide_eq_false (by omega)]
          exact h _ _ γ.sub)
    (F.filter (StB m), s1.1, 0, s1.2, none) ⟨i0, Nat.zero_le _, fun i k h => absurd h (Nat.not_lt_zero _)⟩
  refine ⟨r, hr, fun M Q E h => ?_⟩
  walk_at "wh"
  intro w hw
  rw [show (F.map eC).map Wv.d = F.map (fun k => .d (eC k)) by rw [List.map_map]; rfl]
  refine lc_map (fun k => .d (eC k)) (StB m) eC M _ F [] (fun k _ M T Fq hT hFq => ?_) (by simpa using sle_of (by omega)) ?_
  · walk_at "wh"
    refine ⟨rfl, rfl, ?_⟩
    show bch (decide (k.1 = 0)) _ _
    by_cases h1 : k.1 = 0
    · rw [decide_eq_true h1]
      exact hT (by simp [StB, h1])
    · rw [decide_eq_false h1]
      walk_at "wh"
      refine ⟨rfl, rfl, ?_⟩
      show bch (decide (k.2 = m)) _ _
      by_cases h2 : k.2 = m
      · rw [decide_eq_true h2]
        exact hT (by simp [StB, h2])
      · rw [decide_eq_false h2]
        exact hFq (by simp [StB, h1, h2])
  · walk_at "wh"
    intro p hp
    have hpw := fresh_ne hp
    have hpM := fresh_old hp
    let γ : FG := ⟨M, w, p, Ne.symm hpw, hw, hpM⟩
    have e1 : (M.set w (.lst ([] ++ ((F.filter (StB m)).map fun y => Wv.d (eC y))))).set p (.dT []) = γ.mem (F.filter (StB m)) [] := by
      show _ = (M.set w (.lst (((F.filter (StB m)).map eC).map .d))).set p (.dT [])
      rw [List.map_map]; rfl
    rw [e1]
    walk_at "wh"
    refine go1 _ γ ?_
    walk_at "wh"
    refine go _ γ ?_
    cases r with
    | some L =>
      intro p' M' hsub hp'
      exact ⟨M.set p' (.lst ((ePls L).map .d)), Sub.set2 hsub, h p' (hsub.none hp')⟩
    | none =>
      intro σ M' hsub
      exact ⟨M, hsub, h⟩
end Lw

namespace Lw
open PySem PySem.Spec L2
local macro_rules | `(tactic| walk_at "wp") => `(tactic| try simp only [wSeq, wIf, wRet, wSet, wTest, wOp, wUn, wV, wC, wCall, wCons, wNil, wCB, wTup, wLst, wOrT, wAndT, wNotT, wAndV, wOrV, wNotV, wIfE, wChain, wRaise, wNext, wPar, wDrop, wAsg, wgName, wgTup, wgCons, wgNil, tupOf, wAug, rAddI, rAbs, rMax2, rMin2, rMod, rLt, rGt, rLe, rGe, rCmp, rSub, rAdd, rMul, rDiv, rNeg, rPow, rEq, rNe, rLen, rIxW, rIsN, rNotN, isNonW, wFld, insOf, wMeth, wIsi, rIsi, tyName, startW, List.map, List.length, List.cons_append, List.nil_append, List.append_nil, List.replicate, List.getElem?_cons_zero, List.getElem?_cons_succ, List.set_cons_zero, List.set_cons_succ, bch_true, bch_false, bch_not, bch_dec, allD, Option.map, endsOf, pS1, pS2, pS3, pS4, pS5, atI_zero, atI_one, atI_two, Bool.not_true, Bool.not_false, Nat.reduceAdd, Nat.reduceSub])
local macro_rules | `(tactic| walk_at "wh") => `(tactic| conv => whnf)
local macro_rules | `(tactic| walk_at "wx") => `(tactic| (conv => whnf); repeat (first | (rw [Mh.set_same]; conv => whnf) | ((refine And.intro ?_ ?_; focus (first | ((with_reducible show (_ : Nat) ≤ _); first | exact sl2 | exact sl1 | exact sl3 | exact sl0 | exact sl4 | decide) | ((with_reducible show (_ : Nat) = _); rfl) | ((with_reducible show (_ : Bool) = _); first | rfl | decide +kernel) | ((with_reducible show (_ : Int) < _); first | omega | (simp only [List.length_map]; omega)) | ((with_reducible show (_ : Int) ≤ _); first | omega | (simp only [List.length_map]; omega)) | ((with_reducible show MulOk _ _); first | exact MulOk.nat_l rfl | exact MulOk.nat_r rfl) | ((with_reducible show DivOk _); exact (DivOk.lit rfl rfl)) | ((with_reducible show (_ ∧ _ ∧ Sz _ _)); exact PowOk.lit rfl rfl rfl))); conv => whnf)))
local macro_rules | `(tactic| walk_at "sz") => `(tactic| exact szs (by omega) (by decide))

/-! ### the results -/
noncomputable def reachedA (c : Cs) (n m : Nat) (T : Nat → Nat → Int) (q : Rat) : HA :=
  open Classical in if h : TabOk n m T q then Classical.choose (ex_reached c n m T q h.hn h.hm h.ln h.lm h.hT h.hq) else []
theorem reachedA_post {c : Cs} {n m : Nat} {T : Nat → Nat → Int} {q : Rat} (h : TabOk n m T q) : RPost n m T q (reachedA c n m T q) := by
  unfold reachedA; rw [dif_pos h]; exact (Classical.choose_spec (ex_reached c n m T q h.hn h.hm h.ln h.lm h.hT h.hq)).1
@[irreducible] def sp_reached (c : Cs) : SpW := pS 2 fun ds Q _ => ∃ n m T q, ds = [.lst (tabD n m T), eQ q] ∧ TabOk n m T q ∧ Q (.dct (encA (reachedA c n m T q)))
theorem pu_reached (c : Cs) : ∀ ws M Q E, sp_reached c ws M Q E → t_reached c (endsOf Q E) (startW N_reached ws) M := by
  intro ws M Q E h; unfold sp_reached at h; replace h := pS_out h
  obtain ⟨ds, rfl, hl, n, m, T, q, rfl, ok, h⟩ := h
  unfold reachedA at h; rw [dif_pos ok] at h
  exact (Classical.choose_spec (ex_reached c n m T q ok.hn ok.hm ok.ln ok.lm ok.hT ok.hq)).2 M Q E h
/-- a new list, or None -/
def optL (M : Mh) (Q : Wv → Mh → Prop) : Option (List Cor) → Prop
  | some L => newL M Q (ePls L)
  | none => Q (.d .non) M
noncomputable def fenceR (c : Cs) (F : List Cor) (n m : Int) : Option (List Cor) :=
  open Classical in if h : F.length ≤ 10000 then Classical.choose (ex_fence c F n m h) else none
theorem fenceR_post {c : Cs} {F : List Cor} {n m : Int} (h : F.length ≤ 10000) : FPost F n m (fenceR c F n m) := by
  unfold fenceR; rw [dif_pos h]; exact (Classical.choose_spec (ex_fence c F n m h)).1
@[irreducible] def sp_fence_among (c : Cs) : SpW := fun ws M Q E => ∃ F n m, ws = [.d (.lst (F.map eC)), .d (.int n), .d (.int m)] ∧ F.length ≤ 10000 ∧ optL M Q (fenceR c F n m)
theorem len_fence_among (c : Cs) : ∀ ws M Q E, sp_fence_among c ws M Q E → ws.length = 3 := by
  intro ws M Q E h; unfold sp_fence_among at h
  obtain ⟨F, n, m, rfl, _⟩ := h; rfl
theorem pu_fence_among (c : Cs) : ∀ ws M Q E, sp_fence_among c ws M Q E → t_fence_among c (endsOf Q E) (startW N_fence_among ws) M := by
  intro ws M Q E h; unfold sp_fence_among at h
  obtain ⟨F, n, m, rfl, hF, h⟩ := h
  unfold fenceR at h; rw [dif_pos hF] at h
  exact (Classical.choose_spec (ex_fence c F n m hF)).2 M Q E h
/-! ### the way back -/
/-- a path of hops from (0, 0) to k -/
structure HPath (A : HA) (k : Cor) (L : List Cor) : Prop where
  last : L.getLast? = some k
  head : L.head? = some (cN 0 0)
  step : ∀ i a b, L[i]? = some a → L[i + 1]? = some b → Hop a b
  mem : ∀ x ∈ L, (lk A x).isSome = true
theorem HPath.snoc {A : HA} {k l : Cor} {L : List Cor} (h : HPath A k L) (hl : (lk A l).isSome = true) (hm : Hop k l) : HPath A l (L ++ [l]) where
  last := by simp
  head := by
    have hx := h.head
    cases L with
    | nil => cases hx
    | cons a L => exact hx
  step := fun i a b ea eb => by
    have hlen := (List.getElem?_eq_some_iff.mp eb).1
    simp at hlen
    by_cases hi : i + 1 < L.length
    · rw [List.getElem?_append_left hi] at eb
      rw [List.getElem?_append_left (by omega)] at ea
      exact h.step i a b ea eb
    · have hi' : i + 1 = L.length := by omega
      rw [List.getElem?_append_right (by omega)] at eb
      have : i + 1 - L.length = 0 := by omega
      rw [this] at eb
      cases eb
      rw [List.getElem?_append_left (by omega)] at ea
      have := h.last
      rw [List.getLast?_eq_getElem?] at this
      rw [show L.length - 1 = i by omega, ea] at this
      cases this
      exact hm
  mem := fun x hx => by
    rcases List.mem_append.mp hx with hx | hx
    · exact h.mem x hx
    · simp at hx; rw [hx]; exact hl
theorem trace_ex {n m : Nat} {T : Nat → Nat → Int} {q : Rat} {A : HA} (P : RPost n m T q A) : ∀ (s x y : Nat), x + y ≤ s → (lk A (cN x y)).isSome = true → ∃ L, IsTrace A (some (cN x y)) L ∧ L.length ≤ x + y + 1 ∧ HPath A (cN x y) L := by
  intro s
  induction s with
  | zero =>
    intro x y hs h
    have : x = 0 := by omega
    have : y = 0 := by omega
    subst_vars
    obtain ⟨v, e⟩ := Option.isSome_iff_exists.mp h
    cases v with
    | none => exact ⟨[cN 0 0], .cons (L := []) e .nil, by simp, ⟨rfl, rfl, fun i a b _ e => by simp at e, fun x hx => by simp at hx; rw [hx]; exact h⟩⟩
    | some p =>
      obtain ⟨h1, h2⟩ := P.inv.prev _ _ e
      obtain ⟨w, ew⟩ := Option.isSome_iff_exists.mp h1
      obtain ⟨a, b, rfl, _⟩ := P.inv.only _ _ ew
      simp only [Hop, cN] at h2
      omega
  | succ s ih =>
    intro x y hs h
    obtain ⟨v, e⟩ := Option.isSome_iff_exists.mp h
    cases v with
    | none =>
      have := P.inv.first _ e
      obtain ⟨rfl, rfl⟩ := cN_inj this
      exact ⟨[cN 0 0], .cons (L := []) e .nil, by simp, ⟨rfl, rfl, fun i a b _ e => by simp at e, fun x hx => by simp at hx; rw [hx]; exact h⟩⟩
    | some p =>
      obtain ⟨h1, h2⟩ := P.inv.prev _ _ e
      obtain ⟨w, ew⟩ := Option.isSome_iff_exists.mp h1
      obtain ⟨a, b, rfl, _⟩ := P.inv.only _ _ ew
      have h2' := h2
      simp only [Hop, cN] at h2
      obtain ⟨L, hL1, hL2, hL3⟩ := ih a b (by omega) h1
      exact ⟨L ++ [cN x y], .cons e hL1, by simp; omega, hL3.snoc h h2'⟩
noncomputable def traceA (A : HA) (k : Cor) : List Cor := open Classical in if h : ∃ L, IsTrace A (some k) L then Classical.choose h else []
theorem IsTrace.uniq {A : HA} {v : Option Cor} {L : List Cor} (h : IsTrace A v L) : ∀ {L'}, IsTrace A v L' → L = L' := by
  induction h with
  | nil => intro L' h; cases h; rfl
  | cons e _ ih =>
    intro L' h
    cases h with
    | cons e2 h2 =>
      rw [e] at e2; cases e2
      rw [ih h2]
theorem traceA_eq {A : HA} {k : Cor} {L : List Cor} (h : IsTrace A (some k) L) : traceA A k = L := by
  unfold traceA
  have h' : ∃ L, IsTrace A (some k) L := ⟨L, h⟩
  rw [dif_pos h']
  exact (Classical.choose_spec h').uniq h
/-! ### hop_walk, hop_fence, go_hops -/
noncomputable def hopWalkR (c : Cs) (one other : Ln) (q : Rat) : Option (List Cor) :=
  if (lk (reachedA c one.length other.length (sqT one other) q) (cN (one.length - 1) (other.length - 1))).isSome = true then some (traceA (reachedA c one.length other.length (sqT one other) q) (cN (one.length - 1) (other.length - 1))) else none
noncomputable def hopFenceR (c : Cs) (one other : Ln) (q : Rat) (also : Bool) : Option (List Cor) :=
  fenceR c (farL one.length other.length (sqT one other) q also) ((one.length : Int) - 1) ((other.length : Int) - 1)
theorem TabOk.of {one other : Ln} {q : Rat} (h1 : LnOk one) (h2 : LnOk other) (hq : Qz 90000 q) : TabOk one.length other.length (sqT one other) q := ⟨h1.ne, h2.ne, h1.le, h2.le, fun i j => sqC_size h1 h2 i j, hq⟩
@[irreducible] def sp_hop_walk (c : Cs) : SpW := fun ws M Q E => ∃ one other q, ws = [.d (eL one), .d (eL other), .d (eQ q)] ∧ LnOk one ∧ LnOk other ∧ Qz 90000 q ∧ optL M Q (hopWalkR c one other q)
@[irreducible] def sp_hop_fence (c : Cs) : SpW := fun ws M Q E => ∃ one other q also, ws = [.d (eL one), .d (eL other), .d (eQ q), .d (.bl also)] ∧ LnOk one ∧ LnOk other ∧ Qz 90000 q ∧ optL M Q (hopFenceR c one other q also)
theorem len_hop_walk (c : Cs) : ∀ ws M Q E, sp_hop_walk c ws M Q E → ws.length = 3 := by
  intro ws M Q E h; unfold sp_hop_walk at h
  obtain ⟨a, b, q, rfl, _⟩ := h; rfl
theorem len_hop_fence (c : Cs) : ∀ ws M Q E, sp_hop_fence c ws M Q E → ws.length = 4 := by
  intro ws M Q E h; unfold sp_hop_fence at h
  obtain ⟨a, b, q, also, rfl, _⟩ := h; rfl
section
variable {c : Cs} {M : Mh} {Q : Wv → Mh → Prop} {E : EW}
theorem cl_squares_of {one other : Ln} (h1 : LnOk one) (h2 : LnOk other) (h : Q (.d (.lst (tabD one.length other.length (sqT one other)))) M) : sp_squares_of c [.d (eL one), .d (eL other)] M Q E := by
  unfold sp_squares_of; rw [pS2]; exact ⟨one, other, rfl, h1, h2, h⟩
theorem cl_reached {n m : Nat} {T : Nat → Nat → Int} {q : Rat} (ok : TabOk n m T q) (h : Q (.d (.dct (encA (reachedA c n m T q)))) M) : sp_reached c [.d (.lst (tabD n m T)), .d (eQ q)] M Q E := by
  unfold sp_reached; rw [pS2]; exact ⟨n, m, T, q, rfl, ok, h⟩
theorem cl_fence_among {F : List Cor} {n m : Int} (hF : F.length ≤ 10000) (h : optL M Q (fenceR c F n m)) : sp_fence_among c [.d (.lst (F.map eC)), .d (.int n), .d (.int m)] M Q E := by
  unfold sp_fence_among; exact ⟨F, n, m, rfl, hF, h⟩
theorem cl_hop_walk {one other : Ln} {q : Rat} (h1 : LnOk one) (h2 : LnOk other) (hq : Qz 90000 q) (h : optL M Q (hopWalkR c one other q)) : sp_hop_walk c [.d (eL one), .d (eL other), .d (eQ q)] M Q E := by
  unfold sp_hop_walk; exact ⟨one, other, q, rfl, h1, h2, hq, h⟩
theorem cl_hop_fence {one other : Ln} {q : Rat} {also : Bool} (h1 : LnOk one) (h2 : LnOk other) (hq : Qz 90000 q) (h : optL M Q (hopFenceR c one other q also)) : sp_hop_fence c [.d (eL one), .d (eL other), .d (eQ q), .d (.bl also)] M Q E := by
  unfold sp_hop_fence; exact ⟨one, other, q, also, rfl, h1, h2, hq, h⟩
end
/-- a list or None is returned as it is -/
theorem optL_ret {M : Mh} {Q : Wv → Mh → Prop} {E : EW} {r : Option (List Cor)} (h : optL M Q r) : optL M (endsOf Q E).rt r := by
  cases r with
  | none => exact okD h
  | some L => exact fun p hp => okD (h p hp)
theorem optL_mono {M : Mh} {Q Q' : Wv → Mh → Prop} {r : Option (List Cor)} (h : optL M Q r) (k : ∀ x M', Q x M' → Q' x M') : optL M Q' r := by
  cases r with
  | none => exact k _ _ h
  | some L => exact fun p hp => k _ _ (h p hp)
def N_hop_walk : List Str := ["one", "other", "square", "ahead", "goal"]
def t_hop_walk (c : Cs) : WS :=
  (wSeq (wSet 3 (wCall (sp_reached c) [] (wCons (wCall (sp_squares_of c) [] (wCons (wV 0) (wCons (wV 1) wNil))) (wCons (wV 2) wNil))))
  (wSeq (wSet 4 (wTup (wCons (wOp rSub (wCB rLen (wCons (wV 0) wNil)) (wC (.int 1))) (wCons (wOp rSub (wCB rLen (wCons (wV 1) wNil)) (wC (.int 1))) wNil))))
  (wSeq (wIf (wTest (wOp (rDIn true) (wV 4) (wV 3)))
  (wRet (wC .non))
  wNext)
  (wRet (wCall (sp_traced c) [] (wCons (wV 3) (wCons (wV 4) wNil)))))))

def N_hop_fence : List Str := ["one", "other", "square", "also", "far"]
def t_hop_fence (c : Cs) : WS :=
  (wSeq (wSet 4 (wCall (sp_far_pairs c) [] (wCons (wCall (sp_squares_of c) [] (wCons (wV 0) (wCons (wV 1) wNil))) (wCons (wV 2) (wCons (wV 3) wNil)))))
  (wRet (wCall (sp_fence_among c) [] (wCons (wV 4) (wCons (wOp rSub (wCB rLen (wCons (wV 0) wNil)) (wC (.int 1))) (wCons (wOp rSub (wCB rLen (wCons (wV 1) wNil)) (wC (.int 1))) wNil))))))

def N_go_hops : List Str := ["one", "other", "square", "walk"]
def t_go_hops (c : Cs) : WS :=
  (wSeq (wDrop (wCall (sp_look_at_square c) [] (wCons (wV 2) wNil)))
  (wSeq (wSet 3 (wCall (sp_hop_walk c) [] (wCons (wV 0) (wCons (wV 1) (wCons (wV 2) wNil)))))
  (wSeq (wIf (wTest (wOp rNotN (wV 3) (wC .non)))
  (wRet (wTupC (wCons (wC (.str "walk")) (wCons (wV 3) wNil))))
  wNext)
  (wRet (wTupC (wCons (wC (.str "fence")) (wCons (wCall (sp_hop_fence c) [] (wCons (wV 0) (wCons (wV 1) (wCons (wV 2) (wCons (wC (.bl false)) wNil))))) wNil)))))))

theorem pu_hop_walk (c : Cs) : ∀ ws M Q E, sp_hop_walk c ws M Q E → t_hop_walk c (endsOf Q E) (startW N_hop_walk ws) M := by
  intro ws M Q E h; unfold sp_hop_walk at h
  obtain ⟨one, other, q, rfl, h1, h2, hq, h⟩ := h
  have ok := TabOk.of h1 h2 hq
  have n0 := h1.ne
  have m0 := h2.ne
  have P := reachedA_post (c := c) ok
  walk_at "wh"
  refine cl_squares_of h1 h2 ?_
  walk_at "wh"
  refine cl_reached ok ?_
  walk_at "wh"
  refine ⟨sl2, ?_⟩
  have eg : Dt.tup [.int (((one.map eC).length : Int) - 1), .int (((other.map eC).length : Int) - 1)] = eC (cN (one.length - 1) (other.length - 1)) := by
    simp only [eC, cN, List.length_map]
    rw [show ((one.length - 1 : Nat) : Int) = (one.length : Int) - 1 by omega, show ((other.length - 1 : Nat) : Int) = (other.length : Int) - 1 by omega]
  unfold hopWalkR at h
  walk_at "wh"
  show rDIn true (.d (Dt.tup [.int (((one.map eC).length : Int) - 1), .int (((other.map eC).length : Int) - 1)])) _ _ _
  rw [eg]
  refine din_d ?_
  by_cases hs : (lk (reachedA c one.length other.length (sqT one other) q) (cN (one.length - 1) (other.length - 1))).isSome = true
  · rw [if_pos hs] at h
    simp only [hs]
    walk_at "wh"
    obtain ⟨L, hL1, hL2, hL3⟩ := trace_ex P _ _ _ (Nat.le_refl _) hs
    have l1 := h1.le
    have l2 := h2.le
    refine cl_traced (L := L) (by omega) hL1 ?_
    rw [traceA_eq hL1] at h
    exact fun p hp => okD (h p hp)
  · rw [if_neg hs] at h
    simp only [hs]
    exact okD h
theorem pu_hop_fence (c : Cs) : ∀ ws M Q E, sp_hop_fence c ws M Q E → t_hop_fence c (endsOf Q E) (startW N_hop_fence ws) M := by
  intro ws M Q E h; unfold sp_hop_fence at h
  obtain ⟨one, other, q, also, rfl, h1, h2, hq, h⟩ := h
  have ok := TabOk.of h1 h2 hq
  walk_at "wh"
  refine cl_squares_of h1 h2 ?_
  walk_at "wh"
  refine cl_far_pairs ok ?_
  walk_at "wh"
  have l1 := h1.le
  have l2 := h2.le
  refine cl_fence_among (F := farL one.length other.length (sqT one other) q also) ?_ ?_
  · have := farL_len (n := one.length) (T := sqT one other) (q := q) (also := also) l2
    omega
  · unfold hopFenceR at h
    rw [show ((one.map eC).length : Int) - 1 = (one.length : Int) - 1 by rw [List.length_map], show ((other.map eC).length : Int) - 1 = (other.length : Int) - 1 by rw [List.length_map]]
    exact optL_ret h
theorem cl_look {c : Cs} {M : Mh} {Q : Wv → Mh → Prop} {E : EW} (d : Dt) (hv : val2 d = true) (h : match asQ d with | some q => (q.num < 0 → E c.NoSquare M) ∧ (¬ q.num < 0 → Q (.d .non) M) | none => E c.NoSquare M) : sp_look_at_square c [.d d] M Q E := by
  unfold sp_look_at_square; rw [pS1]; exact ⟨d, rfl, hv, h⟩
/-- a tuple of a word and a new list, or None -/
def tupL (M : Mh) (Q : Wv → Mh → Prop) (word : Str) : Option (List Cor) → Prop
  | some L => ∀ a p, M a = none → M p = none → p ≠ a → Q (.c p) ((M.set a (.lst ((ePls L).map .d))).set p (.tup [.d (.str word), .c a]))
  | none => ∀ p, M p = none → Q (.c p) (M.set p (.tup [.d (.str word), .d .non]))
noncomputable def goHopsR (c : Cs) (one other : Ln) (q : Rat) : Str × Option (List Cor) := match hopWalkR c one other q with
  | some L => ("walk", some L)
  | none => ("fence", hopFenceR c one other q false)
@[irreducible] def sp_go_hops (c : Cs) : SpW := fun ws M Q E => ∃ x y d, ws = [.d x, .d y, .d d] ∧ val2 d = true ∧ (match asQ d with
  | some q => (q.num < 0 → E c.NoSquare M) ∧ (¬ q.num < 0 → ∃ one other, x = eL one ∧ y = eL other ∧ LnOk one ∧ LnOk other ∧ Qz 90000 q ∧ tupL M Q (goHopsR c one other q).1 (goHopsR c one other q).2)
  | none => E c.NoSquare M)
theorem len_go_hops (c : Cs) : ∀ ws M Q E, sp_go_hops c ws M Q E → ws.length = 3 := by
  intro ws M Q E h; unfold sp_go_hops at h
  obtain ⟨a, b, d, rfl, _⟩ := h; rfl
theorem pu_go_hops (c : Cs) : ∀ ws M Q E, sp_go_hops c ws M Q E → t_go_hops c (endsOf Q E) (startW N_go_hops ws) M := by
  intro ws M Q E h; unfold sp_go_hops at h
  obtain ⟨x, y, d, rfl, hv, h⟩ := h
  walk_at "wh"
  refine cl_look d hv ?_
  cases e : asQ d with
  | none => rw [e] at h; exact okE h
  | some q =>
    rw [e] at h
    refine ⟨fun hq => okE (h.1 hq), fun hq => ?_⟩
    obtain ⟨one, other, rfl, rfl, h1, h2, hz, h⟩ := h.2 hq
    cases asQ_some e
    walk_at "wh"
    refine cl_hop_walk h1 h2 hz ?_
    unfold goHopsR at h
    cases er : hopWalkR c one other q with
    | some L =>
      rw [er] at h
      intro a ha
      walk_at "wh"
      refine ⟨sl2, fun p hp => okD ?_⟩
      exact h a p ha (fresh_old hp) (fresh_ne hp)
    | none =>
      rw [er] at h
      walk_at "wh"
      refine cl_hop_fence h1 h2 hz ?_
      cases ef : hopFenceR c one other q false with
      | none =>
        rw [ef] at h
        exact ⟨sl2, fun p hp => okD (h p hp)⟩
      | some L =>
        rw [ef] at h
        exact fun a ha => ⟨sl2, fun p hp => okD (h a p ha (fresh_old hp) (fresh_ne hp))⟩
end Lw

namespace Lw
open PySem PySem.Spec L2
local macro_rules | `(tactic| walk_at "wp") => `(tactic| try simp only [wSeq, wIf, wRet, wSet, wTest, wOp, wUn, wV, wC, wCall, wCons, wNil, wCB, wTup, wLst, wOrT, wAndT, wNotT, wAndV, wOrV, wNotV, wIfE, wChain, wRaise, wNext, wPar, wDrop, wAsg, wgName, wgTup, wgCons, wgNil, tupOf, wAug, rAddI, rAbs, rMax2, rMin2, rMod, rLt, rGt, rLe, rGe, rCmp, rSub, rAdd, rMul, rDiv, rNeg, rPow, rEq, rNe, rLen, rIxW, rIsN, rNotN, isNonW, wFld, insOf, wMeth, wIsi, rIsi, tyName, startW, List.map, List.length, List.cons_append, List.nil_append, List.append_nil, List.replicate, List.getElem?_cons_zero, List.getElem?_cons_succ, List.set_cons_zero, List.set_cons_succ, bch_true, bch_false, bch_not, bch_dec, allD, Option.map, endsOf, pS1, pS2, pS3, pS4, pS5, atI_zero, atI_one, atI_two, Bool.not_true, Bool.not_false, Nat.reduceAdd, Nat.reduceSub])
local macro_rules | `(tactic| walk_at "wh") => `(tactic| conv => whnf)
local macro_rules | `(tactic| walk_at "wx") => `(tactic| (conv => whnf); repeat (first | (rw [Mh.set_same]; conv => whnf) | ((refine And.intro ?_ ?_; focus (first | ((with_reducible show (_ : Nat) ≤ _); first | exact sl2 | exact sl1 | exact sl3 | exact sl0 | exact sl4 | decide) | ((with_reducible show (_ : Nat) = _); rfl) | ((with_reducible show (_ : Bool) = _); first | rfl | decide +kernel) | ((with_reducible show (_ : Int) < _); first | omega | (simp only [List.length_map]; omega)) | ((with_reducible show (_ : Int) ≤ _); first | omega | (simp only [List.length_map]; omega)) | ((with_reducible show MulOk _ _); first | exact MulOk.nat_l rfl | exact MulOk.nat_r rfl) | ((with_reducible show DivOk _); exact (DivOk.lit rfl rfl)) | ((with_reducible show (_ ∧ _ ∧ Sz _ _)); exact PowOk.lit rfl rfl rfl))); conv => whnf)))
local macro_rules | `(tactic| walk_at "sz") => `(tactic| exact szs (by omega) (by decide))

/-! # the laws' own defs: pots, lines, leashes -/
def PotM (r t s : Int) : MO := .lst [.d (.int r), .d (.int t), .d (.int s)]
/-- a pot of at most n draws -/
def PotO (o : MO) (n : Nat) : Prop := ∃ r t s, o = PotM r t s ∧ 0 ≤ r ∧ 0 ≤ t ∧ t ≤ n ∧ 0 ≤ s
theorem PotO.mono {o : MO} {n m : Nat} (h : PotO o n) (hm : n ≤ m) : PotO o m := by
  obtain ⟨r, t, s, e, a, b, c, d⟩ := h
  exact ⟨r, t, s, e, a, b, by omega, d⟩
@[irreducible] def sp__law_cell_at (c : Cs) : SpW := pS 2 fun ds Q _ => ∃ (xs : List Int) (k : Int), ds = [.scr (xs.map .int), .int k] ∧ 0 ≤ k ∧ ∀ i, Q (.int i)
@[irreducible] def sp__law_folded (c : Cs) : SpW := pS 2 fun ds Q _ => ∃ (xs : List Int) (k : Int), ds = [.lst (xs.map .int), .int k] ∧ 0 < k ∧ k ≤ 1000 ∧ ∀ L : List Int, L.length ≤ 1000 → Q (.lst (L.map .int))
@[irreducible] def sp__law_begun (c : Cs) : SpW := fun ws M Q E => ∃ i, ws = [.d (.int i)] ∧ ∀ p o, M p = none → PotO o 0 → Q (.c p) (M.set p o)
/-- one more draw -/
@[irreducible] def sp__law_take (c : Cs) : SpW := fun ws M Q E => ∃ p size o n, ws = [.c p, .d (.int size)] ∧ M p = some o ∧ PotO o n ∧ n ≤ 900000 ∧ 0 < size ∧ Sz 1000 size ∧ ∀ d o', 0 ≤ d → d < size → PotO o' (n + 1) → Q (.d (.int d)) (M.set p o')
@[irreducible] def sp__law_wide (c : Cs) : SpW := fun ws M Q E => ∃ p size o n, ws = [.c p, .d (.int size)] ∧ M p = some o ∧ PotO o n ∧ n ≤ 800000 ∧ 0 < size ∧ Sz 1000 size ∧ ∀ d o', 0 ≤ d → d < size → PotO o' (n + 4) → Q (.d (.int d)) (M.set p o')
section
variable {c : Cs} {M : Mh} {Q : Wv → Mh → Prop} {E : EW}
theorem cl_take {p : Addr} {size : Int} {o : MO} {n : Nat} (h1 : M p = some o) (h2 : PotO o n) (h3 : n ≤ 900000) (h4 : 0 < size) (h5 : Sz 1000 size) (h : ∀ d o', 0 ≤ d → d < size → PotO o' (n + 1) → Q (.d (.int d)) (M.set p o')) : sp__law_take c [.c p, .d (.int size)] M Q E := by
  unfold sp__law_take; exact ⟨p, size, o, n, rfl, h1, h2, h3, h4, h5, h⟩
theorem cl_wide {p : Addr} {size : Int} {o : MO} {n : Nat} (h1 : M p = some o) (h2 : PotO o n) (h3 : n ≤ 800000) (h4 : 0 < size) (h5 : Sz 1000 size) (h : ∀ d o', 0 ≤ d → d < size → PotO o' (n + 4) → Q (.d (.int d)) (M.set p o')) : sp__law_wide c [.c p, .d (.int size)] M Q E := by
  unfold sp__law_wide; exact ⟨p, size, o, n, rfl, h1, h2, h3, h4, h5, h⟩
end
theorem len__law_begun (c : Cs) : ∀ ws M Q E, sp__law_begun c ws M Q E → ws.length = 1 := by
  intro ws M Q E h; unfold sp__law_begun at h; obtain ⟨i, rfl, _⟩ := h; rfl
theorem len__law_take (c : Cs) : ∀ ws M Q E, sp__law_take c ws M Q E → ws.length = 2 := by
  intro ws M Q E h; unfold sp__law_take at h; obtain ⟨p, size, o, n, rfl, _⟩ := h; rfl
theorem len__law_wide (c : Cs) : ∀ ws M Q E, sp__law_wide c ws M Q E → ws.length = 2 := by
  intro ws M Q E h; unfold sp__law_wide at h; obtain ⟨p, size, o, n, rfl, _⟩ := h; rfl
def N__law_cell_at : List Str := ["script", "k"]
def t__law_cell_at (c : Cs) : WS :=
  (wSeq (wIf (wTest (wOp rLt (wV 1) (wCB rLen (wCons (wV 0) wNil))))
  (wRet (wOp rIxW (wV 0) (wV 1)))
  wNext)
  (wRet (wC (.int 0))))

def N__law_folded : List Str := ["cells", "many", "found", "k", "cell"]
def b1__law_folded (c : Cs) : WS :=
  (wPut (wOp rAdd (wOp rMul (wOp rIxW (wV 2) (wOp rMod (wV 3) (wCB rLen (wCons (wV 2) wNil)))) (wC (.int 7))) (wV 4)) (wV 2) (wOp rMod (wV 3) (wCB rLen (wCons (wV 2) wNil))))
def t__law_folded (c : Cs) : WS :=
  (wSeq (wSet 2 (wOp rRepC (wLst (wCons (wC (.int 0)) wNil)) (wCB rMin2 (wCons (wV 1) (wCons (wCB rMax2 (wCons (wC (.int 1)) (wCons (wCB rLen (wCons (wV 0) wNil)) wNil))) wNil)))))
  (wSeq (wFor (wiEnum (wCons (wV 0) wNil)) (wgTup 2 (wgCons (wgName 3) (wgCons (wgName 4) wgNil))) (b1__law_folded c))
  (wRet (wFz (wV 2)))))

def N__law_begun : List Str := ["cell", "rest"]
def t__law_begun (c : Cs) : WS :=
  (wSeq (wSet 1 (wC (.int 0)))
  (wSeq (wIf (wTest (wOp rGe (wCB rAbs (wCons (wV 0) wNil)) (wOp rPow (wC (.int 10)) (wC (.int 18)))))
  (wSet 1 (wOp rAdd (wOp rSub (wCB rAbs (wCons (wV 0) wNil)) (wOp rPow (wC (.int 10)) (wC (.int 18)))) (wC (.int 1))))
  wNext)
  (wRet (wLstC (wCons (wV 1) (wCons (wC (.int 0)) (wCons (wOp rMod (wV 0) (wC (.int 2147483647))) wNil)))))))

def N__law_take : List Str := ["pot", "size", "digit", "mixed"]
def t__law_take (c : Cs) : WS :=
  (wSeq (wIf (wTest (wOp rGt (wOp rIxW (wV 0) (wC (.int 0))) (wC (.int 0))))
  (wSeq (wSet 2 (wOp rMod (wOp rIxW (wV 0) (wC (.int 0))) (wV 1)))
  (wSeq (wPut (wOp rDiv (wOp rIxW (wV 0) (wC (.int 0))) (wV 1)) (wV 0) (wC (.int 0)))
  (wRet (wV 2))))
  wNext)
  (wSeq (wPut (wOp rAdd (wOp rIxW (wV 0) (wC (.int 1))) (wC (.int 1))) (wV 0) (wC (.int 1)))
  (wSeq (wSet 3 (wOp rMod (wOp rAdd (wOp rAdd (wOp rAdd (wOp rIxW (wV 0) (wC (.int 2))) (wOp rMul (wOp rMul (wC (.int 977)) (wOp rIxW (wV 0) (wC (.int 1)))) (wOp rIxW (wV 0) (wC (.int 1))))) (wOp rMul (wC (.int 40693)) (wOp rIxW (wV 0) (wC (.int 1))))) (wC (.int 1))) (wC (.int 2147483647))))
  (wSeq (wSet 3 (wOp rMod (wOp rMul (wOp rMod (wOp rMul (wV 3) (wV 3)) (wC (.int 1000000007))) (wC (.int 48271))) (wC (.int 998244353))))
  (wRet (wOp rMod (wOp rDiv (wV 3) (wC (.int 8))) (wV 1)))))))

def N__law_wide : List Str := ["pot", "size", "number", "turn"]
def b1__law_wide (c : Cs) : WS :=
  (wSet 2 (wOp rAdd (wOp rMul (wV 2) (wC (.int 1000003))) (wCall (sp__law_take c) [] (wCons (wV 0) (wCons (wC (.int 1000003)) wNil)))))
def t__law_wide (c : Cs) : WS :=
  (wSeq (wIf (wOrT (wTest (wOp rGt (wOp rIxW (wV 0) (wC (.int 0))) (wC (.int 0)))) (wTest (wOp rLt (wV 1) (wOp rPow (wC (.int 10)) (wC (.int 6))))))
  (wRet (wCall (sp__law_take c) [] (wCons (wV 0) (wCons (wV 1) wNil))))
  wNext)
  (wSeq (wSet 2 (wC (.int 0)))
  (wSeq (wFor (wiRng1 (wCons (wC (.int 4)) wNil)) (wgName 3) (b1__law_wide c))
  (wRet (wOp rMod (wV 2) (wV 1))))))

theorem pu__law_cell_at (c : Cs) : ∀ ws M Q E, sp__law_cell_at c ws M Q E → t__law_cell_at c (endsOf Q E) (startW N__law_cell_at ws) M := by
  intro ws M Q E h; unfold sp__law_cell_at at h; replace h := pS_out h
  obtain ⟨ds, rfl, hl, xs, k, rfl, hk, h⟩ := h
  walk_at "wh"
  show bch (decide (k < ((xs.map Dt.int).length : Int))) _ _
  by_cases hlt : k < ((xs.map Dt.int).length : Int)
  · rw [decide_eq_true hlt]
    walk_at "wh"
    have hi : k.toNat < xs.length := by simp at hlt; omega
    rw [atI_of (k := k.toNat) (x := .int xs[k.toNat]) (by omega) (by simp [hi])]
    exact okD (h _)
  · rw [decide_eq_false hlt]
    exact okD (h 0)
theorem pu__law_begun (c : Cs) : ∀ ws M Q E, sp__law_begun c ws M Q E → t__law_begun c (endsOf Q E) (startW N__law_begun ws) M := by
  intro ws M Q E h; unfold sp__law_begun at h
  obtain ⟨i, rfl, h⟩ := h
  simp only [t__law_begun, N__law_begun]
  walk_at "wp"
  have hs : Sz 64 10 := by unfold Sz; decide
  have fin : ∀ r : Int, 0 ≤ r → ∀ p, M p = none → ∃ M', Sub M' (M.set p (MO.lst [.d (.int r), .d (.int 0), .d (.int (i % 2147483647))])) ∧ Q (.c p) M' := fun r hr p hp =>
    okD (h p _ hp ⟨r, 0, _, rfl, hr, by omega, by omega, by omega⟩)
  refine ⟨⟨by omega, by omega, hs⟩, fun h1 => ⟨⟨by omega, by omega, hs⟩, ?_⟩, fun h1 => ?_⟩
  · simp only [wLstC]
    walk_at "wp"
    exact ⟨by decide, sl3, fun p hp => fin _ (by omega) p hp⟩
  · simp only [wLstC]
    walk_at "wp"
    exact ⟨by decide, sl3, fun p hp => fin _ (by omega) p hp⟩
theorem pu__law_take (c : Cs) : ∀ ws M Q E, sp__law_take c ws M Q E → t__law_take c (endsOf Q E) (startW N__law_take ws) M := by
  intro ws M Q E h; unfold sp__law_take at h
  obtain ⟨p, size, o, n, rfl, hM, ⟨r, t, s, rfl, h0, h1, h2, h3⟩, hn, hsz, hz, h⟩ := h
  unfold PotM at hM
  walk_at "wh"
  rw [hM]
  walk_at "wh"
  show bch (decide (r > 0)) _ _
  by_cases hr : r > 0
  · rw [decide_eq_true hr]
    walk_at "wh"
    rw [hM]
    walk_at "wh"
    refine ⟨hsz, ?_⟩
    walk_at "wh"
    rw [hM]
    walk_at "wh"
    refine ⟨.of (by omega) hz (by omega), ?_⟩
    walk_at "wh"
    refine put_ok (j := 0) hM rfl ?_
    walk_at "wh"
    refine okD (h _ _ (Int.emod_nonneg _ (by omega)) (Int.emod_lt_of_pos _ hsz) ⟨r.fdiv size, t, s, rfl, Int.fdiv_nonneg (by omega) (by omega), h1, by omega, h3⟩)
  · rw [decide_eq_false hr]
    walk_at "wh"
    rw [hM]
    walk_at "wh"
    refine put_ok (j := 1) hM rfl ?_
    walk_at "wh"
    rw [Mh.set_same]
    walk_at "wh"
    rw [Mh.set_same]
    walk_at "wh"
    have z1 : Sz 64 (977 : Int) := by unfold Sz; decide
    have z2 : Sz 64 (40693 : Int) := by unfold Sz; decide
    have z3 : Sz 64 (t + 1) := by unfold Sz; omega
    refine ⟨.inl z1, ?_⟩
    walk_at "wh"
    rw [Mh.set_same]
    walk_at "wh"
    refine ⟨.inr (.inl z3), ?_⟩
    walk_at "wh"
    rw [Mh.set_same]
    walk_at "wh"
    refine ⟨.inl z2, ?_⟩
    walk_at "wh"
    refine ⟨by decide, ?_⟩
    have m0 : 0 ≤ (s + 977 * (t + 1) * (t + 1) + 40693 * (t + 1) + 1) % 2147483647 ∧ (s + 977 * (t + 1) * (t + 1) + 40693 * (t + 1) + 1) % 2147483647 < 2147483647 := by omega
    generalize hm : (s + 977 * (t + 1) * (t + 1) + 40693 * (t + 1) + 1) % 2147483647 = m at m0
    have z4 : Sz 64 m := by unfold Sz; omega
    walk_at "wh"
    refine ⟨.inl z4, ?_⟩
    walk_at "wh"
    refine ⟨by decide, ?_⟩
    walk_at "wh"
    refine ⟨.inr (.inl (by unfold Sz; decide)), ?_⟩
    walk_at "wh"
    refine ⟨by decide, ?_⟩
    walk_at "wh"
    refine ⟨.of (k := 64) (by decide) (by unfold Sz; decide) (by decide), ?_⟩
    walk_at "wh"
    refine ⟨hsz, okD ?_⟩
    exact h _ _ (Int.emod_nonneg _ (by omega)) (Int.emod_lt_of_pos _ hsz) ⟨r, t + 1, s, rfl, h0, by omega, by omega, h3⟩
theorem pu__law_folded (c : Cs) : ∀ ws M Q E, sp__law_folded c ws M Q E → t__law_folded c (endsOf Q E) (startW N__law_folded ws) M := by
  intro ws M Q E h; unfold sp__law_folded at h; replace h := pS_out h
  obtain ⟨ds, rfl, hl, xs, k, rfl, hk, hk2, h⟩ := h
  walk_at "wh"
  refine ⟨sl1, ?_⟩
  walk_at "wh"
  have hlen : (xs.map Dt.int).length = xs.length := by simp
  rw [hlen]
  have hn : ∃ n : Nat, (if (if ((xs.length : Nat) : Int) > 1 then ((xs.length : Nat) : Int) else 1) < k then (if ((xs.length : Nat) : Int) > 1 then ((xs.length : Nat) : Int) else 1) else k) = (n : Int) ∧ 0 < n ∧ n ≤ 1000 := by
    refine ⟨(if (if ((xs.length : Nat) : Int) > 1 then ((xs.length : Nat) : Int) else 1) < k then (if ((xs.length : Nat) : Int) > 1 then ((xs.length : Nat) : Int) else 1) else k).toNat, ?_, ?_, ?_⟩ <;> (repeat' split) <;> omega
  obtain ⟨n, en, n0, n1⟩ := hn
  rw [en]
  refine ⟨by omega, by omega, sle_of (by simp; omega), fun p hp => ?_⟩
  walk_at "wh"
  have e0 : (List.replicate (Int.toNat (n : Int)) [Dt.int 0]).flatten.map Wv.d = ((List.replicate n (0 : Int)).map .int).map .d := by
    rw [Int.toNat_natCast]
    clear en n0 n1
    induction n with
    | zero => rfl
    | succ n ih => rw [List.replicate_succ, List.flatten_cons, List.map_append, ih, List.replicate_succ]; rfl
  rw [e0]
  refine for_inv (fun i ρ M' => ∃ (L : List Int) (a b : Option Wv), L.length = n ∧ ρ = [some (.d (.lst (xs.map .int))), some (.d (.int k)), some (.c p), a, b] ∧ M' = M.set p (.lst ((L.map .int).map .d))) ⟨List.replicate n 0, none, none, by simp, rfl, rfl⟩ ?_ ?_
  · rintro i x ρ M' K hx ⟨L, a, b, hL, rfl, rfl⟩ hK
    obtain ⟨hlt, rfl⟩ := enumD_at hx
    have hlt : i < xs.length := by simpa using hlt
    have ex : (xs.map Dt.int).getD i .non = .int xs[i] := by simp [List.getD_eq_getElem?_getD, hlt]
    rw [ex]
    have hj : i % n < n := Nat.mod_lt _ n0
    have hix : L2.atI ((L.map Dt.int).map Wv.d) ((i % n : Nat) : Int) = some (.d (.int (L[i % n]'(by omega)))) := atI_of rfl (by rw [List.getElem?_map, List.getElem?_map, List.getElem?_eq_getElem (by omega)]; rfl)
    have hll : ((L.map Dt.int).map Wv.d).length = n := by simp [hL]
    have em : ((i : Nat) : Int) % (n : Int) = ((i % n : Nat) : Int) := by omega
    walk_at "wh"
    refine ⟨rfl, ?_⟩
    walk_at "wh"
    rw [Mh.set_same]
    walk_at "wh"
    rw [hll]
    refine ⟨by omega, ?_⟩
    walk_at "wh"
    rw [Mh.set_same]
    walk_at "wh"
    rw [em, hix]
    walk_at "wh"
    refine ⟨.inr (.inl (by unfold Sz; decide)), ?_⟩
    walk_at "wh"
    rw [Mh.set_same]
    walk_at "wh"
    rw [hll]
    refine ⟨by omega, ?_⟩
    walk_at "wh"
    rw [em]
    refine put_ok Mh.set_same (ixN_nat (j := i % n) rfl (by rw [hll]; exact hj)) ?_
    rw [Mh.set_set]
    refine hK _ _ ⟨L.set (i % n) ((L[i % n]'(by omega)) * 7 + xs[i]), _, _, by simp [hL], rfl, ?_⟩
    rw [List.map_set, List.map_set]
  · rintro ρ M' ⟨L, a, b, hL, rfl, rfl⟩
    walk_at "wh"
    refine frz_lst hp ?_
    exact okD (h L (by omega))
theorem pu__law_wide (c : Cs) : ∀ ws M Q E, sp__law_wide c ws M Q E → t__law_wide c (endsOf Q E) (startW N__law_wide ws) M := by
  intro ws M Q E h; unfold sp__law_wide at h
  obtain ⟨p, size, o, n, rfl, hM, ho, hn, hsz, hz, h⟩ := h
  have viaTake : ∀ σ, σ = startW N__law_wide [.c p, .d (.int size)] → (wRet (wCall (sp__law_take c) [] (wCons (wV 0) (wCons (wV 1) wNil)))) (endsOf Q E) σ M := by
    rintro σ rfl
    walk_at "wh"
    exact cl_take hM ho (by omega) hsz hz fun d o' a b k => okD (h d o' a b (k.mono (by omega)))
  obtain ⟨r, t, s, rfl, h0, h1, h2, h3⟩ := id ho
  unfold PotM at hM
  walk_at "wh"
  rw [hM]
  walk_at "wh"
  show bch (decide (r > 0)) _ _
  by_cases hr : r > 0
  · rw [decide_eq_true hr]
    exact viaTake _ rfl
  · rw [decide_eq_false hr]
    walk_at "wh"
    refine ⟨⟨by decide, by decide, by unfold Sz; decide⟩, ?_⟩
    walk_at "wh"
    show bch (decide (size < 10 ^ (Int.toNat 6))) _ _
    by_cases hs : size < 10 ^ (Int.toNat 6)
    · rw [decide_eq_true hs]
      exact viaTake _ rfl
    · rw [decide_eq_false hs]
      walk_at "wh"
      refine ⟨by decide, by decide, ?_⟩
      refine for_inv (fun i ρ M' => ∃ (x : Int) (o' : MO) (a : Option Wv), Sz (1 + 25 * i) x ∧ 0 ≤ x ∧ PotO o' (n + i) ∧ ρ = [some (.c p), some (.d (.int size)), some (.d (.int x)), a] ∧ M' p = some o' ∧ M' = M.set p o') ⟨0, _, none, by unfold Sz; decide, by decide, ho, rfl, hM, (Mh.set_self hM).symm⟩ ?_ ?_
      · rintro i y ρ M' K hx ⟨x, o', a, zx, x0, po, rfl, hM', rfl⟩ hK
        obtain ⟨hlt, rfl⟩ := rngW_at hx
        have hi : i < 4 := hlt
        walk_at "wh"
        refine ⟨.of (zx.mono (l := 200) (by omega)) (l := 64) (by unfold Sz; decide) (by omega) (by omega), ?_⟩
        walk_at "wh"
        refine cl_take hM' po (by omega) (by decide) (by unfold Sz; decide) fun d o2 d0 d1 po2 => ?_
        walk_at "wh"
        rw [Mh.set_set]
        have z5 : Sz 20 (1000003 : Int) := by unfold Sz; decide
        have z6 : Sz 20 d := by unfold Sz; omega
        exact hK _ _ ⟨x * 1000003 + d, o2, _, ((zx.mul z5).add z6).mono (by omega), by omega, po2, rfl, Mh.set_same, rfl⟩
      · rintro ρ M' ⟨x, o', a, zx, x0, po, rfl, hM', rfl⟩
        walk_at "wh"
        refine ⟨hsz, okD ?_⟩
        exact h _ _ (Int.emod_nonneg _ (by omega)) (Int.emod_lt_of_pos _ hsz) po
end Lw

namespace Lw
open PySem PySem.Spec L2
local macro_rules | `(tactic| walk_at "wp") => `(tactic| try simp only [wSeq, wIf, wRet, wSet, wTest, wOp, wUn, wV, wC, wCall, wCons, wNil, wCB, wTup, wLst, wOrT, wAndT, wNotT, wAndV, wOrV, wNotV, wIfE, wChain, wRaise, wNext, wPar, wDrop, wAsg, wgName, wgTup, wgCons, wgNil, tupOf, wAug, rAddI, rAbs, rMax2, rMin2, rMod, rLt, rGt, rLe, rGe, rCmp, rSub, rAdd, rMul, rDiv, rNeg, rPow, rEq, rNe, rLen, rIxW, rIsN, rNotN, isNonW, wFld, insOf, wMeth, wIsi, rIsi, tyName, startW, List.map, List.length, List.cons_append, List.nil_append, List.append_nil, List.replicate, List.getElem?_cons_zero, List.getElem?_cons_succ, List.set_cons_zero, List.set_cons_succ, bch_true, bch_false, bch_not, bch_dec, allD, Option.map, endsOf, pS1, pS2, pS3, pS4, pS5, atI_zero, atI_one, atI_two, Bool.not_true, Bool.not_false, Nat.reduceAdd, Nat.reduceSub])
local macro_rules | `(tactic| walk_at "wh") => `(tactic| conv => whnf)
local macro_rules | `(tactic| walk_at "wx") => `(tactic| (conv => whnf); repeat (first | (rw [Mh.set_same]; conv => whnf) | ((refine And.intro ?_ ?_; focus (first | ((with_reducible show (_ : Nat) ≤ _); first | exact sl2 | exact sl1 | exact sl3 | exact sl0 | exact sl4 | decide) | ((with_reducible show (_ : Nat) = _); rfl) | ((with_reducible show (_ : Bool) = _); first | rfl | decide +kernel) | ((with_reducible show (_ : Int) < _); first | omega | (simp only [List.length_map]; omega)) | ((with_reducible show (_ : Int) ≤ _); first | omega | (simp only [List.length_map]; omega)) | ((with_reducible show MulOk _ _); first | exact MulOk.nat_l rfl | exact MulOk.nat_r rfl) | ((with_reducible show DivOk _); exact (DivOk.lit rfl rfl)) | ((with_reducible show (_ ∧ _ ∧ Sz _ _)); exact PowOk.lit rfl rfl rfl))); conv => whnf)))
local macro_rules | `(tactic| walk_at "sz") => `(tactic| exact szs (by omega) (by decide))

/-- a line as a law draws it -/
structure LnB (l : Ln) : Prop where
  ne : 0 < l.length
  le : l.length ≤ 10
  bd : ∀ p ∈ l, p.1.natAbs < 10 ^ 12 ∧ p.2.natAbs < 10 ^ 12
theorem LnB.ok {l : Ln} (h : LnB l) : LnOk l where
  ne := h.ne
  le := by have := h.le; omega
  sz := fun p hp => by
    have := h.bd p hp
    exact ⟨by unfold Sz; omega, by unfold Sz; omega⟩
@[irreducible] def sp__law_drawn_line (c : Cs) : SpW := fun ws M Q E => ∃ p o n, ws = [.c p] ∧ M p = some o ∧ PotO o n ∧ n ≤ 700000 ∧ ∀ l o', LnB l → PotO o' (n + 100) → Q (.d (eL l)) (M.set p o')
theorem len__law_drawn_line (c : Cs) : ∀ ws M Q E, sp__law_drawn_line c ws M Q E → ws.length = 1 := by
  intro ws M Q E h; unfold sp__law_drawn_line at h; obtain ⟨p, o, n, rfl, _⟩ := h; rfl
def N__law_drawn_line : List Str := ["pot", "many", "span", "half", "line", "k", "corner", "at"]
def b1__law_drawn_line (c : Cs) : WS :=
  (wDrop (wBM "list" mAppend (wV 4) (wCons (wTup (wCons (wOp rSub (wCall (sp__law_wide c) [] (wCons (wV 0) (wCons (wV 2) wNil))) (wV 3)) (wCons (wOp rSub (wCall (sp__law_wide c) [] (wCons (wV 0) (wCons (wV 2) wNil))) (wV 3)) wNil))) wNil)))
def t__law_drawn_line (c : Cs) : WS :=
  (wSeq (wSet 1 (wOp rAdd (wC (.int 1)) (wCall (sp__law_take c) [] (wCons (wV 0) (wCons (wOp rIxW (wLst (wCons (wC (.int 2)) (wCons (wC (.int 3)) (wCons (wC (.int 4)) (wCons (wC (.int 5)) (wCons (wC (.int 4)) (wCons (wC (.int 3)) (wCons (wC (.int 5)) (wCons (wC (.int 10)) wNil))))))))) (wCall (sp__law_take c) [] (wCons (wV 0) (wCons (wC (.int 8)) wNil)))) wNil)))))
  (wSeq (wSet 2 (wOp rIxW (wLst (wCons (wC (.int 3)) (wCons (wC (.int 7)) (wCons (wC (.int 13)) (wCons (wOp rSub (wOp rMul (wC (.int 2)) (wOp rPow (wC (.int 10)) (wC (.int 12)))) (wC (.int 1))) wNil))))) (wCall (sp__law_take c) [] (wCons (wV 0) (wCons (wC (.int 4)) wNil)))))
  (wSeq (wSet 3 (wOp rDiv (wV 2) (wC (.int 2))))
  (wSeq (wSet 4 (wLstC wNil))
  (wSeq (wFor (wiRng1 (wCons (wV 1) wNil)) (wgName 5) (b1__law_drawn_line c))
  (wSeq (wIf (wTest (wOp rEq (wCall (sp__law_take c) [] (wCons (wV 0) (wCons (wC (.int 5)) wNil))) (wC (.int 0))))
  (wSet 4 (wLc (wiList (wFz (wV 4))) (wgName 6) wYes (wTup (wCons (wOp rIxW (wV 6) (wC (.int 0))) (wCons (wC (.int 0)) wNil))) [6]))
  wNext)
  (wSeq (wIf (wAndT (wTest (wOp rGt (wV 1) (wC (.int 1)))) (wTest (wOp rEq (wCall (sp__law_take c) [] (wCons (wV 0) (wCons (wC (.int 4)) wNil))) (wC (.int 0)))))
  (wSeq (wSet 7 (wOp rAdd (wC (.int 1)) (wCall (sp__law_take c) [] (wCons (wV 0) (wCons (wOp rSub (wV 1) (wC (.int 1))) wNil)))))
  (wPut (wOp rIxW (wV 4) (wOp rSub (wV 7) (wC (.int 1)))) (wV 4) (wV 7)))
  wNext)
  (wRet (wFz (wV 4))))))))))

/-- two cells: the pot and a line -/
def lnM (l : Ln) : MO := .lst ((l.map eC).map .d)
theorem spans {d : Int} (h0 : 0 ≤ d) (h1 : d < 4) : ∃ x : Int, L2.atI [Dt.int 3, .int 7, .int 13, .int (2 * 10 ^ (Int.toNat 12) - 1)] d = some (.int x) ∧ 3 ≤ x ∧ x ≤ 2 * 10 ^ 12 - 1 ∧ x % 2 = 1 := by
  have : d = 0 ∨ d = 1 ∨ d = 2 ∨ d = 3 := by omega
  rcases this with rfl | rfl | rfl | rfl
  · exact ⟨3, rfl, by omega, by omega, by omega⟩
  · exact ⟨7, rfl, by omega, by omega, by omega⟩
  · exact ⟨13, rfl, by omega, by omega, by omega⟩
  · exact ⟨2 * 10 ^ 12 - 1, rfl, by omega, by omega, by omega⟩
theorem manys {d : Int} (h0 : 0 ≤ d) (h1 : d < 8) : ∃ x : Int, L2.atI [Dt.int 2, .int 3, .int 4, .int 5, .int 4, .int 3, .int 5, .int 10] d = some (.int x) ∧ 1 ≤ x ∧ x ≤ 10 := by
  have : d = 0 ∨ d = 1 ∨ d = 2 ∨ d = 3 ∨ d = 4 ∨ d = 5 ∨ d = 6 ∨ d = 7 := by omega
  rcases this with rfl | rfl | rfl | rfl | rfl | rfl | rfl | rfl
  · exact ⟨2, rfl, by omega, by omega⟩
  · exact ⟨3, rfl, by omega, by omega⟩
  · exact ⟨4, rfl, by omega, by omega⟩
  · exact ⟨5, rfl, by omega, by omega⟩
  · exact ⟨4, rfl, by omega, by omega⟩
  · exact ⟨3, rfl, by omega, by omega⟩
  · exact ⟨5, rfl, by omega, by omega⟩
  · exact ⟨10, rfl, by omega, by omega⟩
theorem pu__law_drawn_line (c : Cs) : ∀ ws M Q E, sp__law_drawn_line c ws M Q E → t__law_drawn_line c (endsOf Q E) (startW N__law_drawn_line ws) M := by
  intro ws M Q E h; unfold sp__law_drawn_line at h
  obtain ⟨p, o, n, rfl, hM, ho, hn, h⟩ := h
  walk_at "wx"
  refine cl_take hM ho (by omega) (by decide) (by walk_at "sz") fun d o1 d0 d1 ho1 => ?_
  walk_at "wh"
  obtain ⟨x, ex, x0, x1⟩ := manys d0 d1
  rw [ex]
  walk_at "wx"
  refine cl_take Mh.set_same ho1 (by omega) (by omega) (by walk_at "sz") fun m o2 m0 m1 ho2 => ?_
  rw [Mh.set_set]
  walk_at "wx"
  refine cl_take Mh.set_same ho2 (by omega) (by omega) (by walk_at "sz") fun d o3 d0 d1 ho3 => ?_
  rw [Mh.set_set]
  walk_at "wh"
  obtain ⟨s, es, s0, s1, s2⟩ := spans d0 d1
  rw [es]
  walk_at "wx"
  intro l hl
  have hlp := fresh_ne hl
  have hlM := fresh_old hl
  walk_at "wx"
  have hBD : ∀ v : Int, 0 ≤ v → v < s → (v - s.fdiv 2).natAbs < 10 ^ 12 := by
    intro v h0 h1
    have e1 : s.fdiv 2 = s / 2 := Int.fdiv_eq_ediv_of_nonneg _ (by omega)
    rw [e1]; omega
  have fin3 : ∀ (l' : Addr) (L : Ln) (o' : MO) (σ : Rho) (a b : Option Wv), LnB L → PotO o' (n + 100) → M l' = none → l' ≠ p → σ = [some (.c p), some (.d (.int (1 + m))), some (.d (.int s)), some (.d (.int (s.fdiv 2))), some (.c l'), a, b.bind (fun _ => none), b] →
      (wRet (wFz (wV 4))) (endsOf Q E) σ ((M.set p o').set l' (lnM L)) := by
    rintro l' L o' σ a b hL ho' hl' hlp' rfl
    walk_at "wh"
    refine frz_lst (by rw [Mh.set_ne hlp']; exact hl') ?_
    exact okD (h L o' hL ho')
  have fin2 : ∀ (l' : Addr) (L : Ln) (o' : MO) (σ : Rho) (a b : Option Wv), L.length = (1 + m).toNat → (∀ p ∈ L, p.1.natAbs < 10 ^ 12 ∧ p.2.natAbs < 10 ^ 12) → PotO o' (n + 90) → M l' = none → l' ≠ p → σ = [some (.c p), some (.d (.int (1 + m))), some (.d (.int s)), some (.d (.int (s.fdiv 2))), some (.c l'), a, none, b] →
      (wSeq (wIf (wAndT (wTest (wOp rGt (wV 1) (wC (Dt.int 1)))) (wTest (wOp rEq (wCall (sp__law_take c) [] (wCons (wV 0) (wCons (wC (Dt.int 4)) wNil))) (wC (Dt.int 0)))))
              (wSeq (wSet 7 (wOp rAdd (wC (Dt.int 1)) (wCall (sp__law_take c) [] (wCons (wV 0) (wCons (wOp rSub (wV 1) (wC (Dt.int 1))) wNil)))))
                (wPut (wOp rIxW (wV 4) (wOp rSub (wV 7) (wC (Dt.int 1)))) (wV 4) (wV 7))) wNext) (wRet (wFz (wV 4)))) (endsOf Q E) σ ((M.set p o').set l' (lnM L)) := by
    rintro l' L o' σ a b hL hB ho' hl' hlp' rfl
    have hLB : LnB L := ⟨by omega, by omega, hB⟩
    have hp' : ((M.set p o').set l' (lnM L)) p = some o' := by rw [Mh.set_ne (Ne.symm hlp'), Mh.set_same]
    have fin3' : ∀ (o' : MO) (σ : Rho) (a b : Option Wv) , PotO o' (n + 100) → σ = [some (.c p), some (.d (.int (1 + m))), some (.d (.int s)), some (.d (.int (s.fdiv 2))), some (.c l'), a, none, b] → (wRet (wFz (wV 4))) (endsOf Q E) σ ((M.set p o').set l' (lnM L)) := by
      intro o' σ a b h1 h2
      refine fin3 l' L o' σ a b hLB h1 hl' hlp' ?_
      cases b <;> exact h2
    walk_at "wx"
    show bch (decide (1 + m > 1)) _ _
    by_cases hm : 1 + m > 1
    · rw [decide_eq_true hm]
      walk_at "wx"
      refine cl_take (size := 4) hp' ho' (by omega) (by decide) (by walk_at "sz") fun d o4 d0 d1 ho4 => ?_
      rw [Mh.set_comm hlp', Mh.set_set]
      have hp4 : ((M.set p o4).set l' (lnM L)) p = some o4 := by rw [Mh.set_ne (Ne.symm hlp'), Mh.set_same]
      walk_at "wx"
      show bch (decide (d = 0)) _ _
      by_cases hd : d = 0
      · rw [decide_eq_true hd]
        walk_at "wx"
        refine cl_take (size := 1 + m - 1) hp4 ho4 (by omega) (by omega) (by walk_at "sz") fun e o5 e0 e1 ho5 => ?_
        rw [Mh.set_comm hlp', Mh.set_set]
        walk_at "wx"
        rw [show L2.atI ((L.map eC).map Wv.d) (1 + e - 1) = some (.d (eC (cr L e.toNat))) from atI_of (k := e.toNat) (by omega) (by rw [List.getElem?_map, eL_get (by omega)]; rfl)]
        walk_at "wh"
        refine put_ok (ws := (L.map eC).map .d) Mh.set_same (ixN_nat (j := (1 + e).toNat) (by omega) (by simp; omega)) ?_
        rw [Mh.set_set]
        have e2 : ((L.map eC).map Wv.d).set (1 + e).toNat (.d (eC (cr L e.toNat))) = ((L.set (1 + e).toNat (cr L e.toNat)).map eC).map .d := by rw [List.map_set, List.map_set]
        rw [e2]
        have hel : e.toNat < L.length := by omega
        have hcr : cr L e.toNat ∈ L := by
          unfold cr
          rw [List.getD_eq_getElem?_getD, List.getElem?_eq_getElem hel]
          exact List.getElem_mem hel
        refine fin3 l' (L.set (1 + e).toNat (cr L e.toNat)) o5 _ a (some (.d (.int (1 + e)))) ⟨by simp; omega, by simp; omega, fun q hq => ?_⟩ (ho5.mono (by omega)) hl' hlp' rfl
        rcases List.mem_or_eq_of_mem_set hq with hq | hq
        · exact hB q hq
        · rw [hq]; exact hB _ hcr
      · rw [decide_eq_false hd]
        exact fin3' o4 _ a b (ho4.mono (by omega)) rfl
    · rw [decide_eq_false hm]
      exact fin3' o' _ a b (ho'.mono (by omega)) rfl
  refine for_inv (fun i ρ M' => ∃ (L : Ln) (o' : MO) (a : Option Wv), L.length = i ∧ (∀ p ∈ L, p.1.natAbs < 10 ^ 12 ∧ p.2.natAbs < 10 ^ 12) ∧ PotO o' (n + 3 + 8 * i) ∧ ρ = [some (.c p), some (.d (.int (1 + m))), some (.d (.int s)), some (.d (.int (s.fdiv 2))), some (.c l), a, none, none] ∧ M' = (M.set p o').set l (lnM L)) ⟨[], o3, none, rfl, by simp, ho3, rfl, rfl⟩ ?_ ?_
  · rintro i y ρ M' K hx ⟨L, o', a, hL, hB, ho', rfl, rfl⟩ hK
    obtain ⟨hlt, rfl⟩ := rngW_at hx
    have hi : i < 10 := by omega
    have hp' : ((M.set p o').set l (lnM L)) p = some o' := by rw [Mh.set_ne (Ne.symm hlp), Mh.set_same]
    walk_at "wx"
    refine ⟨tyW_lst Mh.set_same, ?_⟩
    walk_at "wx"
    refine cl_wide (size := s) hp' ho' (by omega) (by omega) (by walk_at "sz") fun u o4 u0 u1 ho4 => ?_
    rw [Mh.set_comm hlp, Mh.set_set]
    have hp4 : ((M.set p o4).set l (lnM L)) p = some o4 := by rw [Mh.set_ne (Ne.symm hlp), Mh.set_same]
    walk_at "wx"
    refine cl_wide (size := s) hp4 ho4 (by omega) (by omega) (by walk_at "sz") fun v o5 v0 v1 ho5 => ?_
    rw [Mh.set_comm hlp, Mh.set_set]
    walk_at "wx"
    refine ap_set ?_ ?_
    · exact sl_of (by simp; omega)
    · refine hK _ _ ⟨L ++ [(u - s.fdiv 2, v - s.fdiv 2)], o5, _, by simp [hL], fun q hq => ?_, ho5.mono (by omega), rfl, ?_⟩
      · rcases List.mem_append.mp hq with hq | hq
        · exact hB q hq
        · simp at hq; subst hq; exact ⟨hBD u u0 u1, hBD v v0 v1⟩
      · unfold lnM; rw [List.map_append, List.map_append]; rfl
  · rintro ρ M' ⟨L, o', a, hL, hB, ho', rfl, rfl⟩
    rw [rngW_len] at hL
    have hp' : ((M.set p o').set l (lnM L)) p = some o' := by rw [Mh.set_ne (Ne.symm hlp), Mh.set_same]
    rw [rngW_len] at ho'
    walk_at "wx"
    refine cl_take (size := 5) hp' ho' (by omega) (by decide) (by walk_at "sz") fun d o4 d0 d1 ho4 => ?_
    rw [Mh.set_comm hlp, Mh.set_set]
    walk_at "wx"
    show bch (decide (d = 0)) _ _
    by_cases hd : d = 0
    · rw [decide_eq_true hd]
      walk_at "wx"
      refine frz_lst (by rw [Mh.set_ne hlp]; exact hlM) ?_
      walk_at "wx"
      intro D hD
      have hDp := fresh_ne hD
      have hDM := fresh_old hD
      rw [show (L.map eC).map Wv.d = L.map (fun k => .d (eC k)) by rw [List.map_map]; rfl]
      refine lc_map (fun k => .d (eC k)) (fun _ => true) (fun k => eC (k.1, 0)) _ _ L [] (fun k _ M T Fq hT hFq => ?_) (sle_of (by simp; omega)) ?_
      · walk_at "wx"
        exact hT rfl
      · rw [List.nil_append, List.filter_eq_self.mpr (fun _ _ => rfl)]
        have e3 : MO.lst (L.map fun y => Wv.d (eC (y.1, 0))) = lnM (L.map fun k => (k.1, 0)) := by unfold lnM; rw [List.map_map, List.map_map]; rfl
        rw [e3]
        refine fin2 D (L.map fun k => (k.1, 0)) o4 _ _ _ (by simp [hL]) (fun q hq => ?_) (ho4.mono (by omega)) hDM hDp rfl
        obtain ⟨k, hk, rfl⟩ := List.mem_map.mp hq
        exact ⟨(hB k hk).1, by show (0 : Int).natAbs < 10 ^ 12; decide⟩
    · rw [decide_eq_false hd]
      exact fin2 l L o4 _ _ _ hL hB (ho4.mono (by omega)) hlM hlp rfl
end Lw

namespace Lw
open PySem PySem.Spec L2
local macro_rules | `(tactic| walk_at "wp") => `(tactic| try simp only [wSeq, wIf, wRet, wSet, wTest, wOp, wUn, wV, wC, wCall, wCons, wNil, wCB, wTup, wLst, wOrT, wAndT, wNotT, wAndV, wOrV, wNotV, wIfE, wChain, wRaise, wNext, wPar, wDrop, wAsg, wgName, wgTup, wgCons, wgNil, tupOf, wAug, rAddI, rAbs, rMax2, rMin2, rMod, rLt, rGt, rLe, rGe, rCmp, rSub, rAdd, rMul, rDiv, rNeg, rPow, rEq, rNe, rLen, rIxW, rIsN, rNotN, isNonW, wFld, insOf, wMeth, wIsi, rIsi, tyName, startW, List.map, List.length, List.cons_append, List.nil_append, List.append_nil, List.replicate, List.getElem?_cons_zero, List.getElem?_cons_succ, List.set_cons_zero, List.set_cons_succ, bch_true, bch_false, bch_not, bch_dec, allD, Option.map, endsOf, pS1, pS2, pS3, pS4, pS5, atI_zero, atI_one, atI_two, Bool.not_true, Bool.not_false, Nat.reduceAdd, Nat.reduceSub])
local macro_rules | `(tactic| walk_at "wh") => `(tactic| conv => whnf)
local macro_rules | `(tactic| walk_at "wx") => `(tactic| (conv => whnf); repeat (first | (rw [Mh.set_same]; conv => whnf) | ((refine And.intro ?_ ?_; focus (first | ((with_reducible show (_ : Nat) ≤ _); first | exact sl2 | exact sl1 | exact sl3 | exact sl0 | exact sl4 | decide) | ((with_reducible show (_ : Nat) = _); rfl) | ((with_reducible show (_ : Bool) = _); first | rfl | decide +kernel) | ((with_reducible show (_ : Int) < _); first | omega | (simp only [List.length_map]; omega)) | ((with_reducible show (_ : Int) ≤ _); first | omega | (simp only [List.length_map]; omega)) | ((with_reducible show MulOk _ _); first | exact MulOk.nat_l rfl | exact MulOk.nat_r rfl) | ((with_reducible show DivOk _); exact (DivOk.lit rfl rfl)) | ((with_reducible show (_ ∧ _ ∧ Sz _ _)); exact PowOk.lit rfl rfl rfl))); conv => whnf)))
local macro_rules | `(tactic| walk_at "sz") => `(tactic| exact szs (by omega) (by decide))

@[irreducible] def sp__law_moved (c : Cs) : SpW := fun ws M Q E => ∃ p o n x, ws = [.c p, .d (.int x)] ∧ M p = some o ∧ PotO o n ∧ n ≤ 700000 ∧ ∀ d o', d.natAbs < 10 ^ 12 → PotO o' (n + 1) → Q (.d (.int d)) (M.set p o')
@[irreducible] def sp__law_drawn_other (c : Cs) : SpW := fun ws M Q E => ∃ p o n l, ws = [.c p, .d (eL l)] ∧ M p = some o ∧ PotO o n ∧ n ≤ 600000 ∧ LnB l ∧ ∀ l' o', LnB l' → PotO o' (n + 200) → Q (.d (eL l')) (M.set p o')
@[irreducible] def sp__law_lines (c : Cs) : SpW := pS 1 fun ds Q _ => ∃ (xs : List Int), ds = [.scr (xs.map .int)] ∧ ∀ one other, LnB one → LnB other → Q (.tup [eL one, eL other])
theorem len__law_moved (c : Cs) : ∀ ws M Q E, sp__law_moved c ws M Q E → ws.length = 2 := by
  intro ws M Q E h; unfold sp__law_moved at h; obtain ⟨p, o, n, x, rfl, _⟩ := h; rfl
theorem len__law_drawn_other (c : Cs) : ∀ ws M Q E, sp__law_drawn_other c ws M Q E → ws.length = 2 := by
  intro ws M Q E h; unfold sp__law_drawn_other at h; obtain ⟨p, o, n, l, rfl, _⟩ := h; rfl
section
variable {c : Cs} {M : Mh} {Q : Wv → Mh → Prop} {E : EW}
theorem cl_drawn_line {p : Addr} {o : MO} {n : Nat} (h1 : M p = some o) (h2 : PotO o n) (h3 : n ≤ 700000) (h : ∀ l o', LnB l → PotO o' (n + 100) → Q (.d (eL l)) (M.set p o')) : sp__law_drawn_line c [.c p] M Q E := by
  unfold sp__law_drawn_line; exact ⟨p, o, n, rfl, h1, h2, h3, h⟩
theorem cl_moved {p : Addr} {x : Int} {o : MO} {n : Nat} (h1 : M p = some o) (h2 : PotO o n) (h3 : n ≤ 700000) (h : ∀ d o', d.natAbs < 10 ^ 12 → PotO o' (n + 1) → Q (.d (.int d)) (M.set p o')) : sp__law_moved c [.c p, .d (.int x)] M Q E := by
  unfold sp__law_moved; exact ⟨p, o, n, x, rfl, h1, h2, h3, h⟩
theorem cl_drawn_other {p : Addr} {l : Ln} {o : MO} {n : Nat} (h1 : M p = some o) (h2 : PotO o n) (h3 : n ≤ 600000) (hl : LnB l) (h : ∀ l' o', LnB l' → PotO o' (n + 200) → Q (.d (eL l')) (M.set p o')) : sp__law_drawn_other c [.c p, .d (eL l)] M Q E := by
  unfold sp__law_drawn_other; exact ⟨p, o, n, l, rfl, h1, h2, h3, hl, h⟩
theorem cl_begun {i : Int} (h : ∀ p o, M p = none → PotO o 0 → Q (.c p) (M.set p o)) : sp__law_begun c [.d (.int i)] M Q E := by
  unfold sp__law_begun; exact ⟨i, rfl, h⟩
theorem cl_cell_at {xs : List Int} {k : Int} (hk : 0 ≤ k) (h : ∀ i : Int, Q (.d (.int i)) M) : sp__law_cell_at c [.d (.scr (xs.map .int)), .d (.int k)] M Q E := by
  unfold sp__law_cell_at; rw [pS2]; exact ⟨xs, k, rfl, hk, h⟩
theorem cl_folded {xs : List Int} {k : Int} (hk : 0 < k) (hk2 : k ≤ 1000) (h : ∀ L : List Int, L.length ≤ 1000 → Q (.d (.lst (L.map .int))) M) : sp__law_folded c [.d (.lst (xs.map .int)), .d (.int k)] M Q E := by
  unfold sp__law_folded; rw [pS2]; exact ⟨xs, k, rfl, hk, hk2, h⟩
end
def N__law_moved : List Str := ["pot", "number"]
def t__law_moved (c : Cs) : WS :=
  (wRet (wCB rMax2 (wCons (wOp rSub (wC (.int 1)) (wOp rPow (wC (.int 10)) (wC (.int 12)))) (wCons (wCB rMin2 (wCons (wOp rSub (wOp rPow (wC (.int 10)) (wC (.int 12))) (wC (.int 1))) (wCons (wOp rSub (wOp rAdd (wV 1) (wCall (sp__law_take c) [] (wCons (wV 0) (wCons (wC (.int 3)) wNil)))) (wC (.int 1))) wNil))) wNil))))

def N__law_drawn_other : List Str := ["pot", "line", "way", "corner"]
def t__law_drawn_other (c : Cs) : WS :=
  (wSeq (wSet 2 (wCall (sp__law_take c) [] (wCons (wV 0) (wCons (wC (.int 4)) wNil))))
  (wSeq (wIf (wTest (wOp rEq (wV 2) (wC (.int 0))))
  (wRet (wFz (wLc (wiList (wV 1)) (wgName 3) wYes (wTup (wCons (wCall (sp__law_moved c) [] (wCons (wV 0) (wCons (wOp rIxW (wV 3) (wC (.int 0))) wNil))) (wCons (wCall (sp__law_moved c) [] (wCons (wV 0) (wCons (wOp rIxW (wV 3) (wC (.int 1))) wNil))) wNil))) [3])))
  wNext)
  (wSeq (wIf (wTest (wOp rEq (wV 2) (wC (.int 1))))
  (wRet (wFz (wRevL (wV 1))))
  wNext)
  (wRet (wCall (sp__law_drawn_line c) [] (wCons (wV 0) wNil))))))

def N__law_lines : List Str := ["script", "one"]
def t__law_lines (c : Cs) : WS :=
  (wSeq (wSet 1 (wCall (sp__law_drawn_line c) [] (wCons (wCall (sp__law_begun c) [] (wCons (wCall (sp__law_cell_at c) [] (wCons (wV 0) (wCons (wC (.int 0)) wNil))) wNil)) wNil)))
  (wRet (wTup (wCons (wV 1) (wCons (wCall (sp__law_drawn_other c) [] (wCons (wCall (sp__law_begun c) [] (wCons (wCall (sp__law_cell_at c) [] (wCons (wV 0) (wCons (wC (.int 1)) wNil))) wNil)) (wCons (wV 1) wNil))) wNil)))))

theorem pu__law_moved (c : Cs) : ∀ ws M Q E, sp__law_moved c ws M Q E → t__law_moved c (endsOf Q E) (startW N__law_moved ws) M := by
  intro ws M Q E h; unfold sp__law_moved at h
  obtain ⟨p, o, n, x, rfl, hM, ho, hn, h⟩ := h
  walk_at "wx"
  refine cl_take (size := 3) hM ho (by omega) (by decide) (by walk_at "sz") fun d o1 d0 d1 ho1 => okD (h _ o1 ?_ ho1)
  show (if (if x + d - 1 < 10 ^ Int.toNat 12 - 1 then x + d - 1 else 10 ^ Int.toNat 12 - 1) > 1 - 10 ^ Int.toNat 12 then (if x + d - 1 < 10 ^ Int.toNat 12 - 1 then x + d - 1 else 10 ^ Int.toNat 12 - 1) else 1 - 10 ^ Int.toNat 12 : Int).natAbs < 10 ^ 12
  have e : (10 : Int) ^ Int.toNat 12 = 1000000000000 := rfl
  rw [e]
  (repeat' split) <;> omega
theorem LnB.rev {l : Ln} (h : LnB l) : LnB l.reverse := ⟨by simpa using h.ne, by simpa using h.le, fun p hp => h.bd p (List.mem_reverse.mp hp)⟩
theorem pu__law_drawn_other (c : Cs) : ∀ ws M Q E, sp__law_drawn_other c ws M Q E → t__law_drawn_other c (endsOf Q E) (startW N__law_drawn_other ws) M := by
  intro ws M Q E h; unfold sp__law_drawn_other at h
  obtain ⟨p, o, n, l, rfl, hM, ho, hn, hl, h⟩ := h
  have l1 := hl.le
  walk_at "wx"
  refine cl_take (size := 4) hM ho (by omega) (by decide) (by walk_at "sz") fun d o1 d0 d1 ho1 => ?_
  walk_at "wx"
  show bch (decide (d = 0)) _ _
  by_cases hd : d = 0
  · rw [decide_eq_true hd]
    walk_at "wx"
    intro D hD
    have hDp := fresh_ne hD
    have hDM := fresh_old hD
    refine lc_inv (fun i M' => ∃ (L : Ln) (o' : MO), L.length = i ∧ (∀ p ∈ L, p.1.natAbs < 10 ^ 12 ∧ p.2.natAbs < 10 ^ 12) ∧ PotO o' (n + 1 + 2 * i) ∧ M' = (M.set p o').set D (lnM L)) ⟨[], o1, rfl, by simp, ho1, rfl⟩ ?_ ?_
    · rintro i x M' K hx ⟨L, o', hL, hB, ho', rfl⟩ hK
      have hlt : i < l.length := by
        have := (List.getElem?_eq_some_iff.mp hx).1
        simpa using this
      rw [List.getElem?_map, eL_get hlt] at hx
      cases hx
      have hp' : ((M.set p o').set D (lnM L)) p = some o' := by rw [Mh.set_ne (Ne.symm hDp), Mh.set_same]
      walk_at "wx"
      refine cl_moved hp' ho' (by omega) fun u o4 hu ho4 => ?_
      rw [Mh.set_comm hDp, Mh.set_set]
      have hp4 : ((M.set p o4).set D (lnM L)) p = some o4 := by rw [Mh.set_ne (Ne.symm hDp), Mh.set_same]
      walk_at "wx"
      refine cl_moved hp4 ho4 (by omega) fun v o5 hv ho5 => ?_
      rw [Mh.set_comm hDp, Mh.set_set]
      walk_at "wx"
      refine ⟨sl_of (by simp; omega), ?_⟩
      rw [Mh.set_set]
      refine hK _ ⟨L ++ [(u, v)], o5, by simp [hL], fun q hq => ?_, ho5.mono (by omega), ?_⟩
      · rcases List.mem_append.mp hq with hq | hq
        · exact hB q hq
        · simp at hq; subst hq; exact ⟨hu, hv⟩
      · unfold lnM; rw [List.map_append, List.map_append]; rfl
    · rintro M' ⟨L, o', hL, hB, ho', rfl⟩
      rw [List.length_map, List.length_map] at hL ho'
      refine frz_lst (by rw [Mh.set_ne hDp]; exact hDM) ?_
      exact okD (h L o' ⟨by have := hl.ne; omega, by omega, hB⟩ (ho'.mono (by omega)))
  · rw [decide_eq_false hd]
    walk_at "wx"
    show bch (decide (d = 1)) _ _
    by_cases hd : d = 1
    · rw [decide_eq_true hd]
      walk_at "wx"
      intro D hD
      rw [show ((l.map eC).map Wv.d).reverse = ((l.reverse.map eC)).map .d by rw [← List.map_reverse, ← List.map_reverse]]
      refine frz_lst hD ?_
      exact okD (h l.reverse o1 hl.rev (ho1.mono (by omega)))
    · rw [decide_eq_false hd]
      walk_at "wx"
      refine cl_drawn_line (n := n + 1) Mh.set_same ho1 (by omega) fun l' o' hl' ho' => ?_
      rw [Mh.set_set]
      exact okD (h l' o' hl' (ho'.mono (by omega)))
theorem pu__law_lines (c : Cs) : ∀ ws M Q E, sp__law_lines c ws M Q E → t__law_lines c (endsOf Q E) (startW N__law_lines ws) M := by
  intro ws M Q E h; unfold sp__law_lines at h; replace h := pS_out h
  obtain ⟨ds, rfl, hl, xs, rfl, h⟩ := h
  walk_at "wx"
  refine cl_cell_at (by decide) fun i => ?_
  walk_at "wx"
  refine cl_begun fun p o hp ho => ?_
  walk_at "wx"
  refine cl_drawn_line Mh.set_same ho (by omega) fun one o1 h1 ho1 => ?_
  rw [Mh.set_set]
  walk_at "wx"
  refine cl_cell_at (by decide) fun i => ?_
  walk_at "wx"
  refine cl_begun fun p2 o2 hp2 ho2 => ?_
  walk_at "wx"
  refine cl_drawn_other Mh.set_same ho2 (by omega) h1 fun other o3 h2 ho3 => ?_
  rw [Mh.set_set]
  walk_at "wx"
  exact ⟨M, (Sub.set hp).trans (Sub.set hp2), h one other h1 h2⟩
end Lw

namespace Lw
open PySem PySem.Spec L2
local macro_rules | `(tactic| walk_at "wp") => `(tactic| try simp only [wSeq, wIf, wRet, wSet, wTest, wOp, wUn, wV, wC, wCall, wCons, wNil, wCB, wTup, wLst, wOrT, wAndT, wNotT, wAndV, wOrV, wNotV, wIfE, wChain, wRaise, wNext, wPar, wDrop, wAsg, wgName, wgTup, wgCons, wgNil, tupOf, wAug, rAddI, rAbs, rMax2, rMin2, rMod, rLt, rGt, rLe, rGe, rCmp, rSub, rAdd, rMul, rDiv, rNeg, rPow, rEq, rNe, rLen, rIxW, rIsN, rNotN, isNonW, wFld, insOf, wMeth, wIsi, rIsi, tyName, startW, List.map, List.length, List.cons_append, List.nil_append, List.append_nil, List.replicate, List.getElem?_cons_zero, List.getElem?_cons_succ, List.set_cons_zero, List.set_cons_succ, bch_true, bch_false, bch_not, bch_dec, allD, Option.map, endsOf, pS1, pS2, pS3, pS4, pS5, atI_zero, atI_one, atI_two, Bool.not_true, Bool.not_false, Nat.reduceAdd, Nat.reduceSub])
local macro_rules | `(tactic| walk_at "wh") => `(tactic| conv => whnf)
local macro_rules | `(tactic| walk_at "wx") => `(tactic| (conv => whnf); repeat (first | (rw [Mh.set_same]; conv => whnf) | ((refine And.intro ?_ ?_; focus (first | ((with_reducible show (_ : Nat) ≤ _); first | exact sl2 | exact sl1 | exact sl3 | exact sl0 | exact sl4 | decide) | ((with_reducible show (_ : Nat) = _); rfl) | ((with_reducible show (_ : Bool) = _); first | rfl | decide +kernel) | ((with_reducible show (_ : Int) < _); first | omega | (simp only [List.length_map]; omega)) | ((with_reducible show (_ : Int) ≤ _); first | omega | (simp only [List.length_map]; omega)) | ((with_reducible show MulOk _ _); first | exact MulOk.nat_l rfl | exact MulOk.nat_r rfl) | ((with_reducible show DivOk _); exact (DivOk.lit rfl rfl)) | ((with_reducible show (_ ∧ _ ∧ Sz _ _)); exact PowOk.lit rfl rfl rfl))); conv => whnf)))
local macro_rules | `(tactic| walk_at "sz") => `(tactic| exact szs (by omega) (by decide))

@[irreducible] def sp__law_divisor (c : Cs) : SpW := pS 2 fun ds Q _ => ∃ a b, ds = [.int a, .int b] ∧ 0 ≤ b ∧ Q (.int (Int.gcd a b))
@[irreducible] def sp__law_ratio (c : Cs) : SpW := pS 2 fun ds Q _ => ∃ a b, ds = [.int a, .int b] ∧ 0 < b ∧ Sz 8000 b ∧ Q (eQ (Rat.divInt a b))
@[irreducible] def sp__law_below (c : Cs) : SpW := pS 2 fun ds Q _ => ∃ a b, ds = [eQ a, eQ b] ∧ Qz 100000 a ∧ Qz 100000 b ∧ Q (.bl (decide (a < b)))
@[irreducible] def sp__law_apart (c : Cs) : SpW := pS 4 fun ds Q _ => ∃ one i other j, ds = [eL one, .int ((i : Nat) : Int), eL other, .int ((j : Nat) : Int)] ∧ LnOk one ∧ LnOk other ∧ i < one.length ∧ j < other.length ∧ Q (.int (sqT one other i j))
section
variable {c : Cs} {M : Mh} {Q : Wv → Mh → Prop} {E : EW}
theorem cl_ldivisor {a b : Int} (h0 : 0 ≤ b) (h : Q (.d (.int (Int.gcd a b))) M) : sp__law_divisor c [.d (.int a), .d (.int b)] M Q E := by
  unfold sp__law_divisor; rw [pS2]; exact ⟨a, b, rfl, h0, h⟩
theorem cl_lratio {a b : Int} (h0 : 0 < b) (hz : Sz 8000 b) (h : Q (.d (eQ (Rat.divInt a b))) M) : sp__law_ratio c [.d (.int a), .d (.int b)] M Q E := by
  unfold sp__law_ratio; rw [pS2]; exact ⟨a, b, rfl, h0, hz, h⟩
theorem cl_lbelow {a b : Rat} (ha : Qz 100000 a) (hb : Qz 100000 b) (h : Q (.d (.bl (decide (a < b)))) M) : sp__law_below c [.d (eQ a), .d (eQ b)] M Q E := by
  unfold sp__law_below; rw [pS2]; exact ⟨a, b, rfl, ha, hb, h⟩
theorem cl_lapart {one other : Ln} {i j : Nat} (h1 : LnOk one) (h2 : LnOk other) (hi : i < one.length) (hj : j < other.length) (h : Q (.d (.int (sqT one other i j))) M) : sp__law_apart c [.d (eL one), .d (.int ((i : Nat) : Int)), .d (eL other), .d (.int ((j : Nat) : Int))] M Q E := by
  unfold sp__law_apart; rw [pS4]; exact ⟨one, i, other, j, rfl, h1, h2, hi, hj, h⟩
end
def N__law_divisor : List Str := ["one", "other"]
def b1__law_divisor (c : Cs) : WS :=
  (wPar 0 1 (wCons (wV 1) (wCons (wOp rMod (wV 0) (wV 1)) wNil)))
def t__law_divisor (c : Cs) : WS :=
  (wSeq (wWhile (wTest (wOp rNe (wV 1) (wC (.int 0)))) (b1__law_divisor c))
  (wRet (wCB rAbs (wCons (wV 0) wNil))))

def N__law_ratio : List Str := ["top", "bottom", "by"]
def t__law_ratio (c : Cs) : WS :=
  (wSeq (wSet 2 (wCall (sp__law_divisor c) [] (wCons (wV 0) (wCons (wV 1) wNil))))
  (wRet (wTup (wCons (wOp rDiv (wV 0) (wV 2)) (wCons (wOp rDiv (wV 1) (wV 2)) wNil)))))

def N__law_below : List Str := ["one", "other"]
def t__law_below (c : Cs) : WS :=
  (wRet (wOp rLt (wOp rMul (wOp rIxW (wV 0) (wC (.int 0))) (wOp rIxW (wV 1) (wC (.int 1)))) (wOp rMul (wOp rIxW (wV 1) (wC (.int 0))) (wOp rIxW (wV 0) (wC (.int 1))))))

def N__law_apart : List Str := ["one", "x", "other", "y"]
def t__law_apart (c : Cs) : WS :=
  (wRet (wOp rAdd (wOp rPow (wOp rSub (wOp rIxW (wOp rIxW (wV 0) (wV 1)) (wC (.int 0))) (wOp rIxW (wOp rIxW (wV 2) (wV 3)) (wC (.int 0)))) (wC (.int 2))) (wOp rPow (wOp rSub (wOp rIxW (wOp rIxW (wV 0) (wV 1)) (wC (.int 1))) (wOp rIxW (wOp rIxW (wV 2) (wV 3)) (wC (.int 1)))) (wC (.int 2)))))

theorem pu__law_divisor (c : Cs) : ∀ ws M Q E, sp__law_divisor c ws M Q E → t__law_divisor c (endsOf Q E) (startW N__law_divisor ws) M := by
  intro ws M Q E h; unfold sp__law_divisor at h; replace h := pS_out h
  obtain ⟨ds, rfl, hl, a, b, rfl, hb, h⟩ := h
  walk_at "wh"
  refine .inl ⟨fun m ρ M' => M' = M ∧ ∃ x y : Int, m = y.toNat ∧ ρ = [some (.d (.int x)), some (.d (.int y))] ∧ 0 ≤ y ∧ Int.gcd x y = Int.gcd a b, ⟨_, rfl, a, b, rfl, rfl, hb, rfl⟩, ?_⟩
  rintro m ρ M' ⟨rfl, x, y, rfl, rfl, hy, hg⟩
  walk_at "wx"
  by_cases h0 : y = 0
  · subst h0
    walk_at "wx"
    rw [Int.gcd_zero_right] at hg
    have e : (if x < 0 then -x else x) = ((Int.gcd a b : Nat) : Int) := by rw [← hg]; split <;> omega
    rw [e]
    exact okD h
  · have e : eqD (.int y) (.int 0) = false := by simp [eqD, h0]
    show bch (!eqD (.int y) (.int 0)) _ _
    rw [e]
    walk_at "wh"
    refine ⟨by omega, ?_⟩
    walk_at "wh"
    refine ⟨_, ?_, rfl, y, x % y, rfl, rfl, Int.emod_nonneg _ h0, ?_⟩
    · have := Int.emod_lt_of_pos x (by omega : 0 < y)
      have := Int.emod_nonneg x h0
      omega
    · rw [Int.emod_def, Int.gcd_sub_mul_left_right, Int.gcd_comm]
      exact hg
theorem pu__law_ratio (c : Cs) : ∀ ws M Q E, sp__law_ratio c ws M Q E → t__law_ratio c (endsOf Q E) (startW N__law_ratio ws) M := by
  intro ws M Q E h; unfold sp__law_ratio at h; replace h := pS_out h
  obtain ⟨ds, rfl, hl, a, b, rfl, hb, hz, h⟩ := h
  walk_at "wx"
  refine cl_ldivisor (by omega) ?_
  have g0 : ((Int.gcd a b : Nat) : Int) ≠ 0 := by
    have : Int.gcd a b ≠ 0 := by rw [Ne, Int.gcd_eq_zero_iff]; exact fun z => by omega
    omega
  have gz : Sz 8000 ((Int.gcd a b : Nat) : Int) := hz.le (by
    have : Int.gcd a b ≤ b.natAbs := Nat.le_of_dvd (by omega) (Int.gcd_dvd_natAbs_right ..)
    simpa using this)
  walk_at "wh"
  refine ⟨.of g0 gz (by omega), ?_⟩
  walk_at "wh"
  refine ⟨.of g0 gz (by omega), ?_⟩
  walk_at "wx"
  refine okD ?_
  have e1 : eQ (Rat.divInt a b) = .tup [.int (a.fdiv (Int.gcd a b : Nat)), .int (b.fdiv (Int.gcd a b : Nat))] := by
    unfold eQ
    rw [Rat.num_divInt, Rat.den_divInt, if_neg (by omega), Int.sign_eq_one_of_pos hb, Int.one_mul, Int.gcd_comm b a, fdiv_dvd (Int.gcd_dvd_left ..), fdiv_dvd (Int.gcd_dvd_right ..), Int.natCast_ediv]
    rw [show ((b.natAbs : Nat) : Int) = b by omega]
  rw [← e1]; exact h
theorem pu__law_below (c : Cs) : ∀ ws M Q E, sp__law_below c ws M Q E → t__law_below c (endsOf Q E) (startW N__law_below ws) M := by
  intro ws M Q E h; unfold sp__law_below at h; replace h := pS_out h
  obtain ⟨ds, rfl, hl, a, b, rfl, ha, hb, h⟩ := h
  walk_at "wh"
  refine ⟨.of ha.n hb.d (by omega) (by omega), ?_⟩
  walk_at "wh"
  refine ⟨.of hb.n ha.d (by omega) (by omega), okD ?_⟩
  have e : decide (a.num * b.den < b.num * a.den) = decide (a < b) := by rw [decide_eq_decide]; exact (Rat.lt_iff a b).symm
  rw [← e] at h; exact h
theorem pu__law_apart (c : Cs) : ∀ ws M Q E, sp__law_apart c ws M Q E → t__law_apart c (endsOf Q E) (startW N__law_apart ws) M := by
  intro ws M Q E h; unfold sp__law_apart at h; replace h := pS_out h
  obtain ⟨ds, rfl, hl, one, i, other, j, rfl, h1, h2, hi, hj, h⟩ := h
  have a := h1.cr i
  have b := h2.cr j
  have e1 : L2.atI (one.map eC) ((i : Nat) : Int) = some (eC (cr one i)) := eL_ix rfl hi
  have e2 : L2.atI (other.map eC) ((j : Nat) : Int) = some (eC (cr other j)) := eL_ix rfl hj
  walk_at "wh"
  rw [e1]
  walk_at "wh"
  rw [e2]
  walk_at "wh"
  refine ⟨⟨by decide, by decide, (a.1.sub b.1).mono (by decide)⟩, ?_⟩
  walk_at "wh"
  rw [e1]
  walk_at "wh"
  rw [e2]
  walk_at "wh"
  refine ⟨⟨by decide, by decide, (a.2.sub b.2).mono (by decide)⟩, okD ?_⟩
  have e3 : ((cr one i).1 - (cr other j).1) ^ (Int.toNat 2) + ((cr one i).2 - (cr other j).2) ^ (Int.toNat 2) = sqT one other i j := by
    show ((cr one i).1 - (cr other j).1) ^ 2 + ((cr one i).2 - (cr other j).2) ^ 2 = _
    rw [Int.pow_succ, Int.pow_succ, Int.pow_zero, Int.one_mul, Int.pow_succ, Int.pow_succ, Int.pow_zero, Int.one_mul]; rfl
  rw [← e3] at h; exact h
@[irreducible] def sp__law_drawn_leash (c : Cs) : SpW := fun ws M Q E => ∃ p o n one other, ws = [.c p, .d (eL one), .d (eL other)] ∧ M p = some o ∧ PotO o n ∧ n ≤ 600000 ∧ LnB one ∧ LnB other ∧ ∀ q o', 0 ≤ q.num → Qz 300 q → PotO o' (n + 20) → Q (.d (eQ q)) (M.set p o')
theorem len__law_drawn_leash (c : Cs) : ∀ ws M Q E, sp__law_drawn_leash c ws M Q E → ws.length = 3 := by
  intro ws M Q E h; unfold sp__law_drawn_leash at h; obtain ⟨p, o, n, one, other, rfl, _⟩ := h; rfl
def N__law_drawn_leash : List Str := ["pot", "one", "other", "here", "part", "turn"]
def t__law_drawn_leash (c : Cs) : WS :=
  (wSeq (wSet 3 (wCall (sp__law_apart c) [] (wCons (wV 1) (wCons (wCall (sp__law_take c) [] (wCons (wV 0) (wCons (wCB rLen (wCons (wV 1) wNil)) wNil))) (wCons (wV 2) (wCons (wCall (sp__law_take c) [] (wCons (wV 0) (wCons (wCB rLen (wCons (wV 2) wNil)) wNil))) wNil))))))
  (wSeq (wSet 4 (wOp rAdd (wC (.int 1)) (wCall (sp__law_wide c) [] (wCons (wV 0) (wCons (wOp rIxW (wLst (wCons (wC (.int 3)) (wCons (wC (.int 40)) (wCons (wOp rPow (wC (.int 10)) (wC (.int 30))) wNil)))) (wCall (sp__law_take c) [] (wCons (wV 0) (wCons (wC (.int 3)) wNil)))) wNil)))))
  (wSeq (wSet 5 (wCall (sp__law_take c) [] (wCons (wV 0) (wCons (wC (.int 6)) wNil))))
  (wSeq (wIf (wTest (wOp rLt (wV 5) (wC (.int 2))))
  (wRet (wTup (wCons (wV 3) (wCons (wC (.int 1)) wNil))))
  wNext)
  (wSeq (wIf (wTest (wOp rEq (wV 5) (wC (.int 2))))
  (wRet (wCall (sp__law_ratio c) [] (wCons (wOp rAdd (wOp rMul (wV 3) (wV 4)) (wC (.int 1))) (wCons (wV 4) wNil))))
  wNext)
  (wSeq (wIf (wTest (wOp rEq (wV 5) (wC (.int 3))))
  (wRet (wCall (sp__law_ratio c) [] (wCons (wCB rMax2 (wCons (wC (.int 0)) (wCons (wOp rSub (wOp rMul (wV 3) (wV 4)) (wC (.int 1))) wNil))) (wCons (wV 4) wNil))))
  wNext)
  (wSeq (wIf (wTest (wOp rEq (wV 5) (wC (.int 4))))
  (wRet (wCall (sp__law_ratio c) [] (wCons (wCall (sp__law_take c) [] (wCons (wV 0) (wCons (wC (.int 60)) wNil))) (wCons (wOp rAdd (wC (.int 1)) (wCall (sp__law_take c) [] (wCons (wV 0) (wCons (wC (.int 5)) wNil)))) wNil))))
  wNext)
  (wRet (wTup (wCons (wCall (sp__law_wide c) [] (wCons (wV 0) (wCons (wOp rPow (wC (.int 10)) (wC (.int 25))) wNil))) (wCons (wC (.int 1)) wNil)))))))))))

theorem parts {d : Int} (h0 : 0 ≤ d) (h1 : d < 3) : ∃ x : Int, L2.atI [Dt.int 3, .int 40, .int (10 ^ (Int.toNat 30))] d = some (.int x) ∧ 3 ≤ x ∧ x ≤ 10 ^ 30 := by
  have : d = 0 ∨ d = 1 ∨ d = 2 := by omega
  rcases this with rfl | rfl | rfl
  · exact ⟨3, rfl, by omega, by omega⟩
  · exact ⟨40, rfl, by omega, by omega⟩
  · exact ⟨10 ^ 30, rfl, by omega, by omega⟩
theorem divInt_nn {a b : Int} (ha : 0 ≤ a) (hb : 0 < b) : 0 ≤ (Rat.divInt a b).num := by
  rw [Rat.num_nonneg]; exact (Rat.divInt_nonneg ha (by omega))
theorem szs2 {k : Nat} {x : Int} (h : x.natAbs < 1267650600228229401496703205376) (hk : 100 ≤ k) : Sz k x :=
  Nat.lt_of_lt_of_le (Nat.lt_of_lt_of_le h (by decide : 1267650600228229401496703205376 ≤ 2 ^ 100)) (Nat.pow_le_pow_right (by decide) hk)
theorem pu__law_drawn_leash (c : Cs) : ∀ ws M Q E, sp__law_drawn_leash c ws M Q E → t__law_drawn_leash c (endsOf Q E) (startW N__law_drawn_leash ws) M := by
  intro ws M Q E h; unfold sp__law_drawn_leash at h
  obtain ⟨p, o, n, one, other, rfl, hM, ho, hn, h1, h2, h⟩ := h
  have n1 := h1.ne
  have n2 := h2.ne
  have m1 := h1.le
  have m2 := h2.le
  have el1 : ((one.map eC).length : Int) = (one.length : Int) := by simp
  have el2 : ((other.map eC).length : Int) = (other.length : Int) := by simp
  walk_at "wx"
  rw [el1]
  refine cl_take (size := (one.length : Int)) hM ho (by omega) (by omega) (by walk_at "sz") fun a o1 a0 a1 ho1 => ?_
  walk_at "wx"
  rw [el2]
  refine cl_take (size := (other.length : Int)) Mh.set_same ho1 (by omega) (by omega) (by walk_at "sz") fun b o2 b0 b1 ho2 => ?_
  rw [Mh.set_set]
  walk_at "wx"
  obtain ⟨i, rfl⟩ := Int.eq_ofNat_of_zero_le a0
  obtain ⟨j, rfl⟩ := Int.eq_ofNat_of_zero_le b0
  refine cl_lapart h1.ok h2.ok (by omega) (by omega) ?_
  have hz := sqC_size h1.ok h2.ok i j
  have hnn := sqC_nonneg (cr one i) (cr other j)
  change Sz 90 (sqT one other i j) at hz
  change 0 ≤ sqT one other i j at hnn
  generalize sqT one other i j = T at hz hnn
  walk_at "wx"
  refine cl_take (size := 3) Mh.set_same ho2 (by omega) (by decide) (by walk_at "sz") fun d o3 d0 d1 ho3 => ?_
  rw [Mh.set_set]
  walk_at "wh"
  obtain ⟨x, ex, x0, x1⟩ := parts d0 d1
  rw [ex]
  walk_at "wx"
  refine cl_wide (size := x) Mh.set_same ho3 (by omega) (by omega) (szs2 (by omega) (by decide)) fun e o4 e0 e1 ho4 => ?_
  rw [Mh.set_set]
  have hpz : Sz 100 (1 + e) := szs2 (by omega) (by decide)
  walk_at "wx"
  refine cl_take (size := 6) Mh.set_same ho4 (by omega) (by decide) (by walk_at "sz") fun t o5 t0 t1 ho5 => ?_
  rw [Mh.set_set]
  walk_at "wx"
  show bch (decide (t < 2)) _ _
  by_cases ht : t < 2
  · rw [decide_eq_true ht]
    walk_at "wx"
    exact okD (h (T : Rat) o5 hnn (Qz.mono (Qz.int hz (by decide)) (by decide)) (ho5.mono (by omega)))
  rw [decide_eq_false ht]
  walk_at "wx"
  show bch (decide (t = 2)) _ _
  by_cases ht2 : t = 2
  · rw [decide_eq_true ht2]
    walk_at "wh"
    refine ⟨.of hz hpz (by omega) (by omega), ?_⟩
    walk_at "wx"
    refine cl_lratio (by omega) (hpz.mono (by omega)) ?_
    have zz := (hz.mul hpz).add Sz.one
    have := Int.mul_nonneg hnn (by omega : 0 ≤ 1 + e)
    exact okD (h _ o5 (divInt_nn (by omega) (by omega)) ((Qz.divInt (by omega) zz hpz).mono (by omega)) (ho5.mono (by omega)))
  rw [decide_eq_false ht2]
  walk_at "wx"
  show bch (decide (t = 3)) _ _
  by_cases ht3 : t = 3
  · rw [decide_eq_true ht3]
    walk_at "wh"
    refine ⟨.of hz hpz (by omega) (by omega), ?_⟩
    walk_at "wx"
    refine cl_lratio (by omega) (hpz.mono (by omega)) ?_
    have zz := (hz.mul hpz).sub Sz.one
    have z3 : Sz 191 (if T * (1 + e) - 1 > 0 then T * (1 + e) - 1 else 0) := by
      split
      · exact zz.mono (by omega)
      · exact szs (by omega) (by decide)
    exact okD (h _ o5 (divInt_nn (by split <;> omega) (by omega)) ((Qz.divInt (by omega) z3 hpz).mono (by omega)) (ho5.mono (by omega)))
  rw [decide_eq_false ht3]
  walk_at "wx"
  show bch (decide (t = 4)) _ _
  by_cases ht4 : t = 4
  · rw [decide_eq_true ht4]
    walk_at "wx"
    refine cl_take (size := 60) Mh.set_same ho5 (by omega) (by decide) (by walk_at "sz") fun u o6 u0 u1 ho6 => ?_
    rw [Mh.set_set]
    walk_at "wx"
    refine cl_take (size := 5) Mh.set_same ho6 (by omega) (by decide) (by walk_at "sz") fun v o7 v0 v1 ho7 => ?_
    rw [Mh.set_set]
    walk_at "wx"
    have zu : Sz 60 u := szs (by omega) (by decide)
    have zv : Sz 60 (1 + v) := szs (by omega) (by decide)
    refine cl_lratio (by omega) (zv.mono (by omega)) ?_
    exact okD (h _ o7 (divInt_nn u0 (by omega)) ((Qz.divInt (by omega) zu zv).mono (by omega)) (ho7.mono (by omega)))
  rw [decide_eq_false ht4]
  walk_at "wx"
  refine cl_wide (size := 10 ^ Int.toNat 25) Mh.set_same ho5 (by omega) (by decide) (szs2 (by decide) (by decide)) fun u o6 u0 u1 ho6 => ?_
  rw [Mh.set_set]
  walk_at "wx"
  have zu : Sz 100 u := szs2 (by have e : (10 : Int) ^ Int.toNat 25 = 10000000000000000000000000 := rfl
                                 rw [e] at u1; omega) (by decide)
  exact okD (h (u : Rat) o6 u0 (Qz.mono (Qz.int zu (by decide)) (by decide)) (ho6.mono (by omega)))
theorem cutW_map (xs : List Int) (lo hi : Option Int) : ∃ ys : List Int, cutW ((xs.map Dt.int).map .d) lo hi = (ys.map Dt.int).map .d := by
  unfold cutW
  rw [← List.map_drop, ← List.map_drop, ← List.map_take, ← List.map_take]
  exact ⟨_, rfl⟩
theorem cl_lines {c : Cs} {M : Mh} {Q : Wv → Mh → Prop} {E : EW} {xs : List Int} (h : ∀ one other, LnB one → LnB other → Q (.d (.tup [eL one, eL other])) M) : sp__law_lines c [.d (.scr (xs.map .int))] M Q E := by
  unfold sp__law_lines; rw [pS1]; exact ⟨xs, rfl, h⟩
theorem cl_drawn_leash {c : Cs} {M : Mh} {Q : Wv → Mh → Prop} {E : EW} {p : Addr} {o : MO} {n : Nat} {one other : Ln} (h1 : M p = some o) (h2 : PotO o n) (h3 : n ≤ 600000) (h4 : LnB one) (h5 : LnB other) (h : ∀ q o', 0 ≤ q.num → Qz 300 q → PotO o' (n + 20) → Q (.d (eQ q)) (M.set p o')) : sp__law_drawn_leash c [.c p, .d (eL one), .d (eL other)] M Q E := by
  unfold sp__law_drawn_leash; exact ⟨p, o, n, one, other, rfl, h1, h2, h3, h4, h5, h⟩
theorem cl_go_hops {c : Cs} {M : Mh} {Q : Wv → Mh → Prop} {E : EW} {one other : Ln} {q : Rat} (h1 : LnOk one) (h2 : LnOk other) (h0 : 0 ≤ q.num) (hz : Qz 90000 q) (h : tupL M Q (goHopsR c one other q).1 (goHopsR c one other q).2) : sp_go_hops c [.d (eL one), .d (eL other), .d (eQ q)] M Q E := by
  unfold sp_go_hops
  exact ⟨_, _, _, rfl, rfl, by rw [asQ_eQ]; exact ⟨fun z => by omega, fun _ => ⟨one, other, rfl, rfl, h1, h2, hz, h⟩⟩⟩
end Lw

namespace Lw
open PySem PySem.Spec L2
local macro_rules | `(tactic| walk_at "wp") => `(tactic| try simp only [wSeq, wIf, wRet, wSet, wTest, wOp, wUn, wV, wC, wCall, wCons, wNil, wCB, wTup, wLst, wOrT, wAndT, wNotT, wAndV, wOrV, wNotV, wIfE, wChain, wRaise, wNext, wPar, wDrop, wAsg, wgName, wgTup, wgCons, wgNil, tupOf, wAug, rAddI, rAbs, rMax2, rMin2, rMod, rLt, rGt, rLe, rGe, rCmp, rSub, rAdd, rMul, rDiv, rNeg, rPow, rEq, rNe, rLen, rIxW, rIsN, rNotN, isNonW, wFld, insOf, wMeth, wIsi, rIsi, tyName, startW, List.map, List.length, List.cons_append, List.nil_append, List.append_nil, List.replicate, List.getElem?_cons_zero, List.getElem?_cons_succ, List.set_cons_zero, List.set_cons_succ, bch_true, bch_false, bch_not, bch_dec, allD, Option.map, endsOf, pS1, pS2, pS3, pS4, pS5, atI_zero, atI_one, atI_two, Bool.not_true, Bool.not_false, Nat.reduceAdd, Nat.reduceSub])
local macro_rules | `(tactic| walk_at "wh") => `(tactic| conv => whnf)
local macro_rules | `(tactic| walk_at "wx") => `(tactic| (conv => whnf); repeat (first | (rw [Mh.set_same]; conv => whnf) | ((refine And.intro ?_ ?_; focus (first | ((with_reducible show (_ : Nat) ≤ _); first | exact sl2 | exact sl1 | exact sl3 | exact sl0 | exact sl4 | decide) | ((with_reducible show (_ : Nat) = _); rfl) | ((with_reducible show (_ : Bool) = _); first | rfl | decide +kernel) | ((with_reducible show (_ : Int) < _); first | omega | (simp only [List.length_map]; omega)) | ((with_reducible show (_ : Int) ≤ _); first | omega | (simp only [List.length_map]; omega)) | ((with_reducible show MulOk _ _); first | exact MulOk.nat_l rfl | exact MulOk.nat_r rfl) | ((with_reducible show DivOk _); exact (DivOk.lit rfl rfl)) | ((with_reducible show (_ ∧ _ ∧ Sz _ _)); exact PowOk.lit rfl rfl rfl))); conv => whnf)))
local macro_rules | `(tactic| walk_at "sz") => `(tactic| exact szs (by omega) (by decide))

/-! # hops: a walk or a fence -/
theorem mem_farL {n m : Nat} {T : Nat → Nat → Int} {q : Rat} {also : Bool} {k : Cor} : k ∈ farL n m T q also ↔ ∃ i j, i < n ∧ j < m ∧ farB T q also i j = true ∧ k = cN i j := by
  unfold farL farRow
  simp only [List.mem_flatMap, List.mem_range, List.mem_map, List.mem_filter]
  constructor
  · rintro ⟨i, hi, j, ⟨hj, hb⟩, rfl⟩
    exact ⟨i, j, hi, hj, hb, rfl⟩
  · rintro ⟨i, j, hi, hj, hb, rfl⟩
    exact ⟨i, hi, j, ⟨hj, hb⟩, rfl⟩
section
variable {n m : Nat} {fb : Nat → Nat → Bool} {F W : List Cor}
/-- above and left of a pair that waits -/
def AL (W : List Cor) (x y : Nat) : Prop := ∃ k ∈ W, (x : Int) ≤ k.1 ∧ k.2 ≤ (y : Int)
theorem mayF_iff {p l : Cor} : mayF p l = true ↔ (l.1 - p.1 ≤ 0 ∧ l.2 - p.2 ≥ -1 ∨ l.1 - p.1 ≤ 1 ∧ l.2 - p.2 ≥ 0) := by unfold mayF; exact decide_eq_true_iff
theorem hop_dual (hF : ∀ k, k ∈ F ↔ ∃ i j, i < n ∧ j < m ∧ fb i j = true ∧ k = cN i j) (hn : 0 < n) (hm : 0 < m) (h : FClosed F ((n : Int) - 1) ((m : Int) - 1) W) : Rch (fun i j => fb i j = false) (n - 1) (m - 1) := by
  have grid : ∀ k ∈ W, ∃ i j, i < n ∧ j < m ∧ k = cN i j ∧ i + 1 < n ∧ 0 < j := by
    intro k hk
    obtain ⟨i, j, hi, hj, _, rfl⟩ := (hF k).mp (h.sub k hk)
    have he := h.noend _ hk
    have he' : ¬ ((i : Int) = (n : Int) - 1) ∧ ¬ ((j : Int) = 0) := by
      rw [EnB, Bool.or_eq_false_iff] at he
      exact ⟨of_decide_eq_false he.1, of_decide_eq_false he.2⟩
    exact ⟨i, j, hi, hj, rfl, by omega, by omega⟩
  have inW : ∀ i j, i < n → j < m → fb i j = true → (i = 0 ∨ j + 1 = m ∨ ∃ k ∈ W, mayF k (cN i j) = true) → cN i j ∈ W := by
    intro i j hi hj hb hc
    have hf : cN i j ∈ F := (hF _).mpr ⟨i, j, hi, hj, hb, rfl⟩
    rcases hc with rfl | hc | ⟨k, hk, hm'⟩
    · exact h.starts _ hf (by simp [StB, cN])
    · exact h.starts _ hf (by
        rw [StB, Bool.or_eq_true]
        exact .inr (decide_eq_true (by show ((j : Nat) : Int) = _; omega)))
    · exact h.closed k hk _ hf hm'
  have self : ∀ i j, cN i j ∈ W → AL W i j := fun i j hk => ⟨_, hk, by simp [cN], by simp [cN]⟩
  have left : ∀ x y, AL W (x + 1) y → AL W x y := fun x y ⟨k, hk, h1, h2⟩ => ⟨k, hk, by omega, h2⟩
  have low : ∀ x, ¬ AL W x 0 := fun x ⟨k, hk, _, h2⟩ => by
    obtain ⟨i, j, _, _, rfl, _, hj⟩ := grid k hk
    simp only [cN] at h2; omega
  have right : ∀ y, ¬ AL W (n - 1) y := fun y ⟨k, hk, h1, _⟩ => by
    obtain ⟨i, j, _, _, rfl, hi, _⟩ := grid k hk
    simp only [cN] at h1; omega
  -- up a column, as far as nothing waits
  have up : ∀ (x : Nat), x < n → ∀ (s y : Nat), m - 1 - y ≤ s → y < m → Rch (fun i j => fb i j = false) x y → ¬ AL W x y → (∀ z, y ≤ z → z < m → ¬ AL W x z → fb x z = false) →
      ∃ y', y' < m ∧ Rch (fun i j => fb i j = false) x y' ∧ ¬ AL W x y' ∧ (y' = m - 1 ∨ AL W x (y' + 1)) := by
    intro x hx s
    induction s with
    | zero => intro y hs hy hr ha _; exact ⟨y, hy, hr, ha, .inl (by omega)⟩
    | succ s ih =>
      intro y hs hy hr ha ok
      by_cases hlast : y = m - 1
      · exact ⟨y, hy, hr, ha, .inl hlast⟩
      · by_cases hA : AL W x (y + 1)
        · exact ⟨y, hy, hr, ha, .inr hA⟩
        · exact ih (y + 1) (by omega) (by omega) (.up hr (ok (y + 1) (by omega) (by omega) hA)) hA (fun z h1 h2 h3 => ok z (by omega) h2 h3)
  have key : ∀ x, x < n → ∃ y, y < m ∧ Rch (fun i j => fb i j = false) x y ∧ ¬ AL W x y ∧ (y = m - 1 ∨ AL W x (y + 1)) := by
    intro x
    induction x with
    | zero =>
      intro hx
      have ok : ∀ z, 0 ≤ z → z < m → ¬ AL W 0 z → fb 0 z = false := by
        intro z _ hz ha
        cases hb : fb 0 z with
        | false => rfl
        | true => exact absurd (self 0 z (inW 0 z hx hz hb (.inl rfl))) ha
      exact up 0 hx _ 0 (Nat.le_refl _) hm (.zero (ok 0 (Nat.le_refl _) hm (low 0))) (low 0) ok
    | succ x ih =>
      intro hx
      obtain ⟨y, hy, hr, ha, hc⟩ := ih (by omega)
      rcases hc with hc | ⟨k, hk, k1, k2⟩
      · refine ⟨y, hy, .right hr ?_, fun z => ha (left x y z), .inl hc⟩
        cases hb : fb (x + 1) y with
        | false => rfl
        | true => exact absurd (left x y (self _ _ (inW _ _ hx hy hb (.inr (.inl (by omega)))))) ha
      · obtain ⟨i, j, hi, hj, rfl, hi', hj'⟩ := grid k hk
        simp only [cN] at k1 k2
        have ej : j = y + 1 := by
          by_cases e : j ≤ y
          · exact absurd ⟨_, hk, by simp only [cN]; omega, by simp only [cN]; omega⟩ ha
          · omega
        subst ej
        by_cases hA : AL W (x + 1) (y + 1)
        · refine ⟨y, hy, .right hr ?_, fun z => ha (left x y z), .inr hA⟩
          cases hb : fb (x + 1) y with
          | false => rfl
          | true =>
            obtain ⟨k', hk', a1, a2⟩ := hA
            refine absurd (left x y (self _ _ (inW _ _ hx hy hb (.inr (.inr ⟨k', hk', ?_⟩))))) ha
            rw [mayF_iff]
            simp only [cN]
            left
            omega
        · have ei : i = x := by
            by_cases e : x + 1 ≤ i
            · exact absurd ⟨_, hk, by simp only [cN]; omega, by simp only [cN]; omega⟩ hA
            · omega
          subst ei
          have ok : ∀ z, y + 1 ≤ z → z < m → ¬ AL W (i + 1) z → fb (i + 1) z = false := by
            intro z hz hz2 hz3
            cases hb : fb (i + 1) z with
            | false => rfl
            | true =>
              refine absurd (self _ _ (inW _ _ hx hz2 hb (.inr (.inr ⟨_, hk, ?_⟩)))) hz3
              rw [mayF_iff]
              simp only [cN]
              right
              omega
          exact up (i + 1) hx _ (y + 1) (Nat.le_refl _) hj (.diag hr (ok (y + 1) (Nat.le_refl _) hj hA)) hA ok
  obtain ⟨y, hy, hr, ha, hc⟩ := key (n - 1) (by omega)
  rcases hc with rfl | hc
  · exact hr
  · exact absurd hc (right _)
end
/-! ## what go_hops tells -/
structure HWalk (one other : Ln) (q : Rat) (L : List Cor) : Prop where
  head : L.head? = some (cN 0 0)
  last : L.getLast? = some (cN (one.length - 1) (other.length - 1))
  step : ∀ i a b, L[i]? = some a → L[i + 1]? = some b → Hop a b
  mem : ∀ x ∈ L, ∃ a b, a < one.length ∧ b < other.length ∧ x = cN a b ∧ ((sqT one other a b : Int) : Rat) ≤ q
  len : L.length ≤ 1000
structure HFence (one other : Ln) (also : Bool) (q : Rat) (L : List Cor) : Prop where
  head : ∃ h, L.head? = some h ∧ StB ((other.length : Int) - 1) h = true
  last : ∃ k, L.getLast? = some k ∧ EnB ((one.length : Int) - 1) k = true
  step : ∀ i a b, L[i]? = some a → L[i + 1]? = some b → mayF a b = true
  mem : ∀ x ∈ L, ∃ a b, a < one.length ∧ b < other.length ∧ x = cN a b ∧ farB (sqT one other) q also a b = true
  len : L.length ≤ 20000
theorem okT_iff' {T : Nat → Nat → Int} {q : Rat} {x y : Nat} : okT T q x y ↔ ((T x y : Int) : Rat) ≤ q := by
  unfold okT; exact Rat.not_lt
theorem hopWalk_post {c : Cs} {one other : Ln} {q : Rat} (h1 : LnOk one) (h2 : LnOk other) (hq : Qz 90000 q) {L : List Cor} (h : hopWalkR c one other q = some L) : HWalk one other q L := by
  have ok := TabOk.of h1 h2 hq
  have P := reachedA_post (c := c) ok
  have n1 := h1.ne
  have n2 := h2.ne
  have l1 := h1.le
  have l2 := h2.le
  unfold hopWalkR at h
  split at h
  · rename_i hs
    cases h
    obtain ⟨L, hL1, hL2, hL3⟩ := trace_ex P _ _ _ (Nat.le_refl _) hs
    rw [traceA_eq hL1]
    refine ⟨hL3.head, hL3.last, hL3.step, fun x hx => ?_, by omega⟩
    obtain ⟨v, ev⟩ := Option.isSome_iff_exists.mp (hL3.mem x hx)
    obtain ⟨a, b, e, hb, hr, ha⟩ := P.inv.only _ _ ev
    exact ⟨a, b, by omega, hb, e, okT_iff'.mp hr.ok⟩
  · cases h
theorem hopFence_post {c : Cs} {one other : Ln} {q : Rat} {also : Bool} (h1 : LnOk one) (h2 : LnOk other) {L : List Cor} (h : hopFenceR c one other q also = some L) : HFence one other also q L := by
  have l1 := h1.le
  have l2 := h2.le
  have hl : (farL one.length other.length (sqT one other) q also).length ≤ 10000 := by
    have := farL_len (n := one.length) (T := sqT one other) (q := q) (also := also) l2
    omega
  unfold hopFenceR at h
  have P := fenceR_post (c := c) (n := (one.length : Int) - 1) (m := (other.length : Int) - 1) hl
  rw [h] at P
  obtain ⟨k, hk, he, hL⟩ := P
  refine ⟨hk.head, ⟨k, hk.last, he⟩, hk.step, fun x hx => ?_, by omega⟩
  obtain ⟨i, j, hi, hj, hb, e⟩ := mem_farL.mp (hk.mem x hx)
  exact ⟨i, j, hi, hj, e, hb⟩
theorem hop_total {c : Cs} {one other : Ln} {q : Rat} (h1 : LnOk one) (h2 : LnOk other) (hq : Qz 90000 q) (h : hopWalkR c one other q = none) : ∃ L, hopFenceR c one other q false = some L := by
  have ok := TabOk.of h1 h2 hq
  have P := reachedA_post (c := c) ok
  have n1 := h1.ne
  have n2 := h2.ne
  have l1 := h1.le
  have l2 := h2.le
  have hl : (farL one.length other.length (sqT one other) q false).length ≤ 10000 := by
    have := farL_len (n := one.length) (T := sqT one other) (q := q) (also := false) l2
    omega
  have F := fenceR_post (c := c) (n := (one.length : Int) - 1) (m := (other.length : Int) - 1) hl
  unfold hopFenceR
  cases e : fenceR c (farL one.length other.length (sqT one other) q false) ((one.length : Int) - 1) ((other.length : Int) - 1) with
  | some L => exact ⟨L, rfl⟩
  | none =>
    rw [e] at F
    obtain ⟨W, hW⟩ := F
    have hr := hop_dual (fb := farB (sqT one other) q false) (fun k => mem_farL) n1 n2 hW
    have conv : ∀ x y, Rch (fun i j => farB (sqT one other) q false i j = false) x y → Rch (okT (sqT one other) q) x y := by
      have cv : ∀ i j, farB (sqT one other) q false i j = false → okT (sqT one other) q i j := fun i j hb => by
        simp only [farB, Bool.false_and, Bool.or_false, decide_eq_false_iff_not] at hb
        exact hb
      intro x y h
      induction h with
      | zero h => exact .zero (cv _ _ h)
      | diag _ h ih => exact .diag ih (cv _ _ h)
      | right _ h ih => exact .right ih (cv _ _ h)
      | up _ h ih => exact .up ih (cv _ _ h)
    have hs := P.inv.all (one.length - 1) (other.length - 1) (by omega) (conv _ _ hr)
    unfold hopWalkR at h
    rw [if_pos hs] at h
    cases h
end Lw

namespace Lw
open PySem PySem.Spec L2
local macro_rules | `(tactic| walk_at "wp") => `(tactic| try simp only [wSeq, wIf, wRet, wSet, wTest, wOp, wUn, wV, wC, wCall, wCons, wNil, wCB, wTup, wLst, wOrT, wAndT, wNotT, wAndV, wOrV, wNotV, wIfE, wChain, wRaise, wNext, wPar, wDrop, wAsg, wgName, wgTup, wgCons, wgNil, tupOf, wAug, rAddI, rAbs, rMax2, rMin2, rMod, rLt, rGt, rLe, rGe, rCmp, rSub, rAdd, rMul, rDiv, rNeg, rPow, rEq, rNe, rLen, rIxW, rIsN, rNotN, isNonW, wFld, insOf, wMeth, wIsi, rIsi, tyName, startW, List.map, List.length, List.cons_append, List.nil_append, List.append_nil, List.replicate, List.getElem?_cons_zero, List.getElem?_cons_succ, List.set_cons_zero, List.set_cons_succ, bch_true, bch_false, bch_not, bch_dec, allD, Option.map, endsOf, pS1, pS2, pS3, pS4, pS5, atI_zero, atI_one, atI_two, Bool.not_true, Bool.not_false, Nat.reduceAdd, Nat.reduceSub])
local macro_rules | `(tactic| walk_at "wh") => `(tactic| conv => whnf)
local macro_rules | `(tactic| walk_at "wx") => `(tactic| (conv => whnf); repeat (first | (rw [Mh.set_same]; conv => whnf) | ((refine And.intro ?_ ?_; focus (first | ((with_reducible show (_ : Nat) ≤ _); first | exact sl2 | exact sl1 | exact sl3 | exact sl0 | exact sl4 | decide) | ((with_reducible show (_ : Nat) = _); rfl) | ((with_reducible show (_ : Bool) = _); first | rfl | decide +kernel) | ((with_reducible show (_ : Int) < _); first | omega | (simp only [List.length_map]; omega)) | ((with_reducible show (_ : Int) ≤ _); first | omega | (simp only [List.length_map]; omega)) | ((with_reducible show MulOk _ _); first | exact MulOk.nat_l rfl | exact MulOk.nat_r rfl) | ((with_reducible show DivOk _); exact (DivOk.lit rfl rfl)) | ((with_reducible show (_ ∧ _ ∧ Sz _ _)); exact PowOk.lit rfl rfl rfl))); conv => whnf)))
local macro_rules | `(tactic| walk_at "sz") => `(tactic| exact szs (by omega) (by decide))

/-! # law k35: how it looks through what is told -/
@[irreducible] def sp__law_whole (c : Cs) : SpW := pS 1 fun ds Q _ => ∃ i, ds = [.int i] ∧ Q (.bl true)
@[irreducible] def sp__law_is_ratio (c : Cs) : SpW := pS 1 fun ds Q _ => ∃ q, ds = [eQ q] ∧ Q (.bl true)
@[irreducible] def sp__law_is_place (c : Cs) : SpW := pS 2 fun ds Q _ => ∃ l i, ds = [eL l, eQ ((i : Nat) : Rat)] ∧ LnOk l ∧ i < l.length ∧ Q (.bl true)
@[irreducible] def sp__law_near (c : Cs) : SpW := pS 2 fun ds Q _ => False
@[irreducible] def sp__law_back (c : Cs) : SpW := pS 2 fun ds Q _ => False
def GrL (one other : Ln) (L : List Cor) : Prop := ∀ x ∈ L, ∃ a b, a < one.length ∧ b < other.length ∧ x = cN a b
@[irreducible] def sp__law_are_pairs (c : Cs) : SpW := pS 3 fun ds Q _ => ∃ one other L, ds = [eL one, eL other, .lst (ePls L)] ∧ LnOk one ∧ LnOk other ∧ L ≠ [] ∧ GrL one other L ∧ Q (.bl true)
@[irreducible] def sp__law_goes (c : Cs) : SpW := pS 3 fun ds Q _ => ∃ x y, ds = [.tup [.int x, .int 1], .tup [.int y, .int 1], .str "hops"] ∧ (y - x = 0 ∨ y - x = 1) ∧ Q (.bl true)
@[irreducible] def sp__law_steps (c : Cs) : SpW := pS 3 fun ds Q _ => ∃ p l, ds = [ePl p, ePl l, .str "hops"] ∧ mayF p l = true ∧ Q (.bl true)
section
variable {c : Cs} {M : Mh} {Q : Wv → Mh → Prop} {E : EW}
theorem cl_lwhole {i : Int} (h : Q (.d (.bl true)) M) : sp__law_whole c [.d (.int i)] M Q E := by
  unfold sp__law_whole; rw [pS1]; exact ⟨i, rfl, h⟩
theorem cl_lis_ratio {q : Rat} (h : Q (.d (.bl true)) M) : sp__law_is_ratio c [.d (eQ q)] M Q E := by
  unfold sp__law_is_ratio; rw [pS1]; exact ⟨q, rfl, h⟩
theorem cl_lis_place {l : Ln} {i : Nat} (h1 : LnOk l) (h2 : i < l.length) (h : Q (.d (.bl true)) M) : sp__law_is_place c [.d (eL l), .d (eQ ((i : Nat) : Rat))] M Q E := by
  unfold sp__law_is_place; rw [pS2]; exact ⟨l, i, rfl, h1, h2, h⟩
theorem cl_lare_pairs {one other : Ln} {L : List Cor} (h1 : LnOk one) (h2 : LnOk other) (h3 : L ≠ []) (h4 : GrL one other L) (h : Q (.d (.bl true)) M) : sp__law_are_pairs c [.d (eL one), .d (eL other), .d (.lst (ePls L))] M Q E := by
  unfold sp__law_are_pairs; rw [pS3]; exact ⟨one, other, L, rfl, h1, h2, h3, h4, h⟩
theorem cl_lgoes {x y : Int} (h1 : y - x = 0 ∨ y - x = 1) (h : Q (.d (.bl true)) M) : sp__law_goes c [.d (.tup [.int x, .int 1]), .d (.tup [.int y, .int 1]), .d (.str "hops")] M Q E := by
  unfold sp__law_goes; rw [pS3]; exact ⟨x, y, rfl, h1, h⟩
theorem cl_lsteps {p l : Cor} (h1 : mayF p l = true) (h : Q (.d (.bl true)) M) : sp__law_steps c [.d (ePl p), .d (ePl l), .d (.str "hops")] M Q E := by
  unfold sp__law_steps; rw [pS3]; exact ⟨p, l, rfl, h1, h⟩
end
def N__law_whole : List Str := ["found"]
def t__law_whole (c : Cs) : WS :=
  (wRet (wAndV (wIsi "int" (wV 0)) (wNotV (wIsi "bool" (wV 0)))))

def N__law_is_ratio : List Str := ["thing"]
def t__law_is_ratio (c : Cs) : WS :=
  (wSeq (wIf (wOrT (wNotT (wTest (wIsi "tuple" (wV 0)))) (wOrT (wTest (wOp rNe (wCB rLen (wCons (wV 0) wNil)) (wC (.int 2)))) (wOrT (wNotT (wTest (wCall (sp__law_whole c) [] (wCons (wOp rIxW (wV 0) (wC (.int 0))) wNil)))) (wNotT (wTest (wCall (sp__law_whole c) [] (wCons (wOp rIxW (wV 0) (wC (.int 1))) wNil)))))))
  (wRet (wC (.bl false)))
  wNext)
  (wRet (wAndV (wOp rGt (wOp rIxW (wV 0) (wC (.int 1))) (wC (.int 0))) (wOp rEq (wCall (sp__law_divisor c) [] (wCons (wOp rIxW (wV 0) (wC (.int 0))) (wCons (wOp rIxW (wV 0) (wC (.int 1))) wNil))) (wC (.int 1))))))

def N__law_is_place : List Str := ["line", "thing"]
def t__law_is_place (c : Cs) : WS :=
  (wRet (wAndV (wCall (sp__law_is_ratio c) [] (wCons (wV 1) wNil)) (wChain rLe rLe (wC (.int 0)) (wOp rIxW (wV 1) (wC (.int 0))) (wOp rMul (wOp rSub (wCB rLen (wCons (wV 0) wNil)) (wC (.int 1))) (wOp rIxW (wV 1) (wC (.int 1)))))))

def N__law_near : List Str := ["here", "there", "low", "high"]
def t__law_near (c : Cs) : WS :=
  (wSeq (wSet 2 (wV 0))
  (wSeq (wSet 3 (wV 1))
  (wSeq (wIf (wTest (wCall (sp__law_below c) [] (wCons (wV 1) (wCons (wV 0) wNil))))
  (wSeq (wSet 2 (wV 1))
  (wSet 3 (wV 0)))
  wNext)
  (wRet (wOp rLe (wOp rIxW (wV 3) (wC (.int 0))) (wOp rMul (wOp rAdd (wOp rDiv (wOp rIxW (wV 2) (wC (.int 0))) (wOp rIxW (wV 2) (wC (.int 1)))) (wC (.int 1))) (wOp rIxW (wV 3) (wC (.int 1)))))))))

def N__law_back : List Str := ["pair", "later"]
def t__law_back (c : Cs) : WS :=
  (wRet (wAndV (wNotV (wCall (sp__law_below c) [] (wCons (wOp rIxW (wV 0) (wC (.int 0))) (wCons (wOp rIxW (wV 1) (wC (.int 0))) wNil)))) (wNotV (wCall (sp__law_below c) [] (wCons (wOp rIxW (wV 1) (wC (.int 1))) (wCons (wOp rIxW (wV 0) (wC (.int 1))) wNil))))))

def N__law_are_pairs : List Str := ["one", "other", "thing", "pair"]
def b1__law_are_pairs (c : Cs) : WS :=
  (wSeq (wIf (wOrT (wNotT (wTest (wIsi "tuple" (wV 3)))) (wTest (wOp rNe (wCB rLen (wCons (wV 3) wNil)) (wC (.int 2)))))
  (wRet (wC (.bl false)))
  wNext)
  (wIf (wOrT (wNotT (wTest (wCall (sp__law_is_place c) [] (wCons (wV 0) (wCons (wOp rIxW (wV 3) (wC (.int 0))) wNil))))) (wNotT (wTest (wCall (sp__law_is_place c) [] (wCons (wV 1) (wCons (wOp rIxW (wV 3) (wC (.int 1))) wNil))))))
  (wRet (wC (.bl false)))
  wNext))
def t__law_are_pairs (c : Cs) : WS :=
  (wSeq (wIf (wOrT (wNotT (wTest (wIsi "list" (wV 2)))) (wTest (wOp rEq (wV 2) (wLst wNil))))
  (wRet (wC (.bl false)))
  wNext)
  (wSeq (wFor (wiList (wV 2)) (wgName 3) (b1__law_are_pairs c))
  (wRet (wC (.bl true)))))

def N__law_goes : List Str := ["here", "there", "way"]
def t__law_goes (c : Cs) : WS :=
  (wSeq (wIf (wTest (wOp rEq (wV 2) (wC (.str "hops"))))
  (wRet (wAndV (wOp rEq (wOp rIxW (wV 0) (wC (.int 1))) (wC (.int 1))) (wAndV (wOp rEq (wOp rIxW (wV 1) (wC (.int 1))) (wC (.int 1))) (wOp (rInS false) (wOp rSub (wOp rIxW (wV 1) (wC (.int 0))) (wOp rIxW (wV 0) (wC (.int 0)))) (wTup (wCons (wC (.int 0)) (wCons (wC (.int 1)) wNil)))))))
  wNext)
  (wSeq (wIf (wAndT (wTest (wOp rNe (wV 2) (wC (.str "free")))) (wTest (wCall (sp__law_below c) [] (wCons (wV 1) (wCons (wV 0) wNil)))))
  (wRet (wC (.bl false)))
  wNext)
  (wRet (wCall (sp__law_near c) [] (wCons (wV 0) (wCons (wV 1) wNil))))))

def N__law_steps : List Str := ["pair", "later", "way", "x", "y", "a", "b"]
def t__law_steps (c : Cs) : WS :=
  (wSeq (wAsg (wV 0) (wgTup 2 (wgCons (wgName 3) (wgCons (wgName 4) wgNil))))
  (wSeq (wAsg (wV 1) (wgTup 2 (wgCons (wgName 5) (wgCons (wgName 6) wgNil))))
  (wSeq (wIf (wTest (wOp rEq (wV 2) (wC (.str "hops"))))
  (wSeq (wIf (wOrT (wTest (wOp rGt (wOp rIxW (wV 3) (wC (.int 1))) (wC (.int 1)))) (wOrT (wTest (wOp rGt (wOp rIxW (wV 4) (wC (.int 1))) (wC (.int 1)))) (wOrT (wTest (wOp rGt (wOp rIxW (wV 5) (wC (.int 1))) (wC (.int 1)))) (wTest (wOp rGt (wOp rIxW (wV 6) (wC (.int 1))) (wC (.int 1)))))))
  (wRet (wC (.bl false)))
  wNext)
  (wRet (wOrV (wAndV (wOp rLe (wOp rIxW (wV 5) (wC (.int 0))) (wOp rIxW (wV 3) (wC (.int 0)))) (wOp rGe (wOp rIxW (wV 6) (wC (.int 0))) (wOp rSub (wOp rIxW (wV 4) (wC (.int 0))) (wC (.int 1))))) (wAndV (wOp rLe (wOp rIxW (wV 5) (wC (.int 0))) (wOp rAdd (wOp rIxW (wV 3) (wC (.int 0))) (wC (.int 1)))) (wOp rGe (wOp rIxW (wV 6) (wC (.int 0))) (wOp rIxW (wV 4) (wC (.int 0))))))))
  wNext)
  (wSeq (wIf (wAndT (wTest (wOp rNe (wV 2) (wC (.str "free")))) (wTest (wCall (sp__law_back c) [] (wCons (wV 0) (wCons (wV 1) wNil)))))
  (wRet (wC (.bl true)))
  wNext)
  (wSeq (wIf (wAndT (wTest (wOp rEq (wV 3) (wV 5))) (wAndT (wTest (wOp rEq (wOp rIxW (wV 3) (wC (.int 1))) (wC (.int 1)))) (wAndT (wTest (wCall (sp__law_near c) [] (wCons (wV 4) (wCons (wV 6) wNil)))) (wOrT (wTest (wOp rEq (wV 2) (wC (.str "free")))) (wTest (wCall (sp__law_below c) [] (wCons (wV 6) (wCons (wV 4) wNil))))))))
  (wRet (wC (.bl true)))
  wNext)
  (wRet (wAndV (wOp rEq (wV 4) (wV 6)) (wAndV (wOp rEq (wOp rIxW (wV 4) (wC (.int 1))) (wC (.int 1))) (wAndV (wCall (sp__law_near c) [] (wCons (wV 3) (wCons (wV 5) wNil))) (wOrV (wOp rEq (wV 2) (wC (.str "free"))) (wCall (sp__law_below c) [] (wCons (wV 3) (wCons (wV 5) wNil)))))))))))))

theorem pu__law_whole (c : Cs) : ∀ ws M Q E, sp__law_whole c ws M Q E → t__law_whole c (endsOf Q E) (startW N__law_whole ws) M := by
  intro ws M Q E h; unfold sp__law_whole at h; replace h := pS_out h
  obtain ⟨ds, rfl, hl, i, rfl, h⟩ := h
  walk_at "wx"
  exact okD h
theorem pu__law_near (c : Cs) : ∀ ws M Q E, sp__law_near c ws M Q E → t__law_near c (endsOf Q E) (startW N__law_near ws) M := by
  intro ws M Q E h; unfold sp__law_near at h
  obtain ⟨ds, rfl, hl, h⟩ := pS_out h
  exact h.elim
theorem pu__law_back (c : Cs) : ∀ ws M Q E, sp__law_back c ws M Q E → t__law_back c (endsOf Q E) (startW N__law_back ws) M := by
  intro ws M Q E h; unfold sp__law_back at h
  obtain ⟨ds, rfl, hl, h⟩ := pS_out h
  exact h.elim
theorem pu__law_is_ratio (c : Cs) : ∀ ws M Q E, sp__law_is_ratio c ws M Q E → t__law_is_ratio c (endsOf Q E) (startW N__law_is_ratio ws) M := by
  intro ws M Q E h; unfold sp__law_is_ratio at h; replace h := pS_out h
  obtain ⟨ds, rfl, hl, q, rfl, h⟩ := h
  walk_at "wx"
  refine cl_lwhole ?_
  walk_at "wx"
  refine cl_lwhole ?_
  walk_at "wx"
  show bch (decide (((q.den : Nat) : Int) > 0)) _ _
  rw [decide_eq_true (den_pos q)]
  walk_at "wx"
  refine cl_ldivisor (by omega) ?_
  walk_at "wx"
  have e : eqD (.int ((Int.gcd q.num q.den : Nat) : Int)) (.int 1) = true := by
    have : Int.gcd q.num q.den = 1 := q.reduced
    rw [this]; rfl
  rw [e]
  exact okD h
theorem pu__law_is_place (c : Cs) : ∀ ws M Q E, sp__law_is_place c ws M Q E → t__law_is_place c (endsOf Q E) (startW N__law_is_place ws) M := by
  intro ws M Q E h; unfold sp__law_is_place at h; replace h := pS_out h
  obtain ⟨ds, rfl, hl, l, i, rfl, h1, h2, h⟩ := h
  have l1 := h1.le
  walk_at "wh"
  refine cl_lis_ratio ?_
  walk_at "wx"
  have e : decide (((i : Nat) : Int) ≤ (((l.map eC).length : Nat) - 1 : Int) * 1) = true := decide_eq_true (by rw [List.length_map]; omega)
  refine okD ?_
  rw [← e] at h
  exact h
theorem pu__law_are_pairs (c : Cs) : ∀ ws M Q E, sp__law_are_pairs c ws M Q E → t__law_are_pairs c (endsOf Q E) (startW N__law_are_pairs ws) M := by
  intro ws M Q E h; unfold sp__law_are_pairs at h; replace h := pS_out h
  obtain ⟨ds, rfl, hl, one, other, L, rfl, h1, h2, h3, h4, h⟩ := h
  have hne : ePls L ≠ [] := by simpa [ePls] using h3
  walk_at "wx"
  have hsh : shD 60 (.lst (ePls L)) = true := by
    show shDs 59 (ePls L) = true
    rw [shDs_all, List.all_eq_true]
    intro d hd
    obtain ⟨p, _, rfl⟩ := List.mem_map.mp hd
    rfl
  refine ⟨hsh, rfl, ?_⟩
  have e0 : eqD (.lst (ePls L)) (.lst []) = false := by
    cases e : ePls L with
    | nil => exact absurd e hne
    | cons a r => rfl
  refine bch_ff e0 ?_
  walk_at "wx"
  refine for_inv (fun i ρ M' => ∃ a : Option Wv, ρ = [some (.d (eL one)), some (.d (eL other)), some (.d (.lst (ePls L))), a] ∧ M' = M) ⟨none, rfl, rfl⟩ ?_ ?_
  · rintro i x ρ M' K hx ⟨a, rfl, rfl⟩ hK
    have hlt : i < L.length := by
      have := (List.getElem?_eq_some_iff.mp hx).1
      simpa [ePls] using this
    have hl : L[i]? = some L[i] := List.getElem?_eq_getElem hlt
    obtain ⟨a', b', ha, hb, e⟩ := h4 _ (List.mem_of_getElem? hl)
    rw [e] at hl
    unfold ePls at hx
    rw [List.getElem?_map, List.getElem?_map, hl] at hx
    cases hx
    walk_at "wx"
    refine cl_lis_place (i := a') h1 ha ?_
    walk_at "wx"
    refine cl_lis_place (i := b') h2 hb ?_
    walk_at "wx"
    exact hK _ _ ⟨_, rfl, rfl⟩
  · rintro ρ M' ⟨a, rfl, rfl⟩
    exact okD h
theorem pu__law_goes (c : Cs) : ∀ ws M Q E, sp__law_goes c ws M Q E → t__law_goes c (endsOf Q E) (startW N__law_goes ws) M := by
  intro ws M Q E h; unfold sp__law_goes at h; replace h := pS_out h
  obtain ⟨ds, rfl, hl, x, y, rfl, h1, h⟩ := h
  walk_at "wx"
  refine okD ?_
  have e : ([Dt.int 0, .int 1].any fun z => eqD z (.int (y - x))) = true := by
    rcases h1 with h1 | h1 <;> rw [h1] <;> rfl
  rw [← e] at h
  exact h
theorem pu__law_steps (c : Cs) : ∀ ws M Q E, sp__law_steps c ws M Q E → t__law_steps c (endsOf Q E) (startW N__law_steps ws) M := by
  intro ws M Q E h; unfold sp__law_steps at h; replace h := pS_out h
  obtain ⟨ds, rfl, hl, p, l, rfl, h1, h⟩ := h
  rw [mayF_iff] at h1
  walk_at "wx"
  have second : ∀ σ, σ = [some (.d (ePl p)), some (.d (ePl l)), some (.d (.str "hops")), some (.d (.tup [.int p.1, .int 1])), some (.d (.tup [.int p.2, .int 1])), some (.d (.tup [.int l.1, .int 1])), some (.d (.tup [.int l.2, .int 1]))] → (l.1 - p.1 ≤ 1 ∧ l.2 - p.2 ≥ 0) →
      ∀ E', wAndV (wOp rLe (wOp rIxW (wV 5) (wC (.int 0))) (wOp rAdd (wOp rIxW (wV 3) (wC (.int 0))) (wC (.int 1)))) (wOp rGe (wOp rIxW (wV 6) (wC (.int 0))) (wOp rIxW (wV 4) (wC (.int 0)))) σ M (fun x M' => (endsOf Q E).rt x M') E' := by
    rintro σ rfl ⟨a1, a2⟩ E'
    walk_at "wx"
    refine bch_t (by omega) ?_
    walk_at "wx"
    refine okD ?_
    have e : decide (l.2 ≥ p.2) = true := decide_eq_true (by omega)
    rw [← e] at h
    exact h
  by_cases a1 : l.1 ≤ p.1
  · refine bch_t a1 ?_
    walk_at "wx"
    by_cases a2 : l.2 ≥ p.2 - 1
    · refine bch_t a2 ?_
      exact okD h
    · refine bch_f a2 ?_
      exact second _ rfl (by omega) _
  · refine bch_f a1 ?_
    exact second _ rfl (by omega) _
end Lw

namespace Lw
open PySem PySem.Spec L2
local macro_rules | `(tactic| walk_at "wp") => `(tactic| try simp only [wSeq, wIf, wRet, wSet, wTest, wOp, wUn, wV, wC, wCall, wCons, wNil, wCB, wTup, wLst, wOrT, wAndT, wNotT, wAndV, wOrV, wNotV, wIfE, wChain, wRaise, wNext, wPar, wDrop, wAsg, wgName, wgTup, wgCons, wgNil, tupOf, wAug, rAddI, rAbs, rMax2, rMin2, rMod, rLt, rGt, rLe, rGe, rCmp, rSub, rAdd, rMul, rDiv, rNeg, rPow, rEq, rNe, rLen, rIxW, rIsN, rNotN, isNonW, wFld, insOf, wMeth, wIsi, rIsi, tyName, startW, List.map, List.length, List.cons_append, List.nil_append, List.append_nil, List.replicate, List.getElem?_cons_zero, List.getElem?_cons_succ, List.set_cons_zero, List.set_cons_succ, bch_true, bch_false, bch_not, bch_dec, allD, Option.map, endsOf, pS1, pS2, pS3, pS4, pS5, atI_zero, atI_one, atI_two, Bool.not_true, Bool.not_false, Nat.reduceAdd, Nat.reduceSub])
local macro_rules | `(tactic| walk_at "wh") => `(tactic| conv => whnf)
local macro_rules | `(tactic| walk_at "wx") => `(tactic| (conv => whnf); repeat (first | (rw [Mh.set_same]; conv => whnf) | ((refine And.intro ?_ ?_; focus (first | ((with_reducible show (_ : Nat) ≤ _); first | exact sl2 | exact sl1 | exact sl3 | exact sl0 | exact sl4 | decide) | ((with_reducible show (_ : Nat) = _); rfl) | ((with_reducible show (_ : Bool) = _); first | rfl | decide +kernel) | ((with_reducible show (_ : Int) < _); first | omega | (simp only [List.length_map]; omega)) | ((with_reducible show (_ : Int) ≤ _); first | omega | (simp only [List.length_map]; omega)) | ((with_reducible show MulOk _ _); first | exact MulOk.nat_l rfl | exact MulOk.nat_r rfl) | ((with_reducible show DivOk _); exact (DivOk.lit rfl rfl)) | ((with_reducible show (_ ∧ _ ∧ Sz _ _)); exact PowOk.lit rfl rfl rfl))); conv => whnf)))
local macro_rules | `(tactic| walk_at "sz") => `(tactic| exact szs (by omega) (by decide))

theorem zipD_at : ∀ {as bs : List Dt} {i : Nat} {x : Wv}, (zipD as bs)[i]? = some x → ∃ a b, as[i]? = some a ∧ bs[i]? = some b ∧ x = .d (.tup [a, b])
  | [], _, i, x, h => by simp [zipD] at h
  | _ :: _, [], i, x, h => by simp [zipD] at h
  | a :: as, b :: bs, 0, x, h => by
    simp only [zipD, List.getElem?_cons_zero, Option.some.injEq] at h
    exact ⟨a, b, rfl, rfl, h.symm⟩
  | a :: as, b :: bs, i + 1, x, h => by
    simp only [zipD, List.getElem?_cons_succ] at h ⊢
    exact zipD_at h
theorem cut1 (ds : List Dt) (h : ds ≠ []) : cutW (ds.map .d) (some 1) none = (ds.drop 1).map .d := by
  cases ds with
  | nil => exact absurd rfl h
  | cons a r =>
    have hl : HT.sIx ((a :: r).map Wv.d).length 0 (some 1) = 1 := by
      simp [HT.sIx]
      try omega
    have h2 : HT.sIx ((a :: r).map Wv.d).length ((a :: r).map Wv.d).length none = ((a :: r).map Wv.d).length := rfl
    unfold cutW
    rw [hl, h2]
    simp
    rw [List.take_of_length_le (by simp)]
theorem ePls_at {L : List Cor} {i : Nat} {d : Dt} (h : (ePls L)[i]? = some d) : ∃ p, L[i]? = some p ∧ d = ePl p := by
  unfold ePls at h
  rw [List.getElem?_map] at h
  cases e : L[i]? with
  | none => rw [e] at h; cases h
  | some p => rw [e] at h; cases h; exact ⟨p, rfl, rfl⟩
theorem first_at {L : List Cor} {k : Cor} (h : L.head? = some k) : L2.atI (ePls L) 0 = some (ePl k) := by
  cases L with
  | nil => cases h
  | cons a r => cases h; exact atI_zero
theorem last_at {L : List Cor} {k : Cor} (h : L.getLast? = some k) : L2.atI (ePls L) (-1) = some (ePl k) := by
  refine atI_last' ?_
  rw [List.getLast?_eq_getElem?] at h
  unfold ePls
  rw [List.getElem?_map, List.length_map, h]; rfl
theorem eqPl {x y : Int} (h : x = y) : eqD (.tup [.int x, .int 1]) (.tup [.int y, .int 1]) = true := by
  subst h
  show ((x == x) && (((1 : Int) == 1) && true)) = true
  simp
theorem nePl {x y : Int} (h : x ≠ y) : eqD (.tup [.int x, .int 1]) (.tup [.int y, .int 1]) = false := by
  show ((x == y) && (((1 : Int) == 1) && true)) = false
  simp [h]
@[irreducible] def sp__law_is_walk (c : Cs) : SpW := pS 4 fun ds Q _ => ∃ one other q L, ds = [eL one, eL other, .lst (ePls L), .str "hops"] ∧ LnOk one ∧ LnOk other ∧ HWalk one other q L ∧ Q (.bl true)
@[irreducible] def sp__law_is_fence (c : Cs) : SpW := pS 4 fun ds Q _ => ∃ one other also q L, ds = [eL one, eL other, .lst (ePls L), .str "hops"] ∧ LnOk one ∧ LnOk other ∧ HFence one other also q L ∧ Q (.bl true)
def N__law_is_walk : List Str := ["one", "other", "thing", "way", "first", "last", "pair", "later"]
def b1__law_is_walk (c : Cs) : WS :=
  (wIf (wOrT (wNotT (wTest (wCall (sp__law_goes c) [] (wCons (wOp rIxW (wV 6) (wC (.int 0))) (wCons (wOp rIxW (wV 7) (wC (.int 0))) (wCons (wV 3) wNil)))))) (wNotT (wTest (wCall (sp__law_goes c) [] (wCons (wOp rIxW (wV 6) (wC (.int 1))) (wCons (wOp rIxW (wV 7) (wC (.int 1))) (wCons (wV 3) wNil)))))))
  (wRet (wC (.bl false)))
  wNext)
def t__law_is_walk (c : Cs) : WS :=
  (wSeq (wIf (wNotT (wTest (wCall (sp__law_are_pairs c) [] (wCons (wV 0) (wCons (wV 1) (wCons (wV 2) wNil))))))
  (wRet (wC (.bl false)))
  wNext)
  (wSeq (wSet 4 (wOp rIxW (wV 2) (wC (.int 0))))
  (wSeq (wSet 5 (wOp rIxW (wV 2) (wUn rNeg (wC (.int 1)))))
  (wSeq (wIf (wOrT (wTest (wOp rNe (wOp rIxW (wV 4) (wC (.int 0))) (wTup (wCons (wC (.int 0)) (wCons (wC (.int 1)) wNil))))) (wTest (wOp rNe (wOp rIxW (wV 5) (wC (.int 0))) (wTup (wCons (wOp rSub (wCB rLen (wCons (wV 0) wNil)) (wC (.int 1))) (wCons (wC (.int 1)) wNil))))))
  (wRet (wC (.bl false)))
  wNext)
  (wSeq (wIf (wAndT (wTest (wOp rNe (wV 3) (wC (.str "part")))) (wOrT (wTest (wOp rNe (wOp rIxW (wV 4) (wC (.int 1))) (wTup (wCons (wC (.int 0)) (wCons (wC (.int 1)) wNil))))) (wTest (wOp rNe (wOp rIxW (wV 5) (wC (.int 1))) (wTup (wCons (wOp rSub (wCB rLen (wCons (wV 1) wNil)) (wC (.int 1))) (wCons (wC (.int 1)) wNil)))))))
  (wRet (wC (.bl false)))
  wNext)
  (wSeq (wFor (wiZip (wCons (wV 2) (wCons (wFz (wSl rSl (wV 2) (wPart (wC (.int 1))) wNoP)) wNil))) (wgTup 2 (wgCons (wgName 6) (wgCons (wgName 7) wgNil))) (b1__law_is_walk c))
  (wRet (wC (.bl true)))))))))

def N__law_is_fence : List Str := ["one", "other", "thing", "way", "first", "last", "pair", "later"]
def b1__law_is_fence (c : Cs) : WS :=
  (wIf (wNotT (wTest (wCall (sp__law_steps c) [] (wCons (wV 6) (wCons (wV 7) (wCons (wV 3) wNil))))))
  (wRet (wC (.bl false)))
  wNext)
def t__law_is_fence (c : Cs) : WS :=
  (wSeq (wIf (wNotT (wTest (wCall (sp__law_are_pairs c) [] (wCons (wV 0) (wCons (wV 1) (wCons (wV 2) wNil))))))
  (wRet (wC (.bl false)))
  wNext)
  (wSeq (wSet 4 (wOp rIxW (wV 2) (wC (.int 0))))
  (wSeq (wSet 5 (wOp rIxW (wV 2) (wUn rNeg (wC (.int 1)))))
  (wSeq (wIf (wAndT (wTest (wOp rNe (wOp rIxW (wV 4) (wC (.int 1))) (wTup (wCons (wOp rSub (wCB rLen (wCons (wV 1) wNil)) (wC (.int 1))) (wCons (wC (.int 1)) wNil))))) (wOrT (wTest (wOp rEq (wV 3) (wC (.str "part")))) (wTest (wOp rNe (wOp rIxW (wV 4) (wC (.int 0))) (wTup (wCons (wC (.int 0)) (wCons (wC (.int 1)) wNil)))))))
  (wRet (wC (.bl false)))
  wNext)
  (wSeq (wIf (wAndT (wTest (wOp rNe (wOp rIxW (wV 5) (wC (.int 1))) (wTup (wCons (wC (.int 0)) (wCons (wC (.int 1)) wNil))))) (wOrT (wTest (wOp rEq (wV 3) (wC (.str "part")))) (wTest (wOp rNe (wOp rIxW (wV 5) (wC (.int 0))) (wTup (wCons (wOp rSub (wCB rLen (wCons (wV 0) wNil)) (wC (.int 1))) (wCons (wC (.int 1)) wNil)))))))
  (wRet (wC (.bl false)))
  wNext)
  (wSeq (wIf (wAndT (wTest (wOp rEq (wV 3) (wC (.str "hops")))) (wOrT (wTest (wOp rGt (wOp rIxW (wOp rIxW (wV 4) (wC (.int 0))) (wC (.int 1))) (wC (.int 1)))) (wTest (wOp rGt (wOp rIxW (wOp rIxW (wV 4) (wC (.int 1))) (wC (.int 1))) (wC (.int 1))))))
  (wRet (wC (.bl false)))
  wNext)
  (wSeq (wFor (wiZip (wCons (wV 2) (wCons (wFz (wSl rSl (wV 2) (wPart (wC (.int 1))) wNoP)) wNil))) (wgTup 2 (wgCons (wgName 6) (wgCons (wgName 7) wgNil))) (b1__law_is_fence c))
  (wRet (wC (.bl true))))))))))

theorem last_eq {l : Ln} (h : 0 < l.length) : ((l.length - 1 : Nat) : Int) = ((l.map eC).length : Int) - 1 := by rw [List.length_map]; omega
theorem pu__law_is_walk (c : Cs) : ∀ ws M Q E, sp__law_is_walk c ws M Q E → t__law_is_walk c (endsOf Q E) (startW N__law_is_walk ws) M := by
  intro ws M Q E h; unfold sp__law_is_walk at h; replace h := pS_out h
  obtain ⟨ds, rfl, hl, one, other, q, L, rfl, h1, h2, hw, h⟩ := h
  have hne : L ≠ [] := fun e => by have := hw.head; rw [e] at this; cases this
  walk_at "wh"
  refine cl_lare_pairs h1 h2 hne (fun x hx => let ⟨a, b, ha, hb, e, _⟩ := hw.mem x hx; ⟨a, b, ha, hb, e⟩) ?_
  walk_at "wx"
  rw [first_at hw.head]
  walk_at "wh"
  rw [last_at hw.last]
  walk_at "wx"
  refine bch_nt (eqPl (last_eq h1.ne)) ?_
  walk_at "wx"
  refine bch_nt (eqPl (last_eq h2.ne)) ?_
  walk_at "wx"
  intro p hp
  have hneD : ePls L ≠ [] := by simpa [ePls] using hne
  rw [cut1 _ hneD]
  refine frz_lst hp ?_
  walk_at "wh"
  refine for_inv (fun i ρ M' => ∃ a b : Option Wv, ρ = [some (.d (eL one)), some (.d (eL other)), some (.d (.lst (ePls L))), some (.d (.str "hops")), some (.d (ePl (cN 0 0))), some (.d (ePl (cN (one.length - 1) (other.length - 1)))), a, b] ∧ M' = M) ⟨none, none, rfl, rfl⟩ ?_ ?_
  · rintro i x ρ M' K hx ⟨a, b, rfl, rfl⟩ hK
    obtain ⟨d1, d2, e1, e2, rfl⟩ := zipD_at hx
    rw [List.getElem?_drop] at e2
    obtain ⟨p1, g1, rfl⟩ := ePls_at e1
    obtain ⟨p2, g2, rfl⟩ := ePls_at e2
    have hs := hw.step i p1 p2 g1 (by rw [Nat.add_comm] at g2; exact g2)
    unfold Hop at hs
    walk_at "wx"
    refine cl_lgoes (by omega) ?_
    walk_at "wx"
    refine cl_lgoes (by omega) ?_
    walk_at "wx"
    exact hK _ _ ⟨_, _, rfl, rfl⟩
  · rintro ρ M' ⟨a, b, rfl, rfl⟩
    exact okD h
theorem pu__law_is_fence (c : Cs) : ∀ ws M Q E, sp__law_is_fence c ws M Q E → t__law_is_fence c (endsOf Q E) (startW N__law_is_fence ws) M := by
  intro ws M Q E h; unfold sp__law_is_fence at h; replace h := pS_out h
  obtain ⟨ds, rfl, hl, one, other, also, q, L, rfl, h1, h2, hw, h⟩ := h
  obtain ⟨f, hf, hfs⟩ := hw.head
  obtain ⟨k, hk, hke⟩ := hw.last
  have hne : L ≠ [] := fun e => by rw [e] at hf; cases hf
  rw [StB, Bool.or_eq_true, decide_eq_true_iff, decide_eq_true_iff] at hfs
  rw [EnB, Bool.or_eq_true, decide_eq_true_iff, decide_eq_true_iff] at hke
  have e1 : ((other.map eC).length : Int) - 1 = (other.length : Int) - 1 := by rw [List.length_map]
  have e2 : ((one.map eC).length : Int) - 1 = (one.length : Int) - 1 := by rw [List.length_map]
  have hneD : ePls L ≠ [] := by simpa [ePls] using hne
  walk_at "wh"
  refine cl_lare_pairs h1 h2 hne (fun x hx => let ⟨a, b, ha, hb, e, _⟩ := hw.mem x hx; ⟨a, b, ha, hb, e⟩) ?_
  walk_at "wx"
  rw [first_at hf]
  walk_at "wh"
  rw [last_at hk]
  walk_at "wx"
  by_cases hc : f.2 = (other.length : Int) - 1
  all_goals first
    | refine bch_nt (eqPl (hc.trans e1.symm)) ?_
    | (refine bch_nf (nePl (fun z => hc (z.trans e1))) ?_
       walk_at "wx"
       refine bch_nt (eqPl (hfs.resolve_right hc)) ?_)
  all_goals walk_at "wx"
  all_goals by_cases hd : k.2 = 0
  all_goals first
    | refine bch_nt (eqPl hd) ?_
    | (refine bch_nf (nePl hd) ?_
       walk_at "wx"
       refine bch_nt (eqPl ((hke.resolve_right hd).trans e2.symm)) ?_)
  all_goals
    walk_at "wx"
    intro p hp
    rw [cut1 _ hneD]
    refine frz_lst hp ?_
    walk_at "wh"
    refine for_inv (fun i ρ M' => ∃ a b : Option Wv, ρ = [some (.d (eL one)), some (.d (eL other)), some (.d (.lst (ePls L))), some (.d (.str "hops")), some (.d (ePl f)), some (.d (ePl k)), a, b] ∧ M' = M) ⟨none, none, rfl, rfl⟩ ?_ ?_
    · rintro i x ρ M' K hx ⟨a, b, rfl, rfl⟩ hK
      obtain ⟨d1, d2, e1, e2, rfl⟩ := zipD_at hx
      rw [List.getElem?_drop] at e2
      obtain ⟨p1, g1, rfl⟩ := ePls_at e1
      obtain ⟨p2, g2, rfl⟩ := ePls_at e2
      have hs := hw.step i p1 p2 g1 (by rw [Nat.add_comm] at g2; exact g2)
      walk_at "wx"
      refine cl_lsteps hs ?_
      walk_at "wx"
      exact hK _ _ ⟨_, _, rfl, rfl⟩
    · rintro ρ M' ⟨a, b, rfl, rfl⟩
      exact okD h
end Lw

namespace Lw
open PySem PySem.Spec L2
local macro_rules | `(tactic| walk_at "wp") => `(tactic| try simp only [wSeq, wIf, wRet, wSet, wTest, wOp, wUn, wV, wC, wCall, wCons, wNil, wCB, wTup, wLst, wOrT, wAndT, wNotT, wAndV, wOrV, wNotV, wIfE, wChain, wRaise, wNext, wPar, wDrop, wAsg, wgName, wgTup, wgCons, wgNil, tupOf, wAug, rAddI, rAbs, rMax2, rMin2, rMod, rLt, rGt, rLe, rGe, rCmp, rSub, rAdd, rMul, rDiv, rNeg, rPow, rEq, rNe, rLen, rIxW, rIsN, rNotN, isNonW, wFld, insOf, wMeth, wIsi, rIsi, tyName, startW, List.map, List.length, List.cons_append, List.nil_append, List.append_nil, List.replicate, List.getElem?_cons_zero, List.getElem?_cons_succ, List.set_cons_zero, List.set_cons_succ, bch_true, bch_false, bch_not, bch_dec, allD, Option.map, endsOf, pS1, pS2, pS3, pS4, pS5, atI_zero, atI_one, atI_two, Bool.not_true, Bool.not_false, Nat.reduceAdd, Nat.reduceSub])
local macro_rules | `(tactic| walk_at "wh") => `(tactic| conv => whnf)
local macro_rules | `(tactic| walk_at "wx") => `(tactic| (conv => whnf); repeat (first | (rw [Mh.set_same]; conv => whnf) | ((refine And.intro ?_ ?_; focus (first | ((with_reducible show (_ : Nat) ≤ _); first | exact sl2 | exact sl1 | exact sl3 | exact sl0 | exact sl4 | decide) | ((with_reducible show (_ : Nat) = _); rfl) | ((with_reducible show (_ : Bool) = _); first | rfl | decide +kernel) | ((with_reducible show (_ : Int) < _); first | omega | (simp only [List.length_map]; omega)) | ((with_reducible show (_ : Int) ≤ _); first | omega | (simp only [List.length_map]; omega)) | ((with_reducible show MulOk _ _); first | exact MulOk.nat_l rfl | exact MulOk.nat_r rfl) | ((with_reducible show DivOk _); exact (DivOk.lit rfl rfl)) | ((with_reducible show (_ ∧ _ ∧ Sz _ _)); exact PowOk.lit rfl rfl rfl))); conv => whnf)))
local macro_rules | `(tactic| walk_at "sz") => `(tactic| exact szs (by omega) (by decide))

@[irreducible] def sp__law_point_at (c : Cs) : SpW := pS 2 fun ds Q _ => ∃ l i, ds = [eL l, eQ ((i : Nat) : Rat)] ∧ LnOk l ∧ i < l.length ∧ Q (.tup [.int (cr l i).1, .int (cr l i).2, .int 1])
@[irreducible] def sp__law_square_of (c : Cs) : SpW := pS 4 fun ds Q _ => ∃ one i other j, ds = [eL one, eQ ((i : Nat) : Rat), eL other, eQ ((j : Nat) : Rat)] ∧ LnOk one ∧ LnOk other ∧ i < one.length ∧ j < other.length ∧ Q (eQ ((sqT one other i j : Int) : Rat))
@[irreducible] def sp__law_walk_square (c : Cs) : SpW := pS 3 fun ds Q _ => ∃ one other q L, ds = [eL one, eL other, .lst (ePls L)] ∧ LnOk one ∧ LnOk other ∧ 0 ≤ q ∧ HWalk one other q L ∧ ∀ w, w ≤ q → Qz 200 w → Q (eQ w)
section
variable {c : Cs} {M : Mh} {Q : Wv → Mh → Prop} {E : EW}
theorem cl_lpoint_at {l : Ln} {i : Nat} (h1 : LnOk l) (h2 : i < l.length) (h : Q (.d (.tup [.int (cr l i).1, .int (cr l i).2, .int 1])) M) : sp__law_point_at c [.d (eL l), .d (eQ ((i : Nat) : Rat))] M Q E := by
  unfold sp__law_point_at; rw [pS2]; exact ⟨l, i, rfl, h1, h2, h⟩
theorem cl_lsquare_of {one other : Ln} {i j : Nat} (h1 : LnOk one) (h2 : LnOk other) (hi : i < one.length) (hj : j < other.length) (h : Q (.d (eQ ((sqT one other i j : Int) : Rat))) M) : sp__law_square_of c [.d (eL one), .d (eQ ((i : Nat) : Rat)), .d (eL other), .d (eQ ((j : Nat) : Rat))] M Q E := by
  unfold sp__law_square_of; rw [pS4]; exact ⟨one, i, other, j, rfl, h1, h2, hi, hj, h⟩
theorem cl_lwalk_square {one other : Ln} {q : Rat} {L : List Cor} (h1 : LnOk one) (h2 : LnOk other) (h0 : 0 ≤ q) (hw : HWalk one other q L) (h : ∀ w, w ≤ q → Qz 200 w → Q (.d (eQ w)) M) : sp__law_walk_square c [.d (eL one), .d (eL other), .d (.lst (ePls L))] M Q E := by
  unfold sp__law_walk_square; rw [pS3]; exact ⟨one, other, q, L, rfl, h1, h2, h0, hw, h⟩
theorem cl_lis_walk {one other : Ln} {q : Rat} {L : List Cor} (h1 : LnOk one) (h2 : LnOk other) (hw : HWalk one other q L) (h : Q (.d (.bl true)) M) : sp__law_is_walk c [.d (eL one), .d (eL other), .d (.lst (ePls L)), .d (.str "hops")] M Q E := by
  unfold sp__law_is_walk; rw [pS4]; exact ⟨one, other, q, L, rfl, h1, h2, hw, h⟩
theorem cl_lis_fence {one other : Ln} {also : Bool} {q : Rat} {L : List Cor} (h1 : LnOk one) (h2 : LnOk other) (hw : HFence one other also q L) (h : Q (.d (.bl true)) M) : sp__law_is_fence c [.d (eL one), .d (eL other), .d (.lst (ePls L)), .d (.str "hops")] M Q E := by
  unfold sp__law_is_fence; rw [pS4]; exact ⟨one, other, also, q, L, rfl, h1, h2, hw, h⟩
end
def N__law_point_at : List Str := ["line", "place", "at", "rest", "x", "y"]
def t__law_point_at (c : Cs) : WS :=
  (wSeq (wSet 2 (wOp rDiv (wOp rIxW (wV 1) (wC (.int 0))) (wOp rIxW (wV 1) (wC (.int 1)))))
  (wSeq (wSet 3 (wOp rMod (wOp rIxW (wV 1) (wC (.int 0))) (wOp rIxW (wV 1) (wC (.int 1)))))
  (wSeq (wIf (wTest (wOp rEq (wV 3) (wC (.int 0))))
  (wRet (wTup (wCons (wOp rIxW (wOp rIxW (wV 0) (wV 2)) (wC (.int 0))) (wCons (wOp rIxW (wOp rIxW (wV 0) (wV 2)) (wC (.int 1))) (wCons (wC (.int 1)) wNil)))))
  wNext)
  (wSeq (wSet 4 (wOp rAdd (wOp rMul (wOp rIxW (wOp rIxW (wV 0) (wV 2)) (wC (.int 0))) (wOp rSub (wOp rIxW (wV 1) (wC (.int 1))) (wV 3))) (wOp rMul (wOp rIxW (wOp rIxW (wV 0) (wOp rAdd (wV 2) (wC (.int 1)))) (wC (.int 0))) (wV 3))))
  (wSeq (wSet 5 (wOp rAdd (wOp rMul (wOp rIxW (wOp rIxW (wV 0) (wV 2)) (wC (.int 1))) (wOp rSub (wOp rIxW (wV 1) (wC (.int 1))) (wV 3))) (wOp rMul (wOp rIxW (wOp rIxW (wV 0) (wOp rAdd (wV 2) (wC (.int 1)))) (wC (.int 1))) (wV 3))))
  (wRet (wTup (wCons (wV 4) (wCons (wV 5) (wCons (wOp rIxW (wV 1) (wC (.int 1))) wNil))))))))))

def N__law_square_of : List Str := ["one", "x", "other", "y", "a", "b", "c", "d", "e", "f"]
def t__law_square_of (c : Cs) : WS :=
  (wSeq (wAsg (wCall (sp__law_point_at c) [] (wCons (wV 0) (wCons (wV 1) wNil))) (wgTup 3 (wgCons (wgName 4) (wgCons (wgName 5) (wgCons (wgName 6) wgNil)))))
  (wSeq (wAsg (wCall (sp__law_point_at c) [] (wCons (wV 2) (wCons (wV 3) wNil))) (wgTup 3 (wgCons (wgName 7) (wgCons (wgName 8) (wgCons (wgName 9) wgNil)))))
  (wRet (wCall (sp__law_ratio c) [] (wCons (wOp rAdd (wOp rPow (wOp rSub (wOp rMul (wV 4) (wV 9)) (wOp rMul (wV 7) (wV 6))) (wC (.int 2))) (wOp rPow (wOp rSub (wOp rMul (wV 5) (wV 9)) (wOp rMul (wV 8) (wV 6))) (wC (.int 2)))) (wCons (wOp rMul (wOp rMul (wOp rMul (wV 6) (wV 6)) (wV 9)) (wV 9)) wNil))))))

def N__law_walk_square : List Str := ["one", "other", "walk", "most", "x", "y", "here"]
def b1__law_walk_square (c : Cs) : WS :=
  (wSeq (wSet 6 (wCall (sp__law_square_of c) [] (wCons (wV 0) (wCons (wV 4) (wCons (wV 1) (wCons (wV 5) wNil))))))
  (wIf (wTest (wCall (sp__law_below c) [] (wCons (wV 3) (wCons (wV 6) wNil))))
  (wSet 3 (wV 6))
  wNext))
def t__law_walk_square (c : Cs) : WS :=
  (wSeq (wSet 3 (wTup (wCons (wC (.int 0)) (wCons (wC (.int 1)) wNil))))
  (wSeq (wFor (wiList (wV 2)) (wgTup 2 (wgCons (wgName 4) (wgCons (wgName 5) wgNil))) (b1__law_walk_square c))
  (wRet (wV 3))))

def N__law_shown : List Str := ["one", "other", "told", "square", "word", "pairs", "x", "y"]
def t__law_shown (c : Cs) : WS :=
  (wSeq (wIf (wOrT (wNotT (wTest (wIsi "tuple" (wV 2)))) (wOrT (wTest (wOp rNe (wCB rLen (wCons (wV 2) wNil)) (wC (.int 2)))) (wNotT (wTest (wIsi "str" (wOp rIxW (wV 2) (wC (.int 0))))))))
  (wRet (wC (.bl false)))
  wNext)
  (wSeq (wAsg (wV 2) (wgTup 2 (wgCons (wgName 4) (wgCons (wgName 5) wgNil))))
  (wSeq (wIf (wTest (wOp rEq (wV 4) (wC (.str "walk"))))
  (wRet (wAndV (wCall (sp__law_is_walk c) [] (wCons (wV 0) (wCons (wV 1) (wCons (wV 5) (wCons (wC (.str "hops")) wNil))))) (wNotV (wCall (sp__law_below c) [] (wCons (wV 3) (wCons (wCall (sp__law_walk_square c) [] (wCons (wV 0) (wCons (wV 1) (wCons (wV 5) wNil)))) wNil))))))
  wNext)
  (wSeq (wIf (wOrT (wTest (wOp rNe (wV 4) (wC (.str "fence")))) (wNotT (wTest (wCall (sp__law_is_fence c) [] (wCons (wV 0) (wCons (wV 1) (wCons (wV 5) (wCons (wC (.str "hops")) wNil))))))))
  (wRet (wC (.bl false)))
  wNext)
  (wRet (wCB rAll (wCons (wFz (wLc (wiList (wV 5)) (wgTup 2 (wgCons (wgName 6) (wgCons (wgName 7) wgNil))) wYes (wCall (sp__law_below c) [] (wCons (wV 3) (wCons (wCall (sp__law_square_of c) [] (wCons (wV 0) (wCons (wV 6) (wCons (wV 1) (wCons (wV 7) wNil))))) wNil))) [6, 7])) wNil)))))))

theorem pu__law_point_at (c : Cs) : ∀ ws M Q E, sp__law_point_at c ws M Q E → t__law_point_at c (endsOf Q E) (startW N__law_point_at ws) M := by
  intro ws M Q E h; unfold sp__law_point_at at h; replace h := pS_out h
  obtain ⟨ds, rfl, hl, l, i, rfl, h1, h2, h⟩ := h
  have e1 : L2.atI (l.map eC) (Int.fdiv ((i : Nat) : Rat).num ((((i : Nat) : Rat).den : Nat) : Int)) = some (eC (cr l i)) := eL_ix (Int.fdiv_one _) h2
  walk_at "wx"
  refine ⟨show (0 : Int) < 1 by decide, ?_⟩
  walk_at "wx"
  have e2 : eqD (.int (((i : Nat) : Int) % 1)) (.int 0) = true := by rw [Int.emod_one]; rfl
  refine bch_tt e2 ?_
  walk_at "wh"
  rw [e1]
  walk_at "wh"
  rw [e1]
  walk_at "wx"
  exact okD h
theorem pu__law_square_of (c : Cs) : ∀ ws M Q E, sp__law_square_of c ws M Q E → t__law_square_of c (endsOf Q E) (startW N__law_square_of ws) M := by
  intro ws M Q E h; unfold sp__law_square_of at h; replace h := pS_out h
  obtain ⟨ds, rfl, hl, one, i, other, j, rfl, h1, h2, hi, hj, h⟩ := h
  have a := h1.cr i
  have b := h2.cr j
  walk_at "wh"
  refine cl_lpoint_at h1 hi ?_
  walk_at "wx"
  refine cl_lpoint_at h2 hj ?_
  walk_at "wx"
  refine ⟨⟨by decide, by decide, ?_⟩, ?_⟩
  · rw [Int.mul_one, Int.mul_one]; exact (a.1.sub b.1).mono (by decide)
  walk_at "wx"
  refine ⟨⟨by decide, by decide, ?_⟩, ?_⟩
  · rw [Int.mul_one, Int.mul_one]; exact (a.2.sub b.2).mono (by decide)
  walk_at "wx"
  refine cl_lratio (by decide) (Sz.one.mono (by decide)) ?_
  have e3 : Rat.divInt (((cr one i).1 * 1 - (cr other j).1 * 1) ^ (Int.toNat 2) + ((cr one i).2 * 1 - (cr other j).2 * 1) ^ (Int.toNat 2)) (1 * 1 * 1 * 1) = ((sqT one other i j : Int) : Rat) := by
    show Rat.divInt (((cr one i).1 * 1 - (cr other j).1 * 1) ^ 2 + ((cr one i).2 * 1 - (cr other j).2 * 1) ^ 2) 1 = _
    rw [Int.mul_one, Int.mul_one, Int.mul_one, Int.mul_one, Int.pow_succ, Int.pow_succ, Int.pow_zero, Int.one_mul, Int.pow_succ, Int.pow_succ, Int.pow_zero, Int.one_mul]
    exact Rat.num_divInt_den ((sqT one other i j : Int) : Rat)
  rw [e3]
  exact okD h
theorem pu__law_walk_square (c : Cs) : ∀ ws M Q E, sp__law_walk_square c ws M Q E → t__law_walk_square c (endsOf Q E) (startW N__law_walk_square ws) M := by
  intro ws M Q E h; unfold sp__law_walk_square at h; replace h := pS_out h
  obtain ⟨ds, rfl, hl, one, other, q, L, rfl, h1, h2, h0, hw, h⟩ := h
  walk_at "wx"
  refine for_inv (fun i ρ M' => ∃ (w : Rat) (a b d : Option Wv), w ≤ q ∧ Qz 200 w ∧ ρ = [some (.d (eL one)), some (.d (eL other)), some (.d (.lst (ePls L))), some (.d (eQ w)), a, b, d] ∧ M' = M) ⟨0, none, none, none, h0, ⟨szs (by decide) (by decide), Sz.one.mono (by decide)⟩, rfl, rfl⟩ ?_ ?_
  · rintro i x ρ M' K hx ⟨w, a, b, d, hwq, wz, rfl, rfl⟩ hK
    have hlt : i < L.length := by
      have := (List.getElem?_eq_some_iff.mp hx).1
      simpa [ePls] using this
    have hl : L[i]? = some L[i] := List.getElem?_eq_getElem hlt
    obtain ⟨a', b', ha, hb, e, hT⟩ := hw.mem _ (List.mem_of_getElem? hl)
    rw [e] at hl
    unfold ePls at hx
    rw [List.getElem?_map, List.getElem?_map, hl] at hx
    cases hx
    have tz : Qz 200 ((sqT one other a' b' : Int) : Rat) := Qz.mono (Qz.int (sqC_size h1 h2 a' b') (by decide)) (by decide)
    walk_at "wx"
    refine cl_lsquare_of (i := a') (j := b') h1 h2 ha hb ?_
    walk_at "wx"
    refine cl_lbelow (a := w) (b := ((sqT one other a' b' : Int) : Rat)) (wz.mono (by decide)) (tz.mono (by decide)) ?_
    by_cases hlt : w < ((sqT one other a' b' : Int) : Rat)
    · refine bch_t hlt ?_
      walk_at "wx"
      exact hK _ _ ⟨_, _, _, _, hT, tz, rfl, rfl⟩
    · refine bch_f hlt ?_
      walk_at "wx"
      exact hK _ _ ⟨_, _, _, _, hwq, wz, rfl, rfl⟩
  · rintro ρ M' ⟨w, a, b, d, hwq, wz, rfl, rfl⟩
    exact okD (h w hwq wz)
/-- what is told, is looked through and is well -/
def Told (one other : Ln) (q : Rat) (w : Str) (L : List Cor) : Prop := (w = "walk" ∧ HWalk one other q L) ∨ (w = "fence" ∧ HFence one other false q L)
@[irreducible] def sp__law_shown (c : Cs) : SpW := pS 4 fun ds Q _ => ∃ one other q w L, ds = [eL one, eL other, .tup [.str w, .lst (ePls L)], eQ q] ∧ LnOk one ∧ LnOk other ∧ 0 ≤ q ∧ Qz 90000 q ∧ Told one other q w L ∧ Q (.bl true)
theorem blsOf_true : ∀ (n : Nat), blsOf (List.replicate n (Dt.bl true)) = some (List.replicate n true)
  | 0 => rfl
  | n + 1 => by
    rw [List.replicate_succ]
    show (blsOf (List.replicate n (Dt.bl true))).map (true :: ·) = _
    rw [blsOf_true n]; rfl
theorem pu__law_shown (c : Cs) : ∀ ws M Q E, sp__law_shown c ws M Q E → t__law_shown c (endsOf Q E) (startW N__law_shown ws) M := by
  intro ws M Q E h; unfold sp__law_shown at h; replace h := pS_out h
  obtain ⟨ds, rfl, hl, one, other, q, w, L, rfl, h1, h2, h0, hz, ht, h⟩ := h
  rcases ht with ⟨rfl, hw⟩ | ⟨rfl, hw⟩
  · walk_at "wx"
    refine cl_lis_walk h1 h2 hw ?_
    walk_at "wx"
    refine cl_lwalk_square h1 h2 h0 hw fun w hwq wz => ?_
    walk_at "wx"
    refine cl_lbelow (a := q) (b := w) (hz.mono (by decide)) (wz.mono (by decide)) ?_
    walk_at "wx"
    have e : decide (q < w) = false := decide_eq_false (Rat.not_lt.mpr hwq)
    refine okD ?_
    rw [e]
    exact h
  · walk_at "wx"
    refine cl_lis_fence h1 h2 hw ?_
    walk_at "wx"
    intro p hp
    rw [show (ePls L).map Wv.d = L.map (fun k => Wv.d (ePl k)) by unfold ePls; rw [List.map_map]; rfl]
    refine lc_map (fun k => .d (ePl k)) (fun _ => true) (fun _ => .bl true) _ _ L [] (fun k hk ac T Fq hT hFq => ?_) (sle_of (by have := hw.len; simp; omega)) ?_
    · obtain ⟨a', b', ha, hb, e, hT'⟩ := hw.mem k hk
      subst e
      have tz : Qz 200 ((sqT one other a' b' : Int) : Rat) := Qz.mono (Qz.int (sqC_size h1 h2 a' b') (by decide)) (by decide)
      have hlt : q < ((sqT one other a' b' : Int) : Rat) := by simpa [farB] using hT'
      walk_at "wx"
      refine cl_lsquare_of (i := a') (j := b') h1 h2 ha hb ?_
      walk_at "wx"
      refine cl_lbelow (a := q) (b := ((sqT one other a' b' : Int) : Rat)) (hz.mono (by decide)) (tz.mono (by decide)) ?_
      rw [decide_eq_true hlt]
      exact hT rfl
    · rw [List.nil_append, List.filter_eq_self.mpr (fun _ _ => rfl)]
      rw [show L.map (fun _ => Wv.d (.bl true)) = (List.replicate L.length (Dt.bl true)).map .d by rw [List.map_replicate, List.map_const']]
      refine frz_lst hp ?_
      walk_at "wx"
      rw [blsOf_true]
      walk_at "wx"
      refine okD ?_
      have e : (List.replicate L.length true).all id = true := by rw [List.all_eq_true]; intro x hx; exact (List.mem_replicate.mp hx).2 ▸ rfl
      rw [e]; exact h
/-! ## law k35 -/
@[irreducible] def sp_law (c : Cs) : SpW := pS 1 fun ds Q _ => ∃ (xs : List Int), ds = [.scr (xs.map .int)] ∧ Q (.bl true)
def N_law : List Str := ["script", "one", "other", "first", "second", "cell", "square", "told", "kept"]
def b1_law (c : Cs) : WS :=
  (wSeq (wSet 6 (wCall (sp__law_drawn_leash c) [] (wCons (wCall (sp__law_begun c) [] (wCons (wV 5) wNil)) (wCons (wV 1) (wCons (wV 2) wNil)))))
  (wSeq (wSet 7 (wCall (sp_go_hops c) [] (wCons (wV 3) (wCons (wV 4) (wCons (wV 6) wNil)))))
  (wSeq (wIf (wOrT (wNotT (wTest (wBor (wCall (sp__law_shown c) [] (wCons (wV 1) (wCons (wV 2) (wCons (wV 7) (wCons (wV 6) wNil)))))))) (wOrT (wTest (wOp rNe (wV 3) (wV 1))) (wTest (wOp rNe (wV 4) (wV 2)))))
  (wRet (wC (.bl false)))
  wNext)
  (wSeq (wSet 8 (wTup (wCons (wOp rIxW (wV 7) (wC (.int 0))) (wCons (wFz (wCB rListC (wCons (wOp rIxW (wV 7) (wC (.int 1))) wNil))) wNil))))
  (wSeq (wDrop (wBM "list" mReverse (wOp rIxW (wV 7) (wC (.int 1))) wNil))
  (wSeq (wDrop (wBM "list" mAppend (wOp rIxW (wV 7) (wC (.int 1))) (wCons (wOp rIxW (wOp rIxW (wV 7) (wC (.int 1))) (wC (.int 0))) wNil)))
  (wIf (wTest (wOp rNeP (wCall (sp_go_hops c) [] (wCons (wV 3) (wCons (wV 4) (wCons (wV 6) wNil)))) (wV 8)))
  (wRet (wC (.bl false)))
  wNext)))))))
def t_law (c : Cs) : WS :=
  (wSeq (wAsg (wCall (sp__law_lines c) [] (wCons (wV 0) wNil)) (wgTup 2 (wgCons (wgName 1) (wgCons (wgName 2) wgNil))))
  (wSeq (wSet 3 (wFz (wCB rListC (wCons (wV 1) wNil))))
  (wSeq (wSet 4 (wFz (wCB rListC (wCons (wV 2) wNil))))
  (wSeq (wFor (wiList (wCall (sp__law_folded c) [] (wCons (wFz (wSl rSl (wV 0) (wPart (wC (.int 2))) wNoP)) (wCons (wC (.int 4)) wNil)))) (wgName 5) (b1_law c))
  (wRet (wC (.bl true)))))))

theorem go_told {c : Cs} {one other : Ln} {q : Rat} (h1 : LnOk one) (h2 : LnOk other) (hq : Qz 90000 q) : ∃ w L, goHopsR c one other q = (w, some L) ∧ Told one other q w L := by
  unfold goHopsR
  cases e : hopWalkR c one other q with
  | some L => exact ⟨_, L, rfl, .inl ⟨rfl, hopWalk_post h1 h2 hq e⟩⟩
  | none =>
    obtain ⟨L, eL'⟩ := hop_total h1 h2 hq e
    rw [eL']
    exact ⟨_, L, rfl, .inr ⟨rfl, hopFence_post h1 h2 eL'⟩⟩
theorem mapM_d {n : Nat} {M : Mh} : ∀ ds : List Dt, (ds.map Wv.d).mapM (peek n M) = some ds
  | [] => rfl
  | d :: ds => by
    have e : peek n M (.d d) = some d := by cases n <;> rfl
    rw [List.map_cons, List.mapM_cons, e, mapM_d ds]; rfl
theorem peek_told {M : Mh} {p a : Addr} {w : Str} {ds : List Dt} (hp : M p = some (.tup [.d (.str w), .c a])) (ha : M a = some (.lst (ds.map .d))) : peek 4 M (.c p) = some (.tup [.str w, .lst ds]) := by
  have e1 : peek 3 M (.c a) = some (.lst ds) := by
    unfold peek
    simp only [ha, mapM_d]
    rfl
  unfold peek
  simp only [hp, List.mapM_cons, e1]
  rfl
theorem eqDs_refl : ∀ (L : List Cor), eqDs (ePls L) (ePls L) = true
  | [] => rfl
  | p :: L => by
    show (eqD (ePl p) (ePl p) && eqDs (ePls L) (ePls L)) = true
    rw [eqDs_refl L, Bool.and_true]
    show (((p.1 == p.1) && (((1 : Int) == 1) && true)) && ((((p.2 == p.2) && (((1 : Int) == 1) && true))) && true)) = true
    simp
theorem eqCs_refl : ∀ (L : List Cor), eqDs (L.map eC) (L.map eC) = true
  | [] => rfl
  | p :: L => by
    show (((p.1 == p.1) && ((p.2 == p.2) && true)) && eqDs (L.map eC) (L.map eC)) = true
    rw [eqCs_refl L]; simp
theorem shD_eL (l : Ln) : shD 60 (.lst (l.map eC)) = true := by
  show shDs 59 (l.map eC) = true
  rw [shDs_all, List.all_eq_true]
  intro d hd
  obtain ⟨p, _, rfl⟩ := List.mem_map.mp hd
  rfl
theorem shD_ePls (n : Nat) (L : List Cor) : shD (n + 3) (.lst (ePls L)) = true := by
  show shDs (n + 2) (ePls L) = true
  rw [shDs_all, List.all_eq_true]
  intro d hd
  obtain ⟨p, _, rfl⟩ := List.mem_map.mp hd
  rfl
theorem cl_lshown {c : Cs} {M : Mh} {Q : Wv → Mh → Prop} {E : EW} {one other : Ln} {q : Rat} {w : Str} {L : List Cor} (h1 : LnOk one) (h2 : LnOk other) (h0 : 0 ≤ q) (hz : Qz 90000 q) (ht : Told one other q w L) (h : Q (.d (.bl true)) M) :
    sp__law_shown c [.d (eL one), .d (eL other), .d (.tup [.str w, .lst (ePls L)]), .d (eQ q)] M Q E := by
  unfold sp__law_shown; rw [pS4]; exact ⟨one, other, q, w, L, rfl, h1, h2, h0, hz, ht, h⟩
theorem rev_ok {M : Mh} {p : Addr} {xs : List Wv} {Q : Wv → Mh → Prop} (h : M p = some (.lst xs)) (k : Q (.d .non) (M.set p (.lst xs.reverse))) : mReverse (.c p) [] M Q := by
  simp only [mReverse, h]; exact k
theorem neP_ok {M : Mh} {x y : Wv} {a b : Dt} {Q : Wv → Mh → Prop} (ha : peek 4 M x = some a) (hb : peek 4 M y = some b) (sa : shD 60 a = true) (sb : shD 60 b = true) (e : eqD a b = true) (k : Q (.d (.bl false)) M) : rNeP x y M Q := by
  unfold rNeP; rw [ha, hb]; refine ⟨sa, sb, ?_⟩; rw [e]; exact k
theorem peekRho_get {M : Mh} {ρ : Rho} {i : Nat} : (peekRho M ρ)[i]? = (ρ[i]?).map fun o => o.bind fun w => (peek 4 M w).map .d := by unfold peekRho; rw [List.getElem?_map]
theorem pu_law (c : Cs) : ∀ ws M Q E, sp_law c ws M Q E → t_law c (endsOf Q E) (startW N_law ws) M := by
  intro ws M Q E h; unfold sp_law at h; replace h := pS_out h
  obtain ⟨ds, rfl, hl, xs, rfl, h⟩ := h
  walk_at "wh"
  refine cl_lines fun one other h1 h2 => ?_
  have o1 := h1.ok
  have o2 := h2.ok
  walk_at "wx"
  intro a ha
  refine frz_lst ha ?_
  walk_at "wx"
  intro b hb
  refine frz_lst hb ?_
  walk_at "wx"
  obtain ⟨ys, ey⟩ := cutW_map xs (some 2) none
  intro a2 ha2
  rw [ey]
  refine frz_lst ha2 ?_
  walk_at "wx"
  refine cl_folded (by decide) (by decide) fun L hL => ?_
  walk_at "wx"
  refine for_inv (fun i ρ M' => ∃ a b d e : Option Wv, ρ = [some (.d (.scr (xs.map .int))), some (.d (eL one)), some (.d (eL other)), some (.d (eL one)), some (.d (eL other)), a, b, d, e] ∧ Sub M M') ⟨none, none, none, none, rfl, Sub.refl M⟩ ?_ ?_
  · rintro i x ρ M' K hx ⟨a, b, d, e, rfl, hsub⟩ hK
    have hlt : i < L.length := by
      have := (List.getElem?_eq_some_iff.mp hx).1
      simpa using this
    rw [List.getElem?_map, List.getElem?_map, List.getElem?_eq_getElem hlt] at hx
    cases hx
    walk_at "wx"
    refine cl_begun fun pt o hp ho => ?_
    walk_at "wx"
    refine cl_drawn_leash Mh.set_same ho (by omega) h1 h2 fun q o2' q0 qz ho2 => ?_
    rw [Mh.set_set]
    walk_at "wx"
    have qz' : Qz 90000 q := qz.mono (by decide)
    obtain ⟨w, T, eg, ht⟩ := go_told (c := c) o1 o2 qz'
    refine cl_go_hops o1 o2 q0 qz' ?_
    rw [eg]
    show tupL _ _ w (some T)
    intro ca cp hca hcp hne
    have hs1 : Sub M (((M'.set pt o2').set ca (.lst ((ePls T).map .d))).set cp (.tup [.d (.str w), .c ca])) := hsub.trans ((Sub.set hp).trans ((Sub.set hca).trans (Sub.set (by rw [Mh.set_ne hne]; exact hcp))))
    have M1p : (((M'.set pt o2').set ca (.lst ((ePls T).map .d))).set cp (.tup [.d (.str w), .c ca])) cp = some (.tup [.d (.str w), .c ca]) := Mh.set_same
    have M1a : (((M'.set pt o2').set ca (.lst ((ePls T).map .d))).set cp (.tup [.d (.str w), .c ca])) ca = some (.lst ((ePls T).map .d)) := by rw [Mh.set_ne (Ne.symm hne), Mh.set_same]
    have Mca : M ca = none := hsub.none (fresh_old hca)
    have Mcp : M cp = none := hsub.none (fresh_old hcp)
    generalize (((M'.set pt o2').set ca (.lst ((ePls T).map .d))).set cp (.tup [.d (.str w), .c ca])) = M1 at hs1 M1p M1a ⊢
    have hpk := peek_told M1p M1a
    walk_at "wx"
    refine bor_ok (ρ1 := [some (.d (.scr (xs.map .int))), some (.d (eL one)), some (.d (eL other)), some (.d (eL one)), some (.d (eL other)), some (.d (.int L[i])), some (.d (eQ q)), some (.d (.tup [.str w, .lst (ePls T)])), e.bind fun w => (peek 4 M1 w).map .d]) ?_ ?_
    · unfold peekRho
      simp only [List.set_cons_succ, List.set_cons_zero, List.map_cons, List.map_nil, Option.bind_some, peek_d, hpk, Option.map_some]
    walk_at "wx"
    refine cl_lshown o1 o2 (Rat.num_nonneg.mp q0) qz' ht ?_
    walk_at "wx"
    refine ⟨_, rfl, rfl, ?_⟩
    walk_at "wx"
    refine ⟨shD_eL one, shD_eL one, ?_⟩
    refine bch_nt (eqCs_refl one) ?_
    walk_at "wx"
    refine ⟨shD_eL other, shD_eL other, ?_⟩
    refine bch_nt (eqCs_refl other) ?_
    walk_at "wh"
    rw [M1p]
    walk_at "wh"
    rw [M1p]
    walk_at "wh"
    rw [M1a]
    walk_at "wh"
    intro l hl
    refine frz_lst hl ?_
    walk_at "wx"
    rw [M1p]
    walk_at "wh"
    refine ⟨tyW_lst M1a, ?_⟩
    walk_at "wh"
    refine rev_ok M1a ?_
    walk_at "wh"
    have M2p : (M1.set ca (.lst ((ePls T).map .d).reverse)) cp = some (.tup [.d (.str w), .c ca]) := by rw [Mh.set_ne hne, M1p]
    have hTne : T ≠ [] := by
      rcases ht with ⟨_, hw⟩ | ⟨_, hw⟩
      · intro z; have := hw.head; rw [z] at this; cases this
      · intro z; obtain ⟨k, hk, _⟩ := hw.head; rw [z] at hk; cases hk
    obtain ⟨y, r, er⟩ : ∃ y r, ((ePls T).map Wv.d).reverse = y :: r := by
      cases e : ((ePls T).map Wv.d).reverse with
      | nil => simp [ePls] at e; exact absurd e hTne
      | cons y r => exact ⟨y, r, rfl⟩
    rw [er] at M2p ⊢
    have hlen : (y :: r).length ≤ 20000 := by
      rw [← er]
      rcases ht with ⟨_, hw⟩ | ⟨_, hw⟩
      · have := hw.len; simp [ePls]; omega
      · have := hw.len; simp [ePls]; omega
    rw [M2p]
    walk_at "wh"
    refine ⟨tyW_lst Mh.set_same, ?_⟩
    walk_at "wh"
    rw [M2p]
    walk_at "wx"
    rw [atI_zero]
    walk_at "wx"
    refine ap_set (xs := y :: r) (sl_of (by omega)) ?_
    walk_at "wx"
    refine cl_go_hops o1 o2 q0 qz' ?_
    rw [eg]
    show tupL _ _ w (some T)
    intro ca2 cp2 hca2 hcp2 hne2
    have hs2 : Sub M (M1.set ca (.lst (y :: r ++ [y]))) := fun z u ez => by
      have : z ≠ ca := by intro zz; rw [zz, Mca] at ez; cases ez
      rw [Mh.set_ne this]; exact hs1 z u ez
    generalize (M1.set ca (.lst (y :: r ++ [y]))) = M2 at hs2 hca2 hcp2 ⊢
    have hs3 : Sub M ((M2.set ca2 (.lst ((ePls T).map .d))).set cp2 (.tup [.d (.str w), .c ca2])) := hs2.trans ((Sub.set hca2).trans (Sub.set (by rw [Mh.set_ne hne2]; exact hcp2)))
    have M3p : ((M2.set ca2 (.lst ((ePls T).map .d))).set cp2 (.tup [.d (.str w), .c ca2])) cp2 = some (.tup [.d (.str w), .c ca2]) := Mh.set_same
    have M3a : ((M2.set ca2 (.lst ((ePls T).map .d))).set cp2 (.tup [.d (.str w), .c ca2])) ca2 = some (.lst ((ePls T).map .d)) := by rw [Mh.set_ne (Ne.symm hne2), Mh.set_same]
    have hpk3 := peek_told M3p M3a
    have hws : shD 59 (.str w) = true ∧ eqD (.str w) (.str w) = true := by
      rcases ht with ⟨rfl, _⟩ | ⟨rfl, _⟩ <;> exact ⟨by decide +kernel, by decide +kernel⟩
    have hsh : shD 60 (.tup [.str w, .lst (ePls T)]) = true := by
      show (shD 59 (.str w) && (shD 59 (.lst (ePls T)) && true)) = true
      rw [hws.1, shD_ePls 56]; rfl
    have heq : eqD (.tup [.str w, .lst (ePls T)]) (.tup [.str w, .lst (ePls T)]) = true := by
      show (eqD (.str w) (.str w) && (eqDs (ePls T) (ePls T) && true)) = true
      rw [hws.2, eqDs_refl]; rfl
    walk_at "wh"
    refine neP_ok hpk3 peek_d hsh hsh heq ?_
    walk_at "wx"
    exact hK _ _ ⟨_, _, _, _, rfl, hs3⟩
  · rintro ρ M' ⟨a, b, d, e, rfl, hsub⟩
    exact ⟨M, hsub, h⟩
end Lw

namespace Lw
open PySem PySem.Spec L2
abbrev topS (i : Nat) : Stmt := PySem.Challenge.pw_oneleash_k35_whole_papers_of_hops.main.body.getD i (.Pass ⟨0, 0, 0, 0⟩)
section
variable {P : Program} {w : World} {K : PySem.W.Frag} {mg : Str → Option Value} {base : Heap} {c : Cs}
abbrev s__law_begun : Stmt := topS 39
theorem sc__law_begun : FnScope ["cell", "rest"] ["cell"] (defScope s__law_begun) := ⟨rfl, rfl, rfl, by decide +kernel, rfl, by decide +kernel, by decide +kernel⟩
theorem ok__law_begun {f : Addr} {fd : FuncData} (F : FunD K "_law_begun" "_law_begun" (defArgs s__law_begun) (defBody s__law_begun) (defScope s__law_begun) [] [] f fd)
    (g_abs : mg "abs" = none) : FnOk P w K mg base (L2.CX P w) 1 f fd ["cell"] (lift (sp__law_begun c)) := by
  refine fnW F sc__law_begun (len__law_begun c) (t := t__law_begun c) (fun cdv A outer s H E hr => ?_) (pu__law_begun c)
  have nd := sc__law_begun.nd
  have hu := hu_of hr
  have tk : Takes (cxOf (L2.CX P w) P w K mg base ["cell", "rest"] "_law_begun" (defScope s__law_begun) f cdv A outer s H E) (fun cls d _ H => E cls d H) := takes_of rfl rfl rfl rfl
  have po : PassesOwn (model P w) (A.deeper (PyProof.Rows.envOfC "_law_begun" (defScope s__law_begun) s.heap.objs.size f cdv)) (PyProof.Rows.envOfC "_law_begun" (defScope s__law_begun) s.heap.objs.size f cdv) (cxOf (L2.CX P w) P w K mg base ["cell", "rest"] "_law_begun" (defScope s__law_begun) f cdv A outer s H E).xe := passes_of rfl
  exact (pssw_cons (psw_set (i := 1) nd pew_int)
  (pssw_cons (psw_if (ptw_cmp op_ge ab_cmp (nomark _) (pew_callB call_abs ab_abs rfl g_abs (by decide +kernel) (paw_cons (pew_var (i := 0)) paw_nil)) (pew_op op_pow ab_pow pew_int pew_int))
  (pssw_one (psw_set (i := 1) nd (pew_op op_addG ab_add (pew_op op_sub ab_sub (pew_callB call_abs ab_abs rfl g_abs (by decide +kernel) (paw_cons (pew_var (i := 0)) paw_nil)) (pew_op op_pow ab_pow pew_int pew_int)) pew_int)))
  pssw_nil)
  (pssw_one (psw_ret (pew_lstC (paw_cons (pew_var (i := 1)) (paw_cons pew_int (paw_cons (pew_op op_mod ab_mod (pew_var (i := 0)) pew_int) paw_nil))))))))

theorem len__law_apart (c : Cs) : ∀ ws M Q E, sp__law_apart c ws M Q E → ws.length = 4 := by
  intro ws M Q E h; unfold sp__law_apart at h; exact pS_len ws M Q E h
abbrev s__law_apart : Stmt := topS 61
theorem sc__law_apart : FnScope ["one", "x", "other", "y"] ["one", "x", "other", "y"] (defScope s__law_apart) := ⟨rfl, rfl, rfl, by decide +kernel, rfl, by decide +kernel, by decide +kernel⟩
theorem ok__law_apart {f : Addr} {fd : FuncData} (F : FunD K "_law_apart" "_law_apart" (defArgs s__law_apart) (defBody s__law_apart) (defScope s__law_apart) [] [] f fd)
     : FnOk P w K mg base (L2.CX P w) 1 f fd ["one", "x", "other", "y"] (lift (sp__law_apart c)) := by
  refine fnW F sc__law_apart (len__law_apart c) (t := t__law_apart c) (fun cdv A outer s H E hr => ?_) (pu__law_apart c)
  have nd := sc__law_apart.nd
  have hu := hu_of hr
  have tk : Takes (cxOf (L2.CX P w) P w K mg base ["one", "x", "other", "y"] "_law_apart" (defScope s__law_apart) f cdv A outer s H E) (fun cls d _ H => E cls d H) := takes_of rfl rfl rfl rfl
  have po : PassesOwn (model P w) (A.deeper (PyProof.Rows.envOfC "_law_apart" (defScope s__law_apart) s.heap.objs.size f cdv)) (PyProof.Rows.envOfC "_law_apart" (defScope s__law_apart) s.heap.objs.size f cdv) (cxOf (L2.CX P w) P w K mg base ["one", "x", "other", "y"] "_law_apart" (defScope s__law_apart) f cdv A outer s H E).xe := passes_of rfl
  exact (pssw_one (psw_ret (pew_op op_addG ab_add (pew_op op_pow ab_pow (pew_op op_sub ab_sub (pew_ix (pew_ix (pew_var (i := 0)) (pew_var (i := 1)) (fun _ _ => rfl)) pew_int (fun _ _ => rfl)) (pew_ix (pew_ix (pew_var (i := 2)) (pew_var (i := 3)) (fun _ _ => rfl)) pew_int (fun _ _ => rfl))) pew_int) (pew_op op_pow ab_pow (pew_op op_sub ab_sub (pew_ix (pew_ix (pew_var (i := 0)) (pew_var (i := 1)) (fun _ _ => rfl)) pew_int (fun _ _ => rfl)) (pew_ix (pew_ix (pew_var (i := 2)) (pew_var (i := 3)) (fun _ _ => rfl)) pew_int (fun _ _ => rfl))) pew_int))))

theorem len__law_divisor (c : Cs) : ∀ ws M Q E, sp__law_divisor c ws M Q E → ws.length = 2 := by
  intro ws M Q E h; unfold sp__law_divisor at h; exact pS_len ws M Q E h
abbrev s__law_divisor : Stmt := topS 46
theorem sc__law_divisor : FnScope ["one", "other"] ["one", "other"] (defScope s__law_divisor) := ⟨rfl, rfl, rfl, by decide +kernel, rfl, by decide +kernel, by decide +kernel⟩
theorem ok__law_divisor {f : Addr} {fd : FuncData} (F : FunD K "_law_divisor" "_law_divisor" (defArgs s__law_divisor) (defBody s__law_divisor) (defScope s__law_divisor) [] [] f fd)
    (g_abs : mg "abs" = none) : FnOk P w K mg base (L2.CX P w) 1 f fd ["one", "other"] (lift (sp__law_divisor c)) := by
  refine fnW F sc__law_divisor (len__law_divisor c) (t := t__law_divisor c) (fun cdv A outer s H E hr => ?_) (pu__law_divisor c)
  have nd := sc__law_divisor.nd
  have hu := hu_of hr
  have tk : Takes (cxOf (L2.CX P w) P w K mg base ["one", "other"] "_law_divisor" (defScope s__law_divisor) f cdv A outer s H E) (fun cls d _ H => E cls d H) := takes_of rfl rfl rfl rfl
  have po : PassesOwn (model P w) (A.deeper (PyProof.Rows.envOfC "_law_divisor" (defScope s__law_divisor) s.heap.objs.size f cdv)) (PyProof.Rows.envOfC "_law_divisor" (defScope s__law_divisor) s.heap.objs.size f cdv) (cxOf (L2.CX P w) P w K mg base ["one", "other"] "_law_divisor" (defScope s__law_divisor) f cdv A outer s H E).xe := passes_of rfl
  exact (pssw_cons (psw_while po (ptw_cmp (op_neD hr.units) ab_ne (nomark _) (pew_var (i := 1)) pew_int)
  (pssw_one (psw_par (i := 0) (j := 1) rfl nd (paw_cons (pew_var (i := 1)) (paw_cons (pew_op op_mod ab_mod (pew_var (i := 0)) (pew_var (i := 1))) paw_nil)) (by rfl))))
  (pssw_one (psw_ret (pew_callB call_abs ab_abs rfl g_abs (by decide +kernel) (paw_cons (pew_var (i := 0)) paw_nil)))))

theorem len__law_ratio (c : Cs) : ∀ ws M Q E, sp__law_ratio c ws M Q E → ws.length = 2 := by
  intro ws M Q E h; unfold sp__law_ratio at h; exact pS_len ws M Q E h
abbrev s__law_ratio : Stmt := topS 47
theorem sc__law_ratio : FnScope ["top", "bottom", "by"] ["top", "bottom"] (defScope s__law_ratio) := ⟨rfl, rfl, rfl, by decide +kernel, rfl, by decide +kernel, by decide +kernel⟩
theorem ok__law_ratio {f : Addr} {fd : FuncData} (F : FunD K "_law_ratio" "_law_ratio" (defArgs s__law_ratio) (defBody s__law_ratio) (defScope s__law_ratio) [] [] f fd)
    (F__law_divisor : FnAt P w K mg base "_law_divisor" 1 [] (sp__law_divisor c)) : FnOk P w K mg base (L2.CX P w) 2 f fd ["top", "bottom"] (lift (sp__law_ratio c)) := by
  refine fnW F sc__law_ratio (len__law_ratio c) (t := t__law_ratio c) (fun cdv A outer s H E hr => ?_) (pu__law_ratio c)
  have nd := sc__law_ratio.nd
  have hu := hu_of hr
  have tk : Takes (cxOf (L2.CX P w) P w K mg base ["top", "bottom", "by"] "_law_ratio" (defScope s__law_ratio) f cdv A outer s H E) (fun cls d _ H => E cls d H) := takes_of rfl rfl rfl rfl
  have po : PassesOwn (model P w) (A.deeper (PyProof.Rows.envOfC "_law_ratio" (defScope s__law_ratio) s.heap.objs.size f cdv)) (PyProof.Rows.envOfC "_law_ratio" (defScope s__law_ratio) s.heap.objs.size f cdv) (cxOf (L2.CX P w) P w K mg base ["top", "bottom", "by"] "_law_ratio" (defScope s__law_ratio) f cdv A outer s H E).xe := passes_of rfl
  exact (pssw_cons (psw_set (i := 2) nd (pew_f F__law_divisor (hr.mono (by decide)) tk (paw_cons (pew_var (i := 0)) (paw_cons (pew_var (i := 1)) paw_nil))))
  (pssw_one (psw_ret (pew_tup (paw_cons (pew_op op_fdivG ab_div (pew_var (i := 0)) (pew_var (i := 2))) (paw_cons (pew_op op_fdivG ab_div (pew_var (i := 1)) (pew_var (i := 2))) paw_nil))))))

abbrev s__law_take : Stmt := topS 40
theorem sc__law_take : FnScope ["pot", "size", "digit", "mixed"] ["pot", "size"] (defScope s__law_take) := ⟨rfl, rfl, rfl, by decide +kernel, rfl, by decide +kernel, by decide +kernel⟩
theorem ok__law_take {f : Addr} {fd : FuncData} (F : FunD K "_law_take" "_law_take" (defArgs s__law_take) (defBody s__law_take) (defScope s__law_take) [] [] f fd)
     : FnOk P w K mg base (L2.CX P w) 1 f fd ["pot", "size"] (lift (sp__law_take c)) := by
  refine fnW F sc__law_take (len__law_take c) (t := t__law_take c) (fun cdv A outer s H E hr => ?_) (pu__law_take c)
  have nd := sc__law_take.nd
  have hu := hu_of hr
  have tk : Takes (cxOf (L2.CX P w) P w K mg base ["pot", "size", "digit", "mixed"] "_law_take" (defScope s__law_take) f cdv A outer s H E) (fun cls d _ H => E cls d H) := takes_of rfl rfl rfl rfl
  have po : PassesOwn (model P w) (A.deeper (PyProof.Rows.envOfC "_law_take" (defScope s__law_take) s.heap.objs.size f cdv)) (PyProof.Rows.envOfC "_law_take" (defScope s__law_take) s.heap.objs.size f cdv) (cxOf (L2.CX P w) P w K mg base ["pot", "size", "digit", "mixed"] "_law_take" (defScope s__law_take) f cdv A outer s H E).xe := passes_of rfl
  exact (pssw_cons (psw_if (ptw_cmp op_gt ab_cmp (nomark _) (pew_ix (pew_var (i := 0)) pew_int (fun _ _ => rfl)) pew_int)
  (pssw_cons (psw_set (i := 2) nd (pew_op op_mod ab_mod (pew_ix (pew_var (i := 0)) pew_int (fun _ _ => rfl)) (pew_var (i := 1))))
  (pssw_cons (psw_put (pew_op op_fdivG ab_div (pew_ix (pew_var (i := 0)) pew_int (fun _ _ => rfl)) (pew_var (i := 1))) (pew_var (i := 0)) pew_int)
  (pssw_one (psw_ret (pew_var (i := 2))))))
  pssw_nil)
  (pssw_cons (psw_put (pew_op op_addG ab_add (pew_ix (pew_var (i := 0)) pew_int (fun _ _ => rfl)) pew_int) (pew_var (i := 0)) pew_int)
  (pssw_cons (psw_set (i := 3) nd (pew_op op_mod ab_mod (pew_op op_addG ab_add (pew_op op_addG ab_add (pew_op op_addG ab_add (pew_ix (pew_var (i := 0)) pew_int (fun _ _ => rfl)) (pew_op op_mulO ab_mul (pew_op op_mulO ab_mul pew_int (pew_ix (pew_var (i := 0)) pew_int (fun _ _ => rfl))) (pew_ix (pew_var (i := 0)) pew_int (fun _ _ => rfl)))) (pew_op op_mulO ab_mul pew_int (pew_ix (pew_var (i := 0)) pew_int (fun _ _ => rfl)))) pew_int) pew_int))
  (pssw_cons (psw_set (i := 3) nd (pew_op op_mod ab_mod (pew_op op_mulO ab_mul (pew_op op_mod ab_mod (pew_op op_mulO ab_mul (pew_var (i := 3)) (pew_var (i := 3))) pew_int) pew_int) pew_int))
  (pssw_one (psw_ret (pew_op op_mod ab_mod (pew_op op_fdivG ab_div (pew_var (i := 3)) pew_int) (pew_var (i := 1)))))))))

abbrev s__law_wide : Stmt := topS 41
theorem sc__law_wide : FnScope ["pot", "size", "number", "turn"] ["pot", "size"] (defScope s__law_wide) := ⟨rfl, rfl, rfl, by decide +kernel, rfl, by decide +kernel, by decide +kernel⟩
theorem ok__law_wide {f : Addr} {fd : FuncData} (F : FunD K "_law_wide" "_law_wide" (defArgs s__law_wide) (defBody s__law_wide) (defScope s__law_wide) [] [] f fd)
    (F__law_take : FnAt P w K mg base "_law_take" 1 [] (sp__law_take c)) (g_range : mg "range" = none) : FnOk P w K mg base (L2.CX P w) 2 f fd ["pot", "size"] (lift (sp__law_wide c)) := by
  refine fnW F sc__law_wide (len__law_wide c) (t := t__law_wide c) (fun cdv A outer s H E hr => ?_) (pu__law_wide c)
  have nd := sc__law_wide.nd
  have hu := hu_of hr
  have tk : Takes (cxOf (L2.CX P w) P w K mg base ["pot", "size", "number", "turn"] "_law_wide" (defScope s__law_wide) f cdv A outer s H E) (fun cls d _ H => E cls d H) := takes_of rfl rfl rfl rfl
  have po : PassesOwn (model P w) (A.deeper (PyProof.Rows.envOfC "_law_wide" (defScope s__law_wide) s.heap.objs.size f cdv)) (PyProof.Rows.envOfC "_law_wide" (defScope s__law_wide) s.heap.objs.size f cdv) (cxOf (L2.CX P w) P w K mg base ["pot", "size", "number", "turn"] "_law_wide" (defScope s__law_wide) f cdv A outer s H E).xe := passes_of rfl
  exact (pssw_cons (psw_if (ptw_bool (pww_or (ptw_cmp op_gt ab_cmp (nomark _) (pew_ix (pew_var (i := 0)) pew_int (fun _ _ => rfl)) pew_int) (pww_or1 (ptw_cmp op_lt ab_cmp (nomark _) (pew_var (i := 1)) (pew_op op_pow ab_pow pew_int pew_int)))))
  (pssw_one (psw_ret (pew_f F__law_take (hr.mono (by decide)) tk (paw_cons (pew_var (i := 0)) (paw_cons (pew_var (i := 1)) paw_nil)))))
  pssw_nil)
  (pssw_cons (psw_set (i := 2) nd pew_int)
  (pssw_cons (psw_for (vs := [3]) po rfl (piw_range1 rfl g_range (paw_cons pew_int paw_nil)) (pgw_name (i := 3) nd)
  (pssw_one (psw_set (i := 2) nd (pew_op op_addG ab_add (pew_op op_mulO ab_mul (pew_var (i := 2)) pew_int) (pew_f F__law_take (hr.mono (by decide)) tk (paw_cons (pew_var (i := 0)) (paw_cons pew_int paw_nil)))))))
  (pssw_one (psw_ret (pew_op op_mod ab_mod (pew_var (i := 2)) (pew_var (i := 1))))))))

abbrev s__law_drawn_leash : Stmt := topS 62
theorem sc__law_drawn_leash : FnScope ["pot", "one", "other", "here", "part", "turn"] ["pot", "one", "other"] (defScope s__law_drawn_leash) := ⟨rfl, rfl, rfl, by decide +kernel, rfl, by decide +kernel, by decide +kernel⟩
theorem ok__law_drawn_leash {f : Addr} {fd : FuncData} (F : FunD K "_law_drawn_leash" "_law_drawn_leash" (defArgs s__law_drawn_leash) (defBody s__law_drawn_leash) (defScope s__law_drawn_leash) [] [] f fd)
    (g_len : mg "len" = none) (F__law_take : FnAt P w K mg base "_law_take" 1 [] (sp__law_take c)) (F__law_apart : FnAt P w K mg base "_law_apart" 1 [] (sp__law_apart c)) (F__law_wide : FnAt P w K mg base "_law_wide" 2 [] (sp__law_wide c)) (F__law_ratio : FnAt P w K mg base "_law_ratio" 2 [] (sp__law_ratio c)) (g_max : mg "max" = none) : FnOk P w K mg base (L2.CX P w) 3 f fd ["pot", "one", "other"] (lift (sp__law_drawn_leash c)) := by
  refine fnW F sc__law_drawn_leash (len__law_drawn_leash c) (t := t__law_drawn_leash c) (fun cdv A outer s H E hr => ?_) (pu__law_drawn_leash c)
  have nd := sc__law_drawn_leash.nd
  have hu := hu_of hr
  have tk : Takes (cxOf (L2.CX P w) P w K mg base ["pot", "one", "other", "here", "part", "turn"] "_law_drawn_leash" (defScope s__law_drawn_leash) f cdv A outer s H E) (fun cls d _ H => E cls d H) := takes_of rfl rfl rfl rfl
  have po : PassesOwn (model P w) (A.deeper (PyProof.Rows.envOfC "_law_drawn_leash" (defScope s__law_drawn_leash) s.heap.objs.size f cdv)) (PyProof.Rows.envOfC "_law_drawn_leash" (defScope s__law_drawn_leash) s.heap.objs.size f cdv) (cxOf (L2.CX P w) P w K mg base ["pot", "one", "other", "here", "part", "turn"] "_law_drawn_leash" (defScope s__law_drawn_leash) f cdv A outer s H E).xe := passes_of rfl
  exact (pssw_cons (psw_set (i := 3) nd (pew_f F__law_apart (hr.mono (by decide)) tk (paw_cons (pew_var (i := 1)) (paw_cons (pew_f F__law_take (hr.mono (by decide)) tk (paw_cons (pew_var (i := 0)) (paw_cons (pew_callB call_len ab_len rfl g_len (by decide +kernel) (paw_cons (pew_var (i := 1)) paw_nil)) paw_nil))) (paw_cons (pew_var (i := 2)) (paw_cons (pew_f F__law_take (hr.mono (by decide)) tk (paw_cons (pew_var (i := 0)) (paw_cons (pew_callB call_len ab_len rfl g_len (by decide +kernel) (paw_cons (pew_var (i := 2)) paw_nil)) paw_nil))) paw_nil))))))
  (pssw_cons (psw_set (i := 4) nd (pew_op op_addG ab_add pew_int (pew_f F__law_wide (hr.mono (by decide)) tk (paw_cons (pew_var (i := 0)) (paw_cons (pew_ix (pew_lst (paw_cons pew_int (paw_cons pew_int (paw_cons (pew_op op_pow ab_pow pew_int pew_int) paw_nil)))) (pew_f F__law_take (hr.mono (by decide)) tk (paw_cons (pew_var (i := 0)) (paw_cons pew_int paw_nil))) (fun _ _ => rfl)) paw_nil)))))
  (pssw_cons (psw_set (i := 5) nd (pew_f F__law_take (hr.mono (by decide)) tk (paw_cons (pew_var (i := 0)) (paw_cons pew_int paw_nil))))
  (pssw_cons (psw_if (ptw_cmp op_lt ab_cmp (nomark _) (pew_var (i := 5)) pew_int)
  (pssw_one (psw_ret (pew_tup (paw_cons (pew_var (i := 3)) (paw_cons pew_int paw_nil)))))
  pssw_nil)
  (pssw_cons (psw_if (ptw_cmp (op_eqD hr.units) ab_eq (nomark _) (pew_var (i := 5)) pew_int)
  (pssw_one (psw_ret (pew_f F__law_ratio (hr.mono (by decide)) tk (paw_cons (pew_op op_addG ab_add (pew_op op_mulO ab_mul (pew_var (i := 3)) (pew_var (i := 4))) pew_int) (paw_cons (pew_var (i := 4)) paw_nil)))))
  pssw_nil)
  (pssw_cons (psw_if (ptw_cmp (op_eqD hr.units) ab_eq (nomark _) (pew_var (i := 5)) pew_int)
  (pssw_one (psw_ret (pew_f F__law_ratio (hr.mono (by decide)) tk (paw_cons (pew_callB (call_max2 rfl) ab_max2 rfl g_max (by decide +kernel) (paw_cons pew_int (paw_cons (pew_op op_sub ab_sub (pew_op op_mulO ab_mul (pew_var (i := 3)) (pew_var (i := 4))) pew_int) paw_nil))) (paw_cons (pew_var (i := 4)) paw_nil)))))
  pssw_nil)
  (pssw_cons (psw_if (ptw_cmp (op_eqD hr.units) ab_eq (nomark _) (pew_var (i := 5)) pew_int)
  (pssw_one (psw_ret (pew_f F__law_ratio (hr.mono (by decide)) tk (paw_cons (pew_f F__law_take (hr.mono (by decide)) tk (paw_cons (pew_var (i := 0)) (paw_cons pew_int paw_nil))) (paw_cons (pew_op op_addG ab_add pew_int (pew_f F__law_take (hr.mono (by decide)) tk (paw_cons (pew_var (i := 0)) (paw_cons pew_int paw_nil)))) paw_nil)))))
  pssw_nil)
  (pssw_one (psw_ret (pew_tup (paw_cons (pew_f F__law_wide (hr.mono (by decide)) tk (paw_cons (pew_var (i := 0)) (paw_cons (pew_op op_pow ab_pow pew_int pew_int) paw_nil))) (paw_cons pew_int paw_nil))))))))))))

theorem len__law_folded (c : Cs) : ∀ ws M Q E, sp__law_folded c ws M Q E → ws.length = 2 := by
  intro ws M Q E h; unfold sp__law_folded at h; exact pS_len ws M Q E h
abbrev s__law_folded : Stmt := topS 38
theorem sc__law_folded : FnScope ["cells", "many", "found", "k", "cell"] ["cells", "many"] (defScope s__law_folded) := ⟨rfl, rfl, rfl, by decide +kernel, rfl, by decide +kernel, by decide +kernel⟩
theorem ok__law_folded {f : Addr} {fd : FuncData} (F : FunD K "_law_folded" "_law_folded" (defArgs s__law_folded) (defBody s__law_folded) (defScope s__law_folded) [] [] f fd)
    (g_len : mg "len" = none) (g_max : mg "max" = none) (g_min : mg "min" = none) (g_enumerate : mg "enumerate" = none) : FnOk P w K mg base (L2.CX P w) 1 f fd ["cells", "many"] (lift (sp__law_folded c)) := by
  refine fnW F sc__law_folded (len__law_folded c) (t := t__law_folded c) (fun cdv A outer s H E hr => ?_) (pu__law_folded c)
  have nd := sc__law_folded.nd
  have hu := hu_of hr
  have tk : Takes (cxOf (L2.CX P w) P w K mg base ["cells", "many", "found", "k", "cell"] "_law_folded" (defScope s__law_folded) f cdv A outer s H E) (fun cls d _ H => E cls d H) := takes_of rfl rfl rfl rfl
  have po : PassesOwn (model P w) (A.deeper (PyProof.Rows.envOfC "_law_folded" (defScope s__law_folded) s.heap.objs.size f cdv)) (PyProof.Rows.envOfC "_law_folded" (defScope s__law_folded) s.heap.objs.size f cdv) (cxOf (L2.CX P w) P w K mg base ["cells", "many", "found", "k", "cell"] "_law_folded" (defScope s__law_folded) f cdv A outer s H E).xe := passes_of rfl
  exact (pssw_cons (psw_set (i := 2) nd (pew_op op_rep ab_repC (pew_lst (paw_cons pew_int paw_nil)) (pew_callB (call_min2 rfl) ab_min2 rfl g_min (by decide +kernel) (paw_cons (pew_var (i := 1)) (paw_cons (pew_callB (call_max2 rfl) ab_max2 rfl g_max (by decide +kernel) (paw_cons pew_int (paw_cons (pew_callB call_len ab_len rfl g_len (by decide +kernel) (paw_cons (pew_var (i := 0)) paw_nil)) paw_nil))) paw_nil)))))
  (pssw_cons (psw_for (vs := [3, 4]) po rfl (piw_enum rfl g_enumerate (paw_cons (pew_var (i := 0)) paw_nil)) (pgw_tup rfl (pgsw_cons (pgw_name (i := 3) nd) (pgsw_cons (pgw_name (i := 4) nd) pgsw_nil)))
  (pssw_one (psw_put (pew_op op_addG ab_add (pew_op op_mulO ab_mul (pew_ix (pew_var (i := 2)) (pew_op op_mod ab_mod (pew_var (i := 3)) (pew_callB call_len ab_len rfl g_len (by decide +kernel) (paw_cons (pew_var (i := 2)) paw_nil))) (fun _ _ => rfl)) pew_int) (pew_var (i := 4))) (pew_var (i := 2)) (pew_op op_mod ab_mod (pew_var (i := 3)) (pew_callB call_len ab_len rfl g_len (by decide +kernel) (paw_cons (pew_var (i := 2)) paw_nil))))))
  (pssw_one (psw_ret (pew_fz (pew_var (i := 2)))))))

theorem len__law_cell_at (c : Cs) : ∀ ws M Q E, sp__law_cell_at c ws M Q E → ws.length = 2 := by
  intro ws M Q E h; unfold sp__law_cell_at at h; exact pS_len ws M Q E h
abbrev s__law_cell_at : Stmt := topS 37
theorem sc__law_cell_at : FnScope ["script", "k"] ["script", "k"] (defScope s__law_cell_at) := ⟨rfl, rfl, rfl, by decide +kernel, rfl, by decide +kernel, by decide +kernel⟩
theorem ok__law_cell_at {f : Addr} {fd : FuncData} (F : FunD K "_law_cell_at" "_law_cell_at" (defArgs s__law_cell_at) (defBody s__law_cell_at) (defScope s__law_cell_at) [] [] f fd)
    (g_len : mg "len" = none) : FnOk P w K mg base (L2.CX P w) 1 f fd ["script", "k"] (lift (sp__law_cell_at c)) := by
  refine fnW F sc__law_cell_at (len__law_cell_at c) (t := t__law_cell_at c) (fun cdv A outer s H E hr => ?_) (pu__law_cell_at c)
  have nd := sc__law_cell_at.nd
  have hu := hu_of hr
  have tk : Takes (cxOf (L2.CX P w) P w K mg base ["script", "k"] "_law_cell_at" (defScope s__law_cell_at) f cdv A outer s H E) (fun cls d _ H => E cls d H) := takes_of rfl rfl rfl rfl
  have po : PassesOwn (model P w) (A.deeper (PyProof.Rows.envOfC "_law_cell_at" (defScope s__law_cell_at) s.heap.objs.size f cdv)) (PyProof.Rows.envOfC "_law_cell_at" (defScope s__law_cell_at) s.heap.objs.size f cdv) (cxOf (L2.CX P w) P w K mg base ["script", "k"] "_law_cell_at" (defScope s__law_cell_at) f cdv A outer s H E).xe := passes_of rfl
  exact (pssw_cons (psw_if (ptw_cmp op_lt ab_cmp (nomark _) (pew_var (i := 1)) (pew_callB call_len ab_len rfl g_len (by decide +kernel) (paw_cons (pew_var (i := 0)) paw_nil)))
  (pssw_one (psw_ret (pew_ix (pew_var (i := 0)) (pew_var (i := 1)) (fun _ _ => rfl))))
  pssw_nil)
  (pssw_one (psw_ret pew_int)))

abbrev s__law_drawn_line : Stmt := topS 42
theorem sc__law_drawn_line : FnScope ["pot", "many", "span", "half", "line", "k", "corner", "at"] ["pot"] (defScope s__law_drawn_line) := ⟨rfl, rfl, rfl, by decide +kernel, rfl, by decide +kernel, by decide +kernel⟩
theorem ok__law_drawn_line {f : Addr} {fd : FuncData} (F : FunD K "_law_drawn_line" "_law_drawn_line" (defArgs s__law_drawn_line) (defBody s__law_drawn_line) (defScope s__law_drawn_line) [] [] f fd)
    (F__law_take : FnAt P w K mg base "_law_take" 1 [] (sp__law_take c)) (g_range : mg "range" = none) (F__law_wide : FnAt P w K mg base "_law_wide" 2 [] (sp__law_wide c)) : FnOk P w K mg base (L2.CX P w) 3 f fd ["pot"] (lift (sp__law_drawn_line c)) := by
  refine fnW F sc__law_drawn_line (len__law_drawn_line c) (t := t__law_drawn_line c) (fun cdv A outer s H E hr => ?_) (pu__law_drawn_line c)
  have nd := sc__law_drawn_line.nd
  have hu := hu_of hr
  have tk : Takes (cxOf (L2.CX P w) P w K mg base ["pot", "many", "span", "half", "line", "k", "corner", "at"] "_law_drawn_line" (defScope s__law_drawn_line) f cdv A outer s H E) (fun cls d _ H => E cls d H) := takes_of rfl rfl rfl rfl
  have po : PassesOwn (model P w) (A.deeper (PyProof.Rows.envOfC "_law_drawn_line" (defScope s__law_drawn_line) s.heap.objs.size f cdv)) (PyProof.Rows.envOfC "_law_drawn_line" (defScope s__law_drawn_line) s.heap.objs.size f cdv) (cxOf (L2.CX P w) P w K mg base ["pot", "many", "span", "half", "line", "k", "corner", "at"] "_law_drawn_line" (defScope s__law_drawn_line) f cdv A outer s H E).xe := passes_of rfl
  exact (pssw_cons (psw_set (i := 1) nd (pew_op op_addG ab_add pew_int (pew_f F__law_take (hr.mono (by decide)) tk (paw_cons (pew_var (i := 0)) (paw_cons (pew_ix (pew_lst (paw_cons pew_int (paw_cons pew_int (paw_cons pew_int (paw_cons pew_int (paw_cons pew_int (paw_cons pew_int (paw_cons pew_int (paw_cons pew_int paw_nil))))))))) (pew_f F__law_take (hr.mono (by decide)) tk (paw_cons (pew_var (i := 0)) (paw_cons pew_int paw_nil))) (fun _ _ => rfl)) paw_nil)))))
  (pssw_cons (psw_set (i := 2) nd (pew_ix (pew_lst (paw_cons pew_int (paw_cons pew_int (paw_cons pew_int (paw_cons (pew_op op_sub ab_sub (pew_op op_mulO ab_mul pew_int (pew_op op_pow ab_pow pew_int pew_int)) pew_int) paw_nil))))) (pew_f F__law_take (hr.mono (by decide)) tk (paw_cons (pew_var (i := 0)) (paw_cons pew_int paw_nil))) (fun _ _ => rfl)))
  (pssw_cons (psw_set (i := 3) nd (pew_op op_fdivG ab_div (pew_var (i := 2)) pew_int))
  (pssw_cons (psw_set (i := 4) nd (pew_lstC paw_nil))
  (pssw_cons (psw_for (vs := [5]) po rfl (piw_range1 rfl g_range (paw_cons (pew_var (i := 1)) paw_nil)) (pgw_name (i := 5) nd)
  (pssw_one (psw_expr (pew_bm PySem.F.plainAttrs_list PySem.F.slot_list_append PySem.F.type_list_append mt_append ab_append (pew_var (i := 4)) (paw_cons (pew_tup (paw_cons (pew_op op_sub ab_sub (pew_f F__law_wide (hr.mono (by decide)) tk (paw_cons (pew_var (i := 0)) (paw_cons (pew_var (i := 2)) paw_nil))) (pew_var (i := 3))) (paw_cons (pew_op op_sub ab_sub (pew_f F__law_wide (hr.mono (by decide)) tk (paw_cons (pew_var (i := 0)) (paw_cons (pew_var (i := 2)) paw_nil))) (pew_var (i := 3))) paw_nil))) paw_nil)))))
  (pssw_cons (psw_if (ptw_cmp (op_eqD hr.units) ab_eq (nomark _) (pew_f F__law_take (hr.mono (by decide)) tk (paw_cons (pew_var (i := 0)) (paw_cons pew_int paw_nil))) pew_int)
  (pssw_one (psw_setLc (i := 4) (own := [("corner", 6)]) rfl nd (piw_list (pew_fz (pew_var (i := 4)))) (blkOk_by (own := [("corner", 6)]) (N := ["pot", "many", "span", "half", "line", "k", "corner", "at"]) (sc := defScope s__law_drawn_line) (by decide +kernel)) (fun _ _ _ _ _ => (pgw_name (i := 6) nd)) (fun _ _ _ _ _ => ptsw_nil) (fun _ _ _ _ _ => (pew_tup (paw_cons (pew_ix (pew_var (i := 6)) pew_int (fun _ _ => rfl)) (paw_cons pew_int paw_nil)))) (fun _ _ _ h => h) (sw_true rfl rfl rfl (by decide +kernel))))
  pssw_nil)
  (pssw_cons (psw_if (ptw_bool (pww_and (ptw_cmp op_gt ab_cmp (nomark _) (pew_var (i := 1)) pew_int) (pww_and1 (ptw_cmp (op_eqD hr.units) ab_eq (nomark _) (pew_f F__law_take (hr.mono (by decide)) tk (paw_cons (pew_var (i := 0)) (paw_cons pew_int paw_nil))) pew_int))))
  (pssw_cons (psw_set (i := 7) nd (pew_op op_addG ab_add pew_int (pew_f F__law_take (hr.mono (by decide)) tk (paw_cons (pew_var (i := 0)) (paw_cons (pew_op op_sub ab_sub (pew_var (i := 1)) pew_int) paw_nil)))))
  (pssw_one (psw_put (pew_ix (pew_var (i := 4)) (pew_op op_sub ab_sub (pew_var (i := 7)) pew_int) (fun _ _ => rfl)) (pew_var (i := 4)) (pew_var (i := 7)))))
  pssw_nil)
  (pssw_one (psw_ret (pew_fz (pew_var (i := 4))))))))))))

abbrev s__law_moved : Stmt := topS 43
theorem sc__law_moved : FnScope ["pot", "number"] ["pot", "number"] (defScope s__law_moved) := ⟨rfl, rfl, rfl, by decide +kernel, rfl, by decide +kernel, by decide +kernel⟩
theorem ok__law_moved {f : Addr} {fd : FuncData} (F : FunD K "_law_moved" "_law_moved" (defArgs s__law_moved) (defBody s__law_moved) (defScope s__law_moved) [] [] f fd)
    (F__law_take : FnAt P w K mg base "_law_take" 1 [] (sp__law_take c)) (g_min : mg "min" = none) (g_max : mg "max" = none) : FnOk P w K mg base (L2.CX P w) 2 f fd ["pot", "number"] (lift (sp__law_moved c)) := by
  refine fnW F sc__law_moved (len__law_moved c) (t := t__law_moved c) (fun cdv A outer s H E hr => ?_) (pu__law_moved c)
  have nd := sc__law_moved.nd
  have hu := hu_of hr
  have tk : Takes (cxOf (L2.CX P w) P w K mg base ["pot", "number"] "_law_moved" (defScope s__law_moved) f cdv A outer s H E) (fun cls d _ H => E cls d H) := takes_of rfl rfl rfl rfl
  have po : PassesOwn (model P w) (A.deeper (PyProof.Rows.envOfC "_law_moved" (defScope s__law_moved) s.heap.objs.size f cdv)) (PyProof.Rows.envOfC "_law_moved" (defScope s__law_moved) s.heap.objs.size f cdv) (cxOf (L2.CX P w) P w K mg base ["pot", "number"] "_law_moved" (defScope s__law_moved) f cdv A outer s H E).xe := passes_of rfl
  exact (pssw_one (psw_ret (pew_callB (call_max2 rfl) ab_max2 rfl g_max (by decide +kernel) (paw_cons (pew_op op_sub ab_sub pew_int (pew_op op_pow ab_pow pew_int pew_int)) (paw_cons (pew_callB (call_min2 rfl) ab_min2 rfl g_min (by decide +kernel) (paw_cons (pew_op op_sub ab_sub (pew_op op_pow ab_pow pew_int pew_int) pew_int) (paw_cons (pew_op op_sub ab_sub (pew_op op_addG ab_add (pew_var (i := 1)) (pew_f F__law_take (hr.mono (by decide)) tk (paw_cons (pew_var (i := 0)) (paw_cons pew_int paw_nil)))) pew_int) paw_nil))) paw_nil)))))

abbrev s__law_drawn_other : Stmt := topS 44
theorem sc__law_drawn_other : FnScope ["pot", "line", "way", "corner"] ["pot", "line"] (defScope s__law_drawn_other) := ⟨rfl, rfl, rfl, by decide +kernel, rfl, by decide +kernel, by decide +kernel⟩
theorem ok__law_drawn_other {f : Addr} {fd : FuncData} (F : FunD K "_law_drawn_other" "_law_drawn_other" (defArgs s__law_drawn_other) (defBody s__law_drawn_other) (defScope s__law_drawn_other) [] [] f fd)
    (F__law_take : FnAt P w K mg base "_law_take" 1 [] (sp__law_take c)) (F__law_moved : FnAt P w K mg base "_law_moved" 2 [] (sp__law_moved c)) (g_list : mg "list" = none) (g_reversed : mg "reversed" = none) (F__law_drawn_line : FnAt P w K mg base "_law_drawn_line" 3 [] (sp__law_drawn_line c)) : FnOk P w K mg base (L2.CX P w) 4 f fd ["pot", "line"] (lift (sp__law_drawn_other c)) := by
  refine fnW F sc__law_drawn_other (len__law_drawn_other c) (t := t__law_drawn_other c) (fun cdv A outer s H E hr => ?_) (pu__law_drawn_other c)
  have nd := sc__law_drawn_other.nd
  have hu := hu_of hr
  have tk : Takes (cxOf (L2.CX P w) P w K mg base ["pot", "line", "way", "corner"] "_law_drawn_other" (defScope s__law_drawn_other) f cdv A outer s H E) (fun cls d _ H => E cls d H) := takes_of rfl rfl rfl rfl
  have po : PassesOwn (model P w) (A.deeper (PyProof.Rows.envOfC "_law_drawn_other" (defScope s__law_drawn_other) s.heap.objs.size f cdv)) (PyProof.Rows.envOfC "_law_drawn_other" (defScope s__law_drawn_other) s.heap.objs.size f cdv) (cxOf (L2.CX P w) P w K mg base ["pot", "line", "way", "corner"] "_law_drawn_other" (defScope s__law_drawn_other) f cdv A outer s H E).xe := passes_of rfl
  exact (pssw_cons (psw_set (i := 2) nd (pew_f F__law_take (hr.mono (by decide)) tk (paw_cons (pew_var (i := 0)) (paw_cons pew_int paw_nil))))
  (pssw_cons (psw_if (ptw_cmp (op_eqD hr.units) ab_eq (nomark _) (pew_var (i := 2)) pew_int)
  (pssw_one (psw_ret (pew_fz (pew_lc (own := [("corner", 3)]) rfl nd (piw_list (pew_var (i := 1))) (blkOk_by (own := [("corner", 3)]) (N := ["pot", "line", "way", "corner"]) (sc := defScope s__law_drawn_other) (by decide +kernel)) (fun _ _ _ _ _ => (pgw_name (i := 3) nd)) (fun _ _ _ _ _ => ptsw_nil) (fun _ _ _ _ _ => (pew_tup (paw_cons (pew_f F__law_moved (hr.mono (by decide)) (takesF rfl) (paw_cons (pew_var (i := 0)) (paw_cons (pew_ix (pew_var (i := 3)) pew_int (fun _ _ => rfl)) paw_nil))) (paw_cons (pew_f F__law_moved (hr.mono (by decide)) (takesF rfl) (paw_cons (pew_var (i := 0)) (paw_cons (pew_ix (pew_var (i := 3)) pew_int (fun _ _ => rfl)) paw_nil))) paw_nil))))))))
  pssw_nil)
  (pssw_cons (psw_if (ptw_cmp (op_eqD hr.units) ab_eq (nomark _) (pew_var (i := 2)) pew_int)
  (pssw_one (psw_ret (pew_fz (pew_listRev rfl rfl g_list rfl g_reversed (pew_var (i := 1))))))
  pssw_nil)
  (pssw_one (psw_ret (pew_f F__law_drawn_line (hr.mono (by decide)) tk (paw_cons (pew_var (i := 0)) paw_nil)))))))

theorem len__law_lines (c : Cs) : ∀ ws M Q E, sp__law_lines c ws M Q E → ws.length = 1 := by
  intro ws M Q E h; unfold sp__law_lines at h; exact pS_len ws M Q E h
abbrev s__law_lines : Stmt := topS 45
theorem sc__law_lines : FnScope ["script", "one"] ["script"] (defScope s__law_lines) := ⟨rfl, rfl, rfl, by decide +kernel, rfl, by decide +kernel, by decide +kernel⟩
theorem ok__law_lines {f : Addr} {fd : FuncData} (F : FunD K "_law_lines" "_law_lines" (defArgs s__law_lines) (defBody s__law_lines) (defScope s__law_lines) [] [] f fd)
    (F__law_cell_at : FnAt P w K mg base "_law_cell_at" 1 [] (sp__law_cell_at c)) (F__law_begun : FnAt P w K mg base "_law_begun" 1 [] (sp__law_begun c)) (F__law_drawn_line : FnAt P w K mg base "_law_drawn_line" 3 [] (sp__law_drawn_line c)) (F__law_drawn_other : FnAt P w K mg base "_law_drawn_other" 4 [] (sp__law_drawn_other c)) : FnOk P w K mg base (L2.CX P w) 5 f fd ["script"] (lift (sp__law_lines c)) := by
  refine fnW F sc__law_lines (len__law_lines c) (t := t__law_lines c) (fun cdv A outer s H E hr => ?_) (pu__law_lines c)
  have nd := sc__law_lines.nd
  have hu := hu_of hr
  have tk : Takes (cxOf (L2.CX P w) P w K mg base ["script", "one"] "_law_lines" (defScope s__law_lines) f cdv A outer s H E) (fun cls d _ H => E cls d H) := takes_of rfl rfl rfl rfl
  have po : PassesOwn (model P w) (A.deeper (PyProof.Rows.envOfC "_law_lines" (defScope s__law_lines) s.heap.objs.size f cdv)) (PyProof.Rows.envOfC "_law_lines" (defScope s__law_lines) s.heap.objs.size f cdv) (cxOf (L2.CX P w) P w K mg base ["script", "one"] "_law_lines" (defScope s__law_lines) f cdv A outer s H E).xe := passes_of rfl
  exact (pssw_cons (psw_set (i := 1) nd (pew_f F__law_drawn_line (hr.mono (by decide)) tk (paw_cons (pew_f F__law_begun (hr.mono (by decide)) tk (paw_cons (pew_f F__law_cell_at (hr.mono (by decide)) tk (paw_cons (pew_var (i := 0)) (paw_cons pew_int paw_nil))) paw_nil)) paw_nil)))
  (pssw_one (psw_ret (pew_tup (paw_cons (pew_var (i := 1)) (paw_cons (pew_f F__law_drawn_other (hr.mono (by decide)) tk (paw_cons (pew_f F__law_begun (hr.mono (by decide)) tk (paw_cons (pew_f F__law_cell_at (hr.mono (by decide)) tk (paw_cons (pew_var (i := 0)) (paw_cons pew_int paw_nil))) paw_nil)) (paw_cons (pew_var (i := 1)) paw_nil))) paw_nil))))))

theorem len__law_below (c : Cs) : ∀ ws M Q E, sp__law_below c ws M Q E → ws.length = 2 := by
  intro ws M Q E h; unfold sp__law_below at h; exact pS_len ws M Q E h
abbrev s__law_below : Stmt := topS 48
theorem sc__law_below : FnScope ["one", "other"] ["one", "other"] (defScope s__law_below) := ⟨rfl, rfl, rfl, by decide +kernel, rfl, by decide +kernel, by decide +kernel⟩
theorem ok__law_below {f : Addr} {fd : FuncData} (F : FunD K "_law_below" "_law_below" (defArgs s__law_below) (defBody s__law_below) (defScope s__law_below) [] [] f fd)
     : FnOk P w K mg base (L2.CX P w) 1 f fd ["one", "other"] (lift (sp__law_below c)) := by
  refine fnW F sc__law_below (len__law_below c) (t := t__law_below c) (fun cdv A outer s H E hr => ?_) (pu__law_below c)
  have nd := sc__law_below.nd
  have hu := hu_of hr
  have tk : Takes (cxOf (L2.CX P w) P w K mg base ["one", "other"] "_law_below" (defScope s__law_below) f cdv A outer s H E) (fun cls d _ H => E cls d H) := takes_of rfl rfl rfl rfl
  have po : PassesOwn (model P w) (A.deeper (PyProof.Rows.envOfC "_law_below" (defScope s__law_below) s.heap.objs.size f cdv)) (PyProof.Rows.envOfC "_law_below" (defScope s__law_below) s.heap.objs.size f cdv) (cxOf (L2.CX P w) P w K mg base ["one", "other"] "_law_below" (defScope s__law_below) f cdv A outer s H E).xe := passes_of rfl
  exact (pssw_one (psw_ret (pew_cmp op_lt ab_cmp (nomark _) (pew_op op_mulO ab_mul (pew_ix (pew_var (i := 0)) pew_int (fun _ _ => rfl)) (pew_ix (pew_var (i := 1)) pew_int (fun _ _ => rfl))) (pew_op op_mulO ab_mul (pew_ix (pew_var (i := 1)) pew_int (fun _ _ => rfl)) (pew_ix (pew_var (i := 0)) pew_int (fun _ _ => rfl))))))

theorem len__law_whole (c : Cs) : ∀ ws M Q E, sp__law_whole c ws M Q E → ws.length = 1 := by
  intro ws M Q E h; unfold sp__law_whole at h; exact pS_len ws M Q E h
abbrev s__law_whole : Stmt := topS 49
theorem sc__law_whole : FnScope ["found"] ["found"] (defScope s__law_whole) := ⟨rfl, rfl, rfl, by decide +kernel, rfl, by decide +kernel, by decide +kernel⟩
theorem ok__law_whole {f : Addr} {fd : FuncData} (F : FunD K "_law_whole" "_law_whole" (defArgs s__law_whole) (defBody s__law_whole) (defScope s__law_whole) [] [] f fd)
    (g_isinstance : mg "isinstance" = none) (g_int : mg "int" = none) (g_bool : mg "bool" = none) : FnOk P w K mg base (L2.CX P w) 1 f fd ["found"] (lift (sp__law_whole c)) := by
  refine fnW F sc__law_whole (len__law_whole c) (t := t__law_whole c) (fun cdv A outer s H E hr => ?_) (pu__law_whole c)
  have nd := sc__law_whole.nd
  have hu := hu_of hr
  have tk : Takes (cxOf (L2.CX P w) P w K mg base ["found"] "_law_whole" (defScope s__law_whole) f cdv A outer s H E) (fun cls d _ H => E cls d H) := takes_of rfl rfl rfl rfl
  have po : PassesOwn (model P w) (A.deeper (PyProof.Rows.envOfC "_law_whole" (defScope s__law_whole) s.heap.objs.size f cdv)) (PyProof.Rows.envOfC "_law_whole" (defScope s__law_whole) s.heap.objs.size f cdv) (cxOf (L2.CX P w) P w K mg base ["found"] "_law_whole" (defScope s__law_whole) f cdv A outer s H E).xe := passes_of rfl
  exact (pssw_one (psw_ret (pew_and (pew_isi (T := "int") (by decide +kernel) (by decide) g_isinstance g_int (pew_var (i := 0))) (pew_one (pew_not (pew_isi (T := "bool") (by decide +kernel) (by decide) g_isinstance g_bool (pew_var (i := 0))))))))

theorem len__law_is_ratio (c : Cs) : ∀ ws M Q E, sp__law_is_ratio c ws M Q E → ws.length = 1 := by
  intro ws M Q E h; unfold sp__law_is_ratio at h; exact pS_len ws M Q E h
abbrev s__law_is_ratio : Stmt := topS 50
theorem sc__law_is_ratio : FnScope ["thing"] ["thing"] (defScope s__law_is_ratio) := ⟨rfl, rfl, rfl, by decide +kernel, rfl, by decide +kernel, by decide +kernel⟩
theorem ok__law_is_ratio {f : Addr} {fd : FuncData} (F : FunD K "_law_is_ratio" "_law_is_ratio" (defArgs s__law_is_ratio) (defBody s__law_is_ratio) (defScope s__law_is_ratio) [] [] f fd)
    (g_isinstance : mg "isinstance" = none) (g_tuple : mg "tuple" = none) (g_len : mg "len" = none) (F__law_whole : FnAt P w K mg base "_law_whole" 1 [] (sp__law_whole c)) (F__law_divisor : FnAt P w K mg base "_law_divisor" 1 [] (sp__law_divisor c)) : FnOk P w K mg base (L2.CX P w) 2 f fd ["thing"] (lift (sp__law_is_ratio c)) := by
  refine fnW F sc__law_is_ratio (len__law_is_ratio c) (t := t__law_is_ratio c) (fun cdv A outer s H E hr => ?_) (pu__law_is_ratio c)
  have nd := sc__law_is_ratio.nd
  have hu := hu_of hr
  have tk : Takes (cxOf (L2.CX P w) P w K mg base ["thing"] "_law_is_ratio" (defScope s__law_is_ratio) f cdv A outer s H E) (fun cls d _ H => E cls d H) := takes_of rfl rfl rfl rfl
  have po : PassesOwn (model P w) (A.deeper (PyProof.Rows.envOfC "_law_is_ratio" (defScope s__law_is_ratio) s.heap.objs.size f cdv)) (PyProof.Rows.envOfC "_law_is_ratio" (defScope s__law_is_ratio) s.heap.objs.size f cdv) (cxOf (L2.CX P w) P w K mg base ["thing"] "_law_is_ratio" (defScope s__law_is_ratio) f cdv A outer s H E).xe := passes_of rfl
  exact (pssw_cons (psw_if (ptw_bool (pww_or (ptw_not (ptw_val (pew_isi (T := "tuple") (by decide +kernel) (by decide) g_isinstance g_tuple (pew_var (i := 0))))) (pww_or (ptw_cmp (op_neD hr.units) ab_ne (nomark _) (pew_callB call_len ab_len rfl g_len (by decide +kernel) (paw_cons (pew_var (i := 0)) paw_nil)) pew_int) (pww_or (ptw_not (ptw_val (pew_f F__law_whole (hr.mono (by decide)) tk (paw_cons (pew_ix (pew_var (i := 0)) pew_int (fun _ _ => rfl)) paw_nil)))) (pww_or1 (ptw_not (ptw_val (pew_f F__law_whole (hr.mono (by decide)) tk (paw_cons (pew_ix (pew_var (i := 0)) pew_int (fun _ _ => rfl)) paw_nil)))))))))
  (pssw_one (psw_ret pew_bl))
  pssw_nil)
  (pssw_one (psw_ret (pew_and (pew_cmp op_gt ab_cmp (nomark _) (pew_ix (pew_var (i := 0)) pew_int (fun _ _ => rfl)) pew_int) (pew_one (pew_cmp (op_eqD hr.units) ab_eq (nomark _) (pew_f F__law_divisor (hr.mono (by decide)) tk (paw_cons (pew_ix (pew_var (i := 0)) pew_int (fun _ _ => rfl)) (paw_cons (pew_ix (pew_var (i := 0)) pew_int (fun _ _ => rfl)) paw_nil))) pew_int))))))

theorem len__law_is_place (c : Cs) : ∀ ws M Q E, sp__law_is_place c ws M Q E → ws.length = 2 := by
  intro ws M Q E h; unfold sp__law_is_place at h; exact pS_len ws M Q E h
abbrev s__law_is_place : Stmt := topS 51
theorem sc__law_is_place : FnScope ["line", "thing"] ["line", "thing"] (defScope s__law_is_place) := ⟨rfl, rfl, rfl, by decide +kernel, rfl, by decide +kernel, by decide +kernel⟩
theorem ok__law_is_place {f : Addr} {fd : FuncData} (F : FunD K "_law_is_place" "_law_is_place" (defArgs s__law_is_place) (defBody s__law_is_place) (defScope s__law_is_place) [] [] f fd)
    (F__law_is_ratio : FnAt P w K mg base "_law_is_ratio" 2 [] (sp__law_is_ratio c)) (g_len : mg "len" = none) : FnOk P w K mg base (L2.CX P w) 3 f fd ["line", "thing"] (lift (sp__law_is_place c)) := by
  refine fnW F sc__law_is_place (len__law_is_place c) (t := t__law_is_place c) (fun cdv A outer s H E hr => ?_) (pu__law_is_place c)
  have nd := sc__law_is_place.nd
  have hu := hu_of hr
  have tk : Takes (cxOf (L2.CX P w) P w K mg base ["line", "thing"] "_law_is_place" (defScope s__law_is_place) f cdv A outer s H E) (fun cls d _ H => E cls d H) := takes_of rfl rfl rfl rfl
  have po : PassesOwn (model P w) (A.deeper (PyProof.Rows.envOfC "_law_is_place" (defScope s__law_is_place) s.heap.objs.size f cdv)) (PyProof.Rows.envOfC "_law_is_place" (defScope s__law_is_place) s.heap.objs.size f cdv) (cxOf (L2.CX P w) P w K mg base ["line", "thing"] "_law_is_place" (defScope s__law_is_place) f cdv A outer s H E).xe := passes_of rfl
  exact (pssw_one (psw_ret (pew_and (pew_f F__law_is_ratio (hr.mono (by decide)) tk (paw_cons (pew_var (i := 1)) paw_nil)) (pew_one (pew_chain op_le ab_cmp op_le ab_cmp pew_int (pew_ix (pew_var (i := 1)) pew_int (fun _ _ => rfl)) (pew_op op_mulO ab_mul (pew_op op_sub ab_sub (pew_callB call_len ab_len rfl g_len (by decide +kernel) (paw_cons (pew_var (i := 0)) paw_nil)) pew_int) (pew_ix (pew_var (i := 1)) pew_int (fun _ _ => rfl))))))))

theorem len__law_are_pairs (c : Cs) : ∀ ws M Q E, sp__law_are_pairs c ws M Q E → ws.length = 3 := by
  intro ws M Q E h; unfold sp__law_are_pairs at h; exact pS_len ws M Q E h
abbrev s__law_are_pairs : Stmt := topS 53
theorem sc__law_are_pairs : FnScope ["one", "other", "thing", "pair"] ["one", "other", "thing"] (defScope s__law_are_pairs) := ⟨rfl, rfl, rfl, by decide +kernel, rfl, by decide +kernel, by decide +kernel⟩
theorem ok__law_are_pairs {f : Addr} {fd : FuncData} (F : FunD K "_law_are_pairs" "_law_are_pairs" (defArgs s__law_are_pairs) (defBody s__law_are_pairs) (defScope s__law_are_pairs) [] [] f fd)
    (g_isinstance : mg "isinstance" = none) (g_list : mg "list" = none) (g_tuple : mg "tuple" = none) (g_len : mg "len" = none) (F__law_is_place : FnAt P w K mg base "_law_is_place" 3 [] (sp__law_is_place c)) : FnOk P w K mg base (L2.CX P w) 4 f fd ["one", "other", "thing"] (lift (sp__law_are_pairs c)) := by
  refine fnW F sc__law_are_pairs (len__law_are_pairs c) (t := t__law_are_pairs c) (fun cdv A outer s H E hr => ?_) (pu__law_are_pairs c)
  have nd := sc__law_are_pairs.nd
  have hu := hu_of hr
  have tk : Takes (cxOf (L2.CX P w) P w K mg base ["one", "other", "thing", "pair"] "_law_are_pairs" (defScope s__law_are_pairs) f cdv A outer s H E) (fun cls d _ H => E cls d H) := takes_of rfl rfl rfl rfl
  have po : PassesOwn (model P w) (A.deeper (PyProof.Rows.envOfC "_law_are_pairs" (defScope s__law_are_pairs) s.heap.objs.size f cdv)) (PyProof.Rows.envOfC "_law_are_pairs" (defScope s__law_are_pairs) s.heap.objs.size f cdv) (cxOf (L2.CX P w) P w K mg base ["one", "other", "thing", "pair"] "_law_are_pairs" (defScope s__law_are_pairs) f cdv A outer s H E).xe := passes_of rfl
  exact (pssw_cons (psw_if (ptw_bool (pww_or (ptw_not (ptw_val (pew_isi (T := "list") (by decide +kernel) (by decide) g_isinstance g_list (pew_var (i := 2))))) (pww_or1 (ptw_cmp (op_eqD hr.units) ab_eq (nomark _) (pew_var (i := 2)) (pew_lst paw_nil)))))
  (pssw_one (psw_ret pew_bl))
  pssw_nil)
  (pssw_cons (psw_for (vs := [3]) po rfl (piw_list (pew_var (i := 2))) (pgw_name (i := 3) nd)
  (pssw_cons (psw_if (ptw_bool (pww_or (ptw_not (ptw_val (pew_isi (T := "tuple") (by decide +kernel) (by decide) g_isinstance g_tuple (pew_var (i := 3))))) (pww_or1 (ptw_cmp (op_neD hr.units) ab_ne (nomark _) (pew_callB call_len ab_len rfl g_len (by decide +kernel) (paw_cons (pew_var (i := 3)) paw_nil)) pew_int))))
  (pssw_one (psw_ret pew_bl))
  pssw_nil)
  (pssw_one (psw_if (ptw_bool (pww_or (ptw_not (ptw_val (pew_f F__law_is_place (hr.mono (by decide)) tk (paw_cons (pew_var (i := 0)) (paw_cons (pew_ix (pew_var (i := 3)) pew_int (fun _ _ => rfl)) paw_nil))))) (pww_or1 (ptw_not (ptw_val (pew_f F__law_is_place (hr.mono (by decide)) tk (paw_cons (pew_var (i := 1)) (paw_cons (pew_ix (pew_var (i := 3)) pew_int (fun _ _ => rfl)) paw_nil))))))))
  (pssw_one (psw_ret pew_bl))
  pssw_nil))))
  (pssw_one (psw_ret pew_bl))))

theorem len__law_back (c : Cs) : ∀ ws M Q E, sp__law_back c ws M Q E → ws.length = 2 := by
  intro ws M Q E h; unfold sp__law_back at h; exact pS_len ws M Q E h
abbrev s__law_back : Stmt := topS 56
theorem sc__law_back : FnScope ["pair", "later"] ["pair", "later"] (defScope s__law_back) := ⟨rfl, rfl, rfl, by decide +kernel, rfl, by decide +kernel, by decide +kernel⟩
theorem ok__law_back {f : Addr} {fd : FuncData} (F : FunD K "_law_back" "_law_back" (defArgs s__law_back) (defBody s__law_back) (defScope s__law_back) [] [] f fd)
    (F__law_below : FnAt P w K mg base "_law_below" 1 [] (sp__law_below c)) : FnOk P w K mg base (L2.CX P w) 2 f fd ["pair", "later"] (lift (sp__law_back c)) := by
  refine fnW F sc__law_back (len__law_back c) (t := t__law_back c) (fun cdv A outer s H E hr => ?_) (pu__law_back c)
  have nd := sc__law_back.nd
  have hu := hu_of hr
  have tk : Takes (cxOf (L2.CX P w) P w K mg base ["pair", "later"] "_law_back" (defScope s__law_back) f cdv A outer s H E) (fun cls d _ H => E cls d H) := takes_of rfl rfl rfl rfl
  have po : PassesOwn (model P w) (A.deeper (PyProof.Rows.envOfC "_law_back" (defScope s__law_back) s.heap.objs.size f cdv)) (PyProof.Rows.envOfC "_law_back" (defScope s__law_back) s.heap.objs.size f cdv) (cxOf (L2.CX P w) P w K mg base ["pair", "later"] "_law_back" (defScope s__law_back) f cdv A outer s H E).xe := passes_of rfl
  exact (pssw_one (psw_ret (pew_and (pew_not (pew_f F__law_below (hr.mono (by decide)) tk (paw_cons (pew_ix (pew_var (i := 0)) pew_int (fun _ _ => rfl)) (paw_cons (pew_ix (pew_var (i := 1)) pew_int (fun _ _ => rfl)) paw_nil)))) (pew_one (pew_not (pew_f F__law_below (hr.mono (by decide)) tk (paw_cons (pew_ix (pew_var (i := 1)) pew_int (fun _ _ => rfl)) (paw_cons (pew_ix (pew_var (i := 0)) pew_int (fun _ _ => rfl)) paw_nil))))))))

theorem len__law_near (c : Cs) : ∀ ws M Q E, sp__law_near c ws M Q E → ws.length = 2 := by
  intro ws M Q E h; unfold sp__law_near at h; exact pS_len ws M Q E h
abbrev s__law_near : Stmt := topS 52
theorem sc__law_near : FnScope ["here", "there", "low", "high"] ["here", "there"] (defScope s__law_near) := ⟨rfl, rfl, rfl, by decide +kernel, rfl, by decide +kernel, by decide +kernel⟩
theorem ok__law_near {f : Addr} {fd : FuncData} (F : FunD K "_law_near" "_law_near" (defArgs s__law_near) (defBody s__law_near) (defScope s__law_near) [] [] f fd)
    (F__law_below : FnAt P w K mg base "_law_below" 1 [] (sp__law_below c)) : FnOk P w K mg base (L2.CX P w) 2 f fd ["here", "there"] (lift (sp__law_near c)) := by
  refine fnW F sc__law_near (len__law_near c) (t := t__law_near c) (fun cdv A outer s H E hr => ?_) (pu__law_near c)
  have nd := sc__law_near.nd
  have hu := hu_of hr
  have tk : Takes (cxOf (L2.CX P w) P w K mg base ["here", "there", "low", "high"] "_law_near" (defScope s__law_near) f cdv A outer s H E) (fun cls d _ H => E cls d H) := takes_of rfl rfl rfl rfl
  have po : PassesOwn (model P w) (A.deeper (PyProof.Rows.envOfC "_law_near" (defScope s__law_near) s.heap.objs.size f cdv)) (PyProof.Rows.envOfC "_law_near" (defScope s__law_near) s.heap.objs.size f cdv) (cxOf (L2.CX P w) P w K mg base ["here", "there", "low", "high"] "_law_near" (defScope s__law_near) f cdv A outer s H E).xe := passes_of rfl
  exact (pssw_cons (psw_set (i := 2) nd (pew_var (i := 0)))
  (pssw_cons (psw_set (i := 3) nd (pew_var (i := 1)))
  (pssw_cons (psw_if (ptw_val (pew_f F__law_below (hr.mono (by decide)) tk (paw_cons (pew_var (i := 1)) (paw_cons (pew_var (i := 0)) paw_nil))))
  (pssw_cons (psw_set (i := 2) nd (pew_var (i := 1)))
  (pssw_one (psw_set (i := 3) nd (pew_var (i := 0)))))
  pssw_nil)
  (pssw_one (psw_ret (pew_cmp op_le ab_cmp (nomark _) (pew_ix (pew_var (i := 3)) pew_int (fun _ _ => rfl)) (pew_op op_mulO ab_mul (pew_op op_addG ab_add (pew_op op_fdivG ab_div (pew_ix (pew_var (i := 2)) pew_int (fun _ _ => rfl)) (pew_ix (pew_var (i := 2)) pew_int (fun _ _ => rfl))) pew_int) (pew_ix (pew_var (i := 3)) pew_int (fun _ _ => rfl)))))))))

theorem len__law_steps (c : Cs) : ∀ ws M Q E, sp__law_steps c ws M Q E → ws.length = 3 := by
  intro ws M Q E h; unfold sp__law_steps at h; exact pS_len ws M Q E h
abbrev s__law_steps : Stmt := topS 57
theorem sc__law_steps : FnScope ["pair", "later", "way", "x", "y", "a", "b"] ["pair", "later", "way"] (defScope s__law_steps) := ⟨rfl, rfl, rfl, by decide +kernel, rfl, by decide +kernel, by decide +kernel⟩
theorem ok__law_steps {f : Addr} {fd : FuncData} (F : FunD K "_law_steps" "_law_steps" (defArgs s__law_steps) (defBody s__law_steps) (defScope s__law_steps) [] [] f fd)
    (F__law_back : FnAt P w K mg base "_law_back" 2 [] (sp__law_back c)) (F__law_near : FnAt P w K mg base "_law_near" 2 [] (sp__law_near c)) (F__law_below : FnAt P w K mg base "_law_below" 1 [] (sp__law_below c)) : FnOk P w K mg base (L2.CX P w) 3 f fd ["pair", "later", "way"] (lift (sp__law_steps c)) := by
  refine fnW F sc__law_steps (len__law_steps c) (t := t__law_steps c) (fun cdv A outer s H E hr => ?_) (pu__law_steps c)
  have nd := sc__law_steps.nd
  have hu := hu_of hr
  have tk : Takes (cxOf (L2.CX P w) P w K mg base ["pair", "later", "way", "x", "y", "a", "b"] "_law_steps" (defScope s__law_steps) f cdv A outer s H E) (fun cls d _ H => E cls d H) := takes_of rfl rfl rfl rfl
  have po : PassesOwn (model P w) (A.deeper (PyProof.Rows.envOfC "_law_steps" (defScope s__law_steps) s.heap.objs.size f cdv)) (PyProof.Rows.envOfC "_law_steps" (defScope s__law_steps) s.heap.objs.size f cdv) (cxOf (L2.CX P w) P w K mg base ["pair", "later", "way", "x", "y", "a", "b"] "_law_steps" (defScope s__law_steps) f cdv A outer s H E).xe := passes_of rfl
  exact (pssw_cons (psw_asg (vs := [3, 4]) (pew_var (i := 0)) (pgw_tup rfl (pgsw_cons (pgw_name (i := 3) nd) (pgsw_cons (pgw_name (i := 4) nd) pgsw_nil))))
  (pssw_cons (psw_asg (vs := [5, 6]) (pew_var (i := 1)) (pgw_tup rfl (pgsw_cons (pgw_name (i := 5) nd) (pgsw_cons (pgw_name (i := 6) nd) pgsw_nil))))
  (pssw_cons (psw_if (ptw_cmp (op_eqD hr.units) ab_eq (nomark _) (pew_var (i := 2)) pew_str)
  (pssw_cons (psw_if (ptw_bool (pww_or (ptw_cmp op_gt ab_cmp (nomark _) (pew_ix (pew_var (i := 3)) pew_int (fun _ _ => rfl)) pew_int) (pww_or (ptw_cmp op_gt ab_cmp (nomark _) (pew_ix (pew_var (i := 4)) pew_int (fun _ _ => rfl)) pew_int) (pww_or (ptw_cmp op_gt ab_cmp (nomark _) (pew_ix (pew_var (i := 5)) pew_int (fun _ _ => rfl)) pew_int) (pww_or1 (ptw_cmp op_gt ab_cmp (nomark _) (pew_ix (pew_var (i := 6)) pew_int (fun _ _ => rfl)) pew_int))))))
  (pssw_one (psw_ret pew_bl))
  pssw_nil)
  (pssw_one (psw_ret (pew_or (pew_and (pew_cmp op_le ab_cmp (nomark _) (pew_ix (pew_var (i := 5)) pew_int (fun _ _ => rfl)) (pew_ix (pew_var (i := 3)) pew_int (fun _ _ => rfl))) (pew_one (pew_cmp op_ge ab_cmp (nomark _) (pew_ix (pew_var (i := 6)) pew_int (fun _ _ => rfl)) (pew_op op_sub ab_sub (pew_ix (pew_var (i := 4)) pew_int (fun _ _ => rfl)) pew_int)))) (pew_one (pew_and (pew_cmp op_le ab_cmp (nomark _) (pew_ix (pew_var (i := 5)) pew_int (fun _ _ => rfl)) (pew_op op_addG ab_add (pew_ix (pew_var (i := 3)) pew_int (fun _ _ => rfl)) pew_int)) (pew_one (pew_cmp op_ge ab_cmp (nomark _) (pew_ix (pew_var (i := 6)) pew_int (fun _ _ => rfl)) (pew_ix (pew_var (i := 4)) pew_int (fun _ _ => rfl))))))))))
  pssw_nil)
  (pssw_cons (psw_if (ptw_bool (pww_and (ptw_cmp (op_neD hr.units) ab_ne (nomark _) (pew_var (i := 2)) pew_str) (pww_and1 (ptw_val (pew_f F__law_back (hr.mono (by decide)) tk (paw_cons (pew_var (i := 0)) (paw_cons (pew_var (i := 1)) paw_nil)))))))
  (pssw_one (psw_ret pew_bl))
  pssw_nil)
  (pssw_cons (psw_if (ptw_bool (pww_and (ptw_cmp (op_eqD hr.units) ab_eq (nomark _) (pew_var (i := 3)) (pew_var (i := 5))) (pww_and (ptw_cmp (op_eqD hr.units) ab_eq (nomark _) (pew_ix (pew_var (i := 3)) pew_int (fun _ _ => rfl)) pew_int) (pww_and (ptw_val (pew_f F__law_near (hr.mono (by decide)) tk (paw_cons (pew_var (i := 4)) (paw_cons (pew_var (i := 6)) paw_nil)))) (pww_and1 (ptw_bool (pww_or (ptw_cmp (op_eqD hr.units) ab_eq (nomark _) (pew_var (i := 2)) pew_str) (pww_or1 (ptw_val (pew_f F__law_below (hr.mono (by decide)) tk (paw_cons (pew_var (i := 6)) (paw_cons (pew_var (i := 4)) paw_nil))))))))))))
  (pssw_one (psw_ret pew_bl))
  pssw_nil)
  (pssw_one (psw_ret (pew_and (pew_cmp (op_eqD hr.units) ab_eq (nomark _) (pew_var (i := 4)) (pew_var (i := 6))) (pew_and (pew_cmp (op_eqD hr.units) ab_eq (nomark _) (pew_ix (pew_var (i := 4)) pew_int (fun _ _ => rfl)) pew_int) (pew_and (pew_f F__law_near (hr.mono (by decide)) tk (paw_cons (pew_var (i := 3)) (paw_cons (pew_var (i := 5)) paw_nil))) (pew_one (pew_or (pew_cmp (op_eqD hr.units) ab_eq (nomark _) (pew_var (i := 2)) pew_str) (pew_one (pew_f F__law_below (hr.mono (by decide)) tk (paw_cons (pew_var (i := 3)) (paw_cons (pew_var (i := 5)) paw_nil))))))))))))))))

theorem len__law_is_fence (c : Cs) : ∀ ws M Q E, sp__law_is_fence c ws M Q E → ws.length = 4 := by
  intro ws M Q E h; unfold sp__law_is_fence at h; exact pS_len ws M Q E h
abbrev s__law_is_fence : Stmt := topS 58
theorem sc__law_is_fence : FnScope ["one", "other", "thing", "way", "first", "last", "pair", "later"] ["one", "other", "thing", "way"] (defScope s__law_is_fence) := ⟨rfl, rfl, rfl, by decide +kernel, rfl, by decide +kernel, by decide +kernel⟩
theorem ok__law_is_fence {f : Addr} {fd : FuncData} (F : FunD K "_law_is_fence" "_law_is_fence" (defArgs s__law_is_fence) (defBody s__law_is_fence) (defScope s__law_is_fence) [] [] f fd)
    (F__law_are_pairs : FnAt P w K mg base "_law_are_pairs" 4 [] (sp__law_are_pairs c)) (g_len : mg "len" = none) (g_zip : mg "zip" = none) (F__law_steps : FnAt P w K mg base "_law_steps" 3 [] (sp__law_steps c)) : FnOk P w K mg base (L2.CX P w) 5 f fd ["one", "other", "thing", "way"] (lift (sp__law_is_fence c)) := by
  refine fnW F sc__law_is_fence (len__law_is_fence c) (t := t__law_is_fence c) (fun cdv A outer s H E hr => ?_) (pu__law_is_fence c)
  have nd := sc__law_is_fence.nd
  have hu := hu_of hr
  have tk : Takes (cxOf (L2.CX P w) P w K mg base ["one", "other", "thing", "way", "first", "last", "pair", "later"] "_law_is_fence" (defScope s__law_is_fence) f cdv A outer s H E) (fun cls d _ H => E cls d H) := takes_of rfl rfl rfl rfl
  have po : PassesOwn (model P w) (A.deeper (PyProof.Rows.envOfC "_law_is_fence" (defScope s__law_is_fence) s.heap.objs.size f cdv)) (PyProof.Rows.envOfC "_law_is_fence" (defScope s__law_is_fence) s.heap.objs.size f cdv) (cxOf (L2.CX P w) P w K mg base ["one", "other", "thing", "way", "first", "last", "pair", "later"] "_law_is_fence" (defScope s__law_is_fence) f cdv A outer s H E).xe := passes_of rfl
  exact (pssw_cons (psw_if (ptw_not (ptw_val (pew_f F__law_are_pairs (hr.mono (by decide)) tk (paw_cons (pew_var (i := 0)) (paw_cons (pew_var (i := 1)) (paw_cons (pew_var (i := 2)) paw_nil))))))
  (pssw_one (psw_ret pew_bl))
  pssw_nil)
  (pssw_cons (psw_set (i := 4) nd (pew_ix (pew_var (i := 2)) pew_int (fun _ _ => rfl)))
  (pssw_cons (psw_set (i := 5) nd (pew_ix (pew_var (i := 2)) (pew_un un_neg ab_neg pew_int) (fun _ _ => rfl)))
  (pssw_cons (psw_if (ptw_bool (pww_and (ptw_cmp (op_neD hr.units) ab_ne (nomark _) (pew_ix (pew_var (i := 4)) pew_int (fun _ _ => rfl)) (pew_tup (paw_cons (pew_op op_sub ab_sub (pew_callB call_len ab_len rfl g_len (by decide +kernel) (paw_cons (pew_var (i := 1)) paw_nil)) pew_int) (paw_cons pew_int paw_nil)))) (pww_and1 (ptw_bool (pww_or (ptw_cmp (op_eqD hr.units) ab_eq (nomark _) (pew_var (i := 3)) pew_str) (pww_or1 (ptw_cmp (op_neD hr.units) ab_ne (nomark _) (pew_ix (pew_var (i := 4)) pew_int (fun _ _ => rfl)) (pew_tup (paw_cons pew_int (paw_cons pew_int paw_nil))))))))))
  (pssw_one (psw_ret pew_bl))
  pssw_nil)
  (pssw_cons (psw_if (ptw_bool (pww_and (ptw_cmp (op_neD hr.units) ab_ne (nomark _) (pew_ix (pew_var (i := 5)) pew_int (fun _ _ => rfl)) (pew_tup (paw_cons pew_int (paw_cons pew_int paw_nil)))) (pww_and1 (ptw_bool (pww_or (ptw_cmp (op_eqD hr.units) ab_eq (nomark _) (pew_var (i := 3)) pew_str) (pww_or1 (ptw_cmp (op_neD hr.units) ab_ne (nomark _) (pew_ix (pew_var (i := 5)) pew_int (fun _ _ => rfl)) (pew_tup (paw_cons (pew_op op_sub ab_sub (pew_callB call_len ab_len rfl g_len (by decide +kernel) (paw_cons (pew_var (i := 0)) paw_nil)) pew_int) (paw_cons pew_int paw_nil))))))))))
  (pssw_one (psw_ret pew_bl))
  pssw_nil)
  (pssw_cons (psw_if (ptw_bool (pww_and (ptw_cmp (op_eqD hr.units) ab_eq (nomark _) (pew_var (i := 3)) pew_str) (pww_and1 (ptw_bool (pww_or (ptw_cmp op_gt ab_cmp (nomark _) (pew_ix (pew_ix (pew_var (i := 4)) pew_int (fun _ _ => rfl)) pew_int (fun _ _ => rfl)) pew_int) (pww_or1 (ptw_cmp op_gt ab_cmp (nomark _) (pew_ix (pew_ix (pew_var (i := 4)) pew_int (fun _ _ => rfl)) pew_int (fun _ _ => rfl)) pew_int)))))))
  (pssw_one (psw_ret pew_bl))
  pssw_nil)
  (pssw_cons (psw_for (vs := [6, 7]) po rfl (piw_zip rfl g_zip (paw_cons (pew_var (i := 2)) (paw_cons (pew_fz (pew_slice sl_list ab_sl (pew_var (i := 2)) (pow_some pew_int) pow_none)) paw_nil))) (pgw_tup rfl (pgsw_cons (pgw_name (i := 6) nd) (pgsw_cons (pgw_name (i := 7) nd) pgsw_nil)))
  (pssw_one (psw_if (ptw_not (ptw_val (pew_f F__law_steps (hr.mono (by decide)) tk (paw_cons (pew_var (i := 6)) (paw_cons (pew_var (i := 7)) (paw_cons (pew_var (i := 3)) paw_nil))))))
  (pssw_one (psw_ret pew_bl))
  pssw_nil)))
  (pssw_one (psw_ret pew_bl)))))))))

theorem len__law_goes (c : Cs) : ∀ ws M Q E, sp__law_goes c ws M Q E → ws.length = 3 := by
  intro ws M Q E h; unfold sp__law_goes at h; exact pS_len ws M Q E h
abbrev s__law_goes : Stmt := topS 54
theorem sc__law_goes : FnScope ["here", "there", "way"] ["here", "there", "way"] (defScope s__law_goes) := ⟨rfl, rfl, rfl, by decide +kernel, rfl, by decide +kernel, by decide +kernel⟩
theorem ok__law_goes {f : Addr} {fd : FuncData} (F : FunD K "_law_goes" "_law_goes" (defArgs s__law_goes) (defBody s__law_goes) (defScope s__law_goes) [] [] f fd)
    (F__law_below : FnAt P w K mg base "_law_below" 1 [] (sp__law_below c)) (F__law_near : FnAt P w K mg base "_law_near" 2 [] (sp__law_near c)) : FnOk P w K mg base (L2.CX P w) 3 f fd ["here", "there", "way"] (lift (sp__law_goes c)) := by
  refine fnW F sc__law_goes (len__law_goes c) (t := t__law_goes c) (fun cdv A outer s H E hr => ?_) (pu__law_goes c)
  have nd := sc__law_goes.nd
  have hu := hu_of hr
  have tk : Takes (cxOf (L2.CX P w) P w K mg base ["here", "there", "way"] "_law_goes" (defScope s__law_goes) f cdv A outer s H E) (fun cls d _ H => E cls d H) := takes_of rfl rfl rfl rfl
  have po : PassesOwn (model P w) (A.deeper (PyProof.Rows.envOfC "_law_goes" (defScope s__law_goes) s.heap.objs.size f cdv)) (PyProof.Rows.envOfC "_law_goes" (defScope s__law_goes) s.heap.objs.size f cdv) (cxOf (L2.CX P w) P w K mg base ["here", "there", "way"] "_law_goes" (defScope s__law_goes) f cdv A outer s H E).xe := passes_of rfl
  exact (pssw_cons (psw_if (ptw_cmp (op_eqD hr.units) ab_eq (nomark _) (pew_var (i := 2)) pew_str)
  (pssw_one (psw_ret (pew_and (pew_cmp (op_eqD hr.units) ab_eq (nomark _) (pew_ix (pew_var (i := 0)) pew_int (fun _ _ => rfl)) pew_int) (pew_and (pew_cmp (op_eqD hr.units) ab_eq (nomark _) (pew_ix (pew_var (i := 1)) pew_int (fun _ _ => rfl)) pew_int) (pew_one (pew_cmp op_in_seq ab_in rfl (pew_op op_sub ab_sub (pew_ix (pew_var (i := 1)) pew_int (fun _ _ => rfl)) (pew_ix (pew_var (i := 0)) pew_int (fun _ _ => rfl))) (pew_tup (paw_cons pew_int (paw_cons pew_int paw_nil)))))))))
  pssw_nil)
  (pssw_cons (psw_if (ptw_bool (pww_and (ptw_cmp (op_neD hr.units) ab_ne (nomark _) (pew_var (i := 2)) pew_str) (pww_and1 (ptw_val (pew_f F__law_below (hr.mono (by decide)) tk (paw_cons (pew_var (i := 1)) (paw_cons (pew_var (i := 0)) paw_nil)))))))
  (pssw_one (psw_ret pew_bl))
  pssw_nil)
  (pssw_one (psw_ret (pew_f F__law_near (hr.mono (by decide)) tk (paw_cons (pew_var (i := 0)) (paw_cons (pew_var (i := 1)) paw_nil)))))))

theorem len__law_is_walk (c : Cs) : ∀ ws M Q E, sp__law_is_walk c ws M Q E → ws.length = 4 := by
  intro ws M Q E h; unfold sp__law_is_walk at h; exact pS_len ws M Q E h
abbrev s__law_is_walk : Stmt := topS 55
theorem sc__law_is_walk : FnScope ["one", "other", "thing", "way", "first", "last", "pair", "later"] ["one", "other", "thing", "way"] (defScope s__law_is_walk) := ⟨rfl, rfl, rfl, by decide +kernel, rfl, by decide +kernel, by decide +kernel⟩
theorem ok__law_is_walk {f : Addr} {fd : FuncData} (F : FunD K "_law_is_walk" "_law_is_walk" (defArgs s__law_is_walk) (defBody s__law_is_walk) (defScope s__law_is_walk) [] [] f fd)
    (F__law_are_pairs : FnAt P w K mg base "_law_are_pairs" 4 [] (sp__law_are_pairs c)) (g_len : mg "len" = none) (g_zip : mg "zip" = none) (F__law_goes : FnAt P w K mg base "_law_goes" 3 [] (sp__law_goes c)) : FnOk P w K mg base (L2.CX P w) 5 f fd ["one", "other", "thing", "way"] (lift (sp__law_is_walk c)) := by
  refine fnW F sc__law_is_walk (len__law_is_walk c) (t := t__law_is_walk c) (fun cdv A outer s H E hr => ?_) (pu__law_is_walk c)
  have nd := sc__law_is_walk.nd
  have hu := hu_of hr
  have tk : Takes (cxOf (L2.CX P w) P w K mg base ["one", "other", "thing", "way", "first", "last", "pair", "later"] "_law_is_walk" (defScope s__law_is_walk) f cdv A outer s H E) (fun cls d _ H => E cls d H) := takes_of rfl rfl rfl rfl
  have po : PassesOwn (model P w) (A.deeper (PyProof.Rows.envOfC "_law_is_walk" (defScope s__law_is_walk) s.heap.objs.size f cdv)) (PyProof.Rows.envOfC "_law_is_walk" (defScope s__law_is_walk) s.heap.objs.size f cdv) (cxOf (L2.CX P w) P w K mg base ["one", "other", "thing", "way", "first", "last", "pair", "later"] "_law_is_walk" (defScope s__law_is_walk) f cdv A outer s H E).xe := passes_of rfl
  exact (pssw_cons (psw_if (ptw_not (ptw_val (pew_f F__law_are_pairs (hr.mono (by decide)) tk (paw_cons (pew_var (i := 0)) (paw_cons (pew_var (i := 1)) (paw_cons (pew_var (i := 2)) paw_nil))))))
  (pssw_one (psw_ret pew_bl))
  pssw_nil)
  (pssw_cons (psw_set (i := 4) nd (pew_ix (pew_var (i := 2)) pew_int (fun _ _ => rfl)))
  (pssw_cons (psw_set (i := 5) nd (pew_ix (pew_var (i := 2)) (pew_un un_neg ab_neg pew_int) (fun _ _ => rfl)))
  (pssw_cons (psw_if (ptw_bool (pww_or (ptw_cmp (op_neD hr.units) ab_ne (nomark _) (pew_ix (pew_var (i := 4)) pew_int (fun _ _ => rfl)) (pew_tup (paw_cons pew_int (paw_cons pew_int paw_nil)))) (pww_or1 (ptw_cmp (op_neD hr.units) ab_ne (nomark _) (pew_ix (pew_var (i := 5)) pew_int (fun _ _ => rfl)) (pew_tup (paw_cons (pew_op op_sub ab_sub (pew_callB call_len ab_len rfl g_len (by decide +kernel) (paw_cons (pew_var (i := 0)) paw_nil)) pew_int) (paw_cons pew_int paw_nil)))))))
  (pssw_one (psw_ret pew_bl))
  pssw_nil)
  (pssw_cons (psw_if (ptw_bool (pww_and (ptw_cmp (op_neD hr.units) ab_ne (nomark _) (pew_var (i := 3)) pew_str) (pww_and1 (ptw_bool (pww_or (ptw_cmp (op_neD hr.units) ab_ne (nomark _) (pew_ix (pew_var (i := 4)) pew_int (fun _ _ => rfl)) (pew_tup (paw_cons pew_int (paw_cons pew_int paw_nil)))) (pww_or1 (ptw_cmp (op_neD hr.units) ab_ne (nomark _) (pew_ix (pew_var (i := 5)) pew_int (fun _ _ => rfl)) (pew_tup (paw_cons (pew_op op_sub ab_sub (pew_callB call_len ab_len rfl g_len (by decide +kernel) (paw_cons (pew_var (i := 1)) paw_nil)) pew_int) (paw_cons pew_int paw_nil))))))))))
  (pssw_one (psw_ret pew_bl))
  pssw_nil)
  (pssw_cons (psw_for (vs := [6, 7]) po rfl (piw_zip rfl g_zip (paw_cons (pew_var (i := 2)) (paw_cons (pew_fz (pew_slice sl_list ab_sl (pew_var (i := 2)) (pow_some pew_int) pow_none)) paw_nil))) (pgw_tup rfl (pgsw_cons (pgw_name (i := 6) nd) (pgsw_cons (pgw_name (i := 7) nd) pgsw_nil)))
  (pssw_one (psw_if (ptw_bool (pww_or (ptw_not (ptw_val (pew_f F__law_goes (hr.mono (by decide)) tk (paw_cons (pew_ix (pew_var (i := 6)) pew_int (fun _ _ => rfl)) (paw_cons (pew_ix (pew_var (i := 7)) pew_int (fun _ _ => rfl)) (paw_cons (pew_var (i := 3)) paw_nil)))))) (pww_or1 (ptw_not (ptw_val (pew_f F__law_goes (hr.mono (by decide)) tk (paw_cons (pew_ix (pew_var (i := 6)) pew_int (fun _ _ => rfl)) (paw_cons (pew_ix (pew_var (i := 7)) pew_int (fun _ _ => rfl)) (paw_cons (pew_var (i := 3)) paw_nil)))))))))
  (pssw_one (psw_ret pew_bl))
  pssw_nil)))
  (pssw_one (psw_ret pew_bl))))))))

theorem len__law_point_at (c : Cs) : ∀ ws M Q E, sp__law_point_at c ws M Q E → ws.length = 2 := by
  intro ws M Q E h; unfold sp__law_point_at at h; exact pS_len ws M Q E h
abbrev s__law_point_at : Stmt := topS 59
theorem sc__law_point_at : FnScope ["line", "place", "at", "rest", "x", "y"] ["line", "place"] (defScope s__law_point_at) := ⟨rfl, rfl, rfl, by decide +kernel, rfl, by decide +kernel, by decide +kernel⟩
theorem ok__law_point_at {f : Addr} {fd : FuncData} (F : FunD K "_law_point_at" "_law_point_at" (defArgs s__law_point_at) (defBody s__law_point_at) (defScope s__law_point_at) [] [] f fd)
     : FnOk P w K mg base (L2.CX P w) 1 f fd ["line", "place"] (lift (sp__law_point_at c)) := by
  refine fnW F sc__law_point_at (len__law_point_at c) (t := t__law_point_at c) (fun cdv A outer s H E hr => ?_) (pu__law_point_at c)
  have nd := sc__law_point_at.nd
  have hu := hu_of hr
  have tk : Takes (cxOf (L2.CX P w) P w K mg base ["line", "place", "at", "rest", "x", "y"] "_law_point_at" (defScope s__law_point_at) f cdv A outer s H E) (fun cls d _ H => E cls d H) := takes_of rfl rfl rfl rfl
  have po : PassesOwn (model P w) (A.deeper (PyProof.Rows.envOfC "_law_point_at" (defScope s__law_point_at) s.heap.objs.size f cdv)) (PyProof.Rows.envOfC "_law_point_at" (defScope s__law_point_at) s.heap.objs.size f cdv) (cxOf (L2.CX P w) P w K mg base ["line", "place", "at", "rest", "x", "y"] "_law_point_at" (defScope s__law_point_at) f cdv A outer s H E).xe := passes_of rfl
  exact (pssw_cons (psw_set (i := 2) nd (pew_op op_fdivG ab_div (pew_ix (pew_var (i := 1)) pew_int (fun _ _ => rfl)) (pew_ix (pew_var (i := 1)) pew_int (fun _ _ => rfl))))
  (pssw_cons (psw_set (i := 3) nd (pew_op op_mod ab_mod (pew_ix (pew_var (i := 1)) pew_int (fun _ _ => rfl)) (pew_ix (pew_var (i := 1)) pew_int (fun _ _ => rfl))))
  (pssw_cons (psw_if (ptw_cmp (op_eqD hr.units) ab_eq (nomark _) (pew_var (i := 3)) pew_int)
  (pssw_one (psw_ret (pew_tup (paw_cons (pew_ix (pew_ix (pew_var (i := 0)) (pew_var (i := 2)) (fun _ _ => rfl)) pew_int (fun _ _ => rfl)) (paw_cons (pew_ix (pew_ix (pew_var (i := 0)) (pew_var (i := 2)) (fun _ _ => rfl)) pew_int (fun _ _ => rfl)) (paw_cons pew_int paw_nil))))))
  pssw_nil)
  (pssw_cons (psw_set (i := 4) nd (pew_op op_addG ab_add (pew_op op_mulO ab_mul (pew_ix (pew_ix (pew_var (i := 0)) (pew_var (i := 2)) (fun _ _ => rfl)) pew_int (fun _ _ => rfl)) (pew_op op_sub ab_sub (pew_ix (pew_var (i := 1)) pew_int (fun _ _ => rfl)) (pew_var (i := 3)))) (pew_op op_mulO ab_mul (pew_ix (pew_ix (pew_var (i := 0)) (pew_op op_addG ab_add (pew_var (i := 2)) pew_int) (fun _ _ => rfl)) pew_int (fun _ _ => rfl)) (pew_var (i := 3)))))
  (pssw_cons (psw_set (i := 5) nd (pew_op op_addG ab_add (pew_op op_mulO ab_mul (pew_ix (pew_ix (pew_var (i := 0)) (pew_var (i := 2)) (fun _ _ => rfl)) pew_int (fun _ _ => rfl)) (pew_op op_sub ab_sub (pew_ix (pew_var (i := 1)) pew_int (fun _ _ => rfl)) (pew_var (i := 3)))) (pew_op op_mulO ab_mul (pew_ix (pew_ix (pew_var (i := 0)) (pew_op op_addG ab_add (pew_var (i := 2)) pew_int) (fun _ _ => rfl)) pew_int (fun _ _ => rfl)) (pew_var (i := 3)))))
  (pssw_one (psw_ret (pew_tup (paw_cons (pew_var (i := 4)) (paw_cons (pew_var (i := 5)) (paw_cons (pew_ix (pew_var (i := 1)) pew_int (fun _ _ => rfl)) paw_nil)))))))))))

theorem len__law_square_of (c : Cs) : ∀ ws M Q E, sp__law_square_of c ws M Q E → ws.length = 4 := by
  intro ws M Q E h; unfold sp__law_square_of at h; exact pS_len ws M Q E h
abbrev s__law_square_of : Stmt := topS 60
theorem sc__law_square_of : FnScope ["one", "x", "other", "y", "a", "b", "c", "d", "e", "f"] ["one", "x", "other", "y"] (defScope s__law_square_of) := ⟨rfl, rfl, rfl, by decide +kernel, rfl, by decide +kernel, by decide +kernel⟩
theorem ok__law_square_of {f : Addr} {fd : FuncData} (F : FunD K "_law_square_of" "_law_square_of" (defArgs s__law_square_of) (defBody s__law_square_of) (defScope s__law_square_of) [] [] f fd)
    (F__law_point_at : FnAt P w K mg base "_law_point_at" 1 [] (sp__law_point_at c)) (F__law_ratio : FnAt P w K mg base "_law_ratio" 2 [] (sp__law_ratio c)) : FnOk P w K mg base (L2.CX P w) 3 f fd ["one", "x", "other", "y"] (lift (sp__law_square_of c)) := by
  refine fnW F sc__law_square_of (len__law_square_of c) (t := t__law_square_of c) (fun cdv A outer s H E hr => ?_) (pu__law_square_of c)
  have nd := sc__law_square_of.nd
  have hu := hu_of hr
  have tk : Takes (cxOf (L2.CX P w) P w K mg base ["one", "x", "other", "y", "a", "b", "c", "d", "e", "f"] "_law_square_of" (defScope s__law_square_of) f cdv A outer s H E) (fun cls d _ H => E cls d H) := takes_of rfl rfl rfl rfl
  have po : PassesOwn (model P w) (A.deeper (PyProof.Rows.envOfC "_law_square_of" (defScope s__law_square_of) s.heap.objs.size f cdv)) (PyProof.Rows.envOfC "_law_square_of" (defScope s__law_square_of) s.heap.objs.size f cdv) (cxOf (L2.CX P w) P w K mg base ["one", "x", "other", "y", "a", "b", "c", "d", "e", "f"] "_law_square_of" (defScope s__law_square_of) f cdv A outer s H E).xe := passes_of rfl
  exact (pssw_cons (psw_asg (vs := [4, 5, 6]) (pew_f F__law_point_at (hr.mono (by decide)) tk (paw_cons (pew_var (i := 0)) (paw_cons (pew_var (i := 1)) paw_nil))) (pgw_tup rfl (pgsw_cons (pgw_name (i := 4) nd) (pgsw_cons (pgw_name (i := 5) nd) (pgsw_cons (pgw_name (i := 6) nd) pgsw_nil)))))
  (pssw_cons (psw_asg (vs := [7, 8, 9]) (pew_f F__law_point_at (hr.mono (by decide)) tk (paw_cons (pew_var (i := 2)) (paw_cons (pew_var (i := 3)) paw_nil))) (pgw_tup rfl (pgsw_cons (pgw_name (i := 7) nd) (pgsw_cons (pgw_name (i := 8) nd) (pgsw_cons (pgw_name (i := 9) nd) pgsw_nil)))))
  (pssw_one (psw_ret (pew_f F__law_ratio (hr.mono (by decide)) tk (paw_cons (pew_op op_addG ab_add (pew_op op_pow ab_pow (pew_op op_sub ab_sub (pew_op op_mulO ab_mul (pew_var (i := 4)) (pew_var (i := 9))) (pew_op op_mulO ab_mul (pew_var (i := 7)) (pew_var (i := 6)))) pew_int) (pew_op op_pow ab_pow (pew_op op_sub ab_sub (pew_op op_mulO ab_mul (pew_var (i := 5)) (pew_var (i := 9))) (pew_op op_mulO ab_mul (pew_var (i := 8)) (pew_var (i := 6)))) pew_int)) (paw_cons (pew_op op_mulO ab_mul (pew_op op_mulO ab_mul (pew_op op_mulO ab_mul (pew_var (i := 6)) (pew_var (i := 6))) (pew_var (i := 9))) (pew_var (i := 9))) paw_nil)))))))

theorem len__law_walk_square (c : Cs) : ∀ ws M Q E, sp__law_walk_square c ws M Q E → ws.length = 3 := by
  intro ws M Q E h; unfold sp__law_walk_square at h; exact pS_len ws M Q E h
abbrev s__law_walk_square : Stmt := topS 63
theorem sc__law_walk_square : FnScope ["one", "other", "walk", "most", "x", "y", "here"] ["one", "other", "walk"] (defScope s__law_walk_square) := ⟨rfl, rfl, rfl, by decide +kernel, rfl, by decide +kernel, by decide +kernel⟩
theorem ok__law_walk_square {f : Addr} {fd : FuncData} (F : FunD K "_law_walk_square" "_law_walk_square" (defArgs s__law_walk_square) (defBody s__law_walk_square) (defScope s__law_walk_square) [] [] f fd)
    (F__law_square_of : FnAt P w K mg base "_law_square_of" 3 [] (sp__law_square_of c)) (F__law_below : FnAt P w K mg base "_law_below" 1 [] (sp__law_below c)) : FnOk P w K mg base (L2.CX P w) 4 f fd ["one", "other", "walk"] (lift (sp__law_walk_square c)) := by
  refine fnW F sc__law_walk_square (len__law_walk_square c) (t := t__law_walk_square c) (fun cdv A outer s H E hr => ?_) (pu__law_walk_square c)
  have nd := sc__law_walk_square.nd
  have hu := hu_of hr
  have tk : Takes (cxOf (L2.CX P w) P w K mg base ["one", "other", "walk", "most", "x", "y", "here"] "_law_walk_square" (defScope s__law_walk_square) f cdv A outer s H E) (fun cls d _ H => E cls d H) := takes_of rfl rfl rfl rfl
  have po : PassesOwn (model P w) (A.deeper (PyProof.Rows.envOfC "_law_walk_square" (defScope s__law_walk_square) s.heap.objs.size f cdv)) (PyProof.Rows.envOfC "_law_walk_square" (defScope s__law_walk_square) s.heap.objs.size f cdv) (cxOf (L2.CX P w) P w K mg base ["one", "other", "walk", "most", "x", "y", "here"] "_law_walk_square" (defScope s__law_walk_square) f cdv A outer s H E).xe := passes_of rfl
  exact (pssw_cons (psw_set (i := 3) nd (pew_tup (paw_cons pew_int (paw_cons pew_int paw_nil))))
  (pssw_cons (psw_for (vs := [4, 5]) po rfl (piw_list (pew_var (i := 2))) (pgw_tup rfl (pgsw_cons (pgw_name (i := 4) nd) (pgsw_cons (pgw_name (i := 5) nd) pgsw_nil)))
  (pssw_cons (psw_set (i := 6) nd (pew_f F__law_square_of (hr.mono (by decide)) tk (paw_cons (pew_var (i := 0)) (paw_cons (pew_var (i := 4)) (paw_cons (pew_var (i := 1)) (paw_cons (pew_var (i := 5)) paw_nil))))))
  (pssw_one (psw_if (ptw_val (pew_f F__law_below (hr.mono (by decide)) tk (paw_cons (pew_var (i := 3)) (paw_cons (pew_var (i := 6)) paw_nil))))
  (pssw_one (psw_set (i := 3) nd (pew_var (i := 6))))
  pssw_nil))))
  (pssw_one (psw_ret (pew_var (i := 3))))))

theorem len__law_shown (c : Cs) : ∀ ws M Q E, sp__law_shown c ws M Q E → ws.length = 4 := by
  intro ws M Q E h; unfold sp__law_shown at h; exact pS_len ws M Q E h
abbrev s__law_shown : Stmt := topS 64
theorem sc__law_shown : FnScope ["one", "other", "told", "square", "word", "pairs", "x", "y"] ["one", "other", "told", "square"] (defScope s__law_shown) := ⟨rfl, rfl, rfl, by decide +kernel, rfl, by decide +kernel, by decide +kernel⟩
theorem ok__law_shown {f : Addr} {fd : FuncData} (F : FunD K "_law_shown" "_law_shown" (defArgs s__law_shown) (defBody s__law_shown) (defScope s__law_shown) [] [] f fd)
    (g_isinstance : mg "isinstance" = none) (g_tuple : mg "tuple" = none) (g_len : mg "len" = none) (g_str : mg "str" = none) (F__law_is_walk : FnAt P w K mg base "_law_is_walk" 5 [] (sp__law_is_walk c)) (F__law_walk_square : FnAt P w K mg base "_law_walk_square" 4 [] (sp__law_walk_square c)) (F__law_below : FnAt P w K mg base "_law_below" 1 [] (sp__law_below c)) (F__law_is_fence : FnAt P w K mg base "_law_is_fence" 5 [] (sp__law_is_fence c)) (F__law_square_of : FnAt P w K mg base "_law_square_of" 3 [] (sp__law_square_of c)) (g_all : mg "all" = none) : FnOk P w K mg base (L2.CX P w) 6 f fd ["one", "other", "told", "square"] (lift (sp__law_shown c)) := by
  refine fnW F sc__law_shown (len__law_shown c) (t := t__law_shown c) (fun cdv A outer s H E hr => ?_) (pu__law_shown c)
  have nd := sc__law_shown.nd
  have hu := hu_of hr
  have tk : Takes (cxOf (L2.CX P w) P w K mg base ["one", "other", "told", "square", "word", "pairs", "x", "y"] "_law_shown" (defScope s__law_shown) f cdv A outer s H E) (fun cls d _ H => E cls d H) := takes_of rfl rfl rfl rfl
  have po : PassesOwn (model P w) (A.deeper (PyProof.Rows.envOfC "_law_shown" (defScope s__law_shown) s.heap.objs.size f cdv)) (PyProof.Rows.envOfC "_law_shown" (defScope s__law_shown) s.heap.objs.size f cdv) (cxOf (L2.CX P w) P w K mg base ["one", "other", "told", "square", "word", "pairs", "x", "y"] "_law_shown" (defScope s__law_shown) f cdv A outer s H E).xe := passes_of rfl
  exact (pssw_cons (psw_if (ptw_bool (pww_or (ptw_not (ptw_val (pew_isi (T := "tuple") (by decide +kernel) (by decide) g_isinstance g_tuple (pew_var (i := 2))))) (pww_or (ptw_cmp (op_neD hr.units) ab_ne (nomark _) (pew_callB call_len ab_len rfl g_len (by decide +kernel) (paw_cons (pew_var (i := 2)) paw_nil)) pew_int) (pww_or1 (ptw_not (ptw_val (pew_isi (T := "str") (by decide +kernel) (by decide) g_isinstance g_str (pew_ix (pew_var (i := 2)) pew_int (fun _ _ => rfl)))))))))
  (pssw_one (psw_ret pew_bl))
  pssw_nil)
  (pssw_cons (psw_asg (vs := [4, 5]) (pew_var (i := 2)) (pgw_tup rfl (pgsw_cons (pgw_name (i := 4) nd) (pgsw_cons (pgw_name (i := 5) nd) pgsw_nil))))
  (pssw_cons (psw_if (ptw_cmp (op_eqD hr.units) ab_eq (nomark _) (pew_var (i := 4)) pew_str)
  (pssw_one (psw_ret (pew_and (pew_f F__law_is_walk (hr.mono (by decide)) tk (paw_cons (pew_var (i := 0)) (paw_cons (pew_var (i := 1)) (paw_cons (pew_var (i := 5)) (paw_cons pew_str paw_nil))))) (pew_one (pew_not (pew_f F__law_below (hr.mono (by decide)) tk (paw_cons (pew_var (i := 3)) (paw_cons (pew_f F__law_walk_square (hr.mono (by decide)) tk (paw_cons (pew_var (i := 0)) (paw_cons (pew_var (i := 1)) (paw_cons (pew_var (i := 5)) paw_nil)))) paw_nil))))))))
  pssw_nil)
  (pssw_cons (psw_if (ptw_bool (pww_or (ptw_cmp (op_neD hr.units) ab_ne (nomark _) (pew_var (i := 4)) pew_str) (pww_or1 (ptw_not (ptw_val (pew_f F__law_is_fence (hr.mono (by decide)) tk (paw_cons (pew_var (i := 0)) (paw_cons (pew_var (i := 1)) (paw_cons (pew_var (i := 5)) (paw_cons pew_str paw_nil))))))))))
  (pssw_one (psw_ret pew_bl))
  pssw_nil)
  (pssw_one (psw_ret (pew_callB (cr_all rfl) ab_all rfl g_all (by decide +kernel) (paw_cons (pew_fz (pew_lc (own := [("x", 6), ("y", 7)]) rfl nd (piw_list (pew_var (i := 5))) (blkOk_by (own := [("x", 6), ("y", 7)]) (N := ["one", "other", "told", "square", "word", "pairs", "x", "y"]) (sc := defScope s__law_shown) (by decide +kernel)) (fun _ _ _ _ _ => (pgw_tup rfl (pgsw_cons (pgw_name (i := 6) nd) (pgsw_cons (pgw_name (i := 7) nd) pgsw_nil)))) (fun _ _ _ _ _ => ptsw_nil) (fun _ _ _ _ _ => (pew_f F__law_below (hr.mono (by decide)) (takesF rfl) (paw_cons (pew_var (i := 3)) (paw_cons (pew_f F__law_square_of (hr.mono (by decide)) (takesF rfl) (paw_cons (pew_var (i := 0)) (paw_cons (pew_var (i := 6)) (paw_cons (pew_var (i := 1)) (paw_cons (pew_var (i := 7)) paw_nil))))) paw_nil)))))) paw_nil))))))))

theorem len_less (c : Cs) : ∀ ws M Q E, sp_less c ws M Q E → ws.length = 2 := by
  intro ws M Q E h; unfold sp_less at h; exact pS_len ws M Q E h
abbrev s_less : Stmt := topS 13
theorem sc_less : FnScope ["a", "b"] ["a", "b"] (defScope s_less) := ⟨rfl, rfl, rfl, by decide +kernel, rfl, by decide +kernel, by decide +kernel⟩
theorem ok_less {f : Addr} {fd : FuncData} (F : FunD K "less" "less" (defArgs s_less) (defBody s_less) (defScope s_less) [] [] f fd)
     : FnOk P w K mg base (L2.CX P w) 1 f fd ["a", "b"] (lift (sp_less c)) := by
  refine fnW F sc_less (len_less c) (t := t_less c) (fun cdv A outer s H E hr => ?_) (pu_less c)
  have nd := sc_less.nd
  have hu := hu_of hr
  have tk : Takes (cxOf (L2.CX P w) P w K mg base ["a", "b"] "less" (defScope s_less) f cdv A outer s H E) (fun cls d _ H => E cls d H) := takes_of rfl rfl rfl rfl
  have po : PassesOwn (model P w) (A.deeper (PyProof.Rows.envOfC "less" (defScope s_less) s.heap.objs.size f cdv)) (PyProof.Rows.envOfC "less" (defScope s_less) s.heap.objs.size f cdv) (cxOf (L2.CX P w) P w K mg base ["a", "b"] "less" (defScope s_less) f cdv A outer s H E).xe := passes_of rfl
  exact (pssw_one (psw_ret (pew_cmp op_lt ab_cmp (nomark _) (pew_op op_mulO ab_mul (pew_ix (pew_var (i := 0)) pew_int (fun _ _ => rfl)) (pew_ix (pew_var (i := 1)) pew_int (fun _ _ => rfl))) (pew_op op_mulO ab_mul (pew_ix (pew_var (i := 1)) pew_int (fun _ _ => rfl)) (pew_ix (pew_var (i := 0)) pew_int (fun _ _ => rfl))))))

theorem len_far_pairs (c : Cs) : ∀ ws M Q E, sp_far_pairs c ws M Q E → ws.length = 3 := by
  intro ws M Q E h; unfold sp_far_pairs at h; exact pS_len ws M Q E h
abbrev s_far_pairs : Stmt := topS 30
theorem sc_far_pairs : FnScope ["table", "square", "also", "found", "x", "row", "y", "here"] ["table", "square", "also"] (defScope s_far_pairs) := ⟨rfl, rfl, rfl, by decide +kernel, rfl, by decide +kernel, by decide +kernel⟩
theorem ok_far_pairs {f : Addr} {fd : FuncData} (F : FunD K "far_pairs" "far_pairs" (defArgs s_far_pairs) (defBody s_far_pairs) (defScope s_far_pairs) [] [] f fd)
    (g_enumerate : mg "enumerate" = none) (F_less : FnAt P w K mg base "less" 1 [] (sp_less c)) : FnOk P w K mg base (L2.CX P w) 2 f fd ["table", "square", "also"] (lift (sp_far_pairs c)) := by
  refine fnW F sc_far_pairs (len_far_pairs c) (t := t_far_pairs c) (fun cdv A outer s H E hr => ?_) (pu_far_pairs c)
  have nd := sc_far_pairs.nd
  have hu := hu_of hr
  have tk : Takes (cxOf (L2.CX P w) P w K mg base ["table", "square", "also", "found", "x", "row", "y", "here"] "far_pairs" (defScope s_far_pairs) f cdv A outer s H E) (fun cls d _ H => E cls d H) := takes_of rfl rfl rfl rfl
  have po : PassesOwn (model P w) (A.deeper (PyProof.Rows.envOfC "far_pairs" (defScope s_far_pairs) s.heap.objs.size f cdv)) (PyProof.Rows.envOfC "far_pairs" (defScope s_far_pairs) s.heap.objs.size f cdv) (cxOf (L2.CX P w) P w K mg base ["table", "square", "also", "found", "x", "row", "y", "here"] "far_pairs" (defScope s_far_pairs) f cdv A outer s H E).xe := passes_of rfl
  exact (pssw_cons (psw_set (i := 3) nd (pew_lstC paw_nil))
  (pssw_cons (psw_for (vs := [4, 5]) po rfl (piw_enum rfl g_enumerate (paw_cons (pew_var (i := 0)) paw_nil)) (pgw_tup rfl (pgsw_cons (pgw_name (i := 4) nd) (pgsw_cons (pgw_name (i := 5) nd) pgsw_nil)))
  (pssw_one (psw_for (vs := [6, 7]) po rfl (piw_enum rfl g_enumerate (paw_cons (pew_var (i := 5)) paw_nil)) (pgw_tup rfl (pgsw_cons (pgw_name (i := 6) nd) (pgsw_cons (pgw_name (i := 7) nd) pgsw_nil)))
  (pssw_one (psw_if (ptw_bool (pww_or (ptw_val (pew_f F_less (hr.mono (by decide)) tk (paw_cons (pew_var (i := 1)) (paw_cons (pew_var (i := 7)) paw_nil)))) (pww_or1 (ptw_bool (pww_and (ptw_val (pew_var (i := 2))) (pww_and1 (ptw_cmp (op_eqD hr.units) ab_eq (nomark _) (pew_var (i := 7)) (pew_var (i := 1)))))))))
  (pssw_one (psw_expr (pew_bm PySem.F.plainAttrs_list PySem.F.slot_list_append PySem.F.type_list_append mt_append ab_append (pew_var (i := 3)) (paw_cons (pew_tup (paw_cons (pew_var (i := 4)) (paw_cons (pew_var (i := 6)) paw_nil))) paw_nil))))
  pssw_nil)))))
  (pssw_one (psw_ret (pew_fz (pew_var (i := 3)))))))

theorem len_may_follow (c : Cs) : ∀ ws M Q E, sp_may_follow c ws M Q E → ws.length = 2 := by
  intro ws M Q E h; unfold sp_may_follow at h; exact pS_len ws M Q E h
abbrev s_may_follow : Stmt := topS 31
theorem sc_may_follow : FnScope ["pair", "later", "further", "higher"] ["pair", "later"] (defScope s_may_follow) := ⟨rfl, rfl, rfl, by decide +kernel, rfl, by decide +kernel, by decide +kernel⟩
theorem ok_may_follow {f : Addr} {fd : FuncData} (F : FunD K "may_follow" "may_follow" (defArgs s_may_follow) (defBody s_may_follow) (defScope s_may_follow) [] [] f fd)
     : FnOk P w K mg base (L2.CX P w) 1 f fd ["pair", "later"] (lift (sp_may_follow c)) := by
  refine fnW F sc_may_follow (len_may_follow c) (t := t_may_follow c) (fun cdv A outer s H E hr => ?_) (pu_may_follow c)
  have nd := sc_may_follow.nd
  have hu := hu_of hr
  have tk : Takes (cxOf (L2.CX P w) P w K mg base ["pair", "later", "further", "higher"] "may_follow" (defScope s_may_follow) f cdv A outer s H E) (fun cls d _ H => E cls d H) := takes_of rfl rfl rfl rfl
  have po : PassesOwn (model P w) (A.deeper (PyProof.Rows.envOfC "may_follow" (defScope s_may_follow) s.heap.objs.size f cdv)) (PyProof.Rows.envOfC "may_follow" (defScope s_may_follow) s.heap.objs.size f cdv) (cxOf (L2.CX P w) P w K mg base ["pair", "later", "further", "higher"] "may_follow" (defScope s_may_follow) f cdv A outer s H E).xe := passes_of rfl
  exact (pssw_cons (psw_set (i := 2) nd (pew_op op_sub ab_sub (pew_ix (pew_var (i := 1)) pew_int (fun _ _ => rfl)) (pew_ix (pew_var (i := 0)) pew_int (fun _ _ => rfl))))
  (pssw_cons (psw_set (i := 3) nd (pew_op op_sub ab_sub (pew_ix (pew_var (i := 1)) pew_int (fun _ _ => rfl)) (pew_ix (pew_var (i := 0)) pew_int (fun _ _ => rfl))))
  (pssw_one (psw_ret (pew_or (pew_and (pew_cmp op_le ab_cmp (nomark _) (pew_var (i := 2)) pew_int) (pew_one (pew_cmp op_ge ab_cmp (nomark _) (pew_var (i := 3)) (pew_un un_neg ab_neg pew_int)))) (pew_one (pew_and (pew_cmp op_le ab_cmp (nomark _) (pew_var (i := 2)) pew_int) (pew_one (pew_cmp op_ge ab_cmp (nomark _) (pew_var (i := 3)) pew_int)))))))))

abbrev s_traced : Stmt := topS 29
theorem sc_traced : FnScope ["ahead", "pair", "found"] ["ahead", "pair"] (defScope s_traced) := ⟨rfl, rfl, rfl, by decide +kernel, rfl, by decide +kernel, by decide +kernel⟩
theorem ok_traced {f : Addr} {fd : FuncData} (F : FunD K "traced" "traced" (defArgs s_traced) (defBody s_traced) (defScope s_traced) [] [] f fd)
    (g_list : mg "list" = none) (g_reversed : mg "reversed" = none) : FnOk P w K mg base (L2.CX P w) 1 f fd ["ahead", "pair"] (lift (sp_traced c)) := by
  refine fnW F sc_traced (len_traced c) (t := t_traced c) (fun cdv A outer s H E hr => ?_) (pu_traced c)
  have nd := sc_traced.nd
  have hu := hu_of hr
  have tk : Takes (cxOf (L2.CX P w) P w K mg base ["ahead", "pair", "found"] "traced" (defScope s_traced) f cdv A outer s H E) (fun cls d _ H => E cls d H) := takes_of rfl rfl rfl rfl
  have po : PassesOwn (model P w) (A.deeper (PyProof.Rows.envOfC "traced" (defScope s_traced) s.heap.objs.size f cdv)) (PyProof.Rows.envOfC "traced" (defScope s_traced) s.heap.objs.size f cdv) (cxOf (L2.CX P w) P w K mg base ["ahead", "pair", "found"] "traced" (defScope s_traced) f cdv A outer s H E).xe := passes_of rfl
  exact (pssw_cons (psw_set (i := 2) nd (pew_lstC paw_nil))
  (pssw_cons (psw_while po (ptw_cmp op_notN ab_notN (nomark _) (pew_var (i := 1)) pew_non)
  (pssw_cons (psw_expr (pew_bm PySem.F.plainAttrs_list PySem.F.slot_list_append PySem.F.type_list_append mt_append ab_append (pew_var (i := 2)) (paw_cons (pew_tup (paw_cons (pew_tup (paw_cons (pew_ix (pew_var (i := 1)) pew_int (fun _ _ => rfl)) (paw_cons pew_int paw_nil))) (paw_cons (pew_tup (paw_cons (pew_ix (pew_var (i := 1)) pew_int (fun _ _ => rfl)) (paw_cons pew_int paw_nil))) paw_nil))) paw_nil)))
  (pssw_one (psw_set (i := 1) nd (pew_dget hu (pew_var (i := 0)) (pew_var (i := 1)) (fun _ _ => rfl))))))
  (pssw_one (psw_ret (pew_listRev rfl rfl g_list rfl g_reversed (pew_var (i := 2)))))))

abbrev s_fence_among : Stmt := topS 32
theorem sc_fence_among : FnScope ["far", "n", "m", "waiting", "pair", "ahead", "at", "here"] ["far", "n", "m"] (defScope s_fence_among) := ⟨rfl, rfl, rfl, by decide +kernel, rfl, by decide +kernel, by decide +kernel⟩
theorem ok_fence_among {f : Addr} {fd : FuncData} (F : FunD K "fence_among" "fence_among" (defArgs s_fence_among) (defBody s_fence_among) (defScope s_fence_among) [] [] f fd)
    (g_len : mg "len" = none) (F_traced : FnAt P w K mg base "traced" 1 [] (sp_traced c)) (F_may_follow : FnAt P w K mg base "may_follow" 1 [] (sp_may_follow c)) : FnOk P w K mg base (L2.CX P w) 2 f fd ["far", "n", "m"] (lift (sp_fence_among c)) := by
  refine fnW F sc_fence_among (len_fence_among c) (t := t_fence_among c) (fun cdv A outer s H E hr => ?_) (pu_fence_among c)
  have nd := sc_fence_among.nd
  have hu := hu_of hr
  have tk : Takes (cxOf (L2.CX P w) P w K mg base ["far", "n", "m", "waiting", "pair", "ahead", "at", "here"] "fence_among" (defScope s_fence_among) f cdv A outer s H E) (fun cls d _ H => E cls d H) := takes_of rfl rfl rfl rfl
  have po : PassesOwn (model P w) (A.deeper (PyProof.Rows.envOfC "fence_among" (defScope s_fence_among) s.heap.objs.size f cdv)) (PyProof.Rows.envOfC "fence_among" (defScope s_fence_among) s.heap.objs.size f cdv) (cxOf (L2.CX P w) P w K mg base ["far", "n", "m", "waiting", "pair", "ahead", "at", "here"] "fence_among" (defScope s_fence_among) f cdv A outer s H E).xe := passes_of rfl
  exact (pssw_cons (psw_setLc (i := 3) (own := [("pair", 4)]) rfl nd (piw_list (pew_var (i := 0))) (blkOk_by (own := [("pair", 4)]) (N := ["far", "n", "m", "waiting", "pair", "ahead", "at", "here"]) (sc := defScope s_fence_among) (by decide +kernel)) (fun _ _ _ _ _ => (pgw_name (i := 4) nd)) (fun _ _ _ _ _ => ptsw_one (ptw_bool (pww_or (ptw_cmp (op_eqD hr.units) ab_eq (nomark _) (pew_ix (pew_var (i := 4)) pew_int (fun _ _ => rfl)) pew_int) (pww_or1 (ptw_cmp (op_eqD hr.units) ab_eq (nomark _) (pew_ix (pew_var (i := 4)) pew_int (fun _ _ => rfl)) (pew_var (i := 2))))))) (fun _ _ _ _ _ => (pew_var (i := 4))) (fun _ _ _ h => h) (sw_true rfl rfl rfl (by decide +kernel)))
  (pssw_cons (psw_set (i := 5) nd pew_dnew)
  (pssw_cons (psw_forC (vs := [4]) po rfl (pew_var (i := 3)) (pgw_name (i := 4) nd)
  (pssw_one (psw_dput hu pew_non (pew_var (i := 5)) (pew_var (i := 4)))))
  (pssw_cons (psw_set (i := 6) nd pew_int)
  (pssw_cons (psw_while po (ptw_cmp op_lt ab_cmp (nomark _) (pew_var (i := 6)) (pew_callB call_len ab_len rfl g_len (by decide +kernel) (paw_cons (pew_var (i := 3)) paw_nil)))
  (pssw_cons (psw_set (i := 7) nd (pew_ix (pew_var (i := 3)) (pew_var (i := 6)) (fun _ _ => rfl)))
  (pssw_cons (psw_if (ptw_bool (pww_or (ptw_cmp (op_eqD hr.units) ab_eq (nomark _) (pew_ix (pew_var (i := 7)) pew_int (fun _ _ => rfl)) (pew_var (i := 1))) (pww_or1 (ptw_cmp (op_eqD hr.units) ab_eq (nomark _) (pew_ix (pew_var (i := 7)) pew_int (fun _ _ => rfl)) pew_int))))
  (pssw_one (psw_ret (pew_f F_traced (hr.mono (by decide)) tk (paw_cons (pew_fz (pew_var (i := 5))) (paw_cons (pew_var (i := 7)) paw_nil)))))
  pssw_nil)
  (pssw_cons (psw_for (vs := [4]) po rfl (piw_list (pew_var (i := 0))) (pgw_name (i := 4) nd)
  (pssw_one (psw_if (ptw_bool (pww_and (ptw_dnotin hu (pew_var (i := 4)) (pew_var (i := 5))) (pww_and1 (ptw_val (pew_f F_may_follow (hr.mono (by decide)) tk (paw_cons (pew_var (i := 7)) (paw_cons (pew_var (i := 4)) paw_nil)))))))
  (pssw_cons (psw_dput hu (pew_var (i := 7)) (pew_var (i := 5)) (pew_var (i := 4)))
  (pssw_one (psw_expr (pew_bm PySem.F.plainAttrs_list PySem.F.slot_list_append PySem.F.type_list_append mt_append ab_append (pew_var (i := 3)) (paw_cons (pew_var (i := 4)) paw_nil)))))
  pssw_nil)))
  (pssw_one (psw_aug (i := 6) nd ip_add ab_ipadd pew_int))))))
  (pssw_one (psw_ret pew_non)))))))

theorem len_last_of (c : Cs) : ∀ ws M Q E, sp_last_of c ws M Q E → ws.length = 1 := by
  intro ws M Q E h; unfold sp_last_of at h; exact pS_len ws M Q E h
abbrev s_last_of : Stmt := topS 18
theorem sc_last_of : FnScope ["line"] ["line"] (defScope s_last_of) := ⟨rfl, rfl, rfl, by decide +kernel, rfl, by decide +kernel, by decide +kernel⟩
theorem ok_last_of {f : Addr} {fd : FuncData} (F : FunD K "last_of" "last_of" (defArgs s_last_of) (defBody s_last_of) (defScope s_last_of) [] [] f fd)
    (g_len : mg "len" = none) : FnOk P w K mg base (L2.CX P w) 1 f fd ["line"] (lift (sp_last_of c)) := by
  refine fnW F sc_last_of (len_last_of c) (t := t_last_of c) (fun cdv A outer s H E hr => ?_) (pu_last_of c)
  have nd := sc_last_of.nd
  have hu := hu_of hr
  have tk : Takes (cxOf (L2.CX P w) P w K mg base ["line"] "last_of" (defScope s_last_of) f cdv A outer s H E) (fun cls d _ H => E cls d H) := takes_of rfl rfl rfl rfl
  have po : PassesOwn (model P w) (A.deeper (PyProof.Rows.envOfC "last_of" (defScope s_last_of) s.heap.objs.size f cdv)) (PyProof.Rows.envOfC "last_of" (defScope s_last_of) s.heap.objs.size f cdv) (cxOf (L2.CX P w) P w K mg base ["line"] "last_of" (defScope s_last_of) f cdv A outer s H E).xe := passes_of rfl
  exact (pssw_one (psw_ret (pew_op op_sub ab_sub (pew_callB call_len ab_len rfl g_len (by decide +kernel) (paw_cons (pew_var (i := 0)) paw_nil)) pew_int)))

theorem len_ends_of (c : Cs) : ∀ ws M Q E, sp_ends_of c ws M Q E → ws.length = 2 := by
  intro ws M Q E h; unfold sp_ends_of at h; exact pS_len ws M Q E h
abbrev s_ends_of : Stmt := topS 22
theorem sc_ends_of : FnScope ["line", "number"] ["line", "number"] (defScope s_ends_of) := ⟨rfl, rfl, rfl, by decide +kernel, rfl, by decide +kernel, by decide +kernel⟩
theorem ok_ends_of {f : Addr} {fd : FuncData} (F : FunD K "ends_of" "ends_of" (defArgs s_ends_of) (defBody s_ends_of) (defScope s_ends_of) [] [] f fd)
    (F_last_of : FnAt P w K mg base "last_of" 1 [] (sp_last_of c)) (g_min : mg "min" = none) : FnOk P w K mg base (L2.CX P w) 2 f fd ["line", "number"] (lift (sp_ends_of c)) := by
  refine fnW F sc_ends_of (len_ends_of c) (t := t_ends_of c) (fun cdv A outer s H E hr => ?_) (pu_ends_of c)
  have nd := sc_ends_of.nd
  have hu := hu_of hr
  have tk : Takes (cxOf (L2.CX P w) P w K mg base ["line", "number"] "ends_of" (defScope s_ends_of) f cdv A outer s H E) (fun cls d _ H => E cls d H) := takes_of rfl rfl rfl rfl
  have po : PassesOwn (model P w) (A.deeper (PyProof.Rows.envOfC "ends_of" (defScope s_ends_of) s.heap.objs.size f cdv)) (PyProof.Rows.envOfC "ends_of" (defScope s_ends_of) s.heap.objs.size f cdv) (cxOf (L2.CX P w) P w K mg base ["line", "number"] "ends_of" (defScope s_ends_of) f cdv A outer s H E).xe := passes_of rfl
  exact (pssw_one (psw_ret (pew_tup (paw_cons (pew_ix (pew_var (i := 0)) (pew_var (i := 1)) (fun _ _ => rfl)) (paw_cons (pew_ix (pew_var (i := 0)) (pew_callB (call_min2 rfl) ab_min2 rfl g_min (by decide +kernel) (paw_cons (pew_op op_addG ab_add (pew_var (i := 1)) pew_int) (paw_cons (pew_f F_last_of (hr.mono (by decide)) tk (paw_cons (pew_var (i := 0)) paw_nil)) paw_nil))) (fun _ _ => rfl)) paw_nil)))))

theorem len_floor_of (c : Cs) : ∀ ws M Q E, sp_floor_of c ws M Q E → ws.length = 1 := by
  intro ws M Q E h; unfold sp_floor_of at h; exact pS_len ws M Q E h
abbrev s_floor_of : Stmt := topS 14
theorem sc_floor_of : FnScope ["a"] ["a"] (defScope s_floor_of) := ⟨rfl, rfl, rfl, by decide +kernel, rfl, by decide +kernel, by decide +kernel⟩
theorem ok_floor_of {f : Addr} {fd : FuncData} (F : FunD K "floor_of" "floor_of" (defArgs s_floor_of) (defBody s_floor_of) (defScope s_floor_of) [] [] f fd)
     : FnOk P w K mg base (L2.CX P w) 1 f fd ["a"] (lift (sp_floor_of c)) := by
  refine fnW F sc_floor_of (len_floor_of c) (t := t_floor_of c) (fun cdv A outer s H E hr => ?_) (pu_floor_of c)
  have nd := sc_floor_of.nd
  have hu := hu_of hr
  have tk : Takes (cxOf (L2.CX P w) P w K mg base ["a"] "floor_of" (defScope s_floor_of) f cdv A outer s H E) (fun cls d _ H => E cls d H) := takes_of rfl rfl rfl rfl
  have po : PassesOwn (model P w) (A.deeper (PyProof.Rows.envOfC "floor_of" (defScope s_floor_of) s.heap.objs.size f cdv)) (PyProof.Rows.envOfC "floor_of" (defScope s_floor_of) s.heap.objs.size f cdv) (cxOf (L2.CX P w) P w K mg base ["a"] "floor_of" (defScope s_floor_of) f cdv A outer s H E).xe := passes_of rfl
  exact (pssw_one (psw_ret (pew_op op_fdivG ab_div (pew_ix (pew_var (i := 0)) pew_int (fun _ _ => rfl)) (pew_ix (pew_var (i := 0)) pew_int (fun _ _ => rfl)))))

theorem len_divisor (c : Cs) : ∀ ws M Q E, sp_divisor c ws M Q E → ws.length = 2 := by
  intro ws M Q E h; unfold sp_divisor at h; exact pS_len ws M Q E h
abbrev s_divisor : Stmt := topS 7
theorem sc_divisor : FnScope ["one", "other"] ["one", "other"] (defScope s_divisor) := ⟨rfl, rfl, rfl, by decide +kernel, rfl, by decide +kernel, by decide +kernel⟩
theorem ok_divisor {f : Addr} {fd : FuncData} (F : FunD K "divisor" "divisor" (defArgs s_divisor) (defBody s_divisor) (defScope s_divisor) [] [] f fd)
    (g_abs : mg "abs" = none) : FnOk P w K mg base (L2.CX P w) 1 f fd ["one", "other"] (lift (sp_divisor c)) := by
  refine fnW F sc_divisor (len_divisor c) (t := t_divisor c) (fun cdv A outer s H E hr => ?_) (pu_divisor c)
  have nd := sc_divisor.nd
  have hu := hu_of hr
  have tk : Takes (cxOf (L2.CX P w) P w K mg base ["one", "other"] "divisor" (defScope s_divisor) f cdv A outer s H E) (fun cls d _ H => E cls d H) := takes_of rfl rfl rfl rfl
  have po : PassesOwn (model P w) (A.deeper (PyProof.Rows.envOfC "divisor" (defScope s_divisor) s.heap.objs.size f cdv)) (PyProof.Rows.envOfC "divisor" (defScope s_divisor) s.heap.objs.size f cdv) (cxOf (L2.CX P w) P w K mg base ["one", "other"] "divisor" (defScope s_divisor) f cdv A outer s H E).xe := passes_of rfl
  exact (pssw_cons (psw_set (i := 0) nd (pew_callB call_abs ab_abs rfl g_abs (by decide +kernel) (paw_cons (pew_var (i := 0)) paw_nil)))
  (pssw_cons (psw_while po (ptw_cmp op_gt ab_cmp (nomark _) (pew_var (i := 0)) pew_int)
  (pssw_one (psw_par (i := 0) (j := 1) rfl nd (paw_cons (pew_op op_mod ab_mod (pew_var (i := 1)) (pew_var (i := 0))) (paw_cons (pew_var (i := 0)) paw_nil)) (by rfl))))
  (pssw_one (psw_ret (pew_var (i := 1))))))

theorem len_is_whole (c : Cs) : ∀ ws M Q E, sp_is_whole c ws M Q E → ws.length = 1 := by
  intro ws M Q E h; unfold sp_is_whole at h; exact pS_len ws M Q E h
abbrev s_is_whole : Stmt := topS 6
theorem sc_is_whole : FnScope ["thing"] ["thing"] (defScope s_is_whole) := ⟨rfl, rfl, rfl, by decide +kernel, rfl, by decide +kernel, by decide +kernel⟩
theorem ok_is_whole {f : Addr} {fd : FuncData} (F : FunD K "is_whole" "is_whole" (defArgs s_is_whole) (defBody s_is_whole) (defScope s_is_whole) [] [] f fd)
    (g_isinstance : mg "isinstance" = none) (g_int : mg "int" = none) (g_bool : mg "bool" = none) : FnOk P w K mg base (L2.CX P w) 1 f fd ["thing"] (lift (sp_is_whole c)) := by
  refine fnW F sc_is_whole (len_is_whole c) (t := t_is_whole c) (fun cdv A outer s H E hr => ?_) (pu_is_whole c)
  have nd := sc_is_whole.nd
  have hu := hu_of hr
  have tk : Takes (cxOf (L2.CX P w) P w K mg base ["thing"] "is_whole" (defScope s_is_whole) f cdv A outer s H E) (fun cls d _ H => E cls d H) := takes_of rfl rfl rfl rfl
  have po : PassesOwn (model P w) (A.deeper (PyProof.Rows.envOfC "is_whole" (defScope s_is_whole) s.heap.objs.size f cdv)) (PyProof.Rows.envOfC "is_whole" (defScope s_is_whole) s.heap.objs.size f cdv) (cxOf (L2.CX P w) P w K mg base ["thing"] "is_whole" (defScope s_is_whole) f cdv A outer s H E).xe := passes_of rfl
  exact (pssw_one (psw_ret (pew_and (pew_isi (T := "int") (by decide +kernel) (by decide) g_isinstance g_int (pew_var (i := 0))) (pew_one (pew_not (pew_isi (T := "bool") (by decide +kernel) (by decide) g_isinstance g_bool (pew_var (i := 0))))))))

theorem len_is_ratio (c : Cs) : ∀ ws M Q E, sp_is_ratio c ws M Q E → ws.length = 1 := by
  intro ws M Q E h; unfold sp_is_ratio at h; exact pS_len ws M Q E h
abbrev s_is_ratio : Stmt := topS 9
theorem sc_is_ratio : FnScope ["thing"] ["thing"] (defScope s_is_ratio) := ⟨rfl, rfl, rfl, by decide +kernel, rfl, by decide +kernel, by decide +kernel⟩
theorem ok_is_ratio {f : Addr} {fd : FuncData} (F : FunD K "is_ratio" "is_ratio" (defArgs s_is_ratio) (defBody s_is_ratio) (defScope s_is_ratio) [] [] f fd)
    (g_isinstance : mg "isinstance" = none) (g_tuple : mg "tuple" = none) (g_len : mg "len" = none) (F_is_whole : FnAt P w K mg base "is_whole" 1 [] (sp_is_whole c)) (F_divisor : FnAt P w K mg base "divisor" 1 [] (sp_divisor c)) : FnOk P w K mg base (L2.CX P w) 2 f fd ["thing"] (lift (sp_is_ratio c)) := by
  refine fnW F sc_is_ratio (len_is_ratio c) (t := t_is_ratio c) (fun cdv A outer s H E hr => ?_) (pu_is_ratio c)
  have nd := sc_is_ratio.nd
  have hu := hu_of hr
  have tk : Takes (cxOf (L2.CX P w) P w K mg base ["thing"] "is_ratio" (defScope s_is_ratio) f cdv A outer s H E) (fun cls d _ H => E cls d H) := takes_of rfl rfl rfl rfl
  have po : PassesOwn (model P w) (A.deeper (PyProof.Rows.envOfC "is_ratio" (defScope s_is_ratio) s.heap.objs.size f cdv)) (PyProof.Rows.envOfC "is_ratio" (defScope s_is_ratio) s.heap.objs.size f cdv) (cxOf (L2.CX P w) P w K mg base ["thing"] "is_ratio" (defScope s_is_ratio) f cdv A outer s H E).xe := passes_of rfl
  exact (pssw_cons (psw_if (ptw_bool (pww_or (ptw_not (ptw_val (pew_isi (T := "tuple") (by decide +kernel) (by decide) g_isinstance g_tuple (pew_var (i := 0))))) (pww_or1 (ptw_cmp (op_neD hr.units) ab_ne (nomark _) (pew_callB call_len ab_len rfl g_len (by decide +kernel) (paw_cons (pew_var (i := 0)) paw_nil)) pew_int))))
  (pssw_one (psw_ret pew_bl))
  pssw_nil)
  (pssw_cons (psw_if (ptw_bool (pww_or (ptw_not (ptw_val (pew_f F_is_whole (hr.mono (by decide)) tk (paw_cons (pew_ix (pew_var (i := 0)) pew_int (fun _ _ => rfl)) paw_nil)))) (pww_or (ptw_not (ptw_val (pew_f F_is_whole (hr.mono (by decide)) tk (paw_cons (pew_ix (pew_var (i := 0)) pew_int (fun _ _ => rfl)) paw_nil)))) (pww_or1 (ptw_cmp op_lt ab_cmp (nomark _) (pew_ix (pew_var (i := 0)) pew_int (fun _ _ => rfl)) pew_int)))))
  (pssw_one (psw_ret pew_bl))
  pssw_nil)
  (pssw_one (psw_ret (pew_cmp (op_eqD hr.units) ab_eq (nomark _) (pew_f F_divisor (hr.mono (by decide)) tk (paw_cons (pew_ix (pew_var (i := 0)) pew_int (fun _ _ => rfl)) (paw_cons (pew_ix (pew_var (i := 0)) pew_int (fun _ _ => rfl)) paw_nil))) pew_int)))))

theorem len_is_place (c : Cs) : ∀ ws M Q E, sp_is_place c ws M Q E → ws.length = 2 := by
  intro ws M Q E h; unfold sp_is_place at h; exact pS_len ws M Q E h
abbrev s_is_place : Stmt := topS 20
theorem sc_is_place : FnScope ["line", "thing"] ["line", "thing"] (defScope s_is_place) := ⟨rfl, rfl, rfl, by decide +kernel, rfl, by decide +kernel, by decide +kernel⟩
theorem ok_is_place {f : Addr} {fd : FuncData} (F : FunD K "is_place" "is_place" (defArgs s_is_place) (defBody s_is_place) (defScope s_is_place) [] [] f fd)
    (F_is_ratio : FnAt P w K mg base "is_ratio" 2 [] (sp_is_ratio c)) (F_last_of : FnAt P w K mg base "last_of" 1 [] (sp_last_of c)) : FnOk P w K mg base (L2.CX P w) 3 f fd ["line", "thing"] (lift (sp_is_place c)) := by
  refine fnW F sc_is_place (len_is_place c) (t := t_is_place c) (fun cdv A outer s H E hr => ?_) (pu_is_place c)
  have nd := sc_is_place.nd
  have hu := hu_of hr
  have tk : Takes (cxOf (L2.CX P w) P w K mg base ["line", "thing"] "is_place" (defScope s_is_place) f cdv A outer s H E) (fun cls d _ H => E cls d H) := takes_of rfl rfl rfl rfl
  have po : PassesOwn (model P w) (A.deeper (PyProof.Rows.envOfC "is_place" (defScope s_is_place) s.heap.objs.size f cdv)) (PyProof.Rows.envOfC "is_place" (defScope s_is_place) s.heap.objs.size f cdv) (cxOf (L2.CX P w) P w K mg base ["line", "thing"] "is_place" (defScope s_is_place) f cdv A outer s H E).xe := passes_of rfl
  exact (pssw_one (psw_ret (pew_and (pew_f F_is_ratio (hr.mono (by decide)) tk (paw_cons (pew_var (i := 1)) paw_nil)) (pew_one (pew_chain op_le ab_cmp op_le ab_cmp pew_int (pew_ix (pew_var (i := 1)) pew_int (fun _ _ => rfl)) (pew_op op_mulO ab_mul (pew_f F_last_of (hr.mono (by decide)) tk (paw_cons (pew_var (i := 0)) paw_nil)) (pew_ix (pew_var (i := 1)) pew_int (fun _ _ => rfl))))))))

theorem len_look_at_place (c : Cs) : ∀ ws M Q E, sp_look_at_place c ws M Q E → ws.length = 2 := by
  intro ws M Q E h; unfold sp_look_at_place at h; exact pS_len ws M Q E h
abbrev s_look_at_place : Stmt := topS 21
theorem sc_look_at_place : FnScope ["line", "thing"] ["line", "thing"] (defScope s_look_at_place) := ⟨rfl, rfl, rfl, by decide +kernel, rfl, by decide +kernel, by decide +kernel⟩
theorem ok_look_at_place {f : Addr} {fd : FuncData} (F : FunD K "look_at_place" "look_at_place" (defArgs s_look_at_place) (defBody s_look_at_place) (defScope s_look_at_place) [] [] f fd)
    (F_is_place : FnAt P w K mg base "is_place" 3 [] (sp_is_place c)) (E_NoPlace : ExCls K mg "NoPlace" c.NoPlace) : FnOk P w K mg base (L2.CX P w) 4 f fd ["line", "thing"] (lift (sp_look_at_place c)) := by
  refine fnW F sc_look_at_place (len_look_at_place c) (t := t_look_at_place c) (fun cdv A outer s H E hr => ?_) (pu_look_at_place c)
  have nd := sc_look_at_place.nd
  have hu := hu_of hr
  have tk : Takes (cxOf (L2.CX P w) P w K mg base ["line", "thing"] "look_at_place" (defScope s_look_at_place) f cdv A outer s H E) (fun cls d _ H => E cls d H) := takes_of rfl rfl rfl rfl
  have po : PassesOwn (model P w) (A.deeper (PyProof.Rows.envOfC "look_at_place" (defScope s_look_at_place) s.heap.objs.size f cdv)) (PyProof.Rows.envOfC "look_at_place" (defScope s_look_at_place) s.heap.objs.size f cdv) (cxOf (L2.CX P w) P w K mg base ["line", "thing"] "look_at_place" (defScope s_look_at_place) f cdv A outer s H E).xe := passes_of rfl
  exact (pssw_one (psw_if (ptw_not (ptw_val (pew_f F_is_place (hr.mono (by decide)) tk (paw_cons (pew_var (i := 0)) (paw_cons (pew_var (i := 1)) paw_nil)))))
  (pssw_one (psw_raise rfl tk E_NoPlace rfl))
  pssw_nil))

theorem len_ratio (c : Cs) : ∀ ws M Q E, sp_ratio c ws M Q E → ws.length = 2 := by
  intro ws M Q E h; unfold sp_ratio at h; exact pS_len ws M Q E h
abbrev s_ratio : Stmt := topS 8
theorem sc_ratio : FnScope ["top", "bottom", "by"] ["top", "bottom"] (defScope s_ratio) := ⟨rfl, rfl, rfl, by decide +kernel, rfl, by decide +kernel, by decide +kernel⟩
theorem ok_ratio {f : Addr} {fd : FuncData} (F : FunD K "ratio" "ratio" (defArgs s_ratio) (defBody s_ratio) (defScope s_ratio) [V.int 1] [] f fd)
    (F_is_whole : FnAt P w K mg base "is_whole" 1 [] (sp_is_whole c)) (E_NoRatio : ExCls K mg "NoRatio" c.NoRatio) (g_abs : mg "abs" = none) (F_divisor : FnAt P w K mg base "divisor" 1 [] (sp_divisor c)) : FnOk P w K mg base (L2.CX P w) 2 f fd ["top", "bottom"] (lift (sp_ratio c)) := by
  refine fnW F sc_ratio (len_ratio c) (t := t_ratio c) (fun cdv A outer s H E hr => ?_) (pu_ratio c)
  have nd := sc_ratio.nd
  have hu := hu_of hr
  have tk : Takes (cxOf (L2.CX P w) P w K mg base ["top", "bottom", "by"] "ratio" (defScope s_ratio) f cdv A outer s H E) (fun cls d _ H => E cls d H) := takes_of rfl rfl rfl rfl
  have po : PassesOwn (model P w) (A.deeper (PyProof.Rows.envOfC "ratio" (defScope s_ratio) s.heap.objs.size f cdv)) (PyProof.Rows.envOfC "ratio" (defScope s_ratio) s.heap.objs.size f cdv) (cxOf (L2.CX P w) P w K mg base ["top", "bottom", "by"] "ratio" (defScope s_ratio) f cdv A outer s H E).xe := passes_of rfl
  exact (pssw_cons (psw_if (ptw_bool (pww_or (ptw_not (ptw_val (pew_f F_is_whole (hr.mono (by decide)) tk (paw_cons (pew_var (i := 0)) paw_nil)))) (pww_or (ptw_not (ptw_val (pew_f F_is_whole (hr.mono (by decide)) tk (paw_cons (pew_var (i := 1)) paw_nil)))) (pww_or1 (ptw_cmp (op_eqD hr.units) ab_eq (nomark _) (pew_var (i := 1)) pew_int)))))
  (pssw_one (psw_raise rfl tk E_NoRatio rfl))
  pssw_nil)
  (pssw_cons (psw_set (i := 2) nd (pew_f F_divisor (hr.mono (by decide)) tk (paw_cons (pew_var (i := 0)) (paw_cons (pew_callB call_abs ab_abs rfl g_abs (by decide +kernel) (paw_cons (pew_var (i := 1)) paw_nil)) paw_nil))))
  (pssw_cons (psw_if (ptw_cmp op_lt ab_cmp (nomark _) (pew_var (i := 1)) pew_int)
  (pssw_one (psw_set (i := 2) nd (pew_op op_sub ab_sub pew_int (pew_var (i := 2)))))
  pssw_nil)
  (pssw_one (psw_ret (pew_tup (paw_cons (pew_op op_fdivG ab_div (pew_var (i := 0)) (pew_var (i := 2))) (paw_cons (pew_op op_fdivG ab_div (pew_var (i := 1)) (pew_var (i := 2))) paw_nil))))))))

theorem len_minus (c : Cs) : ∀ ws M Q E, sp_minus c ws M Q E → ws.length = 2 := by
  intro ws M Q E h; unfold sp_minus at h; exact pS_len ws M Q E h
abbrev s_minus : Stmt := topS 11
theorem sc_minus : FnScope ["a", "b"] ["a", "b"] (defScope s_minus) := ⟨rfl, rfl, rfl, by decide +kernel, rfl, by decide +kernel, by decide +kernel⟩
theorem ok_minus {f : Addr} {fd : FuncData} (F : FunD K "minus" "minus" (defArgs s_minus) (defBody s_minus) (defScope s_minus) [] [] f fd)
    (F_ratio : FnAt P w K mg base "ratio" 2 [] (sp_ratio c)) : FnOk P w K mg base (L2.CX P w) 3 f fd ["a", "b"] (lift (sp_minus c)) := by
  refine fnW F sc_minus (len_minus c) (t := t_minus c) (fun cdv A outer s H E hr => ?_) (pu_minus c)
  have nd := sc_minus.nd
  have hu := hu_of hr
  have tk : Takes (cxOf (L2.CX P w) P w K mg base ["a", "b"] "minus" (defScope s_minus) f cdv A outer s H E) (fun cls d _ H => E cls d H) := takes_of rfl rfl rfl rfl
  have po : PassesOwn (model P w) (A.deeper (PyProof.Rows.envOfC "minus" (defScope s_minus) s.heap.objs.size f cdv)) (PyProof.Rows.envOfC "minus" (defScope s_minus) s.heap.objs.size f cdv) (cxOf (L2.CX P w) P w K mg base ["a", "b"] "minus" (defScope s_minus) f cdv A outer s H E).xe := passes_of rfl
  exact (pssw_one (psw_ret (pew_f F_ratio (hr.mono (by decide)) tk (paw_cons (pew_op op_sub ab_sub (pew_op op_mulO ab_mul (pew_ix (pew_var (i := 0)) pew_int (fun _ _ => rfl)) (pew_ix (pew_var (i := 1)) pew_int (fun _ _ => rfl))) (pew_op op_mulO ab_mul (pew_ix (pew_var (i := 1)) pew_int (fun _ _ => rfl)) (pew_ix (pew_var (i := 0)) pew_int (fun _ _ => rfl)))) (paw_cons (pew_op op_mulO ab_mul (pew_ix (pew_var (i := 0)) pew_int (fun _ _ => rfl)) (pew_ix (pew_var (i := 1)) pew_int (fun _ _ => rfl))) paw_nil)))))

theorem len_plus (c : Cs) : ∀ ws M Q E, sp_plus c ws M Q E → ws.length = 2 := by
  intro ws M Q E h; unfold sp_plus at h; exact pS_len ws M Q E h
abbrev s_plus : Stmt := topS 10
theorem sc_plus : FnScope ["a", "b"] ["a", "b"] (defScope s_plus) := ⟨rfl, rfl, rfl, by decide +kernel, rfl, by decide +kernel, by decide +kernel⟩
theorem ok_plus {f : Addr} {fd : FuncData} (F : FunD K "plus" "plus" (defArgs s_plus) (defBody s_plus) (defScope s_plus) [] [] f fd)
    (F_ratio : FnAt P w K mg base "ratio" 2 [] (sp_ratio c)) : FnOk P w K mg base (L2.CX P w) 3 f fd ["a", "b"] (lift (sp_plus c)) := by
  refine fnW F sc_plus (len_plus c) (t := t_plus c) (fun cdv A outer s H E hr => ?_) (pu_plus c)
  have nd := sc_plus.nd
  have hu := hu_of hr
  have tk : Takes (cxOf (L2.CX P w) P w K mg base ["a", "b"] "plus" (defScope s_plus) f cdv A outer s H E) (fun cls d _ H => E cls d H) := takes_of rfl rfl rfl rfl
  have po : PassesOwn (model P w) (A.deeper (PyProof.Rows.envOfC "plus" (defScope s_plus) s.heap.objs.size f cdv)) (PyProof.Rows.envOfC "plus" (defScope s_plus) s.heap.objs.size f cdv) (cxOf (L2.CX P w) P w K mg base ["a", "b"] "plus" (defScope s_plus) f cdv A outer s H E).xe := passes_of rfl
  exact (pssw_one (psw_ret (pew_f F_ratio (hr.mono (by decide)) tk (paw_cons (pew_op op_addG ab_add (pew_op op_mulO ab_mul (pew_ix (pew_var (i := 0)) pew_int (fun _ _ => rfl)) (pew_ix (pew_var (i := 1)) pew_int (fun _ _ => rfl))) (pew_op op_mulO ab_mul (pew_ix (pew_var (i := 1)) pew_int (fun _ _ => rfl)) (pew_ix (pew_var (i := 0)) pew_int (fun _ _ => rfl)))) (paw_cons (pew_op op_mulO ab_mul (pew_ix (pew_var (i := 0)) pew_int (fun _ _ => rfl)) (pew_ix (pew_var (i := 1)) pew_int (fun _ _ => rfl))) paw_nil)))))

theorem len_times (c : Cs) : ∀ ws M Q E, sp_times c ws M Q E → ws.length = 2 := by
  intro ws M Q E h; unfold sp_times at h; exact pS_len ws M Q E h
abbrev s_times : Stmt := topS 12
theorem sc_times : FnScope ["a", "b"] ["a", "b"] (defScope s_times) := ⟨rfl, rfl, rfl, by decide +kernel, rfl, by decide +kernel, by decide +kernel⟩
theorem ok_times {f : Addr} {fd : FuncData} (F : FunD K "times" "times" (defArgs s_times) (defBody s_times) (defScope s_times) [] [] f fd)
    (F_ratio : FnAt P w K mg base "ratio" 2 [] (sp_ratio c)) : FnOk P w K mg base (L2.CX P w) 3 f fd ["a", "b"] (lift (sp_times c)) := by
  refine fnW F sc_times (len_times c) (t := t_times c) (fun cdv A outer s H E hr => ?_) (pu_times c)
  have nd := sc_times.nd
  have hu := hu_of hr
  have tk : Takes (cxOf (L2.CX P w) P w K mg base ["a", "b"] "times" (defScope s_times) f cdv A outer s H E) (fun cls d _ H => E cls d H) := takes_of rfl rfl rfl rfl
  have po : PassesOwn (model P w) (A.deeper (PyProof.Rows.envOfC "times" (defScope s_times) s.heap.objs.size f cdv)) (PyProof.Rows.envOfC "times" (defScope s_times) s.heap.objs.size f cdv) (cxOf (L2.CX P w) P w K mg base ["a", "b"] "times" (defScope s_times) f cdv A outer s H E).xe := passes_of rfl
  exact (pssw_one (psw_ret (pew_f F_ratio (hr.mono (by decide)) tk (paw_cons (pew_op op_mulO ab_mul (pew_ix (pew_var (i := 0)) pew_int (fun _ _ => rfl)) (pew_ix (pew_var (i := 1)) pew_int (fun _ _ => rfl))) (paw_cons (pew_op op_mulO ab_mul (pew_ix (pew_var (i := 0)) pew_int (fun _ _ => rfl)) (pew_ix (pew_var (i := 1)) pew_int (fun _ _ => rfl))) paw_nil)))))

theorem len_point_at (c : Cs) : ∀ ws M Q E, sp_point_at c ws M Q E → ws.length = 2 := by
  intro ws M Q E h; unfold sp_point_at at h; exact pS_len ws M Q E h
abbrev s_point_at : Stmt := topS 23
theorem sc_point_at : FnScope ["line", "place", "number", "begin", "end", "part", "x"] ["line", "place"] (defScope s_point_at) := ⟨rfl, rfl, rfl, by decide +kernel, rfl, by decide +kernel, by decide +kernel⟩
theorem ok_point_at {f : Addr} {fd : FuncData} (F : FunD K "point_at" "point_at" (defArgs s_point_at) (defBody s_point_at) (defScope s_point_at) [] [] f fd)
    (F_look_at_place : FnAt P w K mg base "look_at_place" 4 [] (sp_look_at_place c)) (F_floor_of : FnAt P w K mg base "floor_of" 1 [] (sp_floor_of c)) (F_ends_of : FnAt P w K mg base "ends_of" 2 [] (sp_ends_of c)) (F_minus : FnAt P w K mg base "minus" 3 [] (sp_minus c)) (F_times : FnAt P w K mg base "times" 3 [] (sp_times c)) (F_plus : FnAt P w K mg base "plus" 3 [] (sp_plus c)) : FnOk P w K mg base (L2.CX P w) 5 f fd ["line", "place"] (lift (sp_point_at c)) := by
  refine fnW F sc_point_at (len_point_at c) (t := t_point_at c) (fun cdv A outer s H E hr => ?_) (pu_point_at c)
  have nd := sc_point_at.nd
  have hu := hu_of hr
  have tk : Takes (cxOf (L2.CX P w) P w K mg base ["line", "place", "number", "begin", "end", "part", "x"] "point_at" (defScope s_point_at) f cdv A outer s H E) (fun cls d _ H => E cls d H) := takes_of rfl rfl rfl rfl
  have po : PassesOwn (model P w) (A.deeper (PyProof.Rows.envOfC "point_at" (defScope s_point_at) s.heap.objs.size f cdv)) (PyProof.Rows.envOfC "point_at" (defScope s_point_at) s.heap.objs.size f cdv) (cxOf (L2.CX P w) P w K mg base ["line", "place", "number", "begin", "end", "part", "x"] "point_at" (defScope s_point_at) f cdv A outer s H E).xe := passes_of rfl
  exact (pssw_cons (psw_expr (pew_f F_look_at_place (hr.mono (by decide)) tk (paw_cons (pew_var (i := 0)) (paw_cons (pew_var (i := 1)) paw_nil))))
  (pssw_cons (psw_set (i := 2) nd (pew_f F_floor_of (hr.mono (by decide)) tk (paw_cons (pew_var (i := 1)) paw_nil)))
  (pssw_cons (psw_asg (vs := [3, 4]) (pew_f F_ends_of (hr.mono (by decide)) tk (paw_cons (pew_var (i := 0)) (paw_cons (pew_var (i := 2)) paw_nil))) (pgw_tup rfl (pgsw_cons (pgw_name (i := 3) nd) (pgsw_cons (pgw_name (i := 4) nd) pgsw_nil))))
  (pssw_cons (psw_set (i := 5) nd (pew_f F_minus (hr.mono (by decide)) tk (paw_cons (pew_var (i := 1)) (paw_cons (pew_tup (paw_cons (pew_var (i := 2)) (paw_cons pew_int paw_nil))) paw_nil))))
  (pssw_cons (psw_set (i := 6) nd (pew_f F_plus (hr.mono (by decide)) tk (paw_cons (pew_tup (paw_cons (pew_ix (pew_var (i := 3)) pew_int (fun _ _ => rfl)) (paw_cons pew_int paw_nil))) (paw_cons (pew_f F_times (hr.mono (by decide)) tk (paw_cons (pew_var (i := 5)) (paw_cons (pew_tup (paw_cons (pew_op op_sub ab_sub (pew_ix (pew_var (i := 4)) pew_int (fun _ _ => rfl)) (pew_ix (pew_var (i := 3)) pew_int (fun _ _ => rfl))) (paw_cons pew_int paw_nil))) paw_nil))) paw_nil))))
  (pssw_one (psw_ret (pew_tup (paw_cons (pew_var (i := 6)) (paw_cons (pew_f F_plus (hr.mono (by decide)) tk (paw_cons (pew_tup (paw_cons (pew_ix (pew_var (i := 3)) pew_int (fun _ _ => rfl)) (paw_cons pew_int paw_nil))) (paw_cons (pew_f F_times (hr.mono (by decide)) tk (paw_cons (pew_var (i := 5)) (paw_cons (pew_tup (paw_cons (pew_op op_sub ab_sub (pew_ix (pew_var (i := 4)) pew_int (fun _ _ => rfl)) (pew_ix (pew_var (i := 3)) pew_int (fun _ _ => rfl))) (paw_cons pew_int paw_nil))) paw_nil))) paw_nil))) paw_nil))))))))))

theorem len_square_between (c : Cs) : ∀ ws M Q E, sp_square_between c ws M Q E → ws.length = 2 := by
  intro ws M Q E h; unfold sp_square_between at h; exact pS_len ws M Q E h
abbrev s_square_between : Stmt := topS 24
theorem sc_square_between : FnScope ["point", "other", "x", "y"] ["point", "other"] (defScope s_square_between) := ⟨rfl, rfl, rfl, by decide +kernel, rfl, by decide +kernel, by decide +kernel⟩
theorem ok_square_between {f : Addr} {fd : FuncData} (F : FunD K "square_between" "square_between" (defArgs s_square_between) (defBody s_square_between) (defScope s_square_between) [] [] f fd)
    (F_minus : FnAt P w K mg base "minus" 3 [] (sp_minus c)) (F_times : FnAt P w K mg base "times" 3 [] (sp_times c)) (F_plus : FnAt P w K mg base "plus" 3 [] (sp_plus c)) : FnOk P w K mg base (L2.CX P w) 4 f fd ["point", "other"] (lift (sp_square_between c)) := by
  refine fnW F sc_square_between (len_square_between c) (t := t_square_between c) (fun cdv A outer s H E hr => ?_) (pu_square_between c)
  have nd := sc_square_between.nd
  have hu := hu_of hr
  have tk : Takes (cxOf (L2.CX P w) P w K mg base ["point", "other", "x", "y"] "square_between" (defScope s_square_between) f cdv A outer s H E) (fun cls d _ H => E cls d H) := takes_of rfl rfl rfl rfl
  have po : PassesOwn (model P w) (A.deeper (PyProof.Rows.envOfC "square_between" (defScope s_square_between) s.heap.objs.size f cdv)) (PyProof.Rows.envOfC "square_between" (defScope s_square_between) s.heap.objs.size f cdv) (cxOf (L2.CX P w) P w K mg base ["point", "other", "x", "y"] "square_between" (defScope s_square_between) f cdv A outer s H E).xe := passes_of rfl
  exact (pssw_cons (psw_set (i := 2) nd (pew_f F_minus (hr.mono (by decide)) tk (paw_cons (pew_ix (pew_var (i := 0)) pew_int (fun _ _ => rfl)) (paw_cons (pew_ix (pew_var (i := 1)) pew_int (fun _ _ => rfl)) paw_nil))))
  (pssw_cons (psw_set (i := 3) nd (pew_f F_minus (hr.mono (by decide)) tk (paw_cons (pew_ix (pew_var (i := 0)) pew_int (fun _ _ => rfl)) (paw_cons (pew_ix (pew_var (i := 1)) pew_int (fun _ _ => rfl)) paw_nil))))
  (pssw_one (psw_ret (pew_f F_plus (hr.mono (by decide)) tk (paw_cons (pew_f F_times (hr.mono (by decide)) tk (paw_cons (pew_var (i := 2)) (paw_cons (pew_var (i := 2)) paw_nil))) (paw_cons (pew_f F_times (hr.mono (by decide)) tk (paw_cons (pew_var (i := 3)) (paw_cons (pew_var (i := 3)) paw_nil))) paw_nil)))))))

theorem len_square_of (c : Cs) : ∀ ws M Q E, sp_square_of c ws M Q E → ws.length = 4 := by
  intro ws M Q E h; unfold sp_square_of at h; exact pS_len ws M Q E h
abbrev s_square_of : Stmt := topS 25
theorem sc_square_of : FnScope ["one", "x", "other", "y"] ["one", "x", "other", "y"] (defScope s_square_of) := ⟨rfl, rfl, rfl, by decide +kernel, rfl, by decide +kernel, by decide +kernel⟩
theorem ok_square_of {f : Addr} {fd : FuncData} (F : FunD K "square_of" "square_of" (defArgs s_square_of) (defBody s_square_of) (defScope s_square_of) [] [] f fd)
    (F_point_at : FnAt P w K mg base "point_at" 5 [] (sp_point_at c)) (F_square_between : FnAt P w K mg base "square_between" 4 [] (sp_square_between c)) : FnOk P w K mg base (L2.CX P w) 6 f fd ["one", "x", "other", "y"] (lift (sp_square_of c)) := by
  refine fnW F sc_square_of (len_square_of c) (t := t_square_of c) (fun cdv A outer s H E hr => ?_) (pu_square_of c)
  have nd := sc_square_of.nd
  have hu := hu_of hr
  have tk : Takes (cxOf (L2.CX P w) P w K mg base ["one", "x", "other", "y"] "square_of" (defScope s_square_of) f cdv A outer s H E) (fun cls d _ H => E cls d H) := takes_of rfl rfl rfl rfl
  have po : PassesOwn (model P w) (A.deeper (PyProof.Rows.envOfC "square_of" (defScope s_square_of) s.heap.objs.size f cdv)) (PyProof.Rows.envOfC "square_of" (defScope s_square_of) s.heap.objs.size f cdv) (cxOf (L2.CX P w) P w K mg base ["one", "x", "other", "y"] "square_of" (defScope s_square_of) f cdv A outer s H E).xe := passes_of rfl
  exact (pssw_one (psw_ret (pew_f F_square_between (hr.mono (by decide)) tk (paw_cons (pew_f F_point_at (hr.mono (by decide)) tk (paw_cons (pew_var (i := 0)) (paw_cons (pew_var (i := 1)) paw_nil))) (paw_cons (pew_f F_point_at (hr.mono (by decide)) tk (paw_cons (pew_var (i := 2)) (paw_cons (pew_var (i := 3)) paw_nil))) paw_nil)))))

theorem len_squares_of (c : Cs) : ∀ ws M Q E, sp_squares_of c ws M Q E → ws.length = 2 := by
  intro ws M Q E h; unfold sp_squares_of at h; exact pS_len ws M Q E h
abbrev s_squares_of : Stmt := topS 27
theorem sc_squares_of : FnScope ["one", "other", "table", "x", "y"] ["one", "other"] (defScope s_squares_of) := ⟨rfl, rfl, rfl, by decide +kernel, rfl, by decide +kernel, by decide +kernel⟩
theorem ok_squares_of {f : Addr} {fd : FuncData} (F : FunD K "squares_of" "squares_of" (defArgs s_squares_of) (defBody s_squares_of) (defScope s_squares_of) [] [] f fd)
    (g_len : mg "len" = none) (g_range : mg "range" = none) (F_square_of : FnAt P w K mg base "square_of" 6 [] (sp_square_of c)) : FnOk P w K mg base (L2.CX P w) 7 f fd ["one", "other"] (lift (sp_squares_of c)) := by
  refine fnW F sc_squares_of (len_squares_of c) (t := t_squares_of c) (fun cdv A outer s H E hr => ?_) (pu_squares_of c)
  have nd := sc_squares_of.nd
  have hu := hu_of hr
  have tk : Takes (cxOf (L2.CX P w) P w K mg base ["one", "other", "table", "x", "y"] "squares_of" (defScope s_squares_of) f cdv A outer s H E) (fun cls d _ H => E cls d H) := takes_of rfl rfl rfl rfl
  have po : PassesOwn (model P w) (A.deeper (PyProof.Rows.envOfC "squares_of" (defScope s_squares_of) s.heap.objs.size f cdv)) (PyProof.Rows.envOfC "squares_of" (defScope s_squares_of) s.heap.objs.size f cdv) (cxOf (L2.CX P w) P w K mg base ["one", "other", "table", "x", "y"] "squares_of" (defScope s_squares_of) f cdv A outer s H E).xe := passes_of rfl
  exact (pssw_cons (psw_set (i := 2) nd (pew_lstC paw_nil))
  (pssw_cons (psw_for (vs := [3]) po rfl (piw_range1 rfl g_range (paw_cons (pew_callB call_len ab_len rfl g_len (by decide +kernel) (paw_cons (pew_var (i := 0)) paw_nil)) paw_nil)) (pgw_name (i := 3) nd)
  (pssw_one (psw_expr (pew_bm PySem.F.plainAttrs_list PySem.F.slot_list_append PySem.F.type_list_append mt_append ab_append (pew_var (i := 2)) (paw_cons (pew_fz (pew_lc (own := [("y", 4)]) rfl nd (piw_range1 rfl g_range (paw_cons (pew_callB call_len ab_len rfl g_len (by decide +kernel) (paw_cons (pew_var (i := 1)) paw_nil)) paw_nil)) (blkOk_by (own := [("y", 4)]) (N := ["one", "other", "table", "x", "y"]) (sc := defScope s_squares_of) (by decide +kernel)) (fun _ _ _ _ _ => (pgw_name (i := 4) nd)) (fun _ _ _ _ _ => ptsw_nil) (fun _ _ _ _ _ => (pew_f F_square_of (hr.mono (by decide)) (takesF rfl) (paw_cons (pew_var (i := 0)) (paw_cons (pew_tup (paw_cons (pew_var (i := 3)) (paw_cons pew_int paw_nil))) (paw_cons (pew_var (i := 1)) (paw_cons (pew_tup (paw_cons (pew_var (i := 4)) (paw_cons pew_int paw_nil))) paw_nil)))))))) paw_nil)))))
  (pssw_one (psw_ret (pew_fz (pew_var (i := 2)))))))

abbrev s_hop_fence : Stmt := topS 34
theorem sc_hop_fence : FnScope ["one", "other", "square", "also", "far"] ["one", "other", "square", "also"] (defScope s_hop_fence) := ⟨rfl, rfl, rfl, by decide +kernel, rfl, by decide +kernel, by decide +kernel⟩
theorem ok_hop_fence {f : Addr} {fd : FuncData} (F : FunD K "hop_fence" "hop_fence" (defArgs s_hop_fence) (defBody s_hop_fence) (defScope s_hop_fence) [] [] f fd)
    (F_squares_of : FnAt P w K mg base "squares_of" 7 [] (sp_squares_of c)) (F_far_pairs : FnAt P w K mg base "far_pairs" 2 [] (sp_far_pairs c)) (g_len : mg "len" = none) (F_fence_among : FnAt P w K mg base "fence_among" 2 [] (sp_fence_among c)) : FnOk P w K mg base (L2.CX P w) 8 f fd ["one", "other", "square", "also"] (lift (sp_hop_fence c)) := by
  refine fnW F sc_hop_fence (len_hop_fence c) (t := t_hop_fence c) (fun cdv A outer s H E hr => ?_) (pu_hop_fence c)
  have nd := sc_hop_fence.nd
  have hu := hu_of hr
  have tk : Takes (cxOf (L2.CX P w) P w K mg base ["one", "other", "square", "also", "far"] "hop_fence" (defScope s_hop_fence) f cdv A outer s H E) (fun cls d _ H => E cls d H) := takes_of rfl rfl rfl rfl
  have po : PassesOwn (model P w) (A.deeper (PyProof.Rows.envOfC "hop_fence" (defScope s_hop_fence) s.heap.objs.size f cdv)) (PyProof.Rows.envOfC "hop_fence" (defScope s_hop_fence) s.heap.objs.size f cdv) (cxOf (L2.CX P w) P w K mg base ["one", "other", "square", "also", "far"] "hop_fence" (defScope s_hop_fence) f cdv A outer s H E).xe := passes_of rfl
  exact (pssw_cons (psw_set (i := 4) nd (pew_f F_far_pairs (hr.mono (by decide)) tk (paw_cons (pew_f F_squares_of (hr.mono (by decide)) tk (paw_cons (pew_var (i := 0)) (paw_cons (pew_var (i := 1)) paw_nil))) (paw_cons (pew_var (i := 2)) (paw_cons (pew_var (i := 3)) paw_nil)))))
  (pssw_one (psw_ret (pew_f F_fence_among (hr.mono (by decide)) tk (paw_cons (pew_var (i := 4)) (paw_cons (pew_op op_sub ab_sub (pew_callB call_len ab_len rfl g_len (by decide +kernel) (paw_cons (pew_var (i := 0)) paw_nil)) pew_int) (paw_cons (pew_op op_sub ab_sub (pew_callB call_len ab_len rfl g_len (by decide +kernel) (paw_cons (pew_var (i := 1)) paw_nil)) pew_int) paw_nil)))))))

theorem len_reached (c : Cs) : ∀ ws M Q E, sp_reached c ws M Q E → ws.length = 2 := by
  intro ws M Q E h; unfold sp_reached at h; exact pS_len ws M Q E h
abbrev s_reached : Stmt := topS 28
theorem sc_reached : FnScope ["table", "square", "ahead", "x", "row", "y", "here", "pair"] ["table", "square"] (defScope s_reached) := ⟨rfl, rfl, rfl, by decide +kernel, rfl, by decide +kernel, by decide +kernel⟩
theorem ok_reached {f : Addr} {fd : FuncData} (F : FunD K "reached" "reached" (defArgs s_reached) (defBody s_reached) (defScope s_reached) [] [] f fd)
    (F_less : FnAt P w K mg base "less" 1 [] (sp_less c)) (g_enumerate : mg "enumerate" = none) : FnOk P w K mg base (L2.CX P w) 2 f fd ["table", "square"] (lift (sp_reached c)) := by
  refine fnW F sc_reached (len_reached c) (t := t_reached c) (fun cdv A outer s H E hr => ?_) (pu_reached c)
  have nd := sc_reached.nd
  have hu := hu_of hr
  have tk : Takes (cxOf (L2.CX P w) P w K mg base ["table", "square", "ahead", "x", "row", "y", "here", "pair"] "reached" (defScope s_reached) f cdv A outer s H E) (fun cls d _ H => E cls d H) := takes_of rfl rfl rfl rfl
  have po : PassesOwn (model P w) (A.deeper (PyProof.Rows.envOfC "reached" (defScope s_reached) s.heap.objs.size f cdv)) (PyProof.Rows.envOfC "reached" (defScope s_reached) s.heap.objs.size f cdv) (cxOf (L2.CX P w) P w K mg base ["table", "square", "ahead", "x", "row", "y", "here", "pair"] "reached" (defScope s_reached) f cdv A outer s H E).xe := passes_of rfl
  exact (pssw_cons (psw_set (i := 2) nd pew_dnew)
  (pssw_cons (psw_if (ptw_not (ptw_val (pew_f F_less (hr.mono (by decide)) tk (paw_cons (pew_var (i := 1)) (paw_cons (pew_ix (pew_ix (pew_var (i := 0)) pew_int (fun _ _ => rfl)) pew_int (fun _ _ => rfl)) paw_nil)))))
  (pssw_one (psw_dput hu pew_non (pew_var (i := 2)) (pew_tup (paw_cons pew_int (paw_cons pew_int paw_nil)))))
  pssw_nil)
  (pssw_cons (psw_for (vs := [3, 4]) po rfl (piw_enum rfl g_enumerate (paw_cons (pew_var (i := 0)) paw_nil)) (pgw_tup rfl (pgsw_cons (pgw_name (i := 3) nd) (pgsw_cons (pgw_name (i := 4) nd) pgsw_nil)))
  (pssw_one (psw_for (vs := [5, 6]) po rfl (piw_enum rfl g_enumerate (paw_cons (pew_var (i := 4)) paw_nil)) (pgw_tup rfl (pgsw_cons (pgw_name (i := 5) nd) (pgsw_cons (pgw_name (i := 6) nd) pgsw_nil)))
  (pssw_one (psw_for (vs := [7]) po rfl (piw_list (pew_lst (paw_cons (pew_tup (paw_cons (pew_op op_sub ab_sub (pew_var (i := 3)) pew_int) (paw_cons (pew_op op_sub ab_sub (pew_var (i := 5)) pew_int) paw_nil))) (paw_cons (pew_tup (paw_cons (pew_op op_sub ab_sub (pew_var (i := 3)) pew_int) (paw_cons (pew_var (i := 5)) paw_nil))) (paw_cons (pew_tup (paw_cons (pew_var (i := 3)) (paw_cons (pew_op op_sub ab_sub (pew_var (i := 5)) pew_int) paw_nil))) paw_nil))))) (pgw_name (i := 7) nd)
  (pssw_one (psw_if (ptw_bool (pww_and (ptw_din hu (pew_var (i := 7)) (pew_var (i := 2))) (pww_and1 (ptw_not (ptw_val (pew_f F_less (hr.mono (by decide)) tk (paw_cons (pew_var (i := 1)) (paw_cons (pew_var (i := 6)) paw_nil))))))))
  (pssw_one (psw_dput hu (pew_var (i := 7)) (pew_var (i := 2)) (pew_tup (paw_cons (pew_var (i := 3)) (paw_cons (pew_var (i := 5)) paw_nil)))))
  pssw_nil)))))))
  (pssw_one (psw_ret (pew_fz (pew_var (i := 2))))))))

abbrev s_hop_walk : Stmt := topS 33
theorem sc_hop_walk : FnScope ["one", "other", "square", "ahead", "goal"] ["one", "other", "square"] (defScope s_hop_walk) := ⟨rfl, rfl, rfl, by decide +kernel, rfl, by decide +kernel, by decide +kernel⟩
theorem ok_hop_walk {f : Addr} {fd : FuncData} (F : FunD K "hop_walk" "hop_walk" (defArgs s_hop_walk) (defBody s_hop_walk) (defScope s_hop_walk) [] [] f fd)
    (F_squares_of : FnAt P w K mg base "squares_of" 7 [] (sp_squares_of c)) (F_reached : FnAt P w K mg base "reached" 2 [] (sp_reached c)) (g_len : mg "len" = none) (F_traced : FnAt P w K mg base "traced" 1 [] (sp_traced c)) : FnOk P w K mg base (L2.CX P w) 8 f fd ["one", "other", "square"] (lift (sp_hop_walk c)) := by
  refine fnW F sc_hop_walk (len_hop_walk c) (t := t_hop_walk c) (fun cdv A outer s H E hr => ?_) (pu_hop_walk c)
  have nd := sc_hop_walk.nd
  have hu := hu_of hr
  have tk : Takes (cxOf (L2.CX P w) P w K mg base ["one", "other", "square", "ahead", "goal"] "hop_walk" (defScope s_hop_walk) f cdv A outer s H E) (fun cls d _ H => E cls d H) := takes_of rfl rfl rfl rfl
  have po : PassesOwn (model P w) (A.deeper (PyProof.Rows.envOfC "hop_walk" (defScope s_hop_walk) s.heap.objs.size f cdv)) (PyProof.Rows.envOfC "hop_walk" (defScope s_hop_walk) s.heap.objs.size f cdv) (cxOf (L2.CX P w) P w K mg base ["one", "other", "square", "ahead", "goal"] "hop_walk" (defScope s_hop_walk) f cdv A outer s H E).xe := passes_of rfl
  exact (pssw_cons (psw_set (i := 3) nd (pew_f F_reached (hr.mono (by decide)) tk (paw_cons (pew_f F_squares_of (hr.mono (by decide)) tk (paw_cons (pew_var (i := 0)) (paw_cons (pew_var (i := 1)) paw_nil))) (paw_cons (pew_var (i := 2)) paw_nil))))
  (pssw_cons (psw_set (i := 4) nd (pew_tup (paw_cons (pew_op op_sub ab_sub (pew_callB call_len ab_len rfl g_len (by decide +kernel) (paw_cons (pew_var (i := 0)) paw_nil)) pew_int) (paw_cons (pew_op op_sub ab_sub (pew_callB call_len ab_len rfl g_len (by decide +kernel) (paw_cons (pew_var (i := 1)) paw_nil)) pew_int) paw_nil))))
  (pssw_cons (psw_if (ptw_dnotin hu (pew_var (i := 4)) (pew_var (i := 3)))
  (pssw_one (psw_ret pew_non))
  pssw_nil)
  (pssw_one (psw_ret (pew_f F_traced (hr.mono (by decide)) tk (paw_cons (pew_var (i := 3)) (paw_cons (pew_var (i := 4)) paw_nil))))))))

theorem len_look_at_square (c : Cs) : ∀ ws M Q E, sp_look_at_square c ws M Q E → ws.length = 1 := by
  intro ws M Q E h; unfold sp_look_at_square at h; exact pS_len ws M Q E h
abbrev s_look_at_square : Stmt := topS 16
theorem sc_look_at_square : FnScope ["square"] ["square"] (defScope s_look_at_square) := ⟨rfl, rfl, rfl, by decide +kernel, rfl, by decide +kernel, by decide +kernel⟩
theorem ok_look_at_square {f : Addr} {fd : FuncData} (F : FunD K "look_at_square" "look_at_square" (defArgs s_look_at_square) (defBody s_look_at_square) (defScope s_look_at_square) [] [] f fd)
    (F_is_ratio : FnAt P w K mg base "is_ratio" 2 [] (sp_is_ratio c)) (E_NoSquare : ExCls K mg "NoSquare" c.NoSquare) : FnOk P w K mg base (L2.CX P w) 3 f fd ["square"] (lift (sp_look_at_square c)) := by
  refine fnW F sc_look_at_square (len_look_at_square c) (t := t_look_at_square c) (fun cdv A outer s H E hr => ?_) (pu_look_at_square c)
  have nd := sc_look_at_square.nd
  have hu := hu_of hr
  have tk : Takes (cxOf (L2.CX P w) P w K mg base ["square"] "look_at_square" (defScope s_look_at_square) f cdv A outer s H E) (fun cls d _ H => E cls d H) := takes_of rfl rfl rfl rfl
  have po : PassesOwn (model P w) (A.deeper (PyProof.Rows.envOfC "look_at_square" (defScope s_look_at_square) s.heap.objs.size f cdv)) (PyProof.Rows.envOfC "look_at_square" (defScope s_look_at_square) s.heap.objs.size f cdv) (cxOf (L2.CX P w) P w K mg base ["square"] "look_at_square" (defScope s_look_at_square) f cdv A outer s H E).xe := passes_of rfl
  exact (pssw_one (psw_if (ptw_bool (pww_or (ptw_not (ptw_val (pew_f F_is_ratio (hr.mono (by decide)) tk (paw_cons (pew_var (i := 0)) paw_nil)))) (pww_or1 (ptw_cmp op_lt ab_cmp (nomark _) (pew_ix (pew_var (i := 0)) pew_int (fun _ _ => rfl)) pew_int))))
  (pssw_one (psw_raise rfl tk E_NoSquare rfl))
  pssw_nil))

abbrev s_go_hops : Stmt := topS 35
theorem sc_go_hops : FnScope ["one", "other", "square", "walk"] ["one", "other", "square"] (defScope s_go_hops) := ⟨rfl, rfl, rfl, by decide +kernel, rfl, by decide +kernel, by decide +kernel⟩
theorem ok_go_hops {f : Addr} {fd : FuncData} (F : FunD K "go_hops" "go_hops" (defArgs s_go_hops) (defBody s_go_hops) (defScope s_go_hops) [] [] f fd)
    (F_look_at_square : FnAt P w K mg base "look_at_square" 3 [] (sp_look_at_square c)) (F_hop_walk : FnAt P w K mg base "hop_walk" 8 [] (sp_hop_walk c)) (F_hop_fence : FnAt P w K mg base "hop_fence" 8 [] (sp_hop_fence c)) : FnOk P w K mg base (L2.CX P w) 9 f fd ["one", "other", "square"] (lift (sp_go_hops c)) := by
  refine fnW F sc_go_hops (len_go_hops c) (t := t_go_hops c) (fun cdv A outer s H E hr => ?_) (pu_go_hops c)
  have nd := sc_go_hops.nd
  have hu := hu_of hr
  have tk : Takes (cxOf (L2.CX P w) P w K mg base ["one", "other", "square", "walk"] "go_hops" (defScope s_go_hops) f cdv A outer s H E) (fun cls d _ H => E cls d H) := takes_of rfl rfl rfl rfl
  have po : PassesOwn (model P w) (A.deeper (PyProof.Rows.envOfC "go_hops" (defScope s_go_hops) s.heap.objs.size f cdv)) (PyProof.Rows.envOfC "go_hops" (defScope s_go_hops) s.heap.objs.size f cdv) (cxOf (L2.CX P w) P w K mg base ["one", "other", "square", "walk"] "go_hops" (defScope s_go_hops) f cdv A outer s H E).xe := passes_of rfl
  exact (pssw_cons (psw_expr (pew_f F_look_at_square (hr.mono (by decide)) tk (paw_cons (pew_var (i := 2)) paw_nil)))
  (pssw_cons (psw_set (i := 3) nd (pew_f F_hop_walk (hr.mono (by decide)) tk (paw_cons (pew_var (i := 0)) (paw_cons (pew_var (i := 1)) (paw_cons (pew_var (i := 2)) paw_nil)))))
  (pssw_cons (psw_if (ptw_cmp op_notN ab_notN (nomark _) (pew_var (i := 3)) pew_non)
  (pssw_one (psw_ret (pew_tupC (paw_cons pew_str (paw_cons (pew_var (i := 3)) paw_nil)))))
  pssw_nil)
  (pssw_one (psw_ret (pew_tupC (paw_cons pew_str (paw_cons (pew_f F_hop_fence (hr.mono (by decide)) tk (paw_cons (pew_var (i := 0)) (paw_cons (pew_var (i := 1)) (paw_cons (pew_var (i := 2)) (paw_cons pew_bl paw_nil))))) paw_nil))))))))

theorem len_law (c : Cs) : ∀ ws M Q E, sp_law c ws M Q E → ws.length = 1 := by
  intro ws M Q E h; unfold sp_law at h; exact pS_len ws M Q E h
abbrev s_law : Stmt := topS 65
theorem sc_law : FnScope ["script", "one", "other", "first", "second", "cell", "square", "told", "kept"] ["script"] (defScope s_law) := ⟨rfl, rfl, rfl, by decide +kernel, rfl, by decide +kernel, by decide +kernel⟩
theorem ok_law {f : Addr} {fd : FuncData} (F : FunD K "law" "law" (defArgs s_law) (defBody s_law) (defScope s_law) [] [] f fd)
    (F__law_lines : FnAt P w K mg base "_law_lines" 5 [] (sp__law_lines c)) (g_list : mg "list" = none) (F__law_folded : FnAt P w K mg base "_law_folded" 1 [] (sp__law_folded c)) (F__law_begun : FnAt P w K mg base "_law_begun" 1 [] (sp__law_begun c)) (F__law_drawn_leash : FnAt P w K mg base "_law_drawn_leash" 3 [] (sp__law_drawn_leash c)) (F_go_hops : FnAt P w K mg base "go_hops" 9 [] (sp_go_hops c)) (F__law_shown : FnAt P w K mg base "_law_shown" 6 [] (sp__law_shown c)) : FnOk P w K mg base (L2.CX P w) 10 f fd ["script"] (lift (sp_law c)) := by
  refine fnW F sc_law (len_law c) (t := t_law c) (fun cdv A outer s H E hr => ?_) (pu_law c)
  have nd := sc_law.nd
  have hu := hu_of hr
  have tk : Takes (cxOf (L2.CX P w) P w K mg base ["script", "one", "other", "first", "second", "cell", "square", "told", "kept"] "law" (defScope s_law) f cdv A outer s H E) (fun cls d _ H => E cls d H) := takes_of rfl rfl rfl rfl
  have po : PassesOwn (model P w) (A.deeper (PyProof.Rows.envOfC "law" (defScope s_law) s.heap.objs.size f cdv)) (PyProof.Rows.envOfC "law" (defScope s_law) s.heap.objs.size f cdv) (cxOf (L2.CX P w) P w K mg base ["script", "one", "other", "first", "second", "cell", "square", "told", "kept"] "law" (defScope s_law) f cdv A outer s H E).xe := passes_of rfl
  exact (pssw_cons (psw_asg (vs := [1, 2]) (pew_f F__law_lines (hr.mono (by decide)) tk (paw_cons (pew_var (i := 0)) paw_nil)) (pgw_tup rfl (pgsw_cons (pgw_name (i := 1) nd) (pgsw_cons (pgw_name (i := 2) nd) pgsw_nil))))
  (pssw_cons (psw_set (i := 3) nd (pew_fz (pew_callTy call_list_of ab_listC rfl g_list (by decide +kernel) (paw_cons (pew_var (i := 1)) paw_nil))))
  (pssw_cons (psw_set (i := 4) nd (pew_fz (pew_callTy call_list_of ab_listC rfl g_list (by decide +kernel) (paw_cons (pew_var (i := 2)) paw_nil))))
  (pssw_cons (psw_for (vs := [5]) po rfl (piw_list (pew_f F__law_folded (hr.mono (by decide)) tk (paw_cons (pew_fz (pew_slice sl_list ab_sl (pew_var (i := 0)) (pow_some pew_int) pow_none)) (paw_cons pew_int paw_nil)))) (pgw_name (i := 5) nd)
  (pssw_cons (psw_set (i := 6) nd (pew_f F__law_drawn_leash (hr.mono (by decide)) tk (paw_cons (pew_f F__law_begun (hr.mono (by decide)) tk (paw_cons (pew_var (i := 5)) paw_nil)) (paw_cons (pew_var (i := 1)) (paw_cons (pew_var (i := 2)) paw_nil)))))
  (pssw_cons (psw_set (i := 7) nd (pew_f F_go_hops (hr.mono (by decide)) tk (paw_cons (pew_var (i := 3)) (paw_cons (pew_var (i := 4)) (paw_cons (pew_var (i := 6)) paw_nil)))))
  (pssw_cons (psw_if (ptw_bool (pww_or (ptw_not (ptw_val (pew_bor (pew_f F__law_shown (hr.mono (by decide)) tk (paw_cons (pew_var (i := 1)) (paw_cons (pew_var (i := 2)) (paw_cons (pew_var (i := 7)) (paw_cons (pew_var (i := 6)) paw_nil)))))))) (pww_or (ptw_cmp (op_neD hr.units) ab_ne (nomark _) (pew_var (i := 3)) (pew_var (i := 1))) (pww_or1 (ptw_cmp (op_neD hr.units) ab_ne (nomark _) (pew_var (i := 4)) (pew_var (i := 2)))))))
  (pssw_one (psw_ret pew_bl))
  pssw_nil)
  (pssw_cons (psw_set (i := 8) nd (pew_tup (paw_cons (pew_ix (pew_var (i := 7)) pew_int (fun _ _ => rfl)) (paw_cons (pew_fz (pew_callTy call_list_of ab_listC rfl g_list (by decide +kernel) (paw_cons (pew_ix (pew_var (i := 7)) pew_int (fun _ _ => rfl)) paw_nil))) paw_nil))))
  (pssw_cons (psw_expr (pew_bm0 PySem.F.plainAttrs_list PySem.F.slot_list_reverse PySem.F.type_list_reverse mt_reverse ab_reverse (pew_ix (pew_var (i := 7)) pew_int (fun _ _ => rfl))))
  (pssw_cons (psw_expr (pew_bm PySem.F.plainAttrs_list PySem.F.slot_list_append PySem.F.type_list_append mt_append ab_append (pew_ix (pew_var (i := 7)) pew_int (fun _ _ => rfl)) (paw_cons (pew_ix (pew_ix (pew_var (i := 7)) pew_int (fun _ _ => rfl)) pew_int (fun _ _ => rfl)) paw_nil)))
  (pssw_one (psw_if (ptw_cmp (op_neD hr.units) ab_neP (nomark _) (pew_f F_go_hops (hr.mono (by decide)) tk (paw_cons (pew_var (i := 3)) (paw_cons (pew_var (i := 4)) (paw_cons (pew_var (i := 6)) paw_nil)))) (pew_var (i := 8)))
  (pssw_one (psw_ret pew_bl))
  pssw_nil)))))))))
  (pssw_one (psw_ret pew_bl))))))

end
end Lw
namespace Hd
open PySem PySem.Spec PyProof.Rows L2 Lw
def d__law_begun : He.DefD := ⟨("_law_begun", none), "_law_begun", "_law_begun", defArgs s__law_begun, defBody s__law_begun, defScope s__law_begun, [], []⟩
def d__law_apart : He.DefD := ⟨("_law_apart", none), "_law_apart", "_law_apart", defArgs s__law_apart, defBody s__law_apart, defScope s__law_apart, [], []⟩
def d__law_divisor : He.DefD := ⟨("_law_divisor", none), "_law_divisor", "_law_divisor", defArgs s__law_divisor, defBody s__law_divisor, defScope s__law_divisor, [], []⟩
def d__law_ratio : He.DefD := ⟨("_law_ratio", none), "_law_ratio", "_law_ratio", defArgs s__law_ratio, defBody s__law_ratio, defScope s__law_ratio, [], []⟩
def d__law_take : He.DefD := ⟨("_law_take", none), "_law_take", "_law_take", defArgs s__law_take, defBody s__law_take, defScope s__law_take, [], []⟩
def d__law_wide : He.DefD := ⟨("_law_wide", none), "_law_wide", "_law_wide", defArgs s__law_wide, defBody s__law_wide, defScope s__law_wide, [], []⟩
def d__law_drawn_leash : He.DefD := ⟨("_law_drawn_leash", none), "_law_drawn_leash", "_law_drawn_leash", defArgs s__law_drawn_leash, defBody s__law_drawn_leash, defScope s__law_drawn_leash, [], []⟩
def d__law_folded : He.DefD := ⟨("_law_folded", none), "_law_folded", "_law_folded", defArgs s__law_folded, defBody s__law_folded, defScope s__law_folded, [], []⟩
def d__law_cell_at : He.DefD := ⟨("_law_cell_at", none), "_law_cell_at", "_law_cell_at", defArgs s__law_cell_at, defBody s__law_cell_at, defScope s__law_cell_at, [], []⟩
def d__law_drawn_line : He.DefD := ⟨("_law_drawn_line", none), "_law_drawn_line", "_law_drawn_line", defArgs s__law_drawn_line, defBody s__law_drawn_line, defScope s__law_drawn_line, [], []⟩
def d__law_moved : He.DefD := ⟨("_law_moved", none), "_law_moved", "_law_moved", defArgs s__law_moved, defBody s__law_moved, defScope s__law_moved, [], []⟩
def d__law_drawn_other : He.DefD := ⟨("_law_drawn_other", none), "_law_drawn_other", "_law_drawn_other", defArgs s__law_drawn_other, defBody s__law_drawn_other, defScope s__law_drawn_other, [], []⟩
def d__law_lines : He.DefD := ⟨("_law_lines", none), "_law_lines", "_law_lines", defArgs s__law_lines, defBody s__law_lines, defScope s__law_lines, [], []⟩
def d__law_below : He.DefD := ⟨("_law_below", none), "_law_below", "_law_below", defArgs s__law_below, defBody s__law_below, defScope s__law_below, [], []⟩
def d__law_whole : He.DefD := ⟨("_law_whole", none), "_law_whole", "_law_whole", defArgs s__law_whole, defBody s__law_whole, defScope s__law_whole, [], []⟩
def d__law_is_ratio : He.DefD := ⟨("_law_is_ratio", none), "_law_is_ratio", "_law_is_ratio", defArgs s__law_is_ratio, defBody s__law_is_ratio, defScope s__law_is_ratio, [], []⟩
def d__law_is_place : He.DefD := ⟨("_law_is_place", none), "_law_is_place", "_law_is_place", defArgs s__law_is_place, defBody s__law_is_place, defScope s__law_is_place, [], []⟩
def d__law_are_pairs : He.DefD := ⟨("_law_are_pairs", none), "_law_are_pairs", "_law_are_pairs", defArgs s__law_are_pairs, defBody s__law_are_pairs, defScope s__law_are_pairs, [], []⟩
def d__law_back : He.DefD := ⟨("_law_back", none), "_law_back", "_law_back", defArgs s__law_back, defBody s__law_back, defScope s__law_back, [], []⟩
def d__law_near : He.DefD := ⟨("_law_near", none), "_law_near", "_law_near", defArgs s__law_near, defBody s__law_near, defScope s__law_near, [], []⟩
def d__law_steps : He.DefD := ⟨("_law_steps", none), "_law_steps", "_law_steps", defArgs s__law_steps, defBody s__law_steps, defScope s__law_steps, [], []⟩
def d__law_is_fence : He.DefD := ⟨("_law_is_fence", none), "_law_is_fence", "_law_is_fence", defArgs s__law_is_fence, defBody s__law_is_fence, defScope s__law_is_fence, [], []⟩
def d__law_goes : He.DefD := ⟨("_law_goes", none), "_law_goes", "_law_goes", defArgs s__law_goes, defBody s__law_goes, defScope s__law_goes, [], []⟩
def d__law_is_walk : He.DefD := ⟨("_law_is_walk", none), "_law_is_walk", "_law_is_walk", defArgs s__law_is_walk, defBody s__law_is_walk, defScope s__law_is_walk, [], []⟩
def d__law_point_at : He.DefD := ⟨("_law_point_at", none), "_law_point_at", "_law_point_at", defArgs s__law_point_at, defBody s__law_point_at, defScope s__law_point_at, [], []⟩
def d__law_square_of : He.DefD := ⟨("_law_square_of", none), "_law_square_of", "_law_square_of", defArgs s__law_square_of, defBody s__law_square_of, defScope s__law_square_of, [], []⟩
def d__law_walk_square : He.DefD := ⟨("_law_walk_square", none), "_law_walk_square", "_law_walk_square", defArgs s__law_walk_square, defBody s__law_walk_square, defScope s__law_walk_square, [], []⟩
def d__law_shown : He.DefD := ⟨("_law_shown", none), "_law_shown", "_law_shown", defArgs s__law_shown, defBody s__law_shown, defScope s__law_shown, [], []⟩
def d_less : He.DefD := ⟨("less", none), "less", "less", defArgs s_less, defBody s_less, defScope s_less, [], []⟩
def d_far_pairs : He.DefD := ⟨("far_pairs", none), "far_pairs", "far_pairs", defArgs s_far_pairs, defBody s_far_pairs, defScope s_far_pairs, [], []⟩
def d_may_follow : He.DefD := ⟨("may_follow", none), "may_follow", "may_follow", defArgs s_may_follow, defBody s_may_follow, defScope s_may_follow, [], []⟩
def d_traced : He.DefD := ⟨("traced", none), "traced", "traced", defArgs s_traced, defBody s_traced, defScope s_traced, [], []⟩
def d_fence_among : He.DefD := ⟨("fence_among", none), "fence_among", "fence_among", defArgs s_fence_among, defBody s_fence_among, defScope s_fence_among, [], []⟩
def d_last_of : He.DefD := ⟨("last_of", none), "last_of", "last_of", defArgs s_last_of, defBody s_last_of, defScope s_last_of, [], []⟩
def d_ends_of : He.DefD := ⟨("ends_of", none), "ends_of", "ends_of", defArgs s_ends_of, defBody s_ends_of, defScope s_ends_of, [], []⟩
def d_floor_of : He.DefD := ⟨("floor_of", none), "floor_of", "floor_of", defArgs s_floor_of, defBody s_floor_of, defScope s_floor_of, [], []⟩
def d_divisor : He.DefD := ⟨("divisor", none), "divisor", "divisor", defArgs s_divisor, defBody s_divisor, defScope s_divisor, [], []⟩
def d_is_whole : He.DefD := ⟨("is_whole", none), "is_whole", "is_whole", defArgs s_is_whole, defBody s_is_whole, defScope s_is_whole, [], []⟩
def d_is_ratio : He.DefD := ⟨("is_ratio", none), "is_ratio", "is_ratio", defArgs s_is_ratio, defBody s_is_ratio, defScope s_is_ratio, [], []⟩
def d_is_place : He.DefD := ⟨("is_place", none), "is_place", "is_place", defArgs s_is_place, defBody s_is_place, defScope s_is_place, [], []⟩
def d_look_at_place : He.DefD := ⟨("look_at_place", none), "look_at_place", "look_at_place", defArgs s_look_at_place, defBody s_look_at_place, defScope s_look_at_place, [], []⟩
def d_ratio : He.DefD := ⟨("ratio", none), "ratio", "ratio", defArgs s_ratio, defBody s_ratio, defScope s_ratio, [.int 1], []⟩
def d_minus : He.DefD := ⟨("minus", none), "minus", "minus", defArgs s_minus, defBody s_minus, defScope s_minus, [], []⟩
def d_plus : He.DefD := ⟨("plus", none), "plus", "plus", defArgs s_plus, defBody s_plus, defScope s_plus, [], []⟩
def d_times : He.DefD := ⟨("times", none), "times", "times", defArgs s_times, defBody s_times, defScope s_times, [], []⟩
def d_point_at : He.DefD := ⟨("point_at", none), "point_at", "point_at", defArgs s_point_at, defBody s_point_at, defScope s_point_at, [], []⟩
def d_square_between : He.DefD := ⟨("square_between", none), "square_between", "square_between", defArgs s_square_between, defBody s_square_between, defScope s_square_between, [], []⟩
def d_square_of : He.DefD := ⟨("square_of", none), "square_of", "square_of", defArgs s_square_of, defBody s_square_of, defScope s_square_of, [], []⟩
def d_squares_of : He.DefD := ⟨("squares_of", none), "squares_of", "squares_of", defArgs s_squares_of, defBody s_squares_of, defScope s_squares_of, [], []⟩
def d_hop_fence : He.DefD := ⟨("hop_fence", none), "hop_fence", "hop_fence", defArgs s_hop_fence, defBody s_hop_fence, defScope s_hop_fence, [], []⟩
def d_reached : He.DefD := ⟨("reached", none), "reached", "reached", defArgs s_reached, defBody s_reached, defScope s_reached, [], []⟩
def d_hop_walk : He.DefD := ⟨("hop_walk", none), "hop_walk", "hop_walk", defArgs s_hop_walk, defBody s_hop_walk, defScope s_hop_walk, [], []⟩
def d_look_at_square : He.DefD := ⟨("look_at_square", none), "look_at_square", "look_at_square", defArgs s_look_at_square, defBody s_look_at_square, defScope s_look_at_square, [], []⟩
def d_go_hops : He.DefD := ⟨("go_hops", none), "go_hops", "go_hops", defArgs s_go_hops, defBody s_go_hops, defScope s_go_hops, [], []⟩
def d_law : He.DefD := ⟨("law", none), "law", "law", defArgs s_law, defBody s_law, defScope s_law, [], []⟩
def fn : List He.DefD := [d__law_begun, d__law_apart, d__law_divisor, d__law_ratio, d__law_take, d__law_wide, d__law_drawn_leash, d__law_folded, d__law_cell_at, d__law_drawn_line, d__law_moved, d__law_drawn_other, d__law_lines, d__law_below, d__law_whole, d__law_is_ratio, d__law_is_place, d__law_are_pairs, d__law_back, d__law_near, d__law_steps, d__law_is_fence, d__law_goes, d__law_is_walk, d__law_point_at, d__law_square_of, d__law_walk_square, d__law_shown, d_less, d_far_pairs, d_may_follow, d_traced, d_fence_among, d_last_of, d_ends_of, d_floor_of, d_divisor, d_is_whole, d_is_ratio, d_is_place, d_look_at_place, d_ratio, d_minus, d_plus, d_times, d_point_at, d_square_between, d_square_of, d_squares_of, d_hop_fence, d_reached, d_hop_walk, d_look_at_square, d_go_hops, d_law]
def fa : List He.Fa := [.free "abs", .free "range", .free "len", .free "max", .free "min", .free "enumerate", .free "list", .free "reversed", .free "isinstance", .free "int", .free "bool", .free "tuple", .free "zip", .free "str", .free "all", .glo "NoPlace", .exc "NoPlace", .glo "NoRatio", .exc "NoRatio", .glo "NoSquare", .exc "NoSquare", .glo "_law_begun", .glo "_law_apart", .glo "_law_divisor", .glo "_law_ratio", .glo "_law_take", .glo "_law_wide", .glo "_law_drawn_leash", .glo "_law_folded", .glo "_law_cell_at", .glo "_law_drawn_line", .glo "_law_moved", .glo "_law_drawn_other", .glo "_law_lines", .glo "_law_below", .glo "_law_whole", .glo "_law_is_ratio", .glo "_law_is_place", .glo "_law_are_pairs", .glo "_law_back", .glo "_law_near", .glo "_law_steps", .glo "_law_is_fence", .glo "_law_goes", .glo "_law_is_walk", .glo "_law_point_at", .glo "_law_square_of", .glo "_law_walk_square", .glo "_law_shown", .glo "less", .glo "far_pairs", .glo "may_follow", .glo "traced", .glo "fence_among", .glo "last_of", .glo "ends_of", .glo "floor_of", .glo "divisor", .glo "is_whole", .glo "is_ratio", .glo "is_place", .glo "look_at_place", .glo "ratio", .glo "minus", .glo "plus", .glo "times", .glo "point_at", .glo "square_between", .glo "square_of", .glo "squares_of", .glo "hop_fence", .glo "reached", .glo "hop_walk", .glo "look_at_square", .glo "go_hops", .glo "law"]
abbrev R : PySem.W.OpenRow := PySem.W.OpenLaw.row PySem.Challenge.rw_oneleash_k35_whole_papers_of_hops
/-- no list stands in what the hook holds -/
def noLst (K : PySem.W.Frag) : Bool := K.all fun p => match p.2.cls with | .type t => !decide (t = "list") | _ => true
theorem noLst_ok {K : PySem.W.Frag} (h : noLst K = true) {a : Addr} {o : Obj} (e : K.lookup a = some o) (hc : o.cls = .type "list") : False := by
  induction K with
  | nil => cases e
  | cons p r ih =>
    obtain ⟨b, x⟩ := p
    unfold noLst at h
    rw [List.all_cons, Bool.and_eq_true] at h
    rw [List.lookup_cons] at e
    split at e
    · cases e
      have h1 := h.1
      rw [show (b, o).2.cls = .type "list" from hc] at h1
      cases h1
    · exact ih h.2 e
def both (K : PySem.W.Frag) : Bool × He.AlD := (noLst K, He.obsD fa fn K)
def hk : PySem.W.Hook where
  α := Bool × He.AlD
  obs := fun s => both (He.frG s.heap.get? (He.asD s.heap.get? 4))
  val := fun _ => (true, He.valD fn)
  says := fun _ h => ∃ K : PySem.W.Frag, K.In h ∧ noLst K = true ∧ He.SaysD fa fn K
  of := fun _ s e => ⟨He.frG s.heap.get? (He.asD s.heap.get? 4), He.frG_in, congrArg Prod.fst e, congrArg Prod.snd e⟩
  keeps := fun _ _ _ ⟨K, hK, c⟩ k => ⟨K, PySem.W.Frag.In.keeps hK k, c⟩
def ob (s : PySem.W.SharedT) : Bool × He.AlD := both (He.frG (HandSHeadRun.getT s) (He.asD (HandSHeadRun.getT s) 4))
theorem ob_eq (s : PySem.W.SharedT) : ob s = hk.obs s.abs := by
  have e : HandSHeadRun.getT s = s.abs.heap.get? := funext (HandSHeadRun.getT_eq s)
  unfold ob hk
  rw [e]
def lo : List PySem.Str := (["LeashError", "NoRatio", "NoPlace", "NoSquare", "is_whole", "divisor", "ratio", "is_ratio", "plus", "minus", "times", "less", "floor_of", "look_at_square", "last_of", "is_place", "look_at_place", "ends_of", "point_at", "square_between", "square_of", "squares_of", "reached", "traced", "far_pairs", "may_follow", "fence_among", "hop_walk", "hop_fence", "go_hops"] : List PySem.Str) ++ (["_law_cell_at", "_law_folded", "_law_begun", "_law_take", "_law_wide", "_law_drawn_line", "_law_moved", "_law_drawn_other", "_law_lines", "_law_divisor", "_law_ratio", "_law_below", "_law_whole", "_law_is_ratio", "_law_is_place", "_law_near", "_law_are_pairs", "_law_goes", "_law_is_walk", "_law_back", "_law_steps", "_law_is_fence", "_law_point_at", "_law_square_of", "_law_apart", "_law_drawn_leash", "_law_walk_square", "_law_shown"] : List PySem.Str)
theorem run (w : World) : HandSHeadRun.RunEq R (PySem.W.view R.prog [65]) hk ob 4000 lo w := by
  intro os
  kernel_rfl
/-- an own error's class -/
theorem exOk {K : PySem.W.Frag} {mg : Str → Option Value} {x : Str} (g : mg x = some (.ref (He.ga K x))) (e : PySem.W.excIn K (He.ga K x) He.veBase "ValueError.__new__" = true ∧ PySem.W.keepIn K (.ref (He.ga K x)) = true ∧ PySem.W.subIn K (.ref (He.ga K x)) (.type "BaseException") = some true ∧ PySem.W.typeIn K (.ref (He.ga K x)) = some (.type "type")) : ExCls K mg x (He.ga K x) := ⟨e.1, g, e.2.1, e.2.2.1, e.2.2.2⟩
def csOf (K : PySem.W.Frag) : Cs := ⟨He.ga K "NoRatio", He.ga K "NoLine", He.ga K "NoPlace", He.ga K "NoWay", He.ga K "NoWalk", He.ga K "NoFence", He.ga K "NoSquare", He.ga K "NoLines", He.ga K "NoText", He.ga K "NoName", He.ga K "Twice", He.ga K "TooMany", He.ga K "NoRow", He.ga K "NoDeed", He.ga K "Cells", He.ga K "Reach", He.ga K "Barrier", He.ga K "Book"⟩
/-- the law's promise -/
theorem starts {K : PySem.W.Frag} (hK : noLst K = true) (H : Hp) (a : Addr) (ns : List Int) (hO : Only H) (hS : SqL K H a (ns.map V.int)) : lift (sp_law (csOf K)) [.ref a] H (fun v _ => v = .bl true) fun _ _ _ => False := by
  have h1 : ∃ o, H a = some (.frz o (.lst (ns.map V.int))) := by
    rcases hS with h | ⟨o, its, n, hl, hc, _⟩
    · rcases h with h | h
      · rcases hO a with z | ⟨o, xs, z⟩
        · rw [h] at z; cases z
        · rw [h] at z; cases z
      · exact h
    · exact (noLst_ok hK hl hc).elim
  obtain ⟨o, ho⟩ := h1
  have hr : RpL H (ns.map V.int) (ns.map Dt.int) := by
    clear hS ho
    induction ns with
    | nil => exact .nil
    | cons n ns ih => exact .cons (.int n) ih
  refine ⟨H, fun _ => none, [.d (.scr (ns.map .int))], fun x _ => x = .d (.bl true), fun _ _ => False, ⟨Same.refl H, fun _ _ e => (by cases e)⟩, .cons (.scr ho hr) .nil, ?_, fun v H' F' x M' _ _ rx hx => ?_, fun _ _ _ _ _ _ h => h⟩
  · unfold sp_law; rw [pS1]; exact ⟨ns, rfl, rfl⟩
  · subst hx; cases rx; rfl
theorem facts {P : Program} {w : World} {K : PySem.W.Frag} {h : Heap} {mg : Str → Option Value} {f : Addr} (X : K.In h) (G : h.Ns mainGlobals mg) (hfa : mg ("law" : Str) = some (.ref f)) (c : He.SaysD fa fn K) :
    ∃ fd : FuncData, (∀ (s : Shared) (v : Value), BindsTo s fd ⟨[v], []⟩ [("script", v)]) ∧ ∀ base : Heap, K.In base → base.Ns mainGlobals mg → FnOk P w K mg base (L2.CX P w) 10 f fd ["script"] (lift (sp_law (csOf K))) := by
  obtain ⟨fd, F⟩ := c.def_ 54 (d := d_law) rfl
  have e := hfa.symm.trans (He.glo_ok X G (c.fact 75 (f := .glo "law") rfl))
  cases e
  have b := FunD.bindsA (ps := ["script"]) F fun _ _ _ _ _ _ us hl => match us, hl with | [_], _ => rfl
  refine ⟨fd, fun s v => b s [v] rfl, fun base _ _ => ?_⟩
  have g_abs : mg "abs" = none := He.free_ok X G (c.fact 0 (f := .free "abs") rfl)
  have g_range : mg "range" = none := He.free_ok X G (c.fact 1 (f := .free "range") rfl)
  have g_len : mg "len" = none := He.free_ok X G (c.fact 2 (f := .free "len") rfl)
  have g_max : mg "max" = none := He.free_ok X G (c.fact 3 (f := .free "max") rfl)
  have g_min : mg "min" = none := He.free_ok X G (c.fact 4 (f := .free "min") rfl)
  have g_enumerate : mg "enumerate" = none := He.free_ok X G (c.fact 5 (f := .free "enumerate") rfl)
  have g_list : mg "list" = none := He.free_ok X G (c.fact 6 (f := .free "list") rfl)
  have g_reversed : mg "reversed" = none := He.free_ok X G (c.fact 7 (f := .free "reversed") rfl)
  have g_isinstance : mg "isinstance" = none := He.free_ok X G (c.fact 8 (f := .free "isinstance") rfl)
  have g_int : mg "int" = none := He.free_ok X G (c.fact 9 (f := .free "int") rfl)
  have g_bool : mg "bool" = none := He.free_ok X G (c.fact 10 (f := .free "bool") rfl)
  have g_tuple : mg "tuple" = none := He.free_ok X G (c.fact 11 (f := .free "tuple") rfl)
  have g_zip : mg "zip" = none := He.free_ok X G (c.fact 12 (f := .free "zip") rfl)
  have g_str : mg "str" = none := He.free_ok X G (c.fact 13 (f := .free "str") rfl)
  have g_all : mg "all" = none := He.free_ok X G (c.fact 14 (f := .free "all") rfl)
  have E_NoPlace : ExCls K mg "NoPlace" (csOf K).NoPlace := exOk (He.glo_ok X G (c.fact 15 (f := .glo "NoPlace") rfl)) (He.exc_ok (c.fact 16 (f := .exc "NoPlace") rfl))
  have E_NoRatio : ExCls K mg "NoRatio" (csOf K).NoRatio := exOk (He.glo_ok X G (c.fact 17 (f := .glo "NoRatio") rfl)) (He.exc_ok (c.fact 18 (f := .exc "NoRatio") rfl))
  have E_NoSquare : ExCls K mg "NoSquare" (csOf K).NoSquare := exOk (He.glo_ok X G (c.fact 19 (f := .glo "NoSquare") rfl)) (He.exc_ok (c.fact 20 (f := .exc "NoSquare") rfl))
  obtain ⟨fd__law_begun, D__law_begun⟩ := c.def_ 0 (d := d__law_begun) rfl
  have K__law_begun := ok__law_begun (P := P) (w := w) (K := K) (mg := mg) (base := base) (c := csOf K) D__law_begun (g_abs := g_abs)
  have F__law_begun : FnAt P w K mg base "_law_begun" 1 [] (sp__law_begun (csOf K)) := ⟨⟨_, fd__law_begun, _, [], [], He.glo_ok X G (c.fact 21 (f := .glo "_law_begun") rfl), D__law_begun.kp, K__law_begun, D__law_begun.bindsN fun _ _ _ _ _ _ us hl => (match us, hl with | [_], _ => rfl), .nil, fun _ => .nil⟩⟩
  obtain ⟨fd__law_apart, D__law_apart⟩ := c.def_ 1 (d := d__law_apart) rfl
  have K__law_apart := ok__law_apart (P := P) (w := w) (K := K) (mg := mg) (base := base) (c := csOf K) D__law_apart 
  have F__law_apart : FnAt P w K mg base "_law_apart" 1 [] (sp__law_apart (csOf K)) := ⟨⟨_, fd__law_apart, _, [], [], He.glo_ok X G (c.fact 22 (f := .glo "_law_apart") rfl), D__law_apart.kp, K__law_apart, D__law_apart.bindsN fun _ _ _ _ _ _ us hl => (match us, hl with | [_, _, _, _], _ => rfl), .nil, fun _ => .nil⟩⟩
  obtain ⟨fd__law_divisor, D__law_divisor⟩ := c.def_ 2 (d := d__law_divisor) rfl
  have K__law_divisor := ok__law_divisor (P := P) (w := w) (K := K) (mg := mg) (base := base) (c := csOf K) D__law_divisor (g_abs := g_abs)
  have F__law_divisor : FnAt P w K mg base "_law_divisor" 1 [] (sp__law_divisor (csOf K)) := ⟨⟨_, fd__law_divisor, _, [], [], He.glo_ok X G (c.fact 23 (f := .glo "_law_divisor") rfl), D__law_divisor.kp, K__law_divisor, D__law_divisor.bindsN fun _ _ _ _ _ _ us hl => (match us, hl with | [_, _], _ => rfl), .nil, fun _ => .nil⟩⟩
  obtain ⟨fd__law_ratio, D__law_ratio⟩ := c.def_ 3 (d := d__law_ratio) rfl
  have K__law_ratio := ok__law_ratio (P := P) (w := w) (K := K) (mg := mg) (base := base) (c := csOf K) D__law_ratio (F__law_divisor := F__law_divisor)
  have F__law_ratio : FnAt P w K mg base "_law_ratio" 2 [] (sp__law_ratio (csOf K)) := ⟨⟨_, fd__law_ratio, _, [], [], He.glo_ok X G (c.fact 24 (f := .glo "_law_ratio") rfl), D__law_ratio.kp, K__law_ratio, D__law_ratio.bindsN fun _ _ _ _ _ _ us hl => (match us, hl with | [_, _], _ => rfl), .nil, fun _ => .nil⟩⟩
  obtain ⟨fd__law_take, D__law_take⟩ := c.def_ 4 (d := d__law_take) rfl
  have K__law_take := ok__law_take (P := P) (w := w) (K := K) (mg := mg) (base := base) (c := csOf K) D__law_take 
  have F__law_take : FnAt P w K mg base "_law_take" 1 [] (sp__law_take (csOf K)) := ⟨⟨_, fd__law_take, _, [], [], He.glo_ok X G (c.fact 25 (f := .glo "_law_take") rfl), D__law_take.kp, K__law_take, D__law_take.bindsN fun _ _ _ _ _ _ us hl => (match us, hl with | [_, _], _ => rfl), .nil, fun _ => .nil⟩⟩
  obtain ⟨fd__law_wide, D__law_wide⟩ := c.def_ 5 (d := d__law_wide) rfl
  have K__law_wide := ok__law_wide (P := P) (w := w) (K := K) (mg := mg) (base := base) (c := csOf K) D__law_wide (F__law_take := F__law_take) (g_range := g_range)
  have F__law_wide : FnAt P w K mg base "_law_wide" 2 [] (sp__law_wide (csOf K)) := ⟨⟨_, fd__law_wide, _, [], [], He.glo_ok X G (c.fact 26 (f := .glo "_law_wide") rfl), D__law_wide.kp, K__law_wide, D__law_wide.bindsN fun _ _ _ _ _ _ us hl => (match us, hl with | [_, _], _ => rfl), .nil, fun _ => .nil⟩⟩
  obtain ⟨fd__law_drawn_leash, D__law_drawn_leash⟩ := c.def_ 6 (d := d__law_drawn_leash) rfl
  have K__law_drawn_leash := ok__law_drawn_leash (P := P) (w := w) (K := K) (mg := mg) (base := base) (c := csOf K) D__law_drawn_leash (g_len := g_len) (F__law_take := F__law_take) (F__law_apart := F__law_apart) (F__law_wide := F__law_wide) (F__law_ratio := F__law_ratio) (g_max := g_max)
  have F__law_drawn_leash : FnAt P w K mg base "_law_drawn_leash" 3 [] (sp__law_drawn_leash (csOf K)) := ⟨⟨_, fd__law_drawn_leash, _, [], [], He.glo_ok X G (c.fact 27 (f := .glo "_law_drawn_leash") rfl), D__law_drawn_leash.kp, K__law_drawn_leash, D__law_drawn_leash.bindsN fun _ _ _ _ _ _ us hl => (match us, hl with | [_, _, _], _ => rfl), .nil, fun _ => .nil⟩⟩
  obtain ⟨fd__law_folded, D__law_folded⟩ := c.def_ 7 (d := d__law_folded) rfl
  have K__law_folded := ok__law_folded (P := P) (w := w) (K := K) (mg := mg) (base := base) (c := csOf K) D__law_folded (g_len := g_len) (g_max := g_max) (g_min := g_min) (g_enumerate := g_enumerate)
  have F__law_folded : FnAt P w K mg base "_law_folded" 1 [] (sp__law_folded (csOf K)) := ⟨⟨_, fd__law_folded, _, [], [], He.glo_ok X G (c.fact 28 (f := .glo "_law_folded") rfl), D__law_folded.kp, K__law_folded, D__law_folded.bindsN fun _ _ _ _ _ _ us hl => (match us, hl with | [_, _], _ => rfl), .nil, fun _ => .nil⟩⟩
  obtain ⟨fd__law_cell_at, D__law_cell_at⟩ := c.def_ 8 (d := d__law_cell_at) rfl
  have K__law_cell_at := ok__law_cell_at (P := P) (w := w) (K := K) (mg := mg) (base := base) (c := csOf K) D__law_cell_at (g_len := g_len)
  have F__law_cell_at : FnAt P w K mg base "_law_cell_at" 1 [] (sp__law_cell_at (csOf K)) := ⟨⟨_, fd__law_cell_at, _, [], [], He.glo_ok X G (c.fact 29 (f := .glo "_law_cell_at") rfl), D__law_cell_at.kp, K__law_cell_at, D__law_cell_at.bindsN fun _ _ _ _ _ _ us hl => (match us, hl with | [_, _], _ => rfl), .nil, fun _ => .nil⟩⟩
  obtain ⟨fd__law_drawn_line, D__law_drawn_line⟩ := c.def_ 9 (d := d__law_drawn_line) rfl
  have K__law_drawn_line := ok__law_drawn_line (P := P) (w := w) (K := K) (mg := mg) (base := base) (c := csOf K) D__law_drawn_line (F__law_take := F__law_take) (g_range := g_range) (F__law_wide := F__law_wide)
  have F__law_drawn_line : FnAt P w K mg base "_law_drawn_line" 3 [] (sp__law_drawn_line (csOf K)) := ⟨⟨_, fd__law_drawn_line, _, [], [], He.glo_ok X G (c.fact 30 (f := .glo "_law_drawn_line") rfl), D__law_drawn_line.kp, K__law_drawn_line, D__law_drawn_line.bindsN fun _ _ _ _ _ _ us hl => (match us, hl with | [_], _ => rfl), .nil, fun _ => .nil⟩⟩
  obtain ⟨fd__law_moved, D__law_moved⟩ := c.def_ 10 (d := d__law_moved) rfl
  have K__law_moved := ok__law_moved (P := P) (w := w) (K := K) (mg := mg) (base := base) (c := csOf K) D__law_moved (F__law_take := F__law_take) (g_min := g_min) (g_max := g_max)
  have F__law_moved : FnAt P w K mg base "_law_moved" 2 [] (sp__law_moved (csOf K)) := ⟨⟨_, fd__law_moved, _, [], [], He.glo_ok X G (c.fact 31 (f := .glo "_law_moved") rfl), D__law_moved.kp, K__law_moved, D__law_moved.bindsN fun _ _ _ _ _ _ us hl => (match us, hl with | [_, _], _ => rfl), .nil, fun _ => .nil⟩⟩
  obtain ⟨fd__law_drawn_other, D__law_drawn_other⟩ := c.def_ 11 (d := d__law_drawn_other) rfl
  have K__law_drawn_other := ok__law_drawn_other (P := P) (w := w) (K := K) (mg := mg) (base := base) (c := csOf K) D__law_drawn_other (F__law_take := F__law_take) (F__law_moved := F__law_moved) (g_list := g_list) (g_reversed := g_reversed) (F__law_drawn_line := F__law_drawn_line)
  have F__law_drawn_other : FnAt P w K mg base "_law_drawn_other" 4 [] (sp__law_drawn_other (csOf K)) := ⟨⟨_, fd__law_drawn_other, _, [], [], He.glo_ok X G (c.fact 32 (f := .glo "_law_drawn_other") rfl), D__law_drawn_other.kp, K__law_drawn_other, D__law_drawn_other.bindsN fun _ _ _ _ _ _ us hl => (match us, hl with | [_, _], _ => rfl), .nil, fun _ => .nil⟩⟩
  obtain ⟨fd__law_lines, D__law_lines⟩ := c.def_ 12 (d := d__law_lines) rfl
  have K__law_lines := ok__law_lines (P := P) (w := w) (K := K) (mg := mg) (base := base) (c := csOf K) D__law_lines (F__law_cell_at := F__law_cell_at) (F__law_begun := F__law_begun) (F__law_drawn_line := F__law_drawn_line) (F__law_drawn_other := F__law_drawn_other)
  have F__law_lines : FnAt P w K mg base "_law_lines" 5 [] (sp__law_lines (csOf K)) := ⟨⟨_, fd__law_lines, _, [], [], He.glo_ok X G (c.fact 33 (f := .glo "_law_lines") rfl), D__law_lines.kp, K__law_lines, D__law_lines.bindsN fun _ _ _ _ _ _ us hl => (match us, hl with | [_], _ => rfl), .nil, fun _ => .nil⟩⟩
  obtain ⟨fd__law_below, D__law_below⟩ := c.def_ 13 (d := d__law_below) rfl
  have K__law_below := ok__law_below (P := P) (w := w) (K := K) (mg := mg) (base := base) (c := csOf K) D__law_below 
  have F__law_below : FnAt P w K mg base "_law_below" 1 [] (sp__law_below (csOf K)) := ⟨⟨_, fd__law_below, _, [], [], He.glo_ok X G (c.fact 34 (f := .glo "_law_below") rfl), D__law_below.kp, K__law_below, D__law_below.bindsN fun _ _ _ _ _ _ us hl => (match us, hl with | [_, _], _ => rfl), .nil, fun _ => .nil⟩⟩
  obtain ⟨fd__law_whole, D__law_whole⟩ := c.def_ 14 (d := d__law_whole) rfl
  have K__law_whole := ok__law_whole (P := P) (w := w) (K := K) (mg := mg) (base := base) (c := csOf K) D__law_whole (g_isinstance := g_isinstance) (g_int := g_int) (g_bool := g_bool)
  have F__law_whole : FnAt P w K mg base "_law_whole" 1 [] (sp__law_whole (csOf K)) := ⟨⟨_, fd__law_whole, _, [], [], He.glo_ok X G (c.fact 35 (f := .glo "_law_whole") rfl), D__law_whole.kp, K__law_whole, D__law_whole.bindsN fun _ _ _ _ _ _ us hl => (match us, hl with | [_], _ => rfl), .nil, fun _ => .nil⟩⟩
  obtain ⟨fd__law_is_ratio, D__law_is_ratio⟩ := c.def_ 15 (d := d__law_is_ratio) rfl
  have K__law_is_ratio := ok__law_is_ratio (P := P) (w := w) (K := K) (mg := mg) (base := base) (c := csOf K) D__law_is_ratio (g_isinstance := g_isinstance) (g_tuple := g_tuple) (g_len := g_len) (F__law_whole := F__law_whole) (F__law_divisor := F__law_divisor)
  have F__law_is_ratio : FnAt P w K mg base "_law_is_ratio" 2 [] (sp__law_is_ratio (csOf K)) := ⟨⟨_, fd__law_is_ratio, _, [], [], He.glo_ok X G (c.fact 36 (f := .glo "_law_is_ratio") rfl), D__law_is_ratio.kp, K__law_is_ratio, D__law_is_ratio.bindsN fun _ _ _ _ _ _ us hl => (match us, hl with | [_], _ => rfl), .nil, fun _ => .nil⟩⟩
  obtain ⟨fd__law_is_place, D__law_is_place⟩ := c.def_ 16 (d := d__law_is_place) rfl
  have K__law_is_place := ok__law_is_place (P := P) (w := w) (K := K) (mg := mg) (base := base) (c := csOf K) D__law_is_place (F__law_is_ratio := F__law_is_ratio) (g_len := g_len)
  have F__law_is_place : FnAt P w K mg base "_law_is_place" 3 [] (sp__law_is_place (csOf K)) := ⟨⟨_, fd__law_is_place, _, [], [], He.glo_ok X G (c.fact 37 (f := .glo "_law_is_place") rfl), D__law_is_place.kp, K__law_is_place, D__law_is_place.bindsN fun _ _ _ _ _ _ us hl => (match us, hl with | [_, _], _ => rfl), .nil, fun _ => .nil⟩⟩
  obtain ⟨fd__law_are_pairs, D__law_are_pairs⟩ := c.def_ 17 (d := d__law_are_pairs) rfl
  have K__law_are_pairs := ok__law_are_pairs (P := P) (w := w) (K := K) (mg := mg) (base := base) (c := csOf K) D__law_are_pairs (g_isinstance := g_isinstance) (g_list := g_list) (g_tuple := g_tuple) (g_len := g_len) (F__law_is_place := F__law_is_place)
  have F__law_are_pairs : FnAt P w K mg base "_law_are_pairs" 4 [] (sp__law_are_pairs (csOf K)) := ⟨⟨_, fd__law_are_pairs, _, [], [], He.glo_ok X G (c.fact 38 (f := .glo "_law_are_pairs") rfl), D__law_are_pairs.kp, K__law_are_pairs, D__law_are_pairs.bindsN fun _ _ _ _ _ _ us hl => (match us, hl with | [_, _, _], _ => rfl), .nil, fun _ => .nil⟩⟩
  obtain ⟨fd__law_back, D__law_back⟩ := c.def_ 18 (d := d__law_back) rfl
  have K__law_back := ok__law_back (P := P) (w := w) (K := K) (mg := mg) (base := base) (c := csOf K) D__law_back (F__law_below := F__law_below)
  have F__law_back : FnAt P w K mg base "_law_back" 2 [] (sp__law_back (csOf K)) := ⟨⟨_, fd__law_back, _, [], [], He.glo_ok X G (c.fact 39 (f := .glo "_law_back") rfl), D__law_back.kp, K__law_back, D__law_back.bindsN fun _ _ _ _ _ _ us hl => (match us, hl with | [_, _], _ => rfl), .nil, fun _ => .nil⟩⟩
  obtain ⟨fd__law_near, D__law_near⟩ := c.def_ 19 (d := d__law_near) rfl
  have K__law_near := ok__law_near (P := P) (w := w) (K := K) (mg := mg) (base := base) (c := csOf K) D__law_near (F__law_below := F__law_below)
  have F__law_near : FnAt P w K mg base "_law_near" 2 [] (sp__law_near (csOf K)) := ⟨⟨_, fd__law_near, _, [], [], He.glo_ok X G (c.fact 40 (f := .glo "_law_near") rfl), D__law_near.kp, K__law_near, D__law_near.bindsN fun _ _ _ _ _ _ us hl => (match us, hl with | [_, _], _ => rfl), .nil, fun _ => .nil⟩⟩
  obtain ⟨fd__law_steps, D__law_steps⟩ := c.def_ 20 (d := d__law_steps) rfl
  have K__law_steps := ok__law_steps (P := P) (w := w) (K := K) (mg := mg) (base := base) (c := csOf K) D__law_steps (F__law_back := F__law_back) (F__law_near := F__law_near) (F__law_below := F__law_below)
  have F__law_steps : FnAt P w K mg base "_law_steps" 3 [] (sp__law_steps (csOf K)) := ⟨⟨_, fd__law_steps, _, [], [], He.glo_ok X G (c.fact 41 (f := .glo "_law_steps") rfl), D__law_steps.kp, K__law_steps, D__law_steps.bindsN fun _ _ _ _ _ _ us hl => (match us, hl with | [_, _, _], _ => rfl), .nil, fun _ => .nil⟩⟩
  obtain ⟨fd__law_is_fence, D__law_is_fence⟩ := c.def_ 21 (d := d__law_is_fence) rfl
  have K__law_is_fence := ok__law_is_fence (P := P) (w := w) (K := K) (mg := mg) (base := base) (c := csOf K) D__law_is_fence (F__law_are_pairs := F__law_are_pairs) (g_len := g_len) (g_zip := g_zip) (F__law_steps := F__law_steps)
  have F__law_is_fence : FnAt P w K mg base "_law_is_fence" 5 [] (sp__law_is_fence (csOf K)) := ⟨⟨_, fd__law_is_fence, _, [], [], He.glo_ok X G (c.fact 42 (f := .glo "_law_is_fence") rfl), D__law_is_fence.kp, K__law_is_fence, D__law_is_fence.bindsN fun _ _ _ _ _ _ us hl => (match us, hl with | [_, _, _, _], _ => rfl), .nil, fun _ => .nil⟩⟩
  obtain ⟨fd__law_goes, D__law_goes⟩ := c.def_ 22 (d := d__law_goes) rfl
  have K__law_goes := ok__law_goes (P := P) (w := w) (K := K) (mg := mg) (base := base) (c := csOf K) D__law_goes (F__law_below := F__law_below) (F__law_near := F__law_near)
  have F__law_goes : FnAt P w K mg base "_law_goes" 3 [] (sp__law_goes (csOf K)) := ⟨⟨_, fd__law_goes, _, [], [], He.glo_ok X G (c.fact 43 (f := .glo "_law_goes") rfl), D__law_goes.kp, K__law_goes, D__law_goes.bindsN fun _ _ _ _ _ _ us hl => (match us, hl with | [_, _, _], _ => rfl), .nil, fun _ => .nil⟩⟩
  obtain ⟨fd__law_is_walk, D__law_is_walk⟩ := c.def_ 23 (d := d__law_is_walk) rfl
  have K__law_is_walk := ok__law_is_walk (P := P) (w := w) (K := K) (mg := mg) (base := base) (c := csOf K) D__law_is_walk (F__law_are_pairs := F__law_are_pairs) (g_len := g_len) (g_zip := g_zip) (F__law_goes := F__law_goes)
  have F__law_is_walk : FnAt P w K mg base "_law_is_walk" 5 [] (sp__law_is_walk (csOf K)) := ⟨⟨_, fd__law_is_walk, _, [], [], He.glo_ok X G (c.fact 44 (f := .glo "_law_is_walk") rfl), D__law_is_walk.kp, K__law_is_walk, D__law_is_walk.bindsN fun _ _ _ _ _ _ us hl => (match us, hl with | [_, _, _, _], _ => rfl), .nil, fun _ => .nil⟩⟩
  obtain ⟨fd__law_point_at, D__law_point_at⟩ := c.def_ 24 (d := d__law_point_at) rfl
  have K__law_point_at := ok__law_point_at (P := P) (w := w) (K := K) (mg := mg) (base := base) (c := csOf K) D__law_point_at 
  have F__law_point_at : FnAt P w K mg base "_law_point_at" 1 [] (sp__law_point_at (csOf K)) := ⟨⟨_, fd__law_point_at, _, [], [], He.glo_ok X G (c.fact 45 (f := .glo "_law_point_at") rfl), D__law_point_at.kp, K__law_point_at, D__law_point_at.bindsN fun _ _ _ _ _ _ us hl => (match us, hl with | [_, _], _ => rfl), .nil, fun _ => .nil⟩⟩
  obtain ⟨fd__law_square_of, D__law_square_of⟩ := c.def_ 25 (d := d__law_square_of) rfl
  have K__law_square_of := ok__law_square_of (P := P) (w := w) (K := K) (mg := mg) (base := base) (c := csOf K) D__law_square_of (F__law_point_at := F__law_point_at) (F__law_ratio := F__law_ratio)
  have F__law_square_of : FnAt P w K mg base "_law_square_of" 3 [] (sp__law_square_of (csOf K)) := ⟨⟨_, fd__law_square_of, _, [], [], He.glo_ok X G (c.fact 46 (f := .glo "_law_square_of") rfl), D__law_square_of.kp, K__law_square_of, D__law_square_of.bindsN fun _ _ _ _ _ _ us hl => (match us, hl with | [_, _, _, _], _ => rfl), .nil, fun _ => .nil⟩⟩
  obtain ⟨fd__law_walk_square, D__law_walk_square⟩ := c.def_ 26 (d := d__law_walk_square) rfl
  have K__law_walk_square := ok__law_walk_square (P := P) (w := w) (K := K) (mg := mg) (base := base) (c := csOf K) D__law_walk_square (F__law_square_of := F__law_square_of) (F__law_below := F__law_below)
  have F__law_walk_square : FnAt P w K mg base "_law_walk_square" 4 [] (sp__law_walk_square (csOf K)) := ⟨⟨_, fd__law_walk_square, _, [], [], He.glo_ok X G (c.fact 47 (f := .glo "_law_walk_square") rfl), D__law_walk_square.kp, K__law_walk_square, D__law_walk_square.bindsN fun _ _ _ _ _ _ us hl => (match us, hl with | [_, _, _], _ => rfl), .nil, fun _ => .nil⟩⟩
  obtain ⟨fd__law_shown, D__law_shown⟩ := c.def_ 27 (d := d__law_shown) rfl
  have K__law_shown := ok__law_shown (P := P) (w := w) (K := K) (mg := mg) (base := base) (c := csOf K) D__law_shown (g_isinstance := g_isinstance) (g_tuple := g_tuple) (g_len := g_len) (g_str := g_str) (F__law_is_walk := F__law_is_walk) (F__law_walk_square := F__law_walk_square) (F__law_below := F__law_below) (F__law_is_fence := F__law_is_fence) (F__law_square_of := F__law_square_of) (g_all := g_all)
  have F__law_shown : FnAt P w K mg base "_law_shown" 6 [] (sp__law_shown (csOf K)) := ⟨⟨_, fd__law_shown, _, [], [], He.glo_ok X G (c.fact 48 (f := .glo "_law_shown") rfl), D__law_shown.kp, K__law_shown, D__law_shown.bindsN fun _ _ _ _ _ _ us hl => (match us, hl with | [_, _, _, _], _ => rfl), .nil, fun _ => .nil⟩⟩
  obtain ⟨fd_less, D_less⟩ := c.def_ 28 (d := d_less) rfl
  have K_less := ok_less (P := P) (w := w) (K := K) (mg := mg) (base := base) (c := csOf K) D_less 
  have F_less : FnAt P w K mg base "less" 1 [] (sp_less (csOf K)) := ⟨⟨_, fd_less, _, [], [], He.glo_ok X G (c.fact 49 (f := .glo "less") rfl), D_less.kp, K_less, D_less.bindsN fun _ _ _ _ _ _ us hl => (match us, hl with | [_, _], _ => rfl), .nil, fun _ => .nil⟩⟩
  obtain ⟨fd_far_pairs, D_far_pairs⟩ := c.def_ 29 (d := d_far_pairs) rfl
  have K_far_pairs := ok_far_pairs (P := P) (w := w) (K := K) (mg := mg) (base := base) (c := csOf K) D_far_pairs (g_enumerate := g_enumerate) (F_less := F_less)
  have F_far_pairs : FnAt P w K mg base "far_pairs" 2 [] (sp_far_pairs (csOf K)) := ⟨⟨_, fd_far_pairs, _, [], [], He.glo_ok X G (c.fact 50 (f := .glo "far_pairs") rfl), D_far_pairs.kp, K_far_pairs, D_far_pairs.bindsN fun _ _ _ _ _ _ us hl => (match us, hl with | [_, _, _], _ => rfl), .nil, fun _ => .nil⟩⟩
  obtain ⟨fd_may_follow, D_may_follow⟩ := c.def_ 30 (d := d_may_follow) rfl
  have K_may_follow := ok_may_follow (P := P) (w := w) (K := K) (mg := mg) (base := base) (c := csOf K) D_may_follow 
  have F_may_follow : FnAt P w K mg base "may_follow" 1 [] (sp_may_follow (csOf K)) := ⟨⟨_, fd_may_follow, _, [], [], He.glo_ok X G (c.fact 51 (f := .glo "may_follow") rfl), D_may_follow.kp, K_may_follow, D_may_follow.bindsN fun _ _ _ _ _ _ us hl => (match us, hl with | [_, _], _ => rfl), .nil, fun _ => .nil⟩⟩
  obtain ⟨fd_traced, D_traced⟩ := c.def_ 31 (d := d_traced) rfl
  have K_traced := ok_traced (P := P) (w := w) (K := K) (mg := mg) (base := base) (c := csOf K) D_traced (g_list := g_list) (g_reversed := g_reversed)
  have F_traced : FnAt P w K mg base "traced" 1 [] (sp_traced (csOf K)) := ⟨⟨_, fd_traced, _, [], [], He.glo_ok X G (c.fact 52 (f := .glo "traced") rfl), D_traced.kp, K_traced, D_traced.bindsN fun _ _ _ _ _ _ us hl => (match us, hl with | [_, _], _ => rfl), .nil, fun _ => .nil⟩⟩
  obtain ⟨fd_fence_among, D_fence_among⟩ := c.def_ 32 (d := d_fence_among) rfl
  have K_fence_among := ok_fence_among (P := P) (w := w) (K := K) (mg := mg) (base := base) (c := csOf K) D_fence_among (g_len := g_len) (F_traced := F_traced) (F_may_follow := F_may_follow)
  have F_fence_among : FnAt P w K mg base "fence_among" 2 [] (sp_fence_among (csOf K)) := ⟨⟨_, fd_fence_among, _, [], [], He.glo_ok X G (c.fact 53 (f := .glo "fence_among") rfl), D_fence_among.kp, K_fence_among, D_fence_among.bindsN fun _ _ _ _ _ _ us hl => (match us, hl with | [_, _, _], _ => rfl), .nil, fun _ => .nil⟩⟩
  obtain ⟨fd_last_of, D_last_of⟩ := c.def_ 33 (d := d_last_of) rfl
  have K_last_of := ok_last_of (P := P) (w := w) (K := K) (mg := mg) (base := base) (c := csOf K) D_last_of (g_len := g_len)
  have F_last_of : FnAt P w K mg base "last_of" 1 [] (sp_last_of (csOf K)) := ⟨⟨_, fd_last_of, _, [], [], He.glo_ok X G (c.fact 54 (f := .glo "last_of") rfl), D_last_of.kp, K_last_of, D_last_of.bindsN fun _ _ _ _ _ _ us hl => (match us, hl with | [_], _ => rfl), .nil, fun _ => .nil⟩⟩
  obtain ⟨fd_ends_of, D_ends_of⟩ := c.def_ 34 (d := d_ends_of) rfl
  have K_ends_of := ok_ends_of (P := P) (w := w) (K := K) (mg := mg) (base := base) (c := csOf K) D_ends_of (F_last_of := F_last_of) (g_min := g_min)
  have F_ends_of : FnAt P w K mg base "ends_of" 2 [] (sp_ends_of (csOf K)) := ⟨⟨_, fd_ends_of, _, [], [], He.glo_ok X G (c.fact 55 (f := .glo "ends_of") rfl), D_ends_of.kp, K_ends_of, D_ends_of.bindsN fun _ _ _ _ _ _ us hl => (match us, hl with | [_, _], _ => rfl), .nil, fun _ => .nil⟩⟩
  obtain ⟨fd_floor_of, D_floor_of⟩ := c.def_ 35 (d := d_floor_of) rfl
  have K_floor_of := ok_floor_of (P := P) (w := w) (K := K) (mg := mg) (base := base) (c := csOf K) D_floor_of 
  have F_floor_of : FnAt P w K mg base "floor_of" 1 [] (sp_floor_of (csOf K)) := ⟨⟨_, fd_floor_of, _, [], [], He.glo_ok X G (c.fact 56 (f := .glo "floor_of") rfl), D_floor_of.kp, K_floor_of, D_floor_of.bindsN fun _ _ _ _ _ _ us hl => (match us, hl with | [_], _ => rfl), .nil, fun _ => .nil⟩⟩
  obtain ⟨fd_divisor, D_divisor⟩ := c.def_ 36 (d := d_divisor) rfl
  have K_divisor := ok_divisor (P := P) (w := w) (K := K) (mg := mg) (base := base) (c := csOf K) D_divisor (g_abs := g_abs)
  have F_divisor : FnAt P w K mg base "divisor" 1 [] (sp_divisor (csOf K)) := ⟨⟨_, fd_divisor, _, [], [], He.glo_ok X G (c.fact 57 (f := .glo "divisor") rfl), D_divisor.kp, K_divisor, D_divisor.bindsN fun _ _ _ _ _ _ us hl => (match us, hl with | [_, _], _ => rfl), .nil, fun _ => .nil⟩⟩
  obtain ⟨fd_is_whole, D_is_whole⟩ := c.def_ 37 (d := d_is_whole) rfl
  have K_is_whole := ok_is_whole (P := P) (w := w) (K := K) (mg := mg) (base := base) (c := csOf K) D_is_whole (g_isinstance := g_isinstance) (g_int := g_int) (g_bool := g_bool)
  have F_is_whole : FnAt P w K mg base "is_whole" 1 [] (sp_is_whole (csOf K)) := ⟨⟨_, fd_is_whole, _, [], [], He.glo_ok X G (c.fact 58 (f := .glo "is_whole") rfl), D_is_whole.kp, K_is_whole, D_is_whole.bindsN fun _ _ _ _ _ _ us hl => (match us, hl with | [_], _ => rfl), .nil, fun _ => .nil⟩⟩
  obtain ⟨fd_is_ratio, D_is_ratio⟩ := c.def_ 38 (d := d_is_ratio) rfl
  have K_is_ratio := ok_is_ratio (P := P) (w := w) (K := K) (mg := mg) (base := base) (c := csOf K) D_is_ratio (g_isinstance := g_isinstance) (g_tuple := g_tuple) (g_len := g_len) (F_is_whole := F_is_whole) (F_divisor := F_divisor)
  have F_is_ratio : FnAt P w K mg base "is_ratio" 2 [] (sp_is_ratio (csOf K)) := ⟨⟨_, fd_is_ratio, _, [], [], He.glo_ok X G (c.fact 59 (f := .glo "is_ratio") rfl), D_is_ratio.kp, K_is_ratio, D_is_ratio.bindsN fun _ _ _ _ _ _ us hl => (match us, hl with | [_], _ => rfl), .nil, fun _ => .nil⟩⟩
  obtain ⟨fd_is_place, D_is_place⟩ := c.def_ 39 (d := d_is_place) rfl
  have K_is_place := ok_is_place (P := P) (w := w) (K := K) (mg := mg) (base := base) (c := csOf K) D_is_place (F_is_ratio := F_is_ratio) (F_last_of := F_last_of)
  have F_is_place : FnAt P w K mg base "is_place" 3 [] (sp_is_place (csOf K)) := ⟨⟨_, fd_is_place, _, [], [], He.glo_ok X G (c.fact 60 (f := .glo "is_place") rfl), D_is_place.kp, K_is_place, D_is_place.bindsN fun _ _ _ _ _ _ us hl => (match us, hl with | [_, _], _ => rfl), .nil, fun _ => .nil⟩⟩
  obtain ⟨fd_look_at_place, D_look_at_place⟩ := c.def_ 40 (d := d_look_at_place) rfl
  have K_look_at_place := ok_look_at_place (P := P) (w := w) (K := K) (mg := mg) (base := base) (c := csOf K) D_look_at_place (F_is_place := F_is_place) (E_NoPlace := E_NoPlace)
  have F_look_at_place : FnAt P w K mg base "look_at_place" 4 [] (sp_look_at_place (csOf K)) := ⟨⟨_, fd_look_at_place, _, [], [], He.glo_ok X G (c.fact 61 (f := .glo "look_at_place") rfl), D_look_at_place.kp, K_look_at_place, D_look_at_place.bindsN fun _ _ _ _ _ _ us hl => (match us, hl with | [_, _], _ => rfl), .nil, fun _ => .nil⟩⟩
  obtain ⟨fd_ratio, D_ratio⟩ := c.def_ 41 (d := d_ratio) rfl
  have K_ratio := ok_ratio (P := P) (w := w) (K := K) (mg := mg) (base := base) (c := csOf K) D_ratio (F_is_whole := F_is_whole) (E_NoRatio := E_NoRatio) (g_abs := g_abs) (F_divisor := F_divisor)
  obtain ⟨ds_F_ratio, dv_F_ratio, bd_F_ratio⟩ := D_ratio.binds1 (ps := ["top", "bottom"]) 2 1 (List.cons_ne_nil _ _) rfl fun _ _ _ _ _ _ _ us its h1 h2 => (match us, its, h1, h2 with | [_, _], [_], _, _ => ⟨_, rfl, rfl⟩)
  have F_ratio : FnAt P w K mg base "ratio" 2 [] (sp_ratio (csOf K)) := ⟨⟨_, fd_ratio, _, _, _, He.glo_ok X G (c.fact 62 (f := .glo "ratio") rfl), D_ratio.kp, K_ratio, bd_F_ratio, dv_F_ratio, fun _ => .nil⟩⟩
  obtain ⟨fd_minus, D_minus⟩ := c.def_ 42 (d := d_minus) rfl
  have K_minus := ok_minus (P := P) (w := w) (K := K) (mg := mg) (base := base) (c := csOf K) D_minus (F_ratio := F_ratio)
  have F_minus : FnAt P w K mg base "minus" 3 [] (sp_minus (csOf K)) := ⟨⟨_, fd_minus, _, [], [], He.glo_ok X G (c.fact 63 (f := .glo "minus") rfl), D_minus.kp, K_minus, D_minus.bindsN fun _ _ _ _ _ _ us hl => (match us, hl with | [_, _], _ => rfl), .nil, fun _ => .nil⟩⟩
  obtain ⟨fd_plus, D_plus⟩ := c.def_ 43 (d := d_plus) rfl
  have K_plus := ok_plus (P := P) (w := w) (K := K) (mg := mg) (base := base) (c := csOf K) D_plus (F_ratio := F_ratio)
  have F_plus : FnAt P w K mg base "plus" 3 [] (sp_plus (csOf K)) := ⟨⟨_, fd_plus, _, [], [], He.glo_ok X G (c.fact 64 (f := .glo "plus") rfl), D_plus.kp, K_plus, D_plus.bindsN fun _ _ _ _ _ _ us hl => (match us, hl with | [_, _], _ => rfl), .nil, fun _ => .nil⟩⟩
  obtain ⟨fd_times, D_times⟩ := c.def_ 44 (d := d_times) rfl
  have K_times := ok_times (P := P) (w := w) (K := K) (mg := mg) (base := base) (c := csOf K) D_times (F_ratio := F_ratio)
  have F_times : FnAt P w K mg base "times" 3 [] (sp_times (csOf K)) := ⟨⟨_, fd_times, _, [], [], He.glo_ok X G (c.fact 65 (f := .glo "times") rfl), D_times.kp, K_times, D_times.bindsN fun _ _ _ _ _ _ us hl => (match us, hl with | [_, _], _ => rfl), .nil, fun _ => .nil⟩⟩
  obtain ⟨fd_point_at, D_point_at⟩ := c.def_ 45 (d := d_point_at) rfl
  have K_point_at := ok_point_at (P := P) (w := w) (K := K) (mg := mg) (base := base) (c := csOf K) D_point_at (F_look_at_place := F_look_at_place) (F_floor_of := F_floor_of) (F_ends_of := F_ends_of) (F_minus := F_minus) (F_times := F_times) (F_plus := F_plus)
  have F_point_at : FnAt P w K mg base "point_at" 5 [] (sp_point_at (csOf K)) := ⟨⟨_, fd_point_at, _, [], [], He.glo_ok X G (c.fact 66 (f := .glo "point_at") rfl), D_point_at.kp, K_point_at, D_point_at.bindsN fun _ _ _ _ _ _ us hl => (match us, hl with | [_, _], _ => rfl), .nil, fun _ => .nil⟩⟩
  obtain ⟨fd_square_between, D_square_between⟩ := c.def_ 46 (d := d_square_between) rfl
  have K_square_between := ok_square_between (P := P) (w := w) (K := K) (mg := mg) (base := base) (c := csOf K) D_square_between (F_minus := F_minus) (F_times := F_times) (F_plus := F_plus)
  have F_square_between : FnAt P w K mg base "square_between" 4 [] (sp_square_between (csOf K)) := ⟨⟨_, fd_square_between, _, [], [], He.glo_ok X G (c.fact 67 (f := .glo "square_between") rfl), D_square_between.kp, K_square_between, D_square_between.bindsN fun _ _ _ _ _ _ us hl => (match us, hl with | [_, _], _ => rfl), .nil, fun _ => .nil⟩⟩
  obtain ⟨fd_square_of, D_square_of⟩ := c.def_ 47 (d := d_square_of) rfl
  have K_square_of := ok_square_of (P := P) (w := w) (K := K) (mg := mg) (base := base) (c := csOf K) D_square_of (F_point_at := F_point_at) (F_square_between := F_square_between)
  have F_square_of : FnAt P w K mg base "square_of" 6 [] (sp_square_of (csOf K)) := ⟨⟨_, fd_square_of, _, [], [], He.glo_ok X G (c.fact 68 (f := .glo "square_of") rfl), D_square_of.kp, K_square_of, D_square_of.bindsN fun _ _ _ _ _ _ us hl => (match us, hl with | [_, _, _, _], _ => rfl), .nil, fun _ => .nil⟩⟩
  obtain ⟨fd_squares_of, D_squares_of⟩ := c.def_ 48 (d := d_squares_of) rfl
  have K_squares_of := ok_squares_of (P := P) (w := w) (K := K) (mg := mg) (base := base) (c := csOf K) D_squares_of (g_len := g_len) (g_range := g_range) (F_square_of := F_square_of)
  have F_squares_of : FnAt P w K mg base "squares_of" 7 [] (sp_squares_of (csOf K)) := ⟨⟨_, fd_squares_of, _, [], [], He.glo_ok X G (c.fact 69 (f := .glo "squares_of") rfl), D_squares_of.kp, K_squares_of, D_squares_of.bindsN fun _ _ _ _ _ _ us hl => (match us, hl with | [_, _], _ => rfl), .nil, fun _ => .nil⟩⟩
  obtain ⟨fd_hop_fence, D_hop_fence⟩ := c.def_ 49 (d := d_hop_fence) rfl
  have K_hop_fence := ok_hop_fence (P := P) (w := w) (K := K) (mg := mg) (base := base) (c := csOf K) D_hop_fence (F_squares_of := F_squares_of) (F_far_pairs := F_far_pairs) (g_len := g_len) (F_fence_among := F_fence_among)
  have F_hop_fence : FnAt P w K mg base "hop_fence" 8 [] (sp_hop_fence (csOf K)) := ⟨⟨_, fd_hop_fence, _, [], [], He.glo_ok X G (c.fact 70 (f := .glo "hop_fence") rfl), D_hop_fence.kp, K_hop_fence, D_hop_fence.bindsN fun _ _ _ _ _ _ us hl => (match us, hl with | [_, _, _, _], _ => rfl), .nil, fun _ => .nil⟩⟩
  obtain ⟨fd_reached, D_reached⟩ := c.def_ 50 (d := d_reached) rfl
  have K_reached := ok_reached (P := P) (w := w) (K := K) (mg := mg) (base := base) (c := csOf K) D_reached (F_less := F_less) (g_enumerate := g_enumerate)
  have F_reached : FnAt P w K mg base "reached" 2 [] (sp_reached (csOf K)) := ⟨⟨_, fd_reached, _, [], [], He.glo_ok X G (c.fact 71 (f := .glo "reached") rfl), D_reached.kp, K_reached, D_reached.bindsN fun _ _ _ _ _ _ us hl => (match us, hl with | [_, _], _ => rfl), .nil, fun _ => .nil⟩⟩
  obtain ⟨fd_hop_walk, D_hop_walk⟩ := c.def_ 51 (d := d_hop_walk) rfl
  have K_hop_walk := ok_hop_walk (P := P) (w := w) (K := K) (mg := mg) (base := base) (c := csOf K) D_hop_walk (F_squares_of := F_squares_of) (F_reached := F_reached) (g_len := g_len) (F_traced := F_traced)
  have F_hop_walk : FnAt P w K mg base "hop_walk" 8 [] (sp_hop_walk (csOf K)) := ⟨⟨_, fd_hop_walk, _, [], [], He.glo_ok X G (c.fact 72 (f := .glo "hop_walk") rfl), D_hop_walk.kp, K_hop_walk, D_hop_walk.bindsN fun _ _ _ _ _ _ us hl => (match us, hl with | [_, _, _], _ => rfl), .nil, fun _ => .nil⟩⟩
  obtain ⟨fd_look_at_square, D_look_at_square⟩ := c.def_ 52 (d := d_look_at_square) rfl
  have K_look_at_square := ok_look_at_square (P := P) (w := w) (K := K) (mg := mg) (base := base) (c := csOf K) D_look_at_square (F_is_ratio := F_is_ratio) (E_NoSquare := E_NoSquare)
  have F_look_at_square : FnAt P w K mg base "look_at_square" 3 [] (sp_look_at_square (csOf K)) := ⟨⟨_, fd_look_at_square, _, [], [], He.glo_ok X G (c.fact 73 (f := .glo "look_at_square") rfl), D_look_at_square.kp, K_look_at_square, D_look_at_square.bindsN fun _ _ _ _ _ _ us hl => (match us, hl with | [_], _ => rfl), .nil, fun _ => .nil⟩⟩
  obtain ⟨fd_go_hops, D_go_hops⟩ := c.def_ 53 (d := d_go_hops) rfl
  have K_go_hops := ok_go_hops (P := P) (w := w) (K := K) (mg := mg) (base := base) (c := csOf K) D_go_hops (F_look_at_square := F_look_at_square) (F_hop_walk := F_hop_walk) (F_hop_fence := F_hop_fence)
  have F_go_hops : FnAt P w K mg base "go_hops" 9 [] (sp_go_hops (csOf K)) := ⟨⟨_, fd_go_hops, _, [], [], He.glo_ok X G (c.fact 74 (f := .glo "go_hops") rfl), D_go_hops.kp, K_go_hops, D_go_hops.bindsN fun _ _ _ _ _ _ us hl => (match us, hl with | [_, _, _], _ => rfl), .nil, fun _ => .nil⟩⟩
  obtain ⟨fd_law, D_law⟩ := c.def_ 54 (d := d_law) rfl
  have K_law := ok_law (P := P) (w := w) (K := K) (mg := mg) (base := base) (c := csOf K) D_law (F__law_lines := F__law_lines) (g_list := g_list) (F__law_folded := F__law_folded) (F__law_begun := F__law_begun) (F__law_drawn_leash := F__law_drawn_leash) (F_go_hops := F_go_hops) (F__law_shown := F__law_shown)
  have e2 := D_law
  exact ok_law (P := P) (w := w) (K := K) (mg := mg) (base := base) (c := csOf K) F (F__law_lines := F__law_lines) (g_list := g_list) (F__law_folded := F__law_folded) (F__law_begun := F__law_begun) (F__law_drawn_leash := F__law_drawn_leash) (F_go_hops := F_go_hops) (F__law_shown := F__law_shown)
/-- from the law's promise to the row, whatever flies told world by world -/
theorem walkW {l : PySem.W.OpenLaw} {top k : Nat} {vw : Program} {free : List Str} {XQ : (Str → Option Value) → Heap → Prop} {YQ : World → Heap → Prop} {dr : DefRec} (CXw : World → CXT) {par : Str}
    (most : l.most = some top) (lt : top ≤ sizeLine) (nod : dr.params.defaults = []) (room : Room k callerA)
    (FF : ∀ (wo : World) (gm : Str → Option Value) (la : Addr) (hp : Heap), YQ wo hp → hp.Ns mainGlobals gm → gm dr.name = some (.ref la) →
      ∃ (K : PySem.W.Frag) (fd : FuncData) (sp : Sp), K.In hp ∧ (∀ (s : Shared) (u : Value), BindsTo s fd ⟨[u], []⟩ [(par, u)]) ∧
        (∀ (H : Hp) (a : Addr) (ns : List Int), Only H → SqL K H a (ns.map V.int) → sp [.ref a] H (fun v _ => v = .bl true) fun _ _ _ => False) ∧
        ∀ bs : Heap, K.In bs → bs.Ns mainGlobals gm → FnOk l.prog wo K gm bs (CXw wo) k la fd [par] sp)
    (nofly : ∀ (wo : World) (H : Hp) (s : Shared) (e : Value) (s' : Shared), CXw wo [] H s (fun _ _ _ => False) e s' → False) :
    PySem.W.WalkO vw free XQ YQ l.row.toRowW dr [] (fun f vs => PySem.call f vs) := by
  refine Att.attach_call most nod fun wo _ t1 gm _ la _ _ _ _ _ _ _ GG YY _ _ _ mgl obj isI len gens => ?_
  obtain ⟨K, fd, sp, kin, bnd, prm, ok⟩ := FF wo gm la _ YY GG.T.g mgl
  exact law_call kin GG.T.g GG.T.b GG.T.builtins GG.T.nolimit gens obj isI (Nat.le_trans len lt) room ok bnd (fun H o s => prm H _ _ o s) fun H e s' => nofly wo H t1 e s'
end Hd
open PySem PySem.W PySem.Calls PyProof.Rows
theorem PySem.Challenge.cw_oneleash_k35_whole_papers_of_hops_holds : PySem.Challenge.rw_oneleash_k35_whole_papers_of_hops.Holds := by
  w_on; o_law
  refine HandSHeadRun.head_any (r := OpenLaw.row PySem.Challenge.rw_oneleash_k35_whole_papers_of_hops) (q := view (OpenLaw.row PySem.Challenge.rw_oneleash_k35_whole_papers_of_hops).prog [65]) (H := Hd.hk) (ob := Hd.ob) (M := 4000) (loose := Hd.lo) (d := HandSHeadRun.topDef (OpenLaw.row PySem.Challenge.rw_oneleash_k35_whole_papers_of_hops).prog 65) (kwd := []) Hd.ob_eq
    (by kernel_rfl) (fun s => by kernel_rfl) Hd.run (by kernel_rfl) (by kernel_rfl) (by kernel_rfl) (by rfl) (by first | assumption | decide +kernel) (by decide +kernel) ⟨rfl, rfl, rfl, rfl, rfl, by decide +kernel⟩ ?hw ?hc
  case hw => w_witness2
  case hc =>
    refine Hd.walkW (l := PySem.Challenge.rw_oneleash_k35_whole_papers_of_hops) (top := 63) (k := 10) (par := "script") (fun w => L2.CX PySem.Challenge.rw_oneleash_k35_whole_papers_of_hops.prog w) rfl (by decide) (by kernel_rfl) ⟨rfl, by decide, by decide⟩ ?F ?X
    case F =>
      intro w mg fa h Y G hmg0
      obtain ⟨K, KX, hn, c⟩ := Y
      have hmg : mg ("law" : PySem.Str) = some (.ref fa) := by
        have e : (HandSHeadRun.topDef (OpenLaw.row PySem.Challenge.rw_oneleash_k35_whole_papers_of_hops).prog 65).name = ("law" : PySem.Str) := by kernel_rfl
        rw [← e]
        exact hmg0
      obtain ⟨fd, hb, hF⟩ := Hd.facts (P := (PySem.Challenge.rw_oneleash_k35_whole_papers_of_hops).prog) (w := w) KX G hmg c
      exact ⟨K, fd, _, KX, hb, fun H a ns hO hS => Hd.starts hn H a ns hO hS, hF⟩
    case X =>
      rintro wo H s e s' ⟨_, _, _, _, _, _, _, _, _, _, _, _, z⟩
      exact z
