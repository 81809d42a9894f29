import PyProof.Rows.All
import Wide.All
import OpenK.AllK
import Wide.FinOn
import HandS.ForMost
import HandS.Exc
import HandS.ExcOwn
import HandS.WordsExc
import HandS.TryMany
import HandS.Lambda
import KE.DatumMore
import KE.DatumMoreOrd
import KE.DatumIndex
import KE.SortKeyHeap
import HandS.Deep
import HandS.Text
import PyProof.ListStr
import HandS.RaiseMore
import HandS.Codes
import HandS.TupAny
import HandS.Flow
import HandS.Rev
import HandS.Zip
import HandS.More
import PyProof.CollectStr
import HandS.GenBody
import HandS.AnyAll
import PyProof.ConsumeS
import HandS.HeadHook4
import HandS.HeadWalk
import HandS.Head2
import HandS.ListItems
import PyProof.Draws
import HandS.StrMore
import HandS.Replace
import HandS.Style
import PyProof.SumAny
import PyProof.Rows.SumGenD
import PyProof.InstEq
import HandS.Sort
import HandS.RevTup
import HandS.SetKeys
import PySem.Challenge.RW_spellhall_k01_words
set_option Elab.async false
set_option linter.all false
set_option maxRecDepth 100000
set_option maxHeartbeats 4000000
/-! Sp: the data layer over HandS. What a state holds is said by data: frozen data of the names, owned cells by address. -/
namespace Sp
open PySem L2

/-! ### one expression, run to what is wanted -/
structure WE (X : Cx) (e : Expr) (σ : St) (H : Hp) (Q : VK) : Prop where
  run : ∀ (pins : List (Addr × Obj)) (s : Shared), Inv X pins σ H s → wpAny (model X.prog X.w) X.A (eval e X.env) (EP X pins σ Q) X.xe s
structure WT (X : Cx) (e : Expr) (σ : St) (H : Hp) (Q : Bool → Hp → Prop) : Prop where
  run : ∀ (pins : List (Addr × Obj)) (s : Shared), Inv X pins σ H s → wpAny (model X.prog X.w) X.A (isTrue e X.env (eval e X.env)) (TP X pins σ Q) X.xe s
structure WA (X : Cx) (es : List Expr) (σ : St) (H : Hp) (Q : List V → Hp → Prop) : Prop where
  run : ∀ (pos : Pos) (pins : List (Addr × Obj)) (s : Shared), Inv X pins σ H s → wpAny (model X.prog X.w) X.A (spliced (backTo pos (starEach es X.env))) (AP X pins σ Q) X.xe s
structure WS (X : Cx) (st : List Stmt) (σ : St) (H : Hp) (D : Ends) : Prop where
  run : ∀ (pins : List (Addr × Obj)) (s : Shared), Inv X pins σ H s → wpAny (model X.prog X.w) X.A (execs st X.env) (SP X pins D) X.xe s
section
variable {X : Cx} {e : Expr} {es : List Expr} {st : List Stmt} {σ : St} {H : Hp}
theorem pe_we : PE X e (WE X e) := ⟨fun pins s _ _ _ I h => h.run pins s I⟩
theorem pt_wt : PT X e (WT X e) := ⟨fun pins s _ _ _ I h => h.run pins s I⟩
theorem pa_wa : PA X es (WA X es) := ⟨fun pos pins s _ _ _ I h => h.run pos pins s I⟩
theorem pss_ws : PSs X st (fun D σ H => WS X st σ H D) := ⟨fun pins s _ _ _ I h => h.run pins s I⟩
theorem WE.of {t : TE} {Q : VK} (p : PE X e t) (h : t σ H Q) : WE X e σ H Q := ⟨fun pins s I => p.run pins s σ H Q I h⟩
theorem WT.of {t : TT} {Q : Bool → Hp → Prop} (p : PT X e t) (h : t σ H Q) : WT X e σ H Q := ⟨fun pins s I => p.run pins s σ H Q I h⟩
theorem WA.of {t : TA} {Q : List V → Hp → Prop} (p : PA X es t) (h : t σ H Q) : WA X es σ H Q := ⟨fun pos pins s I => p.run pos pins s σ H Q I h⟩
theorem WS.of {t : TS} {D : Ends} (p : PSs X st t) (h : t D σ H) : WS X st σ H D := ⟨fun pins s I => p.run pins s σ H D I h⟩
theorem WE.mono {Q Q' : VK} (h : WE X e σ H Q) (k : ∀ v H', Q v H' → Q' v H') : WE X e σ H Q' :=
  ⟨fun pins s I => thn (h.run pins s I) fun _ _ ⟨v, H', J, r, q⟩ => ⟨v, H', J, r, k v H' q⟩⟩
theorem WT.mono {Q Q' : Bool → Hp → Prop} (h : WT X e σ H Q) (k : ∀ b H', Q b H' → Q' b H') : WT X e σ H Q' :=
  ⟨fun pins s I => thn (h.run pins s I) fun b _ ⟨H', J, q⟩ => ⟨H', J, k b H' q⟩⟩
theorem WA.mono {Q Q' : List V → Hp → Prop} (h : WA X es σ H Q) (k : ∀ v H', Q v H' → Q' v H') : WA X es σ H Q' :=
  ⟨fun pos pins s I => thn (h.run pos pins s I) fun _ _ ⟨v, H', J, r, q⟩ => ⟨v, H', J, r, k v H' q⟩⟩
theorem WS.mono {D D' : Ends} (h : WS X st σ H D) (k1 : ∀ σ' H', D.nx σ' H' → D'.nx σ' H') (k2 : ∀ v H', D.rt v H' → D'.rt v H') (k3 : ∀ σ' H', D.bk σ' H' → D'.bk σ' H') (k4 : ∀ σ' H', D.ct σ' H' → D'.ct σ' H') : WS X st σ H D' :=
  ⟨fun pins s I => thn (h.run pins s I) fun f s' q => by
    cases f with
    | next => obtain ⟨σ', H', J, q⟩ := q; exact ⟨σ', H', J, k1 _ _ q⟩
    | brk => obtain ⟨σ', H', J, q⟩ := q; exact ⟨σ', H', J, k3 _ _ q⟩
    | cont => obtain ⟨σ', H', J, q⟩ := q; exact ⟨σ', H', J, k4 _ _ q⟩
    | ret u => obtain ⟨v, σ', H', J, r, q⟩ := q; exact ⟨v, σ', H', J, r, k2 _ _ q⟩⟩
/-- a changing thing may be locked at any time -/
theorem WE.lock {Q : VK} {d : Addr} {u : HO} (hd : H d = some u) (mu : Mut (some u)) (h : ∀ od, WE X e σ (upd H d (.frz od u)) Q) : WE X e σ H Q := ⟨fun pins s I => by
  obtain ⟨od, J⟩ := I.lock hd mu
  exact (h od).run pins s J⟩
/-- .. behind the expression too -/
theorem WE.lockAfter {Q : VK} (h : WE X e σ H fun v H' => ∃ d u, H' d = some u ∧ Mut (some u) ∧ ∀ od, Q v (upd H' d (.frz od u))) : WE X e σ H Q := ⟨fun pins s I =>
  thn (h.run pins s I) fun _ _ ⟨v, H', J, r, d, u, hd, mu, q⟩ => by
    obtain ⟨od, J'⟩ := J.lock hd mu
    exact ⟨v, _, J', r, q od⟩⟩
end

/-! ### frozen data -/
/-- all of F stands in H -/
def Ext (F H : Hp) : Prop := ∀ a o, F a = some o → H a = some o
theorem Ext.refl (F : Hp) : Ext F F := fun _ _ h => h
theorem Ext.trans {F G H : Hp} (a : Ext F G) (b : Ext G H) : Ext F H := fun c o h => b c o (a c o h)
/-- what a value is, by data that stay -/
structure Pv where
  rep : PySem.W.Frag → Hp → V → Prop
  mono : ∀ {K : PySem.W.Frag} {F F' : Hp} {v : V}, rep K F v → Ext F F' → rep K F' v
/-- what an owned address holds -/
structure Cell where
  rep : PySem.W.Frag → Hp → HO → Prop
  mono : ∀ {K : PySem.W.Frag} {F F' : Hp} {o : HO}, rep K F o → Ext F F' → rep K F' o
abbrev Rho := List (Option Pv)
abbrev Gs := List (Addr × Cell)
structure DSt where
  ρ : Rho
  gs : Gs
def isTbl : HO → Bool
  | .tbl _ => true
  | _ => false
inductive RepS (K : PySem.W.Frag) (F : Hp) : St → Rho → Prop
  | nil : RepS K F [] []
  | un {o : Option V} {σ : St} {ρ : Rho} : RepS K F σ ρ → RepS K F (o :: σ) (none :: ρ)
  | ha {v : V} {A : Pv} {σ : St} {ρ : Rho} : A.rep K F v → RepS K F σ ρ → RepS K F (some v :: σ) (some A :: ρ)
theorem RepS.mono {K : PySem.W.Frag} {F F' : Hp} {σ : St} {ρ : Rho} (h : RepS K F σ ρ) (e : Ext F F') : RepS K F' σ ρ := by
  induction h with
  | nil => exact .nil
  | un _ ih => exact .un ih
  | ha r _ ih => exact .ha (Pv.mono _ r e) ih
theorem RepS.length {K : PySem.W.Frag} {F : Hp} {σ : St} {ρ : Rho} (h : RepS K F σ ρ) : σ.length = ρ.length := by
  induction h with
  | nil => rfl
  | un _ ih => simp [ih]
  | ha _ _ ih => simp [ih]
theorem RepS.get {K : PySem.W.Frag} {F : Hp} {σ : St} {ρ : Rho} (h : RepS K F σ ρ) : ∀ {i : Nat} {A : Pv}, ρ[i]? = some (some A) → ∃ v, σ[i]? = some (some v) ∧ A.rep K F v := by
  induction h with
  | nil => intro i A e; simp at e
  | un _ ih =>
    intro i A e
    cases i with
    | zero => simp at e
    | succ i => obtain ⟨v, e1, r⟩ := ih (i := i) (by simpa using e); exact ⟨v, by simpa using e1, r⟩
  | ha r _ ih =>
    intro i A e
    cases i with
    | zero => simp at e; subst e; exact ⟨_, rfl, r⟩
    | succ i => obtain ⟨v, e1, r⟩ := ih (i := i) (by simpa using e); exact ⟨v, by simpa using e1, r⟩
theorem RepS.set {K : PySem.W.Frag} {F : Hp} {σ : St} {ρ : Rho} (h : RepS K F σ ρ) {v : V} {A : Pv} (r : A.rep K F v) : ∀ (i : Nat), RepS K F (σ.set i (some v)) (ρ.set i (some A)) := by
  induction h with
  | nil => intro i; exact .nil
  | un h ih =>
    intro i
    cases i with
    | zero => exact .ha r h
    | succ i => exact .un (ih i)
  | ha q h ih =>
    intro i
    cases i with
    | zero => exact .ha r h
    | succ i => exact .ha q (ih i)
theorem RepS.forget {K : PySem.W.Frag} {F : Hp} {σ : St} {ρ : Rho} (h : RepS K F σ ρ) {o : Option V} : ∀ (i : Nat), RepS K F (σ.set i o) (ρ.set i none) := by
  induction h with
  | nil => intro i; exact .nil
  | un h ih =>
    intro i
    cases i with
    | zero => exact .un h
    | succ i => exact .un (ih i)
  | ha q h ih =>
    intro i
    cases i with
    | zero => exact .un h
    | succ i => exact .ha q (ih i)

/-- an exception: its class, and its number where it tells one -/
structure Exc where
  C : Addr
  row : Option Int
def ExcRep (e : Exc) (cls : Value) (d : Option Addr) (H : Hp) : Prop :=
  cls = .ref e.C ∧ (match e.row with
    | none => True
    | some r => ∃ dx nm, d = some dx ∧ H dx = some (.xd [(nm, .int r)]))

/-! ### tables of code objects: lambdas' names by their places -/
abbrev Tb := List (Addr × Str)
abbrev TbOk (T : Tb) (H : Hp) : Prop := LamX.Tabs T H

/-! ### the state said by data -/
structure DX where
  X : Cx
  T : Tb
  k : Nat
  H0 : Hp
  F0 : Hp
  S0 : List Addr
  ex : Exc → DSt → Prop
/-- nothing stands there but perhaps a table -/
def Fre (H : Hp) (a : Addr) : Prop := ∀ o, H a = some o → isTbl o = true
structure Step (H0 F0 : Hp) (S0 : List Addr) (H F : Hp) (S : List Addr) : Prop where
  ff : Ext F0 F
  fr : ∀ a o, H0 a = some o → isTbl o = false → a ∉ S0 → H a = some o
  nw : ∀ a, (F a ≠ none ∨ a ∈ S) → F0 a ≠ none ∨ a ∈ S0 ∨ Fre H0 a
theorem Step.refl {H F : Hp} {S : List Addr} : Step H F S H F S :=
  ⟨Ext.refl _, fun _ _ h _ _ => h, fun _ h => h.elim .inl fun h => .inr (.inl h)⟩
/-- what is free now was free, or was owned -/
theorem Step.was {H0 F0 H F : Hp} {S0 S : List Addr} (t : Step H0 F0 S0 H F S) {p : Addr} (hp : Fre H p) : p ∈ S0 ∨ Fre H0 p := by
  by_cases z2 : p ∈ S0
  · exact .inl z2
  · refine .inr fun o e => ?_
    cases z3 : isTbl o with
    | true => rfl
    | false =>
      have := hp o (t.fr p o e z3 z2)
      rw [z3] at this
      exact this
theorem Fre.of {H : Hp} {p : Addr} (h : H p = none) : Fre H p := fun o e => by rw [h] at e; cases e
structure Sta (Y : DX) (s : DSt) (σ : St) (H F : Hp) : Prop where
  ext : Ext F H
  ntb : ∀ a o, F a = some o → isTbl o = false
  rep : RepS Y.X.K F σ s.ρ
  own : ∀ p ∈ s.gs, F p.1 = none ∧ ∃ o, H p.1 = some o ∧ isTbl o = false ∧ p.2.rep Y.X.K F o
  nd : (s.gs.map (·.1)).Nodup
  tb : TbOk Y.T H
  st : Step Y.H0 Y.F0 Y.S0 H F (s.gs.map (·.1))
section
variable {Y : DX} {s : DSt} {σ : St} {H F : Hp}
/-- a new object -/
theorem TbOk.new {T : Tb} {H : Hp} {p : Addr} {o : HO} (h : TbOk T H) (hp : H p = none) : TbOk T (upd H p o) := h.ext fun b u e => by rw [upd_ne (ne_of_none e hp)]; exact e
theorem codeO_ntb {c : Addr} {q : Str} {o : HO} (h : o = LamX.CodeO c q) : isTbl o = false := by subst h; rfl
/-- an object that is no table is written -/
theorem TbOk.write {T : Tb} {H : Hp} {p : Addr} {o u : HO} (h : TbOk T H) (hp : H p = some o) (ho : isTbl o = false) (hc : ∀ c q, o ≠ LamX.CodeO c q) : TbOk T (upd H p u) := fun q hq => by
  obtain ⟨ps, h1, h2, h3⟩ := h q hq
  refine ⟨ps, ?_, h2, fun pos cv hcv => ?_⟩
  · rw [upd_ne]
    · exact h1
    · intro e
      rw [e, hp] at h1
      cases h1
      cases ho
  · obtain ⟨c, e1, e2⟩ := h3 pos cv hcv
    refine ⟨c, e1, ?_⟩
    rw [upd_ne]
    · exact e2
    · intro e
      rw [e, hp] at e2
      exact hc _ _ (Option.some.inj e2)
theorem Ext.new {F H : Hp} {p : Addr} {o : HO} (e : Ext F H) (hp : H p = none) : Ext F (upd H p o) := fun a u h => by
  rw [upd_ne (ne_of_none (e a u h) hp)]
  exact e a u h
theorem Ext.both {F H : Hp} {p : Addr} {o : HO} (e : Ext F H) : Ext (upd F p o) (upd H p o) := fun a u h => by
  by_cases q : a = p
  · rw [q, upd_same] at h ⊢
    exact h
  · rw [upd_ne q] at h ⊢
    exact e a u h
theorem Ext.free {F H : Hp} {p : Addr} (e : Ext F H) (hp : H p = none) : F p = none := by
  cases q : F p with
  | none => rfl
  | some o => rw [e _ _ q] at hp; cases hp
theorem Ext.grow {F : Hp} {p : Addr} {o : HO} (hp : F p = none) : Ext F (upd F p o) := fun a u h => by
  rw [upd_ne (ne_of_none h hp)]
  exact h
theorem Sta.free (S : Sta Y s σ H F) {p : Addr} (hp : H p = none) : F p = none := S.ext.free hp
/-- a new object that is frozen at once -/
theorem Sta.newF (S : Sta Y s σ H F) {p : Addr} {o : HO} (hp : H p = none) (ho : isTbl o = false) : Sta Y s σ (upd H p o) (upd F p o) := by
  have hF := S.ext.free hp
  refine ⟨S.ext.both, fun a u h => ?_, S.rep.mono (Ext.grow hF), fun q hq => ?_, S.nd, S.tb.new hp, ⟨S.st.ff.trans (Ext.grow hF), fun a u h1 h2 h3 => ?_, fun a h => ?_⟩⟩
  · by_cases q : a = p
    · rw [q, upd_same] at h; cases h; exact ho
    · rw [upd_ne q] at h; exact S.ntb a u h
  · obtain ⟨h1, u, h2, h3, h4⟩ := S.own q hq
    have ne : q.1 ≠ p := ne_of_none h2 hp
    exact ⟨by rw [upd_ne ne]; exact h1, u, by rw [upd_ne ne]; exact h2, h3, q.2.mono h4 (Ext.grow hF)⟩
  · have h := S.st.fr a u h1 h2 h3
    rw [upd_ne (ne_of_none h hp)]
    exact h
  · by_cases q : a = p
    · rw [q]; exact .inr (S.st.was (.of hp))
    · refine S.st.nw a (h.elim (fun h => .inl ?_) .inr)
      rw [upd_ne q] at h
      exact h
/-- a new object that is owned -/
theorem Sta.newO (S : Sta Y s σ H F) {p : Addr} {o : HO} {c : Cell} (hp : H p = none) (ho : isTbl o = false) (r : c.rep Y.X.K F o) : Sta Y ⟨s.ρ, (p, c) :: s.gs⟩ σ (upd H p o) F := by
  have hF := S.ext.free hp
  have nin : p ∉ s.gs.map (·.1) := fun hm => by
    obtain ⟨q, hq, e⟩ := List.mem_map.mp hm
    obtain ⟨_, u, h2, _⟩ := S.own q hq
    rw [e, hp] at h2; cases h2
  refine ⟨S.ext.new hp, S.ntb, S.rep, fun q hq => ?_, List.nodup_cons.mpr ⟨nin, S.nd⟩, S.tb.new hp, ⟨S.st.ff, fun a u h1 h2 h3 => ?_, fun a h => ?_⟩⟩
  · rcases List.mem_cons.mp hq with e | hq
    · subst e
      exact ⟨hF, o, upd_same, ho, r⟩
    · obtain ⟨h1, u, h2, h3, h4⟩ := S.own q hq
      exact ⟨h1, u, by rw [upd_ne (ne_of_none h2 hp)]; exact h2, h3, h4⟩
  · have h := S.st.fr a u h1 h2 h3
    rw [upd_ne (ne_of_none h hp)]
    exact h
  · rcases h with h | h
    · exact S.st.nw a (.inl h)
    · rcases List.mem_cons.mp h with h | h
      · rw [h]; exact .inr (S.st.was (.of hp))
      · exact S.st.nw a (.inr h)
/-- an owned cell, by its place -/
theorem Sta.cell (S : Sta Y s σ H F) {i : Nat} {p : Addr} {c : Cell} (h : s.gs[i]? = some (p, c)) : F p = none ∧ ∃ o, H p = some o ∧ isTbl o = false ∧ c.rep Y.X.K F o :=
  S.own (p, c) (List.mem_of_getElem? h)
theorem fst_set (gs : Gs) {i : Nat} {p : Addr} {c c' : Cell} (h : gs[i]? = some (p, c)) : (gs.set i (p, c')).map (·.1) = gs.map (·.1) := by
  rw [List.map_set]
  apply List.ext_getElem?
  intro j
  by_cases e : i = j
  · subst e
    obtain ⟨hl, e⟩ := List.getElem?_eq_some_iff.mp h
    rw [List.getElem?_set_self (by simpa using hl), List.getElem?_map, h]
    rfl
  · rw [List.getElem?_set_ne e]
/-- an owned cell is written -/
theorem Sta.write (S : Sta Y s σ H F) {i : Nat} {p : Addr} {c c' : Cell} {o o' : HO} (h : s.gs[i]? = some (p, c)) (hp : H p = some o) (hc : ∀ c q, o ≠ LamX.CodeO c q) (ho : isTbl o' = false) (r : c'.rep Y.X.K F o') :
    Sta Y ⟨s.ρ, s.gs.set i (p, c')⟩ σ (upd H p o') F := by
  obtain ⟨hF, u, hu, hut, _⟩ := S.cell h
  rw [hp] at hu
  cases hu
  obtain ⟨hil, hie⟩ := List.getElem?_eq_some_iff.mp h
  have fs := fst_set s.gs (c' := c') h
  have hne : ∀ j q, j ≠ i → s.gs[j]? = some q → q.1 ≠ p := fun j q hj hq e => by
    obtain ⟨hjl, hje⟩ := List.getElem?_eq_some_iff.mp hq
    refine hj ((List.getElem_inj (h₀ := by simpa using hjl) (h₁ := by simpa using hil) S.nd).mp ?_)
    simp [hje, hie, e]
  refine ⟨fun a w ha => ?_, S.ntb, S.rep, fun q hq => ?_, by rw [fs]; exact S.nd, S.tb.write hp hut hc, ?_⟩
  · have n : a ≠ p := fun e => by rw [e, hF] at ha; cases ha
    rw [upd_ne n]
    exact S.ext a w ha
  · obtain ⟨j, hj, e⟩ := List.getElem_of_mem hq
    have hjl : j < s.gs.length := by simpa using hj
    by_cases hji : j = i
    · subst hji
      rw [List.getElem_set_self] at e
      subst e
      exact ⟨hF, o', upd_same, ho, r⟩
    · rw [List.getElem_set_ne (Ne.symm hji)] at e
      have e2 : s.gs[j]? = some q := by rw [List.getElem?_eq_getElem hjl, e]
      obtain ⟨h1, w, h2, h3, h4⟩ := S.own q (List.mem_of_getElem? e2)
      exact ⟨h1, w, by rw [upd_ne (hne j q hji e2)]; exact h2, h3, h4⟩
  · show Step Y.H0 Y.F0 Y.S0 (upd H p o') F ((s.gs.set i (p, c')).map (·.1))
    rw [fs]
    have pin : p ∈ s.gs.map (·.1) := List.mem_map.mpr ⟨(p, c), List.mem_of_getElem? h, rfl⟩
    refine ⟨S.st.ff, fun a w h1 h2 h3 => ?_, S.st.nw⟩
    · have n : a ≠ p := fun e => by
        rcases S.st.nw p (.inr pin) with z | z | z
        · obtain ⟨w2, z⟩ := Option.ne_none_iff_exists'.mp z
          have := S.st.ff p w2 z
          rw [hF] at this; cases this
        · exact h3 (e ▸ z)
        · have := z w (e ▸ h1)
          rw [h2] at this; cases this
      rw [upd_ne n]
      exact S.st.fr a w h1 h2 h3
/-- an owned cell is frozen (it stays as it stands) -/
theorem Sta.freeze (S : Sta Y s σ H F) {i : Nat} {p : Addr} {c : Cell} {o : HO} (h : s.gs[i]? = some (p, c)) (hp : H p = some o) : Sta Y ⟨s.ρ, s.gs.eraseIdx i⟩ σ H (upd F p o) := by
  obtain ⟨hF, u, hu, hut, _⟩ := S.cell h
  rw [hp] at hu
  cases hu
  obtain ⟨hil, hie⟩ := List.getElem?_eq_some_iff.mp h
  have hgi := h
  have sub : ∀ q, q ∈ s.gs.eraseIdx i → q ∈ s.gs := fun q hq => List.mem_of_mem_eraseIdx hq
  have hne : ∀ q, q ∈ s.gs.eraseIdx i → q.1 ≠ p := fun q hq e => by
    obtain ⟨j, hj, he⟩ := List.mem_eraseIdx_iff_getElem?.mp hq
    obtain ⟨hjl, hje⟩ := List.getElem?_eq_some_iff.mp he
    refine hj ((List.getElem_inj (h₀ := by simpa using hjl) (h₁ := by simpa using hil) S.nd).mp ?_)
    simp [hje, hie, e]
  have hsl : ((s.gs.eraseIdx i).map (·.1)).Sublist (s.gs.map (·.1)) := (List.eraseIdx_sublist _ _).map _
  refine ⟨fun a w ha => ?_, fun a w ha => ?_, S.rep.mono (Ext.grow hF), fun q hq => ?_, S.nd.sublist hsl, S.tb, ⟨S.st.ff.trans (Ext.grow hF), S.st.fr, fun a h => ?_⟩⟩
  · by_cases n : a = p
    · rw [n, upd_same] at ha; cases ha; rw [n]; exact hp
    · rw [upd_ne n] at ha; exact S.ext a w ha
  · by_cases n : a = p
    · rw [n, upd_same] at ha; cases ha; exact hut
    · rw [upd_ne n] at ha; exact S.ntb a w ha
  · obtain ⟨h1, w, h2, h3, h4⟩ := S.own q (sub q hq)
    exact ⟨by rw [upd_ne (hne q hq)]; exact h1, w, h2, h3, q.2.mono h4 (Ext.grow hF)⟩
  · rcases h with h | h
    · by_cases n : a = p
      · rw [n]
        exact S.st.nw p (.inr (List.mem_map.mpr ⟨(p, c), List.mem_of_getElem? hgi, rfl⟩))
      · rw [upd_ne n] at h
        exact S.st.nw a (.inl h)
    · exact S.st.nw a (.inr (hsl.subset h))
/-- an owned cell is let go -/
theorem Sta.drop (S : Sta Y s σ H F) (i : Nat) : Sta Y ⟨s.ρ, s.gs.eraseIdx i⟩ σ H F := by
  have hsl : ((s.gs.eraseIdx i).map (·.1)).Sublist (s.gs.map (·.1)) := (List.eraseIdx_sublist _ _).map _
  exact ⟨S.ext, S.ntb, S.rep, fun q hq => S.own q (List.mem_of_mem_eraseIdx hq), S.nd.sublist hsl, S.tb, ⟨S.st.ff, S.st.fr, fun a h => S.st.nw a (h.imp id fun h => hsl.subset h)⟩⟩
/-- the cells in another order -/
theorem Sta.perm (S : Sta Y s σ H F) {gs : Gs} (h : s.gs.Perm gs) : Sta Y ⟨s.ρ, gs⟩ σ H F :=
  ⟨S.ext, S.ntb, S.rep, fun q hq => S.own q (h.mem_iff.mpr hq), (h.map _).nodup_iff.mp S.nd, S.tb, ⟨S.st.ff, S.st.fr, fun a q => S.st.nw a (q.imp id fun q => (h.map _).mem_iff.mpr q)⟩⟩
/-- a name is set -/
theorem Sta.set (S : Sta Y s σ H F) {v : V} {A : Pv} (r : A.rep Y.X.K F v) (i : Nat) : Sta Y ⟨s.ρ.set i (some A), s.gs⟩ (σ.set i (some v)) H F := ⟨S.ext, S.ntb, S.rep.set r i, S.own, S.nd, S.tb, S.st⟩
/-- tables grew, new things came -/
theorem Sta.extN {H' : Hp} (S : Sta Y s σ H F) (e : LamX.ExtN H H') (t : TbOk Y.T H') : Sta Y s σ H' F := by
  have k : ∀ a o, H a = some o → isTbl o = false → H' a = some o := fun a o h1 h2 => e a o h1 fun ps z => by rw [z] at h2; cases h2
  exact ⟨fun a o h => k a o (S.ext a o h) (S.ntb a o h), S.ntb, S.rep, fun p hp => by
    obtain ⟨h1, o, h2, h3, h4⟩ := S.own p hp
    exact ⟨h1, o, k _ o h2 h3, h3, h4⟩, S.nd, t, ⟨S.st.ff, fun a o h1 h2 h3 => k a o (S.st.fr a o h1 h2 h3) h2, S.st.nw⟩⟩
theorem Sta.length (S : Sta Y s σ H F) : σ.length = s.ρ.length := S.rep.length
end
end Sp
set_option maxHeartbeats 4000000
/-! Sp: types of data and how values stand for them; expressions run by data. -/
namespace Sp
open PySem L2
abbrev Frag := PySem.W.Frag
/-! ### two lists, item by item -/
section
variable {δ ε : Type} {R : δ → ε → Prop}
theorem prd_get : ∀ {l : List δ} {m : List ε}, Paired R l m → ∀ {i : Nat} {y : ε}, m[i]? = some y → ∃ x, l[i]? = some x ∧ R x y
  | _, _, .nil, i, y, h => by simp at h
  | _, _, .cons r t, 0, y, h => by simp at h; subst h; exact ⟨_, rfl, r⟩
  | _, _, .cons r t, i + 1, y, h => by
    obtain ⟨x, h1, h2⟩ := prd_get t (i := i) (y := y) (by simpa using h)
    exact ⟨x, by simpa using h1, h2⟩
theorem prd_app {l l' : List δ} {m m' : List ε} (h : Paired R l m) (k : Paired R l' m') : Paired R (l ++ l') (m ++ m') := by
  induction h with
  | nil => exact k
  | cons r _ ih => exact .cons r ih
theorem prd_of : ∀ {l : List δ} {m : List ε}, l.length = m.length → (∀ (i : Nat) a b, l[i]? = some a → m[i]? = some b → R a b) → Paired R l m
  | [], [], _, _ => .nil
  | [], _ :: _, h, _ => by simp at h
  | _ :: _, [], h, _ => by simp at h
  | a :: l, b :: m, h, k => .cons (k 0 a b rfl rfl) (prd_of (by simpa using h) fun i x y hx hy => k (i + 1) x y (by simpa using hx) (by simpa using hy))
theorem prd_erase {l : List δ} {m : List ε} (h : Paired R l m) : ∀ i : Nat, Paired R (l.eraseIdx i) (m.eraseIdx i) := by
  induction h with
  | nil => intro i; exact .nil
  | cons r t ih =>
    intro i
    cases i with
    | zero => exact t
    | succ i => exact .cons r (ih i)
theorem prd_rev {l : List δ} {m : List ε} (h : Paired R l m) : Paired R l.reverse m.reverse := by
  induction h with
  | nil => exact .nil
  | cons r _ ih => rw [List.reverse_cons, List.reverse_cons]; exact prd_app ih (.cons r .nil)
theorem prd_take {l : List δ} {m : List ε} (h : Paired R l m) : ∀ i : Nat, Paired R (l.take i) (m.take i) := by
  induction h with
  | nil => intro i; simp; exact .nil
  | cons r t ih =>
    intro i
    cases i with
    | zero => exact .nil
    | succ i => exact .cons r (ih i)
theorem prd_drop {l : List δ} {m : List ε} (h : Paired R l m) : ∀ i : Nat, Paired R (l.drop i) (m.drop i) := by
  induction h with
  | nil => intro i; simp; exact .nil
  | cons r t ih =>
    intro i
    cases i with
    | zero => exact .cons r t
    | succ i => exact ih i
theorem prd_set {l : List δ} {m : List ε} {x : δ} {y : ε} (h : Paired R l m) (k : R x y) : ∀ i : Nat, Paired R (l.set i x) (m.set i y) := by
  induction h with
  | nil => intro i; exact .nil
  | cons r t ih =>
    intro i
    cases i with
    | zero => exact .cons k t
    | succ i => exact .cons r (ih i)
theorem prd_map {l : List δ} {m : List ε} {ι κ : Type} {S : ι → κ → Prop} {f : δ → ι} {g : ε → κ} (h : Paired R l m) (k : ∀ a b, R a b → S (f a) (g b)) : Paired S (l.map f) (m.map g) := by
  induction h with
  | nil => exact .nil
  | cons r _ ih => exact .cons (k _ _ r) ih
end
/-! ### data -/
class Enc (α : Type) where
  rep : Frag → Hp → V → α → Prop
  mono : ∀ {K : Frag} {F F' : Hp} {v : V} {a : α}, rep K F v a → Ext F F' → rep K F' v a
def pu {α : Type} [Enc α] (a : α) : Pv := ⟨fun K F v => Enc.rep K F v a, Enc.mono⟩
/-- just this value -/
def raw (v : V) : Pv := ⟨fun _ _ u => u = v, fun h _ => h⟩
theorem pu_rep {α : Type} [Enc α] {a : α} {K : Frag} {F : Hp} {v : V} : (pu a).rep K F v = Enc.rep K F v a := rfl
abbrev Txt := List Nat
def toStr (x : Txt) : Str := ⟨x.toArray⟩
theorem toStr_inj {x y : Txt} (h : toStr x = toStr y) : x = y := by
  have h2 : (⟨x.toArray⟩ : Str).cps = (⟨y.toArray⟩ : Str).cps := congrArg Str.cps h
  simpa using h2
theorem toStr_cps (x : Txt) : (toStr x).cps.toList = x := by simp [toStr]
theorem toStr_of (x : Str) : toStr x.cps.toList = x := by cases x; simp [toStr]
instance : Enc Int := ⟨fun _ _ v i => v = .int i, fun h _ => h⟩
instance : Enc Bool := ⟨fun _ _ v b => v = .bl b, fun h _ => h⟩
instance : Enc Unit := ⟨fun _ _ v _ => v = .non, fun h _ => h⟩
theorem toStr_app (x y : Txt) : toStr x ++ toStr y = toStr (x ++ y) := by
  show Str.append (toStr x) (toStr y) = _
  simp [Str.append, toStr]
theorem toStr_len (x : Txt) : (toStr x).length = x.length := by simp [toStr, Str.length]
instance encTxt : Enc (List Nat) := ⟨fun _ _ v x => v = .str (toStr x), fun h _ => h⟩
instance {α : Type} [Enc α] : Enc (Option α) := ⟨fun K F v o => match o with
  | none => v = .non
  | some a => Enc.rep K F v a, fun {K F F' v a} h e => by
    cases a with
    | none => exact h
    | some a => exact Enc.mono (α := α) h e⟩
instance {α β : Type} [Enc α] [Enc β] : Enc (Sum α β) := ⟨fun K F v o => match o with
  | .inl a => Enc.rep K F v a
  | .inr b => Enc.rep K F v b, fun {K F F' v a} h e => by
    cases a with
    | inl a => exact Enc.mono (α := α) h e
    | inr a => exact Enc.mono (α := β) h e⟩
abbrev Vs {α : Type} [Enc α] (K : Frag) (F : Hp) : List V → List α → Prop := Paired fun v a => Enc.rep K F v a
theorem Vs.mono {α : Type} [Enc α] {K : Frag} {F F' : Hp} {vs : List V} {xs : List α} (h : Vs K F vs xs) (e : Ext F F') : Vs K F' vs xs := Paired.mapP h fun _ _ r => Enc.mono r e
theorem rd_ext {F F' : Hp} {a : Addr} {u : HO} (h : Rd F a u) (e : Ext F F') : Rd F' a u := h.imp (e _ _) fun ⟨o, h⟩ => ⟨o, e _ _ h⟩
theorem sqL_ext {K : Frag} {F F' : Hp} {a : Addr} {xs : List V} (h : SqL K F a xs) (e : Ext F F') : SqL K F' a xs := h.imp (rd_ext · e) id
theorem sqT_ext {K : Frag} {F F' : Hp} {a : Addr} {xs : List V} (h : SqT K F a xs) (e : Ext F F') : SqT K F' a xs := h.imp (rd_ext · e) id
instance encList {α : Type} [Enc α] : Enc (List α) := ⟨fun K F v xs => ∃ p vs, v = .ref p ∧ SqL K F p vs ∧ Vs K F vs xs,
  fun ⟨p, vs, h1, h2, h3⟩ e => ⟨p, vs, h1, sqL_ext h2 e, h3.mono e⟩⟩
abbrev Tup := PySem.W.Tup
abbrev T3 := PySem.W.T3
abbrev T4 := PySem.W.T4
instance {α : Type} [Enc α] : Enc (Tup α) := ⟨fun K F v xs => ∃ p vs, v = .ref p ∧ SqT K F p vs ∧ Vs K F vs xs.items,
  fun ⟨p, vs, h1, h2, h3⟩ e => ⟨p, vs, h1, sqT_ext h2 e, h3.mono e⟩⟩
instance {α β : Type} [Enc α] [Enc β] : Enc (α × β) := ⟨fun K F v x => ∃ p a b, v = .ref p ∧ SqT K F p [a, b] ∧ Enc.rep K F a x.1 ∧ Enc.rep K F b x.2,
  fun ⟨p, a, b, h1, h2, h3, h4⟩ e => ⟨p, a, b, h1, sqT_ext h2 e, Enc.mono h3 e, Enc.mono h4 e⟩⟩
instance {α β γ : Type} [Enc α] [Enc β] [Enc γ] : Enc (T3 α β γ) := ⟨fun K F v x => ∃ p a b c, v = .ref p ∧ SqT K F p [a, b, c] ∧ Enc.rep K F a x.a ∧ Enc.rep K F b x.b ∧ Enc.rep K F c x.c,
  fun ⟨p, a, b, c, h1, h2, h3, h4, h5⟩ e => ⟨p, a, b, c, h1, sqT_ext h2 e, Enc.mono h3 e, Enc.mono h4 e, Enc.mono h5 e⟩⟩
instance {α β γ δ : Type} [Enc α] [Enc β] [Enc γ] [Enc δ] : Enc (T4 α β γ δ) := ⟨fun K F v x => ∃ p a b c d, v = .ref p ∧ SqT K F p [a, b, c, d] ∧ Enc.rep K F a x.a ∧ Enc.rep K F b x.b ∧ Enc.rep K F c x.c ∧ Enc.rep K F d x.d,
  fun ⟨p, a, b, c, d, h1, h2, h3, h4, h5, h6⟩ e => ⟨p, a, b, c, d, h1, sqT_ext h2 e, Enc.mono h3 e, Enc.mono h4 e, Enc.mono h5 e, Enc.mono h6 e⟩⟩
/-- what can be a dict's key -/
class Kk (κ : Type) where
  key : κ → Key
  inj : ∀ {a b : κ}, key a = key b → a = b
instance : Kk Int := ⟨Sum.inl, fun h => Sum.inl.inj h⟩
instance : Kk (List Nat) := ⟨fun x => Sum.inr (toStr x), fun h => toStr_inj (Sum.inr.inj h)⟩
structure Dct (κ ν : Type) where
  kvs : List (κ × ν)
abbrev KVs {κ ν : Type} [Kk κ] [Enc ν] (K : Frag) (F : Hp) : List (Key × V) → List (κ × ν) → Prop := Paired fun p q => p.1 = Kk.key q.1 ∧ Enc.rep K F p.2 q.2
theorem KVs.mono {κ ν : Type} [Kk κ] [Enc ν] {K : Frag} {F F' : Hp} {vs : List (Key × V)} {xs : List (κ × ν)} (h : KVs K F vs xs) (e : Ext F F') : KVs K F' vs xs := Paired.mapP h fun _ _ r => ⟨r.1, Enc.mono r.2 e⟩
instance encDct {κ ν : Type} [Kk κ] [Enc ν] : Enc (Dct κ ν) := ⟨fun K F v d => ∃ p od kvs, v = .ref p ∧ F p = some (.frz od (.dK kvs)) ∧ KVs K F kvs d.kvs,
  fun ⟨p, od, kvs, h1, h2, h3⟩ e => ⟨p, od, kvs, h1, e _ _ h2, h3.mono e⟩⟩
/-! owned cells -/
def lstc {α : Type} [Enc α] (xs : List α) : Cell := ⟨fun K F o => ∃ vs, o = .lst vs ∧ Vs K F vs xs, fun ⟨vs, h1, h2⟩ e => ⟨vs, h1, h2.mono e⟩⟩
def dctc {κ ν : Type} [Kk κ] [Enc ν] (d : List (κ × ν)) : Cell := ⟨fun K F o => ∃ kvs, o = .dK kvs ∧ KVs K F kvs d, fun ⟨vs, h1, h2⟩ e => ⟨vs, h1, h2.mono e⟩⟩
/-- the law's dice: three ints -/
def dicec : Cell := ⟨fun _ _ o => ∃ i j k : Int, o = .lst [.int i, .int j, .int k], fun h _ => h⟩

/-! ### expressions by data -/
/-- behind an expression: its value is A, the state is s', F0 is kept -/
def Po (Y : DX) (σ : St) (F0 : Hp) (Q : Pv → DSt → Prop) : VK := fun v H' => ∃ A s' F', Ext F0 F' ∧ A.rep Y.X.K F' v ∧ Sta Y s' σ H' F' ∧ Q A s'
def Pp (Y : DX) (s : DSt) (σ : St) (F0 : Hp) (A : Pv) : VK := fun v H' => ∃ F', Ext F0 F' ∧ A.rep Y.X.K F' v ∧ Sta Y s σ H' F'
def Pt (Y : DX) (σ : St) (F0 : Hp) (Q : Bool → DSt → Prop) : Bool → Hp → Prop := fun b H' => ∃ s' F', Ext F0 F' ∧ Sta Y s' σ H' F' ∧ Q b s'
def Ev (Y : DX) (s : DSt) (e : Expr) (Q : Pv → DSt → Prop) : Prop :=
  ∀ F0 σ H F, Ext F0 F → Sta Y s σ H F → WE Y.X e σ H (Po Y σ F0 Q)
/-- quietly: just this data, nothing owned is changed -/
def EvP (Y : DX) (s : DSt) (e : Expr) (A : Pv) : Prop :=
  ∀ F0 σ H F, Ext F0 F → Sta Y s σ H F → WE Y.X e σ H (Pp Y s σ F0 A)
def Et (Y : DX) (s : DSt) (e : Expr) (Q : Bool → DSt → Prop) : Prop :=
  ∀ F0 σ H F, Ext F0 F → Sta Y s σ H F → WT Y.X e σ H (Pt Y σ F0 Q)
def EtP (Y : DX) (s : DSt) (e : Expr) (b : Bool) : Prop :=
  ∀ F0 σ H F, Ext F0 F → Sta Y s σ H F → WT Y.X e σ H fun b' H' => b' = b ∧ ∃ F', Ext F0 F' ∧ Sta Y s σ H' F'
section
variable {Y : DX} {s : DSt} {e a b c : Expr} {pos : Pos}
theorem Ev.of {A : Pv} {Q : Pv → DSt → Prop} (h : EvP Y s e A) (q : Q A s) : Ev Y s e Q := fun F0 σ H F e0 S => (h F0 σ H F e0 S).mono fun v H' ⟨F', e1, r, S'⟩ => ⟨A, s, F', e1, r, S', q⟩
theorem Ev.mono {Q Q' : Pv → DSt → Prop} (h : Ev Y s e Q) (k : ∀ A s', Q A s' → Q' A s') : Ev Y s e Q' := fun F0 σ H F e0 S => (h F0 σ H F e0 S).mono fun v H' ⟨A, s', F', e1, r, S', q⟩ => ⟨A, s', F', e1, r, S', k _ _ q⟩
theorem EvP.of {A : Pv} (h : Ev Y s e fun B s' => B = A ∧ s' = s) : EvP Y s e A := fun F0 σ H F e0 S => (h F0 σ H F e0 S).mono fun v H' ⟨B, s', F', e1, r, S', q1, q2⟩ => by subst q1 q2; exact ⟨F', e1, r, S'⟩
theorem Et.of {x : Bool} {Q : Bool → DSt → Prop} (h : EtP Y s e x) (q : Q x s) : Et Y s e Q := fun F0 σ H F e0 S => (h F0 σ H F e0 S).mono fun v H' ⟨e2, F', e1, S'⟩ => by subst e2; exact ⟨s, F', e1, S', q⟩
theorem Et.mono {Q Q' : Bool → DSt → Prop} (h : Et Y s e Q) (k : ∀ A s', Q A s' → Q' A s') : Et Y s e Q' := fun F0 σ H F e0 S => (h F0 σ H F e0 S).mono fun v H' ⟨s', F', e1, S', q⟩ => ⟨s', F', e1, S', k _ _ q⟩
theorem EtP.of {x : Bool} (h : Et Y s e fun y s' => y = x ∧ s' = s) : EtP Y s e x := fun F0 σ H F e0 S => (h F0 σ H F e0 S).mono fun v H' ⟨s', F', e1, S', q1, q2⟩ => by subst q1 q2; exact ⟨rfl, F', e1, S'⟩
theorem EvP.to {A B : Pv} (h : EvP Y s e A) (eq : A = B) : EvP Y s e B := eq ▸ h
theorem EtP.to {x y : Bool} (h : EtP Y s e x) (eq : x = y) : EtP Y s e y := eq ▸ h

/-- two in a row, run to what is wanted of their values -/
theorem ev2 {Q : Pv → DSt → Prop} {r : R2} (P : PE Y.X e (tOp r (WE Y.X a) (WE Y.X b)))
    (h : Ev Y s a fun A s1 => Ev Y s1 b fun B s2 => ∀ F0 σ H F v u, Ext F0 F → Sta Y s2 σ H F → A.rep Y.X.K F v → B.rep Y.X.K F u → r v u H (Po Y σ F0 Q)) : Ev Y s e Q := fun F0 σ H F e0 S => by
  refine .of P ?_
  refine (h F σ H F (.refl _) S).mono fun v H1 ⟨A, s1, F1, e1, r1, S1, q1⟩ => ?_
  refine (q1 F1 σ H1 F1 (.refl _) S1).mono fun u H2 ⟨B, s2, F2, e2, r2, S2, q2⟩ => ?_
  exact q2 F0 σ H2 F2 v u ((e0.trans e1).trans e2) S2 (A.mono r1 e2) r2
theorem evp2 {A B C : Pv} {r : R2} (P : PE Y.X e (tOp r (WE Y.X a) (WE Y.X b))) (ha : EvP Y s a A) (hb : EvP Y s b B)
    (h : ∀ F0 σ H F v u, Ext F0 F → Sta Y s σ H F → A.rep Y.X.K F v → B.rep Y.X.K F u → r v u H (Pp Y s σ F0 C)) : EvP Y s e C := fun F0 σ H F e0 S => by
  refine .of P ?_
  refine (ha F σ H F (.refl _) S).mono fun v H1 ⟨F1, e1, r1, S1⟩ => ?_
  refine (hb F1 σ H1 F1 (.refl _) S1).mono fun u H2 ⟨F2, e2, r2, S2⟩ => ?_
  exact h F0 σ H2 F2 v u ((e0.trans e1).trans e2) S2 (A.mono r1 e2) r2
theorem ev1 {Q : Pv → DSt → Prop} {r : V → Hp → VK → Prop} (P : PE Y.X e fun σ H Q => WE Y.X a σ H fun x H1 => r x H1 Q)
    (h : Ev Y s a fun A s1 => ∀ F0 σ H F v, Ext F0 F → Sta Y s1 σ H F → A.rep Y.X.K F v → r v H (Po Y σ F0 Q)) : Ev Y s e Q := fun F0 σ H F e0 S => by
  refine .of P ?_
  refine (h F σ H F (.refl _) S).mono fun v H1 ⟨A, s1, F1, e1, r1, S1, q1⟩ => ?_
  exact q1 F0 σ H1 F1 v (e0.trans e1) S1 r1
theorem evp1 {A C : Pv} {r : V → Hp → VK → Prop} (P : PE Y.X e fun σ H Q => WE Y.X a σ H fun x H1 => r x H1 Q) (ha : EvP Y s a A)
    (h : ∀ F0 σ H F v, Ext F0 F → Sta Y s σ H F → A.rep Y.X.K F v → r v H (Pp Y s σ F0 C)) : EvP Y s e C := fun F0 σ H F e0 S => by
  refine .of P ?_
  refine (ha F σ H F (.refl _) S).mono fun v H1 ⟨F1, e1, r1, S1⟩ => ?_
  exact h F0 σ H1 F1 v (e0.trans e1) S1 r1
/-- as a test -/
theorem et_val {Q : Bool → DSt → Prop} (he : ∀ whole, isTrue e Y.X.env whole = (do let v ← whole; standAt e.pos; holding [v] (truthy v))) (h : Ev Y s e fun A s' => ∃ x : Bool, A = pu x ∧ Q x s') : Et Y s e Q := fun F0 σ H F e0 S => by
  refine .of (pt_val pe_we he) ?_
  refine (h F0 σ H F e0 S).mono fun v H' ⟨A, s', F', e1, r, S', x, ea, q⟩ => ?_
  subst ea
  exact ⟨x, r, s', F', e1, S', q⟩

/-! names and constants -/
theorem evp_var {A : Pv} {x : Str} (i : Nat) (hN : Y.X.N[i]? = some x) (hv : Vis Y.X.env.scope x) (hA : s.ρ[i]? = some (some A)) (hd : (x == ("__debug__" : Str)) = false := by decide) (hcd : (x == ("__classdict__" : Str)) = false := by decide) :
    EvP Y s (.Name x pos) A := fun F0 σ H F e0 S => by
  obtain ⟨v, e1, r⟩ := S.rep.get hA
  exact .of (pe_var hN hv hd hcd) ⟨v, e1, F, e0, r, S⟩
theorem evp_int {i : Int} {j : Nat} : EvP Y s (.Constant (.int i) j pos) (pu i) := fun F0 σ H F e0 S => .of pe_int ⟨F, e0, rfl, S⟩
theorem evp_bl {x : Bool} {j : Nat} : EvP Y s (.Constant (.bool x) j pos) (pu x) := fun F0 σ H F e0 S => .of pe_bl ⟨F, e0, rfl, S⟩
theorem evp_non {j : Nat} : EvP Y s (.Constant .none j pos) (pu ()) := fun F0 σ H F e0 S => .of pe_non ⟨F, e0, rfl, S⟩
theorem evp_str {x : Str} (y : Txt) {j : Nat} (hy : toStr y = x) : EvP Y s (.Constant (.str x) j pos) (pu y) := fun F0 σ H F e0 S => .of pe_str ⟨F, e0, by show V.str x = V.str (toStr y); rw [hy], S⟩
/-- a name of the module -/
theorem evp_glob {x : Str} {v : V} {u : Value} {A : Pv} (hg : Gl Y.X x) (hm : Y.X.mg x = some u) (r : RelV v u) (hA : ∀ F, A.rep Y.X.K F v) (hd : (x == ("__debug__" : Str)) = false := by decide) : EvP Y s (.Name x pos) A :=
  fun F0 σ H F e0 S => .of (pe_glob hg hm r hd) ⟨F, e0, hA F, S⟩

/-! ints -/
theorem ev_ints {Q : Pv → DSt → Prop} {α : Type} [Enc α] {C : Int → Int → Prop} {g : Int → Int → V} {f : Int → Int → α} (P : PE Y.X e (tOp (rI C g) (WE Y.X a) (WE Y.X b))) (hg : ∀ K F i j, Enc.rep K F (g i j) (f i j))
    (h : Ev Y s a fun A s1 => ∃ i : Int, A = pu i ∧ Ev Y s1 b fun B s2 => ∃ j : Int, B = pu j ∧ C i j ∧ Q (pu (f i j)) s2) : Ev Y s e Q :=
  ev2 P (h.mono fun A s1 ⟨i, ea, h1⟩ => h1.mono fun B s2 ⟨j, eb, hc, q⟩ F0 σ H F v u e0 S rv ru => by
    subst ea eb
    exact ⟨i, j, rv, ru, hc, _, s2, F, e0, hg _ _ _ _, S, q⟩)
theorem evp_ints {α : Type} [Enc α] {C : Int → Int → Prop} {g : Int → Int → V} {f : Int → Int → α} {i j : Int} (P : PE Y.X e (tOp (rI C g) (WE Y.X a) (WE Y.X b))) (hg : ∀ K F i j, Enc.rep K F (g i j) (f i j))
    (ha : EvP Y s a (pu i)) (hb : EvP Y s b (pu j)) (hc : C i j) : EvP Y s e (pu (f i j)) :=
  .of (ev_ints P hg (.of ha ⟨i, rfl, .of hb ⟨j, rfl, hc, rfl, rfl⟩⟩))
theorem ev_ints0 {Q : Pv → DSt → Prop} {α : Type} [Enc α] {g : Int → Int → V} {f : Int → Int → α} (P : PE Y.X e (tOp (rI0 g) (WE Y.X a) (WE Y.X b))) (hg : ∀ K F i j, Enc.rep K F (g i j) (f i j))
    (h : Ev Y s a fun A s1 => ∃ i : Int, A = pu i ∧ Ev Y s1 b fun B s2 => ∃ j : Int, B = pu j ∧ Q (pu (f i j)) s2) : Ev Y s e Q :=
  ev2 P (h.mono fun A s1 ⟨i, ea, h1⟩ => h1.mono fun B s2 ⟨j, eb, q⟩ F0 σ H F v u e0 S rv ru => by
    subst ea eb
    exact ⟨i, j, rv, ru, _, s2, F, e0, hg _ _ _ _, S, q⟩)
theorem evp_ints0 {α : Type} [Enc α] {g : Int → Int → V} {f : Int → Int → α} {i j : Int} (P : PE Y.X e (tOp (rI0 g) (WE Y.X a) (WE Y.X b))) (hg : ∀ K F i j, Enc.rep K F (g i j) (f i j))
    (ha : EvP Y s a (pu i)) (hb : EvP Y s b (pu j)) : EvP Y s e (pu (f i j)) :=
  .of (ev_ints0 P hg (.of ha ⟨i, rfl, .of hb ⟨j, rfl, rfl, rfl⟩⟩))
section
variable {i j : Int} {Q : Pv → DSt → Prop}
theorem evp_add (ha : EvP Y s a (pu i)) (hb : EvP Y s b (pu j)) : EvP Y s (.BinOp a .Add b pos) (pu (i + j)) := evp_ints0 (f := fun i j => i + j) (pe_op op_add pe_we pe_we) (fun _ _ _ _ => rfl) ha hb
theorem evp_sub (ha : EvP Y s a (pu i)) (hb : EvP Y s b (pu j)) : EvP Y s (.BinOp a .Sub b pos) (pu (i - j)) := evp_ints0 (f := fun i j => i - j) (pe_op op_sub pe_we pe_we) (fun _ _ _ _ => rfl) ha hb
theorem evp_mul (ha : EvP Y s a (pu i)) (hb : EvP Y s b (pu j)) (hc : CMul i j) : EvP Y s (.BinOp a .Mult b pos) (pu (i * j)) := evp_ints (f := fun i j => i * j) (pe_op op_mul pe_we pe_we) (fun _ _ _ _ => rfl) ha hb hc
theorem evp_mod (ha : EvP Y s a (pu i)) (hb : EvP Y s b (pu j)) (hc : 0 < j) : EvP Y s (.BinOp a .Mod b pos) (pu (i % j)) := evp_ints (f := fun i j => i % j) (pe_op op_mod pe_we pe_we) (fun _ _ _ _ => rfl) ha hb hc
theorem evp_fdiv (ha : EvP Y s a (pu i)) (hb : EvP Y s b (pu j)) (hc : CDiv i j) : EvP Y s (.BinOp a .FloorDiv b pos) (pu (i / j)) := evp_ints (f := fun i j => i / j) (pe_op op_fdiv pe_we pe_we) (fun _ _ _ _ => rfl) ha hb hc
theorem evp_pow (ha : EvP Y s a (pu i)) (hb : EvP Y s b (pu j)) (hc : CPow i j) : EvP Y s (.BinOp a .Pow b pos) (pu (i ^ j.toNat)) := evp_ints (f := fun i j => i ^ j.toNat) (pe_op op_pow pe_we pe_we) (fun _ _ _ _ => rfl) ha hb hc
theorem ev_add (h : Ev Y s a fun A s1 => ∃ i : Int, A = pu i ∧ Ev Y s1 b fun B s2 => ∃ j : Int, B = pu j ∧ Q (pu (i + j)) s2) : Ev Y s (.BinOp a .Add b pos) Q := ev_ints0 (f := fun i j => i + j) (pe_op op_add pe_we pe_we) (fun _ _ _ _ => rfl) h
theorem ev_sub (h : Ev Y s a fun A s1 => ∃ i : Int, A = pu i ∧ Ev Y s1 b fun B s2 => ∃ j : Int, B = pu j ∧ Q (pu (i - j)) s2) : Ev Y s (.BinOp a .Sub b pos) Q := ev_ints0 (f := fun i j => i - j) (pe_op op_sub pe_we pe_we) (fun _ _ _ _ => rfl) h
theorem evp_lt (ha : EvP Y s a (pu i)) (hb : EvP Y s b (pu j)) : EvP Y s (.Compare a [.Lt] [b] pos) (pu (decide (i < j))) := evp_ints0 (f := fun i j => decide (i < j)) (pe_cmpR op_lt pe_we pe_we (nomark _)) (fun _ _ _ _ => rfl) ha hb
theorem evp_le (ha : EvP Y s a (pu i)) (hb : EvP Y s b (pu j)) : EvP Y s (.Compare a [.LtE] [b] pos) (pu (decide (i ≤ j))) := evp_ints0 (f := fun i j => decide (i ≤ j)) (pe_cmpR op_le pe_we pe_we (nomark _)) (fun _ _ _ _ => rfl) ha hb
theorem evp_gt (ha : EvP Y s a (pu i)) (hb : EvP Y s b (pu j)) : EvP Y s (.Compare a [.Gt] [b] pos) (pu (decide (j < i))) := evp_ints0 (f := fun i j => decide (j < i)) (pe_cmpR op_gt pe_we pe_we (nomark _)) (fun _ _ _ _ => rfl) ha hb
theorem evp_ge (ha : EvP Y s a (pu i)) (hb : EvP Y s b (pu j)) : EvP Y s (.Compare a [.GtE] [b] pos) (pu (decide (j ≤ i))) := evp_ints0 (f := fun i j => decide (j ≤ i)) (pe_cmpR op_ge pe_we pe_we (nomark _)) (fun _ _ _ _ => rfl) ha hb
end
end
end Sp
set_option maxHeartbeats 4000000
/-! Sp: data as the model's own data: ==, <, sorting. -/
namespace Sp
open PySem L2
open PySem.W (Datum DatumOrd SomeDatum Holds HoldAll)
instance txtDatum : Datum (List Nat) where
  toD x := .str (toStr x)
  plain _ := rfl
  eqv a b := by
    simp only [PyData.eqv]
    rw [Bool.eq_iff_iff, beq_iff_eq, decide_eq_true_eq]
    exact ⟨toStr_inj, fun h => by rw [h]⟩
  depth := 0
  depth_le _ := Nat.le_refl _
instance txtOrd : DatumOrd (List Nat) where
  toDatum := txtDatum
  lt a b := decide (a < b)
  alike a b := DatumOrd.alike (toStr a) (toStr b)
  notNone a := DatumOrd.notNone (toStr a)
  lt_eq a b := by
    have h := DatumOrd.lt_eq (toStr a) (toStr b)
    refine h.trans ?_
    show decide ((toStr a).cps.toList < (toStr b).cps.toList) = _
    rw [toStr_cps, toStr_cps]
instance : SomeDatum (List Nat) := ⟨fun _ => by show PyData.eqv .none (.str _) = false; simp only [PyData.eqv], fun _ => by show PyData.eqv (.str _) .none = false; simp only [PyData.eqv]⟩
/-- never equal -/
class Dne (α β : Type) [DecidableEq α] [DecidableEq β] [Datum α] [Datum β] : Prop where
  ne : ∀ (a : α) (b : β), PyData.eqv (Datum.toD a) (Datum.toD b) = false
  ne' : ∀ (a : α) (b : β), PyData.eqv (Datum.toD b) (Datum.toD a) = false
section
variable {α β γ δ : Type} [DecidableEq α] [Datum α] [DecidableEq β] [Datum β] [DecidableEq γ] [Datum γ] [DecidableEq δ] [Datum δ]
instance sumDatum [Dne α β] : Datum (α ⊕ β) where
  toD x := match x with
    | .inl a => Datum.toD a
    | .inr b => Datum.toD b
  plain x := by
    cases x with
    | inl a => exact Datum.plain a
    | inr b => exact Datum.plain b
  eqv x y := by
    cases x with
    | inl a =>
      cases y with
      | inl b => show PyData.eqv (Datum.toD a) (Datum.toD b) = _; rw [Datum.eqv]; simp
      | inr b => show PyData.eqv (Datum.toD a) (Datum.toD b) = _; rw [Dne.ne]; simp
    | inr a =>
      cases y with
      | inl b => show PyData.eqv (Datum.toD a) (Datum.toD b) = _; rw [Dne.ne']; simp
      | inr b => show PyData.eqv (Datum.toD a) (Datum.toD b) = _; rw [Datum.eqv]; simp
  depth := max (Datum.depth α) (Datum.depth β)
  depth_le x := by
    cases x with
    | inl a => exact Nat.le_trans (Datum.depth_le a) (Nat.le_max_left _ _)
    | inr b => exact Nat.le_trans (Datum.depth_le b) (Nat.le_max_right _ _)
instance : Dne Int (List Nat) := ⟨fun _ _ => rfl, fun _ _ => rfl⟩
instance : Dne Bool (List Nat) := ⟨fun _ _ => rfl, fun _ _ => rfl⟩
instance : Dne Unit (List Nat) := ⟨fun _ _ => rfl, fun _ _ => rfl⟩
instance : Dne (List α) (List Nat) := ⟨fun _ _ => rfl, fun _ _ => rfl⟩
instance : Dne (Tup α) (List Nat) := ⟨fun _ _ => rfl, fun _ _ => rfl⟩
instance : Dne (α × β) (List Nat) := ⟨fun _ _ => rfl, fun _ _ => rfl⟩
instance : Dne (T3 α β γ) (List Nat) := ⟨fun _ _ => rfl, fun _ _ => rfl⟩
instance : Dne (T4 α β γ δ) (List Nat) := ⟨fun _ _ => rfl, fun _ _ => rfl⟩
instance [SomeDatum α] [Dne α (List Nat)] : Dne (Option α) (List Nat) := ⟨fun a b => by cases a with
  | none => rfl
  | some a => exact Dne.ne a b, fun a b => by cases a with
  | none => rfl
  | some a => exact Dne.ne' a b⟩
end
/-- how a value stands for its data -/
class Dat (α : Type) [DecidableEq α] [Datum α] [Enc α] : Prop where
  dp : ∀ {K : Frag} {F : Hp} {v : V} {a : α}, Enc.rep K F v a → Dp K F v (Datum.toD a)
instance : Dat Int := ⟨fun h => by cases h; exact .int _⟩
instance : Dat Bool := ⟨fun h => by cases h; exact .bl _⟩
instance : Dat Unit := ⟨fun h => by cases h; exact .non⟩
instance datTxt : Dat (List Nat) := ⟨fun h => by cases h; exact .str _⟩
section
variable {α β γ δ : Type} [DecidableEq α] [Datum α] [Enc α] [Dat α] [DecidableEq β] [Datum β] [Enc β] [Dat β] [DecidableEq γ] [Datum γ] [Enc γ] [Dat γ] [DecidableEq δ] [Datum δ] [Enc δ] [Dat δ]
theorem dpAll {K : Frag} {F : Hp} {vs : List V} {xs : List α} (h : Vs K F vs xs) : DpAll K F vs (xs.map Datum.toD) := by
  induction h with
  | nil => exact .nil
  | cons r _ ih => exact .cons (Dat.dp r) ih
instance datList : Dat (List α) := ⟨fun ⟨p, vs, h1, h2, h3⟩ => by subst h1; exact .lst h2 (dpAll h3)⟩
instance : Dat (Tup α) := ⟨fun ⟨p, vs, h1, h2, h3⟩ => by subst h1; exact .tup h2 (dpAll h3)⟩
instance : Dat (α × β) := ⟨fun ⟨p, a, b, h1, h2, h3, h4⟩ => by subst h1; exact .tup h2 (.cons (Dat.dp h3) (.cons (Dat.dp h4) .nil))⟩
instance : Dat (T3 α β γ) := ⟨fun ⟨p, a, b, c, h1, h2, h3, h4, h5⟩ => by subst h1; exact .tup h2 (.cons (Dat.dp h3) (.cons (Dat.dp h4) (.cons (Dat.dp h5) .nil)))⟩
instance : Dat (T4 α β γ δ) := ⟨fun ⟨p, a, b, c, d, h1, h2, h3, h4, h5, h6⟩ => by subst h1; exact .tup h2 (.cons (Dat.dp h3) (.cons (Dat.dp h4) (.cons (Dat.dp h5) (.cons (Dat.dp h6) .nil))))⟩
instance [SomeDatum α] : Dat (Option α) := ⟨fun {K F v a} h => by
  cases a with
  | none => cases h; exact .non
  | some a => exact Dat.dp (α := α) h⟩
instance datSum [Dne α β] : Dat (α ⊕ β) := ⟨fun {K F v a} h => by
  cases a with
  | inl a => exact Dat.dp (α := α) h
  | inr a => exact Dat.dp (α := β) h⟩
theorem enc_holds {X : Cx} {pins : List (Addr × Obj)} {σ : St} {H : Hp} {s : Shared} {v : V} {u : Value} {a : α} (I : Inv X pins σ H s) (r : Enc.rep X.K H v a) (rv : RelV v u) : Holds s.heap u a := Dp.reads I _ v u (Dat.dp r) rv
theorem vs_holds {X : Cx} {pins : List (Addr × Obj)} {σ : St} {H : Hp} {s : Shared} {vs : List V} {us : List Value} {xs : List α} (I : Inv X pins σ H s) (r : Vs X.K H vs xs) (rv : Vals vs us) : HoldAll s.heap us xs := Dp.readsAll I _ vs us (dpAll r) rv
end
/-- sorted(xs) -/
def srt {α : Type} [DecidableEq α] [DatumOrd α] (xs : List α) : List α := xs.mergeSort fun a b => !DatumOrd.lt b a

/-! ### the rules over heaps -/
section
variable {X : Cx} {α β : Type} [DecidableEq α] [Enc α]
/-- y is a list that holds xs just now -/
def LRd (K : Frag) (H : Hp) (y : V) (xs : List α) : Prop := ∃ p zs, y = .ref p ∧ SqL K H p zs ∧ Vs K H zs xs
section
variable [Datum α] [Dat α]
theorem op_eqT (hu : X.A.units + 64 < cLine) (hd : Datum.depth α ≤ 60) : OpR X (compareOp .Eq) (fun x y H Q => ∃ a b : α, Enc.rep X.K H x a ∧ Enc.rep X.K H y b ∧ Q (.bl (decide (a = b))) H) := by
  intro pins s σ H x y v u Q I rx ry ⟨a, b, ha, hb, q⟩
  exact PySem.W.eq_datum (enc_holds I ha rx) (enc_holds I hb ry) (by omega) ⟨.bl _, H, I, rfl, q⟩
theorem op_neT (hu : X.A.units + 64 < cLine) (hd : Datum.depth α ≤ 60) : OpR X (compareOp .NotEq) (fun x y H Q => ∃ a b : α, Enc.rep X.K H x a ∧ Enc.rep X.K H y b ∧ Q (.bl (decide (a ≠ b))) H) := by
  intro pins s σ H x y v u Q I rx ry ⟨a, b, ha, hb, q⟩
  exact PySem.W.ne_datum (enc_holds I ha rx) (enc_holds I hb ry) (by omega) ⟨.bl _, H, I, rfl, q⟩
theorem op_inT (hu : X.A.units + 64 < cLine) (hd : Datum.depth α ≤ 60) : OpR X (compareOp .In) (fun x y H Q => ∃ (a : α) (xs : List α), Enc.rep X.K H x a ∧ LRd X.K H y xs ∧ Q (.bl (decide (a ∈ xs))) H) := by
  intro pins s σ H x y v u Q I rx ry ⟨a, xs, ha, ⟨p, zs, e, hq, hz⟩, q⟩
  subst e
  obtain ⟨its, rv, hl, _⟩ := I.list hq
  cases ry
  exact PySem.W.in_list_datum (vs := its.toArray) hl.isList (vs_holds I hz rv) (enc_holds I ha rx) (by omega) ⟨.bl _, H, I, rfl, q⟩
theorem op_ninT (hu : X.A.units + 64 < cLine) (hd : Datum.depth α ≤ 60) : OpR X (compareOp .NotIn) (fun x y H Q => ∃ (a : α) (xs : List α), Enc.rep X.K H x a ∧ LRd X.K H y xs ∧ Q (.bl (decide (a ∉ xs))) H) := by
  intro pins s σ H x y v u Q I rx ry ⟨a, xs, ha, ⟨p, zs, e, hq, hz⟩, q⟩
  subst e
  obtain ⟨its, rv, hl, _⟩ := I.list hq
  cases ry
  exact PySem.W.notIn_list_datum (vs := its.toArray) hl.isList (vs_holds I hz rv) (enc_holds I ha rx) (by omega) ⟨.bl _, H, I, rfl, q⟩
theorem op_inH (hu : X.A.units + 64 < cLine) (hd : Datum.depth α ≤ 60) : OpR X (compareOp .In) (fun x y H Q => ∃ (a : α) (xs : Tup α), Enc.rep X.K H x a ∧ Enc.rep X.K H y xs ∧ Q (.bl (decide (a ∈ xs.items))) H) := by
  intro pins s σ H x y v u Q I rx ry ⟨a, xs, ha, ⟨p, zs, e, hq, hz⟩, q⟩
  subst e
  obtain ⟨its, rv, hl, _⟩ := I.tuple hq
  cases ry
  exact PySem.W.in_tuple_datum (vs := its.toArray) hl (vs_holds I hz rv) (enc_holds I ha rx) (by omega) ⟨.bl _, H, I, rfl, q⟩
theorem op_ninH (hu : X.A.units + 64 < cLine) (hd : Datum.depth α ≤ 60) : OpR X (compareOp .NotIn) (fun x y H Q => ∃ (a : α) (xs : Tup α), Enc.rep X.K H x a ∧ Enc.rep X.K H y xs ∧ Q (.bl (decide (a ∉ xs.items))) H) := by
  intro pins s σ H x y v u Q I rx ry ⟨a, xs, ha, ⟨p, zs, e, hq, hz⟩, q⟩
  subst e
  obtain ⟨its, rv, hl, _⟩ := I.tuple hq
  cases ry
  exact PySem.W.notIn_tuple_datum (vs := its.toArray) hl (vs_holds I hz rv) (enc_holds I ha rx) (by omega) ⟨.bl _, H, I, rfl, q⟩
/-- without the first x -/
abbrev eras (xs : List α) (x : α) : List α := xs.erase x
/-- x's first place -/
abbrev idx (xs : List α) (x : α) : Nat := xs.idxOf x
/-- how often -/
abbrev cnt (xs : List α) (x : α) : Nat := xs.countP fun y => decide (y = x)
theorem mt_countT (hu : X.A.units + 64 < cLine) (hd : Datum.depth α ≤ 60) : MtR X "list.count" (fun y vs H Q => ∃ (a : α) (xs : List α) (x : V), vs = [x] ∧ Enc.rep X.K H x a ∧ LRd X.K H y xs ∧ Q (.int (cnt xs a : Nat)) H) := by
  intro pins s σ H y vs u us Q I ry rxs ⟨a, xs, x, ev, ha, ⟨p, zs, e, hq, hz⟩, q⟩
  subst e ev
  obtain ⟨ux, rfl, rx⟩ := rxs.one
  obtain ⟨its, rv, hl, _⟩ := I.list hq
  cases ry
  exact PySem.W.count_list_datum (vs := its.toArray) hl.isList (vs_holds I hz rv) (enc_holds I ha rx) (by omega) ⟨.int _, H, I.tok _, ⟨_, rfl⟩, q⟩
theorem mt_indexT (hu : X.A.units + 64 < cLine) (hd : Datum.depth α ≤ 60) : MtR X "list.index" (fun y vs H Q => ∃ (a : α) (xs : List α) (x : V), vs = [x] ∧ Enc.rep X.K H x a ∧ LRd X.K H y xs ∧ a ∈ xs ∧ Q (.int (xs.idxOf a : Nat)) H) := by
  intro pins s σ H y vs u us Q I ry rxs ⟨a, xs, x, ev, ha, ⟨p, zs, e, hq, hz⟩, hm, q⟩
  subst e ev
  obtain ⟨ux, rfl, rx⟩ := rxs.one
  obtain ⟨its, rv, hl, hlen⟩ := I.list hq
  cases ry
  have hls : xs.length = zs.length := (Paired.length hz).symm
  exact PySem.W.index_list_datum (vs := its) hl.isList (vs_holds I hz rv) (enc_holds I ha rx) (by omega) (by omega) hm ⟨.int _, H, I.tok _, ⟨_, rfl⟩, q⟩
theorem erase_place {x : α} : ∀ {xs : List α}, x ∈ xs → ∃ j : Nat, xs[j]? = some x ∧ (∀ m, m < j → xs[m]? ≠ some x) ∧ xs.erase x = xs.eraseIdx j
  | [], h => by cases h
  | y :: ys, h => by
    by_cases e : y = x
    · subst e
      exact ⟨0, rfl, fun m hm => absurd hm (Nat.not_lt_zero _), by simp⟩
    · have h' : x ∈ ys := (List.mem_cons.mp h).resolve_left fun q => e q.symm
      obtain ⟨j, h1, h2, h3⟩ := erase_place h'
      refine ⟨j + 1, by simpa using h1, fun m hm => ?_, ?_⟩
      · cases m with
        | zero => simpa using e
        | succ m => simpa using h2 m (by omega)
      · rw [List.erase_cons_tail (by simpa using e), h3]
        rfl
theorem mt_removeT (hu : X.A.units + 64 < cLine) (hd : Datum.depth α ≤ 60) : MtR X "list.remove" (fun y vs H Q => ∃ (a : α) (xs : List α) (x : V) (p : Addr) (zs : List V), vs = [x] ∧ y = .ref p ∧ Enc.rep X.K H x a ∧ H p = some (.lst zs) ∧ Vs X.K H zs xs ∧ a ∈ xs ∧
    ∀ zs', Vs X.K H zs' (xs.erase a) → Q .non (upd H p (.lst zs'))) := by
  intro pins s σ H y vs u us Q I ry rxs ⟨a, xs, x, p, zs, ev, e, ha, hp, hz, hm, q⟩
  subst e ev
  obtain ⟨ux, rfl, rx⟩ := rxs.one
  obtain ⟨z, its, n, rv, hl, eo⟩ := I.lstM hp
  cases ry
  obtain ⟨j, h1, h2, h3⟩ := erase_place hm
  refine PySem.W.remove_list_datum (vs := its.toArray) ⟨_, eo, rfl, n, rfl⟩ (vs_holds I hz rv) (enc_holds I ha rx) (by omega) h1 h2 (by rw [List.size_toArray]; omega) ?_
  have hj : j < xs.length := (List.getElem?_eq_some_iff.mp h1).1
  have hls : xs.length = zs.length := (Paired.length hz).symm
  refine ⟨.non, upd H p (.lst (zs.eraseIdx j)), I.lset (its' := its.eraseIdx j) (t' := s.toks) hp eo ?_ (rv.eraseIdx j) ?_, rfl, q _ ?_⟩
  · rw [List.eraseIdxIfInBounds_toArray]
  · rw [List.length_eraseIdx]
    split <;> omega
  · rw [h3]
    exact prd_erase hz j
/-! sorted, min, max, sum, +, list, join -/
theorem each_of {K : Frag} {H : Hp} : ∀ {zs : List V} {its : List Value} {xs : List α}, Vs K H zs xs → Vals zs its → PySem.W.EachIs (fun u a => ∃ z, Enc.rep K H z a ∧ RelV z u) its xs
  | _, _, _, .nil, h => by cases h; exact .nil
  | _, _, _, .cons r t, h => by
    cases h with
    | cons r2 t2 => exact .cons ⟨_, r, r2⟩ (each_of t t2)
theorem each_back {K : Frag} {H : Hp} : ∀ {its : List Value} {xs : List α}, PySem.W.EachIs (fun u a => ∃ z, Enc.rep K H z a ∧ RelV z u) its xs → ∃ zs, Vs K H zs xs ∧ Vals zs its
  | _, _, .nil => ⟨[], .nil, .nil⟩
  | _, _, .cons ⟨z, r1, r2⟩ t => by
    obtain ⟨zs, h1, h2⟩ := each_back t
    exact ⟨z :: zs, .cons r1 h1, .cons r2 h2⟩
end
/-- what can be sorted -/
class Srtb (α : Type) [DecidableEq α] [Datum α] : Prop where
  kd : (∀ a : α, ∃ x r, Datum.toD a = .tuple (x :: r)) ∨ ∀ a : α, Datum.toD a ≠ .none ∧ ∀ xs, Datum.toD a ≠ .tuple xs
instance : Srtb Int := ⟨.inr fun _ => ⟨(by intro h; cases h), (by intro _ h; cases h)⟩⟩
instance : Srtb (List Nat) := ⟨.inr fun _ => ⟨(by intro h; cases h), (by intro _ h; cases h)⟩⟩
section
variable {γ ε : Type} [DecidableEq β] [DecidableEq γ] [DecidableEq ε] [Datum α] [Datum β] [Datum γ] [Datum ε]
instance : Srtb (List α) := ⟨.inr fun _ => ⟨(by intro h; cases h), (by intro _ h; cases h)⟩⟩
instance : Srtb (α × β) := ⟨.inl fun _ => ⟨_, _, rfl⟩⟩
instance : Srtb (T3 α β γ) := ⟨.inl fun _ => ⟨_, _, rfl⟩⟩
instance : Srtb (T4 α β γ ε) := ⟨.inl fun _ => ⟨_, _, rfl⟩⟩
end
section
variable [DatumOrd α] [Dat α]
theorem sort_alike (xs : List α) : PySem.W.AllAlike (xs.map Datum.toD) := fun d hd e he => by
  obtain ⟨a, _, rfl⟩ := List.mem_map.mp hd
  obtain ⟨b, _, rfl⟩ := List.mem_map.mp he
  exact DatumOrd.alike a b
theorem sort_able [Srtb α] (xs : List α) : PySem.W.Sortable (xs.map Datum.toD) := by
  rcases Srtb.kd (α := α) with k | k
  · refine .inl fun d hd => ?_
    obtain ⟨a, _, rfl⟩ := List.mem_map.mp hd
    exact k a
  · refine .inr fun d hd => ?_
    obtain ⟨a, _, rfl⟩ := List.mem_map.mp hd
    exact k a
theorem srt_eq (xs : List α) : xs.mergeSort (PySem.W.dataLe false Datum.toD) = srt xs := by
  unfold srt
  congr 1
  funext a b
  show (!PySem.W.dataLt (Datum.toD b) (Datum.toD a)) = _
  rw [DatumOrd.lt_eq]
theorem cr_sortedT [Srtb α] (hu : X.A.units + 64 < cLine) (hd : Datum.depth α ≤ 60) : CallR X (.builtin "sorted") (fun vs H Q => ∃ y, ∃ xs : List α, vs = [y] ∧ LRd X.K H y xs ∧ ∀ p zs, H p = none → Vs X.K H zs (srt xs) → Q (.ref p) (upd H p (.lst zs))) := by
  intro pins s σ H vs us Q I r ⟨y, xs, ev, ⟨p, zs, e, hq, hz⟩, q⟩
  subst e ev
  obtain ⟨its, rv, hl, hlen⟩ := I.list hq
  obtain ⟨u, rfl, ru⟩ := vals1 r
  cases ru
  have hls : zs.length = xs.length := Paired.length hz
  have e0 := each_of hz rv
  refine PySem.W.sorted_data (enc := Datum.toD) hl.isList e0 (e0.mono fun u a ⟨z, r1, r2⟩ => enc_holds I r1 r2) (sort_alike xs) (sort_able xs) (by omega) (fun b _ => by have := Datum.depth_le b; omega) fun out h1 h2 => ?_
  rw [srt_eq] at h2
  obtain ⟨zs', h3, h4⟩ := each_back h2
  obtain ⟨ep, he'⟩ := PyProof.Rows.sortedAll_at s.heap its out.toArray
  have hl4 : zs'.length = out.length := Paired.length h4
  exact ⟨.ref _, upd H (s.heap.objs.size + 1) (.lst zs'), I.laid (t' := s.toks) (fun _ _ => PyProof.Rows.sortedAll_old) (Nat.le_succ _) ⟨by omega, out, ep, h4, he'⟩, rfl, q _ zs' (I.hok.fresh (Nat.le_succ _)) h3⟩
theorem toD_inj {a b : α} (h : Datum.toD a = Datum.toD b) : a = b := by
  have h1 := Datum.eqv a b
  have h2 := Datum.eqv a a
  rw [h] at h2
  rw [h] at h1
  rw [h1] at h2
  simpa using h2
theorem holds_one {h : Heap} {v : Value} {a b : α} (x : Holds h v a) (y : Holds h v b) : a = b := by
  obtain ⟨as, r⟩ := x
  obtain ⟨bs, r2⟩ := y
  have e1 := SeqAt.readOf_plain (Datum.plain a) r
  have e2 := SeqAt.readOf_plain (Datum.plain b) r2
  exact toD_inj (e1.symm.trans e2)
/-- an item that holds what is wanted -/
theorem pick {pins : List (Addr × Obj)} {σ : St} {H : Hp} {s : Shared} {h' : Heap} {tk : Nat} {zs : List V} {its : List Value} {xs : List α} {i : Nat} {v : Value} {m : α} (I : Inv X pins σ H { s with heap := h', toks := tk }) (hz : Vs X.K H zs xs) (rv : Vals zs its) (hv : its[i]? = some v) (hm : Holds h' v m) :
    ∃ z, Enc.rep X.K H z m ∧ RelV z v := by
  have hi : i < its.length := (List.getElem?_eq_some_iff.mp hv).1
  have e1 : zs.length = its.length := Paired.length rv
  have e2 : zs.length = xs.length := Paired.length hz
  obtain ⟨z, h1, r1⟩ := prd_get hz (i := i) (y := xs[i]'(by omega)) (List.getElem?_eq_getElem _)
  obtain ⟨u, h2, r2⟩ := rv.get h1
  rw [hv] at h2
  cases h2
  have := holds_one (h := h') (enc_holds I r1 r2) hm
  rw [this] at r1
  exact ⟨z, r1, r2⟩
theorem cr_minT (hc : X.calm = true) (hu : X.A.units + 64 < cLine) (hd : Datum.depth α ≤ 60) : CallR X (.builtin "min") (fun vs H Q => ∃ y x, ∃ xs : List α, vs = [y] ∧ LRd X.K H y (x :: xs) ∧ ∀ z, Enc.rep X.K H z (PySem.W.minOf x xs) → Q z H) := by
  intro pins s σ H vs us Q I r ⟨y, x, xs, ev, ⟨p, zs, e, hq, hz⟩, q⟩
  subst e ev
  obtain ⟨its, rv, hl, hlen⟩ := I.list hq
  obtain ⟨u, rfl, ru⟩ := vals1 r
  cases ru
  refine PySem.W.min_list_datum (vs := its.toArray) (I.ok.hd hc) hl.isList (vs_holds I hz rv) (by omega) fun i v h' tk hv hm hk => ?_
  have J := I.kept (t' := tk) hk
  obtain ⟨z, r1, r2⟩ := pick J hz rv (by simpa using hv) hm
  exact ⟨z, H, J, r2, q z r1⟩
theorem cr_maxT (hc : X.calm = true) (hu : X.A.units + 64 < cLine) (hd : Datum.depth α ≤ 60) : CallR X (.builtin "max") (fun vs H Q => ∃ y x, ∃ xs : List α, vs = [y] ∧ LRd X.K H y (x :: xs) ∧ ∀ z, Enc.rep X.K H z (PySem.W.maxOf x xs) → Q z H) := by
  intro pins s σ H vs us Q I r ⟨y, x, xs, ev, ⟨p, zs, e, hq, hz⟩, q⟩
  subst e ev
  obtain ⟨its, rv, hl, hlen⟩ := I.list hq
  obtain ⟨u, rfl, ru⟩ := vals1 r
  cases ru
  refine PySem.W.max_list_datum (vs := its.toArray) (I.ok.hd hc) hl.isList (vs_holds I hz rv) (by omega) fun i v h' tk hv hm hk => ?_
  have J := I.kept (t' := tk) hk
  obtain ⟨z, r1, r2⟩ := pick J hz rv (by simpa using hv) hm
  exact ⟨z, H, J, r2, q z r1⟩
end
theorem vs_ints {K : Frag} {H : Hp} : ∀ {zs : List V} {ns : List Int}, Vs K H zs ns → zs = ns.map V.int
  | _, _, .nil => rfl
  | _, _, .cons r t => by rw [List.map_cons, ← vs_ints t]; congr 1
theorem vs_txts {K : Frag} {H : Hp} : ∀ {zs : List V} {ns : List (List Nat)}, Vs K H zs ns → zs = (ns.map toStr).map V.str
  | _, _, .nil => rfl
  | _, _, .cons r t => by rw [List.map_cons, List.map_cons, ← vs_txts t]; congr 1
theorem cr_sumT (hc : X.calm = true) : CallR X (.builtin "sum") (fun vs H Q => ∃ y, ∃ ns : List Int, vs = [y] ∧ LRd X.K H y ns ∧ Q (.int ns.sum) H) := by
  intro pins s σ H vs us Q I r ⟨y, ns, ev, ⟨p, zs, e, hq, hz⟩, q⟩
  subst e ev
  rw [vs_ints hz] at hq
  exact cr_sum hc pins s σ H _ us Q I r ⟨p, ns, rfl, hq, q⟩
theorem op_catL : OpR X (binaryOp .Add) (fun x y H Q => ∃ xs ys : List α, LRd X.K H x xs ∧ LRd X.K H y ys ∧ xs.length + ys.length ≤ sizeLine ∧ ∀ p zs, H p = none → Vs X.K H zs (xs ++ ys) → Q (.ref p) (upd H p (.lst zs))) := by
  intro pins s σ H x y v u Q I rx ry ⟨xs, ys, ⟨p, zs, e, hq, hz⟩, ⟨p2, zs2, e2, hq2, hz2⟩, hs, q⟩
  subst e e2
  obtain ⟨its, rv, hl, hlen⟩ := I.list hq
  obtain ⟨its2, rv2, hl2, hlen2⟩ := I.list hq2
  obtain ⟨⟨cls, dd, data, sl⟩, ho, hc, n, hd⟩ := hl.isList
  obtain ⟨⟨cls2, dd2, data2, sl2⟩, ho2, hc2, n2, hd2⟩ := hl2.isList
  simp only at hc hd hc2 hd2
  subst hc hd hc2 hd2
  cases rx
  cases ry
  have e : its.toArray ++ its2.toArray = (its ++ its2).toArray := by simp
  have h1 : zs.length = its.length := Paired.length rv
  have h2 : zs2.length = its2.length := Paired.length rv2
  have h3 : zs.length = xs.length := Paired.length hz
  have h4 : zs2.length = ys.length := Paired.length hz2
  refine concat_meets ⟨_, ho, rfl⟩ ⟨_, ho2, rfl⟩ noFill_list_add seq_list_add PySem.F.slot_list_add PySem.F.entry_list_add (PySem.F.args_list_add_2 _ _) (PyProof.Rows.list_addW p p2 its.toArray its2.toArray n n2 dd dd2 sl sl2 (by simp only [List.size_toArray]; omega)) ⟨ho, ho2, ?_⟩
  rw [e]
  exact ⟨.ref _, _, I.lnew (t' := s.toks) (rv.append rv2) (by rw [List.length_append]; omega), rfl, q _ _ I.fresh (prd_app hz hz2)⟩
theorem call_list_ofT : CallR X (.type "list") (fun vs H Q => ∃ y, ∃ xs : List α, vs = [y] ∧ (LRd X.K H y xs ∨ Enc.rep X.K H y (PySem.W.Tup.mk xs)) ∧ ∀ p zs, H p = none → Vs X.K H zs xs → Q (.ref p) (upd H p (.lst zs))) := by
  intro pins s σ H vs us Q I r ⟨y, xs, ev, hy, q⟩
  subst ev
  rcases hy with ⟨p, zs, e, hq, hz⟩ | ⟨p, zs, e, hq, hz⟩
  · subst e
    exact call_list_of pins s σ H _ us Q I r ⟨p, zs, rfl, .inl hq, fun l hl => q l zs hl hz⟩
  · subst e
    exact call_list_of pins s σ H _ us Q I r ⟨p, zs, rfl, .inr hq, fun l hl => q l zs hl hz⟩
theorem signs_vs {K : Frag} {H : Hp} : ∀ x : List Nat, Vs K H (x.map fun c => V.str (toStr [c])) (x.map fun c => [c])
  | [] => .nil
  | _ :: r => .cons rfl (signs_vs r)
theorem call_list_ofS (hc : X.calm = true) : CallR X (.type "list") (fun vs H Q => ∃ x : List Nat, vs = [.str (toStr x)] ∧ x.length ≤ sizeLine ∧ ∀ p, H p = none → Q (.ref p) (upd H p (.lst (x.map fun c => V.str (toStr [c]))))) := by
  intro pins s σ H vs us Q I r ⟨x, ev, hx, q⟩
  subst ev
  obtain ⟨u, rfl, ru⟩ := vals1 r
  obtain ⟨t, rfl⟩ := ru
  refine PySem.call_list_str (I.ok.hd hc) (toStr x) t (fun h' tk acc c hk hS hi => ?_) (by simpa [toStr] using hx)
  have hsz : acc.toList.length = x.length := by
    have := hi.1
    simpa [toStr] using this
  have hv : Vals (x.map fun c => V.str (toStr [c])) acc.toList := by
    refine prd_of (by rw [List.length_map]; omega) fun i a b ha hb => ?_
    rw [List.getElem?_map] at ha
    cases q1 : x[i]? with
    | none => rw [q1] at ha; cases ha
    | some c =>
      rw [q1] at ha
      cases ha
      obtain ⟨c', u, h8, h9⟩ := hi.2 i b (by simpa using hb)
      have : x[i]? = some c' := by simpa [toStr] using h8
      rw [q1] at this
      cases this
      exact ⟨u, h9⟩
  exact ⟨.ref _, upd H s.heap.objs.size (.lst _), I.laid (t' := tk) hk (Nat.le_refl _) ⟨by rw [List.length_map]; exact hx, acc.toList, c, hv, by simpa using hS⟩, rfl, q _ (I.hok.fresh (Nat.le_refl _))⟩
/-- texts laid end to end, a between them -/
def joinT (a : List Nat) : List (List Nat) → List Nat
  | [] => []
  | [x] => x
  | x :: y :: r => x ++ a ++ joinT a (y :: r)
end
end Sp
set_option maxHeartbeats 4000000
/-! Sp: displays, lengths, places, slices, texts. -/
namespace Sp
open PySem L2
abbrev Rvs (K : Frag) (F : Hp) : List V → List Pv → Prop := Paired fun v A => A.rep K F v
theorem Rvs.mono {K : Frag} {F F' : Hp} {vs : List V} {As : List Pv} (h : Rvs K F vs As) (e : Ext F F') : Rvs K F' vs As := Paired.mapP h fun _ _ r => Pv.mono _ r e
/-- an argument list by data -/
def Evs (Y : DX) (s : DSt) (es : List Expr) (Q : List Pv → DSt → Prop) : Prop :=
  ∀ F0 σ H F, Ext F0 F → Sta Y s σ H F → WA Y.X es σ H fun vs H' => ∃ As s' F', Ext F0 F' ∧ Rvs Y.X.K F' vs As ∧ Sta Y s' σ H' F' ∧ Q As s'
section
variable {Y : DX} {s : DSt} {e a b c : Expr} {es : List Expr} {pos : Pos} {Q : Pv → DSt → Prop}
theorem evs_nil {Q : List Pv → DSt → Prop} (h : Q [] s) : Evs Y s [] Q := fun F0 σ H F e0 S => .of pa_nil ⟨[], s, F, e0, .nil, S, h⟩
theorem evs_cons {Q : List Pv → DSt → Prop} (h : Ev Y s e fun A s1 => Evs Y s1 es fun As s2 => Q (A :: As) s2) (hs : starEach (e :: es) Y.X.env = (false, eval e Y.X.env) :: starEach es Y.X.env := by rfl) : Evs Y s (e :: es) Q := fun F0 σ H F e0 S => by
  refine .of (pa_cons pe_we pa_wa hs) ?_
  refine (h F σ H F (.refl _) S).mono fun v H1 ⟨A, s1, F1, e1, r1, S1, q1⟩ => ?_
  refine (q1 F1 σ H1 F1 (.refl _) S1).mono fun vs H2 ⟨As, s2, F2, e2, r2, S2, q2⟩ => ?_
  exact ⟨A :: As, s2, F2, (e0.trans e1).trans e2, .cons (A.mono r1 e2) r2, S2, q2⟩
/-- quietly -/
def EvsP (Y : DX) (s : DSt) (es : List Expr) (As : List Pv) : Prop :=
  ∀ F0 σ H F, Ext F0 F → Sta Y s σ H F → WA Y.X es σ H fun vs H' => ∃ F', Ext F0 F' ∧ Rvs Y.X.K F' vs As ∧ Sta Y s σ H' F'
theorem Evs.of {As : List Pv} {Q : List Pv → DSt → Prop} (h : EvsP Y s es As) (q : Q As s) : Evs Y s es Q := fun F0 σ H F e0 S => (h F0 σ H F e0 S).mono fun vs H' ⟨F', e1, r, S'⟩ => ⟨As, s, F', e1, r, S', q⟩
theorem Evs.mono {Q Q' : List Pv → DSt → Prop} (h : Evs Y s es Q) (k : ∀ A s', Q A s' → Q' A s') : Evs Y s es Q' := fun F0 σ H F e0 S => (h F0 σ H F e0 S).mono fun v H' ⟨A, s', F', e1, r, S', q⟩ => ⟨A, s', F', e1, r, S', k _ _ q⟩
theorem EvsP.of {As : List Pv} (h : Evs Y s es fun Bs s' => Bs = As ∧ s' = s) : EvsP Y s es As := fun F0 σ H F e0 S => (h F0 σ H F e0 S).mono fun v H' ⟨B, s', F', e1, r, S', q1, q2⟩ => by subst q1 q2; exact ⟨F', e1, r, S'⟩
theorem evsp_nil : EvsP Y s [] [] := .of (evs_nil ⟨rfl, rfl⟩)
theorem evsp_cons {A : Pv} {As : List Pv} (h : EvP Y s e A) (k : EvsP Y s es As) (hs : starEach (e :: es) Y.X.env = (false, eval e Y.X.env) :: starEach es Y.X.env := by rfl) : EvsP Y s (e :: es) (A :: As) :=
  .of (evs_cons (.of h (.of k ⟨rfl, rfl⟩)) hs)
section
variable {α β γ : Type} [Enc α] [Enc β] [Enc γ]
theorem rvs_pu {K : Frag} {F : Hp} {vs : List V} : ∀ {xs : List α}, Rvs K F vs (xs.map pu) → Vs K F vs xs := by
  induction vs with
  | nil =>
    intro xs h
    cases xs with
    | nil => exact .nil
    | cons x xs => cases h
  | cons v vs ih =>
    intro xs h
    cases xs with
    | nil => cases h
    | cons x xs =>
      cases h with
      | cons r t => exact .cons r (ih t)
theorem Vs.length {K : Frag} {F : Hp} {vs : List V} {xs : List α} (h : Vs K F vs xs) : vs.length = xs.length := Paired.length h
/-- what is given is laid into a new list, frozen -/
theorem po_list {σ : St} {F0 : Hp} {H F : Hp} {vs : List V} {xs : List α} (e0 : Ext F0 F) (S : Sta Y s σ H F) (r : Vs Y.X.K F vs xs) (q : Q (pu xs) s) : ∀ p, H p = none → Po Y σ F0 Q (.ref p) (upd H p (.lst vs)) := fun p hp => by
  have hF := S.free hp
  exact ⟨pu xs, s, upd F p (.lst vs), e0.trans (Ext.grow hF), ⟨p, vs, rfl, .of upd_same, r.mono (Ext.grow hF)⟩, S.newF hp rfl, q⟩
/-- .. owned -/
theorem po_listO {σ : St} {F0 : Hp} {H F : Hp} {vs : List V} {xs : List α} (e0 : Ext F0 F) (S : Sta Y s σ H F) (r : Vs Y.X.K F vs xs) (q : ∀ p, Q (raw (.ref p)) ⟨s.ρ, (p, lstc xs) :: s.gs⟩) : ∀ p, H p = none → Po Y σ F0 Q (.ref p) (upd H p (.lst vs)) := fun p hp =>
  ⟨raw (.ref p), _, F, e0, rfl, S.newO (c := lstc xs) hp rfl ⟨vs, rfl, r⟩, q p⟩
theorem po_tup {σ : St} {F0 : Hp} {H F : Hp} {vs : List V} {A : Pv} (e0 : Ext F0 F) (S : Sta Y s σ H F) (r : ∀ F' p, Ext F F' → SqT Y.X.K F' p vs → A.rep Y.X.K F' (.ref p)) (q : Q A s) : ∀ p, H p = none → Po Y σ F0 Q (.ref p) (upd H p (.tup vs)) := fun p hp => by
  have hF := S.free hp
  exact ⟨A, s, upd F p (.tup vs), e0.trans (Ext.grow hF), r _ p (Ext.grow hF) (.of upd_same), S.newF hp rfl, q⟩
theorem ev_list (h : Evs Y s es fun As s' => ∃ xs : List α, As = xs.map pu ∧ xs.length ≤ sizeLine ∧ Q (pu xs) s') : Ev Y s (.List es pos) Q := fun F0 σ H F e0 S => by
  refine .of (pe_lst pa_wa) ((h F0 σ H F e0 S).mono fun vs H1 ⟨As, s1, F1, e1, r1, S1, xs, ea, hl, q⟩ => ?_)
  subst ea
  have r := rvs_pu r1
  exact ⟨by rw [r.length]; exact hl, po_list e1 S1 r q⟩
theorem ev_listO (h : Evs Y s es fun As s' => ∃ xs : List α, As = xs.map pu ∧ xs.length ≤ sizeLine ∧ ∀ p, Q (raw (.ref p)) ⟨s'.ρ, (p, lstc xs) :: s'.gs⟩) : Ev Y s (.List es pos) Q := fun F0 σ H F e0 S => by
  refine .of (pe_lst pa_wa) ((h F0 σ H F e0 S).mono fun vs H1 ⟨As, s1, F1, e1, r1, S1, xs, ea, hl, q⟩ => ?_)
  subst ea
  have r := rvs_pu r1
  exact ⟨by rw [r.length]; exact hl, po_listO e1 S1 r q⟩
theorem evp_list {xs : List α} (h : EvsP Y s es (xs.map pu)) (hl : xs.length ≤ sizeLine := by decide) : EvP Y s (.List es pos) (pu xs) := .of (ev_list (.of h ⟨xs, rfl, hl, rfl, rfl⟩))
theorem ev_tupH (h : Evs Y s es fun As s' => ∃ xs : List α, As = xs.map pu ∧ xs.length ≤ sizeLine ∧ Q (pu (PySem.W.Tup.mk xs)) s') {k : Nat} : Ev Y s (.Tuple es k pos) Q := fun F0 σ H F e0 S => by
  refine .of (pe_tup pa_wa) ((h F0 σ H F e0 S).mono fun vs H1 ⟨As, s1, F1, e1, r1, S1, xs, ea, hl, q⟩ => ?_)
  subst ea
  have r := rvs_pu r1
  exact ⟨by rw [r.length]; exact hl, po_tup (A := pu (PySem.W.Tup.mk xs)) e1 S1 (fun F' p e' hs => ⟨p, vs, rfl, hs, r.mono e'⟩) q⟩
theorem evp_tupH {xs : List α} {k : Nat} (h : EvsP Y s es (xs.map pu)) (hl : xs.length ≤ sizeLine := by decide) : EvP Y s (.Tuple es k pos) (pu (PySem.W.Tup.mk xs)) := .of (ev_tupH (.of h ⟨xs, rfl, hl, rfl, rfl⟩))
theorem ev_tup2 (h : Evs Y s es fun As s' => ∃ (x : α) (y : β), As = [pu x, pu y] ∧ Q (pu (x, y)) s') {k : Nat} : Ev Y s (.Tuple es k pos) Q := fun F0 σ H F e0 S => by
  refine .of (pe_tup pa_wa) ((h F0 σ H F e0 S).mono fun vs H1 ⟨As, s1, F1, e1, r1, S1, x, y, ea, q⟩ => ?_)
  subst ea
  obtain ⟨v, w, rfl, rv, rw'⟩ : ∃ v w, vs = [v, w] ∧ (pu x).rep Y.X.K F1 v ∧ (pu y).rep Y.X.K F1 w := by
    cases r1 with
    | cons p q => cases q with
      | cons p' q' => cases q'; exact ⟨_, _, rfl, p, p'⟩
  exact ⟨by show 2 ≤ sizeLine; decide, po_tup (A := pu (x, y)) e1 S1 (fun F' p e' hs => ⟨p, v, w, rfl, hs, Enc.mono rv e', Enc.mono rw' e'⟩) q⟩
theorem evp_tup2 {x : α} {y : β} {k : Nat} (h : EvsP Y s es [pu x, pu y]) : EvP Y s (.Tuple es k pos) (pu (x, y)) := .of (ev_tup2 (.of h ⟨x, y, rfl, rfl, rfl⟩))
theorem ev_tup3 (h : Evs Y s es fun As s' => ∃ (x : α) (y : β) (z : γ), As = [pu x, pu y, pu z] ∧ Q (pu (PySem.W.T3.mk x y z)) s') {k : Nat} : Ev Y s (.Tuple es k pos) Q := fun F0 σ H F e0 S => by
  refine .of (pe_tup pa_wa) ((h F0 σ H F e0 S).mono fun vs H1 ⟨As, s1, F1, e1, r1, S1, x, y, z, ea, q⟩ => ?_)
  subst ea
  obtain ⟨v, w, u, rfl, rv, rw', ru⟩ : ∃ v w u, vs = [v, w, u] ∧ (pu x).rep Y.X.K F1 v ∧ (pu y).rep Y.X.K F1 w ∧ (pu z).rep Y.X.K F1 u := by
    cases r1 with
    | cons p q => cases q with
      | cons p' q' => cases q' with
        | cons p2 q2 => cases q2; exact ⟨_, _, _, rfl, p, p', p2⟩
  exact ⟨by show 3 ≤ sizeLine; decide, po_tup (A := pu (PySem.W.T3.mk x y z)) e1 S1 (fun F' p e' hs => ⟨p, v, w, u, rfl, hs, Enc.mono rv e', Enc.mono rw' e', Enc.mono ru e'⟩) q⟩
theorem evp_tup3 {x : α} {y : β} {z : γ} {k : Nat} (h : EvsP Y s es [pu x, pu y, pu z]) : EvP Y s (.Tuple es k pos) (pu (PySem.W.T3.mk x y z)) := .of (ev_tup3 (.of h ⟨x, y, z, rfl, rfl, rfl⟩))

/-! calls of built-ins with one argument, two -/
theorem evp_B1 {A B : Pv} {x : Str} {p : Pos} {id : String} {r : List V → Hp → VK → Prop} (hc : CallR Y.X (.builtin id) r) (hg : Gl Y.X x) (hm : Y.X.mg x = none) (hv : bootBuiltins x = some (.builtin id)) (ha : EvP Y s a A)
    (h : ∀ F0 σ H F v, Ext F0 F → Sta Y s σ H F → A.rep Y.X.K F v → r [v] H (Pp Y s σ F0 B)) (hn : x ≠ "__name__" := by decide) (hdb : (x == ("__debug__" : Str)) = false := by decide)
    (he : starEach [a] Y.X.env = (false, eval a Y.X.env) :: starEach [] Y.X.env := by rfl) : EvP Y s (.Call (.Name x p) [a] [] pos) B := fun F0 σ H F e0 S => by
  refine .of (pe_callB hc hg hm hv (pa_cons pe_we pa_nil he) hn hdb he (by rfl)) ?_
  refine (ha F0 σ H F e0 S).mono fun v H1 ⟨F1, e1, r1, S1⟩ => ?_
  exact h F0 σ H1 F1 v e1 S1 r1
theorem ev_B1 {x : Str} {p : Pos} {id : String} {r : List V → Hp → VK → Prop} (hc : CallR Y.X (.builtin id) r) (hg : Gl Y.X x) (hm : Y.X.mg x = none) (hv : bootBuiltins x = some (.builtin id))
    (h : Ev Y s a fun A s1 => ∀ F0 σ H F v, Ext F0 F → Sta Y s1 σ H F → A.rep Y.X.K F v → r [v] H (Po Y σ F0 Q)) (hn : x ≠ "__name__" := by decide) (hdb : (x == ("__debug__" : Str)) = false := by decide)
    (he : starEach [a] Y.X.env = (false, eval a Y.X.env) :: starEach [] Y.X.env := by rfl) : Ev Y s (.Call (.Name x p) [a] [] pos) Q := fun F0 σ H F e0 S => by
  refine .of (pe_callB hc hg hm hv (pa_cons pe_we pa_nil he) hn hdb he (by rfl)) ?_
  refine (h F0 σ H F e0 S).mono fun v H1 ⟨A, s1, F1, e1, r1, S1, q⟩ => ?_
  exact q F0 σ H1 F1 v e1 S1 r1
theorem ev_T1 {x : Str} {p : Pos} {T : String} {r : List V → Hp → VK → Prop} (hc : CallR Y.X (.type T) r) (hg : Gl Y.X x) (hm : Y.X.mg x = none) (hv : bootBuiltins x = some (.type T))
    (h : Ev Y s a fun A s1 => ∀ F0 σ H F v, Ext F0 F → Sta Y s1 σ H F → A.rep Y.X.K F v → r [v] H (Po Y σ F0 Q)) (hn : x ≠ "__name__" := by decide) (hdb : (x == ("__debug__" : Str)) = false := by decide)
    (he : starEach [a] Y.X.env = (false, eval a Y.X.env) :: starEach [] Y.X.env := by rfl) : Ev Y s (.Call (.Name x p) [a] [] pos) Q := fun F0 σ H F e0 S => by
  refine .of (pe_callTy hc hg hm hv (pa_cons pe_we pa_nil he) hn hdb he (by rfl)) ?_
  refine (h F0 σ H F e0 S).mono fun v H1 ⟨A, s1, F1, e1, r1, S1, q⟩ => ?_
  exact q F0 σ H1 F1 v e1 S1 r1
theorem ev_B2 {x : Str} {p : Pos} {id : String} {r : List V → Hp → VK → Prop} (hc : CallR Y.X (.builtin id) r) (hg : Gl Y.X x) (hm : Y.X.mg x = none) (hv : bootBuiltins x = some (.builtin id))
    (h : Ev Y s a fun A s1 => Ev Y s1 b fun B s2 => ∀ F0 σ H F v w, Ext F0 F → Sta Y s2 σ H F → A.rep Y.X.K F v → B.rep Y.X.K F w → r [v, w] H (Po Y σ F0 Q)) (hn : x ≠ "__name__" := by decide) (hdb : (x == ("__debug__" : Str)) = false := by decide)
    (he : starEach [a, b] Y.X.env = (false, eval a Y.X.env) :: starEach [b] Y.X.env := by rfl) (he2 : starEach [b] Y.X.env = (false, eval b Y.X.env) :: starEach [] Y.X.env := by rfl) (hpl : (backTo pos (starEach [b] Y.X.env)).any (·.1) = false := by rfl) : Ev Y s (.Call (.Name x p) [a, b] [] pos) Q := fun F0 σ H F e0 S => by
  refine .of (pe_callB hc hg hm hv (pa_cons pe_we (pa_cons pe_we pa_nil he2) he) hn hdb he hpl) ?_
  refine (h F σ H F (.refl _) S).mono fun v H1 ⟨A, s1, F1, e1, r1, S1, q⟩ => ?_
  refine (q F1 σ H1 F1 (.refl _) S1).mono fun w H2 ⟨B, s2, F2, e2, r2, S2, q2⟩ => ?_
  exact q2 F0 σ H2 F2 v w ((e0.trans e1).trans e2) S2 (A.mono r1 e2) r2
/-- the plain names of built-ins stand as they were -/
structure Bis (mg : Str → Option Value) : Prop where
  no : ∀ x : Str, x ∈ (["len", "range", "sorted", "list", "tuple", "dict", "int", "str", "abs", "min", "max", "sum", "any", "all", "enumerate", "zip", "reversed", "isinstance", "super"] : List Str) → mg x = none
section
variable {p : Pos}
theorem evp_len {xs : List α} (T : Bis Y.X.mg) (hg : Gl Y.X "len") (ha : EvP Y s a (pu xs)) (he : starEach [a] Y.X.env = (false, eval a Y.X.env) :: starEach [] Y.X.env := by rfl) : EvP Y s (.Call (.Name "len" p) [a] [] pos) (pu (xs.length : Int)) :=
  evp_B1 call_len hg (T.no _ (by decide)) boot_len ha (fun F0 σ H F v e0 S ⟨q, vs, h1, h2, h3⟩ => ⟨v, vs.length, rfl, by subst h1; exact .inl ⟨vs, sqL_ext h2 S.ext, rfl⟩, F, e0, by rw [h3.length]; rfl, S⟩) (by decide) (by decide) he
theorem evp_lenT {xs : Tup α} (T : Bis Y.X.mg) (hg : Gl Y.X "len") (ha : EvP Y s a (pu xs)) (he : starEach [a] Y.X.env = (false, eval a Y.X.env) :: starEach [] Y.X.env := by rfl) : EvP Y s (.Call (.Name "len" p) [a] [] pos) (pu (xs.items.length : Int)) :=
  evp_B1 call_len hg (T.no _ (by decide)) boot_len ha (fun F0 σ H F v e0 S ⟨q, vs, h1, h2, h3⟩ => ⟨v, vs.length, rfl, by subst h1; exact .inr ⟨vs, sqT_ext h2 S.ext, rfl⟩, F, e0, by rw [h3.length]; rfl, S⟩) (by decide) (by decide) he
theorem evp_lenS {x : List Nat} (T : Bis Y.X.mg) (hg : Gl Y.X "len") (ha : EvP Y s a (pu x)) (hl : x.length ≤ sizeLine) (he : starEach [a] Y.X.env = (false, eval a Y.X.env) :: starEach [] Y.X.env := by rfl) : EvP Y s (.Call (.Name "len" p) [a] [] pos) (pu (x.length : Int)) :=
  evp_B1 call_len hg (T.no _ (by decide)) boot_len ha (fun F0 σ H F v e0 S h1 => ⟨v, x.length, rfl, by cases h1; exact ⟨by rw [toStr_len]; exact hl, (toStr_len x).symm⟩, F, e0, rfl, S⟩) (by decide) (by decide) he
end
/-! places -/
theorem atI_of {δ ε : Type} {R : δ → ε → Prop} {l : List δ} {m : List ε} (h : Paired R l m) {i : Int} {y : ε} (k : atI m i = some y) : ∃ x, atI l i = some x ∧ R x y := by
  have hl : l.length = m.length := Paired.length h
  unfold atI at k ⊢
  rw [hl]
  cases q : ixN m.length i with
  | none => rw [q] at k; cases k
  | some j =>
    rw [q] at k
    exact prd_get h k
theorem ev_ixL (hs : PlainIx b) (h : Ev Y s a fun A s1 => ∃ xs : List α, A = pu xs ∧ Ev Y s1 b fun B s2 => ∃ (i : Int) (x : α), B = pu i ∧ atI xs i = some x ∧ Q (pu x) s2) : Ev Y s (.Subscript a b pos) Q :=
  ev2 (pe_ix ix_list pe_we pe_we hs) (h.mono fun A s1 ⟨xs, ea, h1⟩ => h1.mono fun B s2 ⟨i, x, eb, hx, q⟩ F0 σ H F v u e0 S rv ru => by
    subst ea eb
    obtain ⟨p, vs, h1, h2, h3⟩ := rv
    obtain ⟨w, hw, rw'⟩ := atI_of h3 hx
    exact ⟨p, vs, i, w, h1, ru, sqL_ext h2 S.ext, hw, pu x, s2, F, e0, rw', S, q⟩)
theorem ev_ixH (hs : PlainIx b) (h : Ev Y s a fun A s1 => ∃ xs : Tup α, A = pu xs ∧ Ev Y s1 b fun B s2 => ∃ (i : Int) (x : α), B = pu i ∧ atI xs.items i = some x ∧ Q (pu x) s2) : Ev Y s (.Subscript a b pos) Q :=
  ev2 (pe_ix ix_tup pe_we pe_we hs) (h.mono fun A s1 ⟨xs, ea, h1⟩ => h1.mono fun B s2 ⟨i, x, eb, hx, q⟩ F0 σ H F v u e0 S rv ru => by
    subst ea eb
    obtain ⟨p, vs, h1, h2, h3⟩ := rv
    obtain ⟨w, hw, rw'⟩ := atI_of h3 hx
    exact ⟨p, vs, i, w, h1, ru, sqT_ext h2 S.ext, hw, pu x, s2, F, e0, rw', S, q⟩)
theorem ev_ixS (hs : PlainIx b) (h : Ev Y s a fun A s1 => ∃ xs : List Nat, A = pu xs ∧ xs.length ≤ sizeLine ∧ Ev Y s1 b fun B s2 => ∃ (i : Int) (x : Nat), B = pu i ∧ atI xs i = some x ∧ Q (pu [x]) s2) : Ev Y s (.Subscript a b pos) Q :=
  ev2 (pe_ix ix_str pe_we pe_we hs) (h.mono fun A s1 ⟨xs, ea, hl, h1⟩ => h1.mono fun B s2 ⟨i, x, eb, hx, q⟩ F0 σ H F v u e0 S rv ru => by
    subst ea eb
    exact ⟨toStr xs, i, x, rv, ru, by rw [toStr_len]; exact hl, by rw [toStr_cps]; exact hx, pu [x], s2, F, e0, rfl, S, q⟩)
theorem evp_ixL {xs : List α} {i : Int} {x : α} (hs : PlainIx b) (ha : EvP Y s a (pu xs)) (hb : EvP Y s b (pu i)) (hx : atI xs i = some x) : EvP Y s (.Subscript a b pos) (pu x) := .of (ev_ixL hs (.of ha ⟨xs, rfl, .of hb ⟨i, x, rfl, hx, rfl, rfl⟩⟩))
theorem evp_ixH {xs : Tup α} {i : Int} {x : α} (hs : PlainIx b) (ha : EvP Y s a (pu xs)) (hb : EvP Y s b (pu i)) (hx : atI xs.items i = some x) : EvP Y s (.Subscript a b pos) (pu x) := .of (ev_ixH hs (.of ha ⟨xs, rfl, .of hb ⟨i, x, rfl, hx, rfl, rfl⟩⟩))
theorem evp_ixS {xs : List Nat} {i : Int} {x : Nat} (hs : PlainIx b) (ha : EvP Y s a (pu xs)) (hl : xs.length ≤ sizeLine) (hb : EvP Y s b (pu i)) (hx : atI xs i = some x) : EvP Y s (.Subscript a b pos) (pu [x]) := .of (ev_ixS hs (.of ha ⟨xs, rfl, hl, .of hb ⟨i, x, rfl, hx, rfl, rfl⟩⟩))
/-- a pair's places -/
theorem ev_fst {j : Nat} {p2 : Pos} (hs : PlainIx (.Constant (.int 0) j p2)) (h : Ev Y s a fun A s1 => ∃ x : α × β, A = pu x ∧ Q (pu x.1) s1) : Ev Y s (.Subscript a (.Constant (.int 0) j p2) pos) Q :=
  ev2 (pe_ix ix_tup pe_we pe_we hs) (h.mono fun A s1 ⟨x, ea, q⟩ => .of evp_int fun F0 σ H F v u e0 S rv ru => by
    subst ea
    obtain ⟨p, w, w', h1, h2, h3, h4⟩ := rv
    exact ⟨p, [w, w'], 0, w, h1, ru, sqT_ext h2 S.ext, rfl, pu x.1, s1, F, e0, h3, S, q⟩)
theorem ev_snd {j : Nat} {p2 : Pos} (hs : PlainIx (.Constant (.int 1) j p2)) (h : Ev Y s a fun A s1 => ∃ x : α × β, A = pu x ∧ Q (pu x.2) s1) : Ev Y s (.Subscript a (.Constant (.int 1) j p2) pos) Q :=
  ev2 (pe_ix ix_tup pe_we pe_we hs) (h.mono fun A s1 ⟨x, ea, q⟩ => .of evp_int fun F0 σ H F v u e0 S rv ru => by
    subst ea
    obtain ⟨p, w, w', h1, h2, h3, h4⟩ := rv
    exact ⟨p, [w, w'], 1, w', h1, ru, sqT_ext h2 S.ext, rfl, pu x.2, s1, F, e0, h4, S, q⟩)
theorem evp_fst {x : α × β} {j : Nat} {p2 : Pos} (hs : PlainIx (.Constant (.int 0) j p2)) (ha : EvP Y s a (pu x)) : EvP Y s (.Subscript a (.Constant (.int 0) j p2) pos) (pu x.1) := .of (ev_fst hs (.of ha ⟨x, rfl, rfl, rfl⟩))
theorem evp_snd {x : α × β} {j : Nat} {p2 : Pos} (hs : PlainIx (.Constant (.int 1) j p2)) (ha : EvP Y s a (pu x)) : EvP Y s (.Subscript a (.Constant (.int 1) j p2) pos) (pu x.2) := .of (ev_snd hs (.of ha ⟨x, rfl, rfl, rfl⟩))
end
end
end Sp
set_option maxHeartbeats 4000000
/-! Sp: statements by data; a def's promise by data; calls. -/
namespace Sp
open PySem L2
/-- what is wanted behind statements -/
structure DE where
  nx : DSt → Prop
  rt : Pv → DSt → Prop
  bk : DSt → Prop := fun _ => False
  ct : DSt → Prop := fun _ => False
def Pst (Y : DX) (F0 : Hp) (Q : DSt → Prop) : St → Hp → Prop := fun σ H => ∃ s F, Ext F0 F ∧ Sta Y s σ H F ∧ Q s
def Prt (Y : DX) (F0 : Hp) (Q : Pv → DSt → Prop) : VK := fun v H => ∃ A s σ F, Ext F0 F ∧ A.rep Y.X.K F v ∧ Sta Y s σ H F ∧ Q A s
def DE.to (D : DE) (Y : DX) (F0 : Hp) : Ends := { nx := Pst Y F0 D.nx, rt := Prt Y F0 D.rt, bk := Pst Y F0 D.bk, ct := Pst Y F0 D.ct }
def Ws (Y : DX) (s : DSt) (sts : List Stmt) (D : DE) : Prop := ∀ F0 σ H F, Ext F0 F → Sta Y s σ H F → WS Y.X sts σ H (D.to Y F0)
structure WP (X : Cx) (st : Stmt) (σ : St) (H : Hp) (D : Ends) : Prop where
  run : ∀ (pins : List (Addr × Obj)) (s : Shared), Inv X pins σ H s → wpAny (model X.prog X.w) X.A (exec st X.env) (SP X pins D) X.xe s
def W1 (Y : DX) (s : DSt) (st : Stmt) (D : DE) : Prop := ∀ F0 σ H F, Ext F0 F → Sta Y s σ H F → WP Y.X st σ H (D.to Y F0)
/-- an exception in the air, by data -/
def wxOf (Y : DX) : WX := fun cls d σ H => ∃ e s F, Sta Y s σ H F ∧ ExcRep e cls d H ∧ Y.ex e s
structure YOk (Y : DX) : Prop where
  calm : Y.X.calm = true
  nd : Y.X.N.Nodup
  room : Room Y.k Y.X.A
  pass : PassesOwn (model Y.X.prog Y.X.w) Y.X.A Y.X.env Y.X.xe
  tk : Takes Y.X (wxOf Y)
section
variable {Y : DX} {s : DSt} {e a b c : Expr} {es : List Expr} {pos : Pos} {D D' : DE} {st : Stmt} {sts : List Stmt}
theorem ps_wp {X : Cx} : PS X st (fun D σ H => WP X st σ H D) := ⟨fun pins s _ _ _ I h => h.run pins s I⟩
theorem WP.of {X : Cx} {σ : St} {H : Hp} {t : TS} {D : Ends} (p : PS X st t) (h : t D σ H) : WP X st σ H D := ⟨fun pins s I => p.run pins s σ H D I h⟩
theorem Pst.mono {F0 F1 : Hp} {Q Q' : DSt → Prop} {σ : St} {H : Hp} (h : Pst Y F1 Q σ H) (e : Ext F0 F1) (k : ∀ s, Q s → Q' s) : Pst Y F0 Q' σ H := by
  obtain ⟨s, F, e1, S, q⟩ := h
  exact ⟨s, F, e.trans e1, S, k s q⟩
theorem Prt.mono {F0 F1 : Hp} {Q Q' : Pv → DSt → Prop} {v : V} {H : Hp} (h : Prt Y F1 Q v H) (e : Ext F0 F1) (k : ∀ A s, Q A s → Q' A s) : Prt Y F0 Q' v H := by
  obtain ⟨A, s, σ, F, e1, r, S, q⟩ := h
  exact ⟨A, s, σ, F, e.trans e1, r, S, k A s q⟩
theorem WS.mono2 {X : Cx} {σ : St} {H : Hp} {D D' : Ends} (h : WS X sts σ H D) (k1 : ∀ σ' H', D.nx σ' H' → D'.nx σ' H') (k2 : ∀ v H', D.rt v H' → D'.rt v H') (k3 : ∀ σ' H', D.bk σ' H' → D'.bk σ' H') (k4 : ∀ σ' H', D.ct σ' H' → D'.ct σ' H') : WS X sts σ H D' := WS.mono h k1 k2 k3 k4
theorem Ws.mono (h : Ws Y s sts D) (k1 : ∀ s, D.nx s → D'.nx s) (k2 : ∀ A s, D.rt A s → D'.rt A s) (k3 : ∀ s, D.bk s → D'.bk s) (k4 : ∀ s, D.ct s → D'.ct s) : Ws Y s sts D' := fun F0 σ H F e0 S =>
  (h F0 σ H F e0 S).mono (fun _ _ q => Pst.mono q (.refl _) k1) (fun _ _ q => Prt.mono q (.refl _) k2) (fun _ _ q => Pst.mono q (.refl _) k3) (fun _ _ q => Pst.mono q (.refl _) k4)
theorem ws_nil (h : D.nx s) : Ws Y s [] D := fun F0 σ H F e0 S => .of pss_nil ⟨s, F, e0, S, h⟩
theorem ws_cons (h : W1 Y s st { D with nx := fun s' => Ws Y s' sts D }) : Ws Y s (st :: sts) D := fun F0 σ H F e0 S => by
  refine .of (pss_cons ps_wp pss_ws) ?_
  have q := h F0 σ H F e0 S
  refine ⟨fun pins s' I => ?_⟩
  refine thn (q.run pins s' I) fun f s1 z => ?_
  cases f with
  | next =>
    obtain ⟨σ', H', J, s2, F2, e2, S2, w⟩ := z
    exact ⟨σ', H', J, w F0 σ' H' F2 e2 S2⟩
  | brk => exact z
  | cont => exact z
  | ret u => exact z
theorem ws_one (h : W1 Y s st D) : Ws Y s [st] D := fun F0 σ H F e0 S => .of (pss_one ps_wp) (h F0 σ H F e0 S)
theorem w1_pass (h : D.nx s) : W1 Y s (.Pass pos) D := fun F0 σ H F e0 S => .of ps_pass ⟨s, F, e0, S, h⟩
theorem w1_break (h : D.bk s) : W1 Y s (.Break pos) D := fun F0 σ H F e0 S => .of ps_break ⟨s, F, e0, S, h⟩
theorem w1_continue (h : D.ct s) : W1 Y s (.Continue pos) D := fun F0 σ H F e0 S => .of ps_continue ⟨s, F, e0, S, h⟩
theorem w1_doc {x : Str} {j : Nat} {p : Pos} (h : D.nx s) : W1 Y s (.Expr (.Constant (.str x) j p) pos) D := fun F0 σ H F e0 S => .of ps_doc ⟨s, F, e0, S, h⟩
theorem w1_expr (h : Ev Y s e fun _ s' => D.nx s') (hs : swapsWith e none pos.line Y.X.env = pure false := by rfl) : W1 Y s (.Expr e pos) D := fun F0 σ H F e0 S =>
  .of (ps_expr pe_we hs) ((h F0 σ H F e0 S).mono fun v H' ⟨A, s', F', e1, r, S', q⟩ => ⟨s', F', e1, S', q⟩)
theorem w1_ret (h : Ev Y s e D.rt) : W1 Y s (.Return (some e) pos) D := fun F0 σ H F e0 S =>
  .of (ps_ret pe_we) ((h F0 σ H F e0 S).mono fun v H' ⟨A, s', F', e1, r, S', q⟩ => ⟨A, s', σ, F', e1, r, S', q⟩)
theorem w1_retN (h : D.rt (pu ()) s) : W1 Y s (.Return none pos) D := fun F0 σ H F e0 S => .of ps_retN ⟨pu (), s, σ, F, e0, rfl, S, h⟩
theorem w1_set {x : Str} {p2 : Pos} (i : Nat) (ok : YOk Y) (hi : Y.X.N[i]? = some x) (hx : Loc Y.X.env.scope x) (h : Ev Y s e fun A s' => D.nx ⟨s'.ρ.set i (some A), s'.gs⟩)
    (hs : swapsWith e (some (.Name x p2)) pos.line Y.X.env = pure false := by rfl) (hf : Y.X.fn x = true ∨ Y.X.env.scope.names.lookup x = some .local := by first | exact .inl rfl | exact .inr rfl) : W1 Y s (.Assign [.Name x p2] e pos) D := fun F0 σ H F e0 S =>
  .of (ps_set ok.nd hi hx pe_we hs hf) ((h F0 σ H F e0 S).mono fun v H' ⟨A, s', F', e1, r, S', q⟩ => ⟨_, F', e1, S'.set r i, q⟩)
theorem w1_if {A B : List Stmt} (h : Et Y s c fun t s' => if t = true then Ws Y s' A D else Ws Y s' B D) : W1 Y s (.If c A B pos) D := fun F0 σ H F e0 S => by
  refine .of (ps_if pt_wt pss_ws pss_ws) ((h F0 σ H F e0 S).mono fun t H' ⟨s', F', e1, S', q⟩ => ?_)
  cases t with
  | true => exact q F0 σ H' F' e1 S'
  | false => exact q F0 σ H' F' e1 S'
/-! ### targets -/
/-- σ' is σ but for the slots ws -/
def Only (ws : List Nat) (σ σ' : St) : Prop := σ'.length = σ.length ∧ ∀ j, j ∉ ws → σ'[j]? = σ[j]?
theorem Only.refl {σ : St} : Only [] σ σ := ⟨rfl, fun _ _ => rfl⟩
theorem Only.set {σ : St} {i : Nat} {o : Option V} : Only [i] σ (σ.set i o) := ⟨List.length_set .., fun j hj => List.getElem?_set_ne (fun e => hj (by simp [e]))⟩
theorem Only.trans {ws vs : List Nat} {σ σ1 σ2 : St} (a : Only ws σ σ1) (b : Only vs σ1 σ2) : Only (ws ++ vs) σ σ2 :=
  ⟨b.1.trans a.1, fun j hj => (b.2 j fun h => hj (List.mem_append_right _ h)).trans (a.2 j fun h => hj (List.mem_append_left _ h))⟩
/-- the target tg takes data: the names become f x ρ, the slots ws alone change -/
def TgOk (Y : DX) {β : Type} [Enc β] (tg : Expr) (g : TG) (ws : List Nat) (f : β → Rho → Rho) : Prop :=
  PG Y.X tg g ∧ ∀ (σ : St) (H F : Hp) (v : V) (x : β) (s : DSt) (Q : St → Hp → Prop), Sta Y s σ H F → Enc.rep Y.X.K F v x → (∀ σ', Sta Y ⟨f x s.ρ, s.gs⟩ σ' H F → Only ws σ σ' → Q σ' H) → g v σ H Q
section
variable {α β γ : Type} [Enc α] [Enc β] [Enc γ]
theorem tg_name {x : Str} (nd : Y.X.N.Nodup) (i : Nat) (hi : Y.X.N[i]? = some x) (hx : Loc Y.X.env.scope x) (hf : Y.X.fn x = true ∨ Y.X.env.scope.names.lookup x = some .local := by first | exact .inl rfl | exact .inr rfl) :
    TgOk Y (β := β) (.Name x pos) (gName i) [i] fun v ρ => ρ.set i (some (pu v)) :=
  ⟨pg_name nd hi hx hf, fun σ H F v x s Q S r k => k _ (S.set (A := pu x) r i) .set⟩
theorem tg_pair {t1 t2 : Expr} {g1 g2 : TG} {w1 w2 : List Nat} {f1 : α → Rho → Rho} {f2 : β → Rho → Rho} {k : Nat} (calm : Y.X.calm = true) (h1 : TgOk Y t1 g1 w1 f1) (h2 : TgOk Y t2 g2 w2 f2)
    (hs1 : (assignEach [t1, t2] Y.X.env).map (·.2) = assign t1 Y.X.env :: (assignEach [t2] Y.X.env).map (·.2) := by rfl) (hs2 : (assignEach [t2] Y.X.env).map (·.2) = assign t2 Y.X.env :: (assignEach [] Y.X.env).map (·.2) := by rfl)
    (hn : (assignEach [t1, t2] Y.X.env).length = 2 := by rfl) (hst : (assignEach [t1, t2] Y.X.env).findIdx? (·.1) = none := by rfl) :
    TgOk Y (β := α × β) (.Tuple [t1, t2] k pos) (gTup Y.X.K 2 (gCons g1 (gCons g2 gNil))) (w1 ++ w2) fun v ρ => f2 v.2 (f1 v.1 ρ) :=
  ⟨pg_tup calm (pgs_cons h1.1 (pgs_cons h2.1 pgs_nil hs2) hs1) hn hst, fun σ H F v x s Q S ⟨p, a, b, e, hq, ra, rb⟩ q =>
    ⟨p, [a, b], e, sqT_ext hq S.ext, rfl, a, [b], rfl, h1.2 σ H F a x.1 s _ S ra fun σ1 S1 o1 => ⟨b, [], rfl, h2.2 σ1 H F b x.2 _ _ S1 rb fun σ2 S2 o2 => ⟨rfl, q σ2 S2 (o1.trans o2)⟩⟩⟩⟩
theorem tg_three {t1 t2 t3 : Expr} {g1 g2 g3 : TG} {w1 w2 w3 : List Nat} {f1 : α → Rho → Rho} {f2 : β → Rho → Rho} {f3 : γ → Rho → Rho} {k : Nat} (calm : Y.X.calm = true) (h1 : TgOk Y t1 g1 w1 f1) (h2 : TgOk Y t2 g2 w2 f2) (h3 : TgOk Y t3 g3 w3 f3)
    (hs1 : (assignEach [t1, t2, t3] Y.X.env).map (·.2) = assign t1 Y.X.env :: (assignEach [t2, t3] Y.X.env).map (·.2) := by rfl) (hs2 : (assignEach [t2, t3] Y.X.env).map (·.2) = assign t2 Y.X.env :: (assignEach [t3] Y.X.env).map (·.2) := by rfl)
    (hs3 : (assignEach [t3] Y.X.env).map (·.2) = assign t3 Y.X.env :: (assignEach [] Y.X.env).map (·.2) := by rfl)
    (hn : (assignEach [t1, t2, t3] Y.X.env).length = 3 := by rfl) (hst : (assignEach [t1, t2, t3] Y.X.env).findIdx? (·.1) = none := by rfl) :
    TgOk Y (β := T3 α β γ) (.Tuple [t1, t2, t3] k pos) (gTup Y.X.K 3 (gCons g1 (gCons g2 (gCons g3 gNil)))) (w1 ++ (w2 ++ w3)) fun v ρ => f3 v.c (f2 v.b (f1 v.a ρ)) :=
  ⟨pg_tup calm (pgs_cons h1.1 (pgs_cons h2.1 (pgs_cons h3.1 pgs_nil hs3) hs2) hs1) hn hst, fun σ H F v x s Q S ⟨p, a, b, c, e, hq, ra, rb, rc⟩ q =>
    ⟨p, [a, b, c], e, sqT_ext hq S.ext, rfl, a, [b, c], rfl, h1.2 σ H F a x.a s _ S ra fun σ1 S1 o1 => ⟨b, [c], rfl, h2.2 σ1 H F b x.b _ _ S1 rb fun σ2 S2 o2 => ⟨c, [], rfl, h3.2 σ2 H F c x.c _ _ S2 rc fun σ3 S3 o3 => ⟨rfl, q σ3 S3 (o1.trans (o2.trans o3))⟩⟩⟩⟩⟩
/-- tg = e, e a tuple -/
theorem w1_asg {tg : Expr} {g : TG} {ws : List Nat} {f : β → Rho → Rho} (hg : TgOk Y tg g ws f) (h : Ev Y s e fun A s' => ∃ x : β, A = pu x ∧ D.nx ⟨f x s'.ρ, s'.gs⟩) (hs : swapsWithSole [tg] e pos.line Y.X.env = pure false := by rfl) (hw : swappedStores [tg] e Y.X.env = pure none := by rfl)
    (h1 : (assignEach [tg] Y.X.env).map (·.2) = [assign tg Y.X.env] := by rfl) : W1 Y s (.Assign [tg] e pos) D := fun F0 σ H F e0 S =>
  .of (ps_asg pe_we hg.1 hs hw h1) ((h F0 σ H F e0 S).mono fun v H' ⟨A, s', F', e1, r, S', x, ea, q⟩ => by
    subst ea
    exact hg.2 σ H' F' v x s' _ S' r fun σ' S2 _ => ⟨_, F', e1, S2, q⟩)
/-- a, b = x, y, the names plain locals -/
theorem w1_par {i j : Nat} {x y : Str} {a b : Expr} {px py pt pt2 : Pos} {kt k2 : Nat} (ok : YOk Y) (hi : Y.X.N[i]? = some x) (hj : Y.X.N[j]? = some y) (hij : i ≠ j)
    (hx : Y.X.env.scope.names.lookup x = some .local) (hy : Y.X.env.scope.names.lookup y = some .local) (h : Evs Y s [a, b] fun As s' => ∃ A B, As = [A, B] ∧ D.nx ⟨(s'.ρ.set i (some A)).set j (some B), s'.gs⟩)
    (hw : swappedStores [.Tuple [.Name x px, .Name y py] kt pt] (.Tuple [a, b] k2 pt2) Y.X.env = pure (some [x, y]) := by rfl) (hs : swapsWithSole [.Tuple [.Name x px, .Name y py] kt pt] (.Tuple [a, b] k2 pt2) pos.line Y.X.env = pure false := by rfl) :
    W1 Y s (.Assign [.Tuple [.Name x px, .Name y py] kt pt] (.Tuple [a, b] k2 pt2) pos) D := fun F0 σ H F e0 S =>
  .of (ps_par ok.calm ok.nd hi hj hij hx hy pa_wa hw hs) ((h F0 σ H F e0 S).mono fun vs H' ⟨As, s', F', e1, r, S', A, B, ea, q⟩ => by
    subst ea
    cases r with
    | cons ra rt => cases rt with
      | cons rb rn =>
        cases rn
        exact ⟨_, _, rfl, _, F', e1, (S'.set ra i).set rb j, q⟩)
/-- x op= e -/
theorem w1_aug {op : Operator} {r : R2} {x : Str} {p2 : Pos} (i : Nat) (ok : YOk Y) (ho : OpR Y.X (inplaceOp op) r) (hi : Y.X.N[i]? = some x) (hx : Loc Y.X.env.scope x) {A : Pv} (hA : s.ρ[i]? = some (some A))
    (h : Ev Y s e fun B s' => ∀ F0 σ H F v u, Ext F0 F → Sta Y s' σ H F → A.rep Y.X.K F v → B.rep Y.X.K F u → r v u H fun w H' => Pst Y F0 D.nx (σ.set i (some w)) H')
    (hf : Y.X.fn x = true ∨ Y.X.env.scope.names.lookup x = some .local := by first | exact .inl rfl | exact .inr rfl) : W1 Y s (.AugAssign (.Name x p2) op e pos) D := fun F0 σ H F e0 S => by
  obtain ⟨v, ev, rv⟩ := S.rep.get hA
  exact .of (ps_aug ok.nd hi hx pe_we (fun pins s σ H x y v u Q I r1 r2 t => ho pins s σ H x y v u Q I r1 r2 t) hf) ⟨v, ev, (h F σ H F (.refl _) S).mono fun u H1 ⟨B, s1, F1, e1, r1, S1, q⟩ => q F0 σ H1 F1 v u (e0.trans e1) S1 (A.mono rv e1) r1⟩
section
variable {x : Str} {p2 : Pos} (i : Nat) (ok : YOk Y) (hi : Y.X.N[i]? = some x) (hx : Loc Y.X.env.scope x) {n : Int} (hA : s.ρ[i]? = some (some (pu n)))
  (hf : Y.X.fn x = true ∨ Y.X.env.scope.names.lookup x = some .local)
include ok hi hx hA hf
theorem w1_add (h : Ev Y s e fun B s' => ∃ m : Int, B = pu m ∧ D.nx ⟨s'.ρ.set i (some (pu (n + m))), s'.gs⟩) : W1 Y s (.AugAssign (.Name x p2) .Add e pos) D :=
  w1_aug i ok iop_add hi hx hA (h.mono fun B s' ⟨m, eb, q⟩ F0 σ H F v u e0 S rv ru => by subst eb; exact ⟨n, m, rv, ru, _, F, e0, S.set (A := pu (n + m)) rfl i, q⟩) hf
theorem w1_sub (h : Ev Y s e fun B s' => ∃ m : Int, B = pu m ∧ D.nx ⟨s'.ρ.set i (some (pu (n - m))), s'.gs⟩) : W1 Y s (.AugAssign (.Name x p2) .Sub e pos) D :=
  w1_aug i ok iop_sub hi hx hA (h.mono fun B s' ⟨m, eb, q⟩ F0 σ H F v u e0 S rv ru => by subst eb; exact ⟨n, m, rv, ru, _, F, e0, S.set (A := pu (n - m)) rfl i, q⟩) hf
theorem w1_mul (h : Ev Y s e fun B s' => ∃ m : Int, B = pu m ∧ CMul n m ∧ D.nx ⟨s'.ρ.set i (some (pu (n * m))), s'.gs⟩) : W1 Y s (.AugAssign (.Name x p2) .Mult e pos) D :=
  w1_aug i ok iop_mul hi hx hA (h.mono fun B s' ⟨m, eb, hc, q⟩ F0 σ H F v u e0 S rv ru => by subst eb; exact ⟨n, m, rv, ru, hc, _, F, e0, S.set (A := pu (n * m)) rfl i, q⟩) hf
theorem w1_fdiv (h : Ev Y s e fun B s' => ∃ m : Int, B = pu m ∧ CDiv n m ∧ D.nx ⟨s'.ρ.set i (some (pu (n / m))), s'.gs⟩) : W1 Y s (.AugAssign (.Name x p2) .FloorDiv e pos) D :=
  w1_aug i ok iop_fdiv hi hx hA (h.mono fun B s' ⟨m, eb, hc, q⟩ F0 σ H F v u e0 S rv ru => by subst eb; exact ⟨n, m, rv, ru, hc, _, F, e0, S.set (A := pu (n / m)) rfl i, q⟩) hf
end
theorem w1_addS {x : Str} {p2 : Pos} (i : Nat) (ok : YOk Y) (hi : Y.X.N[i]? = some x) (hx : Loc Y.X.env.scope x) {n : List Nat} (hA : s.ρ[i]? = some (some (pu n)))
    (hf : Y.X.fn x = true ∨ Y.X.env.scope.names.lookup x = some .local) (h : Ev Y s e fun B s' => ∃ m : List Nat, B = pu m ∧ n.length + m.length ≤ sizeLine ∧ D.nx ⟨s'.ρ.set i (some (pu (n ++ m))), s'.gs⟩) : W1 Y s (.AugAssign (.Name x p2) .Add e pos) D :=
  w1_aug i ok iop_add_str hi hx hA (h.mono fun B s' ⟨m, eb, hc, q⟩ F0 σ H F v u e0 S rv ru => by
    subst eb
    exact ⟨toStr n, toStr m, rv, ru, by rw [toStr_len, toStr_len]; exact hc, _, F, e0, S.set (A := pu (n ++ m)) (by rw [toStr_app]; rfl) i, q⟩) hf

/-! ### what is walked -/
def ItOk {β : Type} [Enc β] (K : Frag) (J : It) (F' : Hp) (items : List β) : Prop := ∀ i H2 F2, Ext F' F2 → Ext F2 H2 →
  (∀ x, items[i]? = some x → J.go i H2 ∧ ∀ v H3, J.yld i H2 v H3 → (H3 = H2 ∧ Enc.rep K F2 v x) ∨ ∃ p vs, H2 p = none ∧ H3 = upd H2 p (.tup vs) ∧ v = .ref p ∧ ∀ F3, Ext F2 F3 → SqT K F3 p vs → Enc.rep K F3 v x) ∧ (items.length ≤ i → J.stop i H2)
def EvIt (Y : DX) (s : DSt) (tg iter : Expr) {β : Type} [Enc β] (items : List β) : Prop :=
  ∃ wi, PI Y.X tg iter wi ∧ ∀ F0 σ H F (R : It → Hp → Prop), Ext F0 F → Sta Y s σ H F → (∀ J H' F', Ext F0 F' → Sta Y s σ H' F' → ItOk Y.X.K J F' items → R J H') → wi σ H R
theorem ItOk.yld {J : It} {F' H2 F2 H3 : Hp} {items : List β} {i : Nat} {x : β} {v : V} {s2 : DSt} {σ : St} (h : ItOk Y.X.K J F' items) (e : Ext F' F2) (S : Sta Y s2 σ H2 F2) (hx : items[i]? = some x) (y : J.yld i H2 v H3) :
    ∃ F3, Ext F2 F3 ∧ Sta Y s2 σ H3 F3 ∧ Enc.rep Y.X.K F3 v x := by
  rcases ((h i H2 F2 e S.ext).1 x hx).2 v H3 y with ⟨rfl, r⟩ | ⟨p, vs, hp, rfl, ev, r⟩
  · exact ⟨F2, .refl _, S, r⟩
  · have hF := S.free hp
    exact ⟨_, Ext.grow hF, S.newF hp rfl, r _ (Ext.grow hF) (.of upd_same)⟩
/-- for, by what holds ahead of each turn -/
theorem w1_for {tg iter : Expr} {body : List Stmt} {g : TG} {ws : List Nat} {f : β → Rho → Rho} {items : List β} (ok : YOk Y) (hi : EvIt Y s tg iter items) (hg : TgOk Y tg g ws f) (Iv : Nat → DSt → Prop) (h0 : Iv 0 s)
    (hstep : ∀ i x s2, items[i]? = some x → Iv i s2 → Ws Y ⟨f x s2.ρ, s2.gs⟩ body { D with nx := Iv (i + 1), ct := Iv (i + 1), bk := D.nx }) (hd : ∀ s2, Iv items.length s2 → D.nx s2)
    (hs : ∀ x, foldedSetIterable iter Y.X.env x = pure x := by intro _; rfl) : W1 Y s (.For tg iter body [] pos) D := fun F0 σ H F e0 S => by
  obtain ⟨wi, hp, hw⟩ := hi
  refine .of (ps_for ok.pass ok.calm hp hg.1 pss_ws hs) ?_
  refine hw F0 σ H F _ e0 S fun J H1 F1 e1 S1 K1 => ?_
  refine ⟨fun i m σ H => m = items.length - i ∧ i ≤ items.length ∧ ∃ s2 F2, Ext F1 F2 ∧ Sta Y s2 σ H F2 ∧ Iv i s2, ⟨items.length, rfl, Nat.zero_le _, s, F1, .refl _, S1, h0⟩, ?_⟩
  rintro i m σ2 H2 ⟨rfl, hi, s2, F2, e2, S2, iv⟩
  by_cases hlt : i < items.length
  · have hx : items[i]? = some items[i] := List.getElem?_eq_getElem hlt
    refine .inr ⟨((K1 i H2 F2 e2 S2.ext).1 _ hx).1, fun σ' H' => ∃ s3 F3, Ext F1 F3 ∧ Sta Y s3 σ' H' F3 ∧ Iv (i + 1) s3, fun σ' H' ⟨s3, F3, e3, S3, iv3⟩ => ⟨items.length - (i + 1), by omega, rfl, hlt, s3, F3, e3, S3, iv3⟩, fun v H3 y => ?_⟩
    obtain ⟨F3, e3, S3, r3⟩ := K1.yld e2 S2 hx y
    refine hg.2 σ2 H3 F3 v _ s2 _ S3 r3 fun σ4 S4 _ => ?_
    have e9 := (e1.trans e2).trans e3
    exact (hstep i _ s2 hx iv F3 σ4 H3 F3 (.refl _) S4).mono (fun σ' H' ⟨s5, F5, e5, S5, q⟩ => ⟨s5, F5, (e2.trans e3).trans e5, S5, q⟩) (fun v H' q => q.mono e9 fun _ _ h => h)
      (fun σ' H' q => q.mono e9 fun _ h => h) (fun σ' H' ⟨s5, F5, e5, S5, q⟩ => ⟨s5, F5, (e2.trans e3).trans e5, S5, q⟩)
  · have e : i = items.length := by omega
    subst e
    exact .inl ⟨(K1 _ H2 F2 e2 S2.ext).2 (Nat.le_refl _), s2, F2, e1.trans e2, S2, hd s2 iv⟩
/-- for, its turns one way: the state is st after each turn's step -/
theorem w1_foldl {tg iter : Expr} {body : List Stmt} {g : TG} {ws : List Nat} {f : β → Rho → Rho} {items : List β} {Z : Type} (ok : YOk Y) (hi : EvIt Y s tg iter items) (hg : TgOk Y tg g ws f) (R : Z → DSt → Prop) (z0 : Z) (step : Z → β → Z) (h0 : R z0 s)
    (hstep : ∀ z x s2, x ∈ items → R z s2 → Ws Y ⟨f x s2.ρ, s2.gs⟩ body { D with nx := R (step z x), ct := R (step z x), bk := D.nx }) (hd : ∀ s2, R (items.foldl step z0) s2 → D.nx s2)
    (hs : ∀ x, foldedSetIterable iter Y.X.env x = pure x := by intro _; rfl) : W1 Y s (.For tg iter body [] pos) D :=
  w1_for ok hi hg (fun i s2 => R ((items.take i).foldl step z0) s2) (by simpa using h0) (fun i x s2 hx iv => by
    have e : (items.take (i + 1)).foldl step z0 = step ((items.take i).foldl step z0) x := by
      obtain ⟨hl, hx'⟩ := List.getElem?_eq_some_iff.mp hx
      rw [List.take_add_one, hx, Option.toList_some, List.foldl_append]
      rfl
    rw [e]
    exact hstep _ x s2 (List.mem_of_getElem? hx) iv) (fun s2 iv => hd s2 (by rw [List.take_length] at iv; exact iv)) hs
theorem w1_while {body : List Stmt} (ok : YOk Y) (Iv : DSt → Prop) (μ : DSt → Nat) (h0 : Iv s)
    (hstep : ∀ s2, Iv s2 → Et Y s2 c fun t s3 => if t = true then Ws Y s3 body { D with nx := fun s4 => Iv s4 ∧ μ s4 < μ s2, ct := fun s4 => Iv s4 ∧ μ s4 < μ s2, bk := D.nx } else D.nx s3) : W1 Y s (.While c body [] pos) D := fun F0 σ H F e0 S => by
  refine .of (ps_while ok.pass pt_wt pss_ws) ⟨fun m σ H => ∃ s2 F2, Ext F0 F2 ∧ Sta Y s2 σ H F2 ∧ Iv s2 ∧ m = μ s2, ⟨_, s, F, e0, S, h0, rfl⟩, ?_⟩
  rintro m σ2 H2 ⟨s2, F2, e2, S2, iv, rfl⟩
  refine (hstep s2 iv F0 σ2 H2 F2 e2 S2).mono fun t H3 ⟨s3, F3, e3, S3, q⟩ => ?_
  cases t with
  | false => exact ⟨s3, F3, e3, S3, q⟩
  | true => exact ⟨fun σ' H' => ∃ s4 F4, Ext F0 F4 ∧ Sta Y s4 σ' H' F4 ∧ Iv s4 ∧ μ s4 < μ s2, fun σ' H' ⟨s4, F4, e4, S4, iv4, lt⟩ => ⟨_, lt, s4, F4, e4, S4, iv4, rfl⟩, q F0 σ2 H3 F3 e3 S3⟩

/-! sources -/
theorem it_list {tg iter : Expr} {xs : List α} (h : EvP Y s iter (pu xs)) : EvIt Y s tg iter xs :=
  ⟨_, pi_list pe_we, fun F0 σ H F R e0 S k => (h F0 σ H F e0 S).mono fun v H' ⟨F', e1, ⟨p, vs, ev, hq, rv⟩, S'⟩ =>
    ⟨p, ev, ⟨vs, sqL_ext hq S'.ext⟩, k _ _ F' e1 S' fun i H2 F2 e2 e3 => ⟨fun x hx => by
      have hq2 := sqL_ext (sqL_ext hq e2) e3
      obtain ⟨w, hw, rw'⟩ := prd_get rv hx
      exact ⟨⟨vs, w, hq2, hw⟩, fun v H3 ⟨eh, hv⟩ => .inl ⟨eh, by
        have := hv vs hq2
        rw [hw] at this
        cases this
        exact Enc.mono rw' e2⟩⟩, fun hl => ⟨vs, sqL_ext (sqL_ext hq e2) e3, by rw [rv.length]; exact hl⟩⟩⟩⟩
theorem it_tup {tg iter : Expr} {xs : Tup α} (h : EvP Y s iter (pu xs)) : EvIt Y s tg iter xs.items :=
  ⟨_, pi_tup pe_we, fun F0 σ H F R e0 S k => (h F0 σ H F e0 S).mono fun v H' ⟨F', e1, ⟨p, vs, ev, hq, rv⟩, S'⟩ =>
    ⟨p, ev, ⟨vs, sqT_ext hq S'.ext⟩, k _ _ F' e1 S' fun i H2 F2 e2 e3 => ⟨fun x hx => by
      have hq2 := sqT_ext (sqT_ext hq e2) e3
      obtain ⟨w, hw, rw'⟩ := prd_get rv hx
      exact ⟨⟨vs, w, hq2, hw⟩, fun v H3 ⟨eh, hv⟩ => .inl ⟨eh, by
        have := hv vs hq2
        rw [hw] at this
        cases this
        exact Enc.mono rw' e2⟩⟩, fun hl => ⟨vs, sqT_ext (sqT_ext hq e2) e3, by rw [rv.length]; exact hl⟩⟩⟩⟩
/-- a text's signs -/
theorem it_txt {tg iter : Expr} {x : List Nat} (h : EvP Y s iter (pu x)) : EvIt Y s tg iter (x.map fun c => [c]) :=
  ⟨_, pi_str pe_we, fun F0 σ H F R e0 S k => (h F0 σ H F e0 S).mono fun v H' ⟨F', e1, ev, S'⟩ =>
    ⟨toStr x, ev, k _ _ F' e1 S' fun i H2 F2 e2 e3 => ⟨fun y hy => by
      rw [List.getElem?_map] at hy
      cases q : x[i]? with
      | none => rw [q] at hy; cases hy
      | some c =>
        rw [q] at hy
        cases hy
        have hl : i < (toStr x).cps.size := by
          have := (List.getElem?_eq_some_iff.mp q).1
          simpa [toStr] using this
        refine ⟨hl, fun v H3 ⟨eh, c', hc, hv⟩ => .inl ⟨eh, ?_⟩⟩
        have e9 : c' = c := by
          have : x[i]? = some c' := by simpa [toStr] using hc
          rw [q] at this
          exact (Option.some.inj this).symm
        subst e9
        exact hv, fun hl => by
      show (toStr x).cps.size ≤ i
      simpa [toStr] using hl⟩⟩⟩
end
end
end Sp
set_option maxHeartbeats 4000000
/-! Sp: a def's promise by data; calls, methods, raises. -/
namespace Sp
open PySem L2
/-- a promise by data: the arguments, the owned cells; what is wanted of the end and of an exception -/
abbrev DSp := List Pv → Gs → (Pv → Gs → Prop) → (Exc → Gs → Prop) → Prop
/-- heaps and owned cells -/
structure Stg (K : Frag) (T : Tb) (gs : Gs) (H F : Hp) : Prop where
  ext : Ext F H
  ntb : ∀ a o, F a = some o → isTbl o = false
  own : ∀ p ∈ gs, F p.1 = none ∧ ∃ o, H p.1 = some o ∧ isTbl o = false ∧ p.2.rep K F o
  nd : (gs.map (·.1)).Nodup
  tb : TbOk T H
abbrev ads (gs : Gs) : List Addr := gs.map (·.1)
theorem Sta.stg {Y : DX} {s : DSt} {σ : St} {H F : Hp} (S : Sta Y s σ H F) : Stg Y.X.K Y.T s.gs H F := ⟨S.ext, S.ntb, S.own, S.nd, S.tb⟩
def toSp (K : Frag) (T : Tb) (n : Nat) (d : DSp) : Sp := fun vs H Q E => vs.length = n ∧ ∃ As gs F, Rvs K F vs As ∧ Stg K T gs H F ∧
  d As gs (fun A gs' => ∀ v H' F', A.rep K F' v → Stg K T gs' H' F' → Step H F (ads gs) H' F' (ads gs') → Q v H')
    (fun e gs' => ∀ cls dd H' F', ExcRep e cls dd H' → Stg K T gs' H' F' → Step H F (ads gs) H' F' (ads gs') → E cls dd H')
section
variable {K : Frag} {T : Tb} {H0 F0 H F H' F' : Hp} {S0 : List Addr}
/-- a callee's step within a caller's -/
theorem Step.call {gs1 gs2 gs1' : Gs} (t : Step H0 F0 S0 H F (ads (gs1 ++ gs2))) (G : Stg K T (gs1 ++ gs2) H F) (c : Step H F (ads gs1) H' F' (ads gs1')) (G1 : Stg K T gs1' H' F') :
    Stg K T (gs1' ++ gs2) H' F' ∧ Step H0 F0 S0 H' F' (ads (gs1' ++ gs2)) := by
  have nd := G.nd
  rw [List.map_append, List.nodup_append] at nd
  have one : ∀ p ∈ gs2, p.1 ∉ ads gs1 := fun p hp hm => nd.2.2 _ hm _ (List.mem_map.mpr ⟨p, hp, rfl⟩) rfl
  have fr2 : ∀ p ∈ gs2, F' p.1 = none ∧ p.1 ∉ ads gs1' := fun p hp => by
    obtain ⟨h1, o, h2, h3, _⟩ := G.own p (List.mem_append_right _ hp)
    have no : ¬ (F' p.1 ≠ none ∨ p.1 ∈ ads gs1') := fun h => by
      rcases c.nw _ h with z | z | z
      · exact z h1
      · exact one p hp z
      · have := z o h2
        rw [h3] at this; cases this
    refine ⟨?_, fun h => no (.inr h)⟩
    cases q : F' p.1 with
    | none => rfl
    | some u => exact absurd (.inl (by rw [q]; simp)) no
  have own0 : ∀ a, a ∈ ads (gs1 ++ gs2) → F a = none := fun a ha => by
    obtain ⟨p, hp, e⟩ := List.mem_map.mp ha
    rw [← e]
    exact (G.own p hp).1
  have ap : ∀ {g g' : Gs}, ads (g ++ g') = ads g ++ ads g' := fun {g g'} => by unfold ads; exact List.map_append
  refine ⟨⟨G1.ext, G1.ntb, fun p hp => ?_, ?_, G1.tb⟩, t.ff.trans c.ff, fun a o h1 h2 h3 => ?_, fun a h => ?_⟩
  · rcases List.mem_append.mp hp with hp | hp
    · exact G1.own p hp
    · obtain ⟨h1, o, h2, h3, h4⟩ := G.own p (List.mem_append_right _ hp)
      exact ⟨(fr2 p hp).1, o, c.fr _ o h2 h3 (one p hp), h3, p.2.mono h4 c.ff⟩
  · rw [List.map_append, List.nodup_append]
    refine ⟨G1.nd, nd.2.1, fun a ha b hb e => ?_⟩
    obtain ⟨p, hp, e2⟩ := List.mem_map.mp hb
    exact (fr2 p hp).2 (by rw [e2, ← e]; exact ha)
  · have q := t.fr a o h1 h2 h3
    refine c.fr a o q h2 fun hm => ?_
    have hm2 : a ∈ ads (gs1 ++ gs2) := by rw [ap]; exact List.mem_append_left _ hm
    rcases t.nw a (.inr hm2) with z | z | z
    · obtain ⟨u, hu⟩ := Option.ne_none_iff_exists'.mp z
      have := t.ff a u hu
      rw [own0 a hm2] at this; cases this
    · exact h3 z
    · have := z o h1
      rw [h2] at this; cases this
  · have key : F' a ≠ none ∨ a ∈ ads gs1' → F0 a ≠ none ∨ a ∈ S0 ∨ Fre H0 a := fun h => by
      rcases c.nw a h with z | z | z
      · exact t.nw a (.inl z)
      · exact t.nw a (.inr (by rw [ap]; exact List.mem_append_left _ z))
      · exact .inr (t.was z)
    rcases h with h | h
    · exact key (.inl h)
    · rw [ap] at h
      rcases List.mem_append.mp h with h | h
      · exact key (.inr h)
      · exact t.nw a (.inr (by rw [ap]; exact List.mem_append_right _ h))
end
section
variable {Y : DX} {s : DSt} {e a b c : Expr} {es : List Expr} {pos : Pos} {D D' : DE} {st : Stmt} {sts : List Stmt} {Q : Pv → DSt → Prop}
/-- behind a callee -/
theorem Sta.called {σ : St} {H F H' F' : Hp} {gs1 gs2 gs1' : Gs} (S : Sta Y s σ H F) (hp : s.gs.Perm (gs1 ++ gs2)) (G1 : Stg Y.X.K Y.T gs1' H' F') (c : Step H F (ads gs1) H' F' (ads gs1')) : Sta Y ⟨s.ρ, gs1' ++ gs2⟩ σ H' F' := by
  have S2 := S.perm hp
  obtain ⟨G, t⟩ := Step.call S2.st S2.stg c G1
  exact ⟨G.ext, G.ntb, S.rep.mono c.ff, G.own, G.nd, G.tb, t⟩
/-- what a callee wants, at its arguments -/
theorem sp_call {n : Nat} {d : DSp} {σ : St} {F0 H F : Hp} {vs : List V} {As : List Pv} {gs1 gs2 : Gs} (e0 : Ext F0 F) (S : Sta Y s σ H F) (r : Rvs Y.X.K F vs As) (hn : As.length = n) (hp : s.gs.Perm (gs1 ++ gs2))
    (h : d As gs1 (fun A gs' => Q A ⟨s.ρ, gs' ++ gs2⟩) (fun e gs' => Y.ex e ⟨s.ρ, gs' ++ gs2⟩))
    (mono : ∀ (R R' : Pv → Gs → Prop) (E E' : Exc → Gs → Prop), (∀ A g, R A g → R' A g) → (∀ e g, E e g → E' e g) → d As gs1 R E → d As gs1 R' E') :
    toSp Y.X.K Y.T n d vs H (Po Y σ F0 Q) (L2.WE (wxOf Y) σ) := by
  have G := (S.perm hp).stg
  have nd := G.nd
  rw [List.map_append, List.nodup_append] at nd
  refine ⟨(Paired.length r).trans hn, As, gs1, F, r, ⟨G.ext, G.ntb, fun p hp => G.own p (List.mem_append_left _ hp), nd.1, G.tb⟩, mono _ _ _ _ (fun A g q v H' F' r' G1 c => ?_) (fun e g q cls dd H' F' r' G1 c => ?_) h⟩
  · exact ⟨A, _, F', e0.trans c.ff, r', S.called hp G1 c, q⟩
  · exact ⟨e, _, F', S.called hp G1 c, r', q⟩
/-- a promise that may be widened -/
def DMono (d : DSp) : Prop := ∀ As gs (R R' : Pv → Gs → Prop) (E E' : Exc → Gs → Prop), (∀ A g, R A g → R' A g) → (∀ e g, E e g → E' e g) → d As gs R E → d As gs R' E'
/-- a def of the text, as its callers know it -/
structure Df (P : Program) (w : World) (K : Frag) (mg : Str → Option Value) (base : Heap) (T : Tb) (k : Nat) (x : Str) (ps : List Str) (d : DSp) : Prop where
  ex : ∃ (f : Addr) (fd : FuncData), FnOk P w K mg base (L2.CX P w) k f fd ps (toSp K T ps.length d) ∧ mg x = some (.ref f) ∧ PySem.W.keepIn K (.ref f) = true ∧ Binds K fd ps []
  mono : DMono d
theorem ev_call {x : Str} {p : Pos} {ps : List Str} {d : DSp} {j : Nat} (G : Df Y.X.prog Y.X.w Y.X.K Y.X.mg Y.X.base Y.T j x ps d) (ok : YOk Y) (hj : j ≤ Y.k) (hg : Gl Y.X x)
    (h : Evs Y s (e :: es) fun As s1 => As.length = ps.length ∧ ∃ gs1 gs2, s1.gs.Perm (gs1 ++ gs2) ∧ d As gs1 (fun A gs' => Q A ⟨s1.ρ, gs' ++ gs2⟩) (fun e gs' => Y.ex e ⟨s1.ρ, gs' ++ gs2⟩))
    (hdb : (x == ("__debug__" : Str)) = false := by decide) (he : starEach (e :: es) Y.X.env = (false, eval e Y.X.env) :: starEach es Y.X.env := by rfl) (hpl : (backTo pos (starEach es Y.X.env)).any (·.1) = false := by rfl) : Ev Y s (.Call (.Name x p) (e :: es) [] pos) Q := fun F0 σ H F e0 S => by
  obtain ⟨⟨f, fd, F1, hm, hk, hb⟩, mono⟩ := G
  refine .of (pe_callS (E := L2.WE (wxOf Y)) F1 (ok.room.mono hj) hg hm hk hb (fun σ => passAt ok.tk σ) pa_wa hdb he hpl) ?_
  refine (h F0 σ H F e0 S).mono fun vs H1 ⟨As, s1, F1, e1, r1, S1, hl, gs1, gs2, hp, q⟩ => ?_
  exact sp_call e1 S1 r1 hl hp q (mono As gs1)
theorem pe_call0S {x : Str} {p : Pos} {k : Nat} {f : Addr} {fd : FuncData} {ps : List Str} {sp : Sp} {E : St → XK} {X : Cx} (F : FnOk X.prog X.w X.K X.mg X.base (L2.CX X.prog X.w) k f fd ps sp) (hr : Room k X.A) (hg : Gl X x) (hm : X.mg x = some (.ref f)) (hk : PySem.W.keepIn X.K (.ref f) = true) (hb : Binds X.K fd ps [])
    (hx : ∀ σ, PassesAt (L2.CX X.prog X.w) X σ (E σ)) (hdb : (x == ("__debug__" : Str)) = false := by decide) : PE X (.Call (.Name x p) [] [] pos) (tCallS sp E tNil) := by
  refine ⟨fun pins s σ H Q I h => ?_⟩
  refine wpAny_Call_Name_kw (ld_glob I hg hm ?_ hdb)
  exact PySem.W.callWith_K0 I.kIn hk (run_fnS (us := []) (vs := []) F hr hb (hx σ) I .nil h)
theorem ev_call0 {x : Str} {p : Pos} {ps : List Str} {d : DSp} {j : Nat} (G : Df Y.X.prog Y.X.w Y.X.K Y.X.mg Y.X.base Y.T j x ps d) (ok : YOk Y) (hj : j ≤ Y.k) (hg : Gl Y.X x)
    (h : ps.length = 0 ∧ ∃ gs1 gs2, s.gs.Perm (gs1 ++ gs2) ∧ d [] gs1 (fun A gs' => Q A ⟨s.ρ, gs' ++ gs2⟩) (fun e gs' => Y.ex e ⟨s.ρ, gs' ++ gs2⟩))
    (hdb : (x == ("__debug__" : Str)) = false := by decide) : Ev Y s (.Call (.Name x p) [] [] pos) Q := fun F0 σ H F e0 S => by
  obtain ⟨⟨f, fd, F1, hm, hk, hb⟩, mono⟩ := G
  obtain ⟨hl, gs1, gs2, hp, q⟩ := h
  refine .of (pe_call0S (E := L2.WE (wxOf Y)) F1 (ok.room.mono hj) hg hm hk hb (fun σ => passAt ok.tk σ) hdb) ?_
  exact sp_call e0 S .nil hl.symm hp q (mono [] gs1)

/-! ### own errors -/
structure ErrC (K : Frag) (mg : Str → Option Value) (x : Str) (C : Addr) : Prop where
  g : mg x = some (.ref C)
  xi : PySem.W.excIn K C [.type "ValueError", .type "Exception", .type "BaseException", .type "object"] "ValueError.__new__" = true
  kp : PySem.W.keepIn K (.ref C) = true
  sb : PySem.W.subIn K (.ref C) (.type "BaseException") = some true
  ty : PySem.W.typeIn K (.ref C) = some (.type "type")
theorem w1_raise {x m : Str} {C : Addr} {j : Nat} {p p2 p3 : Pos} (ok : YOk Y) (T : ErrC Y.X.K Y.X.mg x C) (hg : Gl Y.X x) (h : Y.ex ⟨C, none⟩ s) (hdb : (x == ("__debug__" : Str)) = false := by decide) :
    W1 Y s (.Raise (some (.Call (.Name x p) [.Constant (.str m) j p2] [] p3)) none pos) D := fun F0 σ H F e0 S =>
  .of (ps_raise ok.calm ok.tk (pmk_own PySem.F.excBase_ValueError T.xi T.g T.kp (raises_own T.sb T.ty) hg hdb)) ⟨⟨C, none⟩, s, F, S, ⟨rfl, trivial⟩, h⟩

/-! ### a def's body -/
theorem Stg.drop {K : Frag} {T : Tb} {gs : Gs} {H F : Hp} (G : Stg K T gs H F) (n : Nat) : Stg K T (gs.drop n) H F :=
  ⟨G.ext, G.ntb, fun p hp => G.own p (List.mem_of_mem_drop hp), G.nd.sublist ((List.drop_sublist n gs).map _), G.tb⟩
theorem Step.sub {H0 F0 H F : Hp} {S0 S S' : List Addr} (t : Step H0 F0 S0 H F S) (h : ∀ a ∈ S', a ∈ S) : Step H0 F0 S0 H F S' :=
  ⟨t.ff, t.fr, fun a q => t.nw a (q.imp id (h a))⟩
theorem ads_drop {gs : Gs} (n : Nat) : ∀ a ∈ ads (gs.drop n), a ∈ ads gs := fun a h => by
  obtain ⟨p, hp, e⟩ := List.mem_map.mp h
  exact List.mem_map.mpr ⟨p, List.mem_of_mem_drop hp, e⟩
/-- the body's context -/
abbrev bodyY (P : Program) (w : World) (K : Frag) (mg : Str → Option Value) (base : Heap) (T : Tb) (k : Nat) (N : List Str) (qual : Str) (scope : Scope) (f : Addr) (cdv : Value) (A : Around) (outer : List Env) (s : Shared) (H F : Hp) (gs : Gs) (E : XK) (ex : Exc → DSt → Prop) : DX :=
  ⟨cxOf (L2.CX P w) P w K mg base N qual scope f cdv A outer s H E, T, k, H, F, ads gs, ex⟩
theorem reps_start {K : Frag} {F : Hp} {vs : List V} {As : List Pv} (h : Rvs K F vs As) (n : Nat) : RepS K F (vs.map some ++ List.replicate n none) (As.map some ++ List.replicate n none) := by
  induction h with
  | nil =>
    induction n with
    | zero => exact .nil
    | succ n ih => exact .un ih
  | cons r _ ih => exact .ha r ih
theorem df_mk {P : Program} {w : World} {K : Frag} {mg : Str → Option Value} {base : Heap} {T : Tb} {k : Nat} {x qual : Str} {st : Stmt} {f : Addr} {fd : FuncData} {N ps : List Str} (F1 : Fun K x qual st f fd) (S : FnScope N ps (defScope st)) (d : DSp) (hl : ∀ As gs R E, d As gs R E → As.length = ps.length)
    (body : ∀ (cdv : Value) (A : Around) (outer : List Env) (s : Shared) (H F : Hp) (gs : Gs) (E : XK) (ex : Exc → DSt → Prop) (As : List Pv) (R : Pv → Gs → Prop) (X : Exc → Gs → Prop), d As gs R X → (∀ e s', (∃ n, X e (s'.gs.drop n)) → ex e s') →
      YOk (bodyY P w K mg base T k N qual (defScope st) f cdv A outer s H F gs E ex) →
      Ws (bodyY P w K mg base T k N qual (defScope st) f cdv A outer s H F gs E ex) ⟨As.map some ++ List.replicate (N.length - ps.length) none, gs⟩ (defBody st) { nx := fun s' => ∃ n, R (pu ()) (s'.gs.drop n), rt := fun A s' => ∃ n, R A (s'.gs.drop n) }) :
    FnOk P w K mg base (L2.CX P w) (k + 1) f fd ps (toSp K T ps.length d) := by
  refine F1.okX S (fun vs H Q E h => h.1) (fun cdv A outer s H vs Q E hr h => ?_)
  obtain ⟨hn, As, gs, F, r, G, hd⟩ := h
  have hAl := hl _ _ _ _ hd
  let Y : DX := bodyY P w K mg base T k N qual (defScope st) f cdv A outer s H F gs E (fun e s' => ∀ cls dd H' F', ExcRep e cls dd H' → Stg K T s'.gs H' F' → Step H F (ads gs) H' F' (ads s'.gs) → E cls dd H')
  have tk0 : Takes Y.X (fun cls d _ H => E cls d H) := takes_of rfl rfl rfl rfl
  have ok : YOk Y := ⟨rfl, S.nd, hr, passes_of rfl, tk0.imp fun c d' σ H' ⟨e, s', F', St, er, q⟩ => q c d' H' F' er St.stg St.st⟩
  have b := body cdv A outer s H F gs E _ As _ _ hd (fun e s' ⟨n, q⟩ cls dd H' F' r G' t' => q cls dd H' F' r (G'.drop n) (t'.sub (ads_drop n))) ok
  refine ⟨_, pss_ws, ?_⟩
  have S0 : Sta Y ⟨As.map some ++ List.replicate (N.length - ps.length) none, gs⟩ (L2.start N vs) H F := by
    refine ⟨G.ext, G.ntb, ?_, G.own, G.nd, G.tb, Step.refl⟩
    unfold L2.start
    rw [hn]
    exact reps_start r _
  refine (b F (L2.start N vs) H F (.refl _) S0).mono (fun σ' H' ⟨s', F', e1, S', q⟩ => ?_) (fun v H' ⟨A', s', σ', F', e1, r', S', q⟩ => ?_) (fun σ' H' ⟨s', F', e1, S', q⟩ => q.elim) (fun σ' H' ⟨s', F', e1, S', q⟩ => q.elim)
  · obtain ⟨n, q⟩ := q
    exact q .non H' F' rfl (S'.stg.drop n) (S'.st.sub (ads_drop n))
  · obtain ⟨n, q⟩ := q
    exact q v H' F' r' (S'.stg.drop n) (S'.st.sub (ads_drop n))
end
end Sp
set_option maxHeartbeats 4000000
/-! Sp: list comprehensions by data. -/
namespace Sp
open PySem L2
/-- where a comprehension's block may stand -/
structure BCx where
  s : Shared
  H : Hp
  C : Addr
  cl : List (Str × Addr)
  fp : List Addr
abbrev blkX (X : Cx) (scope : Scope) (z : BCx) : Cx := X.blk z.s z.H scope (compEnvC scope z.cl z.C X.env) z.fp
abbrev blkY (Y : DX) (scope : Scope) (z : BCx) : DX := ⟨blkX Y.X scope z, Y.T, Y.k, Y.H0, Y.F0, Y.S0, fun _ _ => False⟩
theorem Sta.blk {Y : DX} {scope : Scope} {z : BCx} {s : DSt} {σ : St} {H F : Hp} (S : Sta Y s σ H F) : Sta (blkY Y scope z) s σ H F := ⟨S.ext, S.ntb, S.rep, S.own, S.nd, S.tb, S.st⟩
theorem Sta.unblk {Y : DX} {scope : Scope} {z : BCx} {s : DSt} {σ : St} {H F : Hp} (S : Sta (blkY Y scope z) s σ H F) : Sta Y s σ H F := ⟨S.ext, S.ntb, S.rep, S.own, S.nd, S.tb, S.st⟩
theorem YOk.blk {Y : DX} {scope : Scope} {z : BCx} (ok : YOk Y) : YOk (blkY Y scope z) :=
  ⟨ok.calm, ok.nd, ok.room, PassesOwn.never, fun _ _ ⟨_, _, _, _, _, _, _, _, _, _, _, _, _, _, _, _, _, _, _, _, _, q⟩ => q.elim⟩
def wipeR (ρ : Rho) : List Nat → Rho
  | [] => ρ
  | v :: vs => (wipeR ρ vs).set v none
theorem RepS.wipe {K : Frag} {F : Hp} {σ : St} {ρ : Rho} (h : RepS K F σ ρ) : ∀ vs : List Nat, RepS K F (wipe σ vs) (wipeR ρ vs)
  | [] => h
  | v :: vs => (RepS.wipe h vs).forget v
theorem Sta.wipe {Y : DX} {s : DSt} {σ : St} {H F : Hp} (S : Sta Y s σ H F) (vs : List Nat) : Sta Y ⟨wipeR s.ρ vs, s.gs⟩ (L2.wipe σ vs) H F := ⟨S.ext, S.ntb, S.rep.wipe vs, S.own, S.nd, S.tb, S.st⟩
/-- names apart from the owned cells -/
theorem Sta.names {Y : DX} {s s' : DSt} {σ σ' : St} {H F F0 H' : Hp} (S : Sta Y s σ H F0) (S' : Sta Y s' σ' H' F) (e : Ext F0 F) : Sta Y ⟨s.ρ, s'.gs⟩ σ H' F := ⟨S'.ext, S'.ntb, S.rep.mono e, S'.own, S'.nd, S'.tb, S'.st⟩
theorem wipe_at {σ : St} {j : Nat} : ∀ {vs : List Nat}, (L2.wipe σ vs)[j]? = if j ∈ vs ∧ j < σ.length then some none else σ[j]?
  | [] => by simp [L2.wipe]
  | v :: vs => by
    unfold L2.wipe
    by_cases h : v = j
    · subst h
      by_cases hl : v < σ.length
      · rw [List.getElem?_set_self (by rw [wipe_length]; exact hl), if_pos ⟨List.mem_cons_self, hl⟩]
      · rw [if_neg (fun q => hl q.2), List.getElem?_eq_none (by rw [List.length_set, wipe_length]; omega), List.getElem?_eq_none (by omega)]
    · rw [List.getElem?_set_ne h, wipe_at]
      have : (j ∈ v :: vs) ↔ j ∈ vs := by
        rw [List.mem_cons]
        exact ⟨fun q => q.resolve_left fun e => h e.symm, .inr⟩
      simp only [this]
theorem wipe_only {σ σ2 : St} {ws vs : List Nat} (o : Only ws (L2.wipe σ vs) σ2) (hw : ∀ j ∈ ws, j ∈ vs) : L2.wipe σ2 vs = L2.wipe σ vs := by
  have hl : σ2.length = σ.length := by rw [o.1, wipe_length]
  apply List.ext_getElem?
  intro j
  rw [wipe_at, wipe_at, hl]
  by_cases h : j ∈ vs ∧ j < σ.length
  · rw [if_pos h, if_pos h]
  · rw [if_neg h, if_neg h]
    by_cases hj : j ∈ vs
    · have : ¬ j < σ.length := fun q => h ⟨hj, q⟩
      rw [List.getElem?_eq_none (by omega), List.getElem?_eq_none (by omega)]
    · rw [o.2 j (fun q => hj (hw j q)), wipe_at, if_neg h]
structure WTs (X : Cx) (ifs : List Expr) (σ : St) (H : Hp) (Q : Bool → Hp → Prop) : Prop where
  run : ∀ (pins : List (Addr × Obj)) (s : Shared), Inv X pins σ H s →
  wpAny (model X.prog X.w) X.A (forIn ifs true fun c r => if r = true then do let ok ← isTrue c X.env (eval c X.env); pure (ForInStep.yield ok) else pure (ForInStep.yield r)) (TP X pins σ Q) X.xe s
theorem WTs.of {X : Cx} {ifs : List Expr} {t : TT} {σ : St} {H : Hp} {Q : Bool → Hp → Prop} (p : PTs X ifs t) (h : t σ H Q) : WTs X ifs σ H Q := ⟨fun pins s I => p.run pins s σ H Q I h⟩
theorem WTs.mono {X : Cx} {ifs : List Expr} {σ : St} {H : Hp} {Q Q' : Bool → Hp → Prop} (h : WTs X ifs σ H Q) (k : ∀ b H', Q b H' → Q' b H') : WTs X ifs σ H Q' :=
  ⟨fun pins s I => thn (h.run pins s I) fun b _ ⟨H', J, q⟩ => ⟨H', J, k b H' q⟩⟩
/-- tests of a clause -/
def Ets (Y : DX) (s : DSt) (ifs : List Expr) (Q : Bool → DSt → Prop) : Prop := ∀ F0 σ H F, Ext F0 F → Sta Y s σ H F → WTs Y.X ifs σ H (Pt Y σ F0 Q)
theorem ets_nil {Y : DX} {s : DSt} {Q : Bool → DSt → Prop} (h : Q true s) : Ets Y s [] Q := fun F0 σ H F e0 S => .of pts_nil ⟨s, F, e0, S, h⟩
theorem ets_one {Y : DX} {s : DSt} {c : Expr} {Q : Bool → DSt → Prop} (h : Et Y s c Q) : Ets Y s [c] Q := fun F0 σ H F e0 S => .of (pts_one pt_wt) (h F0 σ H F e0 S)

section
variable {Y : DX} {s : DSt} {elt tg iter : Expr} {ifs : List Expr} {scope : Scope} {own : List (Str × Nat)} {pos : Pos} {Q : Pv → DSt → Prop}
variable {α β : Type} [Enc α] [Enc β]
/-- what the turns of a comprehension are: Iv i ys gs: ahead of turn i the list is ys, the cells are gs -/
structure LcTurns (Y : DX) (s : DSt) (scope : Scope) (vs : List Nat) (tg elt : Expr) (ifs : List Expr) (g : TG) (ws : List Nat) (f : β → Rho → Rho) (items : List β) (Iv : Nat → List α → Gs → Prop) : Prop where
  tg : ∀ z, TgOk (blkY Y scope z) tg g ws f
  sub : ∀ j ∈ ws, j ∈ vs
  small : ∀ i ys gs, Iv i ys gs → i < items.length → ys.length < sizeLine
  step : ∀ z i x ys gs D, items[i]? = some x → Iv i ys gs → Ets (blkY Y scope z) ⟨f x (wipeR s.ρ vs), (D, lstc ys) :: gs⟩ ifs fun b s2 =>
    if b = true then ∀ z', Ev (blkY Y scope z') s2 elt fun A s3 => ∃ y gs3, A = pu y ∧ s3.gs = (D, lstc ys) :: gs3 ∧ Iv (i + 1) (ys ++ [y]) gs3 else ∃ gs2, s2.gs = (D, lstc ys) :: gs2 ∧ Iv (i + 1) ys gs2
theorem tlc_ok {g : TG} {ws : List Nat} {f : β → Rho → Rho} {items : List β} {Iv : Nat → List α → Gs → Prop} {wi : TI} {F0 : Hp} {σ : St} {H : Hp} {Qf : VK}
    (hw : ∀ (R : It → Hp → Prop), (∀ J H' F', Ext F0 F' → Sta Y s σ H' F' → ItOk Y.X.K J F' items → R J H') → wi σ H R) (L : LcTurns Y s scope (own.map (·.2)) tg elt ifs g ws f items Iv) (h0 : Iv 0 [] s.gs)
    (hQ : ∀ D H' F' ys gs, Ext F0 F' → Sta Y ⟨s.ρ, (D, lstc ys) :: gs⟩ σ H' F' → Iv items.length ys gs → Qf (.ref D) H') :
    tLc wi g (fun σ H Q => ∀ z, WTs (blkX Y.X scope z) ifs σ H Q) (fun σ H Q => ∀ z, WE (blkX Y.X scope z) elt σ H Q) (own.map (·.2)) σ H Qf := by
  refine hw _ fun J H1 F1 e1 S1 K1 => ?_
  intro D hD
  have S1' := S1.newO (o := .lst []) (c := lstc ([] : List α)) hD rfl ⟨[], rfl, .nil⟩
  refine ⟨fun i m H => m = items.length - i ∧ i ≤ items.length ∧ ∃ ys gs F2, Ext F1 F2 ∧ Sta Y ⟨s.ρ, (D, lstc ys) :: gs⟩ σ H F2 ∧ Iv i ys gs, ⟨items.length, rfl, Nat.zero_le _, [], s.gs, F1, .refl _, S1', h0⟩, ?_⟩
  rintro i m H2 ⟨rfl, hi, ys, gs, F2, e2, S2, iv⟩
  by_cases hlt : i < items.length
  · have hx : items[i]? = some items[i] := List.getElem?_eq_getElem hlt
    refine .inr ⟨((K1 i H2 F2 e2 S2.ext).1 _ hx).1, fun H' => ∃ ys' gs' F3, Ext F1 F3 ∧ Sta Y ⟨s.ρ, (D, lstc ys') :: gs'⟩ σ H' F3 ∧ Iv (i + 1) ys' gs', fun H' ⟨ys', gs', F3, e3, S3, iv3⟩ => ⟨items.length - (i + 1), by omega, rfl, hlt, ys', gs', F3, e3, S3, iv3⟩, fun v H3 y => ?_⟩
    obtain ⟨F3, e3, S3, r3⟩ := K1.yld e2 S2 hx y
    have e13 := e2.trans e3
    let z0 : BCx := ⟨Y.X.s_0, H, 0, [], []⟩
    refine (L.tg z0).2 (L2.wipe σ (own.map (·.2))) H3 F3 v _ ⟨wipeR s.ρ (own.map (·.2)), (D, lstc ys) :: gs⟩ _ (S3.wipe _).blk r3 fun σ4 S4 o4 => ?_
    refine ⟨wipe_only o4 L.sub, ?_⟩
    have S4' := S4.unblk
    intro z
    have st := L.step z i _ ys gs D hx iv F3 σ4 H3 F3 (.refl _) S4'.blk
    refine st.mono fun b H4 ⟨s5, F5, e5, S5, q⟩ => ?_
    cases b with
    | false =>
      obtain ⟨gs2, eg, iv5⟩ := q
      refine ⟨ys, gs2, F5, e13.trans e5, ?_, iv5⟩
      have := S3.names S5.unblk e5
      rw [eg] at this
      exact this
    | true =>
      intro z'
      refine (q z' F5 σ4 H4 F5 (.refl _) S5.unblk.blk).mono fun w H6 ⟨A, s6, F6, e6, r6, S6, y, gs3, ea, eg, iv6⟩ => ?_
      subst ea
      have S7 := S3.names S6.unblk (e5.trans e6)
      rw [eg] at S7
      obtain ⟨hF, o, ho, hot, vs, ev, rv⟩ := S7.cell (i := 0) (p := D) (c := lstc ys) rfl
      subst ev
      refine ⟨vs, ho, by rw [rv.length]; exact L.small i ys gs iv hlt, ys ++ [y], gs3, F6, (e13.trans e5).trans e6, ?_, iv6⟩
      exact S7.write (i := 0) (c' := lstc (ys ++ [y])) (o' := .lst (vs ++ [w])) rfl ho (fun c q => by intro z; cases z) rfl ⟨_, rfl, rv.snoc r6⟩
  · have e : i = items.length := by omega
    subst e
    exact .inl ⟨(K1 _ H2 F2 e2 S2.ext).2 (Nat.le_refl _), hQ D H2 F2 ys gs (e1.trans e2) S2 iv⟩
theorem pts_wts {X : Cx} : PTs X ifs (WTs X ifs) := ⟨fun pins s _ _ _ I h => h.run pins s I⟩
/-- a comprehension: the list frozen -/
theorem ev_lc {g : TG} {ws : List Nat} {f : β → Rho → Rho} {items : List β} (ok : YOk Y) (hi : EvIt Y s tg iter items) (bk : BlkOk Y.X.N Y.X.env.scope scope own) (Iv : Nat → List α → Gs → Prop) (L : LcTurns Y s scope (own.map (·.2)) tg elt ifs g ws f items Iv) (h0 : Iv 0 [] s.gs)
    (hQ : ∀ ys gs, Iv items.length ys gs → Q (pu ys) ⟨s.ρ, gs⟩) (hs : ∀ x, foldedSetIterable iter Y.X.env x = pure x := by intro _; rfl) : Ev Y s (.ListComp elt [⟨tg, iter, ifs, 0⟩] scope pos) Q := fun F0 σ H F e0 S => by
  obtain ⟨wi, hp, hw⟩ := hi
  have P := pe_lc (pos := pos) (tt := fun σ H Q => ∀ z, WTs (blkX Y.X scope z) ifs σ H Q) (te := fun σ H Q => ∀ z, WE (blkX Y.X scope z) elt σ H Q) ok.calm ok.nd hp bk (fun s H C cl fp => (L.tg ⟨s, H, C, cl, fp⟩).1) (fun s H C cl fp => ⟨fun pins s' σ H' Q I h => (h ⟨s, H, C, cl, fp⟩).run pins s' I⟩) (fun s H C cl fp => ⟨fun pins s' σ H' Q I h => (h ⟨s, H, C, cl, fp⟩).run pins s' I⟩) hs
  refine .of P (tlc_ok (fun R k => hw F0 σ H F R e0 S k) L h0 fun D H' F' ys gs e1 S1 iv => ?_)
  obtain ⟨hF, o, ho, hot, vs, ev, rv⟩ := S1.cell (i := 0) (p := D) (c := lstc ys) rfl
  subst ev
  have S2 := S1.freeze (i := 0) (p := D) (c := lstc ys) rfl ho
  exact ⟨pu ys, ⟨s.ρ, gs⟩, upd F' D (.lst vs), e1.trans (Ext.grow hF), ⟨D, vs, rfl, .of upd_same, rv.mono (Ext.grow hF)⟩, S2, hQ ys gs iv⟩
/-- .. the list owned -/
theorem ev_lcO {g : TG} {ws : List Nat} {f : β → Rho → Rho} {items : List β} (ok : YOk Y) (hi : EvIt Y s tg iter items) (bk : BlkOk Y.X.N Y.X.env.scope scope own) (Iv : Nat → List α → Gs → Prop) (L : LcTurns Y s scope (own.map (·.2)) tg elt ifs g ws f items Iv) (h0 : Iv 0 [] s.gs)
    (hQ : ∀ D ys gs, Iv items.length ys gs → Q (raw (.ref D)) ⟨s.ρ, (D, lstc ys) :: gs⟩) (hs : ∀ x, foldedSetIterable iter Y.X.env x = pure x := by intro _; rfl) : Ev Y s (.ListComp elt [⟨tg, iter, ifs, 0⟩] scope pos) Q := fun F0 σ H F e0 S => by
  obtain ⟨wi, hp, hw⟩ := hi
  have P := pe_lc (pos := pos) (tt := fun σ H Q => ∀ z, WTs (blkX Y.X scope z) ifs σ H Q) (te := fun σ H Q => ∀ z, WE (blkX Y.X scope z) elt σ H Q) ok.calm ok.nd hp bk (fun s H C cl fp => (L.tg ⟨s, H, C, cl, fp⟩).1) (fun s H C cl fp => ⟨fun pins s' σ H' Q I h => (h ⟨s, H, C, cl, fp⟩).run pins s' I⟩) (fun s H C cl fp => ⟨fun pins s' σ H' Q I h => (h ⟨s, H, C, cl, fp⟩).run pins s' I⟩) hs
  exact .of P (tlc_ok (fun R k => hw F0 σ H F R e0 S k) L h0 fun D H' F' ys gs e1 S1 iv => ⟨raw (.ref D), _, F', e1, rfl, S1, hQ D ys gs iv⟩)
/-- x = a comprehension, on one line -/
theorem w1_setLc {D : DE} {y : Str} {py spos : Pos} {i : Nat} {g : TG} {ws : List Nat} {f : β → Rho → Rho} {items : List β} (ok : YOk Y) (hy : Y.X.N[i]? = some y) (hyl : Y.X.env.scope.names.lookup y = some .local)
    (hsw : swapsWith (.ListComp elt [⟨tg, iter, ifs, 0⟩] scope pos) (some (.Name y py)) spos.line Y.X.env = pure true) (hi : EvIt Y s tg iter items) (bk : BlkOk Y.X.N Y.X.env.scope scope own) (Iv : Nat → List α → Gs → Prop) (L : LcTurns Y s scope (own.map (·.2)) tg elt ifs g ws f items Iv) (h0 : Iv 0 [] s.gs)
    (hQ : ∀ ys gs, Iv items.length ys gs → D.nx ⟨s.ρ.set i (some (pu ys)), gs⟩) (hs : ∀ x, foldedSetIterable iter Y.X.env x = pure x := by intro _; rfl) : W1 Y s (.Assign [.Name y py] (.ListComp elt [⟨tg, iter, ifs, 0⟩] scope pos) spos) D := fun F0 σ H F e0 S => by
  obtain ⟨wi, hp, hw⟩ := hi
  have P := ps_setLc (tt := fun σ H Q => ∀ z, WTs (blkX Y.X scope z) ifs σ H Q) (te := fun σ H Q => ∀ z, WE (blkX Y.X scope z) elt σ H Q) ok.calm ok.nd hy hyl hsw hp bk (fun s H C cl fp => (L.tg ⟨s, H, C, cl, fp⟩).1) (fun s H C cl fp => ⟨fun pins s' σ H' Q I h => (h ⟨s, H, C, cl, fp⟩).run pins s' I⟩) (fun s H C cl fp => ⟨fun pins s' σ H' Q I h => (h ⟨s, H, C, cl, fp⟩).run pins s' I⟩) hs
  refine WP.of P ?_
  show tLc wi g _ _ _ σ H (fun x H1 => gName i x σ H1 (D.to Y F0).nx)
  refine tlc_ok (fun R k => hw F0 σ H F R e0 S k) L h0 fun D H' F' ys gs e1 S1 iv => ?_
  obtain ⟨hF, o, ho, hot, vs, ev, rv⟩ := S1.cell (i := 0) (p := D) (c := lstc ys) rfl
  subst ev
  have S2 := S1.freeze (i := 0) (p := D) (c := lstc ys) rfl ho
  exact ⟨_, upd F' D (.lst vs), e1.trans (Ext.grow hF), S2.set (A := pu ys) ⟨D, vs, rfl, .of upd_same, rv.mono (Ext.grow hF)⟩ i, hQ ys gs iv⟩
/-- quiet turns: each item gives h x, those with c x alone -/
theorem lc_quiet {vs : List Nat} {g : TG} {ws : List Nat} {f : β → Rho → Rho} {items : List β} (c : β → Bool) (h : β → α) (tg0 : ∀ z, TgOk (blkY Y scope z) tg g ws f) (sub : ∀ j ∈ ws, j ∈ vs) (small : items.length ≤ sizeLine)
    (ht : ∀ z x D ys, x ∈ items → Ets (blkY Y scope z) ⟨f x (wipeR s.ρ vs), (D, lstc (α := α) ys) :: s.gs⟩ ifs fun b s2 => b = c x ∧ s2 = ⟨f x (wipeR s.ρ vs), (D, lstc ys) :: s.gs⟩)
    (he : ∀ z x D ys, x ∈ items → c x = true → EvP (blkY Y scope z) ⟨f x (wipeR s.ρ vs), (D, lstc (α := α) ys) :: s.gs⟩ elt (pu (h x))) :
    LcTurns Y s scope vs tg elt ifs g ws f items (fun i ys gs => ys = ((items.take i).filter c).map h ∧ gs = s.gs) where
  tg := tg0
  sub := sub
  small := fun i ys gs ⟨e, _⟩ hi => by
    subst e
    rw [List.length_map]
    have h1 := List.length_filter_le c (items.take i)
    rw [List.length_take] at h1
    omega
  step := fun z i x ys gs D hx ⟨e1, e2⟩ => by
    subst e2
    have hm := List.mem_of_getElem? hx
    have et : (items.take (i + 1)) = items.take i ++ [x] := by rw [List.take_add_one, hx, Option.toList_some]
    intro F0 σ H F e0 S
    refine (ht z x D ys hm F0 σ H F e0 S).mono fun b H' ⟨s2, F2, e3, S2, q1, q2⟩ => ⟨s2, F2, e3, S2, ?_⟩
    subst q1 q2
    cases hc : c x with
    | false => exact ⟨s.gs, rfl, by rw [e1, et, List.filter_append, List.filter_cons_of_neg (by simp [hc]), List.filter_nil, List.append_nil], rfl⟩
    | true => exact fun z' => .of (he z' x D ys hm hc) ⟨h x, s.gs, rfl, rfl, by rw [e1, et, List.filter_append, List.filter_cons_of_pos hc, List.filter_nil, List.map_append]; rfl, rfl⟩
end
end Sp
set_option maxHeartbeats 4000000
/-! Sp: readers; comparisons, truth, choices; lists, tuples, texts; calls of built-ins. -/
namespace Sp
open PySem L2
open PySem.W (Datum DatumOrd SomeDatum)
section
variable {Y : DX} {s : DSt} {e a b c d : Expr} {es : List Expr} {pos : Pos} {Q : Pv → DSt → Prop}
/-! ### readers -/
/-- A stands for x just now -/
def DA (Y : DX) (s : DSt) {α : Type} [Enc α] (A : Pv) (x : α) : Prop := ∀ σ H F v, Sta Y s σ H F → A.rep Y.X.K F v → Enc.rep Y.X.K H v x
theorem DA.pu {α : Type} [Enc α] {x : α} : DA Y s (pu x) x := fun σ H F v S r => Enc.mono (α := α) r S.ext
theorem DA.own {α : Type} [Enc α] {xs : List α} {p : Addr} (i : Nat) (h : s.gs[i]? = some (p, lstc xs)) : DA Y s (raw (.ref p)) xs := fun σ H F v S r => by
  obtain ⟨_, o, ho, _, vs, eo, rv⟩ := S.cell h
  subst eo
  exact ⟨p, vs, r, .of ho, rv.mono S.ext⟩
/-- A reads as a dict just now -/
def DD (Y : DX) (s : DSt) {κ ν : Type} [Kk κ] [Enc ν] (A : Pv) (d : List (κ × ν)) : Prop := ∀ σ H F v, Sta Y s σ H F → A.rep Y.X.K F v → ∃ p kvs, v = .ref p ∧ Rd H p (.dK kvs) ∧ KVs Y.X.K H kvs d
theorem DD.pu {κ ν : Type} [Kk κ] [Enc ν] {d : Dct κ ν} : DD Y s (pu d) d.kvs := fun σ H F v S ⟨p, od, kvs, e, hp, r⟩ => ⟨p, kvs, e, .inr ⟨od, S.ext _ _ hp⟩, r.mono S.ext⟩
theorem DD.own {κ ν : Type} [Kk κ] [Enc ν] {d : List (κ × ν)} {p : Addr} (i : Nat) (h : s.gs[i]? = some (p, dctc d)) : DD Y s (raw (.ref p)) d := fun σ H F v S r => by
  obtain ⟨_, o, ho, _, vs, eo, rv⟩ := S.cell h
  subst eo
  exact ⟨p, vs, r, .inl ho, rv.mono S.ext⟩

/-! ### comparisons -/
structure WC (X : Cx) (op : CmpOp) (a b : Expr) (σ : St) (H : Hp) (Q : VK) : Prop where
  run : ∀ (pins : List (Addr × Obj)) (s : Shared), Inv X pins σ H s →
  wpAny (model X.prog X.w) X.A (eval a X.env) (fun v s₁ => wpAny (model X.prog X.w) X.A (eval b X.env) (fun u s₂ => wpAny (model X.prog X.w) X.A (compareOp op v u) (EP X pins σ Q) X.xe s₂) X.xe s₁) X.xe s
theorem pc_wc {X : Cx} {op : CmpOp} : PC X op a b (WC X op a b) := ⟨fun pins s _ _ _ I h => h.run pins s I⟩
theorem WC.of {X : Cx} {op : CmpOp} {t : TE} {σ : St} {H : Hp} {Q : VK} (p : PC X op a b t) (h : t σ H Q) : WC X op a b σ H Q := ⟨fun pins s I => p.run pins s σ H Q I h⟩
theorem pc_opr {X : Cx} {op : CmpOp} {r : R2} {ta tb : TE} (ho : OpR X (compareOp op) r) (ha : PE X a ta) (hb : PE X b tb) : PC X op a b (tOp r ta tb) := by
  refine ⟨fun pins s σ H Q I h => ?_⟩
  exact thn (ha.run pins s σ H _ I h) fun v s1 ⟨x, H1, I1, r1, q1⟩ => thn (hb.run pins s1 σ H1 _ I1 q1) fun u s2 ⟨y, H2, I2, r2, q2⟩ => ho pins s2 σ H2 x y v u Q I2 r1 r2 q2
def Cmp (Y : DX) (s : DSt) (op : CmpOp) (a b : Expr) (Q : Bool → DSt → Prop) : Prop :=
  ∀ F0 σ H F, Ext F0 F → Sta Y s σ H F → WC Y.X op a b σ H fun v H' => ∃ c s' F', v = .bl c ∧ Ext F0 F' ∧ Sta Y s' σ H' F' ∧ Q c s'
abbrev CmpP (Y : DX) (s : DSt) (op : CmpOp) (a b : Expr) (c : Bool) : Prop := Cmp Y s op a b fun c' s' => c' = c ∧ s' = s
/-- a rule of an operator, by data -/
theorem cmp_of {op : CmpOp} {r : R2} {Q : Bool → DSt → Prop} (ho : OpR Y.X (compareOp op) r)
    (h : Ev Y s a fun A s1 => Ev Y s1 b fun B s2 => ∃ c : Bool, Q c s2 ∧ ∀ σ H F v u (Q' : VK), Sta Y s2 σ H F → A.rep Y.X.K F v → B.rep Y.X.K F u → Q' (.bl c) H → r v u H Q') : Cmp Y s op a b Q := fun F0 σ H F e0 S => by
  refine .of (pc_opr ho pe_we pe_we) ?_
  refine (h F σ H F (.refl _) S).mono fun v H1 ⟨A, s1, F1, e1, r1, S1, q1⟩ => ?_
  refine (q1 F1 σ H1 F1 (.refl _) S1).mono fun u H2 ⟨B, s2, F2, e2, r2, S2, c, qc, q2⟩ => ?_
  exact q2 σ H2 F2 v u _ S2 (A.mono r1 e2) r2 ⟨c, s2, F2, rfl, (e0.trans e1).trans e2, S2, qc⟩
theorem cmpp_of {op : CmpOp} {r : R2} {A B : Pv} {c : Bool} (ho : OpR Y.X (compareOp op) r) (ha : EvP Y s a A) (hb : EvP Y s b B)
    (h : ∀ σ H F v u (Q' : VK), Sta Y s σ H F → A.rep Y.X.K F v → B.rep Y.X.K F u → Q' (.bl c) H → r v u H Q') : CmpP Y s op a b c :=
  cmp_of ho (.of ha (.of hb ⟨c, ⟨rfl, rfl⟩, h⟩))
theorem ev_cmp {op : CmpOp} (h : Cmp Y s op a b fun c s' => Q (pu c) s') (h1 : behindInMarks op b = false := by first | exact nobehind _ (by decide) (by decide) | rfl) : Ev Y s (.Compare a [op] [b] pos) Q := fun F0 σ H F e0 S => by
  refine .of (pe_cmp pc_wc h1) ?_
  refine WC.mk fun pins s1 I => ?_
  refine thn ((h F0 σ H F e0 S).run pins s1 I) fun v s2 k => thn k fun u s3 k2 => thn k2 fun w s4 ⟨x, H', J, r, c, s', F', ex, e1, S', q⟩ => ?_
  subst ex
  exact ⟨_, H', J, r, pu c, s', F', e1, rfl, S', q⟩
theorem et_cmp {op : CmpOp} {Q : Bool → DSt → Prop} (h : Cmp Y s op a b Q) (h1 : behindInMarks op b = false := by first | exact nobehind _ (by decide) (by decide) | rfl) : Et Y s (.Compare a [op] [b] pos) Q := fun F0 σ H F e0 S => by
  refine .of (pt_cmp pc_wc h1) ?_
  refine WC.mk fun pins s1 I => ?_
  refine thn ((h F0 σ H F e0 S).run pins s1 I) fun v s2 k => thn k fun u s3 k2 => thn k2 fun w s4 ⟨x, H', J, r, c, s', F', ex, e1, S', q⟩ => ?_
  exact ⟨x, H', J, r, c, ex, s', F', e1, S', q⟩
theorem evp_cmp {op : CmpOp} {x : Bool} (h : CmpP Y s op a b x) (h1 : behindInMarks op b = false := by first | exact nobehind _ (by decide) (by decide) | rfl) : EvP Y s (.Compare a [op] [b] pos) (pu x) :=
  .of (ev_cmp (fun F0 σ H F e0 S => by
    refine WC.mk fun pins s1 I => ?_
    exact thn ((h F0 σ H F e0 S).run pins s1 I) fun v s2 k => thn k fun u s3 k2 => thn k2 fun w s4 ⟨x, H', J, r, c, s', F', ex, e1, S', q1, q2⟩ => by
      subst q1 q2
      exact ⟨x, H', J, r, _, _, F', ex, e1, S', rfl, rfl⟩) h1)
theorem etp_cmp {op : CmpOp} {x : Bool} (h : CmpP Y s op a b x) (h1 : behindInMarks op b = false := by first | exact nobehind _ (by decide) (by decide) | rfl) : EtP Y s (.Compare a [op] [b] pos) x := .of (et_cmp h h1)
theorem Cmp.mono {op : CmpOp} {Q Q' : Bool → DSt → Prop} (h : Cmp Y s op a b Q) (k : ∀ c s', Q c s' → Q' c s') : Cmp Y s op a b Q' := fun F0 σ H F e0 S => ⟨fun pins s1 I =>
  thn ((h F0 σ H F e0 S).run pins s1 I) fun v s2 z => thn z fun u s3 z2 => thn z2 fun w s4 ⟨x, H', J, r, c, s', F', ex, e1, S', q⟩ => ⟨x, H', J, r, c, s', F', ex, e1, S', k _ _ q⟩⟩
theorem cmp_pure {op : CmpOp} {x : Bool} {Q : Bool → DSt → Prop} (h : CmpP Y s op a b x) (q : Q x s) : Cmp Y s op a b Q := h.mono fun c s' ⟨e1, e2⟩ => by subst e1 e2; exact q
section
variable {α β : Type} [DecidableEq α] [Enc α] {A B : Pv} {x y : α}
section
variable [Datum α] [Dat α]
theorem cmp_eq (ok : YOk Y) (ha : EvP Y s a A) (hA : DA Y s A x) (hb : EvP Y s b B) (hB : DA Y s B y) (hd : Datum.depth α ≤ 60 := by decide) : CmpP Y s .Eq a b (decide (x = y)) :=
  cmpp_of (op_eqT (α := α) ok.room.units hd) ha hb fun σ H F v u Q S r1 r2 q => ⟨x, y, hA σ H F v S r1, hB σ H F u S r2, q⟩
theorem cmp_ne (ok : YOk Y) (ha : EvP Y s a A) (hA : DA Y s A x) (hb : EvP Y s b B) (hB : DA Y s B y) (hd : Datum.depth α ≤ 60 := by decide) : CmpP Y s .NotEq a b (decide (x ≠ y)) :=
  cmpp_of (op_neT (α := α) ok.room.units hd) ha hb fun σ H F v u Q S r1 r2 q => ⟨x, y, hA σ H F v S r1, hB σ H F u S r2, q⟩
/-- effects on the way -/
theorem cmp_eqE (α : Type) [DecidableEq α] [Enc α] [Datum α] [Dat α] {Q : Bool → DSt → Prop} (ok : YOk Y) (h : Ev Y s a fun A s1 => Ev Y s1 b fun B s2 => ∃ x y : α, DA Y s2 A x ∧ DA Y s2 B y ∧ Q (decide (x = y)) s2) (hd : Datum.depth α ≤ 60 := by decide) : Cmp Y s .Eq a b Q :=
  cmp_of (op_eqT (α := α) ok.room.units hd) (h.mono fun A s1 h1 => h1.mono fun B s2 ⟨x, y, hA, hB, q⟩ => ⟨_, q, fun σ H F v u Q S r1 r2 q => ⟨x, y, hA σ H F v S r1, hB σ H F u S r2, q⟩⟩)
theorem cmp_neE (α : Type) [DecidableEq α] [Enc α] [Datum α] [Dat α] {Q : Bool → DSt → Prop} (ok : YOk Y) (h : Ev Y s a fun A s1 => Ev Y s1 b fun B s2 => ∃ x y : α, DA Y s2 A x ∧ DA Y s2 B y ∧ Q (decide (x ≠ y)) s2) (hd : Datum.depth α ≤ 60 := by decide) : Cmp Y s .NotEq a b Q :=
  cmp_of (op_neT (α := α) ok.room.units hd) (h.mono fun A s1 h1 => h1.mono fun B s2 ⟨x, y, hA, hB, q⟩ => ⟨_, q, fun σ H F v u Q S r1 r2 q => ⟨x, y, hA σ H F v S r1, hB σ H F u S r2, q⟩⟩)
theorem cmp_in {xs : List α} (ok : YOk Y) (ha : EvP Y s a (pu x)) (hb : EvP Y s b B) (hB : DA Y s B xs) (hd : Datum.depth α ≤ 60 := by decide) : CmpP Y s .In a b (decide (x ∈ xs)) :=
  cmpp_of (op_inT (α := α) ok.room.units hd) ha hb fun σ H F v u Q S r1 r2 q => ⟨x, xs, Enc.mono (α := α) r1 S.ext, hB σ H F u S r2, q⟩
theorem cmp_nin {xs : List α} (ok : YOk Y) (ha : EvP Y s a (pu x)) (hb : EvP Y s b B) (hB : DA Y s B xs) (hd : Datum.depth α ≤ 60 := by decide) : CmpP Y s .NotIn a b (decide (x ∉ xs)) :=
  cmpp_of (op_ninT (α := α) ok.room.units hd) ha hb fun σ H F v u Q S r1 r2 q => ⟨x, xs, Enc.mono (α := α) r1 S.ext, hB σ H F u S r2, q⟩
theorem cmp_inH {xs : Tup α} (ok : YOk Y) (ha : EvP Y s a (pu x)) (hb : EvP Y s b (pu xs)) (hd : Datum.depth α ≤ 60 := by decide) : CmpP Y s .In a b (decide (x ∈ xs.items)) :=
  cmpp_of (op_inH (α := α) ok.room.units hd) ha hb fun σ H F v u Q S r1 r2 q => ⟨x, xs, Enc.mono (α := α) r1 S.ext, Enc.mono (α := Tup α) r2 S.ext, q⟩
theorem cmp_ninH {xs : Tup α} (ok : YOk Y) (ha : EvP Y s a (pu x)) (hb : EvP Y s b (pu xs)) (hd : Datum.depth α ≤ 60 := by decide) : CmpP Y s .NotIn a b (decide (x ∉ xs.items)) :=
  cmpp_of (op_ninH (α := α) ok.room.units hd) ha hb fun σ H F v u Q S r1 r2 q => ⟨x, xs, Enc.mono (α := α) r1 S.ext, Enc.mono (α := Tup α) r2 S.ext, q⟩
end
/-! order -/
theorem op_ltD {X : Cx} [DatumOrd α] [Dat α] (hu : X.A.units + 64 < cLine) (hd : Datum.depth α ≤ 60) : OpR X (compareOp .Lt) (fun x y H Q => ∃ a b : α, Enc.rep X.K H x a ∧ Enc.rep X.K H y b ∧ Q (.bl (DatumOrd.lt a b)) H) := by
  intro pins s σ H x y v u Q I rx ry ⟨a, b, ha, hb, q⟩
  exact PySem.W.lt_datum (enc_holds I ha rx) (enc_holds I hb ry) (by omega) ⟨.bl _, H, I, rfl, q⟩
theorem op_gtD {X : Cx} [DatumOrd α] [Dat α] (hu : X.A.units + 64 < cLine) (hd : Datum.depth α ≤ 60) : OpR X (compareOp .Gt) (fun x y H Q => ∃ a b : α, Enc.rep X.K H x a ∧ Enc.rep X.K H y b ∧ Q (.bl (DatumOrd.lt b a)) H) := by
  intro pins s σ H x y v u Q I rx ry ⟨a, b, ha, hb, q⟩
  exact PySem.W.gt_datum (enc_holds I ha rx) (enc_holds I hb ry) (by omega) ⟨.bl _, H, I, rfl, q⟩
theorem op_leD {X : Cx} [DatumOrd α] [Dat α] (hu : X.A.units + 64 < cLine) (hd : Datum.depth α ≤ 60) : OpR X (compareOp .LtE) (fun x y H Q => ∃ a b : α, Enc.rep X.K H x a ∧ Enc.rep X.K H y b ∧ Q (.bl (!DatumOrd.lt b a)) H) := by
  intro pins s σ H x y v u Q I rx ry ⟨a, b, ha, hb, q⟩
  exact PySem.W.le_datum (enc_holds I ha rx) (enc_holds I hb ry) (by omega) ⟨.bl _, H, I, rfl, q⟩
theorem op_geD {X : Cx} [DatumOrd α] [Dat α] (hu : X.A.units + 64 < cLine) (hd : Datum.depth α ≤ 60) : OpR X (compareOp .GtE) (fun x y H Q => ∃ a b : α, Enc.rep X.K H x a ∧ Enc.rep X.K H y b ∧ Q (.bl (!DatumOrd.lt a b)) H) := by
  intro pins s σ H x y v u Q I rx ry ⟨a, b, ha, hb, q⟩
  exact PySem.W.ge_datum (enc_holds I ha rx) (enc_holds I hb ry) (by omega) ⟨.bl _, H, I, rfl, q⟩
section
variable [DatumOrd α] [Dat α]
theorem cmp_ltD (ok : YOk Y) (ha : EvP Y s a (pu x)) (hb : EvP Y s b (pu y)) (hd : Datum.depth α ≤ 60 := by decide) : CmpP Y s .Lt a b (DatumOrd.lt x y) :=
  cmpp_of (op_ltD (α := α) ok.room.units hd) ha hb fun σ H F v u Q S r1 r2 q => ⟨x, y, Enc.mono (α := α) r1 S.ext, Enc.mono (α := α) r2 S.ext, q⟩
theorem cmp_gtD (ok : YOk Y) (ha : EvP Y s a (pu x)) (hb : EvP Y s b (pu y)) (hd : Datum.depth α ≤ 60 := by decide) : CmpP Y s .Gt a b (DatumOrd.lt y x) :=
  cmpp_of (op_gtD (α := α) ok.room.units hd) ha hb fun σ H F v u Q S r1 r2 q => ⟨x, y, Enc.mono (α := α) r1 S.ext, Enc.mono (α := α) r2 S.ext, q⟩
theorem cmp_leD (ok : YOk Y) (ha : EvP Y s a (pu x)) (hb : EvP Y s b (pu y)) (hd : Datum.depth α ≤ 60 := by decide) : CmpP Y s .LtE a b (!DatumOrd.lt y x) :=
  cmpp_of (op_leD (α := α) ok.room.units hd) ha hb fun σ H F v u Q S r1 r2 q => ⟨x, y, Enc.mono (α := α) r1 S.ext, Enc.mono (α := α) r2 S.ext, q⟩
theorem cmp_geD (ok : YOk Y) (ha : EvP Y s a (pu x)) (hb : EvP Y s b (pu y)) (hd : Datum.depth α ≤ 60 := by decide) : CmpP Y s .GtE a b (!DatumOrd.lt x y) :=
  cmpp_of (op_geD (α := α) ok.room.units hd) ha hb fun σ H F v u Q S r1 r2 q => ⟨x, y, Enc.mono (α := α) r1 S.ext, Enc.mono (α := α) r2 S.ext, q⟩
end
end
section
variable {i j : Int}
theorem cmp_lt (ha : EvP Y s a (pu i)) (hb : EvP Y s b (pu j)) : CmpP Y s .Lt a b (decide (i < j)) := cmpp_of op_lt ha hb fun σ H F v u Q S r1 r2 q => ⟨i, j, r1, r2, q⟩
theorem cmp_le (ha : EvP Y s a (pu i)) (hb : EvP Y s b (pu j)) : CmpP Y s .LtE a b (decide (i ≤ j)) := cmpp_of op_le ha hb fun σ H F v u Q S r1 r2 q => ⟨i, j, r1, r2, q⟩
theorem cmp_gt (ha : EvP Y s a (pu i)) (hb : EvP Y s b (pu j)) : CmpP Y s .Gt a b (decide (j < i)) := cmpp_of op_gt ha hb fun σ H F v u Q S r1 r2 q => ⟨i, j, r1, r2, q⟩
theorem cmp_ge (ha : EvP Y s a (pu i)) (hb : EvP Y s b (pu j)) : CmpP Y s .GtE a b (decide (j ≤ i)) := cmpp_of op_ge ha hb fun σ H F v u Q S r1 r2 q => ⟨i, j, r1, r2, q⟩
end
/-- x in y, texts -/
def tin (x y : List Nat) : Bool := !(Builtin.Str.occurrences (toStr y) (toStr x) 0 y.length 1).isEmpty
theorem cmp_inS {x y : List Nat} (ha : EvP Y s a (pu x)) (hb : EvP Y s b (pu y)) : CmpP Y s .In a b (tin x y) :=
  cmpp_of op_in_str ha hb fun σ H F v u Q S r1 r2 q => ⟨toStr x, toStr y, r1, r2, by rw [toStr_len]; exact q⟩
theorem cmp_ninS {x y : List Nat} (ha : EvP Y s a (pu x)) (hb : EvP Y s b (pu y)) : CmpP Y s .NotIn a b (!tin x y) :=
  cmpp_of op_notin_str ha hb fun σ H F v u Q S r1 r2 q => ⟨toStr x, toStr y, r1, r2, by rw [toStr_len]; exact q⟩
/-- one sign in a text -/
theorem cmp_in1 {x : Nat} {y : List Nat} (ha : EvP Y s a (pu [x])) (hb : EvP Y s b (pu y)) : CmpP Y s .In a b (decide (x ∈ y)) :=
  cmpp_of op_in_sign ha hb fun σ H F v u Q S r1 r2 q => ⟨x, toStr y, r1, r2, by rw [toStr_cps]; exact q⟩
/-! is None -/
/-- never None -/
class NoN (α : Type) [Enc α] : Prop where
  no : ∀ {K F} {v : V} {x : α}, Enc.rep K F v x → v ≠ .non
instance : NoN Int := ⟨fun h e => by rw [e] at h; cases h⟩
instance : NoN Bool := ⟨fun h e => by rw [e] at h; cases h⟩
instance : NoN (List Nat) := ⟨fun h e => by rw [e] at h; cases h⟩
section
variable {α β γ δ : Type} [Enc α] [Enc β] [Enc γ] [Enc δ]
instance : NoN (List α) := ⟨fun ⟨_, _, h, _⟩ e => by rw [e] at h; cases h⟩
instance : NoN (Tup α) := ⟨fun ⟨_, _, h, _⟩ e => by rw [e] at h; cases h⟩
instance : NoN (α × β) := ⟨fun ⟨_, _, _, h, _⟩ e => by rw [e] at h; cases h⟩
instance : NoN (T3 α β γ) := ⟨fun ⟨_, _, _, _, h, _⟩ e => by rw [e] at h; cases h⟩
instance : NoN (T4 α β γ δ) := ⟨fun ⟨_, _, _, _, _, h, _⟩ e => by rw [e] at h; cases h⟩
theorem optNone [NoN α] {K F} {v : V} {x : Option α} (h : Enc.rep K F v x) : decide (v = .non) = x.isNone := by
  cases x with
  | none => cases h; rfl
  | some x => exact decide_eq_false (NoN.no (α := α) h)
theorem cmp_isN [NoN α] {x : Option α} {j : Nat} {p : Pos} (ha : EvP Y s a (pu x)) : CmpP Y s .Is a (.Constant .none j p) x.isNone :=
  cmpp_of op_isN ha evp_non fun σ H F v u Q S r1 r2 q => ⟨r2, by rw [optNone (α := α) r1]; exact q⟩
theorem cmp_notN [NoN α] {x : Option α} {j : Nat} {p : Pos} (ha : EvP Y s a (pu x)) : CmpP Y s .IsNot a (.Constant .none j p) x.isSome :=
  cmpp_of op_notN ha evp_non fun σ H F v u Q S r1 r2 q => ⟨r2, by
    rw [optNone (α := α) r1]
    cases x <;> exact q⟩
end

/-! ### truth -/
structure WTW (X : Cx) (e : Expr) (σ : St) (H : Hp) (Q : Bool → Hp → Prop) : Prop where
  run : ∀ (wh : Sem Value) (pins : List (Addr × Obj)) (s : Shared), Inv X pins σ H s → wpAny (model X.prog X.w) X.A (isTrue e X.env wh) (TP X pins σ Q) X.xe s
theorem pw_wtw {X : Cx} : PW X e (WTW X e) := ⟨fun wh pins s _ _ _ I h => h.run wh pins s I⟩
theorem WTW.of {X : Cx} {σ : St} {H : Hp} {t : TT} {Q : Bool → Hp → Prop} (p : PW X e t) (h : t σ H Q) : WTW X e σ H Q := ⟨fun wh pins s I => p.run wh pins s σ H Q I h⟩
/-- a test of and, or, whatever stands around it -/
def Ew (Y : DX) (s : DSt) (e : Expr) (Q : Bool → DSt → Prop) : Prop := ∀ F0 σ H F, Ext F0 F → Sta Y s σ H F → WTW Y.X e σ H (Pt Y σ F0 Q)
theorem et_w {Q : Bool → DSt → Prop} (h : Ew Y s e Q) : Et Y s e Q := fun F0 σ H F e0 S => .of pw_wtw.pt (h F0 σ H F e0 S)
theorem ew_and1 {Q : Bool → DSt → Prop} (h : Et Y s a Q) : Ew Y s (.BoolOp .And [a] pos) Q := fun F0 σ H F e0 S => .of (pw_and1 pt_wt) (h F0 σ H F e0 S)
theorem ew_or1 {Q : Bool → DSt → Prop} (h : Et Y s a Q) : Ew Y s (.BoolOp .Or [a] pos) Q := fun F0 σ H F e0 S => .of (pw_or1 pt_wt) (h F0 σ H F e0 S)
theorem WTW.mono {X : Cx} {σ : St} {H : Hp} {Q Q' : Bool → Hp → Prop} (h : WTW X e σ H Q) (k : ∀ b H', Q b H' → Q' b H') : WTW X e σ H Q' :=
  ⟨fun wh pins s I => thn (h.run wh pins s I) fun b _ ⟨H', J, q⟩ => ⟨H', J, k b H' q⟩⟩
theorem Pt.ext {σ : St} {F0 F1 : Hp} {Q : Bool → DSt → Prop} {c : Bool} {H : Hp} (h : Pt Y σ F1 Q c H) (e : Ext F0 F1) : Pt Y σ F0 Q c H := by
  obtain ⟨s', F', e1, S', q⟩ := h
  exact ⟨s', F', e.trans e1, S', q⟩
theorem ew_and {Q : Bool → DSt → Prop} {r : List Expr} (h : Et Y s a fun x s1 => if x = true then Ew Y s1 (.BoolOp .And (b :: r) pos) Q else Q false s1) : Ew Y s (.BoolOp .And (a :: b :: r) pos) Q := fun F0 σ H F e0 S => by
  refine .of (pw_and pt_wt pw_wtw) ((h F0 σ H F e0 S).mono fun x H1 ⟨s1, F1, e1, S1, q⟩ => ?_)
  cases x with
  | true => exact (q F1 σ H1 F1 (.refl _) S1).mono fun c H2 z => z.ext e1
  | false => exact ⟨s1, F1, e1, S1, q⟩
theorem ew_or {Q : Bool → DSt → Prop} {r : List Expr} (h : Et Y s a fun x s1 => if x = true then Q true s1 else Ew Y s1 (.BoolOp .Or (b :: r) pos) Q) : Ew Y s (.BoolOp .Or (a :: b :: r) pos) Q := fun F0 σ H F e0 S => by
  refine .of (pw_or pt_wt pw_wtw) ((h F0 σ H F e0 S).mono fun x H1 ⟨s1, F1, e1, S1, q⟩ => ?_)
  cases x with
  | false => exact (q F1 σ H1 F1 (.refl _) S1).mono fun c H2 z => z.ext e1
  | true => exact ⟨s1, F1, e1, S1, q⟩
theorem et_not {Q : Bool → DSt → Prop} (h : Et Y s a fun x s1 => Q (!x) s1) : Et Y s (.UnaryOp .Not a pos) Q := fun F0 σ H F e0 S =>
  .of (pt_not pt_wt) ((h F0 σ H F e0 S).mono fun x H1 ⟨s1, F1, e1, S1, q⟩ => ⟨s1, F1, e1, S1, q⟩)
/-- quiet tests -/
abbrev EwP (Y : DX) (s : DSt) (e : Expr) (x : Bool) : Prop := Ew Y s e fun y s' => y = x ∧ s' = s
theorem etp_w {x : Bool} (h : EwP Y s e x) : EtP Y s e x := .of (et_w h)
theorem ewp_and1 {x : Bool} (h : EtP Y s a x) : EwP Y s (.BoolOp .And [a] pos) x := ew_and1 (.of h ⟨rfl, rfl⟩)
theorem ewp_or1 {x : Bool} (h : EtP Y s a x) : EwP Y s (.BoolOp .Or [a] pos) x := ew_or1 (.of h ⟨rfl, rfl⟩)
theorem Ew.to {Q Q' : Bool → DSt → Prop} (h : Ew Y s e Q) (k : ∀ x s', Q x s' → Q' x s') : Ew Y s e Q' := fun F0 σ H F e0 S => (h F0 σ H F e0 S).mono fun x H1 ⟨s1, F1, e1, S1, q⟩ => ⟨s1, F1, e1, S1, k _ _ q⟩
theorem ewp_and {x y : Bool} {r : List Expr} (h : EtP Y s a x) (k : x = true → EwP Y s (.BoolOp .And (b :: r) pos) y) : EwP Y s (.BoolOp .And (a :: b :: r) pos) (x && y) := ew_and (.of h (by
  cases x with
  | true => exact (k rfl).to fun z s' q => q
  | false => exact ⟨rfl, rfl⟩))
theorem ewp_or {x y : Bool} {r : List Expr} (h : EtP Y s a x) (k : x = false → EwP Y s (.BoolOp .Or (b :: r) pos) y) : EwP Y s (.BoolOp .Or (a :: b :: r) pos) (x || y) := ew_or (.of h (by
  cases x with
  | false => exact (k rfl).to fun z s' q => q
  | true => exact ⟨rfl, rfl⟩))
theorem etp_not {x : Bool} (h : EtP Y s a x) : EtP Y s (.UnaryOp .Not a pos) (!x) := .of (et_not (.of h ⟨rfl, rfl⟩))
theorem etp_val {x : Bool} (he : ∀ whole, isTrue e Y.X.env whole = (do let v ← whole; standAt e.pos; holding [v] (truthy v))) (h : EvP Y s e (pu x)) : EtP Y s e x := .of (et_val he (.of h ⟨x, rfl, rfl, rfl⟩))
/-! as values -/
theorem evp_not {x : Bool} (h : EvP Y s a (pu x)) : EvP Y s (.UnaryOp .Not a pos) (pu (!x)) :=
  evp1 (r := fun v H Q => ∃ c, v = .bl c ∧ Q (.bl (!c)) H) (pe_not pe_we) h fun F0 σ H F v e0 S r => ⟨x, r, F, e0, rfl, S⟩
theorem evp_boole {op : BoolOp} {A : Pv} (h : EvP Y s a A) : EvP Y s (.BoolOp op [a] pos) A := fun F0 σ H F e0 S => .of (pe_one pe_we) (h F0 σ H F e0 S)
theorem Pp.ext {σ : St} {F0 F1 : Hp} {A : Pv} {v : V} {H : Hp} (h : Pp Y s σ F1 A v H) (e : Ext F0 F1) : Pp Y s σ F0 A v H := by
  obtain ⟨F', e1, r, S'⟩ := h
  exact ⟨F', e.trans e1, r, S'⟩
theorem evp_and {x y : Bool} {r : List Expr} (h : EvP Y s a (pu x)) (k : x = true → EvP Y s (.BoolOp .And (b :: r) pos) (pu y)) : EvP Y s (.BoolOp .And (a :: b :: r) pos) (pu (x && y)) := fun F0 σ H F e0 S => by
  refine .of (pe_and pe_we pe_we) ((h F0 σ H F e0 S).mono fun v H1 ⟨F1, e1, r1, S1⟩ => ⟨x, r1, ?_⟩)
  cases x with
  | true => exact (k rfl F1 σ H1 F1 (.refl _) S1).mono fun c H2 z => Pp.ext z e1
  | false => exact ⟨F1, e1, rfl, S1⟩
theorem evp_or {x y : Bool} {r : List Expr} (h : EvP Y s a (pu x)) (k : x = false → EvP Y s (.BoolOp .Or (b :: r) pos) (pu y)) : EvP Y s (.BoolOp .Or (a :: b :: r) pos) (pu (x || y)) := fun F0 σ H F e0 S => by
  refine .of (pe_or pe_we pe_we) ((h F0 σ H F e0 S).mono fun v H1 ⟨F1, e1, r1, S1⟩ => ⟨x, r1, ?_⟩)
  cases x with
  | false => exact (k rfl F1 σ H1 F1 (.refl _) S1).mono fun c H2 z => Pp.ext z e1
  | true => exact ⟨F1, e1, rfl, S1⟩
/-- a if c else b -/
theorem ev_if (h : Et Y s c fun x s1 => if x = true then Ev Y s1 a Q else Ev Y s1 b Q) : Ev Y s (.IfExp c a b pos) Q := fun F0 σ H F e0 S => by
  refine .of (pe_ifExp pt_wt pe_we pe_we) ((h F0 σ H F e0 S).mono fun x H1 ⟨s1, F1, e1, S1, q⟩ => ?_)
  cases x with
  | true => exact q F0 σ H1 F1 e1 S1
  | false => exact q F0 σ H1 F1 e1 S1
theorem evp_if {α : Type} [Enc α] {x : Bool} {u w : α} (h : EtP Y s c x) (ka : x = true → EvP Y s a (pu u)) (kb : x = false → EvP Y s b (pu w)) : EvP Y s (.IfExp c a b pos) (pu (if x = true then u else w)) := .of (ev_if (.of h (by
  cases x with
  | true => exact .of (ka rfl) ⟨rfl, rfl⟩
  | false => exact .of (kb rfl) ⟨rfl, rfl⟩)))
theorem EvP.inl {α β : Type} [Enc α] [Enc β] {x : α} (h : EvP Y s e (pu x)) : EvP Y s e (pu (Sum.inl x : α ⊕ β)) := h
theorem EvP.inr {α β : Type} [Enc α] [Enc β] {x : β} (h : EvP Y s e (pu x)) : EvP Y s e (pu (Sum.inr x : α ⊕ β)) := h
theorem EvP.some {α : Type} [Enc α] {x : α} (h : EvP Y s e (pu x)) : EvP Y s e (pu (Option.some x)) := h
theorem evp_none {α : Type} [Enc α] {j : Nat} : EvP Y s (.Constant .none j pos) (pu (Option.none : Option α)) := (evp_non : EvP Y s (.Constant .none j pos) (pu ()))
theorem evp_neg {i : Int} (h : EvP Y s a (pu i)) : EvP Y s (.UnaryOp .USub a pos) (pu (-i)) :=
  evp1 (r := fun v H Q => rU (fun i => .int (-i)) v H Q) (pe_un un_neg pe_we) h fun F0 σ H F v e0 S r => ⟨i, r, F, e0, rfl, S⟩
end
end Sp
set_option maxHeartbeats 4000000
/-! Sp: lists, tuples, texts: calls, methods, slices, sources. -/
namespace Sp
open PySem L2
open PySem.W (Datum DatumOrd SomeDatum)
section
variable {Y : DX} {s : DSt} {e a b c d o : Expr} {es : List Expr} {pos p : Pos} {Q : Pv → DSt → Prop}
/-! ### calls of built-ins, quietly -/
theorem evp_B1' {A B : Pv} {x : Str} {id : String} {r : List V → Hp → VK → Prop} (hc : CallR Y.X (.builtin id) r) (hg : Gl Y.X x) (hm : Y.X.mg x = none) (hv : bootBuiltins x = some (.builtin id)) (ha : EvP Y s a A)
    (h : ∀ F0 σ H F v, Ext F0 F → Sta Y s σ H F → A.rep Y.X.K F v → r [v] H (Pp Y s σ F0 B)) (hn : x ≠ "__name__" := by decide) (hdb : (x == ("__debug__" : Str)) = false := by decide)
    (he : starEach [a] Y.X.env = (false, eval a Y.X.env) :: starEach [] Y.X.env := by rfl) : EvP Y s (.Call (.Name x p) [a] [] pos) B := evp_B1 hc hg hm hv ha h hn hdb he
theorem evp_T1 {A B : Pv} {x : Str} {T : String} {r : List V → Hp → VK → Prop} (hc : CallR Y.X (.type T) r) (hg : Gl Y.X x) (hm : Y.X.mg x = none) (hv : bootBuiltins x = some (.type T)) (ha : EvP Y s a A)
    (h : ∀ F0 σ H F v, Ext F0 F → Sta Y s σ H F → A.rep Y.X.K F v → r [v] H (Pp Y s σ F0 B)) (hn : x ≠ "__name__" := by decide) (hdb : (x == ("__debug__" : Str)) = false := by decide)
    (he : starEach [a] Y.X.env = (false, eval a Y.X.env) :: starEach [] Y.X.env := by rfl) : EvP Y s (.Call (.Name x p) [a] [] pos) B := fun F0 σ H F e0 S => by
  refine .of (pe_callTy hc hg hm hv (pa_cons pe_we pa_nil he) hn hdb he (by rfl)) ?_
  refine (ha F0 σ H F e0 S).mono fun v H1 ⟨F1, e1, r1, S1⟩ => ?_
  exact h F0 σ H1 F1 v e1 S1 r1
theorem evp_B2 {A B C : Pv} {x : Str} {id : String} {r : List V → Hp → VK → Prop} (hc : CallR Y.X (.builtin id) r) (hg : Gl Y.X x) (hm : Y.X.mg x = none) (hv : bootBuiltins x = some (.builtin id)) (ha : EvP Y s a A) (hb : EvP Y s b B)
    (h : ∀ F0 σ H F v w, Ext F0 F → Sta Y s σ H F → A.rep Y.X.K F v → B.rep Y.X.K F w → r [v, w] H (Pp Y s σ F0 C)) (hn : x ≠ "__name__" := by decide) (hdb : (x == ("__debug__" : Str)) = false := by decide)
    (he : starEach [a, b] Y.X.env = (false, eval a Y.X.env) :: starEach [b] Y.X.env := by rfl) (he2 : starEach [b] Y.X.env = (false, eval b Y.X.env) :: starEach [] Y.X.env := by rfl) (hpl : (backTo pos (starEach [b] Y.X.env)).any (·.1) = false := by rfl) : EvP Y s (.Call (.Name x p) [a, b] [] pos) C := fun F0 σ H F e0 S => by
  refine .of (pe_callB hc hg hm hv (pa_cons pe_we (pa_cons pe_we pa_nil he2) he) hn hdb he hpl) ?_
  refine (ha F σ H F (.refl _) S).mono fun v H1 ⟨F1, e1, r1, S1⟩ => ?_
  refine (hb F1 σ H1 F1 (.refl _) S1).mono fun w H2 ⟨F2, e2, r2, S2⟩ => ?_
  exact h F0 σ H2 F2 v w ((e0.trans e1).trans e2) S2 (A.mono r1 e2) r2
/-- a new list of what the items stand for -/
theorem pp_list {α : Type} [Enc α] {σ : St} {F0 H F : Hp} {vs : List V} {xs : List α} (e0 : Ext F0 F) (S : Sta Y s σ H F) (r : Vs Y.X.K F vs xs) (q : Addr) (hq : H q = none) : Pp Y s σ F0 (pu xs) (.ref q) (upd H q (.lst vs)) :=
  ⟨upd F q (.lst vs), e0.trans (Ext.grow (S.free hq)), ⟨q, vs, rfl, .of upd_same, r.mono (Ext.grow (S.free hq))⟩, S.newF hq rfl⟩
section
variable {α : Type} [Enc α] {A B : Pv} {xs ys : List α}
theorem evp_lenA (T : Bis Y.X.mg) (hg : Gl Y.X "len") (ha : EvP Y s a A) (hA : DA Y s A xs) (he : starEach [a] Y.X.env = (false, eval a Y.X.env) :: starEach [] Y.X.env := by rfl) : EvP Y s (.Call (.Name "len" p) [a] [] pos) (pu (xs.length : Int)) :=
  evp_B1 call_len hg (T.no _ (by decide)) boot_len ha (fun F0 σ H F v e0 S r => by
    obtain ⟨q, vs, h1, h2, h3⟩ := hA σ H F v S r
    exact ⟨v, vs.length, rfl, by subst h1; exact .inl ⟨vs, h2, rfl⟩, F, e0, by rw [Paired.length h3]; rfl, S⟩) (by decide) (by decide) he
theorem evp_sum {ns : List Int} (ok : YOk Y) (T : Bis Y.X.mg) (hg : Gl Y.X "sum") (ha : EvP Y s a A) (hA : DA Y s A ns) (he : starEach [a] Y.X.env = (false, eval a Y.X.env) :: starEach [] Y.X.env := by rfl) : EvP Y s (.Call (.Name "sum" p) [a] [] pos) (pu ns.sum) :=
  evp_B1 (cr_sumT ok.calm) hg (T.no _ (by decide)) PyProof.Rows.boot_sum ha (fun F0 σ H F v e0 S r => ⟨v, ns, rfl, hA σ H F v S r, F, e0, rfl, S⟩) (by decide) (by decide) he
theorem evp_abs {i : Int} (T : Bis Y.X.mg) (hg : Gl Y.X "abs") (ha : EvP Y s a (pu i)) (he : starEach [a] Y.X.env = (false, eval a Y.X.env) :: starEach [] Y.X.env := by rfl) : EvP Y s (.Call (.Name "abs" p) [a] [] pos) (pu (if i < 0 then -i else i)) :=
  evp_B1 call_abs hg (T.no _ (by decide)) PyProof.Rows.boot_abs ha (fun F0 σ H F v e0 S r => ⟨i, by rw [show v = .int i from r], F, e0, rfl, S⟩) (by decide) (by decide) he
theorem evp_min2 {i j : Int} (ok : YOk Y) (T : Bis Y.X.mg) (hg : Gl Y.X "min") (ha : EvP Y s a (pu i)) (hb : EvP Y s b (pu j))
    (he : starEach [a, b] Y.X.env = (false, eval a Y.X.env) :: starEach [b] Y.X.env := by rfl) (he2 : starEach [b] Y.X.env = (false, eval b Y.X.env) :: starEach [] Y.X.env := by rfl) (hpl : (backTo pos (starEach [b] Y.X.env)).any (·.1) = false := by rfl) :
    EvP Y s (.Call (.Name "min" p) [a, b] [] pos) (pu (if j < i then j else i)) :=
  evp_B2 (call_min2 ok.calm) hg (T.no _ (by decide)) PyProof.Rows.boot_min ha hb (fun F0 σ H F v w e0 S r r2 => ⟨i, j, by rw [show v = .int i from r, show w = .int j from r2], F, e0, rfl, S⟩) (by decide) (by decide) he he2 hpl
theorem evp_max2 {i j : Int} (ok : YOk Y) (T : Bis Y.X.mg) (hg : Gl Y.X "max") (ha : EvP Y s a (pu i)) (hb : EvP Y s b (pu j))
    (he : starEach [a, b] Y.X.env = (false, eval a Y.X.env) :: starEach [b] Y.X.env := by rfl) (he2 : starEach [b] Y.X.env = (false, eval b Y.X.env) :: starEach [] Y.X.env := by rfl) (hpl : (backTo pos (starEach [b] Y.X.env)).any (·.1) = false := by rfl) :
    EvP Y s (.Call (.Name "max" p) [a, b] [] pos) (pu (if j > i then j else i)) :=
  evp_B2 (call_max2 ok.calm) hg (T.no _ (by decide)) PyProof.Rows.boot_max ha hb (fun F0 σ H F v w e0 S r r2 => ⟨i, j, by rw [show v = .int i from r, show w = .int j from r2], F, e0, rfl, S⟩) (by decide) (by decide) he he2 hpl
end
/-- readers of lists whose items are frozen -/
def DL (Y : DX) (s : DSt) {α : Type} [Enc α] (A : Pv) (xs : List α) : Prop := ∀ σ H F v, Sta Y s σ H F → A.rep Y.X.K F v → ∃ p vs, v = .ref p ∧ SqL Y.X.K H p vs ∧ Vs Y.X.K F vs xs
theorem DL.pu {α : Type} [Enc α] {xs : List α} : DL Y s (pu xs) xs := fun σ H F v S ⟨p, vs, h1, h2, h3⟩ => ⟨p, vs, h1, sqL_ext h2 S.ext, h3⟩
theorem DL.own {α : Type} [Enc α] {xs : List α} {p : Addr} (i : Nat) (h : s.gs[i]? = some (p, lstc xs)) : DL Y s (raw (.ref p)) xs := fun σ H F v S r => by
  obtain ⟨_, o, ho, _, vs, eo, rv⟩ := S.cell h
  subst eo
  exact ⟨p, vs, r, .of ho, rv⟩
theorem DL.da {α : Type} [Enc α] {A : Pv} {xs : List α} (h : DL Y s A xs) : DA Y s A xs := fun σ H F v S r => by
  obtain ⟨p, vs, h1, h2, h3⟩ := h σ H F v S r
  exact ⟨p, vs, h1, h2, h3.mono S.ext⟩
end
/-! ### rules whose items come out of the list, frozen where they were frozen -/
section
variable {X : Cx} {α : Type} [DecidableEq α] [Enc α]
theorem cr_sortedF [DatumOrd α] [Dat α] [Srtb α] (hu : X.A.units + 64 < cLine) (hd : Datum.depth α ≤ 60) : CallR X (.builtin "sorted") (fun vs H Q => ∃ F y p zs, ∃ xs : List α, vs = [y] ∧ y = .ref p ∧ SqL X.K H p zs ∧ Vs X.K F zs xs ∧ Ext F H ∧ ∀ p zs, H p = none → Vs X.K F zs (srt xs) → Q (.ref p) (upd H p (.lst zs))) := by
  intro pins s σ H vs us Q I r ⟨F, y, p, zs, xs, ev, e, hq, hz, ex, q⟩
  subst e ev
  obtain ⟨its, rv, hl, hlen⟩ := I.list hq
  obtain ⟨u, rfl, ru⟩ := vals1 r
  cases ru
  have hls : zs.length = xs.length := Paired.length hz
  have e0 := each_of hz rv
  refine PySem.W.sorted_data (enc := Datum.toD) hl.isList e0 (e0.mono fun u a ⟨z, r1, r2⟩ => enc_holds I (Enc.mono r1 ex) r2) (sort_alike xs) (sort_able xs) (by omega) (fun b _ => by have := Datum.depth_le b; omega) fun out h1 h2 => ?_
  rw [srt_eq] at h2
  obtain ⟨zs', h3, h4⟩ := each_back h2
  obtain ⟨ep, he'⟩ := PyProof.Rows.sortedAll_at s.heap its out.toArray
  have hl4 : zs'.length = out.length := Paired.length h4
  exact ⟨.ref _, upd H (s.heap.objs.size + 1) (.lst zs'), I.laid (t' := s.toks) (fun _ _ => PyProof.Rows.sortedAll_old) (Nat.le_succ _) ⟨by omega, out, ep, h4, he'⟩, rfl, q _ zs' (I.hok.fresh (Nat.le_succ _)) h3⟩
theorem pickF [DatumOrd α] [Dat α] {pins : List (Addr × Obj)} {σ : St} {H F : Hp} {s : Shared} {h' : Heap} {tk : Nat} {zs : List V} {its : List Value} {xs : List α} {i : Nat} {v : Value} {m : α} (I : Inv X pins σ H { s with heap := h', toks := tk }) (hz : Vs X.K F zs xs) (ex : Ext F H) (rv : Vals zs its) (hv : its[i]? = some v) (hm : PySem.W.Holds h' v m) :
    ∃ z, Enc.rep X.K F z m ∧ RelV z v := by
  have hi : i < its.length := (List.getElem?_eq_some_iff.mp hv).1
  have e1 : zs.length = its.length := Paired.length rv
  have e2 : zs.length = xs.length := Paired.length hz
  obtain ⟨z, h1, r1⟩ := prd_get hz (i := i) (y := xs[i]'(by omega)) (List.getElem?_eq_getElem _)
  obtain ⟨u, h2, r2⟩ := rv.get h1
  rw [hv] at h2
  cases h2
  have := holds_one (h := h') (enc_holds I (Enc.mono r1 ex) r2) hm
  rw [this] at r1
  exact ⟨z, r1, r2⟩
theorem cr_minF [DatumOrd α] [Dat α] (hc : X.calm = true) (hu : X.A.units + 64 < cLine) (hd : Datum.depth α ≤ 60) : CallR X (.builtin "min") (fun vs H Q => ∃ F y p zs x, ∃ xs : List α, vs = [y] ∧ y = .ref p ∧ SqL X.K H p zs ∧ Vs X.K F zs (x :: xs) ∧ Ext F H ∧ ∀ z, Enc.rep X.K F z (PySem.W.minOf x xs) → Q z H) := by
  intro pins s σ H vs us Q I r ⟨F, y, p, zs, x, xs, ev, e, hq, hz, ex, q⟩
  subst e ev
  obtain ⟨its, rv, hl, hlen⟩ := I.list hq
  obtain ⟨u, rfl, ru⟩ := vals1 r
  cases ru
  refine PySem.W.min_list_datum (vs := its.toArray) (I.ok.hd hc) hl.isList (vs_holds I (hz.mono ex) rv) (by omega) fun i v h' tk hv hm hk => ?_
  have J := I.kept (t' := tk) hk
  obtain ⟨z, r1, r2⟩ := pickF J hz ex rv (by simpa using hv) hm
  exact ⟨z, H, J, r2, q z r1⟩
theorem cr_maxF [DatumOrd α] [Dat α] (hc : X.calm = true) (hu : X.A.units + 64 < cLine) (hd : Datum.depth α ≤ 60) : CallR X (.builtin "max") (fun vs H Q => ∃ F y p zs x, ∃ xs : List α, vs = [y] ∧ y = .ref p ∧ SqL X.K H p zs ∧ Vs X.K F zs (x :: xs) ∧ Ext F H ∧ ∀ z, Enc.rep X.K F z (PySem.W.maxOf x xs) → Q z H) := by
  intro pins s σ H vs us Q I r ⟨F, y, p, zs, x, xs, ev, e, hq, hz, ex, q⟩
  subst e ev
  obtain ⟨its, rv, hl, hlen⟩ := I.list hq
  obtain ⟨u, rfl, ru⟩ := vals1 r
  cases ru
  refine PySem.W.max_list_datum (vs := its.toArray) (I.ok.hd hc) hl.isList (vs_holds I (hz.mono ex) rv) (by omega) fun i v h' tk hv hm hk => ?_
  have J := I.kept (t' := tk) hk
  obtain ⟨z, r1, r2⟩ := pickF J hz ex rv (by simpa using hv) hm
  exact ⟨z, H, J, r2, q z r1⟩
end
section
variable {Y : DX} {s : DSt} {e a b c d o : Expr} {es : List Expr} {pos p apos : Pos} {Q : Pv → DSt → Prop}
section
variable {α : Type} [DecidableEq α] [Enc α] {A B : Pv} {x : α} {xs ys : List α}
theorem evp_sorted [DatumOrd α] [Dat α] [Srtb α] (ok : YOk Y) (T : Bis Y.X.mg) (hg : Gl Y.X "sorted") (ha : EvP Y s a A) (hA : DL Y s A xs) (hd : Datum.depth α ≤ 60 := by decide) (he : starEach [a] Y.X.env = (false, eval a Y.X.env) :: starEach [] Y.X.env := by rfl) :
    EvP Y s (.Call (.Name "sorted" p) [a] [] pos) (pu (srt xs)) :=
  evp_B1 (cr_sortedF (α := α) ok.room.units hd) hg (T.no _ (by decide)) PyProof.Rows.boot_sorted ha (fun F0 σ H F v e0 S r => by
    obtain ⟨q, zs, h1, h2, h3⟩ := hA σ H F v S r
    exact ⟨F, v, q, zs, xs, rfl, h1, h2, h3, S.ext, fun q' zs' hq' r' => pp_list e0 S r' q' hq'⟩) (by decide) (by decide) he
theorem evp_min [DatumOrd α] [Dat α] (ok : YOk Y) (T : Bis Y.X.mg) (hg : Gl Y.X "min") (ha : EvP Y s a A) (hA : DL Y s A (x :: xs)) (hd : Datum.depth α ≤ 60 := by decide) (he : starEach [a] Y.X.env = (false, eval a Y.X.env) :: starEach [] Y.X.env := by rfl) :
    EvP Y s (.Call (.Name "min" p) [a] [] pos) (pu (PySem.W.minOf x xs)) :=
  evp_B1 (cr_minF (α := α) ok.calm ok.room.units hd) hg (T.no _ (by decide)) PyProof.Rows.boot_min ha (fun F0 σ H F v e0 S r => by
    obtain ⟨q, zs, h1, h2, h3⟩ := hA σ H F v S r
    exact ⟨F, v, q, zs, x, xs, rfl, h1, h2, h3, S.ext, fun z r' => ⟨F, e0, r', S⟩⟩) (by decide) (by decide) he
theorem evp_max [DatumOrd α] [Dat α] (ok : YOk Y) (T : Bis Y.X.mg) (hg : Gl Y.X "max") (ha : EvP Y s a A) (hA : DL Y s A (x :: xs)) (hd : Datum.depth α ≤ 60 := by decide) (he : starEach [a] Y.X.env = (false, eval a Y.X.env) :: starEach [] Y.X.env := by rfl) :
    EvP Y s (.Call (.Name "max" p) [a] [] pos) (pu (PySem.W.maxOf x xs)) :=
  evp_B1 (cr_maxF (α := α) ok.calm ok.room.units hd) hg (T.no _ (by decide)) PyProof.Rows.boot_max ha (fun F0 σ H F v e0 S r => by
    obtain ⟨q, zs, h1, h2, h3⟩ := hA σ H F v S r
    exact ⟨F, v, q, zs, x, xs, rfl, h1, h2, h3, S.ext, fun z r' => ⟨F, e0, r', S⟩⟩) (by decide) (by decide) he
end
section
variable {α β : Type} [Enc α] [Enc β] {A B : Pv} {xs ys : List α}
/-! list(x), tuple(x) -/
theorem evp_list1 (T : Bis Y.X.mg) (hg : Gl Y.X "list") (ha : EvP Y s a A) (hA : DL Y s A xs) (he : starEach [a] Y.X.env = (false, eval a Y.X.env) :: starEach [] Y.X.env := by rfl) : EvP Y s (.Call (.Name "list" p) [a] [] pos) (pu xs) :=
  evp_T1 call_list_of hg (T.no _ (by decide)) PyProof.Rows.boot_list ha (fun F0 σ H F v e0 S r => by
    obtain ⟨q, zs, h1, h2, h3⟩ := hA σ H F v S r
    exact ⟨q, zs, by rw [h1], .inl h2, fun l hl => pp_list e0 S h3 l hl⟩) (by decide) (by decide) he
theorem evp_listH {xs : Tup α} (T : Bis Y.X.mg) (hg : Gl Y.X "list") (ha : EvP Y s a (pu xs)) (he : starEach [a] Y.X.env = (false, eval a Y.X.env) :: starEach [] Y.X.env := by rfl) : EvP Y s (.Call (.Name "list" p) [a] [] pos) (pu xs.items) :=
  evp_T1 call_list_of hg (T.no _ (by decide)) PyProof.Rows.boot_list ha (fun F0 σ H F v e0 S ⟨q, zs, h1, h2, h3⟩ => ⟨q, zs, by rw [h1], .inr (sqT_ext h2 S.ext), fun l hl => pp_list e0 S h3 l hl⟩) (by decide) (by decide) he
theorem evp_listS {x : List Nat} (ok : YOk Y) (T : Bis Y.X.mg) (hg : Gl Y.X "list") (ha : EvP Y s a (pu x)) (hx : x.length ≤ sizeLine) (he : starEach [a] Y.X.env = (false, eval a Y.X.env) :: starEach [] Y.X.env := by rfl) : EvP Y s (.Call (.Name "list" p) [a] [] pos) (pu (x.map fun c => [c])) :=
  evp_T1 (call_list_ofS ok.calm) hg (T.no _ (by decide)) PyProof.Rows.boot_list ha (fun F0 σ H F v e0 S r => ⟨x, by rw [show v = .str (toStr x) from r], hx, fun l hl => pp_list e0 S (signs_vs x) l hl⟩) (by decide) (by decide) he
/-- .. the new list owned -/
theorem ev_list1O (T : Bis Y.X.mg) (hg : Gl Y.X "list") (ha : EvP Y s a A) (hA : DL Y s A xs) (q : ∀ p, Q (raw (.ref p)) ⟨s.ρ, (p, lstc xs) :: s.gs⟩) (he : starEach [a] Y.X.env = (false, eval a Y.X.env) :: starEach [] Y.X.env := by rfl) : Ev Y s (.Call (.Name "list" p) [a] [] pos) Q :=
  ev_T1 call_list_of hg (T.no _ (by decide)) PyProof.Rows.boot_list (.of ha fun F0 σ H F v e0 S r => by
    obtain ⟨p, zs, h1, h2, h3⟩ := hA σ H F v S r
    exact ⟨p, zs, by rw [h1], .inl h2, fun l hl => po_listO e0 S h3 q l hl⟩) (by decide) (by decide) he
theorem ev_listHO {xs : Tup α} (T : Bis Y.X.mg) (hg : Gl Y.X "list") (ha : EvP Y s a (pu xs)) (q : ∀ p, Q (raw (.ref p)) ⟨s.ρ, (p, lstc xs.items) :: s.gs⟩) (he : starEach [a] Y.X.env = (false, eval a Y.X.env) :: starEach [] Y.X.env := by rfl) : Ev Y s (.Call (.Name "list" p) [a] [] pos) Q :=
  ev_T1 call_list_of hg (T.no _ (by decide)) PyProof.Rows.boot_list (.of ha fun F0 σ H F v e0 S ⟨p, zs, h1, h2, h3⟩ => ⟨p, zs, by rw [h1], .inr (sqT_ext h2 S.ext), fun l hl => po_listO e0 S h3 q l hl⟩) (by decide) (by decide) he
theorem ev_listSO {x : List Nat} (ok : YOk Y) (T : Bis Y.X.mg) (hg : Gl Y.X "list") (ha : EvP Y s a (pu x)) (hx : x.length ≤ sizeLine) (q : ∀ p, Q (raw (.ref p)) ⟨s.ρ, (p, lstc (x.map fun c => [c])) :: s.gs⟩) (he : starEach [a] Y.X.env = (false, eval a Y.X.env) :: starEach [] Y.X.env := by rfl) : Ev Y s (.Call (.Name "list" p) [a] [] pos) Q :=
  ev_T1 (call_list_ofS ok.calm) hg (T.no _ (by decide)) PyProof.Rows.boot_list (.of ha fun F0 σ H F v e0 S r => ⟨x, by rw [show v = .str (toStr x) from r], hx, fun l hl => po_listO e0 S (signs_vs x) q l hl⟩) (by decide) (by decide) he
theorem evp_tuple1 (T : Bis Y.X.mg) (hg : Gl Y.X "tuple") (ha : EvP Y s a A) (hA : DL Y s A xs) (he : starEach [a] Y.X.env = (false, eval a Y.X.env) :: starEach [] Y.X.env := by rfl) : EvP Y s (.Call (.Name "tuple" p) [a] [] pos) (pu (PySem.W.Tup.mk xs)) :=
  evp_T1 call_tuple_of hg (T.no _ (by decide)) PyProof.Rows.boot_tuple ha (fun F0 σ H F v e0 S r => by
    obtain ⟨q, zs, h1, h2, h3⟩ := hA σ H F v S r
    exact ⟨q, zs, by rw [h1], .inl ⟨h2, fun l hl => ⟨upd F l (.tup zs), e0.trans (Ext.grow (S.free hl)), ⟨l, zs, rfl, .of upd_same, h3.mono (Ext.grow (S.free hl))⟩, S.newF hl rfl⟩⟩⟩) (by decide) (by decide) he
theorem evp_tupleH {xs : Tup α} (T : Bis Y.X.mg) (hg : Gl Y.X "tuple") (ha : EvP Y s a (pu xs)) (he : starEach [a] Y.X.env = (false, eval a Y.X.env) :: starEach [] Y.X.env := by rfl) : EvP Y s (.Call (.Name "tuple" p) [a] [] pos) (pu xs) :=
  evp_T1 call_tuple_of hg (T.no _ (by decide)) PyProof.Rows.boot_tuple ha (fun F0 σ H F v e0 S ⟨q, zs, h1, h2, h3⟩ => ⟨q, zs, by rw [h1], .inr ⟨sqT_ext h2 S.ext, F, e0, ⟨q, zs, rfl, h2, h3⟩, S⟩⟩) (by decide) (by decide) he
/-! xs + ys -/
theorem op_catF {X : Cx} : OpR X (binaryOp .Add) (fun x y H Q => ∃ p q xs ys, x = .ref p ∧ y = .ref q ∧ SqL X.K H p xs ∧ SqL X.K H q ys ∧ xs.length + ys.length ≤ sizeLine ∧ ∀ p, H p = none → Q (.ref p) (upd H p (.lst (xs ++ ys)))) := by
  intro pins s σ H x y v u Q I rx ry ⟨p, p2, zs, zs2, e, e2, hq, hq2, hs, q⟩
  subst e e2
  obtain ⟨its, rv, hl, hlen⟩ := I.list hq
  obtain ⟨its2, rv2, hl2, hlen2⟩ := I.list hq2
  obtain ⟨⟨cls, dd, data, sl⟩, ho, hc, n, hd⟩ := hl.isList
  obtain ⟨⟨cls2, dd2, data2, sl2⟩, ho2, hc2, n2, hd2⟩ := hl2.isList
  simp only at hc hd hc2 hd2
  subst hc hd hc2 hd2
  cases rx
  cases ry
  have e : its.toArray ++ its2.toArray = (its ++ its2).toArray := by simp
  have h1 : zs.length = its.length := Paired.length rv
  have h2 : zs2.length = its2.length := Paired.length rv2
  refine concat_meets ⟨_, ho, rfl⟩ ⟨_, ho2, rfl⟩ noFill_list_add seq_list_add PySem.F.slot_list_add PySem.F.entry_list_add (PySem.F.args_list_add_2 _ _) (PyProof.Rows.list_addW p p2 its.toArray its2.toArray n n2 dd dd2 sl sl2 (by simp only [List.size_toArray]; omega)) ⟨ho, ho2, ?_⟩
  rw [e]
  exact ⟨.ref _, _, I.lnew (t' := s.toks) (rv.append rv2) (by rw [List.length_append]; omega), rfl, q _ I.fresh⟩
theorem evp_cat (ha : EvP Y s a A) (hA : DL Y s A xs) (hb : EvP Y s b B) (hB : DL Y s B ys) (hs : xs.length + ys.length ≤ sizeLine) : EvP Y s (.BinOp a .Add b pos) (pu (xs ++ ys)) :=
  evp2 (pe_op op_catF pe_we pe_we) ha hb fun F0 σ H F v u e0 S r1 r2 => by
    obtain ⟨p, zs, h1, h2, h3⟩ := hA σ H F v S r1
    obtain ⟨q, ws, g1, g2, g3⟩ := hB σ H F u S r2
    have l1 : zs.length = xs.length := Paired.length h3
    have l2 : ws.length = ys.length := Paired.length g3
    exact ⟨p, q, zs, ws, h1, g1, h2, g2, by omega, fun l hl => pp_list e0 S (prd_app h3 g3) l hl⟩
theorem evp_catS {x y : List Nat} (ha : EvP Y s a (pu x)) (hb : EvP Y s b (pu y)) (hs : x.length + y.length ≤ sizeLine) : EvP Y s (.BinOp a .Add b pos) (pu (x ++ y)) :=
  evp2 (pe_op op_add_str pe_we pe_we) ha hb fun F0 σ H F v u e0 S r1 r2 => ⟨toStr x, toStr y, r1, r2, by rw [toStr_len, toStr_len]; exact hs, F, e0, by rw [toStr_app]; rfl, S⟩
/-! places of lists, owned or not -/
theorem evp_ixA {i : Int} {x : α} (hs : PlainIx b) (ha : EvP Y s a A) (hA : DL Y s A xs) (hb : EvP Y s b (pu i)) (hx : atI xs i = some x) : EvP Y s (.Subscript a b pos) (pu x) :=
  evp2 (pe_ix ix_list pe_we pe_we hs) ha hb fun F0 σ H F v u e0 S rv ru => by
    obtain ⟨p, vs, h1, h2, h3⟩ := hA σ H F v S rv
    obtain ⟨w, hw, rw'⟩ := atI_of h3 hx
    exact ⟨p, vs, i, w, h1, ru, h2, hw, F, e0, rw', S⟩
/-! slices -/
def cutD {γ : Type} (xs : List γ) (lo hi : Option Int) : List γ := (xs.drop (HT.sIx xs.length 0 lo)).take (HT.sIx xs.length xs.length hi - HT.sIx xs.length 0 lo)
/-- a part of a slice, quietly -/
def EvO (Y : DX) (s : DSt) (e : Option Expr) (i : Option Int) : Prop := ∀ F0 σ H F, Ext F0 F → Sta Y s σ H F → ∀ (pins : List (Addr × Obj)) (s1 : Shared), Inv Y.X pins σ H s1 →
  wpAny (model Y.X.prog Y.X.w) Y.X.A (evalPart e Y.X.env) (fun u s' => ∃ o H', Inv Y.X pins σ H' s' ∧ IsPart u o ∧ o = i ∧ ∃ F', Ext F0 F' ∧ Sta Y s σ H' F') Y.X.xe s1
theorem evo_no : EvO Y s none none := fun F0 σ H F e0 S pins s1 I => (po_none).run pins s1 σ H _ I ⟨rfl, F, e0, S⟩
theorem evo_at {i : Int} (h : EvP Y s e (pu i)) : EvO Y s (some e) (some i) := fun F0 σ H F e0 S pins s1 I => (po_some pe_we).run pins s1 σ H _ I ((h F0 σ H F e0 S).mono fun v H' ⟨F', e1, r, S'⟩ => ⟨i, r, rfl, F', e1, S'⟩)
structure WO (X : Cx) (e : Option Expr) (σ : St) (H : Hp) (Q : Option Int → Hp → Prop) : Prop where
  run : ∀ (pins : List (Addr × Obj)) (s1 : Shared), Inv X pins σ H s1 →
  wpAny (model X.prog X.w) X.A (evalPart e X.env) (fun u s' => ∃ o H', Inv X pins σ H' s' ∧ IsPart u o ∧ Q o H') X.xe s1
theorem po_wo {X : Cx} {e : Option Expr} : PO X e (WO X e) := ⟨fun pins s _ _ _ I h => h.run pins s I⟩
theorem evp_sl {r : V → Option Int → Option Int → Hp → VK → Prop} {lo hi : Option Expr} {i j : Option Int} {p2 : Pos} (hr : SlR Y.X r) (ha : EvP Y s a A) (hl : EvO Y s lo i) (hh : EvO Y s hi j)
    (h : ∀ F0 σ H F v, Ext F0 F → Sta Y s σ H F → A.rep Y.X.K F v → r v i j H (Pp Y s σ F0 B)) : EvP Y s (.Subscript a (.Slice lo hi none p2) pos) B := fun F0 σ H F e0 S => by
  refine .of (pe_slice hr pe_we po_wo po_wo) ?_
  refine (ha F σ H F (.refl _) S).mono fun v H1 ⟨F1, e1, r1, S1⟩ => ?_
  refine ⟨fun pins s1 I => ?_⟩
  refine thn (hl F1 σ H1 F1 (.refl _) S1 pins s1 I) fun u s2 ⟨o, H2, I2, p2, eo, F2, e2, S2⟩ => ⟨o, H2, I2, p2, ?_⟩
  subst eo
  refine ⟨fun pins' s1' I' => ?_⟩
  refine thn (hh F2 σ H2 F2 (.refl _) S2 pins' s1' I') fun u' s3 ⟨o', H3, I3, p3, eo', F3, e3, S3⟩ => ⟨o', H3, I3, p3, ?_⟩
  subst eo'
  exact h F0 σ H3 F3 v (((e0.trans e1).trans e2).trans e3) S3 (A.mono r1 (e2.trans e3))
theorem toStr_cut (x : List Nat) (i j : Option Int) : cutS (toStr x) i j = toStr (cutD x i j) := by
  unfold cutS cutD
  rw [toStr_cps, toStr_len]
  rfl
theorem evp_slS {x : List Nat} {lo hi : Option Expr} {i j : Option Int} {p2 : Pos} (ha : EvP Y s a (pu x)) (hz : x.length ≤ sizeLine) (hl : EvO Y s lo i) (hh : EvO Y s hi j) : EvP Y s (.Subscript a (.Slice lo hi none p2) pos) (pu (cutD x i j)) :=
  evp_sl sl_str ha hl hh fun F0 σ H F v e0 S r => ⟨toStr x, r, by rw [toStr_len]; exact hz, F, e0, by rw [toStr_cut]; rfl, S⟩
theorem cut_vs {K : Frag} {F : Hp} {vs : List V} {xs : List α} (h : Vs K F vs xs) (i j : Option Int) : Vs K F (cutV vs i j) (cutD xs i j) := by
  unfold cutV cutD
  rw [show vs.length = xs.length from Paired.length h]
  exact prd_take (prd_drop h _) _
theorem evp_slL {lo hi : Option Expr} {i j : Option Int} {p2 : Pos} (ha : EvP Y s a A) (hA : DL Y s A xs) (hl : EvO Y s lo i) (hh : EvO Y s hi j) : EvP Y s (.Subscript a (.Slice lo hi none p2) pos) (pu (cutD xs i j)) :=
  evp_sl sl_list ha hl hh fun F0 σ H F v e0 S r => by
    obtain ⟨q, zs, h1, h2, h3⟩ := hA σ H F v S r
    exact ⟨q, zs, h1, h2, fun l hl => pp_list e0 S (cut_vs h3 i j) l hl⟩
theorem cutV_all {vs : List V} {i j : Option Int} (h : HT.sIx vs.length 0 i = 0 ∧ HT.sIx vs.length vs.length j = vs.length) : cutV vs i j = vs := by
  unfold cutV
  rw [h.1, h.2]
  simp
theorem evp_slH {xs : Tup α} {lo hi : Option Expr} {i j : Option Int} {p2 : Pos} (ha : EvP Y s a (pu xs)) (hl : EvO Y s lo i) (hh : EvO Y s hi j) : EvP Y s (.Subscript a (.Slice lo hi none p2) pos) (pu (PySem.W.Tup.mk (cutD xs.items i j))) :=
  evp_sl sl_tupA ha hl hh fun F0 σ H F v e0 S ⟨q, zs, h1, h2, h3⟩ => ⟨q, zs, h1, sqT_ext h2 S.ext, fun k => ⟨F, e0, ⟨q, zs, rfl, h2, by have := cut_vs h3 i j; rw [cutV_all k] at this; exact this⟩, S⟩,
    fun _ l hl => ⟨upd F l (.tup (cutV zs i j)), e0.trans (Ext.grow (S.free hl)), ⟨l, _, rfl, .of upd_same, (cut_vs h3 i j).mono (Ext.grow (S.free hl))⟩, S.newF hl rfl⟩⟩
end
/-! ### methods of lists -/
theorem tyV_list {K : Frag} {H : Hp} {p : Addr} {xs : List V} (h : SqL K H p xs) : tyV K "list" (.ref p) H := .inl ⟨rfl, xs, h⟩
/-- o.m(e), quietly -/
theorem evp_m1 {T id : String} {name : Str} {A B C : Pv} {r : V → List V → Hp → VK → Prop} (pa : PlainAttrs T) (slot : Slot T name id) (hty : typeOf (.builtin id) = pure (.type "method_descriptor")) (hm : MtR Y.X id r) (ho : EvP Y s o A) (he : EvP Y s e B)
    (ht : ∀ σ H F v, Sta Y s σ H F → A.rep Y.X.K F v → tyV Y.X.K T v H) (h : ∀ F0 σ H F v u, Ext F0 F → Sta Y s σ H F → A.rep Y.X.K F v → B.rep Y.X.K F u → r v [u] H (Pp Y s σ F0 C))
    (hbase : attributeBase o name Y.X.env (eval o Y.X.env) = eval o Y.X.env)
    (hfew : ((backTo pos (starEach [e] Y.X.env)).all (fun x => !x.1) && (backToKw pos (keywordEach [] Y.X.env)).all (fun x => x.1.isSome)
      && decide (([e] : List Expr).length + ([] : List Keyword).length + (if ([] : List Keyword).isEmpty then 0 else 1) < 30)) = true)
    (hline : (apos.endLine == pos.line) = true) (hs : starEach [e] Y.X.env = (false, eval e Y.X.env) :: starEach [] Y.X.env) : EvP Y s (.Call (.Attribute o name apos) [e] [] pos) C := fun F0 σ H F e0 S => by
  refine .of (pe_bm pa slot hty hm pe_we (pa_cons pe_we pa_nil hs) hbase hfew hline hs (by rfl)) ?_
  refine (ho F σ H F (.refl _) S).mono fun v H1 ⟨F1, e1, r1, S1⟩ => ⟨ht _ _ _ _ S1 r1, ?_⟩
  refine (he F1 σ H1 F1 (.refl _) S1).mono fun u H2 ⟨F2, e2, r2, S2⟩ => ?_
  exact h F0 σ H2 F2 v u ((e0.trans e1).trans e2) S2 (A.mono r1 e2) r2
theorem evp_m0 {T id : String} {name : Str} {A C : Pv} {r : V → List V → Hp → VK → Prop} (pa : PlainAttrs T) (slot : Slot T name id) (hty : typeOf (.builtin id) = pure (.type "method_descriptor")) (hm : MtR Y.X id r) (ho : EvP Y s o A)
    (ht : ∀ σ H F v, Sta Y s σ H F → A.rep Y.X.K F v → tyV Y.X.K T v H) (h : ∀ F0 σ H F v, Ext F0 F → Sta Y s σ H F → A.rep Y.X.K F v → r v [] H (Pp Y s σ F0 C))
    (hbase : attributeBase o name Y.X.env (eval o Y.X.env) = eval o Y.X.env) (hline : (apos.endLine == pos.line) = true) : EvP Y s (.Call (.Attribute o name apos) [] [] pos) C := fun F0 σ H F e0 S => by
  refine .of (pe_bm0 pa slot hty hm pe_we hbase hline) ?_
  refine (ho F0 σ H F e0 S).mono fun v H1 ⟨F1, e1, r1, S1⟩ => ⟨ht _ _ _ _ S1 r1, ?_⟩
  exact h F0 σ H1 F1 v e1 S1 r1
end
end Sp
set_option maxHeartbeats 4000000
/-! Sp: methods of lists and texts; sources; dicts. -/
namespace Sp
open PySem L2
open PySem.W (Datum DatumOrd SomeDatum)
section
variable {Y : DX} {s : DSt} {e a b c d o : Expr} {es : List Expr} {pos p apos : Pos} {Q : Pv → DSt → Prop}
/-- what must be seen of the text of o.m(e) -/
structure Mx1 (X : Cx) (o : Expr) (m : Str) (apos : Pos) (e : Expr) (pos : Pos) : Prop where
  base : attributeBase o m X.env (eval o X.env) = eval o X.env
  few : ((backTo pos (starEach [e] X.env)).all (fun x => !x.1) && (backToKw pos (keywordEach [] X.env)).all (fun x => x.1.isSome)
      && decide (([e] : List Expr).length + ([] : List Keyword).length + (if ([] : List Keyword).isEmpty then 0 else 1) < 30)) = true
  line : (apos.endLine == pos.line) = true
  star : starEach [e] X.env = (false, eval e X.env) :: starEach [] X.env
structure Mx0 (X : Cx) (o : Expr) (m : Str) (apos : Pos) (pos : Pos) : Prop where
  base : attributeBase o m X.env (eval o X.env) = eval o X.env
  line : (apos.endLine == pos.line) = true
section
variable {α : Type} [DecidableEq α] [Enc α] [Datum α] [Dat α] {A B : Pv} {x : α} {xs ys : List α}
theorem DL.ty {A : Pv} {xs : List α} (h : DL Y s A xs) : ∀ σ H F v, Sta Y s σ H F → A.rep Y.X.K F v → tyV Y.X.K "list" v H := fun σ H F v S r => by
  obtain ⟨q, zs, h1, h2, h3⟩ := h σ H F v S r
  subst h1
  exact tyV_list h2
theorem DL.rd {A : Pv} {xs : List α} (h : DL Y s A xs) {σ : St} {H F : Hp} {v : V} (S : Sta Y s σ H F) (r : A.rep Y.X.K F v) : LRd Y.X.K H v xs := by
  obtain ⟨q, zs, h1, h2, h3⟩ := h σ H F v S r
  exact ⟨q, zs, h1, h2, h3.mono S.ext⟩
theorem evp_count (ok : YOk Y) (ho : EvP Y s o A) (hA : DL Y s A xs) (he : EvP Y s e (pu x)) (m : Mx1 Y.X o "count" apos e pos) (hd : Datum.depth α ≤ 60 := by decide) : EvP Y s (.Call (.Attribute o "count" apos) [e] [] pos) (pu (cnt xs x : Int)) :=
  evp_m1 PySem.F.plainAttrs_list PySem.F.slot_list_count PySem.F.type_list_count (mt_countT (α := α) ok.room.units hd) ho he hA.ty (fun F0 σ H F v u e0 S r1 r2 => ⟨x, xs, u, rfl, Enc.mono (α := α) r2 S.ext, hA.rd S r1, F, e0, rfl, S⟩) m.base m.few m.line m.star
theorem evp_index (ok : YOk Y) (ho : EvP Y s o A) (hA : DL Y s A xs) (he : EvP Y s e (pu x)) (hm : x ∈ xs) (m : Mx1 Y.X o "index" apos e pos) (hd : Datum.depth α ≤ 60 := by decide) : EvP Y s (.Call (.Attribute o "index" apos) [e] [] pos) (pu (idx xs x : Int)) :=
  evp_m1 PySem.F.plainAttrs_list PySem.F.slot_list_index PySem.F.type_list_index (mt_indexT (α := α) ok.room.units hd) ho he hA.ty (fun F0 σ H F v u e0 S r1 r2 => ⟨x, xs, u, rfl, Enc.mono (α := α) r2 S.ext, hA.rd S r1, hm, F, e0, rfl, S⟩) m.base m.few m.line m.star
/-- an owned list's methods -/
theorem ev_m1O {T id : String} {name : Str} {B : Pv} {r : V → List V → Hp → VK → Prop} (pa : PlainAttrs T) (slot : Slot T name id) (hty : typeOf (.builtin id) = pure (.type "method_descriptor")) (hm : MtR Y.X id r) (ho : EvP Y s o A) (he : EvP Y s e B)
    (ht : ∀ σ H F v, Sta Y s σ H F → A.rep Y.X.K F v → tyV Y.X.K T v H) (h : ∀ F0 σ H F v u, Ext F0 F → Sta Y s σ H F → A.rep Y.X.K F v → B.rep Y.X.K F u → r v [u] H (Po Y σ F0 Q))
    (m : Mx1 Y.X o name apos e pos) : Ev Y s (.Call (.Attribute o name apos) [e] [] pos) Q := fun F0 σ H F e0 S => by
  refine .of (pe_bm pa slot hty hm pe_we (pa_cons pe_we pa_nil m.star) m.base m.few m.line m.star (by rfl)) ?_
  refine (ho F σ H F (.refl _) S).mono fun v H1 ⟨F1, e1, r1, S1⟩ => ⟨ht _ _ _ _ S1 r1, ?_⟩
  refine (he F1 σ H1 F1 (.refl _) S1).mono fun u H2 ⟨F2, e2, r2, S2⟩ => ?_
  exact h F0 σ H2 F2 v u ((e0.trans e1).trans e2) S2 (A.mono r1 e2) r2
/-- rules of H as rules of F -/
theorem mt_removeF {X : Cx} (hu : X.A.units + 64 < cLine) (hd : Datum.depth α ≤ 60) : MtR X "list.remove" (fun y vs H Q => ∃ (F : Hp) (a : α) (xs : List α) (x : V) (p : Addr) (zs : List V), vs = [x] ∧ y = .ref p ∧ Enc.rep X.K H x a ∧ H p = some (.lst zs) ∧ Vs X.K F zs xs ∧ Ext F H ∧ a ∈ xs ∧
    ∀ zs', Vs X.K F zs' (xs.erase a) → Q .non (upd H p (.lst zs'))) := by
  intro pins s σ H y vs u us Q I ry rxs ⟨F, a, xs, x, p, zs, ev, e, ha, hp, hz, ex, hm, q⟩
  subst e ev
  obtain ⟨ux, rfl, rx⟩ := rxs.one
  obtain ⟨z, its, n, rv, hl, eo⟩ := I.lstM hp
  cases ry
  obtain ⟨j, h1, h2, h3⟩ := erase_place hm
  refine PySem.W.remove_list_datum (vs := its.toArray) ⟨_, eo, rfl, n, rfl⟩ (vs_holds I (hz.mono ex) rv) (enc_holds I ha rx) (by omega) h1 h2 (by rw [List.size_toArray]; omega) ?_
  have hj : j < xs.length := (List.getElem?_eq_some_iff.mp h1).1
  have hls : xs.length = zs.length := (Paired.length hz).symm
  refine ⟨.non, upd H p (.lst (zs.eraseIdx j)), I.lset (its' := its.eraseIdx j) (t' := s.toks) hp eo ?_ (rv.eraseIdx j) ?_, rfl, q _ ?_⟩
  · rw [List.eraseIdxIfInBounds_toArray]
  · rw [List.length_eraseIdx]
    split <;> omega
  · rw [h3]
    exact prd_erase hz j
theorem not_codeL {o : HO} {vs : List V} (h : o = .lst vs) : ∀ c q, o ≠ LamX.CodeO c q := fun c q z => by rw [h] at z; cases z
theorem not_codeD {o : HO} {vs : List (Key × V)} (h : o = .dK vs) : ∀ c q, o ≠ LamX.CodeO c q := fun c q z => by rw [h] at z; cases z
theorem ev_remove {q : Addr} (ok : YOk Y) (i : Nat) (hi : s.gs[i]? = some (q, lstc xs)) (ho : EvP Y s o (raw (.ref q))) (he : EvP Y s e (pu x)) (hx : x ∈ xs) (m : Mx1 Y.X o "remove" apos e pos) (k : Q (pu ()) ⟨s.ρ, s.gs.set i (q, lstc (eras xs x))⟩) (hd : Datum.depth α ≤ 60 := by decide) :
    Ev Y s (.Call (.Attribute o "remove" apos) [e] [] pos) Q :=
  ev_m1O PySem.F.plainAttrs_list PySem.F.slot_list_remove PySem.F.type_list_remove (mt_removeF (α := α) ok.room.units hd) ho he (DL.own (α := α) i hi).ty (fun F0 σ H F v u e0 S r1 r2 => by
    obtain ⟨hF, oo, hoo, _, vs, eo, rv⟩ := S.cell hi
    subst eo
    exact ⟨F, x, xs, u, q, vs, rfl, r1, Enc.mono (α := α) r2 S.ext, hoo, rv, S.ext, hx, fun zs' hz' => ⟨pu (), _, F, e0, rfl, S.write (c' := lstc (xs.erase x)) hi hoo (not_codeL rfl) rfl ⟨zs', rfl, hz'⟩, k⟩⟩) m
end
section
variable {α : Type} [Enc α] {A B : Pv} {x : α} {xs ys : List α}
theorem ev_append {q : Addr} (i : Nat) (hi : s.gs[i]? = some (q, lstc xs)) (ho : EvP Y s o (raw (.ref q))) (he : EvP Y s e (pu x)) (hz : xs.length < sizeLine) (m : Mx1 Y.X o "append" apos e pos) (k : Q (pu ()) ⟨s.ρ, s.gs.set i (q, lstc (xs ++ [x]))⟩) :
    Ev Y s (.Call (.Attribute o "append" apos) [e] [] pos) Q :=
  ev_m1O PySem.F.plainAttrs_list PySem.F.slot_list_append PySem.F.type_list_append mt_append ho he (fun σ H F v S r => by
    obtain ⟨p, vs, h1, h2, h3⟩ := DL.own (α := α) i hi σ H F v S r
    subst h1
    exact tyV_list h2) (fun F0 σ H F v u e0 S r1 r2 => by
    obtain ⟨hF, oo, hoo, _, vs, eo, rv⟩ := S.cell hi
    subst eo
    exact ⟨q, vs, u, r1, rfl, hoo, by rw [show vs.length = xs.length from Paired.length rv]; exact hz, pu (), _, F, e0, rfl, S.write (c' := lstc (xs ++ [x])) hi hoo (not_codeL rfl) rfl ⟨_, rfl, rv.snoc r2⟩, k⟩) m
end
/-! texts -/
theorem tyV_str {K : Frag} {H : Hp} {x : List Nat} {v : V} (h : (pu x).rep K H v) : tyV K "str" v H := by
  have h' : v = .str (toStr x) := h
  subst h'
  rfl
end
end Sp
set_option maxHeartbeats 4000000
/-! Sp: sorted texts and dicts; dicts; sources; texts' methods. -/
namespace Sp
open PySem L2
open PySem.W (Datum DatumOrd SomeDatum)
/-- data that stand by themselves -/
class FlatV (α : Type) [Enc α] where
  z : α → V
  rep : ∀ {K : Frag} {F : Hp} (a : α), Enc.rep K F (z a) a
instance : FlatV Int := ⟨V.int, fun _ => rfl⟩
instance : FlatV (List Nat) := ⟨fun x => V.str (toStr x), fun _ => rfl⟩
instance : FlatV Bool := ⟨V.bl, fun _ => rfl⟩
theorem flat_vs {α : Type} [Enc α] [FlatV α] {K : Frag} {F : Hp} : ∀ xs : List α, Vs K F (xs.map FlatV.z) xs
  | [] => .nil
  | a :: r => .cons (FlatV.rep a) (flat_vs r)
section
variable {X : Cx} {α : Type} [DecidableEq α] [Enc α] [DatumOrd α] [Dat α] [Srtb α] [FlatV α]
theorem each_flat : ∀ {us : List Value} {bs : List α}, Vals (bs.map FlatV.z) us → PySem.W.EachIs (fun v b => RelV (FlatV.z b) v) us bs
  | [], [], _ => .nil
  | _ :: _, [], h => by cases h
  | [], _ :: _, h => by cases h
  | _ :: _, _ :: _, h => by
    cases h with
    | cons r t => exact .cons r (each_flat t)
theorem flat_each : ∀ {us : List Value} {bs : List α}, PySem.W.EachIs (fun v b => RelV (FlatV.z b) v) us bs → Vals (bs.map FlatV.z) us
  | _, _, .nil => .nil
  | _, _, .cons r t => .cons r (flat_each t)
class FlatR (α : Type) [DecidableEq α] [Enc α] [FlatV α] [Datum α] : Prop where
  rd : ∀ {h : Heap} {v : Value} (a : α), RelV (FlatV.z a) v → Reads h v (Datum.toD a) []
instance : FlatR Int := ⟨fun a r => by obtain ⟨t, e⟩ := r; subst e; exact Reads.int a t⟩
instance : FlatR (List Nat) := ⟨fun a r => by obtain ⟨t, e⟩ := r; subst e; exact Reads.str (toStr a) t⟩
theorem sorted_flat [FlatR α] {pins : List (Addr × Obj)} {s : Shared} {σ : St} {H : Hp} {Q : VK} {src : Value} {bs : List α} (I : Inv X pins σ H s) (hu : X.A.units + 64 < cLine) (hd : Datum.depth α ≤ 60) (hL : bs.length ≤ sizeLine)
    (hc : ∀ R : List Value → Shared → Prop, (∀ h' tk us, (∀ b o, s.heap.get? b = some o → h'.get? b = some o) → Vals (bs.map FlatV.z) us → R us { s with heap := h', toks := tk }) → wpAny (model X.prog X.w) X.A.in1 (collect src) R X.xe s)
    (q : ∀ p, H p = none → Q (.ref p) (upd H p (.lst ((srt bs).map FlatV.z)))) : wpAny (model X.prog X.w) X.A (call (.builtin "sorted") [src]) (EP X pins σ Q) X.xe s := by
  refine Calls.call_function_entry PyProof.Rows.kind_sorted PyProof.Rows.plain_sorted PyProof.Rows.entry_sorted (PyProof.Rows.args_sorted1 _) ?_
  unfold Builtin.«sorted»
  refine wpAny_bind (m := checkCount "sorted" 1 1 _) (wpAny_pure ?_)
  refine wpAny_bind (hc _ fun h' tk us hk hv => ?_)
  have hl : us.length = bs.length := by have := hv.length; rw [List.length_map] at this; exact this.symm
  have I1 : Inv X pins σ H { s with heap := h', toks := tk } := I.kept hk
  refine wpAny_bind (wpAny_newList ?_ (by rw [hl]; exact hL))
  have hoL : (h'.push (PyProof.Rows.seqObj "list" us.toArray 0)).get? h'.objs.size = some (PyProof.Rows.seqObj "list" us.toArray 0) := Heap.get?_push_size _ rfl
  show wpAny _ _ _ _ _ { s with heap := h'.push (PyProof.Rows.seqObj "list" us.toArray 0), toks := tk }
  refine wpAny_bind (wpAny_holding (PySem.W.list_sort_data (enc := Datum.toD) (s := { s with heap := h'.push (PyProof.Rows.seqObj "list" us.toArray 0), toks := tk }) hoL (each_flat hv)
    ((each_flat hv).mono fun v b r => ⟨[], FlatR.rd b r, by simp⟩) (sort_alike bs) (sort_able bs) hL (fun b _ => by have := Datum.depth_le b; show X.A.units + 1 + 1 + _ < _; omega) fun out h1 h2 => ?_))
  rw [srt_eq] at h2
  obtain ⟨e', he'⟩ := PyProof.Rows.sortedHeap_at (vs := us) (out := out.toArray) hoL
  have h3 := flat_each h2
  have hlen : ((srt bs).map FlatV.z).length ≤ sizeLine := by rw [h3.length, h1]; exact hL
  refine wpAny_pure ⟨_, rfl, .ref h'.objs.size, upd H h'.objs.size (.lst ((srt bs).map FlatV.z)), I1.laid (t' := tk) (fun b u e => ?_) (Nat.le_refl _)
    (show ObjOk X.prog X.w _ _ _ (.lst ((srt bs).map FlatV.z)) from ⟨hlen, out, e', h3, he'⟩), rfl, q _ (I1.hok.fresh (Nat.le_refl _))⟩
  have hb : b < h'.objs.size := Heap.lt_size e
  rw [PyProof.Rows.sortedHeap_old (Nat.ne_of_lt hb) (by rw [PyProof.Rows.size_push']; exact Nat.lt_succ_of_lt hb)]
  exact Heap.get?_push_of_some _ e
end
theorem vals_signs {x : List Nat} {acc : Array Value} (hi : ItemsOf (SignAt (toStr x)) acc (toStr x).cps.size) : Vals ((x.map fun c => [c]).map FlatV.z) acc.toList := by
  have hsz : acc.toList.length = x.length := by
    have := hi.1
    simpa [toStr] using this
  refine prd_of (by rw [List.length_map, List.length_map]; omega) fun i a b ha hb => ?_
  rw [List.map_map, List.getElem?_map] at ha
  cases q1 : x[i]? with
  | none => rw [q1] at ha; cases ha
  | some c =>
    rw [q1] at ha
    cases ha
    obtain ⟨c', u, h8, h9⟩ := hi.2 i b (by simpa using hb)
    have : x[i]? = some c' := by simpa [toStr] using h8
    rw [q1] at this
    cases this
    exact ⟨u, h9⟩
theorem cr_sortedTxt {X : Cx} (hc : X.calm = true) (hu : X.A.units + 64 < cLine) : CallR X (.builtin "sorted") (fun vs H Q => ∃ x : List Nat, vs = [.str (toStr x)] ∧ x.length ≤ sizeLine ∧ ∀ p, H p = none → Q (.ref p) (upd H p (.lst ((srt (x.map fun c => [c])).map FlatV.z)))) := by
  intro pins s σ H vs us Q I r ⟨x, ev, hx, q⟩
  subst ev
  obtain ⟨u, rfl, ru⟩ := vals1 r
  obtain ⟨t, rfl⟩ := ru
  refine sorted_flat (bs := x.map fun c => [c]) I hu (by decide) (by rw [List.length_map]; exact hx) (fun R k => ?_) q
  refine wpAny_collect_str (A := X.A.in1) (I.ok.hd hc) (toStr x) t (fun s' acc hk h1 h2 h3 hi => ?_) (by simpa [toStr] using hx)
  obtain ⟨hp, g, d, tk, os⟩ := s'
  simp only at hk h1 h2 h3
  subst h1 h2 h3
  exact k hp tk _ hk (vals_signs hi)
/-! ### dicts by data -/
section
variable {κ ν : Type} [DecidableEq κ]
/-- what stands at k -/
def dval (d : List (κ × ν)) (k : κ) : Option ν := (d.find? fun kv => decide (kv.1 = k)).map (·.2)
/-- in its place, or at the end -/
def dput (d : List (κ × ν)) (k : κ) (v : ν) : List (κ × ν) := if (d.any fun kv => decide (kv.1 = k)) = true then d.map (fun kv => if kv.1 = k then (kv.1, v) else kv) else d ++ [(k, v)]
def ddrop (d : List (κ × ν)) (k : κ) : List (κ × ν) := d.filter fun kv => decide (kv.1 ≠ k)
def dmerge (d more : List (κ × ν)) : List (κ × ν) := more.foldl (fun acc kv => dput acc kv.1 kv.2) d
end
section
variable {κ ν : Type} [DecidableEq κ] [Kk κ] [Enc ν] {K : Frag} {F : Hp}
theorem key_iff {a b : κ} : Kk.key a = Kk.key b ↔ a = b := ⟨Kk.inj, fun h => by rw [h]⟩
theorem kvs_val {zs : List (Key × V)} {d : List (κ × ν)} (h : KVs K F zs d) (k : κ) : (dval d k = none ∧ valV zs (Kk.key k) = none) ∨ ∃ v x, dval d k = some x ∧ valV zs (Kk.key k) = some v ∧ Enc.rep K F v x := by
  induction h with
  | nil => exact .inl ⟨rfl, rfl⟩
  | @cons p q zs d r t ih =>
    by_cases e : q.1 = k
    · refine .inr ⟨p.2, q.2, ?_, ?_, r.2⟩
      · simp [dval, List.find?_cons, e]
      · exact valV_pos (by rw [r.1, e])
    · have e' : ¬ p.1 = Kk.key k := fun z => e (Kk.inj (r.1.symm.trans z))
      rw [valV_neg e']
      have : dval (q :: d) k = dval d k := by simp [dval, List.find?_cons, e]
      rw [this]
      exact ih
theorem kvs_any {zs : List (Key × V)} {d : List (κ × ν)} (h : KVs K F zs d) (k : κ) : (zs.any fun kv => decide (kv.1 = Kk.key k)) = d.any fun kv => decide (kv.1 = k) := by
  induction h with
  | nil => rfl
  | @cons p q zs d r t ih =>
    rw [List.any_cons, List.any_cons, ih]
    congr 1
    rw [r.1]
    exact decide_eq_decide.mpr key_iff
theorem kvs_put {zs : List (Key × V)} {d : List (κ × ν)} (h : KVs K F zs d) {k : κ} {v : V} {x : ν} (r : Enc.rep K F v x) : KVs K F (putK zs (Kk.key k) v) (dput d k x) := by
  unfold putK dput
  rw [kvs_any h]
  by_cases e : (d.any fun kv => decide (kv.1 = k)) = true
  · rw [if_pos e, if_pos e]
    refine prd_map h fun a b q => ?_
    by_cases z : b.1 = k
    · rw [if_pos z, if_pos (by rw [q.1, z])]
      exact ⟨q.1, r⟩
    · rw [if_neg z, if_neg (fun y => z (Kk.inj (q.1.symm.trans y)))]
      exact q
  · rw [if_neg e, if_neg e]
    exact prd_app h (.cons ⟨rfl, r⟩ .nil)
theorem kvs_merge {ws : List (Key × V)} {e : List (κ × ν)} (k : KVs K F ws e) : ∀ {zs : List (Key × V)} {d : List (κ × ν)}, KVs K F zs d → KVs K F (mergeK zs ws) (dmerge d e) := by
  unfold mergeK dmerge
  induction k with
  | nil => exact fun h => h
  | @cons p q ws e r t ih =>
    intro zs d h
    rw [List.foldl_cons, List.foldl_cons]
    refine ih ?_
    rw [r.1]
    exact kvs_put h r.2
theorem kvs_drop {zs : List (Key × V)} {d : List (κ × ν)} (h : KVs K F zs d) (k : κ) : KVs K F (dropK zs (Kk.key k)) (ddrop d k) := by
  unfold dropK ddrop
  induction h with
  | nil => exact .nil
  | @cons p q zs d r t ih =>
    by_cases z : q.1 = k
    · have z' : p.1 = Kk.key k := by rw [r.1, z]
      rw [List.filter_cons_of_neg (p := fun kv : κ × ν => decide (kv.1 ≠ k)) (by simp [z]), List.filter_cons_of_neg (p := fun kv : Key × V => decide (kv.1 ≠ Kk.key k)) (by simp [z'])]
      exact ih
    · have z' : ¬ p.1 = Kk.key k := fun y => z (Kk.inj (r.1.symm.trans y))
      rw [List.filter_cons_of_pos (p := fun kv : κ × ν => decide (kv.1 ≠ k)) (by simp [z]), List.filter_cons_of_pos (p := fun kv : Key × V => decide (kv.1 ≠ Kk.key k)) (by simp [z'])]
      exact .cons r ih
end
/-- a key's value -/
class KkV (κ : Type) [Kk κ] [Enc κ] : Prop where
  rep : ∀ {K : Frag} {F : Hp} (k : κ), Enc.rep K F (kV (Kk.key k)) k
  of : ∀ {K : Frag} {F : Hp} {v : V} {k : κ}, Enc.rep K F v k → v = kV (Kk.key k)
instance : KkV Int := ⟨fun _ => rfl, fun h => h⟩
instance : KkV (List Nat) := ⟨fun _ => rfl, fun h => h⟩
section
variable {Y : DX} {s : DSt} {e a b c d o : Expr} {es : List Expr} {pos p apos : Pos} {Q : Pv → DSt → Prop}
variable {κ ν : Type} [DecidableEq κ] [Kk κ] [Enc κ] [KkV κ] [Enc ν] {A B : Pv} {m : List (κ × ν)} {k : κ} {x : ν}
/-- A reads as a dict just now, its values frozen -/
def DF (Y : DX) (s : DSt) {κ ν : Type} [Kk κ] [Enc ν] (A : Pv) (d : List (κ × ν)) : Prop := ∀ σ H F v, Sta Y s σ H F → A.rep Y.X.K F v → ∃ p kvs, v = .ref p ∧ Rd H p (.dK kvs) ∧ KVs Y.X.K F kvs d
theorem DF.pu {d : Dct κ ν} : DF Y s (pu d) d.kvs := fun σ H F v S ⟨p, od, kvs, e, hp, r⟩ => ⟨p, kvs, e, .inr ⟨od, S.ext _ _ hp⟩, r⟩
theorem DF.own {d : List (κ × ν)} {p : Addr} (i : Nat) (h : s.gs[i]? = some (p, dctc d)) : DF Y s (raw (.ref p)) d := fun σ H F v S r => by
  obtain ⟨_, o, ho, _, vs, eo, rv⟩ := S.cell h
  subst eo
  exact ⟨p, vs, r, .inl ho, rv⟩
/-- d[k] -/
theorem evp_dget (ok : YOk Y) (ha : EvP Y s a A) (hA : DF Y s A m) (hb : EvP Y s b (pu k)) (hx : dval m k = some x) (hs : NoSl b) : EvP Y s (.Subscript a b pos) (pu x) := fun F0 σ H F e0 S => by
  refine .of (pe_dget (by have := ok.room.units; omega) pe_we pe_we hs) ?_
  refine (ha F σ H F (.refl _) S).mono fun v H1 ⟨F1, e1, r1, S1⟩ => ?_
  refine (hb F1 σ H1 F1 (.refl _) S1).mono fun u H2 ⟨F2, e2, r2, S2⟩ => ?_
  obtain ⟨q, zs, ev, hr, hz⟩ := hA σ H2 F2 v S2 (A.mono r1 e2)
  rcases kvs_val hz k with ⟨h1, _⟩ | ⟨w, y, h1, h2, h3⟩
  · rw [hx] at h1; cases h1
  · rw [hx] at h1
    cases h1
    exact ⟨q, w, ev, .inl ⟨zs, Kk.key k, hr, KkV.of r2, h2.symm⟩, F2, (e0.trans e1).trans e2, h3, S2⟩
/-- d.get(k, y) -/
theorem evp_dget2 {f : Expr} {y : ν} (ok : YOk Y) (ho : EvP Y s o A) (hA : DF Y s A m) (he : EvP Y s e (pu k)) (hf : EvP Y s f (pu y)) (M : M2 Y.X o "get" apos e f pos) : EvP Y s (.Call (.Attribute o "get" apos) [e, f] [] pos) (pu ((dval m k).getD y)) := fun F0 σ H F e0 S => by
  refine .of (pe_dget2 (by have := ok.room.units; omega) pe_we pe_we pe_we M) ?_
  refine (ho F σ H F (.refl _) S).mono fun v H1 ⟨F1, e1, r1, S1⟩ => ?_
  obtain ⟨q, zs, ev, hr, hz⟩ := hA σ H1 F1 v S1 r1
  refine ⟨q, ev, .inl ⟨zs, hr⟩, ?_⟩
  refine (he F1 σ H1 F1 (.refl _) S1).mono fun u H2 ⟨F2, e2, r2, S2⟩ => ?_
  refine (hf F2 σ H2 F2 (.refl _) S2).mono fun w H3 ⟨F3, e3, r3, S3⟩ => ?_
  obtain ⟨q', zs', ev', hr', hz'⟩ := hA σ H3 F3 v S3 (A.mono r1 (e2.trans e3))
  have eq : q' = q := by rw [ev] at ev'; cases ev'; rfl
  subst eq
  refine ⟨valV zs' (Kk.key k), .inl ⟨zs', Kk.key k, hr', KkV.of r2, rfl⟩, F3, ((e0.trans e1).trans e2).trans e3, ?_, S3⟩
  rcases kvs_val hz' k with ⟨h1, h2⟩ | ⟨w', y', h1, h2, h3⟩
  · rw [h1, h2]; exact r3
  · rw [h1, h2]; exact h3
theorem evp_dget1 (ok : YOk Y) (ho : EvP Y s o A) (hA : DF Y s A m) (he : EvP Y s e (pu k)) (M : M1 Y.X o "get" apos e pos) : EvP Y s (.Call (.Attribute o "get" apos) [e] [] pos) (pu (dval m k)) := fun F0 σ H F e0 S => by
  refine .of (pe_dget1 (by have := ok.room.units; omega) pe_we pe_we M) ?_
  refine (ho F σ H F (.refl _) S).mono fun v H1 ⟨F1, e1, r1, S1⟩ => ?_
  obtain ⟨q, zs, ev, hr, hz⟩ := hA σ H1 F1 v S1 r1
  refine ⟨q, ev, .inl ⟨zs, hr⟩, ?_⟩
  refine (he F1 σ H1 F1 (.refl _) S1).mono fun u H2 ⟨F2, e2, r2, S2⟩ => ?_
  obtain ⟨q', zs', ev', hr', hz'⟩ := hA σ H2 F2 v S2 (A.mono r1 e2)
  have eq : q' = q := by rw [ev] at ev'; cases ev'; rfl
  subst eq
  refine ⟨valV zs' (Kk.key k), .inl ⟨zs', Kk.key k, hr', KkV.of r2, rfl⟩, F2, (e0.trans e1).trans e2, ?_, S2⟩
  rcases kvs_val hz' k with ⟨h1, h2⟩ | ⟨w', y', h1, h2, h3⟩
  · rw [h1, h2]; rfl
  · rw [h1, h2]; exact h3
/-- k in d -/
def dhas (m : List (κ × ν)) (k : κ) : Bool := (dval m k).isSome
theorem cmp_inD (ok : YOk Y) (ha : EvP Y s a (pu k)) (hb : EvP Y s b B) (hB : DF Y s B m) : CmpP Y s .In a b (dhas m k) := fun F0 σ H F e0 S => by
  refine .of (pc_din (by have := ok.room.units; omega) pe_we pe_we) ?_
  refine (ha F σ H F (.refl _) S).mono fun u H1 ⟨F1, e1, r1, S1⟩ => ?_
  refine (hb F1 σ H1 F1 (.refl _) S1).mono fun v H2 ⟨F2, e2, r2, S2⟩ => ?_
  obtain ⟨q, zs, ev, hr, hz⟩ := hB σ H2 F2 v S2 r2
  refine ⟨q, valV zs (Kk.key k), ev, .inl ⟨zs, Kk.key k, hr, KkV.of r1, rfl⟩, _, s, F2, rfl, (e0.trans e1).trans e2, S2, ?_, rfl⟩
  unfold dhas
  rcases kvs_val hz k with ⟨h1, h2⟩ | ⟨w', y', h1, h2, h3⟩ <;> rw [h1, h2] <;> rfl
theorem cmp_ninD (ok : YOk Y) (ha : EvP Y s a (pu k)) (hb : EvP Y s b B) (hB : DF Y s B m) : CmpP Y s .NotIn a b (!dhas m k) := fun F0 σ H F e0 S => by
  refine .of (pc_dnotin (by have := ok.room.units; omega) pe_we pe_we) ?_
  refine (ha F σ H F (.refl _) S).mono fun u H1 ⟨F1, e1, r1, S1⟩ => ?_
  refine (hb F1 σ H1 F1 (.refl _) S1).mono fun v H2 ⟨F2, e2, r2, S2⟩ => ?_
  obtain ⟨q, zs, ev, hr, hz⟩ := hB σ H2 F2 v S2 r2
  refine ⟨q, valV zs (Kk.key k), ev, .inl ⟨zs, Kk.key k, hr, KkV.of r1, rfl⟩, _, s, F2, rfl, (e0.trans e1).trans e2, S2, ?_, rfl⟩
  unfold dhas
  rcases kvs_val hz k with ⟨h1, h2⟩ | ⟨w', y', h1, h2, h3⟩ <;> rw [h1, h2] <;> rfl
/-- {} owned, frozen -/
theorem ev_dnew {κ ν : Type} [Kk κ] [Enc ν] (q : ∀ p, Q (raw (.ref p)) ⟨s.ρ, (p, dctc ([] : List (κ × ν))) :: s.gs⟩) : Ev Y s (.Dict [] [] pos) Q := fun F0 σ H F e0 S =>
  .of pe_dnewK fun p hp => ⟨raw (.ref p), _, F, e0, rfl, S.newO (c := dctc ([] : List (κ × ν))) hp rfl ⟨[], rfl, .nil⟩, q p⟩
/-- a new dict, locked at once and frozen -/
theorem pp_dict {σ : St} {F0 H F : Hp} {zs : List (Key × V)} (e0 : Ext F0 F) (S : Sta Y s σ H F) (r : KVs Y.X.K F zs m) (q : Addr) (hq : H q = none) (od : Obj) : Pp Y s σ F0 (pu (Dct.mk m)) (.ref q) (upd H q (.frz od (.dK zs))) :=
  ⟨upd F q (.frz od (.dK zs)), e0.trans (Ext.grow (S.free hq)), ⟨q, od, zs, rfl, upd_same, r.mono (Ext.grow (S.free hq))⟩, S.newF hq rfl⟩
theorem pp_lock {σ : St} {F0 H F : Hp} {zs : List (Key × V)} (e0 : Ext F0 F) (S : Sta Y s σ H F) (r : KVs Y.X.K F zs m) (q : Addr) (hq : H q = none) :
    ∃ d u, (upd H q (.dK zs)) d = some u ∧ Mut (some u) ∧ ∀ od, Pp Y s σ F0 (pu (Dct.mk m)) (.ref q) (upd (upd H q (.dK zs)) d (.frz od u)) :=
  ⟨q, .dK zs, upd_same, trivial, fun od => by rw [upd_upd]; exact pp_dict e0 S r q hq od⟩
theorem evp_dnew {κ ν : Type} [Kk κ] [Enc ν] : EvP Y s (.Dict [] [] pos) (pu (Dct.mk ([] : List (κ × ν)))) := fun F0 σ H F e0 S =>
  .lockAfter (.of pe_dnewK fun q hq => ⟨q, .dK [], upd_same, trivial, fun od => by
    rw [upd_upd]
    exact ⟨upd F q (.frz od (.dK [])), e0.trans (Ext.grow (S.free hq)), ⟨q, od, [], rfl, upd_same, .nil⟩, S.newF hq rfl⟩⟩)
end
end Sp
set_option maxHeartbeats 4000000
/-! Sp: dict statements, dict(xs), sources, texts' methods. -/
namespace Sp
open PySem L2
open PySem.W (Datum DatumOrd SomeDatum)
section
variable {Y : DX} {s : DSt} {e a b c d o : Expr} {es : List Expr} {pos p apos : Pos} {Q : Pv → DSt → Prop} {D : DE}
section
variable {κ ν : Type} [DecidableEq κ] [Kk κ] [Enc κ] [KkV κ] [Enc ν] {A B : Pv} {m : List (κ × ν)} {k : κ} {x : ν}
/-- d[k] = x, d owned -/
theorem w1_dput {q : Addr} {p2 : Pos} (ok : YOk Y) (i : Nat) (hz : m.length < sizeLine)
    (hv : Ev Y s e fun X s1 => X = pu x ∧ s1.gs[i]? = some (q, dctc m) ∧ EvP Y s1 a (raw (.ref q)) ∧ EvP Y s1 b (pu k) ∧ D.nx ⟨s1.ρ, s1.gs.set i (q, dctc (dput m k x))⟩)
    (hs : swapsWith e (some (.Subscript a b p2)) pos.line Y.X.env = pure false := by rfl) : W1 Y s (.Assign [.Subscript a b p2] e pos) D := fun F0 σ H F e0 S => by
  refine .of (ps_dput (by have := ok.room.units; omega) pe_we pe_we pe_we hs) ?_
  refine (hv F σ H F (.refl _) S).mono fun v H1 ⟨X, s1, F1, e1, r1, S1, ex, hi, ha, hb, k1⟩ => ?_
  subst ex
  refine (ha F1 σ H1 F1 (.refl _) S1).mono fun u H2 ⟨F2, e2, r2, S2⟩ => ?_
  refine (hb F2 σ H2 F2 (.refl _) S2).mono fun w H3 ⟨F3, e3, r3, S3⟩ => ?_
  obtain ⟨hF, oo, hoo, _, zs, eo, rv⟩ := S3.cell hi
  subst eo
  refine ⟨q, upd H3 q (.dK (putK zs (Kk.key k) v)), r2, .inl ⟨zs, Kk.key k, hoo, KkV.of r3, by rw [show zs.length = m.length from Paired.length rv]; exact hz, rfl⟩, _, F3, ((e0.trans e1).trans e2).trans e3, ?_, k1⟩
  exact S3.write (c' := dctc (dput m k x)) hi hoo (not_codeD rfl) rfl ⟨_, rfl, kvs_put rv (Enc.mono (α := ν) r1 (e2.trans e3))⟩
/-- an owned dict is locked and frozen: the name i stands for it -/
theorem ws_freezeD {q : Addr} {sts : List Stmt} (i j : Nat) (hi : s.ρ[i]? = some (some (raw (.ref q)))) (hj : s.gs[j]? = some (q, dctc m)) (h : Ws Y ⟨s.ρ.set i (some (pu (Dct.mk m))), s.gs.eraseIdx j⟩ sts D) : Ws Y s sts D := fun F0 σ H F e0 S => by
  obtain ⟨hF, oo, hoo, _, zs, eo, rv⟩ := S.cell hj
  subst eo
  refine ⟨fun pins s1 I => ?_⟩
  obtain ⟨od, J⟩ := I.lock hoo trivial
  have S1 := S.write (o' := .frz od (.dK zs)) (c' := ⟨fun _ _ o => o = .frz od (.dK zs), fun h _ => h⟩) hj hoo (not_codeD rfl) rfl rfl
  have hl : j < s.gs.length := (List.getElem?_eq_some_iff.mp hj).1
  have S2 := S1.freeze (i := j) (p := q) (List.getElem?_set_self hl) upd_same
  obtain ⟨v, hv, rv'⟩ := S.rep.get hi
  have rv2 : v = .ref q := rv'
  subst rv2
  have S3 := S2.set (A := pu (Dct.mk m)) (v := .ref q) ⟨q, od, zs, rfl, upd_same, rv.mono (Ext.grow hF)⟩ i
  have eσ : σ.set i (some (V.ref q)) = σ := by
    apply List.ext_getElem?
    intro t
    by_cases z : i = t
    · subst z
      rw [List.getElem?_set_self (List.getElem?_eq_some_iff.mp hv).1, hv]
    · rw [List.getElem?_set_ne z]
  rw [eσ] at S3
  have eg : (s.gs.set j (q, (⟨fun _ _ o => o = .frz od (.dK zs), fun h _ => h⟩ : Cell))).eraseIdx j = s.gs.eraseIdx j := by
    rw [List.eraseIdx_set_eq]
  have S4 : Sta Y ⟨s.ρ.set i (some (pu (Dct.mk m))), s.gs.eraseIdx j⟩ σ (upd H q (.frz od (.dK zs))) (upd F q (.frz od (.dK zs))) := by
    rw [← eg]; exact S3
  exact (h F0 σ _ _ (e0.trans (Ext.grow hF)) S4).run pins s1 J
end
/-- an owned list is frozen -/
theorem ws_freezeL {α : Type} [Enc α] {xs : List α} {q : Addr} {sts : List Stmt} (i j : Nat) (hi : s.ρ[i]? = some (some (raw (.ref q)))) (hj : s.gs[j]? = some (q, lstc xs)) (h : Ws Y ⟨s.ρ.set i (some (pu xs)), s.gs.eraseIdx j⟩ sts D) : Ws Y s sts D := fun F0 σ H F e0 S => by
  obtain ⟨hF, oo, hoo, _, zs, eo, rv⟩ := S.cell hj
  subst eo
  have S2 := S.freeze hj hoo
  obtain ⟨v, hv, rv'⟩ := S.rep.get hi
  have rv2 : v = .ref q := rv'
  subst rv2
  have S3 := S2.set (A := pu xs) (v := .ref q) ⟨q, zs, rfl, .of upd_same, rv.mono (Ext.grow hF)⟩ i
  have eσ : σ.set i (some (V.ref q)) = σ := by
    apply List.ext_getElem?
    intro t
    by_cases z : i = t
    · subst z
      rw [List.getElem?_set_self (List.getElem?_eq_some_iff.mp hv).1, hv]
    · rw [List.getElem?_set_ne z]
  rw [eσ] at S3
  exact h F0 σ _ _ (e0.trans (Ext.grow hF)) S3
/-- an owned list that is returned -/
theorem ev_frL {α : Type} [Enc α] {xs : List α} {q : Addr} (j : Nat) (h : EvP Y s e (raw (.ref q))) (hj : s.gs[j]? = some (q, lstc xs)) (k : Q (pu xs) ⟨s.ρ, s.gs.eraseIdx j⟩) : Ev Y s e Q := fun F0 σ H F e0 S => (h F0 σ H F e0 S).mono fun v H1 ⟨F1, e1, r1, S1⟩ => by
  obtain ⟨hF, oo, hoo, _, zs, eo, rv⟩ := S1.cell hj
  subst eo
  have r2 : v = .ref q := r1
  subst r2
  exact ⟨pu xs, _, _, e1.trans (Ext.grow hF), ⟨q, zs, rfl, .of upd_same, rv.mono (Ext.grow hF)⟩, S1.freeze hj hoo, k⟩
/-! ### dict(xs), sorted(d), list(d), len(d) -/
section
variable {κ ν : Type} [DecidableEq κ] [Kk κ] [Enc κ] [KkV κ] [Enc ν] {A B : Pv} {m : List (κ × ν)} {k : κ} {x : ν}
theorem pairs_kvs {K : Frag} {F : Hp} : ∀ {vs : List V} {xs : List (κ × ν)}, Vs K F vs xs → ∃ (ps : List Addr) (kvs : List (Key × V)), vs = ps.map V.ref ∧ Paired (fun p kv => SqT K F p [kV kv.1, kv.2]) ps kvs ∧ KVs K F kvs xs
  | _, _, .nil => ⟨[], [], rfl, .nil, .nil⟩
  | _, _, .cons ⟨p, a, b, e, h, ra, rb⟩ t => by
    obtain ⟨ps, kvs, h1, h2, h3⟩ := pairs_kvs t
    subst e h1
    have ea := KkV.of ra
    subst ea
    exact ⟨p :: ps, (_, b) :: kvs, rfl, .cons h h2, .cons ⟨rfl, rb⟩ h3⟩
theorem evp_dict {xs : List (κ × ν)} (ok : YOk Y) (T : Bis Y.X.mg) (hg : Gl Y.X "dict") (ha : EvP Y s a A) (hA : DL Y s A xs) (he : starEach [a] Y.X.env = (false, eval a Y.X.env) :: starEach [] Y.X.env := by rfl) : EvP Y s (.Call (.Name "dict" p) [a] [] pos) (pu (Dct.mk (dmerge [] xs))) := fun F0 σ H F e0 S => by
  refine .lockAfter (.of (pe_callTy (call_dictP ok.calm) hg (T.no _ (by decide)) PyProof.Rows.boot_dict (pa_cons pe_we pa_nil he) (by decide) (by decide) he (by rfl)) ?_)
  refine (ha F0 σ H F e0 S).mono fun v H1 ⟨F1, e1, r1, S1⟩ => ?_
  obtain ⟨q, zs, h1, h2, h3⟩ := hA σ H1 F1 v S1 r1
  obtain ⟨ps, kvs, g1, g2, g3⟩ := pairs_kvs h3
  subst g1
  exact ⟨q, ps, kvs, by rw [h1], h2, Paired.mapP g2 fun _ _ z => sqT_ext z S1.ext, fun l hl => pp_lock e1 S1 (kvs_merge g3 .nil) l hl⟩
theorem ev_dictO {xs : List (κ × ν)} (ok : YOk Y) (T : Bis Y.X.mg) (hg : Gl Y.X "dict") (ha : EvP Y s a A) (hA : DL Y s A xs) (q : ∀ p, Q (raw (.ref p)) ⟨s.ρ, (p, dctc (dmerge [] xs)) :: s.gs⟩) (he : starEach [a] Y.X.env = (false, eval a Y.X.env) :: starEach [] Y.X.env := by rfl) : Ev Y s (.Call (.Name "dict" p) [a] [] pos) Q := fun F0 σ H F e0 S => by
  refine .of (pe_callTy (call_dictP ok.calm) hg (T.no _ (by decide)) PyProof.Rows.boot_dict (pa_cons pe_we pa_nil he) (by decide) (by decide) he (by rfl)) ?_
  refine (ha F0 σ H F e0 S).mono fun v H1 ⟨F1, e1, r1, S1⟩ => ?_
  obtain ⟨q', zs, h1, h2, h3⟩ := hA σ H1 F1 v S1 r1
  obtain ⟨ps, kvs, g1, g2, g3⟩ := pairs_kvs h3
  subst g1
  exact ⟨q', ps, kvs, by rw [h1], h2, Paired.mapP g2 fun _ _ z => sqT_ext z S1.ext, fun l hl => ⟨raw (.ref l), _, F1, e1, rfl, S1.newO (c := dctc (dmerge [] xs)) hl rfl ⟨_, rfl, kvs_merge g3 .nil⟩, q l⟩⟩
/-- dict(d): a copy -/
theorem evp_dictD (ok : YOk Y) (T : Bis Y.X.mg) (hg : Gl Y.X "dict") (ha : EvP Y s a A) (hA : DF Y s A m) (he : starEach [a] Y.X.env = (false, eval a Y.X.env) :: starEach [] Y.X.env := by rfl) : EvP Y s (.Call (.Name "dict" p) [a] [] pos) (pu (Dct.mk m)) := fun F0 σ H F e0 S => by
  refine .lockAfter (.of (pe_callTy call_dictD hg (T.no _ (by decide)) PyProof.Rows.boot_dict (pa_cons pe_we pa_nil he) (by decide) (by decide) he (by rfl)) ?_)
  refine (ha F0 σ H F e0 S).mono fun v H1 ⟨F1, e1, r1, S1⟩ => ?_
  obtain ⟨q, zs, h1, h2, h3⟩ := hA σ H1 F1 v S1 r1
  exact ⟨q, zs, by rw [h1], h2, fun l hl => pp_lock e1 S1 h3 l hl⟩
theorem ev_dictDO (ok : YOk Y) (T : Bis Y.X.mg) (hg : Gl Y.X "dict") (ha : EvP Y s a A) (hA : DF Y s A m) (q : ∀ p, Q (raw (.ref p)) ⟨s.ρ, (p, dctc m) :: s.gs⟩) (he : starEach [a] Y.X.env = (false, eval a Y.X.env) :: starEach [] Y.X.env := by rfl) : Ev Y s (.Call (.Name "dict" p) [a] [] pos) Q := fun F0 σ H F e0 S => by
  refine .of (pe_callTy call_dictD hg (T.no _ (by decide)) PyProof.Rows.boot_dict (pa_cons pe_we pa_nil he) (by decide) (by decide) he (by rfl)) ?_
  refine (ha F0 σ H F e0 S).mono fun v H1 ⟨F1, e1, r1, S1⟩ => ?_
  obtain ⟨q', zs, h1, h2, h3⟩ := hA σ H1 F1 v S1 r1
  exact ⟨q', zs, by rw [h1], h2, fun l hl => ⟨raw (.ref l), _, F1, e1, rfl, S1.newO (c := dctc m) hl rfl ⟨_, rfl, h3⟩, q l⟩⟩
theorem keys_vs {K : Frag} {F F' : Hp} : ∀ {zs : List (Key × V)} {m : List (κ × ν)}, KVs K F zs m → Vs K F' (zs.map fun kv => kV kv.1) (m.map (·.1))
  | _, _, .nil => .nil
  | _, _, .cons (a := p) (b := q) r t => .cons (by have e := KkV.rep (K := K) (F := F') q.1; rw [← r.1] at e; exact e) (keys_vs t)
theorem evp_listD (ok : YOk Y) (T : Bis Y.X.mg) (hg : Gl Y.X "list") (ha : EvP Y s a A) (hA : DF Y s A m) (he : starEach [a] Y.X.env = (false, eval a Y.X.env) :: starEach [] Y.X.env := by rfl) : EvP Y s (.Call (.Name "list" p) [a] [] pos) (pu (m.map (·.1))) :=
  evp_T1 (call_listD ok.calm) hg (T.no _ (by decide)) PyProof.Rows.boot_list ha (fun F0 σ H F v e0 S r => by
    obtain ⟨q, zs, h1, h2, h3⟩ := hA σ H F v S r
    exact ⟨q, zs, by rw [h1], h2, fun l hl => pp_list e0 S (keys_vs h3) l hl⟩) (by decide) (by decide) he
theorem keys_at2 {P : Program} {w : World} {kvs : List (Key × V)} {vs : List (Key × Value)} {acc : Array Value} (rel : KV kvs vs) (hi : ItemsOf (fun i v => ∃ k x, vs[i]? = some (k, x) ∧ (mixKind P w).is k v = true) acc vs.length) : Vals (kvs.map fun p => kV p.1) acc.toList := by
  have h := keys_at (us := acc.toList) (vs := vs) (by rw [Array.length_toList]; exact hi.1) fun j v hv => by
    obtain ⟨k, x, h1, h2⟩ := hi.2 j v (by simpa using hv)
    exact ⟨k, x, h1, h2⟩
  have e : vs.map (fun p => kV p.1) = kvs.map fun p => kV p.1 := by
    have h1 : vs.map (fun p => kV p.1) = (vs.map (·.1)).map kV := by rw [List.map_map]; rfl
    have h2 : kvs.map (fun p => kV p.1) = (kvs.map (·.1)).map kV := by rw [List.map_map]; rfl
    rw [h1, h2, rel.keys]
  rw [e] at h
  exact h
theorem cr_sortedD {X : Cx} [DatumOrd κ] [Dat κ] [Srtb κ] [FlatV κ] [FlatR κ] (hz : ∀ k : κ, FlatV.z k = kV (Kk.key k)) (hc : X.calm = true) (hu : X.A.units + 64 < cLine) (hd : Datum.depth κ ≤ 60) : CallR X (.builtin "sorted") (fun vs H Q => ∃ (q : Addr) (zs : List (Key × V)) (ks : List κ), vs = [.ref q] ∧ Rd H q (.dK zs) ∧ zs.map (·.1) = ks.map Kk.key ∧ ∀ p, H p = none → Q (.ref p) (upd H p (.lst ((srt ks).map FlatV.z)))) := by
  intro pins s σ H vs us Q I r ⟨q, zs, ks, ev, hr, hk, k⟩
  subst ev
  obtain ⟨u, rfl, ru⟩ := vals1 r
  cases ru
  obtain ⟨hl, lo, ws, rel, dd⟩ := dk_rd I.hok hr
  obtain ⟨ep, hat⟩ := dd.dictAt
  have hln : ks.length = zs.length := by have := congrArg List.length hk; simpa using this.symm
  have hwl : zs.length = ws.length := rel.length
  refine sorted_flat (bs := ks) I hu hd (by omega) (fun R kk => ?_) k
  refine PySem.W.kdu_collect (A := X.A.in1) (PySem.W.kdl_dict (knd := mixKind X.prog X.w) (kvs := ws) (ep := ep) lo) (I.ok.hd hc) hat (by omega) fun h' tk acc hk2 hacc => kk h' tk _ hk2 ?_
  have h9 := keys_at2 rel hacc
  have e9 : zs.map (fun p => kV p.1) = ks.map FlatV.z := by
    have h1 : zs.map (fun p => kV p.1) = (zs.map (·.1)).map kV := by rw [List.map_map]; rfl
    rw [h1, hk, List.map_map]
    exact List.map_congr_left fun k _ => (hz k).symm
  rw [e9] at h9
  exact h9
theorem keys_key {K : Frag} {F : Hp} : ∀ {zs : List (Key × V)} {m : List (κ × ν)}, KVs K F zs m → zs.map (·.1) = (m.map (·.1)).map Kk.key
  | _, _, .nil => rfl
  | _, _, .cons r t => by rw [List.map_cons, List.map_cons, List.map_cons, keys_key t, r.1]
theorem evp_sortedD [DatumOrd κ] [Dat κ] [Srtb κ] [FlatV κ] [FlatR κ] (ok : YOk Y) (T : Bis Y.X.mg) (hg : Gl Y.X "sorted") (ha : EvP Y s a A) (hA : DF Y s A m) (hz : ∀ k : κ, FlatV.z k = kV (Kk.key k) := by intro _; rfl) (hd : Datum.depth κ ≤ 60 := by decide)
    (he : starEach [a] Y.X.env = (false, eval a Y.X.env) :: starEach [] Y.X.env := by rfl) : EvP Y s (.Call (.Name "sorted" p) [a] [] pos) (pu (srt (m.map (·.1)))) :=
  evp_B1 (cr_sortedD (κ := κ) hz ok.calm ok.room.units hd) hg (T.no _ (by decide)) PyProof.Rows.boot_sorted ha (fun F0 σ H F v e0 S r => by
    obtain ⟨q, zs, h1, h2, h3⟩ := hA σ H F v S r
    exact ⟨q, zs, m.map (·.1), by rw [h1], h2, keys_key h3, fun l hl => pp_list e0 S (flat_vs _) l hl⟩) (by decide) (by decide) he
end
theorem evp_sortedS {x : List Nat} (ok : YOk Y) (T : Bis Y.X.mg) (hg : Gl Y.X "sorted") (ha : EvP Y s a (pu x)) (hx : x.length ≤ sizeLine) (he : starEach [a] Y.X.env = (false, eval a Y.X.env) :: starEach [] Y.X.env := by rfl) : EvP Y s (.Call (.Name "sorted" p) [a] [] pos) (pu (srt (x.map fun c => [c]))) :=
  evp_B1 (cr_sortedTxt ok.calm ok.room.units) hg (T.no _ (by decide)) PyProof.Rows.boot_sorted ha (fun F0 σ H F v e0 S r => ⟨x, by rw [show v = .str (toStr x) from r], hx, fun l hl => pp_list e0 S (flat_vs _) l hl⟩) (by decide) (by decide) he
/-! ### texts -/
theorem joinT_cons (a x y : List Nat) (r : List (List Nat)) : joinT a ((x ++ a ++ y) :: r) = x ++ a ++ joinT a (y :: r) := by
  cases r with
  | nil => rfl
  | cons z r => simp only [joinT, List.append_assoc]
theorem glue_fold (a : List Nat) : ∀ (r : List (List Nat)) (x : List Nat), (r.map toStr).foldl (fun acc p => acc ++ (toStr a).cps ++ p.cps) (toStr x).cps = (toStr (joinT a (x :: r))).cps
  | [], x => rfl
  | y :: r, x => by
    have e : (toStr x).cps ++ (toStr a).cps ++ (toStr y).cps = (toStr (x ++ a ++ y)).cps := by simp [toStr]
    rw [List.map_cons, List.foldl_cons, e, glue_fold a r, joinT_cons]
    rfl
theorem toStr_join' (a : List Nat) (xs : List (List Nat)) : Txt.join (toStr a) (xs.map toStr) = toStr (joinT a xs) := by
  unfold Txt.join Builtin.Str.glued
  cases xs with
  | nil => rfl
  | cons x r =>
    have h := glue_fold a r x
    simp only [List.map_cons, List.drop_succ_cons, List.drop_zero, List.headD_cons]
    rw [h]
theorem txts_map {K : Frag} {H : Hp} {vs : List V} {xs : List (List Nat)} (h : Vs K H vs xs) : vs = (xs.map toStr).map V.str := vs_txts h
def lenSum (xs : List (List Nat)) : Nat := (xs.map List.length).sum
theorem evp_join {A : Pv} {x : List Nat} {xs : List (List Nat)} (ho : EvP Y s o (pu x)) (he : EvP Y s e A) (hA : DL Y s A xs) (hz : lenSum xs + xs.length * x.length ≤ 16777216) (M : Mx1 Y.X o "join" apos e pos) : EvP Y s (.Call (.Attribute o "join" apos) [e] [] pos) (pu (joinT x xs)) :=
  evp_m1 PySem.F.plainAttrs_str PySem.F.slot_str_join PySem.F.type_str_join mt_join ho he (fun σ H F v S r => tyV_str r) (fun F0 σ H F v u e0 S r1 r2 => by
    obtain ⟨q, zs, h1, h2, h3⟩ := hA σ H F u S r2
    rw [txts_map h3] at h2
    refine ⟨toStr x, q, xs.map toStr, r1, by rw [h1], .inl h2, ?_, F, e0, by rw [toStr_join']; rfl, S⟩
    have e1 : (xs.map toStr).map (·.length) = xs.map List.length := by rw [List.map_map]; exact List.map_congr_left fun y _ => toStr_len y
    rw [e1, List.length_map, toStr_len]
    exact hz) M.base M.few M.line M.star
end
/-! ### sources -/
section
variable {Y : DX} {s : DSt} {e a b c d o tg : Expr} {es elts : List Expr} {pos p apos cpos tpos : Pos} {kk : Nat}
theorem it_range1 {n : Int} (T : Bis Y.X.mg) (hg : Gl Y.X "range") (ha : EvP Y s a (pu n)) (h1 : -(2 ^ 62) ≤ n) (h2 : n < 2 ^ 62) (hs : starEach [a] Y.X.env = [(false, eval a Y.X.env)] := by rfl) : EvIt Y s tg (.Call (.Name "range" p) [a] [] pos) ((List.range n.toNat).map fun i : Nat => (i : Int)) :=
  ⟨_, pi_range1 hg (T.no _ (by decide)) (pa_cons pe_we pa_nil hs) hs, fun F0 σ H F R e0 S k => (ha F0 σ H F e0 S).mono fun v H' ⟨F', e1, r, S'⟩ =>
    ⟨n, by rw [show v = .int n from r], h1, h2, k _ _ F' e1 S' fun i H2 F2 e2 e3 => ⟨fun x hx => by
      rw [List.getElem?_map] at hx
      cases q : (List.range n.toNat)[i]? with
      | none => rw [q] at hx; cases hx
      | some j =>
        rw [q] at hx
        cases hx
        obtain ⟨h5, h6⟩ := List.getElem?_eq_some_iff.mp q
        rw [List.getElem_range] at h6
        subst h6
        rw [List.length_range] at h5
        refine ⟨h5, fun v H3 ⟨eh, hv⟩ => .inl ⟨eh, ?_⟩⟩
        rw [hv]
        show V.int (0 + (i : Int)) = V.int i
        rw [Int.zero_add], fun hl => by
      show n.toNat ≤ i
      simpa using hl⟩⟩⟩
theorem it_range2 {n m : Int} (T : Bis Y.X.mg) (hg : Gl Y.X "range") (ha : EvP Y s a (pu n)) (hb : EvP Y s b (pu m)) (h1 : -(2 ^ 62) ≤ n) (h2 : n < 2 ^ 62) (h3 : -(2 ^ 62) ≤ m) (h4 : m < 2 ^ 62)
    (hs : starEach [a, b] Y.X.env = [(false, eval a Y.X.env), (false, eval b Y.X.env)] := by rfl) (hs2 : starEach [b] Y.X.env = [(false, eval b Y.X.env)] := by rfl) : EvIt Y s tg (.Call (.Name "range" p) [a, b] [] pos) ((List.range (m - n).toNat).map fun i : Nat => n + (i : Int)) :=
  ⟨_, pi_range2 hg (T.no _ (by decide)) (pa_cons pe_we (pa_cons pe_we pa_nil hs2) (by rw [hs, hs2])) hs hs2, fun F0 σ H F R e0 S k => (ha F σ H F (.refl _) S).mono fun v H' ⟨F', e1, r, S'⟩ => (hb F' σ H' F' (.refl _) S').mono fun w H2 ⟨F2, e2, r2, S2⟩ =>
    ⟨n, m, by rw [show v = .int n from r, show w = .int m from r2], ⟨h1, h2, h3, h4⟩, k _ _ F2 ((e0.trans e1).trans e2) S2 fun i H2 F2 e2 e3 => ⟨fun x hx => by
      rw [List.getElem?_map] at hx
      cases q : (List.range (m - n).toNat)[i]? with
      | none => rw [q] at hx; cases hx
      | some j =>
        rw [q] at hx
        cases hx
        obtain ⟨h5, h6⟩ := List.getElem?_eq_some_iff.mp q
        rw [List.getElem_range] at h6
        subst h6
        rw [List.length_range] at h5
        exact ⟨h5, fun v H3 ⟨eh, hv⟩ => .inl ⟨eh, by rw [hv]; rfl⟩⟩, fun hl => by
      show (m - n).toNat ≤ i
      simpa using hl⟩⟩⟩
/-- items with their places -/
def enumD {α : Type} (xs : List α) : List (Int × α) := xs.mapIdx fun i x => ((i : Int), x)
theorem it_enum {α : Type} [Enc α] {xs : List α} (T : Bis Y.X.mg) (hg : Gl Y.X "enumerate") (ha : EvP Y s a (pu xs)) (hs : starEach [a] Y.X.env = [(false, eval a Y.X.env)] := by rfl) : EvIt Y s (.Tuple elts kk tpos) (.Call (.Name "enumerate" p) [a] [] pos) (enumD xs) :=
  ⟨_, pi_enum hg (T.no _ (by decide)) (pa_cons pe_we pa_nil hs) hs, fun F0 σ H F R e0 S k => (ha F0 σ H F e0 S).mono fun v H' ⟨F', e1, ⟨p, vs, ev, hq, rv⟩, S'⟩ =>
    ⟨p, vs, by rw [ev], sqL_ext hq S'.ext, k _ _ F' e1 S' fun i H2 F2 e2 e3 => ⟨fun x hx => by
      have hq2 := sqL_ext (sqL_ext hq e2) e3
      unfold enumD at hx
      rw [List.getElem?_mapIdx] at hx
      cases q : xs[i]? with
      | none => rw [q] at hx; cases hx
      | some y =>
        rw [q] at hx
        cases hx
        obtain ⟨w, hw, rw'⟩ := prd_get rv q
        refine ⟨⟨vs, w, hq2, hw⟩, fun v H3 ⟨t, x, ev, ht, eh, hv⟩ => .inr ⟨t, _, ht, eh, ev, fun F3 e4 hs3 => ?_⟩⟩
        have := hv vs hq2
        rw [hw] at this
        cases this
        exact ⟨t, _, _, ev, hs3, rfl, Enc.mono rw' (e2.trans e4)⟩, fun hl => ⟨vs, sqL_ext (sqL_ext hq e2) e3, by
      have := Paired.length rv
      unfold enumD at hl
      rw [List.length_mapIdx] at hl
      omega⟩⟩⟩⟩
section
variable {κ ν : Type} [Kk κ] [Enc κ] [KkV κ] [Enc ν] {m : Dct κ ν}
theorem it_keys (ha : EvP Y s a (pu m)) : EvIt Y s tg a (m.kvs.map (·.1)) :=
  ⟨_, pi_keys pe_we, fun F0 σ H F R e0 S k => (ha F0 σ H F e0 S).mono fun v H' ⟨F', e1, ⟨q, od, zs, ev, hq, rv⟩, S'⟩ =>
    ⟨q, od, ev, .inl ⟨zs, S'.ext _ _ hq, k _ _ F' e1 S' fun i H2 F2 e2 e3 => ⟨fun x hx => by
      rw [List.getElem?_map] at hx
      cases z : m.kvs[i]? with
      | none => rw [z] at hx; cases hx
      | some y =>
        rw [z] at hx
        cases hx
        obtain ⟨w, hw, r1, r2⟩ := prd_get rv z
        refine ⟨⟨e3 _ _ (e2 _ _ hq), (List.getElem?_eq_some_iff.mp hw).1⟩, fun v H3 ⟨eh, k', v', hk, hv⟩ => .inl ⟨eh, ?_⟩⟩
        rw [hw] at hk
        cases hk
        rw [hv]
        have e := KkV.rep (K := Y.X.K) (F := F2) y.1
        rw [← r1] at e
        exact e, fun hl => ⟨e3 _ _ (e2 _ _ hq), by have := Paired.length rv; rw [List.length_map] at hl; omega⟩⟩⟩⟩⟩
theorem it_values (ha : EvP Y s a (pu m)) (hbase : attributeBase a "values" Y.X.env (eval a Y.X.env) = eval a Y.X.env := by rfl) (hline : (apos.endLine == cpos.line) = true := by rfl) : EvIt Y s tg (.Call (.Attribute a "values" apos) [] [] cpos) (m.kvs.map (·.2)) :=
  ⟨_, pi_values pe_we hbase hline, fun F0 σ H F R e0 S k => (ha F0 σ H F e0 S).mono fun v H' ⟨F', e1, ⟨q, od, zs, ev, hq, rv⟩, S'⟩ =>
    ⟨q, od, zs, ev, S'.ext _ _ hq, k _ _ F' e1 S' fun i H2 F2 e2 e3 => ⟨fun x hx => by
      rw [List.getElem?_map] at hx
      cases z : m.kvs[i]? with
      | none => rw [z] at hx; cases hx
      | some y =>
        rw [z] at hx
        cases hx
        obtain ⟨w, hw, r1, r2⟩ := prd_get rv z
        refine ⟨⟨e3 _ _ (e2 _ _ hq), (List.getElem?_eq_some_iff.mp hw).1⟩, fun v H3 ⟨eh, k', hk⟩ => .inl ⟨eh, ?_⟩⟩
        rw [hw] at hk
        cases hk
        exact Enc.mono r2 e2, fun hl => ⟨e3 _ _ (e2 _ _ hq), by have := Paired.length rv; rw [List.length_map] at hl; omega⟩⟩⟩⟩
theorem it_items (ha : EvP Y s a (pu m)) (hbase : attributeBase a "items" Y.X.env (eval a Y.X.env) = eval a Y.X.env := by rfl) (hline : (apos.endLine == cpos.line) = true := by rfl) : EvIt Y s (.Tuple elts kk tpos) (.Call (.Attribute a "items" apos) [] [] cpos) m.kvs :=
  ⟨_, pi_items pe_we hbase hline, fun F0 σ H F R e0 S k => (ha F0 σ H F e0 S).mono fun v H' ⟨F', e1, ⟨q, od, zs, ev, hq, rv⟩, S'⟩ =>
    ⟨q, od, zs, ev, S'.ext _ _ hq, k _ _ F' e1 S' fun i H2 F2 e2 e3 => ⟨fun y z => by
        obtain ⟨w, hw, r1, r2⟩ := prd_get rv z
        refine ⟨⟨e3 _ _ (e2 _ _ hq), (List.getElem?_eq_some_iff.mp hw).1⟩, fun v H3 ⟨t, k', v', hk, hv, ht, eh⟩ => .inr ⟨t, _, ht, eh, hv, fun F3 e4 hs3 => ?_⟩⟩
        rw [hw] at hk
        cases hk
        have e := KkV.rep (K := Y.X.K) (F := F3) y.1
        rw [← r1] at e
        exact ⟨t, _, _, hv, hs3, e, Enc.mono r2 (e2.trans e4)⟩, fun hl => ⟨e3 _ _ (e2 _ _ hq), by have := Paired.length rv; omega⟩⟩⟩⟩
end
end
end Sp
set_option maxHeartbeats 4000000
/-! Sp: own classes: fields, methods, making. -/
namespace Sp
open PySem L2
open PySem.W (Datum DatumOrd SomeDatum)
abbrev Flds := List (Str × Pv)
abbrev FR (K : Frag) (F : Hp) : List (Str × V) → Flds → Prop := Paired fun p q => p.1 = q.1 ∧ q.2.rep K F p.2
theorem FR.mono {K : Frag} {F F' : Hp} {vs : List (Str × V)} {fs : Flds} (h : FR K F vs fs) (e : Ext F F') : FR K F' vs fs := Paired.mapP h fun _ q r => ⟨r.1, q.2.mono r.2 e⟩
/-- an instance of C with these fields, for good -/
def insP (C : Addr) (fs : Flds) : Pv := ⟨fun K F v => ∃ a dx vs, v = .ref a ∧ F a = some (.ins C dx vs) ∧ FR K F vs fs, fun ⟨a, dx, vs, h1, h2, h3⟩ e => ⟨a, dx, vs, h1, e _ _ h2, h3.mono e⟩⟩
/-- an owned instance -/
def insc (C : Addr) (fs : Flds) : Cell := ⟨fun K F o => ∃ dx vs, o = .ins C dx vs ∧ FR K F vs fs, fun ⟨dx, vs, h1, h2⟩ e => ⟨dx, vs, h1, h2.mono e⟩⟩
def fput (f : Str) (A : Pv) : Flds → Flds
  | [] => [(f, A)]
  | (g, B) :: r => if g = f then (g, A) :: r else (g, B) :: fput f A r
theorem fr_put {K : Frag} {F : Hp} {f : Str} {v : V} {A : Pv} {vs : List (Str × V)} {fs : Flds} (h : FR K F vs fs) (r : A.rep K F v) : FR K F (putF f v vs) (fput f A fs) := by
  induction h with
  | nil => exact .cons ⟨rfl, r⟩ .nil
  | @cons p q vs fs r1 t ih =>
    obtain ⟨g, x⟩ := p
    obtain ⟨g', B⟩ := q
    have e : g = g' := r1.1
    subst e
    unfold putF fput
    by_cases z : g = f
    · rw [if_pos z, if_pos z]
      exact .cons ⟨rfl, r⟩ t
    · rw [if_neg z, if_neg z]
      exact .cons r1 ih
theorem fr_look {K : Frag} {F : Hp} {f : Str} {A : Pv} {vs : List (Str × V)} {fs : Flds} (h : FR K F vs fs) (l : fs.lookup f = some A) : ∃ v, vs.lookup f = some v ∧ A.rep K F v := by
  induction h with
  | nil => cases l
  | @cons p q vs fs r1 t ih =>
    obtain ⟨g, x⟩ := p
    obtain ⟨g', B⟩ := q
    have e : g = g' := r1.1
    subst e
    rw [List.lookup_cons] at l ⊢
    cases z : f == g with
    | true => rw [z] at l; cases l; exact ⟨x, rfl, r1.2⟩
    | false => rw [z] at l; exact ih l
theorem fr_no {K : Frag} {F : Hp} {f : Str} {vs : List (Str × V)} {fs : Flds} (h : FR K F vs fs) (l : fs.lookup f = none) : vs.lookup f = none := by
  induction h with
  | nil => rfl
  | @cons p q vs fs r1 t ih =>
    obtain ⟨g, x⟩ := p
    obtain ⟨g', B⟩ := q
    have e : g = g' := r1.1
    subst e
    rw [List.lookup_cons] at l ⊢
    cases z : f == g with
    | true => rw [z] at l; cases l
    | false => rw [z] at l; exact ih l
theorem not_codeI {o : HO} {C dx : Addr} {vs : List (Str × V)} (h : o = .ins C dx vs) : ∀ c q, o ≠ LamX.CodeO c q := fun c q z => by rw [h] at z; cases z
section
variable {Y : DX} {s : DSt} {e a b c d o : Expr} {es : List Expr} {pos p apos : Pos} {Q : Pv → DSt → Prop} {D : DE} {C : Addr} {fs : Flds} {f : Str} {A : Pv}
/-- o stands for an instance just now -/
def IA (Y : DX) (s : DSt) (A : Pv) (C : Addr) (fs : Flds) : Prop := ∀ σ H F v, Sta Y s σ H F → A.rep Y.X.K F v → ∃ a dx vs, v = .ref a ∧ H a = some (.ins C dx vs) ∧ FR Y.X.K F vs fs
theorem IA.pu : IA Y s (insP C fs) C fs := fun σ H F v S ⟨a, dx, vs, h1, h2, h3⟩ => ⟨a, dx, vs, h1, S.ext _ _ h2, h3⟩
theorem IA.own {q : Addr} (i : Nat) (h : s.gs[i]? = some (q, insc C fs)) : IA Y s (raw (.ref q)) C fs := fun σ H F v S r => by
  obtain ⟨_, o, ho, _, dx, vs, eo, rv⟩ := S.cell h
  subst eo
  exact ⟨q, dx, vs, r, ho, rv⟩
/-- o.f -/
theorem evp_fld {B : Pv} (c : Cls Y.X.K C) (n : NoAttr Y.X.K C f) (ho : EvP Y s o B) (hB : IA Y s B C fs) (l : fs.lookup f = some A) (hb : attributeBase o f Y.X.env (eval o Y.X.env) = eval o Y.X.env := by rfl) : EvP Y s (.Attribute o f pos) A := fun F0 σ H F e0 S => by
  refine .of (pe_fld pe_we hb) ((ho F0 σ H F e0 S).mono fun v H1 ⟨F1, e1, r1, S1⟩ => ?_)
  obtain ⟨a, dx, vs, ev, ha, rf⟩ := hB σ H1 F1 v S1 r1
  obtain ⟨w, l2, rw'⟩ := fr_look rf l
  exact ⟨a, C, dx, vs, w, ev, ha, c, n, l2, F1, e1, rw', S1⟩
/-- o.f = e, o owned -/
theorem w1_fld {q : Addr} {p2 : Pos} (i : Nat) (c : Cls Y.X.K C) (n : NoAttr Y.X.K C f) (hl : fs.length < 1000)
    (hv : Ev Y s e fun X s1 => s1.gs[i]? = some (q, insc C fs) ∧ EvP Y s1 o (raw (.ref q)) ∧ D.nx ⟨s1.ρ, s1.gs.set i (q, insc C (fput f X fs))⟩)
    (hs : swapsWith e (some (.Attribute o f p2)) pos.line Y.X.env = pure false := by rfl) : W1 Y s (.Assign [.Attribute o f p2] e pos) D := fun F0 σ H F e0 S => by
  refine .of (ps_fld pe_we pe_we hs) ?_
  refine (hv F σ H F (.refl _) S).mono fun v H1 ⟨X, s1, F1, e1, r1, S1, hi, ho, k1⟩ => ?_
  refine (ho F1 σ H1 F1 (.refl _) S1).mono fun u H2 ⟨F2, e2, r2, S2⟩ => ?_
  obtain ⟨hF, oo, hoo, _, dx, vs, eo, rv⟩ := S2.cell hi
  subst eo
  exact ⟨q, C, dx, vs, r2, hoo, c, n, by rw [show vs.length = fs.length from Paired.length rv]; exact hl, _, F2, (e0.trans e1).trans e2, S2.write (c' := insc C (fput f X fs)) hi hoo (not_codeI rfl) rfl ⟨dx, _, rfl, fr_put rv (X.mono r1 e2)⟩, k1⟩
/-! ### methods -/
/-- a method of the text, as its callers know it -/
structure Mt (P : Program) (w : World) (K : Frag) (mg : Str → Option Value) (base : Heap) (T : Tb) (k : Nat) (C : Addr) (m : Str) (ps : List Str) (d : DSp) : Prop where
  ex : ∃ (f : Addr) (fd : FuncData), FnOk P w K mg base (L2.CX P w) k f fd ps (toSp K T ps.length d) ∧ Meth K C m f ∧ Binds K fd ps []
  mono : DMono d
section
variable {X : Cx} {CX : CXT} {k : Nat} {ff : Addr} {fd : FuncData} {ps : List Str} {sp : Sp} {E : St → XK} {m : Str} {ta : TE} {t : TA}
def tMethS (C : Addr) (m : Str) (sp : Sp) (E : St → XK) (ta : TE) (t : TA) : TE := fun σ H Q => ta σ H fun x H1 => ∃ a dx fs, x = .ref a ∧ H1 a = some (.ins C dx fs) ∧ fs.lookup m = none ∧ t σ H1 fun vs H2 => sp (x :: vs) H2 Q (E σ)
theorem pe_methS {pl : Sem Bool} (he : PE X o ta) (c : Cls X.K C) (hm : Meth X.K C m ff) (F : FnOk X.prog X.w X.K X.mg X.base CX k ff fd ps sp) (hr : Room k X.A) (hb : Binds X.K fd ps []) (hx : ∀ σ, PassesAt CX X σ (E σ)) (ha : PA X (e :: es) t)
    (hst : starEach (e :: es) X.env = (false, eval e X.env) :: starEach es X.env) (hpl : (backTo pos (starEach es X.env)).any (·.1) = false)
    (ht : eval (.Call (.Attribute o m apos) (e :: es) [] pos) X.env = (do
      let ov ← eval o X.env
      standAt apos.atName
      let (f, first) ← holding [ov] (getMethod ov m pl)
      callWith pos f first (backTo pos (starEach (e :: es) X.env)) (backToKw pos (keywordEach [] X.env)))) :
    PE X (.Call (.Attribute o m apos) (e :: es) [] pos) (tMethS C m sp E ta t) := by
  refine ⟨fun pins s σ H Q I h => ?_⟩
  refine PySem.W.methodCall_KW (pl := pl) (thn (he.run pins s σ H _ I h) fun u s1 ⟨x, H1, I1, rx, a, dx, fs, ex, ea, l, q⟩ => ?_) ht
  subst ex
  obtain rfl : u = Value.ref a := rx
  refine getmeth_ok I1 ea c hm l ?_
  refine PySem.W.callWith_K (first := [.ref a]) (h₀ := X.base) I.ok.mod.kin hm.kp (thn (ha.run pos pins s1 σ H1 _ I1 q) fun us s2 ⟨vs, H2, I2, r, q2⟩ => ⟨I2.kIn, ?_⟩) hst hpl
  exact run_fnS (us := .ref a :: us) (vs := .ref a :: vs) F hr hb (hx σ) I2 (.cons rfl r) q2
theorem pe_methS0 {pl : Sem Bool} (he : PE X o ta) (c : Cls X.K C) (hm : Meth X.K C m ff) (F : FnOk X.prog X.w X.K X.mg X.base CX k ff fd ps sp) (hr : Room k X.A) (hb : Binds X.K fd ps []) (hx : ∀ σ, PassesAt CX X σ (E σ))
    (ht : eval (.Call (.Attribute o m apos) [] [] pos) X.env = (do
      let ov ← eval o X.env
      standAt apos.atName
      let (f, first) ← holding [ov] (getMethod ov m pl)
      callWith pos f first (backTo pos (starEach [] X.env)) (backToKw pos (keywordEach [] X.env)))) :
    PE X (.Call (.Attribute o m apos) [] [] pos) (tMethS C m sp E ta tNil) := by
  refine ⟨fun pins s σ H Q I h => ?_⟩
  refine PySem.W.methodCall_KW (pl := pl) (thn (he.run pins s σ H _ I h) fun u s1 ⟨x, H1, I1, rx, a, dx, fs, ex, ea, l, q⟩ => ?_) ht
  subst ex
  obtain rfl : u = Value.ref a := rx
  refine getmeth_ok I1 ea c hm l ?_
  exact PySem.W.callWith_K0 (first := [.ref a]) I1.kIn hm.kp (run_fnS (us := [.ref a]) (vs := [.ref a]) F hr hb (hx σ) I1 (.cons rfl .nil) q)
end
theorem ev_meth {B : Pv} {m : Str} {ps : List Str} {dd : DSp} {j : Nat} {pl : Sem Bool} (G : Mt Y.X.prog Y.X.w Y.X.K Y.X.mg Y.X.base Y.T j C m ps dd) (c : Cls Y.X.K C) (ok : YOk Y) (hj : j ≤ Y.k) (ho : EvP Y s o B) (hB : IA Y s B C fs) (hf : fs.lookup m = none)
    (h : Evs Y s (e :: es) fun As s1 => As.length + 1 = ps.length ∧ ∃ gs1 gs2, s1.gs.Perm (gs1 ++ gs2) ∧ dd (B :: As) gs1 (fun A gs' => Q A ⟨s1.ρ, gs' ++ gs2⟩) (fun e gs' => Y.ex e ⟨s1.ρ, gs' ++ gs2⟩))
    (hst : starEach (e :: es) Y.X.env = (false, eval e Y.X.env) :: starEach es Y.X.env := by rfl) (hpl : (backTo pos (starEach es Y.X.env)).any (·.1) = false := by rfl)
    (ht : eval (.Call (.Attribute o m apos) (e :: es) [] pos) Y.X.env = (do
      let ov ← eval o Y.X.env
      standAt apos.atName
      let (f, first) ← holding [ov] (getMethod ov m pl)
      callWith pos f first (backTo pos (starEach (e :: es) Y.X.env)) (backToKw pos (keywordEach [] Y.X.env))) := by rfl) : Ev Y s (.Call (.Attribute o m apos) (e :: es) [] pos) Q := fun F0 σ H F e0 S => by
  obtain ⟨⟨f, fd, F1, hm, hb⟩, mono⟩ := G
  refine .of (pe_methS (E := L2.WE (wxOf Y)) pe_we c hm F1 (ok.room.mono hj) hb (fun σ => passAt ok.tk σ) pa_wa hst hpl ht) ?_
  refine (ho F σ H F (.refl _) S).mono fun v H1 ⟨F1, e1, r1, S1⟩ => ?_
  obtain ⟨a, dx, vs, ev, ha, rf⟩ := hB σ H1 F1 v S1 r1
  refine ⟨a, dx, vs, ev, ha, fr_no rf hf, ?_⟩
  refine (h F1 σ H1 F1 (.refl _) S1).mono fun us H2 ⟨As, s2, F2, e2, r2, S2, hl, gs1, gs2, hp, q⟩ => ?_
  exact sp_call ((e0.trans e1).trans e2) S2 (.cons (B.mono r1 e2) r2) (by rw [List.length_cons]; exact hl) hp q (mono (B :: As) gs1)
theorem ev_meth0 {B : Pv} {m : Str} {ps : List Str} {dd : DSp} {j : Nat} {pl : Sem Bool} (G : Mt Y.X.prog Y.X.w Y.X.K Y.X.mg Y.X.base Y.T j C m ps dd) (c : Cls Y.X.K C) (ok : YOk Y) (hj : j ≤ Y.k) (ho : EvP Y s o B) (hB : IA Y s B C fs) (hf : fs.lookup m = none)
    (h : 1 = ps.length ∧ ∃ gs1 gs2, s.gs.Perm (gs1 ++ gs2) ∧ dd [B] gs1 (fun A gs' => Q A ⟨s.ρ, gs' ++ gs2⟩) (fun e gs' => Y.ex e ⟨s.ρ, gs' ++ gs2⟩))
    (ht : eval (.Call (.Attribute o m apos) [] [] pos) Y.X.env = (do
      let ov ← eval o Y.X.env
      standAt apos.atName
      let (f, first) ← holding [ov] (getMethod ov m pl)
      callWith pos f first (backTo pos (starEach [] Y.X.env)) (backToKw pos (keywordEach [] Y.X.env))) := by rfl) : Ev Y s (.Call (.Attribute o m apos) [] [] pos) Q := fun F0 σ H F e0 S => by
  obtain ⟨⟨f, fd, F1, hm, hb⟩, mono⟩ := G
  obtain ⟨hl, gs1, gs2, hp, q⟩ := h
  refine .of (pe_methS0 (E := L2.WE (wxOf Y)) pe_we c hm F1 (ok.room.mono hj) hb (fun σ => passAt ok.tk σ) ht) ?_
  refine (ho F σ H F (.refl _) S).mono fun v H1 ⟨F1, e1, r1, S1⟩ => ?_
  obtain ⟨a, dx, vs, ev, ha, rf⟩ := hB σ H1 F1 v S1 r1
  exact ⟨a, dx, vs, ev, ha, fr_no rf hf, sp_call (e0.trans e1) S1 (.cons r1 .nil) hl hp q (mono [B] gs1)⟩
/-! ### making -/
structure Mkr (P : Program) (w : World) (K : Frag) (mg : Str → Option Value) (base : Heap) (T : Tb) (k : Nat) (x : Str) (C : Addr) (ps : List Str) (d : DSp) : Prop where
  ex : ∃ (f : Addr) (fd : FuncData), FnOk P w K mg base (L2.CX P w) k f fd ps (toSp K T ps.length d) ∧ Mk K C f ∧ Binds K fd ps []
  g : mg x = some (.ref C)
  mono : DMono d
theorem run_makeS {X : Cx} {CX : CXT} {k : Nat} {ff : Addr} {fd : FuncData} {ps : List Str} {sp : Sp} {E : XK} {pins : List (Addr × Obj)} {σ : St} {H : Hp} {s : Shared} {Q : VK} {us : List Value} {vs : List V} (M : Mk X.K C ff) (F : FnOk X.prog X.w X.K X.mg X.base CX k ff fd ps sp) (hr : Room (k + 1) X.A) (hb : Binds X.K fd ps [])
    (hx : PassesAt CX X σ E) (I : Inv X pins σ H s) (r : Vals vs us)
    (h : ∀ x dx, H x = none → H dx = none → dx ≠ x → sp (.ref x :: vs) (upd (upd H dx (.own x)) x (.ins C dx [])) (fun v H2 => v = .non ∧ Q (.ref x) H2) E) :
    wpAny (model X.prog X.w) X.A (call (.ref C) us) (EP X pins σ Q) X.xe s := by
  have hq := h (s.heap.objs.size + 1) s.heap.objs.size (I.hok.fresh (Nat.le_succ _)) (I.hok.fresh (Nat.le_refl _)) (Nat.ne_of_lt (Nat.lt_succ_self _))
  have I2 := Inv.made (C := C) I
  have r2 : Vals (V.ref (s.heap.objs.size + 1) :: vs) (Value.ref (s.heap.objs.size + 1) :: us) := .cons rfl r
  have hl : (Value.ref (s.heap.objs.size + 1) :: us).length = ps.length := by
    have e := r2.length
    rw [F.len _ _ _ _ hq] at e
    exact e.symm
  have b := hb _ (Value.ref (s.heap.objs.size + 1) :: us) I2.kIn (by rw [List.append_nil]; exact hl)
  rw [List.append_nil] at b
  refine wpAny_call (make_map (f := ff) I.kIn M.makes M.init (beq_iff_eq.mp M.fn) (codeAny_mono (F.run _ X.stack _ _ ⟨Value.ref (s.heap.objs.size + 1) :: us, []⟩ (Value.ref (s.heap.objs.size + 1) :: us) _ _ E (hr.make C us [])
    (I2.env0.make C us []) b r2 hq) fun r s' hq' => ?_))
  cases r with
  | error e => exact hx pins _ _ e s' I2 hq'
  | ok fl =>
    cases fl with
    | ret u =>
      obtain ⟨v, H', I3, rv, ev, q3⟩ := I2.after hq'
      subst ev
      exact ⟨rv, ⟨V.ref (s.heap.objs.size + 1), H', I3, rfl, q3⟩⟩
    | next => exact False.elim hq'
    | brk => exact False.elim hq'
    | cont => exact False.elim hq'
def tMakeS (C : Addr) (sp : Sp) (E : St → XK) (t : TA) : TE := fun σ H Q => t σ H fun vs H1 => ∀ x dx, H1 x = none → H1 dx = none → dx ≠ x → sp (.ref x :: vs) (upd (upd H1 dx (.own x)) x (.ins C dx [])) (fun v H2 => v = .non ∧ Q (.ref x) H2) (E σ)
theorem pe_makeS {X : Cx} {CX : CXT} {k : Nat} {ff : Addr} {fd : FuncData} {ps : List Str} {sp : Sp} {E : St → XK} {x : Str} {t : TA} (M : Mk X.K C ff) (F : FnOk X.prog X.w X.K X.mg X.base CX k ff fd ps sp) (hr : Room (k + 1) X.A) (hg : Gl X x) (hm : X.mg x = some (.ref C)) (hb : Binds X.K fd ps []) (hx : ∀ σ, PassesAt CX X σ (E σ))
    (ha : PA X (e :: es) t) (hdb : (x == ("__debug__" : Str)) = false) (he : starEach (e :: es) X.env = (false, eval e X.env) :: starEach es X.env) (hpl : (backTo pos (starEach es X.env)).any (·.1) = false) :
    PE X (.Call (.Name x p) (e :: es) [] pos) (tMakeS C sp E t) := by
  refine ⟨fun pins s σ H Q I h => ?_⟩
  refine wpAny_Call_Name_kw (ld_glob I hg hm ?_ hdb)
  refine PySem.W.callWith_K (h₀ := X.base) I.ok.mod.kin M.kp (thn (ha.run pos pins s σ H _ I h) fun us s1 ⟨vs, H1, I1, r, q⟩ => ⟨I1.kIn, ?_⟩) he hpl
  exact run_makeS M F hr hb (hx σ) I1 r q
theorem ev_make {x : Str} {ps : List Str} {dd : DSp} {j : Nat} (G : Mkr Y.X.prog Y.X.w Y.X.K Y.X.mg Y.X.base Y.T j x C ps dd) (ok : YOk Y) (hj : j + 1 ≤ Y.k) (hg : Gl Y.X x)
    (h : Evs Y s (e :: es) fun As s1 => As.length + 1 = ps.length ∧ ∀ q, ∃ gs1 gs2, s1.gs.Perm (gs1 ++ gs2) ∧ dd (raw (.ref q) :: As) ((q, insc C []) :: gs1)
      (fun A gs' => A = pu () ∧ ∃ fs gs3, gs' = (q, insc C fs) :: gs3 ∧ Q (insP C fs) ⟨s1.ρ, gs3 ++ gs2⟩) (fun e gs' => ∀ n, Y.ex e ⟨s1.ρ, (gs' ++ gs2).drop n⟩))
    (hdb : (x == ("__debug__" : Str)) = false := by decide) (he : starEach (e :: es) Y.X.env = (false, eval e Y.X.env) :: starEach es Y.X.env := by rfl) (hpl : (backTo pos (starEach es Y.X.env)).any (·.1) = false := by rfl) : Ev Y s (.Call (.Name x p) (e :: es) [] pos) Q := fun F0 σ H F e0 S => by
  obtain ⟨⟨f, fd, F1, M, hb⟩, hm, mono⟩ := G
  refine .of (pe_makeS (E := L2.WE (wxOf Y)) M F1 (ok.room.mono hj) hg hm hb (fun σ => passAt ok.tk σ) pa_wa hdb he hpl) ?_
  refine (h F0 σ H F e0 S).mono fun us H1 ⟨As, s1, F1, e1, r1, S1, hl, k⟩ => ?_
  intro q dx hq hdx hne
  obtain ⟨gs1, gs2, hp, hd⟩ := k q
  have S2 := S1.newF (o := .own q) hdx rfl
  have hq2 : (upd H1 dx (.own q)) q = none := by rw [upd_ne (Ne.symm hne)]; exact hq
  have S3 := S2.newO (o := .ins C dx []) (c := insc C []) hq2 rfl ⟨dx, [], rfl, .nil⟩
  have hp3 : ((q, insc C []) :: s1.gs).Perm (((q, insc C []) :: gs1) ++ gs2) := hp.cons _
  have e2 : Ext F1 (upd F1 dx (.own q)) := Ext.grow (S1.free hdx)
  have sp := sp_call (Q := fun A s' => A = pu () ∧ ∃ fs gs3, s'.gs = (q, insc C fs) :: gs3 ∧ s'.ρ = s1.ρ ∧ Q (insP C fs) ⟨s1.ρ, gs3⟩) (As := raw (.ref q) :: As) (n := ps.length) (d := dd) (F0 := F0) (e1.trans e2) S3 (.cons rfl (r1.mono e2)) (by rw [List.length_cons]; exact hl) hp3
    (mono _ _ _ _ _ _ (fun A g ⟨ea, fs, gs3, eg, q2⟩ => ⟨ea, fs, gs3 ++ gs2, by rw [eg]; rfl, rfl, q2⟩) (fun e g q2 => by have := q2 0; simpa using this) hd) (mono _ _)
  obtain ⟨hlen, As', gs', F', rr, G', d'⟩ := sp
  refine ⟨hlen, As', gs', F', rr, G', mono _ _ _ _ _ _ (fun A g q3 v H' F'' ra G2 st => ?_) (fun e g q3 => q3) d'⟩
  obtain ⟨B, s4, F4, e4, r4, S4, eb, fs, gs3, eg, eρ, q4⟩ := q3 v H' F'' ra G2 st
  have hc : s4.gs[0]? = some (q, insc C fs) := by rw [eg]; rfl
  obtain ⟨hF, oo, hoo, _, dx2, vs, eo, rv⟩ := S4.cell hc
  subst eo
  have S5 := S4.freeze hc hoo
  have eg5 : s4.gs.eraseIdx 0 = gs3 := by rw [eg]; rfl
  rw [eg5, eρ] at S5
  subst eb
  exact ⟨r4, insP C fs, _, _, e4.trans (Ext.grow hF), ⟨q, dx2, vs, rfl, upd_same, rv.mono (Ext.grow hF)⟩, S5, q4⟩
end
end Sp
set_option maxHeartbeats 4000000
/-! Sp: a lambda told by a def that tries it; what its errors are told as. -/
namespace Sp
open PySem L2
open PySem.W (Datum DatumOrd SomeDatum)
/-- the clauses: class, text -/
abbrev Cls_ := List (Addr × Txt)
/-- what an error of class C is told as -/
def Tell (K : Frag) : Cls_ → Addr → Txt → Prop
  | [], _, _ => False
  | (c, x) :: r, C, t => ∃ b, PySem.W.exmOne K (.ref C) (.ref c) = some b ∧ (b = true → t = x) ∧ (b = false → Tell K r C t)
/-- .. by heaps -/
def Chn (K : Frag) : Cls_ → Value → Hp → VK → Prop
  | [], _, _, _ => False
  | (c, x) :: r, cls, H, Q => ∃ b, PySem.W.exmOne K cls (.ref c) = some b ∧ (b = true → Q (.str (toStr x)) H) ∧ (b = false → Chn K r cls H Q)
theorem tell_chn {K : Frag} {H : Hp} {Q : VK} {C : Addr} {t : Txt} : ∀ {l : Cls_}, Tell K l C t → Q (.str (toStr t)) H → Chn K l (.ref C) H Q
  | [], h, _ => h.elim
  | (c, x) :: r, ⟨b, h1, h2, h3⟩, q => ⟨b, h1, fun e => by rw [← h2 e]; exact q, fun e => tell_chn (h3 e) q⟩
/-- what the telling def makes of the lambda's reading -/
def TTm (K : Frag) (l : Cls_) : (XK → Hp → VK → Prop) → Hp → VK → Prop := fun tl H Q => tl (fun cls _ H' => Chn K l cls H' Q) H Q
/-- the except clauses of the telling def's text -/
inductive HdT (K : Frag) (mg : Str → Option Value) (sg : Scope) : List ExceptHandler → Cls_ → Prop
  | nil : HdT K mg sg [] []
  | cons {e m : Str} {c : Addr} {x : Txt} {j : Nat} {p4 p5 p6 p7 : Pos} {hds : List ExceptHandler} {l : Cls_} : sg.names.lookup e = some .globalImplicit → mg e = some (.ref c) → (e == ("__debug__" : Str)) = false → toStr x = m → HdT K mg sg hds l →
      HdT K mg sg (.ExceptHandler (some (.Name e p4)) none [.Return (some (.Constant (.str m) j p5)) p6] p7 :: hds) ((c, x) :: l)
section
variable {X : Cx}
/-- a clause's suite -/
def tsR (x : Str) : Addr → Value → Option Addr → TS := fun _ _ _ D σ H => D.rt (.str x) H
theorem hds_ok {Z : Cx} {sg : Scope} {hds : List ExceptHandler} {l : Cls_} (h : HdT Z.K Z.mg sg hds l) (hz : Z.env.scope = sg) : HdsOk Z hds (l.map fun cx => (Value.ref cx.1, tsR (toStr cx.2))) := by
  induction h with
  | nil => exact .nil
  | cons h1 h2 h3 h4 _ ih =>
    subst h4
    refine .cons ⟨?_, h3, .inl h2⟩ (fun a oe cls d pn _ _ => ?_) ih
    · show Z.env.scope.names.lookup _ = _
      rw [hz]
      exact h1
    · exact ⟨fun pins s σ H D I q => (pss_one (ps_ret pe_str)).run pins s σ H D I q⟩
theorem many_chn {K : Frag} {D : Ends} {σ : St} {H : Hp} {cls : Value} {d : Option Addr} : ∀ {l : Cls_}, Chn K l cls H D.rt → wMany K (fun _ _ _ _ => False) D (l.map fun cx => (Value.ref cx.1, tsR (toStr cx.2))) cls d σ H
  | [], h => h
  | (c, x) :: r, ⟨b, h1, h2, h3⟩ => ⟨b, h1, fun e a _ => h2 e, fun e => many_chn (h3 e)⟩
theorem told_many {Ng : List Str} {x a q : Str} {sg : Scope} {g : Addr} {cdg : Value} {p1 p2 p3 p8 : Pos} {h0 : ExceptHandler} {hds : List ExceptHandler} {l : Cls_} (hh : HdT X.K X.mg sg (h0 :: hds) l) (hN : ∀ f : Addr, (L2.start Ng [V.ref f])[0]? = some (some (V.ref f))) :
    LamX.GivesTo X Ng x sg g cdg [.Try [.Return (some (.Call (.Name a p1) [] [] p2)) p3] (h0 :: hds) [] [] p8] a q (TTm X.K l) := by
  intro f c' s H Q tl act hc h
  refine ⟨_, pss_one (ps_try_many (X := (cxOf C8.CX0 X.prog X.w X.K X.mg X.base Ng x sg g cdg X.A X.stack s H C8.E0).nox)
    (tb := fun W D σ H => ∃ Ech : XK, (∀ cls d σ' H', Ech cls d H' → W cls d σ' H') ∧ σ[0]? = some (some (.ref f)) ∧ H c' = some (LamX.CodeO c' q) ∧ tl Ech H D.rt)
    rfl rfl LamX.takes0 (fun W pn xe tk _ => ?_) (hds_ok hh rfl)), ?_⟩
  · exact ⟨fun pins s' σ H' D I ⟨Ech, hW, h1, h2, h3⟩ => (pss_one (ps_ret (pos := p3) (act W pn xe Ech p1 p2 tk hW))).run pins s' σ H' D I ⟨h1, h2, h3⟩⟩
  · exact ⟨fun cls _ H' => Chn X.K l cls H' Q, fun cls d σ' H' z => many_chn (D := { nx := fun _ H' => Q .non H', rt := Q }) z, hN f, hc, h⟩
end
/-- the telling def, as law functions know it -/
structure Told (X : Cx) (x : Str) (l : Cls_) : Prop where
  ex : ∃ (a : Str) (g : Addr) (pg : Arguments) (bg : List Stmt) (sg : Scope) (dV kV doc pm cdv ct oc : Value) (an od : Option Addr) (osl : Array (Option Value)) (Ng : List Str),
    X.mg x = some (.ref g) ∧ PySem.W.keepIn X.K (.ref g) = true ∧ X.K.lookup g = some ⟨oc, od, .func (PySem.W.fnOf x x pg bg sg dV kV doc pm an cdv ct), osl⟩ ∧ PySem.W.codeIn X.K cdv x = true ∧
    L2.Binds X.K (PySem.W.fnOf x x pg bg sg dV kV doc pm an cdv ct) [a] [] ∧ FnScope Ng [a] sg ∧ Ng[0]? = some a ∧ Vis sg a ∧ (a == ("__debug__" : Str)) = false ∧ (a == ("__classdict__" : Str)) = false ∧
    ∀ q, LamX.GivesTo X Ng x sg g cdv bg a q (TTm X.K l)
/-- the def's own code object and table -/
structure Tbl (X : Cx) (T : Tb) (q : Str) : Prop where
  ex : ∃ c P, LamX.TabB X.base X.mg c P ∧ X.env.code = .ref c ∧ (P, q) ∈ T ∧ ∀ p ∈ T, p.1 = P → p.2 = q
/-- the lambda's body by data -/
abbrev lamY (Y : DX) (k : Nat) (A : Around) (outer : List Env) (s1 : Shared) (Hc : Hp) (E : XK) (scope : Scope) (f c' : Addr) (H F : Hp) (gs : Gs) (ex : Exc → DSt → Prop) : DX :=
  ⟨LamX.lamCx Y.X A outer s1 Hc E scope f c', Y.T, k, H, F, ads gs, ex⟩
section
variable {Y : DX} {s : DSt} {e : Expr} {pos p lpos : Pos} {Q : Pv → DSt → Prop}
theorem ev_told {x : Str} {l : Cls_} {params : Arguments} {body : Expr} {scope : Scope} {k : Nat} (G : Told Y.X x l) (tb : Tbl Y.X Y.T (Y.X.env.qual ++ "<lambda>")) (ok : YOk Y) (hk : k + 2 ≤ Y.k) (hg : Gl Y.X x) (L : LamX.LamS Y.X.env.scope scope)
    (h : ∀ (A : Around) (outer : List Env) (s1 : Shared) (Hc : Hp) (E : XK) (f c' : Addr) (H F : Hp), let Y' := lamY Y k A outer s1 Hc E scope f c' H F s.gs fun e s' => ∃ t, Tell Y.X.K l e.C t ∧ Q (pu t) ⟨s.ρ, s'.gs⟩
      YOk Y' → Ev Y' s body fun A s' => Q A ⟨s.ρ, s'.gs⟩)
    (hdef : defaultsOf params Y.X.env = ([], []) := by rfl) (hbind : ∀ (q : Str) (cl : List (Str × Addr)) (pm cv ctv : Value), bindArgs (PySem.W.kla_fn "<lambda>" q params body scope cl pm cv ctv) ⟨[], []⟩ = pure [] := by intros; rfl)
    (hdb : (x == ("__debug__" : Str)) = false := by decide) : Ev Y s (.Call (.Name x p) [.Lambda params body scope lpos] [] pos) Q := fun F0 σ H F e0 S => by
  obtain ⟨a, g, pg, bg, sg, dV, kV, doc, pm, cdv, ct, oc, an, od, osl, Ng, g1, g2, g3, g4, g5, g6, g7, g8, g9, g10, g11⟩ := G.ex
  obtain ⟨c, P, b1, b2, b3, b4⟩ := tb.ex
  refine .of (LamX.pe_lamcall (k := k) (t := fun E σ H1 Q1 => ∀ (A : Around) (outer : List Env) (s1 : Shared) (Hc : Hp) (f c' : Addr), Room k (A.deeper (LamX.lamEnv Y.X scope s1.heap.objs.size f c')) → WE (LamX.lamCx Y.X A outer s1 Hc E scope f c') body σ H1 Q1)
    hg g1 g2 g3 g4 g5 g6 g7 g8 (g11 _) b1 b2 b3 b4 (ok.room.mono hk) L hdef hbind (fun A outer s1 Hc E f c' hr => ⟨fun pins s2 σ2 H2 Q2 I q => (q A outer s1 Hc f c' hr).run pins s2 I⟩) hdb g9 g10) ⟨S.tb, fun H1 eN t1 => ?_⟩
  have S1 := S.extN eN t1
  show ∀ (A : Around) (outer : List Env) (s1 : Shared) (Hc : Hp) (f c' : Addr), Room k (A.deeper (LamX.lamEnv Y.X scope s1.heap.objs.size f c')) → WE (LamX.lamCx Y.X A outer s1 Hc _ scope f c') body σ H1 _
  intro A outer s1 Hc f c' hr
  have back : ∀ {s' : DSt} {σ' : St} {H' F' : Hp}, Sta (lamY Y k A outer s1 Hc (fun cls _ H' => Chn Y.X.K l cls H' (Po Y σ F0 Q)) scope f c' H1 F s.gs fun e s' => ∃ t, Tell Y.X.K l e.C t ∧ Q (pu t) ⟨s.ρ, s'.gs⟩) s' σ' H' F' → Sta Y ⟨s.ρ, s'.gs⟩ σ H' F' := fun {s' σ' H' F'} S' => by
    have := S1.called (gs1 := s.gs) (gs2 := []) (gs1' := s'.gs) (by rw [List.append_nil]) S'.stg S'.st
    rwa [List.append_nil] at this
  have tk0 : Takes (LamX.lamCx Y.X A outer s1 Hc (fun cls _ H' => Chn Y.X.K l cls H' (Po Y σ F0 Q)) scope f c') (fun cls d _ H' => Chn Y.X.K l cls H' (Po Y σ F0 Q)) := takes_of rfl rfl rfl rfl
  have ok' : YOk (lamY Y k A outer s1 Hc (fun cls _ H' => Chn Y.X.K l cls H' (Po Y σ F0 Q)) scope f c' H1 F s.gs fun e s' => ∃ t, Tell Y.X.K l e.C t ∧ Q (pu t) ⟨s.ρ, s'.gs⟩) :=
    ⟨rfl, ok.nd, hr, passes_of rfl, tk0.imp fun cls d σ' H' ⟨e, s', F', S', er, t, ht, q⟩ => by
      obtain ⟨ec, _⟩ := er
      subst ec
      refine tell_chn ht ⟨pu t, ⟨s.ρ, s'.gs⟩, F', e0.trans S'.st.ff, rfl, back S', q⟩⟩
  refine (h A outer s1 Hc _ f c' H1 F ok' F σ H1 F (.refl _) ⟨S1.ext, S1.ntb, S1.rep, S1.own, S1.nd, S1.tb, Step.refl⟩).mono fun v H' ⟨A', s', F', e1, r, S', q⟩ => ?_
  exact ⟨A', ⟨s.ρ, s'.gs⟩, F', e0.trans e1, r, back S', q⟩
end
end Sp
set_option maxHeartbeats 4000000
/-! Sp: generator expressions walked by any, all, sum. -/
namespace Sp
open PySem L2
open PySem.W (Datum DatumOrd SomeDatum)
/-- the generator's own names and what it captures -/
structure GenOk (N : List Str) (sc scope : Scope) (vs : List Nat) : Prop where
  kind : scope.kind = .function
  co : scope.isCoroutine = false
  nocell : ∀ y ∈ scope.names, y.2 ≠ .cell
  dot : scope.names.lookup (".0" : Str) = some NameKind.local
  free : ∀ y ∈ scope.names, y.2 = .free → sc.names.lookup y.1 = some .cell ∨ sc.names.lookup y.1 = some .free
  own : ∀ (i : Nat) (y : Str), N[i]? = some y → scope.names.lookup y = some NameKind.local → i ∈ vs
def genOkB (N : List Str) (sc scope : Scope) (vs : List Nat) : Bool :=
  decide (scope.kind = .function) && !scope.isCoroutine && (scope.names.all fun y => !decide (y.2 = .cell) && (!decide (y.2 = .free) || decide (sc.names.lookup y.1 = some .cell) || decide (sc.names.lookup y.1 = some .free))) &&
    decide (scope.names.lookup (".0" : Str) = some NameKind.local) && (List.range N.length).all fun i => decide (i ∈ vs) || !decide (scope.names.lookup (N.getD i "") = some NameKind.local)
theorem genOk_by {N : List Str} {sc scope : Scope} {vs : List Nat} (h : genOkB N sc scope vs = true) : GenOk N sc scope vs := by
  unfold genOkB at h
  simp only [Bool.and_eq_true, Bool.or_eq_true, Bool.not_eq_true', decide_eq_true_eq, decide_eq_false_iff_not, List.all_eq_true] at h
  obtain ⟨⟨⟨⟨h1, h2⟩, h3⟩, h4⟩, h5⟩ := h
  refine ⟨h1, h2, fun y hy => (h3 y hy).1, h4, fun y hy e => ?_, fun i y hi hl => ?_⟩
  · rcases (h3 y hy).2 with (z | z) | z
    · exact absurd e z
    · exact .inl z
    · exact .inr z
  · obtain ⟨hl', e⟩ := List.getElem?_eq_some_iff.mp hi
    rcases h5 i (List.mem_range.mpr hl') with z | z
    · exact z
    · exact absurd (by rw [List.getD_eq_getElem?_getD, hi]; exact hl) z
/-- the generator's frame: made at s, H; its iterator's objects fp -/
def genCx (X : Cx) (A : Around) (env : Env) (s : Shared) (H : Hp) (fp : List Addr) : Cx where
  prog := X.prog
  w := X.w
  K := X.K
  mg := X.mg
  base := X.base
  A := A
  N := X.N
  s_0 := s
  H_0 := H
  env := env
  outer := X.stack
  stack := env :: X.stack
  ex := fp
  fn := fun _ => false
  calm := true
  pn := []
  xe := fun _ _ => False
section
variable {X : Cx} {pins : List (Addr × Obj)} {σ : St} {H : Hp} {s : Shared}
theorem gen_start {A : Around} {scope : Scope} {vs : List Nat} {code : Value} {fp : List Addr} {h' : Heap} {g' : Array GenState} {tk : Nat} {m0 : Str → Option Value} (I : Inv X pins σ H s) (G : GenOk X.N X.env.scope scope vs) (hA : A.frames = some (genEnv scope (cloFrom X.env.cells scope.names []) s.heap.objs.size code builtinsNs X.env :: X.stack)) (hd : A.handled = none)
    (hfp : ∀ b ∈ fp, FpOk X pins H b ∧ b < s.heap.objs.size) (hn : h'.Ns s.heap.objs.size m0) (kp : ∀ b o, s.heap.get? b = some o → h'.get? b = some o) (hg : PyProof.Rows.AllBare g') :
    Inv (genCx X A (genEnv scope (cloFrom X.env.cells scope.names []) s.heap.objs.size code builtinsNs X.env) s H fp) [] (L2.wipe σ vs) H { s with heap := h', gens := g', toks := tk } := by
  have hfree : ∀ y ∈ scope.names, y.2 = .free → ∃ c, X.env.cells.lookup y.1 = some c := fun y hy e => by
    rcases G.free y hy e with k | k
    · exact I.ok.has _ (.inl k)
    · exact I.ok.has _ (.inr k)
  have cm : ∀ {y c}, (cloFrom X.env.cells scope.names []).lookup y = some c → X.env.cells.lookup y = some c := fun {y c} e => by
    rcases cloFrom_mem (PySem.mem_of_lookup e) with hm | ⟨h1, h2⟩
    · cases hm
    · obtain ⟨c1, hc⟩ := hfree _ h1 rfl
      have hc' : X.env.cells.lookup y = some c1 := hc
      rw [hc', show c = c1 by rw [h2, hc] <;> rfl]
  have look : ∀ {y}, scope.names.lookup y = some .free → ∃ c, (cloFrom X.env.cells scope.names []).lookup y = some c := fun {y} hl =>
    mem_lookup (cloFrom_has (cells := X.env.cells) (acc := []) (PySem.mem_of_lookup hl))
  have isc : ∀ {c : Addr} {v : Option Value}, s.heap.IsCell c v → h'.IsCell c v := fun {c v} ⟨o, ho, hd⟩ => ⟨o, kp _ _ ho, hd⟩
  refine ⟨⟨I.ok.mod, G.kind, I.ok.glob, rfl, Nat.le_refl _, fun y z c e1 e2 => I.ok.inj y z c (cm e1) (cm e2), fun y hy => ?_, fun y c z _ => ?_, fun _ => hd, hA, .inr ⟨rfl, rfl⟩, fun b hb => ⟨?_, fun y c e z => ?_⟩, I.bs, Nat.le_trans I.ok.bsz I.sz, fun b o e hb => ?_, fun b hb z => ?_, I.stack, I.stkFree⟩,
    rfl, hg, Un.kept kp, ⟨m0, hn, fun i y v e1 e2 e3 => ?_⟩, fun y c e => ?_, I.hok.fresh (Nat.le_refl _), fun y c e => I.freeC y c (cm e), fun q hq => absurd (show q ∈ ([] : List (Addr × Obj)) ++ [] from hq) (by simp), I.hok.kept kp, by rw [wipe_length]; exact I.len⟩
  · have hy : scope.names.lookup y = some .cell ∨ scope.names.lookup y = some .free := hy
    rcases hy with hy | hy
    · exact absurd rfl (G.nocell _ (PySem.mem_of_lookup hy))
    · exact look hy
  · have z : false = true := z
    cases z
  · exact Nat.ne_of_lt (hfp b hb).2
  · exact (hfp b hb).1.2.2.2.2.1 y c (cm e) z
  · obtain ⟨_, _, _, q, _⟩ := (hfp b hb).1
    rcases q with q | q
    · exact I.ok.noex b o e q
    · exact absurd (Nat.lt_of_lt_of_le (Heap.lt_size e) (Nat.le_trans I.ok.bsz q)) (Nat.lt_irrefl _)
  · rcases List.mem_cons.mp (I.stkSub b z) with q | q
    · exact (hfp b hb).1.2.1 q
    · exact (hfp b hb).1.2.2.1 q
  · have e3 : Vis scope y := e3
    obtain ⟨w1, w2⟩ := wipe_some e2
    rcases e3 with k | k | k
    · exact absurd (G.own i y e1 k) w2
    · exact absurd rfl (G.nocell _ (PySem.mem_of_lookup k))
    · obtain ⟨m, hn', hl⟩ := I.loc
      have hvis : Vis X.env.scope y := (G.free _ (PySem.mem_of_lookup k) rfl).elim (fun k => .inr (.inl k)) (fun k => .inr (.inr k))
      obtain ⟨w', r, q⟩ := hl i y v e1 w1 hvis
      obtain ⟨c2, h2⟩ := look k
      refine ⟨w', r, .inr ⟨.inr k, c2, h2, ?_⟩⟩
      rcases q with ⟨k', _⟩ | ⟨_, c3, e', z⟩
      · have k' : X.env.scope.names.lookup y = some .local := k'
        rcases G.free _ (PySem.mem_of_lookup k) rfl with k2 | k2 <;> rw [show X.env.scope.names.lookup y = _ from k2] at k' <;> cases k'
      · rw [cm h2] at e'
        cases e'
        exact isc z
  · obtain ⟨w', z⟩ := I.cell y c (cm e)
    exact ⟨w', isc z⟩
end
/-! ### the turns -/
structure GCx where
  A : Around
  C : Addr
  code : Value
  s : Shared
  H : Hp
  fp : List Addr
abbrev genE (Y : DX) (scope : Scope) (z : GCx) : Env := genEnv scope (cloFrom Y.X.env.cells scope.names []) z.C z.code builtinsNs Y.X.env
abbrev genX (Y : DX) (scope : Scope) (z : GCx) : Cx := genCx Y.X z.A (genE Y scope z) z.s z.H z.fp
abbrev genY (Y : DX) (k : Nat) (scope : Scope) (z : GCx) : DX := ⟨genX Y scope z, Y.T, k, Y.H0, Y.F0, Y.S0, fun _ _ => False⟩
section
variable {Y : DX} {k : Nat} {scope : Scope} {z : GCx} {s : DSt} {σ : St} {H F : Hp}
theorem Sta.gen (S : Sta Y s σ H F) : Sta (genY Y k scope z) s σ H F := ⟨S.ext, S.ntb, S.rep, S.own, S.nd, S.tb, S.st⟩
theorem Sta.ungen (S : Sta (genY Y k scope z) s σ H F) : Sta Y s σ H F := ⟨S.ext, S.ntb, S.rep, S.own, S.nd, S.tb, S.st⟩
theorem YOk.gen (ok : YOk Y) (hr : Room k z.A) : YOk (genY Y k scope z) :=
  ⟨rfl, ok.nd, hr, PassesOwn.never, fun _ _ ⟨_, _, _, _, _, _, _, _, _, _, _, _, _, _, _, _, _, _, _, _, _, q⟩ => q.elim⟩
/-- a value's shape from its data -/
class FlatE (α : Type) [Enc α] [FlatV α] : Prop where
  of : ∀ {K : Frag} {F : Hp} {v : V} {a : α}, Enc.rep K F v a → v = FlatV.z a
instance : FlatE Int := ⟨fun h => h⟩
instance : FlatE Bool := ⟨fun h => h⟩
/-- quiet turns of a generator -/
structure GTurns {β γ : Type} [Enc β] [Enc γ] (Y : DX) (k : Nat) (s : DSt) (scope : Scope) (vs : List Nat) (tg elt : Expr) (ifs : List Expr) (g : TG) (ws : List Nat) (f : β → Rho → Rho) (items : List β) (c : β → Bool) (h : β → γ) : Prop where
  tg : ∀ z, TgOk (genY Y k scope z) tg g ws f
  sub : ∀ j ∈ ws, j ∈ vs
  test : ∀ z, YOk (genY Y k scope z) → ∀ x ∈ items, Ets (genY Y k scope z) ⟨f x (wipeR s.ρ vs), s.gs⟩ ifs fun b s2 => b = c x ∧ s2 = ⟨f x (wipeR s.ρ vs), s.gs⟩
  elt : ∀ z, YOk (genY Y k scope z) → ∀ x ∈ items, c x = true → EvP (genY Y k scope z) ⟨f x (wipeR s.ρ vs), s.gs⟩ elt (pu (h x))
/-- the maker's data, seen from the generator's frame -/
def GE (Y : DX) (scope : Scope) (z : GCx) (vs : List Nat) (s : DSt) (σ : St) (F : Hp) (S : List Addr) (s1 : Shared) : Prop :=
  ∃ H' F', Inv (genX Y scope z) [] (L2.wipe σ vs) H' s1 ∧ (∀ b ∈ S, H' b = none) ∧ Ext F F' ∧ Sta Y s σ H' F'
/-- ahead of turn i; S: objects that the walker may change -/
def GT (Y : DX) (scope : Scope) (z : GCx) (vs : List Nat) (s : DSt) (σ : St) (F : Hp) (tn : Nat → Heap → Prop) (S : List Addr) (i : Nat) (s1 : Shared) : Prop :=
  ∃ H' F', Inv (genX Y scope z) [] (L2.wipe σ vs) H' s1 ∧ tn i s1.heap ∧ (∀ b ∈ z.fp, H' b = none) ∧ (∀ b ∈ S, H' b = none) ∧ (∀ b ∈ S, ∃ o, s1.heap.get? b = some o ∧ ∀ v, o.data ≠ .cell v) ∧ Ext F F' ∧ Sta Y s σ H' F'
/-- what may happen while the generator sleeps -/
def Aw (S : List Addr) (s s' : Shared) : Prop :=
  s'.os = s.os ∧ PyProof.Rows.AllBare s'.gens ∧ (∀ b o, b ∉ S → s.heap.get? b = some o → s'.heap.get? b = some o) ∧ ∀ b ∈ S, ∃ o, s'.heap.get? b = some o ∧ ∀ v, o.data ≠ .cell v
/-- b is apart from the generator -/
structure Ap (Y : DX) (scope : Scope) (z : GCx) (S : Addr) : Prop where
  big : z.s.heap.objs.size ≤ S
  loc : S ≠ z.C
  cell : ∀ x c, (cloFrom Y.X.env.cells scope.names []).lookup x = some c → c ≠ S
  fp : S ∉ z.fp
  fs : S ∉ frs Y.X.stack
theorem Ap.fpOk {S : Addr} {H' : Hp} (a : Ap Y scope z S) (h : H' S = none) : FpOk (genX Y scope z) [] H' S :=
  ⟨h, a.loc, a.fs, .inr a.big, a.cell, fun p hp => absurd (show p ∈ ([] : List (Addr × Obj)) ++ [] from hp) (by simp)⟩
theorem GE.aw {vs : List Nat} {S : List Addr} {s1 s2 : Shared} {H' : Hp} (a : ∀ b ∈ S, Ap Y scope z b) (hS : ∀ b ∈ S, H' b = none) (I : Inv (genX Y scope z) [] (L2.wipe σ vs) H' s1) (w : Aw S s1 s2) : Inv (genX Y scope z) [] (L2.wipe σ vs) H' s2 := by
  obtain ⟨w1, w2, w3, w4⟩ := w
  obtain ⟨hh, g, d, t, o⟩ := s2
  have ho : o = s1.os := w1
  subst ho
  have nS : ∀ b u, H' b = some u → b ∉ S := fun b u e q => by rw [hS b q] at e; cases e
  refine I.step (g' := g) (t' := t) (d' := d) (ch := S) (fun b hb => ?_) (fun b ob _ _ hc q _ => w3 b ob hc q) (fun b ob _ _ hc q _ => ⟨ob.slots, w3 b ob hc q⟩) (fun _ _ _ _ n => n) (fun b ob hc q => ⟨ob, w3 b ob hc q⟩)
    (fun _ _ q => q) (fun _ _ _ q => q) (fun b ps q => ⟨#[], by rw [q]; simp⟩) (fun m hm => ?_) (fun b u q => ?_) w2
  · have ab := a b hb
    exact ⟨.inr ab.big, ab.loc, ab.cell, fun p hp => absurd (show p ∈ ([] : List (Addr × Obj)) ++ [] from hp) (by simp)⟩
  · obtain ⟨ob, es, ep, hob, r⟩ := hm
    exact ⟨ob, es, ep, w3 _ ob (fun q => (a _ q).loc rfl) hob, r⟩
  · refine (I.hok b u q).stay (fun c v hc y => w3 c v ?_ y) (fun _ y => y) fun _ _ y => y
    rcases hc with y | y
    · rw [y]; exact nS b u q
    · exact nS c _ y
theorem GT.aw {vs : List Nat} {tn : Nat → Heap → Prop} {S : List Addr} {i : Nat} {s1 s2 : Shared} {tg : Expr} {J : It} {it : Addr} (T : Turn Y.X.prog Y.X.w Y.X.K tg J z.fp it tn) (a : ∀ b ∈ S, Ap Y scope z b) (h : GT Y scope z vs s σ F tn S i s1) (w : Aw S s1 s2) : GT Y scope z vs s σ F tn S i s2 := by
  obtain ⟨H', F', I, t1, n1, hS, _, e1, S1⟩ := h
  exact ⟨H', F', GE.aw a hS I w, T.keep i _ _ t1 fun b hb o e => w.2.2.1 b o (fun q => (a b q).fp hb) e, n1, hS, w.2.2.2, e1, S1⟩
theorem GT.ge {vs : List Nat} {tn : Nat → Heap → Prop} {S : List Addr} {i : Nat} {s1 : Shared} (h : GT Y scope z vs s σ F tn S i s1) : GE Y scope z vs s σ F S s1 := by
  obtain ⟨H', F', I, _, _, hS, _, e1, S1⟩ := h
  exact ⟨H', F', I, hS, e1, S1⟩
end
/-- the protocol of the sleeps: ys what is handed out, n how many are left -/
def GP {γ : Type} [Enc γ] [FlatV γ] (Y : DX) (scope : Scope) (z : GCx) (vs : List Nat) (s : DSt) (σ : St) (F : Hp) (S : List Addr) (ys : List γ) : Protocol := fun n s0 v s1 kap =>
  ∃ y, ys[ys.length - 1 - n]? = some y ∧ RelV (FlatV.z y) v ∧ GE Y scope z vs s σ F S s1 ∧ (∀ b ∈ S, ∀ o, s0.heap.get? b = some o → s1.heap.get? b = some o) ∧ ∀ s2, Aw S s1 s2 → kap (.send .none) s2
section
variable {Y : DX} {k : Nat} {scope : Scope} {z : GCx} {s : DSt} {σ : St} {H F : Hp} {β γ : Type} [Enc β] [Enc γ] [FlatV γ] [FlatE γ]
theorem drop_at {α : Type} {l : List α} {i : Nat} {x : α} (h : l[i]? = some x) : l.drop i = x :: l.drop (i + 1) := by
  obtain ⟨hl, e⟩ := List.getElem?_eq_some_iff.mp h
  rw [List.drop_eq_getElem_cons hl, e]
theorem rest_at {items : List β} {c : β → Bool} {h : β → γ} {i : Nat} {x : β} (hx : items[i]? = some x) (hc : c x = true) :
    ((items.filter c).map h)[((items.filter c).map h).length - 1 - ((items.drop (i + 1)).filter c).length]? = some (h x) := by
  have e : items.filter c = (items.take i).filter c ++ x :: (items.drop (i + 1)).filter c := by
    rw [← List.filter_cons_of_pos hc, ← drop_at hx, ← List.filter_append, List.take_append_drop]
  rw [e, List.map_append, List.length_append, List.map_cons, List.length_cons, List.length_map, List.length_map]
  have : ((items.take i).filter c).length + (((items.drop (i + 1)).filter c).length + 1) - 1 - ((items.drop (i + 1)).filter c).length = ((items.take i).filter c).length := by omega
  rw [this, List.getElem?_append_right (by rw [List.length_map]; exact Nat.le_refl _), List.length_map, Nat.sub_self]
  rfl
theorem seg_gen {A : Around} {vs ws : List Nat} {tg elt iter : Expr} {ifs : List Expr} {g : TG} {f : β → Rho → Rho} {items : List β} {c : β → Bool} {h : β → γ} {tn : Nat → Heap → Prop} {S : List Addr} {it : Addr} {J : It} {gpos : Pos} {F0 : Hp} (L : GTurns Y k s scope vs tg elt ifs g ws f items c h) (ok : YOk (genY Y k scope z)) (hco : scope.isCoroutine = false)
    (T : Turn Y.X.prog Y.X.w Y.X.K tg J z.fp it tn) (a : ∀ b ∈ S, Ap Y scope z b) (K1 : ItOk Y.X.K J F items) (hA : A.over (.compLoop (.GeneratorExp elt [⟨tg, iter, ifs, 0⟩] scope gpos) 0 (.ref it) .none (genE Y scope z)) [] = z.A) :
    ∀ (m i : Nat) (s₀ s1 : Shared), items.length - i = m → i ≤ items.length → GT Y scope z vs s σ F tn S i s1 → (∀ b ∈ S, ∀ o, s₀.heap.get? b = some o → s1.heap.get? b = some o) →
      Seg (model Y.X.prog Y.X.w) A (fun n s0 r s2 => r = .ok .next ∧ (n = 0 ∧ GE Y scope z vs s σ F S s2 ∧ ∀ b ∈ S, ∀ o, s0.heap.get? b = some o → s2.heap.get? b = some o)) (GP Y scope z vs s σ F S ((items.filter c).map h)) (((items.drop i).filter c).length) s₀
        (.compLoop (.GeneratorExp elt [⟨tg, iter, ifs, 0⟩] scope gpos) 0 (.ref it) .none (genE Y scope z))
        ((model Y.X.prog Y.X.w).den (.compLoop (.GeneratorExp elt [⟨tg, iter, ifs, 0⟩] scope gpos) 0 (.ref it) .none (genE Y scope z))) [] s1 := by
  intro m
  induction m with
  | zero =>
    intro i s₀ s1 hk hi gt hsk
    have hin : i = items.length := by omega
    subst hin
    obtain ⟨H', F', I, t1, n1, hS, oS, e1, S1⟩ := gt
    show Seg _ A _ _ _ s₀ _ ((compTurn (.GeneratorExp elt [⟨tg, iter, ifs, 0⟩] scope gpos) 0 (.ref it) .none (genE Y scope z)).onRaise (leaving (genE Y scope z))) [] s1
    rw [compTurn_gen, Sem.onRaise_eq_wrap]
    refine seg_bind_wrap (wpAny_standAt ?_)
    refine seg_bind_wrap ?_
    rw [hA]
    have fk : ∀ b ∈ z.fp, FpOk (genX Y scope z) [] H' b := fun b hb => ⟨n1 b hb, (I.ok.exf b hb).1, I.ok.exfs b hb, .inl hb, fun x c e => (I.ok.exf b hb).2 x c e, fun p hp => absurd (show p ∈ ([] : List (Addr × Obj)) ++ [] from hp) (by simp)⟩
    have I0 := I.pinned (fp := S) (fun b hb => (a b hb).fpOk (hS b hb)) oS
    have fk0 : ∀ b ∈ z.fp, FpOk (genX Y scope z) ([] ++ pinsAt S s1.heap) H' b := fun b hb => ⟨n1 b hb, (fk b hb).2.1, (fk b hb).2.2.1, (fk b hb).2.2.2.1, (fk b hb).2.2.2.2.1, fun p hp e => (a b (e ▸ (of_pinsAt (fp := S) (h := s1.heap) (p := p) (by simpa using (show p ∈ ([] : List (Addr × Obj)) ++ ([] ++ pinsAt S s1.heap) from hp))).1)).fp hb⟩
    refine wpAny_mono (T.done (genX Y scope z) rfl rfl rfl rfl _ _ s1 _ H' (fun _ _ => False) I0 fk0 t1 ((K1 _ H' F' e1 S1.ext).2 (Nat.le_refl _))) (fun r s2 ⟨hr, I2⟩ => ?_) fun _ _ e => e.elim
    subst hr
    rw [List.drop_length]
    exact seg_end (.ok .next) ⟨rfl, rfl, ⟨H', F', I2.unpinned (pins := []), hS, e1, S1⟩, fun b hb o e => (I2.pin (b, o) (List.mem_append_right _ (List.mem_append_right _ (mem_pinsAt hb (hsk b hb o e))))).1⟩
  | succ m ih =>
    intro i s₀ s1 hk hi gt hsk
    have hlt : i < items.length := by omega
    obtain ⟨x, hx⟩ : ∃ x, items[i]? = some x := ⟨_, List.getElem?_eq_getElem hlt⟩
    have hmem := List.mem_of_getElem? hx
    obtain ⟨H', F', I, t1, n1, hS, oS, e1, S1⟩ := gt
    show Seg _ A _ _ _ s₀ _ ((compTurn (.GeneratorExp elt [⟨tg, iter, ifs, 0⟩] scope gpos) 0 (.ref it) .none (genE Y scope z)).onRaise (leaving (genE Y scope z))) [] s1
    rw [compTurn_gen, Sem.onRaise_eq_wrap]
    refine seg_bind_wrap (wpAny_standAt ?_)
    refine seg_bind_wrap ?_
    rw [hA]
    have I0 := I.pinned (fp := S) (fun b hb => (a b hb).fpOk (hS b hb)) oS
    have stat : ∀ {pn : List (Addr × Obj)} {σ' : St} {H2 : Hp} {s2 : Shared}, Inv (genX Y scope z) pn σ' H2 s2 → (∀ q ∈ pn, q.1 ∈ S) → (∀ b ∈ z.fp, H2 b = none) → ∀ b ∈ z.fp, FpOk (genX Y scope z) pn H2 b := fun {pn σ' H2 s2} I' hp hn b hb =>
      ⟨hn b hb, (I'.ok.exf b hb).1, I'.ok.exfs b hb, .inl hb, fun x c e => (I'.ok.exf b hb).2 x c e, fun q hq e => (a b (e ▸ hp q hq)).fp hb⟩
    have pS : ∀ q ∈ ([] : List (Addr × Obj)) ++ pinsAt S s1.heap, q.1 ∈ S := fun q hq => (of_pinsAt (by simpa using hq)).1
    refine wpAny_mono (T.item (genX Y scope z) rfl rfl rfl rfl i _ s1 _ H' (fun _ _ => False) I0 (stat I0 pS n1) t1 ((K1 i H' F' e1 S1.ext).1 x hx).1) (fun r s2 ⟨u, hr, h2⟩ => ?_) fun _ _ e => e.elim
    subst hr
    refine seg_bind_wrap ?_
    rw [hA]
    refine wpAny_mono h2 (fun _ s3 ⟨v, H3, I3, r3, y3, t3, n3⟩ => ?_) fun _ _ e => e.elim
    obtain ⟨F3, e3, S3, rx⟩ := K1.yld e1 S1 hx y3
    have I3' := I3.pinned (stat I3 pS n3) (T.obj _ _ t3)
    refine seg_bind_wrap ?_
    rw [hA]
    refine wpAny_mono ((L.tg z).1.run _ s3 _ H3 v u _ I3' r3 ((L.tg z).2 (L2.wipe σ vs) H3 F3 v x ⟨wipeR s.ρ vs, s.gs⟩ (fun σ4 H4 => Sta (genY Y k scope z) ⟨f x (wipeR s.ρ vs), s.gs⟩ σ4 H4 F3 ∧ Only ws (L2.wipe σ vs) σ4) ((S3.wipe vs).gen) rx fun σ4 S4 o4 => ⟨S4, o4⟩)) (fun _ s4 ⟨σ4, H4, I4, S4, o4⟩ => ?_) fun _ _ e => e.elim
    have hl4 : (L2.wipe σ vs).length = σ4.length := o4.1.symm
    have wk : ∀ (j : Nat) (w : V), (L2.wipe σ vs)[j]? = some (some w) → σ4[j]? = some (some w) := fun j w e => by
      rw [o4.2 j fun hj => (wipe_some e).2 (L.sub j hj)]
      exact e
    have fin : ∀ {s5 : Shared} {H5 F5 : Hp}, Inv (genX Y scope z) (([] ++ pinsAt S s1.heap) ++ pinsAt z.fp s3.heap) σ4 H5 s5 → Ext F3 F5 → Sta (genY Y k scope z) ⟨f x (wipeR s.ρ vs), s.gs⟩ σ4 H5 F5 → GT Y scope z vs s σ F tn S (i + 1) s5 ∧ ∀ b ∈ S, ∀ o, s1.heap.get? b = some o → s5.heap.get? b = some o := fun {s5 H5 F5} I5 e5 S5 => by
      have pf : ∀ b ∈ z.fp, ∀ o, s3.heap.get? b = some o → s5.heap.get? b = some o ∧ H5 b = none := fun b hb o e =>
        let q := I5.pin (b, o) (List.mem_append_right _ (List.mem_append_right _ (mem_pinsAt hb e)))
        ⟨q.1, q.2.1⟩
      have qS : ∀ b ∈ S, ∀ o, s1.heap.get? b = some o → s5.heap.get? b = some o ∧ H5 b = none := fun b hb o e =>
        let q := I5.pin (b, o) (List.mem_append_right _ (List.mem_append_left _ (List.mem_append_right _ (mem_pinsAt hb e))))
        ⟨q.1, q.2.1⟩
      refine ⟨⟨H5, F5, ((I5.unpinned (pins := [] ++ pinsAt S s1.heap)).unpinned (pins := [])).weak hl4 wk, T.keep _ _ _ t3 fun b hb o e => (pf b hb o e).1, fun b hb => ?_, fun b hb => let ⟨o, e, _⟩ := oS b hb; (qS b hb o e).2, fun b hb => let ⟨o, e, hc⟩ := oS b hb; ⟨o, (qS b hb o e).1, hc⟩, (e1.trans e3).trans e5, ?_⟩, fun b hb o e => (qS b hb o e).1⟩
      · obtain ⟨o, e, _⟩ := T.obj _ _ t3 b hb
        exact (pf b hb o e).2
      · exact S3.names (s' := ⟨f x (wipeR s.ρ vs), s.gs⟩) S5.ungen e5
    refine seg_bind_wrap ?_
    rw [hA]
    refine wpAny_mono ((L.test z ok x hmem F3 σ4 H4 F3 (.refl _) S4).run _ s4 I4) (fun b s5 ⟨H5, I5, s5', F5, e5, S5, eb, es⟩ => ?_) fun _ _ e => e.elim
    subst eb es
    cases hc : c x with
    | false =>
      rw [drop_at hx, List.filter_cons_of_neg (by simp [hc])]
      simp only [Bool.false_eq_true, if_false]
      exact seg_again rfl (ih (i + 1) s₀ _ (by omega) hlt (fin I5 e5 S5).1 fun b hb o e => (fin I5 e5 S5).2 b hb o (hsk b hb o e))
    | true =>
      rw [drop_at hx, List.filter_cons_of_pos hc, List.length_cons]
      simp only [if_true]
      have hy : ∀ v, yieldOut (genE Y scope z) v = yieldValue v := fun v => by
        have : (genE Y scope z).scope.isCoroutine = false := hco
        simp only [yieldOut, this, Bool.false_eq_true, if_false]
      simp only [hy]
      rw [Sem.bind_eq_wrap', Sem.bind_eq_wrap', Sem.wrap_wrap, Sem.wrap_wrap]
      refine seg_wrap ?_
      rw [hA]
      refine wpAny_mono ((L.elt z ok x hmem hc F5 σ4 H5 F5 (.refl _) S5).run _ s5 I5) (fun w s6 ⟨v6, H6, I6, r6, F6, e6, rv6, S6⟩ => ?_) fun _ _ e => e.elim
      obtain ⟨gt6, kp6⟩ := fin I6 (e5.trans e6) S6
      have ev : v6 = FlatV.z (h x) := FlatE.of (α := γ) rv6
      subst ev
      refine seg_at (seg_yield rfl rfl rfl ⟨h x, rest_at hx hc, r6, gt6.ge, fun b hb o e => kp6 b hb o (hsk b hb o e), fun s7 w7 => ?_⟩)
      exact seg_again rfl (ih (i + 1) s7 s7 (by omega) hlt (gt6.aw T a w7) fun _ _ _ e => e)
end
end Sp
set_option maxHeartbeats 4000000
/-! Sp: the walkers of generator expressions. -/
namespace Sp
open PySem L2
open PySem.W (Datum DatumOrd SomeDatum)
/-- a walk that is known by what holds ahead of each item -/
structure SW (prog : Program) (w : World) (A : Around) (a : Addr) (S : List Addr) (n : Nat) (St : Nat → Shared → Prop) (P : Nat → Value → Prop) (D : Shared → Prop) : Prop where
  item : ∀ (i : Nat) (s : Shared) (Q : Option Value → Shared → Prop) (E : Value → Shared → Prop), i < n → St i s → (∀ v s', P i v → St (i + 1) s' → (∀ b ∈ S, ∀ o, s.heap.get? b = some o → s'.heap.get? b = some o) → Q (some v) s') → wpAny (model prog w) A (pyNext (.ref a)) Q E s
  done : ∀ (s : Shared) (Q : Option Value → Shared → Prop) (E : Value → Shared → Prop), St n s → (∀ s', D s' → Q none s') → wpAny (model prog w) A (pyNext (.ref a)) Q E s
  out : ∀ i s, St i s → D s
section
variable {prog : Program} {w : World} {A : Around} {a : Addr} {S : List Addr} {St : Nat → Shared → Prop} {D : Shared → Prop} {R : Result → Shared → Prop}
theorem drop_item {α : Type} {l : List α} {i : Nat} {x : α} (h : l[i]? = some x) : l.drop i = x :: l.drop (i + 1) := drop_at h
theorem any_go {ys : List Bool} (W : SW prog w A.in1 a S ys.length St (fun i v => ∃ y, ys[i]? = some y ∧ v = .bool y) D) : ∀ (k i : Nat) (s : Shared), ys.length - i = k → i ≤ ys.length → St i s →
    (∀ s', D s' → R (.ok (.ret (.bool ((ys.drop i).any id)))) s') → codeAny (model prog w) A (.builtin "any.loop" ⟨[.ref a], []⟩) R s := by
  intro k
  induction k with
  | zero =>
    intro i s hk hi hst hR
    obtain rfl : i = ys.length := by omega
    refine codeAny_builtin F.entry_any_loop ?_
    rw [Around.under_plainId F.plain_any_loop _]
    show wpAny _ A.in1 (pyNext (.ref a) >>= _) _ _ s
    refine wpAny_bind (W.done s _ _ hst fun s' hm => wpAny_bind (wpAny_rule (wpAny_pure ?_)))
    have := hR s' hm
    rw [List.drop_length] at this
    exact this
  | succ k ih =>
    intro i s hk hi hst hR
    have hlt : i < ys.length := by omega
    refine codeAny_builtin F.entry_any_loop ?_
    rw [Around.under_plainId F.plain_any_loop _]
    show wpAny _ A.in1 (pyNext (.ref a) >>= _) _ _ s
    refine wpAny_bind (W.item i s _ _ hlt hst fun v s' ⟨y, hy, ev⟩ hst' _ => ?_)
    subst ev
    rw [drop_item hy, List.any_cons] at hR
    refine wpAny_bind (wpAny_holding (wpAny_truthy_bool (wpAny_bind (wpAny_letGo ?_))))
    cases y with
    | false =>
      simp only [Bool.false_eq_true, if_false]
      exact wpAny_pure ⟨plainId_quiet F.plain_any_loop _, ih (i + 1) _ (by omega) hlt hst' hR⟩
    | true =>
      simp only [if_true]
      exact wpAny_bind (wpAny_rule (wpAny_pure (hR s' (W.out _ _ hst'))))
theorem all_go {ys : List Bool} (W : SW prog w A.in1 a S ys.length St (fun i v => ∃ y, ys[i]? = some y ∧ v = .bool y) D) : ∀ (k i : Nat) (s : Shared), ys.length - i = k → i ≤ ys.length → St i s →
    (∀ s', D s' → R (.ok (.ret (.bool ((ys.drop i).all id)))) s') → codeAny (model prog w) A (.builtin "all.loop" ⟨[.ref a], []⟩) R s := by
  intro k
  induction k with
  | zero =>
    intro i s hk hi hst hR
    obtain rfl : i = ys.length := by omega
    refine codeAny_builtin F.entry_all_loop ?_
    rw [Around.under_plainId F.plain_all_loop _]
    show wpAny _ A.in1 (pyNext (.ref a) >>= _) _ _ s
    refine wpAny_bind (W.done s _ _ hst fun s' hm => wpAny_bind (wpAny_rule (wpAny_pure ?_)))
    have := hR s' hm
    rw [List.drop_length] at this
    exact this
  | succ k ih =>
    intro i s hk hi hst hR
    have hlt : i < ys.length := by omega
    refine codeAny_builtin F.entry_all_loop ?_
    rw [Around.under_plainId F.plain_all_loop _]
    show wpAny _ A.in1 (pyNext (.ref a) >>= _) _ _ s
    refine wpAny_bind (W.item i s _ _ hlt hst fun v s' ⟨y, hy, ev⟩ hst' _ => ?_)
    subst ev
    rw [drop_item hy, List.all_cons] at hR
    refine wpAny_bind (wpAny_holding (wpAny_truthy_bool (wpAny_bind (wpAny_letGo ?_))))
    cases y with
    | true =>
      simp only [if_true]
      exact wpAny_pure ⟨plainId_quiet F.plain_all_loop _, ih (i + 1) _ (by omega) hlt hst' hR⟩
    | false =>
      simp only [Bool.false_eq_true, if_false]
      exact wpAny_bind (wpAny_rule (wpAny_pure (hR s' (W.out _ _ hst'))))
end
/-! ### the generator as such a walk -/
theorem bare_set {s : Shared} {g : Nat} {x : GenState} (h : PyProof.Rows.AllBare s.gens) (hb : x.bare = true) : PyProof.Rows.AllBare (s.setGen g x).gens := fun y hy => by
  have hy' : y ∈ s.gens.setIfInBounds g x := hy
  rcases Array.mem_or_eq_of_mem_setIfInBounds hy' with q | q
  · exact h y q
  · rw [q]; exact hb
section
variable {Y : DX} {scope : Scope} {z : GCx} {s : DSt} {σ : St} {F : Hp} {vs : List Nat} {γ : Type} [Enc γ] [FlatV γ]
theorem GE.same {S : List Addr} {s1 s2 : Shared} (h : GE Y scope z vs s σ F S s1) (w : Aw [] s1 s2) : GE Y scope z vs s σ F S s2 := by
  obtain ⟨H', F', I, hS, e, S⟩ := h
  exact ⟨H', F', GE.aw (S := []) (fun _ hb => absurd hb (by simp)) (fun _ hb => absurd hb (by simp)) I w, hS, e, S⟩
theorem GE.awS {S : List Addr} {s1 s2 : Shared} (a : ∀ b ∈ S, Ap Y scope z b) (h : GE Y scope z vs s σ F S s1) (w : Aw S s1 s2) : GE Y scope z vs s σ F S s2 := by
  obtain ⟨H', F', I, hS, e, S⟩ := h
  exact ⟨H', F', GE.aw a hS I w, hS, e, S⟩
theorem Aw.trans {S : List Addr} {s1 s2 s3 : Shared} (a : Aw S s1 s2) (b : Aw S s2 s3) : Aw S s1 s3 := ⟨b.1.trans a.1, b.2.1, fun c o h e => b.2.2.1 c o h (a.2.2.1 c o h e), b.2.2.2⟩
theorem GE.bare {S : List Addr} {s1 : Shared} (h : GE Y scope z vs s σ F S s1) : PyProof.Rows.AllBare s1.gens := by
  obtain ⟨H', F', I, _⟩ := h
  exact I.bare
/-- the generator a, number g, at its i-th item -/
def GSt (Y : DX) (scope : Scope) (z : GCx) (vs : List Nat) (s : DSt) (σ : St) (F : Hp) (S : List Addr) (ys : List γ) (A : Around) (a : Addr) (g : Nat) (i : Nat) (s1 : Shared) : Prop :=
  ∃ gs, s1.heap.IsGen a g ∧ s1.gens[g]? = some gs ∧ GE Y scope z vs s σ F S s1 ∧ (∀ b ∈ S, ∃ o, s1.heap.get? b = some o ∧ ∀ v, o.data ≠ .cell v) ∧
    ∀ s2, Aw S s1 s2 → gs.Goes (model Y.X.prog Y.X.w) A (fun n s0 r s2 => r = .ok .next ∧ (n = 0 ∧ GE Y scope z vs s σ F S s2 ∧ ∀ b ∈ S, ∀ o, s0.heap.get? b = some o → s2.heap.get? b = some o)) (GP Y scope z vs s σ F S ys) (ys.length - i) (.send .none) s2
theorem gen_sw {ys : List γ} {S : List Addr} {A : Around} {a : Addr} {g : Nat} (ha : a ∈ S) (hh : A.handled = none) (hroom : A.depth < recursionLimit) :
    SW Y.X.prog Y.X.w A a S ys.length (GSt Y scope z vs s σ F S ys A.in1 a g) (fun i v => ∃ y, ys[i]? = some y ∧ RelV (FlatV.z y) v) (GE Y scope z vs s σ F S) where
  item := fun i s1 Q E hi ⟨gs, hg, hgs, ge, ob, go⟩ hQ => by
    obtain ⟨m, hm⟩ : ∃ m, ys.length - i = m + 1 := ⟨ys.length - i - 1, by omega⟩
    rw [hm] at go
    have hlt : g < s1.gens.size := by
      rcases Nat.lt_or_ge g s1.gens.size with h | h
      · exact h
      · rw [Array.getElem?_eq_none h] at hgs; cases hgs
    obtain ⟨H', F', I, _, e1, S1⟩ := id ge
    refine GenW.wpAny_gsz (n := g + 1) hlt ?_
    refine wpAny_pyNext_genexpQ (P := fun n s0 s2 => n = 0 ∧ GE Y scope z vs s σ F S s2 ∧ ∀ b ∈ S, ∀ o, s0.heap.get? b = some o → s2.heap.get? b = some o) hh I.nolimit hroom hg hgs (go _ ⟨rfl, bare_set I.bare rfl, fun _ _ _ e => e, ob⟩) (fun v s2 gs' hb ⟨y, hy, rv, ge2, kp, kap⟩ hsz => ?_) (fun s2 hp => absurd hp.1 (Nat.succ_ne_zero m))
    have hsz2 : g < s2.gens.size := by
      have h9 : g + 1 ≤ (s2.setGen g gs').gens.size := hsz
      rw [GenW.setGen_size] at h9
      exact h9
    have hi2 : ys.length - 1 - (m + 1 - 1) = i := by omega
    rw [hi2] at hy
    have hgs2 : (s2.setGen g gs').gens[g]? = some gs' := setGen_self (gs := s2.gens[g]) (Array.getElem?_eq_getElem hsz2)
    refine hQ v _ ⟨y, hy, rv⟩ ⟨gs', let ⟨o, nm, qn, ho, r⟩ := hg; ⟨o, nm, qn, kp a ha o ho, r⟩, hgs2, ge2.same ⟨rfl, bare_set ge2.bare hb, fun _ _ _ e => e, fun _ h => absurd h (by simp)⟩, fun b hb => let ⟨o, e, hc⟩ := ob b hb; ⟨o, kp b hb o e, hc⟩, fun s3 w3 => ?_⟩ fun b hb o e => kp b hb o e
    have e9 : ys.length - (i + 1) = m := by omega
    rw [e9]
    exact kap s3 w3
  done := fun s1 Q E ⟨gs, hg, hgs, ge, ob, go⟩ hQ => by
    rw [Nat.sub_self] at go
    obtain ⟨H', F', I, _, e1, S1⟩ := id ge
    refine wpAny_pyNext_genexpQ (P := fun n s0 s2 => n = 0 ∧ GE Y scope z vs s σ F S s2 ∧ ∀ b ∈ S, ∀ o, s0.heap.get? b = some o → s2.heap.get? b = some o) hh I.nolimit hroom hg hgs (go _ ⟨rfl, bare_set I.bare rfl, fun _ _ _ e => e, ob⟩) (fun v s2 gs' hb ⟨y, hy, rv, ge2, kp, kap⟩ => ?_) (fun s2 ⟨_, ge2, kp⟩ h' hk => ?_)
    · exact False.elim (kap s2 ⟨rfl, ge2.bare, fun _ _ _ e => e, fun b hb => let ⟨o, e, hc⟩ := ob b hb; ⟨o, kp b hb o e, hc⟩⟩)
    · exact hQ _ (ge2.same ⟨rfl, bare_set ge2.bare rfl, fun b o _ e => hk b o e, fun _ h => absurd h (by simp)⟩)
  out := fun i s1 ⟨gs, hg, hgs, ge, ob, go⟩ => ge
theorem GSt.aw {ys : List γ} {S : List Addr} {A : Around} {a : Addr} {g i : Nat} {s1 s2 : Shared} (ap : ∀ b ∈ S, Ap Y scope z b) (h : GSt Y scope z vs s σ F S ys A a g i s1) (w : Aw S s1 s2) (hg : s2.gens = s1.gens) (ha : ∀ o, s1.heap.get? a = some o → s2.heap.get? a = some o) : GSt Y scope z vs s σ F S ys A a g i s2 := by
  obtain ⟨gs, h1, h2, h3, h4, h5⟩ := h
  obtain ⟨o, nm, qn, ho, r⟩ := h1
  exact ⟨gs, ⟨o, nm, qn, ha o ho, r⟩, by rw [hg]; exact h2, h3.awS ap w, w.2.2.2, fun s3 w3 => h5 s3 (w.trans w3)⟩
end
end Sp
set_option maxHeartbeats 4000000
/-! Sp: generator expressions made; any(..), all(..). -/
namespace Sp
open PySem L2
open PySem.W (Datum DatumOrd SomeDatum)
section
variable {Y : DX} {k : Nat} {scope : Scope} {z : GCx} {s : DSt} {σ : St} {H F : Hp} {β γ : Type} [Enc β] [Enc γ] [FlatV γ] [FlatE γ]
theorem seg_start {A : Around} {vs ws : List Nat} {tg elt iter : Expr} {ifs : List Expr} {g : TG} {f : β → Rho → Rho} {items : List β} {c : β → Bool} {h : β → γ} {tn : Nat → Heap → Prop} {S : List Addr} {it : Addr} {J : It} {gpos : Pos} (L : GTurns Y k s scope vs tg elt ifs g ws f items c h) (ok : YOk (genY Y k scope z)) (hco : scope.isCoroutine = false)
    (T : Turn Y.X.prog Y.X.w Y.X.K tg J z.fp it tn) (a : ∀ b ∈ S, Ap Y scope z b) (K1 : ItOk Y.X.K J F items) (hA : A.over (.compLoop (.GeneratorExp elt [⟨tg, iter, ifs, 0⟩] scope gpos) 0 (.ref it) .none (genE Y scope z)) [] = z.A)
    (s₀ s1 : Shared) (gt : GT Y scope z vs s σ F tn S 0 s1) (hsk : ∀ b ∈ S, ∀ o, s₀.heap.get? b = some o → s1.heap.get? b = some o) :
    Seg (model Y.X.prog Y.X.w) A (fun n s0 r s2 => r = .ok .next ∧ (n = 0 ∧ GE Y scope z vs s σ F S s2 ∧ ∀ b ∈ S, ∀ o, s0.heap.get? b = some o → s2.heap.get? b = some o)) (GP Y scope z vs s σ F S ((items.filter c).map h)) ((items.filter c).map h).length s₀
      (.compStart (.GeneratorExp elt [⟨tg, iter, ifs, 0⟩] scope gpos) 0 (.ref it) .none (genE Y scope z))
      ((model Y.X.prog Y.X.w).den (.compStart (.GeneratorExp elt [⟨tg, iter, ifs, 0⟩] scope gpos) 0 (.ref it) .none (genE Y scope z))) [] s1 := by
  have loop := seg_gen (iter := iter) (gpos := gpos) (F0 := F) L ok hco T a K1 hA items.length 0 s₀ s1 (by omega) (Nat.zero_le _) gt hsk
  rw [List.drop_zero] at loop
  rw [List.length_map]
  obtain ⟨H', F', I, t1, _⟩ := gt
  show Seg _ A _ _ _ s₀ _ ((compStart (.GeneratorExp elt [⟨tg, iter, ifs, 0⟩] scope gpos) 0 (.ref it) .none (genE Y scope z)).onRaise (leaving (genE Y scope z))) [] s1
  unfold compStart
  rw [Sem.onRaise_eq_wrap]
  show Seg _ A _ _ _ s₀ _ ((ask >>= _).wrap _ _ _ _) [] s1
  refine seg_bind_wrap (wpAny_askSetting ?_)
  split
  · exact seg_again rfl loop
  · refine seg_bind_wrap (wpAny_rule ?_)
    show Seg _ A _ _ _ s₀ _ ((standAt iter.pos >>= _).wrap _ _ _ _) [] s1
    exact seg_bind_wrap (wpAny_standAt (seg_bind_wrap (T.self _ 0 s1 _ _ t1 (seg_again rfl loop))))
end
/-- the table has grown -/
theorem tabs_grow {T : Tb} {H : Hp} {P c' : Addr} {q : Str} {ps : Array Value} {pos : Pos} (t : TbOk T H) (hP : H P = some (.tbl ps)) (hC : H c' = none) (ht : TriplesOk ps.toList) (hu : ∀ p ∈ T, p.1 = P → p.2 = q) :
    LamX.ExtN H (upd (upd H P (.tbl (ps ++ #[rawInt pos.line, rawInt pos.col, .ref c']))) c' (LamX.CodeO c' q)) ∧ TbOk T (upd (upd H P (.tbl (ps ++ #[rawInt pos.line, rawInt pos.col, .ref c']))) c' (LamX.CodeO c' q)) := by
  have nP : P ≠ c' := ne_of_none hP hC
  have ex : LamX.ExtN H (upd (upd H P (.tbl (ps ++ #[rawInt pos.line, rawInt pos.col, .ref c']))) c' (LamX.CodeO c' q)) := fun b o e n => by
    have n1 : b ≠ c' := ne_of_none e hC
    have n2 : b ≠ P := fun x => n ps (by rw [x, hP] at e; exact (Option.some.inj e).symm)
    rw [upd_ne n1, upd_ne n2]
    exact e
  have el : (ps ++ #[rawInt pos.line, rawInt pos.col, .ref c']).toList = ps.toList ++ [rawInt pos.line, rawInt pos.col, .ref c'] := by simp
  refine ⟨ex, fun p hp => ?_⟩
  obtain ⟨ps', a1, a2, a3⟩ := t p hp
  by_cases hb : p.1 = P
  · have hq := hu p hp hb
    rw [hb, hP] at a1
    cases a1
    refine ⟨_, by rw [hb, upd_ne nP, upd_same], by rw [el]; exact PySem.TriplesOk_snoc _ _ _ _ ht, fun p' cv hcv => ?_⟩
    rw [el] at hcv
    rcases LamX.among_app _ ht hcv with y | y
    · obtain ⟨c0, e1, e2⟩ := a3 p' cv y
      exact ⟨c0, e1, ex _ _ e2 LamX.codeO_ne⟩
    · exact ⟨c', y, by rw [hq, upd_same]⟩
  · refine ⟨ps', by rw [upd_ne (ne_of_none a1 hC), upd_ne hb]; exact a1, a2, fun p' cv hcv => ?_⟩
    obtain ⟨c0, e1, e2⟩ := a3 p' cv hcv
    exact ⟨c0, e1, ex _ _ e2 LamX.codeO_ne⟩
/-- a generator is made and ready: a its object -/
structure Made {γ : Type} [Enc γ] [FlatV γ] (Y : DX) (scope : Scope) (vs : List Nat) (s : DSt) (σ : St) (F0 : Hp) (pins : List (Addr × Obj)) (ys : List γ) (a : Addr) (s5 : Shared) : Prop where
  go : ∃ (z : GCx) (F : Hp) (g : Nat), Ext F0 F ∧ Inv Y.X pins σ z.H z.s ∧ (∀ b ∈ z.fp, (b ∈ Y.X.ex ∨ Y.X.s_0.heap.objs.size ≤ b) ∧ b ≠ Y.X.env.locals ∧ (∀ x c, Y.X.env.cells.lookup x = some c → c ≠ b) ∧ ∀ p ∈ Y.X.pn ++ pins, p.1 ≠ b) ∧
    s5.heap.IsGen a g ∧ ∀ (S : List Addr) (s6 : Shared), a ∈ S → (∀ b ∈ S, b = a ∨ s5.heap.objs.size ≤ b) → s6.os = s5.os → s6.gens = s5.gens → (∀ b o, s5.heap.get? b = some o → s6.heap.get? b = some o) → (∀ b ∈ S, ∃ o, s6.heap.get? b = some o ∧ ∀ v, o.data ≠ .cell v) →
      (∀ b ∈ S, Ap Y scope z b) ∧ GSt Y scope z vs s σ F S ys Y.X.A.in1.in1 a g 0 s6
section
variable {Y : DX} {k : Nat} {scope : Scope} {s : DSt} {σ : St} {β γ : Type} [Enc β] [Enc γ] [FlatV γ] [FlatE γ]
theorem gen_made {vs ws : List Nat} {tg elt iter : Expr} {ifs : List Expr} {g : TG} {f : β → Rho → Rho} {items : List β} {c : β → Bool} {h : β → γ} {gpos : Pos} {pins : List (Addr × Obj)} {F0 H F : Hp} {s0 : Shared} {Q : Value → Shared → Prop} (ok : YOk Y) (hk : k + 2 ≤ Y.k) (hi : EvIt Y s tg iter items) (G : GenOk Y.X.N Y.X.env.scope scope vs) (tb : Tbl Y.X Y.T (Y.X.env.qual ++ "<genexpr>"))
    (L : GTurns Y k s scope vs tg elt ifs g ws f items c h) (hs : ∀ x, genFold iter Y.X.env x = pure x) (e0 : Ext F0 F) (S : Sta Y s σ H F) (I : Inv Y.X pins σ H s0)
    (hQ : ∀ a s5, Made Y scope vs s σ F0 pins ((items.filter c).map h) a s5 → Q (.ref a) s5) :
    wpAny (model Y.X.prog Y.X.w) Y.X.A (eval (.GeneratorExp elt [⟨tg, iter, ifs, 0⟩] scope gpos) Y.X.env) Q Y.X.xe s0 := by
  obtain ⟨wi, hp, hw⟩ := hi
  obtain ⟨cd, P, TB, hcode, hmT, hu⟩ := tb.ex
  have hfree : ∀ y ∈ scope.names, y.2 = .free → ∃ c, Y.X.env.cells.lookup y.1 = some c := fun y hy e => (G.free y hy e).elim (fun q => I.ok.has _ (.inl q)) fun q => I.ok.has _ (.inr q)
  refine wpAny_GeneratorExp_make G.co (closure_ok hfree) G.nocell G.dot G.kind ok.room.depth ?_ hs
  refine wpAny_mono (hp.run pins s0 σ H (fun J H' => ∃ F', Ext F0 F' ∧ Sta Y s σ H' F' ∧ ItOk Y.X.K J F' items) I (hw F0 σ H F _ e0 S fun J H' F' e1 S1 K1 => ⟨F', e1, S1, K1⟩)) (fun xv s1 h1 => wpAny_mono h1 (fun itv s2 ⟨it, fp, tn, J, H2, ei, I2, T, t2, f2, F2, e2, S2, K2⟩ => ?_) fun _ _ e => e) fun _ _ e => e
  subst ei
  refine ⟨I2.nolimit, ?_⟩
  obtain ⟨ps, hP, ht, hcv⟩ := S2.tb _ hmT
  have hP' : s2.heap.get? P = some { cls := .none, data := .fields ps } := I2.hok P _ hP
  have bP : s2.heap.BuiltinsAt Y.X.mg P := TB.bm.keeps I2.bk
  -- behind the code object: the maker's data, the heap grown but for the table
  have cont : ∀ (code : Value) (s3 : Shared) (H3 : Hp), Inv Y.X pins σ H3 s3 → Sta Y s σ H3 F2 → (∀ b o, b ≠ P → s2.heap.get? b = some o → s3.heap.get? b = some o) → (∀ b, H2 b = none → b < s2.heap.objs.size → H3 b = none) →
      wpAny (model Y.X.prog Y.X.w) Y.X.A (builtinsFor Y.X.env.globals Y.X.env.builtins) (fun bi s₄ => ∀ h', h'.Ns s₄.heap.objs.size (fun y => if y = ".0" then some (.ref it) else none) → Heap.SameBut s₄.heap.objs.size (s₄.heap.push { cls := .type "frame", data := .dict #[] }) h' →
          Q (.ref h'.objs.size) { s₄ with
            gens := s₄.gens.push (.fresh (.compStart (.GeneratorExp elt [⟨tg, iter, ifs, 0⟩] scope gpos) 0 (.ref it) .none (genEnv scope (cloFrom Y.X.env.cells scope.names []) s₄.heap.objs.size code bi Y.X.env))),
            toks := s₄.toks + 1 + 1 + 1,
            heap := h'.push { cls := .type "generator", data := .fields #[.int s₄.gens.size 0, .str "<genexpr>" (s₄.toks + 1), .str (Y.X.env.qual ++ "<genexpr>") (s₄.toks + 1 + 1)] } }) Y.X.xe s3 := by
    intro code s3 H3 I3 S3 kp3 fr3
    obtain ⟨bm, ob, b1, b2, b3, b4, b5, b6, b7, b8⟩ := TB.bm
    refine wpAny_builtinsFor (m := Y.X.mg) (by rw [I3.ok.glob]; exact I3.mod.glob.keeps I3.bk) b1 b2 (I3.bk _ _ b5) b6 b7 b8 ?_
    intro h' hn hs'
    have hsz : h'.objs.size = s3.heap.objs.size + 1 := by rw [hs'.1, Heap.size_push]
    have kp4 : ∀ b o, s3.heap.get? b = some o → h'.get? b = some o := fun b o e => hs'.extBut b o (Nat.ne_of_lt (Heap.lt_size e)) (Heap.get?_push_of_some _ e)
    have sz2 : ∀ b ∈ fp, b < s2.heap.objs.size := fun b hb => by
      obtain ⟨o, e, _⟩ := T.obj _ _ t2 b hb
      exact Heap.lt_size e
    have fpP : ∀ b ∈ fp, b ≠ P := fun b hb q => by
      have := (f2 b hb).1
      rw [q, hP] at this; cases this
    have sz3 : ∀ b ∈ fp, b < s3.heap.objs.size := fun b hb => by
      obtain ⟨o, e, _⟩ := T.obj _ _ t2 b hb
      exact Heap.lt_size (kp3 b o (fpP b hb) e)
    have f3 : ∀ b ∈ fp, FpOk Y.X pins H3 b ∧ b < s3.heap.objs.size := fun b hb => ⟨⟨fr3 b (f2 b hb).1 (sz2 b hb), (f2 b hb).2⟩, sz3 b hb⟩
    generalize hz : (⟨(Y.X.A.in1.in1).over (.compLoop (.GeneratorExp elt [⟨tg, iter, ifs, 0⟩] scope gpos) 0 (.ref it) .none (genEnv scope (cloFrom Y.X.env.cells scope.names []) s3.heap.objs.size code builtinsNs Y.X.env)) [], s3.heap.objs.size, code, s3, H3, fp⟩ : GCx) = z
    have zA : (Y.X.A.in1.in1).over (.compLoop (.GeneratorExp elt [⟨tg, iter, ifs, 0⟩] scope gpos) 0 (.ref it) .none (genE Y scope z)) [] = z.A := by rw [← hz]
    have hr : Room k z.A := by
      have r := ok.room.mono hk
      rw [← hz]
      have h1 : Y.X.A.depth + 3 * (k + 2) + 5 < recursionLimit := r.dp
      have h2 : Y.X.A.units + 16 * (k + 2) + 200 < cLine := r.un
      have h3 : Y.X.A.depth + 1 + 3 * k + 5 < recursionLimit := by omega
      have h4 : Y.X.A.units + 1 + 1 + 3 + 16 * k + 200 < cLine := by omega
      exact ⟨r.hd, h3, h4⟩
    have fr : z.A.frames = some (genE Y scope z :: Y.X.stack) := by
      rw [← hz]
      show pushEnvs [_] (pushEnvs [] Y.X.A.frames) = _
      rw [I3.ok.frames]
      rfl
    have I5 : Inv (genX Y scope z) [] (L2.wipe σ vs) H3 { s3 with
            gens := s3.gens.push (.fresh (.compStart (.GeneratorExp elt [⟨tg, iter, ifs, 0⟩] scope gpos) 0 (.ref it) .none (genE Y scope z))),
            toks := s3.toks + 1 + 1 + 1,
            heap := h'.push { cls := .type "generator", data := .fields #[.int s3.gens.size 0, .str "<genexpr>" (s3.toks + 1), .str (Y.X.env.qual ++ "<genexpr>") (s3.toks + 1 + 1)] } } := by
      subst hz
      exact gen_start (A := _) (m0 := fun y => if y = ".0" then some (.ref it) else none) I3 G fr hr.hd f3 (hn.push _) (fun b o e => Heap.get?_push_of_some _ (kp4 b o e)) (I3.bare.push rfl)
    have hzs : z.s = s3 := by rw [← hz]
    have hzH : z.H = H3 := by rw [← hz]
    have hzf : z.fp = fp := by rw [← hz]
    have hzC : z.C = s3.heap.objs.size := by rw [← hz]
    have ea : genEnv scope (cloFrom Y.X.env.cells scope.names []) s3.heap.objs.size code builtinsNs Y.X.env = genE Y scope z := by rw [← hz]
    rw [ea]
    have T' : Turn Y.X.prog Y.X.w Y.X.K tg J z.fp it tn := by rw [hzf]; exact T
    have ge : s3.heap.objs.size ≤ h'.objs.size := by omega
    have ap : ∀ b : Addr, h'.objs.size ≤ b → Ap Y scope z b := fun b hb => by
      have hb' : h'.objs.size ≤ (b : Nat) := hb
      have ge2 : s3.heap.objs.size ≤ b := Nat.le_trans ge hb
      refine ⟨by rw [hzs]; exact ge2, fun q => by
        rw [hzC] at q
        exact Nat.ne_of_gt (Nat.lt_of_lt_of_le (by rw [hsz]; exact Nat.lt_succ_self _) hb) q, fun x c e q => ?_, fun q => ?_, fun q => ?_⟩
      · have : Y.X.env.cells.lookup x = some c := by
          rcases cloFrom_mem (PySem.mem_of_lookup e) with hm | ⟨h1, h2⟩
          · cases hm
          · obtain ⟨c1, hc⟩ := hfree _ h1 rfl
            have hc' : Y.X.env.cells.lookup x = some c1 := hc
            rw [hc', show c = c1 by rw [h2, hc] <;> rfl]
        obtain ⟨v, hv⟩ := I3.cell x c this
        have h9 : c < s3.heap.objs.size := hv.lt
        rw [q] at h9
        exact absurd (Nat.lt_of_lt_of_le h9 ge2) (Nat.lt_irrefl _)
      · rw [hzf] at q
        exact absurd (Nat.lt_of_lt_of_le (sz3 _ q) ge2) (Nat.lt_irrefl _)
      · rcases List.mem_cons.mp (I3.stkSub _ q) with q | q
        · have := I3.lt
          rw [← q] at this
          exact absurd (Nat.lt_of_lt_of_le this ge2) (Nat.lt_irrefl _)
        · exact I3.nofs ge2 q
    refine hQ _ _ ⟨z, F2, s3.gens.size, e2, by rw [hzs, hzH]; exact I3, fun b hb => ?_, ⟨_, _, _, Heap.get?_push_size _ rfl, rfl, rfl, rfl⟩, fun S s6 ha hS o6 g6 k6 b6 => ?_⟩
    · rw [hzf] at hb
      obtain ⟨_, f5, _, f6, f7, f8⟩ := (f3 b hb).1
      exact ⟨f6, f5, f7, f8⟩
    have hSb : ∀ b ∈ S, h'.objs.size ≤ b := fun b hb => by
      rcases hS b hb with q | q
      · rw [q]; exact Nat.le_refl _
      · have q' : h'.objs.size + 1 ≤ (b : Nat) := by
          have := q
          rw [Heap.size_push] at this
          exact this
        exact Nat.le_trans (Nat.le_succ _) q'
    have aw : Aw [] { s3 with
            gens := s3.gens.push (.fresh (.compStart (.GeneratorExp elt [⟨tg, iter, ifs, 0⟩] scope gpos) 0 (.ref it) .none (genE Y scope z))),
            toks := s3.toks + 1 + 1 + 1,
            heap := h'.push { cls := .type "generator", data := .fields #[.int s3.gens.size 0, .str "<genexpr>" (s3.toks + 1), .str (Y.X.env.qual ++ "<genexpr>") (s3.toks + 1 + 1)] } } s6 := ⟨o6, by rw [g6]; exact I5.bare, fun b o _ e => k6 b o e, fun _ h => absurd h (by simp)⟩
    have I6 := GE.aw (S := []) (fun _ hb => absurd hb (by simp)) (fun _ hb => absurd hb (by simp)) I5 aw
    have gt : GT Y scope z vs s σ F2 tn S 0 s6 :=
      ⟨H3, F2, I6, T.keep 0 _ _ t2 fun b hb o e => k6 b o (Heap.get?_push_of_some _ (kp4 b o (kp3 b o (fpP b hb) e))), fun b hb => (f3 b (by rw [← hzf]; exact hb)).1.1, fun b hb => I3.hok.fresh (Nat.le_trans ge (hSb b hb)), b6, .refl _, S3⟩
    refine ⟨fun b hb => ap b (hSb b hb), .fresh (.compStart (.GeneratorExp elt [⟨tg, iter, ifs, 0⟩] scope gpos) 0 (.ref it) .none (genE Y scope z)), ⟨_, _, _, k6 _ _ (Heap.get?_push_size _ rfl), rfl, rfl, rfl⟩, by rw [g6]; exact Array.getElem?_push_size .., gt.ge, b6, fun s7 w7 => ⟨rfl, ?_⟩⟩
    exact seg_start (gpos := gpos) L (ok.gen hr) G.co T' (fun b hb => ap b (hSb b hb)) K2 zA s7 s7 (gt.aw T' (fun b hb => ap b (hSb b hb)) w7) fun _ _ _ e => e
  cases hf : codeAmong gpos ps.toList with
  | none =>
    refine wpAny_genexprCodeX hcode ((TB.code.keeps I2.bk).code hP' ht) ((TB.code.keeps I2.bk).tab hP') hf fun c' h' tk hx hge hlt hco' hrec htab' _ => ?_
    obtain ⟨c2, oc, ws, t, e2, hoc, hd, hv⟩ := hrec
    cases e2
    have nC : H2 c' = none := I2.hok.fresh hge
    have I3 := LamX.inv_table (t' := tk) (more := #[rawInt gpos.line, rawInt gpos.col, .ref c']) (h' := h') (q := Y.X.env.qual ++ "<genexpr>") I2 hP (fun b o hb e => hx b o hb e) htab'.2 hge ⟨oc, ws, t, hoc, hd, hv⟩
    obtain ⟨eN, t3⟩ := tabs_grow (pos := gpos) S2.tb hP nC ht hu
    refine cont _ _ _ I3 (S2.extN eN t3) (fun b o hb e => hx b o hb e) fun b hb hl => ?_
    have n1 : b ≠ c' := Nat.ne_of_lt (Nat.lt_of_lt_of_le hl hge)
    have n2 : b ≠ P := fun q => by rw [q, hP] at hb; cases hb
    rw [upd_ne n1, upd_ne n2]
    exact hb
  | some cv =>
    refine wpAny_genexprCode_hit hcode ((TB.code.keeps I2.bk).code hP' ht) hf ?_
    exact cont cv s2 H2 I2 S2 (fun _ _ _ e => e) fun b hb _ => hb
/-- behind the walk: the maker's data again -/
theorem made_back {vs : List Nat} {F0 F : Hp} {pins : List (Addr × Obj)} {z : GCx} {s6 : Shared} (e0 : Ext F0 F) (I : Inv Y.X pins σ z.H z.s) (hf : ∀ b ∈ z.fp, (b ∈ Y.X.ex ∨ Y.X.s_0.heap.objs.size ≤ b) ∧ b ≠ Y.X.env.locals ∧ (∀ x c, Y.X.env.cells.lookup x = some c → c ≠ b) ∧ ∀ p ∈ Y.X.pn ++ pins, p.1 ≠ b)
    {S : List Addr} (g : GE Y scope z vs s σ F S s6) : ∃ H' F', Inv Y.X pins σ H' s6 ∧ Ext F0 F' ∧ Sta Y s σ H' F' := by
  obtain ⟨H', F', I6, _, e6, S6⟩ := g
  exact ⟨H', F', I.call' (ch := z.fp) I6.os I6.base I6.hok I6.bare hf, e0.trans e6, S6⟩
section
variable {Q : Pv → DSt → Prop} {vs ws : List Nat} {tg elt iter : Expr} {ifs : List Expr} {g : TG} {f : β → Rho → Rho} {items : List β} {c : β → Bool} {gpos pos p : Pos}
theorem ys_bool {h : β → Bool} {i : Nat} {v : Value} (w : ∃ y, ((items.filter c).map h)[i]? = some y ∧ RelV (FlatV.z y) v) : ∃ y, ((items.filter c).map h)[i]? = some y ∧ v = .bool y := by
  obtain ⟨y, h1, h2⟩ := w
  exact ⟨y, h1, h2⟩
theorem SW.imp {prog : Program} {w : World} {A : Around} {a : Addr} {S : List Addr} {n : Nat} {St : Nat → Shared → Prop} {P P' : Nat → Value → Prop} {D : Shared → Prop} (W : SW prog w A a S n St P D) (h : ∀ i v, P i v → P' i v) : SW prog w A a S n St P' D :=
  ⟨fun i s Q E hi st k => W.item i s Q E hi st fun v s' hp st' kp => k v s' (h i v hp) st' kp, W.done, W.out⟩
/-- any(e for tg in iter if ..) -/
theorem evp_any {h : β → Bool} (ok : YOk Y) (B : Bis Y.X.mg) (hg : Gl Y.X "any") (hk : k + 2 ≤ Y.k) (hi : EvIt Y s tg iter items) (G : GenOk Y.X.N Y.X.env.scope scope vs) (tb : Tbl Y.X Y.T (Y.X.env.qual ++ "<genexpr>"))
    (L : GTurns Y k s scope vs tg elt ifs g ws f items c h) (hs : ∀ x, genFold iter Y.X.env x = pure x := by intro _; rfl)
    (he : starEach [.GeneratorExp elt [⟨tg, iter, ifs, 0⟩] scope gpos] Y.X.env = (false, eval (.GeneratorExp elt [⟨tg, iter, ifs, 0⟩] scope gpos) Y.X.env) :: starEach [] Y.X.env := by rfl) :
    EvP Y s (.Call (.Name "any" p) [.GeneratorExp elt [⟨tg, iter, ifs, 0⟩] scope gpos] [] pos) (pu (((items.filter c).map h).any id)) := fun F0 σ H F e0 S => by
  refine ⟨fun pins s0 I => ?_⟩
  refine wpAny_Call_Name_kw (ld_blt I hg (B.no _ (by decide)) (show bootBuiltins "any" = some (.builtin "any") by decide +kernel) ?_)
  refine PyProof.Rows.callWith_builtin1 ?_ he (by rfl)
  rw [he]
  show wpAny _ _ (spliced ((false, eval (.GeneratorExp elt [⟨tg, iter, ifs, 0⟩] scope gpos) Y.X.env) :: backTo pos (starEach [] Y.X.env))) _ _ s0
  refine Calls.spliced_cons (gen_made ok hk hi G tb L hs e0 S I fun a s5 M => ?_)
  obtain ⟨z, F2, gn, e2, I3, hf, hgn, st⟩ := M.go
  obtain ⟨oa, _, _, hoa, _, hda, _⟩ := id hgn
  obtain ⟨_, st⟩ := st [a] s5 (List.mem_singleton.mpr rfl) (fun b hb => .inl (List.mem_singleton.mp hb)) rfl rfl (fun _ _ e => e) (fun b hb => by rw [List.mem_singleton.mp hb]; exact ⟨oa, hoa, fun v q => by rw [hda] at q; cases q⟩)
  refine Calls.spliced_nil ?_
  refine call_function_tree PySem.F.kind_any PySem.F.plain_any PySem.F.entry_any (PySem.F.args_any1 _) ?_
  unfold Builtin.«any»
  refine wpAny_bind (m := oneArg "any" _) (wpAny_pure ?_)
  refine wpAny_bind (wpAny_pyIter_gen hgn ?_)
  refine wpAny_pure ⟨plainId_quiet PySem.F.plain_any_loop _, any_go ((gen_sw (A := Y.X.A.in1) (List.mem_singleton.mpr rfl) ok.room.hd ok.room.depth).imp fun i v => ys_bool) _ 0 s5 rfl (Nat.zero_le _) st fun s6 g6 => ?_⟩
  obtain ⟨H', F', I6, e6, S6⟩ := made_back e2 I3 hf g6
  exact ⟨.bl _, H', I6, by rw [List.drop_zero]; rfl, F', e6, rfl, S6⟩
theorem evp_all {h : β → Bool} (ok : YOk Y) (B : Bis Y.X.mg) (hg : Gl Y.X "all") (hk : k + 2 ≤ Y.k) (hi : EvIt Y s tg iter items) (G : GenOk Y.X.N Y.X.env.scope scope vs) (tb : Tbl Y.X Y.T (Y.X.env.qual ++ "<genexpr>"))
    (L : GTurns Y k s scope vs tg elt ifs g ws f items c h) (hs : ∀ x, genFold iter Y.X.env x = pure x := by intro _; rfl)
    (he : starEach [.GeneratorExp elt [⟨tg, iter, ifs, 0⟩] scope gpos] Y.X.env = (false, eval (.GeneratorExp elt [⟨tg, iter, ifs, 0⟩] scope gpos) Y.X.env) :: starEach [] Y.X.env := by rfl) :
    EvP Y s (.Call (.Name "all" p) [.GeneratorExp elt [⟨tg, iter, ifs, 0⟩] scope gpos] [] pos) (pu (((items.filter c).map h).all id)) := fun F0 σ H F e0 S => by
  refine ⟨fun pins s0 I => ?_⟩
  refine wpAny_Call_Name_kw (ld_blt I hg (B.no _ (by decide)) (show bootBuiltins "all" = some (.builtin "all") by decide +kernel) ?_)
  refine PyProof.Rows.callWith_builtin1 ?_ he (by rfl)
  rw [he]
  show wpAny _ _ (spliced ((false, eval (.GeneratorExp elt [⟨tg, iter, ifs, 0⟩] scope gpos) Y.X.env) :: backTo pos (starEach [] Y.X.env))) _ _ s0
  refine Calls.spliced_cons (gen_made ok hk hi G tb L hs e0 S I fun a s5 M => ?_)
  obtain ⟨z, F2, gn, e2, I3, hf, hgn, st⟩ := M.go
  obtain ⟨oa, _, _, hoa, _, hda, _⟩ := id hgn
  obtain ⟨_, st⟩ := st [a] s5 (List.mem_singleton.mpr rfl) (fun b hb => .inl (List.mem_singleton.mp hb)) rfl rfl (fun _ _ e => e) (fun b hb => by rw [List.mem_singleton.mp hb]; exact ⟨oa, hoa, fun v q => by rw [hda] at q; cases q⟩)
  refine Calls.spliced_nil ?_
  refine call_function_tree PySem.F.kind_all PySem.F.plain_all PySem.F.entry_all (PySem.F.args_all1 _) ?_
  unfold Builtin.«all»
  refine wpAny_bind (m := oneArg "all" _) (wpAny_pure ?_)
  refine wpAny_bind (wpAny_pyIter_gen hgn ?_)
  refine wpAny_pure ⟨plainId_quiet PySem.F.plain_all_loop _, all_go ((gen_sw (A := Y.X.A.in1) (List.mem_singleton.mpr rfl) ok.room.hd ok.room.depth).imp fun i v => ys_bool) _ 0 s5 rfl (Nat.zero_le _) st fun s6 g6 => ?_⟩
  obtain ⟨H', F', I6, e6, S6⟩ := made_back e2 I3 hf g6
  exact ⟨.bl _, H', I6, by rw [List.drop_zero]; rfl, F', e6, rfl, S6⟩
end
end
end Sp
set_option maxHeartbeats 4000000
/-! Sp: sum(..) over a generator expression. -/
namespace Sp
open PySem L2
open PySem.W (Datum DatumOrd SomeDatum)
/-- all partial sums are small -/
def SumOk (ys : List Int) : Prop := ∀ j : Nat, j < ys.length → InLong (ys.getD j 0) ∧ InLong ((ys.take (j + 1)).sum)
theorem sumOk_small {ys : List Int} (hx : ∀ x ∈ ys, -(2 ^ 40) ≤ x ∧ x ≤ 2 ^ 40) (hn : ys.length ≤ 2 ^ 20) : SumOk ys := PyProof.Rows.sumFits_small hx hn
section
variable {prog : Program} {w : World} {A : Around} {a T0 : Addr} {S : List Addr} {St : Nat → Shared → Prop} {D : Shared → Prop} {R : Result → Shared → Prop}
theorem sum_go {ys : List Int} (hT : T0 ∈ S) (W : SW prog w A.in1 a S ys.length St (fun i v => ∃ y, ys[i]? = some y ∧ RelV (V.int y) v) D) (hfit : SumOk ys)
    (up : ∀ i s x c tk, St i s → s.heap.get? T0 = some { cls := .type "list", dict := none, data := .seq x c, slots := #[] } → ∀ f, St i { s with heap := s.heap.update T0 (Obj.mapSeq f), toks := tk }) :
    ∀ (k i : Nat) (s : Shared) (tot : Int) (tA : Tok) (c : Nat), tot = (ys.take i).sum → ys.length - i = k → i ≤ ys.length → St i s → s.heap.get? T0 = some { cls := .type "list", dict := none, data := .seq #[.int tot tA] c, slots := #[] } →
    (∀ s' t', D s' → R (.ok (.ret (.int ys.sum t'))) s') → codeAny (model prog w) A (.builtin "sum.loop" ⟨[.ref a, .ref T0, rawInt 0, rawInt 0], []⟩) R s := by
  intro k
  induction k with
  | zero =>
    intro i s tot tA c htot hk hi hst hS hR
    subst htot
    obtain rfl : i = ys.length := by omega
    rw [List.take_length] at hS
    refine codeAny_builtin F.entry_sum_loop ?_
    rw [Around.under_plainId F.plain_sum_loop _]
    show wpAny _ A.in1 (seqItems? (.ref T0) >>= _) _ _ s
    refine wpAny_bind (wpAny_seqItems hS rfl ?_)
    show wpAny _ A.in1 (tryCatch (pyNext (.ref a)) _ >>= _) _ _ s
    exact wpAny_bind (wpAny_tryCatch (W.done s _ _ hst fun s' hm => wpAny_pure (hR s' tA hm)))
  | succ k ih =>
    intro i s tot tA c htot hk hi hst hS hR
    subst htot
    have hlt : i < ys.length := by omega
    refine codeAny_builtin F.entry_sum_loop ?_
    rw [Around.under_plainId F.plain_sum_loop _]
    show wpAny _ A.in1 (seqItems? (.ref T0) >>= _) _ _ s
    refine wpAny_bind (wpAny_seqItems hS rfl ?_)
    show wpAny _ A.in1 (tryCatch (pyNext (.ref a)) _ >>= _) _ _ s
    refine wpAny_bind (wpAny_tryCatch (W.item i s _ _ hlt hst fun v s' ⟨y, hy, t, ev⟩ hst' kp => ?_))
    subst ev
    have hS' := kp T0 hT _ hS
    obtain ⟨⟨f1, f2⟩, f3, f4⟩ := hfit i hlt
    have e1 : ys.getD i 0 = y := by rw [List.getD_eq_getElem?_getD, hy]; rfl
    have e2 : (ys.take (i + 1)).sum = (ys.take i).sum + y := by rw [List.take_add_one, hy, Option.toList_some, List.sum_append]; simp
    rw [e1] at f1 f2
    rw [e2] at f3 f4
    have hc : ((decide (-(2 ^ 63) ≤ y) && decide (y < 2 ^ 63)) && (decide (-(2 ^ 63) ≤ (ys.take i).sum + y) && decide ((ys.take i).sum + y < 2 ^ 63))) = true := by
      simp only [Bool.and_eq_true, decide_eq_true_eq]
      exact ⟨⟨f1, f2⟩, f3, f4⟩
    show wpAny _ A.in1 (if (_ : Bool) = true then (mkInt ((ys.take i).sum + y) >>= _) else _) _ _ _
    split
    · refine wpAny_bind (wpAny_mkInt ?_)
      show wpAny _ A.in1 (updateSeq T0 (fun _ => #[.int ((ys.take i).sum + y) s'.toks]) >>= _) _ _ _
      refine wpAny_bind (wpAny_updateSeq hS' rfl (wpAny_pure ⟨plainId_quiet F.plain_sum_loop _, ih (i + 1) _ _ s'.toks _ e2.symm (by omega) hlt (up _ s' _ _ _ hst' hS' _) (Heap.get?_update_self _ hS' rfl) hR⟩))
    · rename_i hneg
      exact absurd hc hneg
end
section
variable {Y : DX} {k : Nat} {scope : Scope} {s : DSt} {σ : St} {β : Type} [Enc β]
variable {vs ws : List Nat} {tg elt iter : Expr} {ifs : List Expr} {g : TG} {f : β → Rho → Rho} {items : List β} {c : β → Bool} {gpos pos p : Pos}
/-- sum(e for tg in iter if ..) -/
theorem evp_sumG {h : β → Int} (ok : YOk Y) (B : Bis Y.X.mg) (hg : Gl Y.X "sum") (hk : k + 2 ≤ Y.k) (hi : EvIt Y s tg iter items) (G : GenOk Y.X.N Y.X.env.scope scope vs) (tb : Tbl Y.X Y.T (Y.X.env.qual ++ "<genexpr>"))
    (L : GTurns Y k s scope vs tg elt ifs g ws f items c h) (hfit : SumOk ((items.filter c).map h)) (hs : ∀ x, genFold iter Y.X.env x = pure x := by intro _; rfl)
    (he : starEach [.GeneratorExp elt [⟨tg, iter, ifs, 0⟩] scope gpos] Y.X.env = (false, eval (.GeneratorExp elt [⟨tg, iter, ifs, 0⟩] scope gpos) Y.X.env) :: starEach [] Y.X.env := by rfl) :
    EvP Y s (.Call (.Name "sum" p) [.GeneratorExp elt [⟨tg, iter, ifs, 0⟩] scope gpos] [] pos) (pu ((items.filter c).map h).sum) := fun F0 σ H F e0 S => by
  refine ⟨fun pins s0 I => ?_⟩
  refine wpAny_Call_Name_kw (ld_blt I hg (B.no _ (by decide)) PyProof.Rows.boot_sum ?_)
  refine PyProof.Rows.callWith_builtin1 ?_ he (by rfl)
  rw [he]
  show wpAny _ _ (spliced ((false, eval (.GeneratorExp elt [⟨tg, iter, ifs, 0⟩] scope gpos) Y.X.env) :: backTo pos (starEach [] Y.X.env))) _ _ s0
  refine Calls.spliced_cons (gen_made ok hk hi G tb L hs e0 S I fun a s5 M => ?_)
  obtain ⟨z, F2, gn, e2, I3, hf, hgn, st⟩ := M.go
  obtain ⟨oa, _, _, hoa, _, hda, _⟩ := id hgn
  refine Calls.spliced_nil ?_
  refine call_function_tree PySem.F.kind_sum PySem.F.plain_sum PySem.F.entry_sum (PySem.F.args_sum1 _) ?_
  unfold Builtin.«sum»
  simp only [List.length_cons, List.length_nil]
  rw [if_neg (by decide)]
  refine wpAny_bind (wpAny_of_eq (show Builtin.Builtins.bindParams "sum" ["start"] 0 { } = pure [none] from rfl) ?_)
  refine wpAny_bind (wpAny_pyIter_gen hgn ?_)
  refine wpAny_bind (wpAny_mkInt (wpAny_bind (wpAny_pure ?_)))
  simp only [List.forIn_cons, List.forIn_nil]
  refine wpAny_bind (wpAny_bind (wpAny_bind (wpAny_isInstance (T := "int") (b := false) (typeIs_int _ _ _) PySem.F.sub_int_str ?_)))
  simp only [Bool.false_eq_true, if_false]
  refine wpAny_pure (wpAny_bind (wpAny_bind (wpAny_isInstance (T := "int") (b := false) (typeIs_int _ _ _) PySem.F.sub_int_bytes ?_)))
  simp only [Bool.false_eq_true, if_false]
  refine wpAny_pure (wpAny_bind (wpAny_bind (wpAny_isInstance (T := "int") (b := false) (typeIs_int _ _ _) PySem.F.sub_int_bytearray ?_)))
  simp only [Bool.false_eq_true, if_false]
  refine wpAny_pure (wpAny_pure (wpAny_bind (wpAny_newObj_type ?_)))
  generalize hs6 : ({ s5 with toks := s5.toks + 1, heap := s5.heap.push { cls := .type "list", data := .seq #[.int 0 s5.toks] } } : Shared) = s6
  have kp6 : ∀ b o, s5.heap.get? b = some o → s6.heap.get? b = some o := fun b o e => by rw [← hs6]; exact Heap.get?_push_of_some _ e
  have hT6 : s6.heap.get? s5.heap.objs.size = some { cls := .type "list", data := .seq #[.int 0 s5.toks] } := by rw [← hs6]; exact Heap.get?_push_size _ rfl
  have hal : a < s5.heap.objs.size := Heap.lt_size hoa
  obtain ⟨ap, st6⟩ := st [a, s5.heap.objs.size] s6 (by simp) (fun b hb => by
    rcases List.mem_cons.mp hb with q | q
    · exact .inl q
    · exact .inr (by rw [List.mem_singleton.mp q]; exact Nat.le_refl _)) (by rw [← hs6]) (by rw [← hs6]) kp6 (fun b hb => by
    rcases List.mem_cons.mp hb with q | q
    · exact ⟨oa, by rw [q]; exact kp6 _ _ hoa, fun v q => by rw [hda] at q; cases q⟩
    · exact ⟨_, by rw [List.mem_singleton.mp q]; exact hT6, fun v q => by cases q⟩)
  refine wpAny_pure ⟨plainId_quiet PySem.F.plain_sum_loop _, sum_go (A := Y.X.A) (T0 := s5.heap.objs.size) (S := [a, s5.heap.objs.size]) (by simp) ((gen_sw (A := Y.X.A.in1) (by simp) ok.room.hd ok.room.depth)) hfit (fun i s7 x c7 tk st7 h7 f => ?_) _ 0 s6 0 s5.toks 0 (by simp) rfl (Nat.zero_le _) st6 hT6 fun s8 t8 g8 => ?_⟩
  · obtain ⟨gs, q1, q2, q3, q4, q5⟩ := id st7
    refine st7.aw ap ⟨rfl, q3.bare, fun b o hb e => ?_, fun b hb => ?_⟩ rfl fun o e => ?_
    · exact (Heap.get?_update_other _ _ (fun q => hb (by rw [← q]; simp))).trans e
    · by_cases q : b = s5.heap.objs.size
      · rw [q]
        exact ⟨_, Heap.get?_update_self _ h7 rfl, fun v q => by cases q⟩
      · obtain ⟨o, e, hc⟩ := q4 b hb
        exact ⟨o, (Heap.get?_update_other _ _ (Ne.symm q)).trans e, hc⟩
    · exact (Heap.get?_update_other _ _ (Nat.ne_of_gt hal)).trans e
  · obtain ⟨H', F', I6, e6, S6⟩ := made_back e2 I3 hf g8
    exact ⟨.int _, H', I6, ⟨_, rfl⟩, F', e6, rfl, S6⟩
end
end Sp
set_option maxHeartbeats 4000000
/-! Sp: a law's defs by the head's facts, the law's end. -/
namespace Sp
open PySem L2
abbrev TQ := List (He.Defn × Str)
def tbOf (K : Frag) (tq : TQ) : Tb := tq.map fun p => ((He.cT K p.1).2, p.2)
/-- what a law's defs lean on -/
structure LK (w : World) (K : Frag) (mg : Str → Option Value) (base : Heap) (fa : List He.Fa) (fn : List He.DefD) (tq : TQ) : Prop where
  d : He.SaysD fa fn K
  X : K.In base
  G : base.Ns mainGlobals mg
  tb : ∀ p ∈ tq, LamX.TabB base mg (He.cT K p.1).1 (He.cT K p.1).2
  nd : (tq.map fun p => (He.cT K p.1).2).Nodup
section
variable {P : Program} {w : World} {K : Frag} {mg : Str → Option Value} {base : Heap} {fa : List He.Fa} {fn : List He.DefD} {tq : TQ}
/-- a def's function object -/
structure Fd (K : Frag) (d : He.DefD) (ps : List Str) (fd : FuncData) : Prop where
  F : FunD K d.name d.qual d.params d.body d.scope [] [] (He.fAd K d.at_) fd
  b : Binds K fd ps []
theorem nd_map {α β : Type} {f : α → β} : ∀ {l : List α}, (l.map f).Nodup → ∀ {a b : α}, a ∈ l → b ∈ l → f a = f b → a = b
  | [], _, _, _, h, _, _ => by cases h
  | x :: l, n, a, b, ha, hb, e => by
    rw [List.map_cons, List.nodup_cons] at n
    rcases List.mem_cons.mp ha with ha' | ha'
    · rcases List.mem_cons.mp hb with hb' | hb'
      · rw [ha', hb']
      · rw [ha'] at e
        exact absurd (by rw [e]; exact List.mem_map_of_mem hb') n.1
    · rcases List.mem_cons.mp hb with hb' | hb'
      · rw [hb'] at e
        exact absurd (by rw [← e]; exact List.mem_map_of_mem ha') n.1
      · exact nd_map n.2 ha' hb' e
/-- a def keeps its promise -/
theorem df_ok {k : Nat} {N ps : List Str} {d : He.DefD} {fd : FuncData} (L : LK w K mg base fa fn tq) (F1 : Fd K d ps fd) (S : FnScope N ps d.scope) (dd : DSp) (hl : ∀ As gs R E, dd As gs R E → As.length = ps.length)
    (body : ∀ (cdv : Value) (A : Around) (outer : List Env) (s : Shared) (H F : Hp) (gs : Gs) (E : XK) (ex : Exc → DSt → Prop) (As : List Pv) (R : Pv → Gs → Prop) (X : Exc → Gs → Prop), dd As gs R X → (∀ e s', (∃ n, X e (s'.gs.drop n)) → ex e s') →
      (∀ q, (d.at_, q) ∈ tq → Tbl (bodyY P w K mg base (tbOf K tq) k N d.qual d.scope (He.fAd K d.at_) cdv A outer s H F gs E ex).X (tbOf K tq) q) →
      YOk (bodyY P w K mg base (tbOf K tq) k N d.qual d.scope (He.fAd K d.at_) cdv A outer s H F gs E ex) →
      Ws (bodyY P w K mg base (tbOf K tq) k N d.qual d.scope (He.fAd K d.at_) cdv A outer s H F gs E ex) ⟨As.map some ++ List.replicate (N.length - ps.length) none, gs⟩ d.body { nx := fun s' => ∃ n, R (pu ()) (s'.gs.drop n), rt := fun A s' => ∃ n, R A (s'.gs.drop n) }) :
    FnOk P w K mg base (L2.CX P w) (k + 1) (He.fAd K d.at_) fd ps (toSp K (tbOf K tq) ps.length dd) := by
  obtain ⟨oc, od, dV, kV, doc, pm, an, cdv, ct, osl, rfl, lk, hcd, _, _⟩ := F1.F.ex
  obtain ⟨c, rfl⟩ := He.codeIn_ref hcd
  have ec : He.codeOf K d.at_ = c := He.codeOf_eq lk rfl
  refine fn_of lk hcd S (fun vs H Q E h => h.1) fun A outer s H vs Q E hr h => ?_
  obtain ⟨hn, As, gs, F, r, G, hd⟩ := h
  have hAl := hl _ _ _ _ hd
  let Y : DX := bodyY P w K mg base (tbOf K tq) k N d.qual d.scope (He.fAd K d.at_) (.ref c) A outer s H F gs E (fun e s' => ∀ cls dd H' F', ExcRep e cls dd H' → Stg K (tbOf K tq) s'.gs H' F' → Step H F (ads gs) H' F' (ads s'.gs) → E cls dd H')
  have tk0 : Takes Y.X (fun cls d _ H => E cls d H) := takes_of rfl rfl rfl rfl
  have ok : YOk Y := ⟨rfl, S.nd, hr, passes_of rfl, tk0.imp fun c d' σ H' ⟨e, s', F', St, er, q⟩ => q c d' H' F' er St.stg St.st⟩
  have tbl : ∀ q, (d.at_, q) ∈ tq → Tbl Y.X (tbOf K tq) q := fun q hq => by
    have h1 := L.tb _ hq
    have e1 : (He.cT K d.at_).1 = c := ec
    refine ⟨c, (He.cT K d.at_).2, by rw [← e1]; exact h1, rfl, List.mem_map.mpr ⟨_, hq, rfl⟩, fun p hp e => ?_⟩
    obtain ⟨z, hz, ez⟩ := List.mem_map.mp hp
    subst ez
    have := nd_map L.nd hz hq e
    rw [this]
  have b := body (.ref c) A outer s H F gs E _ As _ _ hd (fun e s' ⟨n, q⟩ cls dd H' F' r G' t' => q cls dd H' F' r (G'.drop n) (t'.sub (ads_drop n))) tbl ok
  refine ⟨_, pss_ws, ?_⟩
  have S0 : Sta Y ⟨As.map some ++ List.replicate (N.length - ps.length) none, gs⟩ (L2.start N vs) H F := by
    refine ⟨G.ext, G.ntb, ?_, G.own, G.nd, G.tb, Step.refl⟩
    unfold L2.start
    rw [hn]
    exact reps_start r _
  refine (b F (L2.start N vs) H F (.refl _) S0).mono (fun σ' H' ⟨s', F', e1, S', q⟩ => ?_) (fun v H' ⟨A', s', σ', F', e1, r', S', q⟩ => ?_) (fun σ' H' ⟨s', F', e1, S', q⟩ => q.elim) (fun σ' H' ⟨s', F', e1, S', q⟩ => q.elim)
  · obtain ⟨n, q⟩ := q
    exact q .non H' F' rfl (S'.stg.drop n) (S'.st.sub (ads_drop n))
  · obtain ⟨n, q⟩ := q
    exact q v H' F' r' (S'.stg.drop n) (S'.st.sub (ads_drop n))
theorem LK.fd (c : He.SaysD fa fn K) (i : Nat) {d : He.DefD} (ps : List Str) (h : fn[i]? = some d := by rfl)
    (hb : ∀ (kV doc pm : Value) (an : Option Addr) (cdv ct : Value) (us : List Value), us.length = ps.length → bindArgs (PySem.W.fnOf d.name d.qual d.params d.body d.scope .none kV doc pm an cdv ct) ⟨us, []⟩ = pure (ps.zip us)) (h0 : ∀ K, d.dvs K = [] := by intro _; rfl) (h1 : ∀ K, d.kws K = [] := by intro _; rfl) : ∃ fd, Fd K d ps fd := by
  obtain ⟨fd, F⟩ := c.def_ i h
  rw [h0, h1] at F
  exact ⟨fd, F, F.bindsN hb⟩
theorem LK.df {k : Nat} {x : Str} {d : He.DefD} {ps : List Str} {fd : FuncData} {dd : DSp} (L : LK w K mg base fa fn tq) (F1 : Fd K d ps fd) (h : FnOk P w K mg base (L2.CX P w) k (He.fAd K d.at_) fd ps (toSp K (tbOf K tq) ps.length dd)) (m : DMono dd) (i : Nat) (hi : fa[i]? = some (.glo x) := by rfl) (hx : d.at_ = (x, none) := by rfl) : Df P w K mg base (tbOf K tq) k x ps dd := by
  have g := He.glo_ok L.X L.G (L.d.fact i hi)
  have e : He.fAd K d.at_ = He.ga K x := by rw [hx]; rfl
  exact ⟨⟨_, fd, h, by rw [e]; exact g, F1.F.kp, F1.b⟩, m⟩
theorem LK.mt {k : Nat} {x m : Str} {d : He.DefD} {ps : List Str} {fd : FuncData} {dd : DSp} (L : LK w K mg base fa fn tq) (F1 : Fd K d ps fd) (h : FnOk P w K mg base (L2.CX P w) k (He.fAd K d.at_) fd ps (toSp K (tbOf K tq) ps.length dd)) (mo : DMono dd) (i : Nat) (hi : fa[i]? = some (.meth x m) := by rfl) (hx : d.at_ = (x, some m) := by rfl) : Mt P w K mg base (tbOf K tq) k (He.ga K x) m ps dd := by
  have g := He.meth_ok (L.d.fact i hi)
  have e : He.fAd K d.at_ = He.ma K (He.ga K x) m := by rw [hx]; rfl
  exact ⟨⟨_, fd, h, by rw [e]; exact g, F1.b⟩, mo⟩
theorem LK.mkr {k : Nat} {x : Str} {d : He.DefD} {ps : List Str} {fd : FuncData} {dd : DSp} (L : LK w K mg base fa fn tq) (F1 : Fd K d ps fd) (h : FnOk P w K mg base (L2.CX P w) k (He.fAd K d.at_) fd ps (toSp K (tbOf K tq) ps.length dd)) (mo : DMono dd) (i j : Nat) (hi : fa[i]? = some (.mkr x) := by rfl) (hj : fa[j]? = some (.glo x) := by rfl) (hx : d.at_ = (x, some ("__init__" : Str)) := by rfl) : Mkr P w K mg base (tbOf K tq) k x (He.ga K x) ps dd := by
  have g := He.mkr_ok (L.d.fact i hi)
  have e : He.fAd K d.at_ = He.ma K (He.ga K x) "__init__" := by rw [hx]; rfl
  exact ⟨⟨_, fd, h, by rw [e]; exact g, F1.b⟩, He.glo_ok L.X L.G (L.d.fact j hj), mo⟩
theorem LK.err {x : Str} (L : LK w K mg base fa fn tq) (i j : Nat) (hi : fa[i]? = some (.exc x) := by rfl) (hj : fa[j]? = some (.glo x) := by rfl) : ErrC K mg x (He.ga K x) := by
  obtain ⟨h1, h2, h3, h4⟩ := He.exc_ok (L.d.fact i hi)
  exact ⟨He.glo_ok L.X L.G (L.d.fact j hj), h1, h2, h3, h4⟩
/-- a heap without its tables -/
def noTb (H : Hp) : Hp := fun b => match H b with
  | some o => (match isTbl o with
    | true => none
    | false => some o)
  | none => none
theorem noTb_some {H : Hp} {b : Addr} {o : HO} (h : noTb H b = some o) : H b = some o ∧ isTbl o = false := by
  unfold noTb at h
  cases q : H b with
  | none => rw [q] at h; cases h
  | some u =>
    rw [q] at h
    cases t : isTbl u with
    | true =>
      simp only [t] at h
      cases h
    | false =>
      simp only [t] at h
      cases h
      exact ⟨rfl, t⟩
theorem noTb_of {H : Hp} {b : Addr} {o : HO} (h : H b = some o) (t : isTbl o = false) : noTb H b = some o := by
  unfold noTb
  rw [h]
  simp only [t]
/-- the law's end -/
theorem law_end {l : PySem.W.OpenLaw} {n k : Nat} {h : Heap} {x : Str} {fA : Addr} {ts : List He.Tab} {ex : Frag → Bool} {d : He.DefD} {fd : FuncData} {dd : DSp}
    (KX : K.In h) (c : He.SaysX fa fn ts (tq.map (·.1)) ex w h K) (nd : (tq.map fun p => (He.cT K p.1).2).Nodup)
    (F1 : Fd K d [x] fd) (hf : He.fAd K d.at_ = fA) (hb : ∀ (kV doc pm : Value) (an : Option Addr) (cdv ct : Value) (us : List Value), us.length = [x].length → bindArgs (PySem.W.fnOf d.name d.qual d.params d.body d.scope .none kV doc pm an cdv ct) ⟨us, []⟩ = pure ([x].zip us))
    (m : DMono dd) (hd : ∀ ns : List Int, ns.length ≤ n → (∀ z ∈ ns, Builtin.Int.intBits z ≤ 1048576) → dd [pu ns] [] (fun A _ => A = pu true) fun _ _ => False)
    (F : ∀ base : Heap, LK w K mg base fa fn tq → FnOk l.prog w K mg base (L2.CX l.prog w) k (He.fAd K d.at_) fd [x] (toSp K (tbOf K tq) 1 dd)) :
    LamX.LawAtS l w K (L2.CX l.prog w) k n x mg fA h := by
  subst hf
  refine ⟨fd, (tq.map (·.1)).map (He.cT K), _, fun p hp => ?_, fun p hp => ?_, fun p hp => ?_, fun s u => ?_, fun H a ns hl hbits hT hS => ?_, fun base KB GB TB => F base ⟨c.t.d, KB, GB, fun p hp => TB _ ?_, nd⟩⟩
  · obtain ⟨q, hq, e⟩ := List.mem_map.mp hp
    subst e
    exact c.empty q hq
  · obtain ⟨q, hq, e⟩ := List.mem_map.mp hp
    subst e
    exact c.out q hq
  · obtain ⟨q, hq, e⟩ := List.mem_map.mp hp
    subst e
    exact PySem.W.codeHd_of_K KX (c.hd q hq)
  · exact F1.F.bindsA hb s [u] rfl
  · refine ⟨rfl, [pu ns], [], noTb H, .cons ?_ .nil, ⟨fun b o e => (noTb_some e).1, fun b o e => (noTb_some e).2, fun p hp => (by cases hp), .nil, fun p hp => ?_⟩, ?_⟩
    · refine ⟨a, ns.map V.int, rfl, ?_, ?_⟩
      · rcases hS with hS | q
        · rcases hS with q | ⟨o, q⟩
          · exact .inl (.inl (noTb_of q rfl))
          · exact .inl (.inr ⟨o, noTb_of q rfl⟩)
        · exact .inr q
      · show Paired _ _ _
        clear hd hl hbits hS
        induction ns with
        | nil => exact .nil
        | cons z ns ih => exact .cons rfl ih
    · obtain ⟨q, hq, e⟩ := List.mem_map.mp hp
      subst e
      exact LamX.TabS.nil (hT (He.cT K q.1) (List.mem_map.mpr ⟨q.1, List.mem_map.mpr ⟨q, hq, rfl⟩, rfl⟩))
    · exact m _ _ _ _ _ _ (fun A g e v H' F' r _ _ => by subst e; exact r) (fun e g z => z.elim) (hd ns hl hbits)
  · exact List.mem_map.mpr ⟨p.1, List.mem_map.mpr ⟨p, hp, rfl⟩, rfl⟩
end
end Sp
set_option maxHeartbeats 4000000
/-! Sp: an owned list's places, int(..), chains of comparisons. -/
namespace Sp
open PySem L2
section
variable {Y : DX} {s : DSt} {e a b c d o : Expr} {es : List Expr} {pos p apos : Pos} {Q : Pv → DSt → Prop} {D : DE} {A B : Pv}
/-- x[i] = e, x an owned list -/
theorem w1_lput {α : Type} [Enc α] {q : Addr} {p2 : Pos} (i : Nat)
    (hv : Ev Y s e fun X s1 => ∃ (x : α) (xs : List α) (k : Int) (j : Nat), X = pu x ∧ s1.gs[i]? = some (q, lstc xs) ∧ EvP Y s1 a (raw (.ref q)) ∧ EvP Y s1 b (pu k) ∧ ixN xs.length k = some j ∧ D.nx ⟨s1.ρ, s1.gs.set i (q, lstc (xs.set j x))⟩)
    (hs : swapsWithSole [Expr.Subscript a b p2] e pos.line Y.X.env = pure false := by rfl) (hw : swappedStores [Expr.Subscript a b p2] e Y.X.env = pure none := by rfl) (h1 : (assignEach [Expr.Subscript a b p2] Y.X.env).map (·.2) = [assign (Expr.Subscript a b p2) Y.X.env] := by rfl)
    (ha : ∀ v, assign (.Subscript a b p2) Y.X.env v = (do
      let ov ← holding [v] (eval a Y.X.env)
      let iv ← holding [v, ov] (eval b Y.X.env)
      standAt p2
      holding [v, ov, iv] (setItem ov iv v)
      release [v, ov, iv] []) := by intro _; rfl) : W1 Y s (.Assign [.Subscript a b p2] e pos) D := fun F0 σ H F e0 S => by
  refine .of (ps_asg pe_we (pg_sub pe_we pe_we set_list ha) hs hw h1) ?_
  refine (hv F σ H F (.refl _) S).mono fun v H1 ⟨X, s1, F1, e1, r1, S1, x, xs, k, j, ex, hi, ho, hb, hj, k1⟩ => ?_
  subst ex
  refine (ho F1 σ H1 F1 (.refl _) S1).mono fun u H2 ⟨F2, e2, r2, S2⟩ => ?_
  refine (hb F2 σ H2 F2 (.refl _) S2).mono fun w H3 ⟨F3, e3, r3, S3⟩ => ?_
  obtain ⟨hF, oo, hoo, _, zs, eo, rv⟩ := S3.cell hi
  subst eo
  refine ⟨q, zs, k, j, r2, r3, hoo, by rw [show zs.length = xs.length from Paired.length rv]; exact hj, _, F3, ((e0.trans e1).trans e2).trans e3, ?_, k1⟩
  exact S3.write (c' := lstc (xs.set j x)) hi hoo (not_codeL rfl) rfl ⟨_, rfl, prd_set rv (Enc.mono (α := α) r1 (e2.trans e3)) j⟩
/-- int(i), int(b) -/
theorem evp_int1 {i : Int} (T : Bis Y.X.mg) (hg : Gl Y.X "int") (ha : EvP Y s a (pu i)) (he : starEach [a] Y.X.env = (false, eval a Y.X.env) :: starEach [] Y.X.env := by rfl) : EvP Y s (.Call (.Name "int" p) [a] [] pos) (pu i) :=
  evp_T1 call_int1 hg (T.no _ (by decide)) PySem.Pv.boot_int ha (fun F0 σ H F v e0 S h1 => .inl ⟨i, by cases h1; rfl, F, e0, rfl, S⟩) (by decide) (by decide) he
theorem evp_intB {x : Bool} (T : Bis Y.X.mg) (hg : Gl Y.X "int") (ha : EvP Y s a (pu x)) (he : starEach [a] Y.X.env = (false, eval a Y.X.env) :: starEach [] Y.X.env := by rfl) : EvP Y s (.Call (.Name "int" p) [a] [] pos) (pu (if x = true then (1 : Int) else 0)) :=
  evp_T1 call_int1 hg (T.no _ (by decide)) PySem.Pv.boot_int ha (fun F0 σ H F v e0 S h1 => .inr ⟨x, by cases h1; rfl, F, e0, rfl, S⟩) (by decide) (by decide) he
/-- a < b < c, ints -/
theorem etp_ltlt {i j k : Int} (ha : EvP Y s a (pu i)) (hb : EvP Y s b (pu j)) (hc : EvP Y s c (pu k)) (hm : lastMarks [.Lt, .Lt] [b, c] = false := by with_unfolding_all rfl) : EtP Y s (.Compare a [.Lt, .Lt] [b, c] pos) (decide (i < j) && decide (j < k)) := fun F0 σ H F e0 S => by
  refine .of (pt_chain op_lt op_lt pe_we pe_we pe_we hm) ?_
  refine (ha F0 σ H F e0 S).mono fun v H1 ⟨F1, e1, r1, S1⟩ => ?_
  refine (hb F1 σ H1 F1 (.refl _) S1).mono fun u H2 ⟨F2, e2, r2, S2⟩ => ?_
  refine ⟨i, j, r1, r2, _, rfl, ?_⟩
  by_cases h : i < j
  · rw [if_pos (decide_eq_true h)]
    refine (hc F2 σ H2 F2 (.refl _) S2).mono fun w H3 ⟨F3, e3, r3, S3⟩ => ?_
    exact ⟨j, k, r2, r3, _, rfl, by simp [h], F3, ((e1.trans e2).trans e3), S3⟩
  · rw [if_neg (by simpa using h)]
    exact ⟨false, rfl, by simp [h], F2, e1.trans e2, S2⟩
/-- the owned cells in another order -/
theorem ev_perm (h : Ev Y s e fun A s' => ∃ gs', s'.gs.Perm gs' ∧ Q A ⟨s'.ρ, gs'⟩) : Ev Y s e Q := fun F0 σ H F e0 S => (h F0 σ H F e0 S).mono fun v H1 ⟨A, s1, F1, e1, r1, S1, gs', hp, q⟩ => ⟨A, _, F1, e1, r1, S1.perm hp, q⟩
theorem ws_perm {sts : List Stmt} {gs' : Gs} (hp : s.gs.Perm gs') (h : Ws Y ⟨s.ρ, gs'⟩ sts D) : Ws Y s sts D := fun F0 σ H F e0 S => h F0 σ H F e0 (S.perm hp)
/-- cells forgotten -/
theorem ws_drop {sts : List Stmt} (n : Nat) (h : Ws Y ⟨s.ρ, s.gs.eraseIdx n⟩ sts D) : Ws Y s sts D := fun F0 σ H F e0 S => h F0 σ H F e0 (S.drop n)
end
end Sp
set_option maxHeartbeats 4000000
/-! Sp: sources that change the state. -/
namespace Sp
open PySem L2
section
variable {Y : DX} {s : DSt} {e a b c d o tg iter elt : Expr} {es ifs : List Expr} {pos p apos : Pos} {Q : Pv → DSt → Prop} {D : DE} {A B : Pv} {scope : Scope} {own : List (Str × Nat)}
variable {α β : Type} [Enc α] [Enc β]
def EvItE (Y : DX) (s : DSt) (tg iter : Expr) {β : Type} [Enc β] (G : List β → DSt → Prop) : Prop :=
  ∃ wi, PI Y.X tg iter wi ∧ ∀ F0 σ H F (R : It → Hp → Prop), Ext F0 F → Sta Y s σ H F → (∀ J H' F' items s', Ext F0 F' → Sta Y s' σ H' F' → ItOk Y.X.K J F' items → G items s' → R J H') → wi σ H R
theorem EvIt.toE {items : List β} (h : EvIt Y s tg iter items) : EvItE Y s tg iter (fun is s' => is = items ∧ s' = s) := by
  obtain ⟨wi, h1, h2⟩ := h
  exact ⟨wi, h1, fun F0 σ H F R e0 S k => h2 F0 σ H F R e0 S fun J H' F' e1 S1 K1 => k J H' F' items s e1 S1 K1 ⟨rfl, rfl⟩⟩
theorem it_listE {G : List α → DSt → Prop} (h : Ev Y s iter fun A s' => ∃ xs : List α, A = pu xs ∧ G xs s') : EvItE Y s tg iter G :=
  ⟨_, pi_list pe_we, fun F0 σ H F R e0 S k => (h F0 σ H F e0 S).mono fun v H' ⟨A, s', F', e1, r, S', xs, ea, q⟩ => by
    subst ea
    obtain ⟨p, vs, ev, hq, rv⟩ := r
    exact ⟨p, ev, ⟨vs, sqL_ext hq S'.ext⟩, k _ _ F' xs s' e1 S' (fun i H2 F2 e2 e3 => ⟨fun x hx => by
      have hq2 := sqL_ext (sqL_ext hq e2) e3
      obtain ⟨w, hw, rw'⟩ := prd_get rv hx
      exact ⟨⟨vs, w, hq2, hw⟩, fun v H3 ⟨eh, hv⟩ => .inl ⟨eh, by
        have := hv vs hq2
        rw [hw] at this
        cases this
        exact Enc.mono rw' e2⟩⟩, fun hl => ⟨vs, sqL_ext (sqL_ext hq e2) e3, by rw [rv.length]; exact hl⟩⟩) q⟩⟩
theorem it_range1E {G : List Int → DSt → Prop} (T : Bis Y.X.mg) (hg : Gl Y.X "range") (ha : Ev Y s a fun A s' => ∃ n : Int, A = pu n ∧ -(2 ^ 62) ≤ n ∧ n < 2 ^ 62 ∧ G ((List.range n.toNat).map fun i : Nat => (i : Int)) s') (hs : starEach [a] Y.X.env = [(false, eval a Y.X.env)] := by rfl) : EvItE Y s tg (.Call (.Name "range" p) [a] [] pos) G :=
  ⟨_, pi_range1 hg (T.no _ (by decide)) (pa_cons pe_we pa_nil hs) hs, fun F0 σ H F R e0 S k => (ha F0 σ H F e0 S).mono fun v H' ⟨A, s', F', e1, r, S', n, ea, h1, h2, q⟩ => by
    subst ea
    refine ⟨n, by rw [show v = .int n from r], h1, h2, k _ _ F' _ s' e1 S' (fun i H2 F2 e2 e3 => ⟨fun x hx => ?_, fun hl => ?_⟩) q⟩
    · rw [List.getElem?_map] at hx
      cases q : (List.range n.toNat)[i]? with
      | none => rw [q] at hx; cases hx
      | some j =>
        rw [q] at hx
        cases hx
        obtain ⟨h5, h6⟩ := List.getElem?_eq_some_iff.mp q
        rw [List.getElem_range] at h6
        subst h6
        rw [List.length_range] at h5
        refine ⟨h5, fun v H3 ⟨eh, hv⟩ => .inl ⟨eh, ?_⟩⟩
        rw [hv]
        show V.int (0 + (i : Int)) = V.int i
        rw [Int.zero_add]
    · show n.toNat ≤ i
      simpa using hl⟩
theorem w1_forE {body : List Stmt} {g : TG} {ws : List Nat} {f : β → Rho → Rho} {G : List β → DSt → Prop} (ok : YOk Y) (hi : EvItE Y s tg iter G) (hg : TgOk Y tg g ws f)
    (h : ∀ items s', G items s' → ∃ Iv : Nat → DSt → Prop, Iv 0 s' ∧ (∀ i x s2, items[i]? = some x → Iv i s2 → Ws Y ⟨f x s2.ρ, s2.gs⟩ body { D with nx := Iv (i + 1), ct := Iv (i + 1), bk := D.nx }) ∧ ∀ s2, Iv items.length s2 → D.nx s2)
    (hs : ∀ x, foldedSetIterable iter Y.X.env x = pure x := by intro _; rfl) : W1 Y s (.For tg iter body [] pos) D := fun F0 σ H F e0 S => by
  obtain ⟨wi, hp, hw⟩ := hi
  refine .of (ps_for ok.pass ok.calm hp hg.1 pss_ws hs) ?_
  refine hw F0 σ H F _ e0 S fun J H1 F1 items s' e1 S1 K1 q => ?_
  obtain ⟨Iv, h0, hstep, hd⟩ := h items s' q
  refine ⟨fun i m σ H => m = items.length - i ∧ i ≤ items.length ∧ ∃ s2 F2, Ext F1 F2 ∧ Sta Y s2 σ H F2 ∧ Iv i s2, ⟨items.length, rfl, Nat.zero_le _, s', F1, .refl _, S1, h0⟩, ?_⟩
  rintro i m σ2 H2 ⟨rfl, hi, s2, F2, e2, S2, iv⟩
  by_cases hlt : i < items.length
  · have hx : items[i]? = some items[i] := List.getElem?_eq_getElem hlt
    refine .inr ⟨((K1 i H2 F2 e2 S2.ext).1 _ hx).1, fun σ' H' => ∃ s3 F3, Ext F1 F3 ∧ Sta Y s3 σ' H' F3 ∧ Iv (i + 1) s3, fun σ' H' ⟨s3, F3, e3, S3, iv3⟩ => ⟨items.length - (i + 1), by omega, rfl, hlt, s3, F3, e3, S3, iv3⟩, fun v H3 y => ?_⟩
    obtain ⟨F3, e3, S3, r3⟩ := K1.yld e2 S2 hx y
    refine hg.2 σ2 H3 F3 v _ s2 _ S3 r3 fun σ4 S4 _ => ?_
    have e9 := (e1.trans e2).trans e3
    exact (hstep i _ s2 hx iv F3 σ4 H3 F3 (.refl _) S4).mono (fun σ' H' ⟨s5, F5, e5, S5, q⟩ => ⟨s5, F5, (e2.trans e3).trans e5, S5, q⟩) (fun v H' q => q.mono e9 fun _ _ h => h)
      (fun σ' H' q => q.mono e9 fun _ h => h) (fun σ' H' ⟨s5, F5, e5, S5, q⟩ => ⟨s5, F5, (e2.trans e3).trans e5, S5, q⟩)
  · have e : i = items.length := by omega
    subst e
    exact .inl ⟨(K1 _ H2 F2 e2 S2.ext).2 (Nat.le_refl _), s2, F2, e1.trans e2, S2, hd s2 iv⟩
/-- what a comprehension over such a source gives -/
def LcG (Y : DX) (scope : Scope) (vs : List Nat) (tg elt : Expr) (ifs : List Expr) (g : TG) (ws : List Nat) (f : β → Rho → Rho) (G : List β → DSt → Prop) {α : Type} [Enc α] (R : List α → DSt → Prop) : Prop :=
  ∀ items s', G items s' → ∃ Iv : Nat → List α → Gs → Prop, LcTurns Y s' scope vs tg elt ifs g ws f items Iv ∧ Iv 0 [] s'.gs ∧ ∀ ys gs, Iv items.length ys gs → R ys ⟨s'.ρ, gs⟩
theorem ev_lcE {g : TG} {ws : List Nat} {f : β → Rho → Rho} {G : List β → DSt → Prop} (ok : YOk Y) (hi : EvItE Y s tg iter G) (bk : BlkOk Y.X.N Y.X.env.scope scope own) (tg0 : ∀ z, TgOk (blkY Y scope z) tg g ws f) (h : LcG Y scope (own.map (·.2)) tg elt ifs g ws f G (α := α) fun ys s' => Q (pu ys) s')
    (hs : ∀ x, foldedSetIterable iter Y.X.env x = pure x := by intro _; rfl) : Ev Y s (.ListComp elt [⟨tg, iter, ifs, 0⟩] scope pos) Q := fun F0 σ H F e0 S => by
  obtain ⟨wi, hp, hw⟩ := hi
  have P := pe_lc (pos := pos) (tt := fun σ H Q => ∀ z, WTs (blkX Y.X scope z) ifs σ H Q) (te := fun σ H Q => ∀ z, WE (blkX Y.X scope z) elt σ H Q) ok.calm ok.nd hp bk (fun s H C cl fp => (tg0 ⟨s, H, C, cl, fp⟩).1) (fun s H C cl fp => ⟨fun pins s' σ H' Q I h => (h ⟨s, H, C, cl, fp⟩).run pins s' I⟩) (fun s H C cl fp => ⟨fun pins s' σ H' Q I h => (h ⟨s, H, C, cl, fp⟩).run pins s' I⟩) hs
  refine .of P (hw F0 σ H F _ e0 S fun J H1 F1 items s' e1 S1 K1 q => ?_)
  obtain ⟨Iv, L, h0, hQ⟩ := h items s' q
  have t := tlc_ok (own := own) (wi := fun _ _ R => R J H1) (F0 := F1) (σ := σ) (H := H1) (Qf := Po Y σ F0 Q) (fun R k => k J H1 F1 (.refl _) S1 K1) L h0 fun D H' F' ys gs e2 S2 iv => by
    obtain ⟨hF, o, ho, hot, vs, ev, rv⟩ := S2.cell (i := 0) (p := D) (c := lstc ys) rfl
    subst ev
    have S3 := S2.freeze (i := 0) (p := D) (c := lstc ys) rfl ho
    exact ⟨pu ys, ⟨s'.ρ, gs⟩, upd F' D (.lst vs), (e1.trans e2).trans (Ext.grow hF), ⟨D, vs, rfl, .of upd_same, rv.mono (Ext.grow hF)⟩, S3, hQ ys gs iv⟩
  exact t
/-- a comprehension by its turns -/
theorem ev_lcT {g : TG} {ws : List Nat} {f : β → Rho → Rho} {items : List β} (own : List (Str × Nat)) (ok : YOk Y) (hi : EvIt Y s tg iter items) (bk : BlkOk Y.X.N Y.X.env.scope scope own) (tg0 : ∀ z, TgOk (blkY Y scope z) tg g ws f) (Iv : Nat → List α → Gs → Prop) (h0 : Iv 0 [] s.gs)
    (small : ∀ i ys gs, Iv i ys gs → i < items.length → ys.length < sizeLine)
    (step : ∀ z i x ys gs D, items[i]? = some x → Iv i ys gs → Ets (blkY Y scope z) ⟨f x (wipeR s.ρ (own.map (·.2))), (D, lstc ys) :: gs⟩ ifs fun b s2 =>
      if b = true then ∀ z', Ev (blkY Y scope z') s2 elt fun A s3 => ∃ y gs3, A = pu y ∧ s3.gs = (D, lstc ys) :: gs3 ∧ Iv (i + 1) (ys ++ [y]) gs3 else ∃ gs2, s2.gs = (D, lstc ys) :: gs2 ∧ Iv (i + 1) ys gs2)
    (hQ : ∀ ys gs, Iv items.length ys gs → Q (pu ys) ⟨s.ρ, gs⟩) (sub : ∀ j ∈ ws, j ∈ own.map (·.2) := by decide) (hs : ∀ x, foldedSetIterable iter Y.X.env x = pure x := by intro _; rfl) : Ev Y s (.ListComp elt [⟨tg, iter, ifs, 0⟩] scope pos) Q :=
  ev_lc ok hi bk Iv ⟨tg0, sub, small, step⟩ h0 hQ hs
/-- a quiet comprehension -/
theorem evp_lc {g : TG} {ws : List Nat} {f : β → Rho → Rho} {items : List β} (own : List (Str × Nat)) (c : β → Bool) (h : β → α) (ok : YOk Y) (hi : EvIt Y s tg iter items) (bk : BlkOk Y.X.N Y.X.env.scope scope own) (tg0 : ∀ z, TgOk (blkY Y scope z) tg g ws f) (small : items.length ≤ sizeLine)
    (ht : ∀ z x D ys, x ∈ items → Ets (blkY Y scope z) ⟨f x (wipeR s.ρ (own.map (·.2))), (D, lstc (α := α) ys) :: s.gs⟩ ifs fun b s2 => b = c x ∧ s2 = ⟨f x (wipeR s.ρ (own.map (·.2))), (D, lstc ys) :: s.gs⟩)
    (he : ∀ z x D ys, x ∈ items → c x = true → EvP (blkY Y scope z) ⟨f x (wipeR s.ρ (own.map (·.2))), (D, lstc (α := α) ys) :: s.gs⟩ elt (pu (h x)))
    (sub : ∀ j ∈ ws, j ∈ own.map (·.2) := by decide) (hs : ∀ x, foldedSetIterable iter Y.X.env x = pure x := by intro _; rfl) : EvP Y s (.ListComp elt [⟨tg, iter, ifs, 0⟩] scope pos) (pu ((items.filter c).map h)) :=
  .of (ev_lc ok hi bk _ (lc_quiet c h tg0 sub small ht he) ⟨by simp, rfl⟩ (fun ys gs ⟨e1, e2⟩ => ⟨by rw [e1, List.take_length], by rw [e2]⟩) hs)
/-- .. with no test -/
theorem evp_lc0 {g : TG} {ws : List Nat} {f : β → Rho → Rho} {items : List β} (own : List (Str × Nat)) (h : β → α) (ok : YOk Y) (hi : EvIt Y s tg iter items) (bk : BlkOk Y.X.N Y.X.env.scope scope own) (tg0 : ∀ z, TgOk (blkY Y scope z) tg g ws f) (small : items.length ≤ sizeLine)
    (he : ∀ z x D ys, x ∈ items → EvP (blkY Y scope z) ⟨f x (wipeR s.ρ (own.map (·.2))), (D, lstc (α := α) ys) :: s.gs⟩ elt (pu (h x)))
    (sub : ∀ j ∈ ws, j ∈ own.map (·.2) := by decide) (hs : ∀ x, foldedSetIterable iter Y.X.env x = pure x := by intro _; rfl) : EvP Y s (.ListComp elt [⟨tg, iter, [], 0⟩] scope pos) (pu (items.map h)) :=
  (evp_lc own (fun _ => true) h ok hi bk tg0 small (fun z x D ys _ => ets_nil ⟨rfl, rfl⟩) (fun z x D ys hx _ => he z x D ys hx) sub hs).to (by rw [List.filter_eq_self.mpr (fun _ _ => rfl)])
end
end Sp
set_option maxHeartbeats 4000000
/-! Sp: a joined list that is made by a changing expression; the telling def by the head's facts; references as data; blocks by a check. -/
namespace Sp
open PySem L2
/-- a reference, as data -/
structure Rf where
  a : Addr
instance : Enc Rf := ⟨fun _ _ v r => v = .ref r.a, fun h _ => h⟩
theorem pu_rf {q : Addr} : pu (Rf.mk q) = raw (.ref q) := rfl
def blkB (N : List Str) (sc scope : Scope) (own : List (Str × Nat)) : Bool :=
  decide (scope.kind = .function) && scope.names.all (fun y => decide (scope.names.lookup y.1 = some y.2)) && own.all (fun p => decide (N[p.2]? = some p.1)) &&
    scope.names.all (fun y => !decide (y.2 = .free) || (decide (sc.names.lookup y.1 = some .cell) || decide (sc.names.lookup y.1 = some .free))) &&
    scope.names.all (fun y => !(decide (y.2 = .local) || decide (y.2 = .cell)) || (decide (y.1 ∈ own.map (·.1)) || decide (y.1 ∉ N)))
theorem blk_by {N : List Str} {sc scope : Scope} {own : List (Str × Nat)} (h : blkB N sc scope own = true) : BlkOk N sc scope own := by
  unfold blkB at h
  simp only [Bool.and_eq_true] at h
  obtain ⟨⟨⟨⟨h1, h2⟩, h3⟩, h4⟩, h5⟩ := h
  refine ⟨of_decide_eq_true h1, fun y hy => of_decide_eq_true (List.all_eq_true.mp h2 y hy), fun p hp => of_decide_eq_true (List.all_eq_true.mp h3 p hp), fun y hy e => ?_, fun y hy e => ?_⟩
  · have := List.all_eq_true.mp h4 y hy
    simpa [e] using this
  · have := List.all_eq_true.mp h5 y hy
    rcases e with e | e <;> simpa [e] using this
/-- a text by its literal -/
def tx (s : Str) : Txt := s.cps.toList
theorem toStr_tx (s : Str) : toStr (tx s) = s := toStr_of s
section
variable {Y : DX} {s : DSt} {e a b c d o : Expr} {es : List Expr} {pos p apos : Pos} {Q : Pv → DSt → Prop} {D : DE}
/-- an owned list's place by a constant -/
theorem evp_own {α : Type} [Enc α] {xs : List α} {n : Int} {x : α} {y : Str} {jj : Nat} {q : Addr} {p1 p2 p3 : Pos} (i g : Nat) (hN : Y.X.N[i]? = some y) (hρ : s.ρ[i]? = some (some (raw (.ref q)))) (hg : s.gs[g]? = some (q, lstc xs)) (hx : atI xs n = some x) (hv : Vis Y.X.env.scope y := by first | exact .inl rfl | exact .inr (.inl rfl) | exact .inr (.inr rfl))
    (hd : (y == ("__debug__" : Str)) = false := by decide) (hcd : (y == ("__classdict__" : Str)) = false := by decide) : EvP Y s (.Subscript (.Name y p1) (.Constant (.int n) jj p2) p3) (pu x) :=
  evp_ixA (fun _ _ => rfl) (evp_var i hN hv hρ hd hcd) (DL.own g hg) evp_int hx
/-- a name's value -/
theorem evp_v {A : Pv} {x : Str} (i : Nat) (hN : Y.X.N[i]? = some x) (hA : s.ρ[i]? = some (some A)) (hv : Vis Y.X.env.scope x := by first | exact .inl rfl | exact .inr (.inl rfl) | exact .inr (.inr rfl)) (hd : (x == ("__debug__" : Str)) = false := by decide) (hcd : (x == ("__classdict__" : Str)) = false := by decide) :
    EvP Y s (.Name x pos) A := evp_var i hN hv hA hd hcd
theorem w1_sv {x : Str} {p2 : Pos} (i : Nat) (ok : YOk Y) (hi : Y.X.N[i]? = some x) (h : Ev Y s e fun A s' => D.nx ⟨s'.ρ.set i (some A), s'.gs⟩)
    (hx : Loc Y.X.env.scope x := by first | exact .inl rfl | exact .inr rfl) (hs : swapsWith e (some (.Name x p2)) pos.line Y.X.env = pure false := by rfl) (hf : Y.X.fn x = true ∨ Y.X.env.scope.names.lookup x = some .local := by first | exact .inl rfl | exact .inr rfl) : W1 Y s (.Assign [.Name x p2] e pos) D := w1_set i ok hi hx h hs hf
theorem evp_tx {x : Str} {j : Nat} : EvP Y s (.Constant (.str x) j pos) (pu (tx x)) := evp_str (tx x) (toStr_tx x)
/-- o.m(e), e changing -/
theorem ev_m1E {T id : String} {name : Str} {A : Pv} {r : V → List V → Hp → VK → Prop} (pa : PlainAttrs T) (slot : Slot T name id) (hty : typeOf (.builtin id) = pure (.type "method_descriptor")) (hm : MtR Y.X id r) (ho : EvP Y s o A)
    (ht : ∀ σ H F v, Sta Y s σ H F → A.rep Y.X.K F v → tyV Y.X.K T v H)
    (he : Ev Y s e fun B s1 => ∀ F0 σ H F v u, Ext F0 F → Sta Y s1 σ H F → A.rep Y.X.K F v → B.rep Y.X.K F u → r v [u] H (Po Y σ F0 Q))
    (hbase : attributeBase o name Y.X.env (eval o Y.X.env) = eval o Y.X.env)
    (hfew : ((backTo pos (starEach [e] Y.X.env)).all (fun x => !x.1) && (backToKw pos (keywordEach [] Y.X.env)).all (fun x => x.1.isSome)
      && decide (([e] : List Expr).length + ([] : List Keyword).length + (if ([] : List Keyword).isEmpty then 0 else 1) < 30)) = true)
    (hline : (apos.endLine == pos.line) = true) (hs : starEach [e] Y.X.env = (false, eval e Y.X.env) :: starEach [] Y.X.env) : Ev Y s (.Call (.Attribute o name apos) [e] [] pos) Q := fun F0 σ H F e0 S => by
  refine .of (pe_bm pa slot hty hm pe_we (pa_cons pe_we pa_nil hs) hbase hfew hline hs (by rfl)) ?_
  refine (ho F σ H F (.refl _) S).mono fun v H1 ⟨F1, e1, r1, S1⟩ => ⟨ht _ _ _ _ S1 r1, ?_⟩
  refine (he F1 σ H1 F1 (.refl _) S1).mono fun u H2 ⟨B, s2, F2, e2, r2, S2, h⟩ => ?_
  exact h F0 σ H2 F2 v u ((e0.trans e1).trans e2) S2 (A.mono r1 e2) r2
theorem ev_join {x : List Nat} (ho : EvP Y s o (pu x)) (he : Ev Y s e fun A s1 => ∃ xs : List (List Nat), DL Y s1 A xs ∧ lenSum xs + xs.length * x.length ≤ 16777216 ∧ Q (pu (joinT x xs)) s1) (M : Mx1 Y.X o "join" apos e pos) : Ev Y s (.Call (.Attribute o "join" apos) [e] [] pos) Q :=
  ev_m1E PySem.F.plainAttrs_str PySem.F.slot_str_join PySem.F.type_str_join mt_join ho (fun σ H F v S r => tyV_str r) (he.mono fun A s1 ⟨xs, hA, hz, q⟩ F0 σ H F v u e0 S r1 r2 => by
    obtain ⟨p, zs, h1, h2, h3⟩ := hA σ H F u S r2
    rw [txts_map h3] at h2
    refine ⟨toStr x, p, xs.map toStr, r1, by rw [h1], .inl h2, ?_, _, s1, F, e0, by rw [toStr_join']; rfl, S, q⟩
    have e1 : (xs.map toStr).map (·.length) = xs.map List.length := by rw [List.map_map]; exact List.map_congr_left fun y _ => toStr_len y
    rw [e1, List.length_map, toStr_len]
    exact hz) M.base M.few M.line M.star
end
theorem Tell.no {K : Frag} {c C : Addr} {x t : Txt} {l : Cls_} (h : PySem.W.exmOne K (.ref C) (.ref c) = some false) (r : Tell K l C t) : Tell K ((c, x) :: l) C t := ⟨false, h, (fun e => by cases e), fun _ => r⟩
theorem Tell.yes {K : Frag} {c C : Addr} {x : Txt} {l : Cls_} (h : PySem.W.exmOne K (.ref C) (.ref c) = some true) : Tell K ((c, x) :: l) C x := ⟨true, h, (fun _ => rfl), fun e => by cases e⟩
/-- the telling def -/
theorem told_of {X : Cx} {d : He.DefD} {fd : FuncData} {x a : Str} {Ng : List Str} {l : Cls_} {p1 p2 p3 p8 : Pos} {h0 : ExceptHandler} {hds : List ExceptHandler} (F1 : Fd X.K d [a] fd) (hg : X.mg x = some (.ref (He.fAd X.K d.at_))) (hn : d.name = x) (hq : d.qual = x) (S : FnScope Ng [a] d.scope)
    (hb : d.body = [.Try [.Return (some (.Call (.Name a p1) [] [] p2)) p3] (h0 :: hds) [] [] p8]) (hh : HdT X.K X.mg d.scope (h0 :: hds) l) (h1 : Ng[0]? = some a) (hv : Vis d.scope a) (h2 : (a == ("__debug__" : Str)) = false) (h3 : (a == ("__classdict__" : Str)) = false)
    (h4 : ∀ f : Addr, (L2.start Ng [V.ref f])[0]? = some (some (V.ref f))) : Told X x l := by
  obtain ⟨oc, od, dV, kV, doc, pm, an, cdv, ct, osl, e, lk, hcd, _, _⟩ := F1.F.ex
  obtain ⟨b⟩ : Nonempty (PLift True) := ⟨⟨trivial⟩⟩
  have hbn := F1.b
  subst hn
  subst e
  rw [hq] at lk hcd hbn
  rw [hb] at lk hbn
  exact ⟨a, _, _, _, d.scope, dV, kV, doc, pm, cdv, ct, oc, an, od, osl, Ng, hg, F1.F.kp, lk, hcd, hbn, S, h1, hv, h2, h3, fun q => told_many hh h4⟩
end Sp
set_option maxHeartbeats 4000000
/-! Sp: generator expressions by their turns, told out. -/
namespace Sp
open PySem L2
/-- a target, told out: names by their places, pairs -/
structure TgD (β : Type) where
  g : Frag → TG
  ws : List Nat
  f : β → Rho → Rho
abbrev TgD.n {α : Type} [Enc α] (i : Nat) : TgD α := ⟨fun _ => gName i, [i], fun v ρ => ρ.set i (some (pu v))⟩
abbrev TgD.p {α β : Type} (a : TgD α) (b : TgD β) : TgD (α × β) := ⟨fun K => gTup K 2 (gCons (a.g K) (gCons (b.g K) gNil)), a.ws ++ b.ws, fun v ρ => b.f v.2 (a.f v.1 ρ)⟩
section
variable {Y : DX} {s : DSt} {k : Nat} {scope : Scope} {tg elt iter : Expr} {ifs : List Expr} {β γ : Type} [Enc β] {items : List β} {c : β → Bool} {gpos p pos : Pos}
theorem evp_anyT {h : β → Bool} (t : TgD β) (k : Nat) (vs : List Nat) (ok : YOk Y) (B : Bis Y.X.mg) (hg : Gl Y.X "any") (hk : k + 2 ≤ Y.k) (hi : EvIt Y s tg iter items) (G : GenOk Y.X.N Y.X.env.scope scope vs) (tb : Tbl Y.X Y.T (Y.X.env.qual ++ "<genexpr>")) (tg0 : ∀ z, TgOk (genY Y k scope z) tg (t.g Y.X.K) t.ws t.f)
    (e0 : ∀ z, YOk (genY Y k scope z) → ∀ x ∈ items, EvP (genY Y k scope z) ⟨t.f x (wipeR s.ρ vs), s.gs⟩ elt (pu (h x))) (sub : ∀ j ∈ t.ws, j ∈ vs := by decide) (hs : ∀ x, genFold iter Y.X.env x = pure x := by intro _; rfl)
    (he : starEach [.GeneratorExp elt [⟨tg, iter, [], 0⟩] scope gpos] Y.X.env = (false, eval (.GeneratorExp elt [⟨tg, iter, [], 0⟩] scope gpos) Y.X.env) :: starEach [] Y.X.env := by rfl) :
    EvP Y s (.Call (.Name "any" p) [.GeneratorExp elt [⟨tg, iter, [], 0⟩] scope gpos] [] pos) (pu (items.any h)) :=
  (evp_any (c := fun _ => true) ok B hg hk hi G tb ⟨tg0, sub, fun z o x hx => ets_nil ⟨rfl, rfl⟩, fun z o x hx _ => e0 z o x hx⟩ hs he).to (by
    rw [List.filter_eq_self.mpr (fun _ _ => rfl)]
    simp [List.any_map])
theorem evp_allT {h : β → Bool} (t : TgD β) (k : Nat) (vs : List Nat) (ok : YOk Y) (B : Bis Y.X.mg) (hg : Gl Y.X "all") (hk : k + 2 ≤ Y.k) (hi : EvIt Y s tg iter items) (G : GenOk Y.X.N Y.X.env.scope scope vs) (tb : Tbl Y.X Y.T (Y.X.env.qual ++ "<genexpr>")) (tg0 : ∀ z, TgOk (genY Y k scope z) tg (t.g Y.X.K) t.ws t.f)
    (e0 : ∀ z, YOk (genY Y k scope z) → ∀ x ∈ items, EvP (genY Y k scope z) ⟨t.f x (wipeR s.ρ vs), s.gs⟩ elt (pu (h x))) (sub : ∀ j ∈ t.ws, j ∈ vs := by decide) (hs : ∀ x, genFold iter Y.X.env x = pure x := by intro _; rfl)
    (he : starEach [.GeneratorExp elt [⟨tg, iter, [], 0⟩] scope gpos] Y.X.env = (false, eval (.GeneratorExp elt [⟨tg, iter, [], 0⟩] scope gpos) Y.X.env) :: starEach [] Y.X.env := by rfl) :
    EvP Y s (.Call (.Name "all" p) [.GeneratorExp elt [⟨tg, iter, [], 0⟩] scope gpos] [] pos) (pu (items.all h)) :=
  (evp_all (c := fun _ => true) ok B hg hk hi G tb ⟨tg0, sub, fun z o x hx => ets_nil ⟨rfl, rfl⟩, fun z o x hx _ => e0 z o x hx⟩ hs he).to (by
    rw [List.filter_eq_self.mpr (fun _ _ => rfl)]
    simp [List.all_map])
theorem evp_sumT {h : β → Int} (t : TgD β) (k : Nat) (vs : List Nat) (ok : YOk Y) (B : Bis Y.X.mg) (hg : Gl Y.X "sum") (hk : k + 2 ≤ Y.k) (hi : EvIt Y s tg iter items) (G : GenOk Y.X.N Y.X.env.scope scope vs) (tb : Tbl Y.X Y.T (Y.X.env.qual ++ "<genexpr>")) (tg0 : ∀ z, TgOk (genY Y k scope z) tg (t.g Y.X.K) t.ws t.f)
    (e0 : ∀ z, YOk (genY Y k scope z) → ∀ x ∈ items, EvP (genY Y k scope z) ⟨t.f x (wipeR s.ρ vs), s.gs⟩ elt (pu (h x))) (hfit : SumOk (items.map h)) (sub : ∀ j ∈ t.ws, j ∈ vs := by decide) (hs : ∀ x, genFold iter Y.X.env x = pure x := by intro _; rfl)
    (he : starEach [.GeneratorExp elt [⟨tg, iter, [], 0⟩] scope gpos] Y.X.env = (false, eval (.GeneratorExp elt [⟨tg, iter, [], 0⟩] scope gpos) Y.X.env) :: starEach [] Y.X.env := by rfl) :
    EvP Y s (.Call (.Name "sum" p) [.GeneratorExp elt [⟨tg, iter, [], 0⟩] scope gpos] [] pos) (pu (items.map h).sum) :=
  (evp_sumG (c := fun _ => true) ok B hg hk hi G tb ⟨tg0, sub, fun z o x hx => ets_nil ⟨rfl, rfl⟩, fun z o x hx _ => e0 z o x hx⟩ (by rw [List.filter_eq_self.mpr (fun _ _ => rfl)]; exact hfit) hs he).to (by
    rw [List.filter_eq_self.mpr (fun _ _ => rfl)])
/-- tuple(a pair) -/
theorem evp_tupleP {α β : Type} [Enc α] [Enc β] {a : Expr} {x : α × β} (T : Bis Y.X.mg) (hg : Gl Y.X "tuple") (ha : EvP Y s a (pu x)) (he : starEach [a] Y.X.env = (false, eval a Y.X.env) :: starEach [] Y.X.env := by rfl) : EvP Y s (.Call (.Name "tuple" p) [a] [] pos) (pu x) :=
  evp_T1 call_tuple_of hg (T.no _ (by decide)) PyProof.Rows.boot_tuple ha (fun F0 σ H F v e0 S ⟨q, z1, z2, h1, h2, h3, h4⟩ => ⟨q, _, by rw [h1], .inr ⟨sqT_ext h2 S.ext, F, e0, ⟨q, z1, z2, rfl, h2, h3, h4⟩, S⟩⟩) (by decide) (by decide) he
theorem tg_nm {x : Str} (nd : Y.X.N.Nodup) (i : Nat) (hi : Y.X.N[i]? = some x) (hx : Loc Y.X.env.scope x := by first | exact .inl rfl | exact .inr rfl) (hf : Y.X.fn x = true ∨ Y.X.env.scope.names.lookup x = some .local := by first | exact .inl rfl | exact .inr rfl) {α : Type} [Enc α] {pos : Pos} :
    TgOk Y (.Name x pos) (gName i) [i] (fun (v : α) ρ => ρ.set i (some (pu v))) := tg_name nd i hi hx hf
theorem tg_gen {x : Str} (ok : YOk Y) (z : GCx) (i : Nat) (hi : Y.X.N[i]? = some x) (hx : Loc (genY Y k scope z).X.env.scope x := by first | exact .inl rfl | exact .inr rfl) (hf : (genY Y k scope z).X.fn x = true ∨ (genY Y k scope z).X.env.scope.names.lookup x = some .local := by first | exact .inl rfl | exact .inr rfl) {α : Type} [Enc α] {pos : Pos} :
    TgOk (genY Y k scope z) (.Name x pos) (gName i) [i] (fun (v : α) ρ => ρ.set i (some (pu v))) := tg_name (Y := genY Y k scope z) ok.nd i hi hx hf
theorem tg_blk {x : Str} (ok : YOk Y) (z : BCx) (i : Nat) (hi : Y.X.N[i]? = some x) (hx : Loc (blkY Y scope z).X.env.scope x := by first | exact .inl rfl | exact .inr rfl) (hf : (blkY Y scope z).X.fn x = true ∨ (blkY Y scope z).X.env.scope.names.lookup x = some .local := by first | exact .inl rfl | exact .inr rfl) {α : Type} [Enc α] {pos : Pos} :
    TgOk (blkY Y scope z) (.Name x pos) (gName i) [i] (fun (v : α) ρ => ρ.set i (some (pu v))) := tg_name (Y := blkY Y scope z) ok.nd i hi hx hf
theorem evp_lcD {α : Type} [Enc α] (t : TgD β) (own : List (Str × Nat)) (c : β → Bool) (h : β → α) (ok : YOk Y) (hi : EvIt Y s tg iter items) (bk : BlkOk Y.X.N Y.X.env.scope scope own) (tg0 : ∀ z, TgOk (blkY Y scope z) tg (t.g Y.X.K) t.ws t.f) (small : items.length ≤ sizeLine)
    (ht : ∀ z x D ys, x ∈ items → Ets (blkY Y scope z) ⟨t.f x (wipeR s.ρ (own.map (·.2))), (D, lstc (α := α) ys) :: s.gs⟩ ifs fun b s2 => b = c x ∧ s2 = ⟨t.f x (wipeR s.ρ (own.map (·.2))), (D, lstc ys) :: s.gs⟩)
    (he : ∀ z x D ys, x ∈ items → c x = true → EvP (blkY Y scope z) ⟨t.f x (wipeR s.ρ (own.map (·.2))), (D, lstc (α := α) ys) :: s.gs⟩ elt (pu (h x)))
    (sub : ∀ j ∈ t.ws, j ∈ own.map (·.2) := by decide) (hs : ∀ x, foldedSetIterable iter Y.X.env x = pure x := by intro _; rfl) : EvP Y s (.ListComp elt [⟨tg, iter, ifs, 0⟩] scope pos) (pu ((items.filter c).map h)) := evp_lc own c h ok hi bk tg0 small ht he sub hs
theorem evp_lc0D {α : Type} [Enc α] (t : TgD β) (own : List (Str × Nat)) (h : β → α) (ok : YOk Y) (hi : EvIt Y s tg iter items) (bk : BlkOk Y.X.N Y.X.env.scope scope own) (tg0 : ∀ z, TgOk (blkY Y scope z) tg (t.g Y.X.K) t.ws t.f) (small : items.length ≤ sizeLine)
    (he : ∀ z x D ys, x ∈ items → EvP (blkY Y scope z) ⟨t.f x (wipeR s.ρ (own.map (·.2))), (D, lstc (α := α) ys) :: s.gs⟩ elt (pu (h x)))
    (sub : ∀ j ∈ t.ws, j ∈ own.map (·.2) := by decide) (hs : ∀ x, foldedSetIterable iter Y.X.env x = pure x := by intro _; rfl) : EvP Y s (.ListComp elt [⟨tg, iter, [], 0⟩] scope pos) (pu (items.map h)) := evp_lc0 own h ok hi bk tg0 small he sub hs
theorem gen_calm (z : GCx) : (genY Y k scope z).X.calm = true := rfl
end
end Sp
set_option maxHeartbeats 4000000
/-! Sp: tuple(d.items()). -/
namespace Sp
open PySem PySem.Spec PyProof.Rows L2
open AutoSeq1 (wpAny_loadPart')
theorem meetsIn_tuple_items {prog : Program} {w : World} {κ : Type} [DecidableEq κ] (knd : PySem.KeyKind prog w κ) (r d : Addr) (kvs : List (κ × Value)) (ep : Nat) (hn : kvs.length ≤ sizeLine) :
    MeetsIn prog w (Builtin.«tuple.__new__» ⟨[.type "tuple", .ref r], []⟩)
      (fun A R s => A.handled = none ∧ s.heap.IsItemsView r d ∧ s.heap.DictAt knd d kvs ep ∧ ∀ (h' : Heap) (tk : Nat) (as : List Addr), (∀ b o, s.heap.get? b = some o → h'.get? b = some o) → as.length = kvs.length → PySem.W.KdxG knd kvs s.heap.objs.size h' as →
        R (.ok (.ret (.ref h'.objs.size))) { s with heap := h'.push { cls := .type "tuple", data := .seq (as.map Value.ref).toArray }, toks := tk }) :=
  .of_wp fun A R s h => by
    obtain ⟨hh, hv, hm, h⟩ := h
    have hsub := sub_tuple_self
    have hinit := init_tuple_lookup
    have hmh := madeHere_tuple
    have hT : s.TypeIs (.ref r) "dict_items" := by
      obtain ⟨o, ho, hc, _⟩ := hv
      exact ⟨o, ho, hc⟩
    have hh1 : A.in1.handled = none := hh
    obtain ⟨hp, g, dr, tk0, os⟩ := s
    wp_walk using wpAny_typeOf hT, PySem.W.kdx_collect (knd := knd) hh1 hv hm hn
    intro h' tk as hk hl hG
    show wpAny _ _ (Builtin.Tuple.tupleExact (as.map Value.ref).toArray >>= fun v => ret v) _ _ _
    unfold Builtin.Tuple.tupleExact
    refine wpAny_bind (wpAny_newObj_type ?_ (show (as.map Value.ref).toArray.size ≤ sizeLine by simp only [List.size_toArray, List.length_map]; omega))
    exact wpAny_pure ⟨_, rfl, h h' tk as hk hl hG⟩
section
variable {X : Cx} {e : Expr} {te : TE} {p apos cpos pos : Pos}
theorem items_laidT {pins : List (Addr × Obj)} {σ : L2.St} {H : Hp} {s : Shared} {h' : Heap} {tk : Nat} {kvs : List (Key × V)} {vs : List (Key × Value)} {as : List Addr} (I : Inv X pins σ H s) (hz : kvs.length ≤ sizeLine) (kv : KV kvs vs)
    (hk : ∀ b o, s.heap.get? b = some o → h'.get? b = some o) (hl : as.length = vs.length) (hG : PySem.W.KdxG (mixKind X.prog X.w) vs s.heap.objs.size h' as) (hab : ∀ b ∈ as, b < h'.objs.size) (hsz : s.heap.objs.size ≤ h'.objs.size) :
    ∃ H' : Hp, (∀ b o, H b = some o → H' b = some o) ∧ H h'.objs.size = none ∧ (∀ t ∈ as, H t = none) ∧ h'.objs.size ∉ as ∧ H' h'.objs.size = some (.tup (as.map V.ref)) ∧ Paired (fun (t : Addr) (q : Key × V) => H' t = some (.tup [kV q.1, q.2])) as kvs ∧
      Inv X pins σ H' { s with heap := h'.push { cls := .type "tuple", data := .seq (as.map Value.ref).toArray }, toks := tk } := by
  have lk : kvs.length = vs.length := Paired.length kv
  have hSn : h'.objs.size ∉ as := fun z => Nat.lt_irrefl _ (hab _ z)
  have nd : as.Nodup := List.Pairwise.imp (fun {a b} (h : a < b) => Nat.ne_of_lt h) hG.rise
  have new : ∀ t ∈ as, H t = none := fun t ht => I.hok.fresh (Nat.le_of_lt (hG.above t ht))
  have newS : H h'.objs.size = none := I.hok.fresh hsz
  have atP := LiI.putT_at as kvs (upd H h'.objs.size (.tup (as.map V.ref))) (by omega) nd
  have off : ∀ b, b ∉ as → b ≠ h'.objs.size → LiI.putT (upd H h'.objs.size (.tup (as.map V.ref))) as kvs b = H b := fun b h1 h2 => by rw [LiI.putT_off as kvs _ h1, upd_ne h2]
  have low : ∀ b o, s.heap.get? b = some o → b ∉ as ∧ b ≠ h'.objs.size := fun b o e => ⟨fun z => absurd (Heap.lt_size e) (Nat.not_lt.mpr (Nat.le_of_lt (hG.above b z))), Nat.ne_of_lt (Nat.lt_of_lt_of_le (Heap.lt_size e) hsz)⟩
  have kp : ∀ b u, H b = some u → (LiI.putT (upd H h'.objs.size (.tup (as.map V.ref))) as kvs) b = some u := fun b u e => by
    rw [off b (fun z => by rw [new b z] at e; cases e) (fun z => by rw [z, newS] at e; cases e)]
    exact e
  have eS : LiI.putT (upd H h'.objs.size (.tup (as.map V.ref))) as kvs h'.objs.size = some (.tup (as.map V.ref)) := by rw [LiI.putT_off as kvs _ hSn, upd_same]
  have hk2 : ∀ b o, s.heap.get? b = some o → (h'.push { cls := .type "tuple", data := .seq (as.map Value.ref).toArray }).get? b = some o := fun b o q => Heap.get?_push_of_some _ (hk b o q)
  refine ⟨LiI.putT (upd H h'.objs.size (.tup (as.map V.ref))) as kvs, kp, newS, new, hSn, eS, atP, ?_⟩
  refine I.call' (ch := []) rfl ⟨fun b o q _ _ _ => hk2 b o q, fun b o q _ _ _ => ⟨o.slots, hk2 b o q⟩, fun b o q n _ => ?_, fun b o q _ => ⟨o, hk2 b o q⟩, fun b xs q => kp b _ q, fun b o u q => kp b _ q, fun b ps q => ⟨#[], by rw [kp b _ q]; simp⟩⟩ (fun b u q => ?_) I.bare fun b z => by simp at z
  · obtain ⟨z1, z2⟩ := low b o q
    rw [off b z1 z2]
    exact n
  · by_cases hb : b ∈ as
    · obtain ⟨j, pk, e1, e2, e3⟩ := LiI.paired_ix atP hb
      rw [e3] at q
      cases q
      obtain ⟨key, k, x, f1, f2, f3⟩ := hG.pairs j b e1
      obtain ⟨qv, g1, g2, g3⟩ := LiI.paired_get kv e2
      rw [f1] at g1
      cases g1
      have rk : RelV (kV pk.1) key := by
        rw [g2]
        exact relV_key (show keyIs k key = true from f2)
      exact ⟨by show 2 ≤ sizeLine; decide, [key, x], .cons rk (.cons g3 .nil), ⟨_, Heap.get?_push_of_some _ f3, rfl, _, rfl⟩⟩
    · by_cases hb2 : b = h'.objs.size
      · rw [hb2] at q ⊢
        rw [eS] at q
        cases q
        exact ⟨by rw [List.length_map]; omega, as.map Value.ref, LiI.vals_refs as, ⟨_, Heap.get?_push_size _ rfl, rfl, _, rfl⟩⟩
      · rw [off b hb hb2] at q
        exact (I.hok b u q).stay (fun d v _ y => hk2 d v y) (fun d y => kp d _ y) fun d xs y => kp d _ y
def rItemsT : V → Hp → VK → Prop := fun x H Q => ∃ (d : Addr) (kvs : List (Key × V)), x = .ref d ∧ Rd H d (.dK kvs) ∧
  ∀ (H' : Hp) (p : Addr) (ts : List Addr), (∀ b o, H b = some o → H' b = some o) → H p = none → (∀ t ∈ ts, H t = none) → p ∉ ts → H' p = some (.tup (ts.map V.ref)) → Paired (fun (t : Addr) (q : Key × V) => H' t = some (.tup [kV q.1, q.2])) ts kvs → Q (.ref p) H'
theorem pe_tupleItems (hc : X.calm = true) (he : PE X e te) (hg : Gl X "tuple") (hm : X.mg "tuple" = none) (hbase : attributeBase e "items" X.env (eval e X.env) = eval e X.env := by rfl) (hline : (apos.endLine == cpos.line) = true := by rfl)
    (hs : starEach [.Call (.Attribute e "items" apos) [] [] cpos] X.env = (false, eval (.Call (.Attribute e "items" apos) [] [] cpos) X.env) :: starEach [] X.env := by rfl) :
    PE X (.Call (.Name "tuple" p) [.Call (.Attribute e "items" apos) [] [] cpos] [] pos) (fun σ H Q => te σ H fun x H1 => rItemsT x H1 Q) := by
  refine ⟨fun pins s σ H Q I hq => ?_⟩
  refine wpAny_Call_Name_kw (ld_blt I hg hm PyProof.Rows.boot_tuple ?_)
  refine PyProof.Rows.callWith_type1 ?_ hs rfl
  rw [hs]
  show wpAny _ _ (spliced ((false, eval (.Call (.Attribute e "items" apos) [] [] cpos) X.env) :: backTo pos (starEach [] X.env))) _ _ s
  refine Calls.spliced_cons ?_
  refine wpAny_Call_method (T := "dict") (id := "dict.items") hbase rfl hline F.plainAttrs_dict F.slot_dict_items F.type_dict_items (thn (he.run pins s σ H _ I hq) fun u s1 ⟨x, H1, I1, rx, d, kvs, ex, hd, q⟩ => ?_)
  subst ex
  obtain rfl : u = Value.ref d := rx
  obtain ⟨hz, hs0, vs, kv, hdo⟩ := dk_rd I1.hok hd
  obtain ⟨ep, hat⟩ := hdo.dictAt
  have lk : kvs.length = vs.length := Paired.length kv
  have I2 : Inv X pins σ H1 { s1 with heap := s1.heap.push { cls := .type "dict_items", data := .fields #[.ref d] } } := I1.kept (t' := s1.toks) fun b ob q => Heap.get?_push_of_some _ q
  refine ⟨hdo.typeIs, hdo.mapOf.noDict, ?_⟩
  show wpAny _ _ (callWith cpos (.builtin "dict.items") [.ref d] [] []) _ X.xe s1
  refine method_meetsIn F.slot_dict_items F.entry_dict_items rfl (PySem.evalArgs_none ⟨rfl, hdo.typeIs, F.args_dict_items_1 _, _, meets_dict_items (mixKind X.prog X.w) d hs0, ⟨vs, hdo⟩, ?_⟩)
  refine Calls.spliced_nil ?_
  refine callType_newIn F.called_tuple (by decide) (F.typeCall_tuple_1 _) (F.newCall_tuple_1 _) (fun obj => F.args_object_init_2 obj _) F.entry_tuple_new (meetsIn_tuple_items (mixKind X.prog X.w) _ d vs ep (by omega))
    ⟨I1.ok.hd hc, ⟨_, Heap.get?_push_size _ rfl, rfl, rfl⟩, hat.push _, fun h' tk as hk hl hG => ⟨⟨_, Heap.get?_push_size _ rfl, rfl⟩, ?_⟩⟩
  have hlast := Heap.lt_size (hk s1.heap.objs.size _ (Heap.get?_push_size _ rfl))
  have hab : ∀ b ∈ as, b < h'.objs.size := fun b hb => by
    obtain ⟨j, hj, e⟩ := List.mem_iff_getElem.mp hb
    obtain ⟨key, k, x, f1, f2, f3⟩ := hG.pairs j b (by rw [List.getElem?_eq_getElem hj, e])
    exact Heap.lt_size f3
  obtain ⟨H', k1, k2, k3, k4, k5, k6, J⟩ := items_laidT (tk := tk) I2 hz kv hk hl hG hab (by
    show (s1.heap.objs.push _).size ≤ _
    rw [Array.size_push]
    exact hlast)
  exact ⟨.ref _, H', J, rfl, q H' _ as k1 k2 k3 k4 k5 k6⟩
/-- several new objects at once -/
theorem Sta.growAll {Y : DX} {s : DSt} {σ : L2.St} {H F H' : Hp} (S : Sta Y s σ H F) (e : ∀ b o, H b = some o → H' b = some o) (l : List Addr) (new : ∀ a ∈ l, H a = none ∧ ∃ o, H' a = some o ∧ isTbl o = false) :
    Sta Y s σ H' (fun b => if b ∈ l then H' b else F b) ∧ Ext F (fun b => if b ∈ l then H' b else F b) := by
  have hF : ∀ a ∈ l, F a = none := fun a ha => S.ext.free (new a ha).1
  have eF : Ext F (fun b => if b ∈ l then H' b else F b) := fun a o h => by
    show (if a ∈ l then H' a else F a) = some o
    rw [if_neg (fun z => by rw [hF a z] at h; cases h)]
    exact h
  refine ⟨⟨fun a o h => ?_, fun a u h => ?_, S.rep.mono eF, fun q hq => ?_, S.nd, fun p hp => (S.tb p hp).ext e, ⟨S.st.ff.trans eF, fun a u h1 h2 h3 => e _ _ (S.st.fr a u h1 h2 h3), fun a h => ?_⟩⟩, eF⟩
  · have h' : (if a ∈ l then H' a else F a) = some o := h
    by_cases z : a ∈ l
    · rw [if_pos z] at h'; exact h'
    · rw [if_neg z] at h'; exact e _ _ (S.ext _ _ h')
  · have h' : (if a ∈ l then H' a else F a) = some u := h
    by_cases z : a ∈ l
    · rw [if_pos z] at h'
      obtain ⟨_, o, ho, ht⟩ := new a z
      rw [ho] at h'; cases h'; exact ht
    · rw [if_neg z] at h'; exact S.ntb _ _ h'
  · obtain ⟨h1, u, h2, h3, h4⟩ := S.own q hq
    have ne : q.1 ∉ l := fun z => by rw [(new _ z).1] at h2; cases h2
    refine ⟨?_, u, e _ _ h2, h3, q.2.mono h4 eF⟩
    show (if q.1 ∈ l then H' q.1 else F q.1) = none
    rw [if_neg ne]
    exact h1
  · by_cases z : a ∈ l
    · exact .inr (S.st.was (.of (new a z).1))
    · refine S.st.nw a (h.elim (fun h => .inl ?_) .inr)
      have h' : (if a ∈ l then H' a else F a) ≠ none := h
      rw [if_neg z] at h'
      exact h'
/-- tuple(d.items()) -/
theorem evp_tupleI {κ ν : Type} [DecidableEq κ] [Kk κ] [Enc κ] [KkV κ] [Enc ν] {Y : DX} {s : DSt} {A : Pv} {m : List (κ × ν)} (ok : YOk Y) (T : Bis Y.X.mg) (hg : Gl Y.X "tuple") (ho : EvP Y s e A) (hA : DF Y s A m) (hbase : attributeBase e "items" Y.X.env (eval e Y.X.env) = eval e Y.X.env := by rfl) (hline : (apos.endLine == cpos.line) = true := by rfl)
    (hs : starEach [.Call (.Attribute e "items" apos) [] [] cpos] Y.X.env = (false, eval (.Call (.Attribute e "items" apos) [] [] cpos) Y.X.env) :: starEach [] Y.X.env := by rfl) :
    EvP Y s (.Call (.Name "tuple" p) [.Call (.Attribute e "items" apos) [] [] cpos] [] pos) (pu (PySem.W.Tup.mk m)) := fun F0 σ H F e0 S => by
  refine .of (pe_tupleItems ok.calm pe_we hg (T.no _ (by decide)) hbase hline hs) ?_
  refine (ho F0 σ H F e0 S).mono fun v H1 ⟨F1, e1, r1, S1⟩ => ?_
  obtain ⟨d, kvs, ev, hd, rk⟩ := hA σ H1 F1 v S1 r1
  refine ⟨d, kvs, ev, hd, fun H' p ts k1 k2 k3 k4 k5 k6 => ?_⟩
  have at6 : ∀ t ∈ ts, ∃ q : Key × V, H' t = some (.tup [kV q.1, q.2]) := fun t ht => by
    obtain ⟨j, q, _, _, e3⟩ := LiI.paired_ix k6 ht
    exact ⟨q, e3⟩
  obtain ⟨S2, eF⟩ := S1.growAll k1 (p :: ts) fun a ha => by
    rcases List.mem_cons.mp ha with h | h
    · subst h
      exact ⟨k2, _, k5, rfl⟩
    · obtain ⟨q, hq⟩ := at6 a h
      exact ⟨k3 a h, _, hq, rfl⟩
  refine ⟨_, e1.trans eF, ⟨p, ts.map V.ref, rfl, .of (by
    show (if p ∈ p :: ts then H' p else F1 p) = _
    rw [if_pos List.mem_cons_self]
    exact k5), ?_⟩, S2⟩
  have key : ∀ (ts' : List Addr) (kvs' : List (Key × V)) (m' : List (κ × ν)), (∀ t ∈ ts', t ∈ ts) → Paired (fun (t : Addr) (q : Key × V) => H' t = some (.tup [kV q.1, q.2])) ts' kvs' → KVs Y.X.K F1 kvs' m' → Vs Y.X.K (fun b => if b ∈ p :: ts then H' b else F1 b) (ts'.map V.ref) m' := by
    intro ts' kvs' m' hsub h1
    induction h1 generalizing m' with
    | nil =>
      intro h2
      cases h2
      exact .nil
    | @cons t0 q0 l1 l2 a _ ih =>
      intro h2
      cases h2 with
      | cons b r =>
        refine .cons ⟨t0, kV q0.1, q0.2, rfl, .of ?_, ?_, Enc.mono b.2 eF⟩ (ih _ (fun t ht => hsub t (List.mem_cons_of_mem _ ht)) r)
        · show (if _ ∈ p :: ts then _ else _) = _
          rw [if_pos (List.mem_cons_of_mem _ (hsub _ List.mem_cons_self))]
          exact a
        · rw [b.1]
          exact KkV.rep _
  exact key ts kvs m (fun _ h => h) k6 rk
end
end Sp
set_option maxHeartbeats 4000000
/-! Sp: texts' methods. -/
namespace Sp
open PySem L2
section
variable {Y : DX} {s : DSt} {e a b c d o : Expr} {es : List Expr} {pos p apos : Pos} {Q : Pv → DSt → Prop} {D : DE}
/-- how often a sign stands in a text -/
def cntS (x : List Nat) (c : Nat) : Nat := x.countP fun y => decide (y = c)
theorem count_sign (x : List Nat) (c : Nat) : Txt.count (toStr x) (toStr [c]) = (cntS x c : Int) := by
  have h := PyProof.Rows.count_cnt (toStr x) c
  rw [toStr_cps] at h
  refine h.trans ?_
  clear h
  unfold cntS
  induction x with
  | nil => exact PyProof.Rows.cnt_nil _
  | cons a x ih =>
    rw [PyProof.Rows.cnt_cons, ih, List.countP_cons]
    by_cases e : a = c
    · subst e; simp; omega
    · simp [e, Ne.symm e]
theorem evp_cntS {x : List Nat} {k : Nat} (ho : EvP Y s o (pu x)) (he : EvP Y s e (pu [k])) (m : Mx1 Y.X o "count" apos e pos) : EvP Y s (.Call (.Attribute o "count" apos) [e] [] pos) (pu (cntS x k : Int)) :=
  evp_m1 PySem.F.plainAttrs_str PySem.F.slot_str_count PySem.F.type_str_count mt_count ho he (fun σ H F v S r => tyV_str r) (fun F0 σ H F v u e0 S r1 r2 => ⟨toStr x, toStr [k], r1, by rw [show u = V.str (toStr [k]) from r2], F, e0, by rw [count_sign]; rfl, S⟩) m.base m.few m.line m.star
end
end Sp
set_option maxHeartbeats 4000000
/-! Sp: x = a quiet comprehension on one line. -/
namespace Sp
open PySem L2
section
variable {Y : DX} {s : DSt} {tg elt iter : Expr} {ifs : List Expr} {pos spos py : Pos} {scope : Scope} {α β : Type} [Enc α] [Enc β] {items : List β} {D : DE}
theorem w1_lcD {y : Str} (i : Nat) (t : TgD β) (own : List (Str × Nat)) (c : β → Bool) (h : β → α) (ok : YOk Y) (hy : Y.X.N[i]? = some y) (hi : EvIt Y s tg iter items) (bk : BlkOk Y.X.N Y.X.env.scope scope own) (tg0 : ∀ z, TgOk (blkY Y scope z) tg (t.g Y.X.K) t.ws t.f) (small : items.length ≤ sizeLine)
    (ht : ∀ z x D ys, x ∈ items → Ets (blkY Y scope z) ⟨t.f x (wipeR s.ρ (own.map (·.2))), (D, lstc (α := α) ys) :: s.gs⟩ ifs fun b s2 => b = c x ∧ s2 = ⟨t.f x (wipeR s.ρ (own.map (·.2))), (D, lstc ys) :: s.gs⟩)
    (he : ∀ z x D ys, x ∈ items → c x = true → EvP (blkY Y scope z) ⟨t.f x (wipeR s.ρ (own.map (·.2))), (D, lstc (α := α) ys) :: s.gs⟩ elt (pu (h x)))
    (hQ : D.nx ⟨s.ρ.set i (some (pu ((items.filter c).map h))), s.gs⟩)
    (hyl : Y.X.env.scope.names.lookup y = some .local := by rfl) (hsw : swapsWith (.ListComp elt [⟨tg, iter, ifs, 0⟩] scope pos) (some (.Name y py)) spos.line Y.X.env = pure true := by rfl) (sub : ∀ j ∈ t.ws, j ∈ own.map (·.2) := by decide) (hs : ∀ x, foldedSetIterable iter Y.X.env x = pure x := by intro _; rfl) :
    W1 Y s (.Assign [.Name y py] (.ListComp elt [⟨tg, iter, ifs, 0⟩] scope pos) spos) D :=
  w1_setLc ok hy hyl hsw hi bk _ (lc_quiet c h tg0 sub small ht he) ⟨by simp, rfl⟩ (fun ys gs ⟨e1, e2⟩ => by rw [e1, e2, List.take_length]; exact hQ) hs
end
end Sp
set_option maxHeartbeats 4000000
/-! Sp: enumerate(text). -/
namespace Sp
open PySem PySem.Spec PyProof.Rows L2
/-- a text's signs with their places -/
def IteS (x : Str) : It :=
  ⟨fun i _ => i < x.cps.size, fun i H v H' => ∃ T c, v = .ref T ∧ H T = none ∧ H' = upd H T (.tup [.int (i : Nat), .str ⟨#[c]⟩]) ∧ x.cps[i]? = some c, fun i _ => x.cps.size ≤ i⟩
theorem draws_str {prog : Program} {w : World} {A : Around} (hh : A.handled = none) (it : Addr) (x : Str) (t : Tok) :
    Draws prog w A it [it] x.cps.size (fun i v => ∃ c u, x.cps[i]? = some c ∧ v = .str ⟨#[c]⟩ u) (fun i h => h.IsStrIter it (strIterType x) x t i) := by
  unfold strIterType
  split
  · exact Draws.strAscii hh it x t
  · exact Draws.strWide hh it x t
theorem turn_enumS {P : Program} {w : World} {K : PySem.W.Frag} {elts : List Expr} {kk : Nat} {tpos : Pos} (x : Str) (t : Tok) (e it : Addr) :
    Turn P w K (.Tuple elts kk tpos) (IteS x) [e, it] e (fun i h => (∃ old, IsEnum h e it ((i : Nat) : Int) old) ∧ h.IsStrIter it (strIterType x) x t i ∧ e ≠ it ∧ i ≤ x.cps.size) where
  mem := by simp
  obj := fun i h st b hb => by
    obtain ⟨⟨old, he⟩, ⟨o, ho, hc, hd⟩, _⟩ := st
    have e' : b = e ∨ b = it := by simpa using hb
    rcases e' with z | z
    · rw [z]; exact ⟨_, he, fun v q => nomatch q⟩
    · rw [z]; exact ⟨o, ho, fun v q => by rw [hd] at q; cases q⟩
  keep := fun i h h' st k => let ⟨⟨old, he⟩, ⟨o, ho, r⟩, hne⟩ := st; ⟨⟨old, k e (by simp) _ he⟩, ⟨o, k it (by simp) o ho, r⟩, hne⟩
  item := by
    intro X hP hw hK hc i pins s σ H E I hf st hg
    subst hP hw hK
    obtain ⟨⟨old, he⟩, hit, hne, hle⟩ := st
    have hel : e < s.heap.objs.size := Heap.lt_size he
    have hil : it < s.heap.objs.size := by obtain ⟨_, q, _⟩ := hit; exact Heap.lt_size q
    refine wpAny_pyNext_enum_itemD (draws_str (show X.A.in1.handled = none from I.ok.hd hc) it x t) he hit hg hne (by simpa using hne) fun v h' tk pv ho hit' hT hsz hk => ?_
    obtain ⟨c, u, hcx, rfl⟩ := pv
    refine ⟨_, rfl, wpAny_letOwnedTupleGo_enum (s := { s with heap := h', toks := tk + 1 }) ho fun h'' he' sb => ?_⟩
    have hT2 : h''.get? s.heap.objs.size = some { cls := .type "tuple", data := .seq #[.int i tk, .str ⟨#[c]⟩ u] } := (sb.2 _ (Nat.ne_of_gt hel)).trans hT
    have new : ObjOk X.prog X.w (upd H s.heap.objs.size (.tup [.int (i : Nat), .str ⟨#[c]⟩])) h'' s.heap.objs.size (.tup [.int (i : Nat), .str ⟨#[c]⟩]) :=
      ⟨by show 2 ≤ sizeLine; decide, [.int i tk, .str ⟨#[c]⟩ u], .cons ⟨_, rfl⟩ (.cons ⟨_, rfl⟩ .nil), ⟨_, hT2, rfl, _, rfl⟩⟩
    have I1 : Inv X pins σ (upd H s.heap.objs.size (.tup [.int (i : Nat), .str ⟨#[c]⟩])) { s with heap := h'', toks := tk + 1 } :=
      I.turnedNew (ch := [e, it]) (fun b ob hb q => (sb.2 b (fun z => hb (by simp [z]))).trans (hk b ob (fun z => hb (by simp [z])) (fun z => hb (by simp [z])) q)) hf (Nat.le_refl _) new
    refine ⟨.ref s.heap.objs.size, _, I1, rfl, ⟨_, c, rfl, I.hok.fresh (Nat.le_refl _), rfl, hcx⟩, ⟨⟨.str ⟨#[c]⟩ u, ?_⟩, ?_, hne, hg⟩, fun b hb => ?_⟩
    · have e1 : ((i + 1 : Nat) : Int) = (i : Int) + 1 := by omega
      rw [e1]; exact he'
    · obtain ⟨o, ho2, r⟩ := hit'
      exact ⟨o, (sb.2 it (Ne.symm hne)).trans ho2, r⟩
    · have hb' : b < s.heap.objs.size := by
        have e' : b = e ∨ b = it := by simpa using hb
        rcases e' with z | z
        · rw [z]; exact hel
        · rw [z]; exact hil
      rw [upd_ne (Nat.ne_of_lt hb')]
      exact (hf b hb).1
  done := by
    intro X hP hw hK hc i pins s σ H E I hf st hg
    subst hP hw hK
    obtain ⟨⟨old, he⟩, hit, hne, hle⟩ := st
    obtain ⟨f0, f1, f2, f3, f4, f5⟩ := hf it (by simp)
    have hl : i = x.cps.size := Nat.le_antisymm hle hg
    subst hl
    exact wpAny_pyNext_enum_endD (draws_str (show X.A.in1.handled = none from I.ok.hd hc) it x t) he hit fun h' eb => ⟨rfl, I.turned (t' := s.toks) (fun b o hb q => eb b o hb q) f0 f1 f3 f4 f5⟩
  self := fun A i s Q E st h => let ⟨⟨_, he⟩, _⟩ := st; wpAny_pyIter_enum he h
theorem pi_enumS {X : Cx} {e : Expr} {ta : TA} {p pos tpos : Pos} {elts : List Expr} {kk : Nat} (hg : Gl X "enumerate") (hm : X.mg "enumerate" = none) (ha : PA X [e] ta) (hs : starEach [e] X.env = [(false, eval e X.env)] := by rfl) :
    PI X (.Tuple elts kk tpos) (.Call (.Name "enumerate" p) [e] [] pos) (fun σ H R => ta σ H fun vs H1 => ∃ x, vs = [.str x] ∧ R (IteS x) H1) := by
  refine ⟨fun pins s σ H R I h => ?_⟩
  refine Call_ (ld_blt I hg hm boot_enumerate (PyProof.Rows.callWith_type1 (thn (ha.run pos pins s σ H _ I h) fun us s1 ⟨vs, H1, I1, r1, q1⟩ => ?_) hs rfl))
  obtain ⟨x, ex, q⟩ := q1
  subst ex
  cases r1 with
  | cons r rr =>
    cases rr
    obtain ⟨t, rfl⟩ := r
    refine call_enumerate_str fun h' he hit hsz hk => wpAny_pyIter_enum he ?_
    have I2 : Inv X pins σ H1 { s1 with heap := h' } := I1.kept (t' := s1.toks) hk
    refine ⟨s1.heap.objs.size + 1, [s1.heap.objs.size + 1, s1.heap.objs.size], _, _, H1, rfl, I2, turn_enumS x t (s1.heap.objs.size + 1) s1.heap.objs.size, ⟨⟨.none, he⟩, hit, Nat.succ_ne_self _, Nat.zero_le _⟩, fun b hb => ?_, q⟩
    have e' : b = s1.heap.objs.size + 1 ∨ b = s1.heap.objs.size := by simpa using hb
    have hle : s1.heap.objs.size ≤ b := by
      rcases e' with z | z
      · rw [z]; exact Nat.le_add_right _ _
      · rw [z]; exact Nat.le_refl _
    exact I1.fpOk hle (I1.hok.fresh hle)
theorem it_enumS {Y : DX} {s : DSt} {a : Expr} {elts : List Expr} {kk : Nat} {p pos tpos : Pos} {x : List Nat} (T : Bis Y.X.mg) (hg : Gl Y.X "enumerate") (ha : EvP Y s a (pu x)) (hs : starEach [a] Y.X.env = [(false, eval a Y.X.env)] := by rfl) : EvIt Y s (.Tuple elts kk tpos) (.Call (.Name "enumerate" p) [a] [] pos) (enumD (x.map fun c => [c])) :=
  ⟨_, pi_enumS hg (T.no _ (by decide)) (pa_cons pe_we pa_nil hs) hs, fun F0 σ H F R e0 S k => (ha F0 σ H F e0 S).mono fun v H' ⟨F', e1, ev, S'⟩ =>
    ⟨toStr x, by rw [show v = V.str (toStr x) from ev], k _ _ F' e1 S' fun i H2 F2 e2 e3 => ⟨fun y hy => by
      unfold enumD at hy
      rw [List.getElem?_mapIdx, List.getElem?_map] at hy
      cases q : x[i]? with
      | none => rw [q] at hy; cases hy
      | some c =>
        rw [q] at hy
        cases hy
        have hl : i < (toStr x).cps.size := by
          have := (List.getElem?_eq_some_iff.mp q).1
          simpa [toStr] using this
        refine ⟨hl, fun v H3 ⟨t, c', ev, ht, eh, hc⟩ => .inr ⟨t, _, ht, eh, ev, fun F3 e4 hs3 => ?_⟩⟩
        have e9 : c' = c := by
          have : x[i]? = some c' := by simpa [toStr] using hc
          rw [q] at this
          cases this
          rfl
        subst e9
        exact ⟨t, _, _, ev, hs3, rfl, rfl⟩, fun hl => by
      show (toStr x).cps.size ≤ i
      unfold enumD at hl
      simpa [toStr] using hl⟩⟩⟩
end Sp
set_option maxHeartbeats 4000000
/-! Sp: expressions run to what is wanted of their data. -/
namespace Sp
open PySem L2
open PySem.W (Datum DatumOrd SomeDatum)
/-! tests of the text's shape, decided by the outermost sign alone -/
def noStar : Expr → Bool
  | .Starred .. => false
  | _ => true
def noSup : Expr → Bool
  | .Call (.Name ..) .. => false
  | _ => true
theorem star_c {e : Expr} {es : List Expr} {env : Env} (h : noStar e = true) : starEach (e :: es) env = (false, eval e env) :: starEach es env := by
  cases e <;> first | rfl | cases h
theorem star_1 {e : Expr} {env : Env} (h : noStar e = true) : starEach [e] env = [(false, eval e env)] := star_c h
theorem star_2 {a b : Expr} {env : Env} (h : noStar a = true) (h2 : noStar b = true) : starEach [a, b] env = [(false, eval a env), (false, eval b env)] := by rw [star_c h, star_c h2]; rfl
theorem star_any {pos : Pos} {env : Env} : ∀ {es : List Expr}, es.all noStar = true → (backTo pos (starEach es env)).any (·.1) = false
  | [], _ => rfl
  | e :: es, h => by
    rw [List.all_cons, Bool.and_eq_true] at h
    rw [star_c h.1]
    show (false || (backTo pos (starEach es env)).any (·.1)) = false
    rw [star_any h.2]; rfl
theorem ab_ok {o : Expr} {m : Str} {env : Env} {x : Sem Value} (h : noSup o = true) : attributeBase o m env x = x := by
  cases o with
  | Call f es ks p => cases f <;> first | rfl | cases h
  | _ => rfl
theorem few_1 {e : Expr} {pos : Pos} {env : Env} (h : noStar e = true) : ((backTo pos (starEach [e] env)).all (fun x => !x.1) && (backToKw pos (keywordEach [] env)).all (fun x => x.1.isSome)
      && decide (([e] : List Expr).length + ([] : List Keyword).length + (if ([] : List Keyword).isEmpty then 0 else 1) < 30)) = true := by rw [star_1 h]; rfl
theorem mx1 {X : Cx} {o : Expr} {m : Str} {apos : Pos} {e : Expr} {pos : Pos} (h1 : noSup o = true) (h2 : noStar e = true) (h3 : (apos.endLine == pos.line) = true) : Mx1 X o m apos e pos := ⟨ab_ok h1, few_1 h2, h3, star_1 h2⟩
theorem mx0 {X : Cx} {o : Expr} {m : Str} {apos : Pos} {pos : Pos} (h1 : noSup o = true) (h3 : (apos.endLine == pos.line) = true) : Mx0 X o m apos pos := ⟨ab_ok h1, h3⟩
/-! member words with the instance of the general rule -/
def inL {α : Type} [DecidableEq α] (x : α) (xs : List α) : Bool := decide (x ∈ xs)
def niL {α : Type} [DecidableEq α] (x : α) (xs : List α) : Bool := decide (x ∉ xs)
def erL {α : Type} [DecidableEq α] (xs : List α) (x : α) : List α := xs.erase x
theorem inL_iff {α : Type} [DecidableEq α] {x : α} {xs : List α} : (inL x xs = true) = (x ∈ xs) := by simp [inL]
theorem inL_no {α : Type} [DecidableEq α] {x : α} {xs : List α} : (inL x xs = false) = ¬ x ∈ xs := by simp [inL]
theorem niL_iff {α : Type} [DecidableEq α] {x : α} {xs : List α} : (niL x xs = true) = ¬ x ∈ xs := by simp [niL]
theorem niL_no {α : Type} [DecidableEq α] {x : α} {xs : List α} : (niL x xs = false) = (x ∈ xs) := by simp [niL]
/-- the state stays; W k: the data found are k -/
def EvC (Y : DX) (s : DSt) (e : Expr) {α : Type} [Enc α] (W : (α → Prop) → Prop) : Prop := ∀ k : α → Prop, W k → Ev Y s e fun A s' => ∃ x, A = pu x ∧ s' = s ∧ k x
/-- read as a list -/
def EvL (Y : DX) (s : DSt) (e : Expr) {α : Type} [Enc α] (W : (List α → Prop) → Prop) : Prop := ∀ k : List α → Prop, W k → Ev Y s e fun A s' => ∃ xs, DL Y s A xs ∧ s' = s ∧ k xs
/-- read as a dict -/
def EvD (Y : DX) (s : DSt) (e : Expr) {κ ν : Type} [Kk κ] [Enc ν] (W : (List (κ × ν) → Prop) → Prop) : Prop := ∀ k : List (κ × ν) → Prop, W k → Ev Y s e fun A s' => ∃ m, DF Y s A m ∧ s' = s ∧ k m
/-- a test -/
def EvT (Y : DX) (s : DSt) (c : Expr) (W : (Bool → Prop) → Prop) : Prop := ∀ k : Bool → Prop, W k → Et Y s c fun b s' => s' = s ∧ k b
/-- a test in and, or -/
def EvW (Y : DX) (s : DSt) (c : Expr) (W : (Bool → Prop) → Prop) : Prop := ∀ k : Bool → Prop, W k → Ew Y s c fun b s' => s' = s ∧ k b
/-- an operator's sides -/
def EvK (Y : DX) (s : DSt) (op : CmpOp) (a b : Expr) (W : (Bool → Prop) → Prop) : Prop := ∀ k : Bool → Prop, W k → Cmp Y s op a b fun c s' => s' = s ∧ k c
section
variable {Y : DX} {s : DSt} {e a b c d o : Expr} {es : List Expr} {pos p apos : Pos} {α β γ : Type} [Enc α] [Enc β] [Enc γ]
theorem EvC.pp {W : (α → Prop) → Prop} {x : α} (h : EvC Y s e W) (w : W (fun y => y = x)) : EvP Y s e (pu x) :=
  .of ((h _ w).mono fun A s' ⟨y, ea, es, ey⟩ => ⟨by rw [ea, ey], es⟩)
theorem EvT.pp {W : (Bool → Prop) → Prop} {x : Bool} (h : EvT Y s e W) (w : W (fun y => y = x)) : EtP Y s e x :=
  .of ((h _ w).mono fun b s' ⟨es, ey⟩ => ⟨ey, es⟩)
/-- to wish for all of it -/
theorem EvC.q {W : (α → Prop) → Prop} {k : α → Prop} {Q : Pv → DSt → Prop} (h : EvC Y s e W) (w : W k) (q : ∀ x, k x → Q (pu x) s) : Ev Y s e Q :=
  (h k w).mono fun A s' ⟨x, ea, es, kx⟩ => by subst ea es; exact q x kx
theorem EvL.q {W : (List α → Prop) → Prop} {k : List α → Prop} {Q : Pv → DSt → Prop} (h : EvL Y s e W) (w : W k) (q : ∀ A xs, DL Y s A xs → k xs → Q A s) : Ev Y s e Q :=
  (h k w).mono fun A s' ⟨x, ea, es, kx⟩ => by subst es; exact q A x ea kx
theorem EvD.q {κ ν : Type} [Kk κ] [Enc ν] {W : (List (κ × ν) → Prop) → Prop} {k : List (κ × ν) → Prop} {Q : Pv → DSt → Prop} (h : EvD Y s e W) (w : W k) (q : ∀ A m, DF Y s A m → k m → Q A s) : Ev Y s e Q :=
  (h k w).mono fun A s' ⟨x, ea, es, kx⟩ => by subst es; exact q A x ea kx
theorem EvT.q {W : (Bool → Prop) → Prop} {k : Bool → Prop} {Q : Bool → DSt → Prop} (h : EvT Y s e W) (w : W k) (q : ∀ x, k x → Q x s) : Et Y s e Q :=
  (h k w).mono fun b s' ⟨es, kx⟩ => by subst es; exact q b kx
theorem EvK.q {op : CmpOp} {W : (Bool → Prop) → Prop} {k : Bool → Prop} {Q : Bool → DSt → Prop} (h : EvK Y s op a b W) (w : W k) (q : ∀ x, k x → Q x s) : Cmp Y s op a b Q :=
  (h k w).mono fun b s' ⟨es, kx⟩ => by subst es; exact q b kx
/-! leaves -/
theorem c_of {x : α} (h : EvP Y s e (pu x)) : EvC Y s e fun k => k x := fun k w => .of h ⟨x, rfl, rfl, w⟩
theorem c_v {x : Str} {y : α} (i : Nat) (hN : Y.X.N[i]? = some x) (hA : s.ρ[i]? = some (some (pu y))) (hv : Vis Y.X.env.scope x := by first | exact .inl rfl | exact .inr (.inl rfl) | exact .inr (.inr rfl)) (hd : (x == ("__debug__" : Str)) = false := by decide) (hcd : (x == ("__classdict__" : Str)) = false := by decide) :
    EvC Y s (.Name x pos) fun k => k y := c_of (evp_v i hN hA hv hd hcd)
theorem c_int {i : Int} {j : Nat} : EvC Y s (.Constant (.int i) j pos) fun k => k i := c_of evp_int
theorem c_bl {i : Bool} {j : Nat} : EvC Y s (.Constant (.bool i) j pos) fun k => k i := c_of evp_bl
theorem c_tx {x : Str} {j : Nat} : EvC Y s (.Constant (.str x) j pos) fun k => k (tx x) := c_of evp_tx
theorem c_none {j : Nat} : EvC Y s (.Constant .none j pos) fun k => k (Option.none : Option α) := c_of evp_none
theorem c_unit {j : Nat} : EvC Y s (.Constant .none j pos) fun k => k () := c_of evp_non
theorem c_l {W : (List α → Prop) → Prop} (h : EvC Y s e W) : EvL Y s e W := fun k w => h.q w fun x kx => ⟨x, .pu, rfl, kx⟩
theorem c_d {κ ν : Type} [DecidableEq κ] [Kk κ] [Enc κ] [KkV κ] [Enc ν] {W : (Dct κ ν → Prop) → Prop} (h : EvC Y s e W) : EvD Y s e fun k => W fun m => k m.kvs := fun k w => h.q w fun x kx => ⟨x.kvs, .pu, rfl, kx⟩
theorem l_own {x : Str} {xs : List α} {q : Addr} (i g : Nat) (hN : Y.X.N[i]? = some x) (hρ : s.ρ[i]? = some (some (raw (.ref q)))) (hg : s.gs[g]? = some (q, lstc xs)) (hv : Vis Y.X.env.scope x := by first | exact .inl rfl | exact .inr (.inl rfl) | exact .inr (.inr rfl)) (hd : (x == ("__debug__" : Str)) = false := by decide) (hcd : (x == ("__classdict__" : Str)) = false := by decide) :
    EvL Y s (.Name x pos) fun k => k xs := fun k w => .of (evp_v i hN hρ hv hd hcd) ⟨xs, DL.own g hg, rfl, w⟩
theorem d_own {κ ν : Type} [DecidableEq κ] [Kk κ] [Enc κ] [KkV κ] [Enc ν] {x : Str} {m : List (κ × ν)} {q : Addr} (i g : Nat) (hN : Y.X.N[i]? = some x) (hρ : s.ρ[i]? = some (some (raw (.ref q)))) (hg : s.gs[g]? = some (q, dctc m)) (hv : Vis Y.X.env.scope x := by first | exact .inl rfl | exact .inr (.inl rfl) | exact .inr (.inr rfl)) (hd : (x == ("__debug__" : Str)) = false := by decide) (hcd : (x == ("__classdict__" : Str)) = false := by decide) :
    EvD Y s (.Name x pos) fun k => k m := fun k w => .of (evp_v i hN hρ hv hd hcd) ⟨m, DF.own g hg, rfl, w⟩
theorem c_inl {W : (α → Prop) → Prop} (h : EvC Y s e W) : EvC Y s e fun k => W fun x => k (Sum.inl x : α ⊕ β) := fun k w => h.q w fun x kx => ⟨Sum.inl x, rfl, rfl, kx⟩
theorem c_inr {W : (β → Prop) → Prop} (h : EvC Y s e W) : EvC Y s e fun k => W fun x => k (Sum.inr x : α ⊕ β) := fun k w => h.q w fun x kx => ⟨Sum.inr x, rfl, rfl, kx⟩
theorem c_some {W : (α → Prop) → Prop} (h : EvC Y s e W) : EvC Y s e fun k => W fun x => k (Option.some x) := fun k w => h.q w fun x kx => ⟨Option.some x, rfl, rfl, kx⟩
/-! ints -/
section
variable {Wa Wb Wc : (Int → Prop) → Prop}
theorem c_add (ha : EvC Y s a Wa) (hb : EvC Y s b Wb) : EvC Y s (.BinOp a .Add b pos) fun k => Wa fun i => Wb fun j => k (i + j) := fun k w =>
  ev_ints0 (f := fun i j => i + j) (pe_op op_add pe_we pe_we) (fun _ _ _ _ => rfl) (ha.q w fun i w => ⟨i, rfl, hb.q w fun j w => ⟨j, rfl, _, rfl, rfl, w⟩⟩)
theorem c_sub (ha : EvC Y s a Wa) (hb : EvC Y s b Wb) : EvC Y s (.BinOp a .Sub b pos) fun k => Wa fun i => Wb fun j => k (i - j) := fun k w =>
  ev_ints0 (f := fun i j => i - j) (pe_op op_sub pe_we pe_we) (fun _ _ _ _ => rfl) (ha.q w fun i w => ⟨i, rfl, hb.q w fun j w => ⟨j, rfl, _, rfl, rfl, w⟩⟩)
theorem c_mul (ha : EvC Y s a Wa) (hb : EvC Y s b Wb) : EvC Y s (.BinOp a .Mult b pos) fun k => Wa fun i => Wb fun j => CMul i j ∧ k (i * j) := fun k w =>
  ev_ints (f := fun i j => i * j) (pe_op op_mul pe_we pe_we) (fun _ _ _ _ => rfl) (ha.q w fun i w => ⟨i, rfl, hb.q w fun j ⟨w1, w⟩ => ⟨j, rfl, w1, _, rfl, rfl, w⟩⟩)
theorem c_mod (ha : EvC Y s a Wa) (hb : EvC Y s b Wb) : EvC Y s (.BinOp a .Mod b pos) fun k => Wa fun i => Wb fun j => 0 < j ∧ k (i % j) := fun k w =>
  ev_ints (C := fun _ j => 0 < j) (f := fun i j => i % j) (pe_op op_mod pe_we pe_we) (fun _ _ _ _ => rfl) (ha.q w fun i w => ⟨i, rfl, hb.q w fun j ⟨w1, w⟩ => ⟨j, rfl, w1, _, rfl, rfl, w⟩⟩)
theorem c_fdiv (ha : EvC Y s a Wa) (hb : EvC Y s b Wb) : EvC Y s (.BinOp a .FloorDiv b pos) fun k => Wa fun i => Wb fun j => CDiv i j ∧ k (i / j) := fun k w =>
  ev_ints (f := fun i j => i / j) (pe_op op_fdiv pe_we pe_we) (fun _ _ _ _ => rfl) (ha.q w fun i w => ⟨i, rfl, hb.q w fun j ⟨w1, w⟩ => ⟨j, rfl, w1, _, rfl, rfl, w⟩⟩)
theorem c_pow (ha : EvC Y s a Wa) (hb : EvC Y s b Wb) : EvC Y s (.BinOp a .Pow b pos) fun k => Wa fun i => Wb fun j => CPow i j ∧ k (i ^ j.toNat) := fun k w =>
  ev_ints (f := fun i j => i ^ j.toNat) (pe_op op_pow pe_we pe_we) (fun _ _ _ _ => rfl) (ha.q w fun i w => ⟨i, rfl, hb.q w fun j ⟨w1, w⟩ => ⟨j, rfl, w1, _, rfl, rfl, w⟩⟩)
theorem c_neg (ha : EvC Y s a Wa) : EvC Y s (.UnaryOp .USub a pos) fun k => Wa fun i => k (-i) := fun k w =>
  ev1 (r := fun v H Q => rU (fun i => .int (-i)) v H Q) (pe_un un_neg pe_we) (ha.q w fun i w F0 σ H F v e0 S r => ⟨i, r, pu (-i), s, F, e0, rfl, S, _, rfl, rfl, w⟩)
/-! comparisons -/
theorem k_lt (ha : EvC Y s a Wa) (hb : EvC Y s b Wb) : EvK Y s .Lt a b fun k => Wa fun i => Wb fun j => k (decide (i < j)) := fun k w =>
  cmp_of op_lt (ha.q w fun i w => hb.q w fun j w => ⟨_, ⟨rfl, w⟩, fun σ H F v u Q S r1 r2 q => ⟨i, j, r1, r2, q⟩⟩)
theorem k_le (ha : EvC Y s a Wa) (hb : EvC Y s b Wb) : EvK Y s .LtE a b fun k => Wa fun i => Wb fun j => k (decide (i ≤ j)) := fun k w =>
  cmp_of op_le (ha.q w fun i w => hb.q w fun j w => ⟨_, ⟨rfl, w⟩, fun σ H F v u Q S r1 r2 q => ⟨i, j, r1, r2, q⟩⟩)
theorem k_gt (ha : EvC Y s a Wa) (hb : EvC Y s b Wb) : EvK Y s .Gt a b fun k => Wa fun i => Wb fun j => k (decide (j < i)) := fun k w =>
  cmp_of op_gt (ha.q w fun i w => hb.q w fun j w => ⟨_, ⟨rfl, w⟩, fun σ H F v u Q S r1 r2 q => ⟨i, j, r1, r2, q⟩⟩)
theorem k_ge (ha : EvC Y s a Wa) (hb : EvC Y s b Wb) : EvK Y s .GtE a b fun k => Wa fun i => Wb fun j => k (decide (j ≤ i)) := fun k w =>
  cmp_of op_ge (ha.q w fun i w => hb.q w fun j w => ⟨_, ⟨rfl, w⟩, fun σ H F v u Q S r1 r2 q => ⟨i, j, r1, r2, q⟩⟩)
end
section
variable {δ : Type} [DecidableEq δ] [Enc δ] [Datum δ] [Dat δ] {Wa Wb : (δ → Prop) → Prop}
theorem k_eq (ok : YOk Y) (ha : EvC Y s a Wa) (hb : EvC Y s b Wb) (hd : Datum.depth δ ≤ 60 := by decide) : EvK Y s .Eq a b fun k => Wa fun i => Wb fun j => k (decide (i = j)) := fun k w =>
  cmp_of (op_eqT (α := δ) ok.room.units hd) (ha.q w fun i w => hb.q w fun j w => ⟨_, ⟨rfl, w⟩, fun σ H F v u Q S r1 r2 q => ⟨i, j, DA.pu σ H F v S r1, DA.pu σ H F u S r2, q⟩⟩)
theorem k_ne (ok : YOk Y) (ha : EvC Y s a Wa) (hb : EvC Y s b Wb) (hd : Datum.depth δ ≤ 60 := by decide) : EvK Y s .NotEq a b fun k => Wa fun i => Wb fun j => k (decide (i ≠ j)) := fun k w =>
  cmp_of (op_neT (α := δ) ok.room.units hd) (ha.q w fun i w => hb.q w fun j w => ⟨_, ⟨rfl, w⟩, fun σ H F v u Q S r1 r2 q => ⟨i, j, DA.pu σ H F v S r1, DA.pu σ H F u S r2, q⟩⟩)
theorem k_eqL {Wa Wb : (List δ → Prop) → Prop} (ok : YOk Y) (ha : EvL Y s a Wa) (hb : EvL Y s b Wb) (hd : Datum.depth (List δ) ≤ 60 := by decide) : EvK Y s .Eq a b fun k => Wa fun i => Wb fun j => k (decide (i = j)) := fun k w =>
  cmp_of (op_eqT (α := List δ) ok.room.units hd) (ha.q w fun A i hA w => hb.q w fun B j hB w => ⟨_, ⟨rfl, w⟩, fun σ H F v u Q S r1 r2 q => ⟨i, j, hA.da σ H F v S r1, hB.da σ H F u S r2, q⟩⟩)
theorem k_neL {Wa Wb : (List δ → Prop) → Prop} (ok : YOk Y) (ha : EvL Y s a Wa) (hb : EvL Y s b Wb) (hd : Datum.depth (List δ) ≤ 60 := by decide) : EvK Y s .NotEq a b fun k => Wa fun i => Wb fun j => k (decide (i ≠ j)) := fun k w =>
  cmp_of (op_neT (α := List δ) ok.room.units hd) (ha.q w fun A i hA w => hb.q w fun B j hB w => ⟨_, ⟨rfl, w⟩, fun σ H F v u Q S r1 r2 q => ⟨i, j, hA.da σ H F v S r1, hB.da σ H F u S r2, q⟩⟩)
theorem k_in {Wb : (List δ → Prop) → Prop} (ok : YOk Y) (ha : EvC Y s a Wa) (hb : EvL Y s b Wb) (hd : Datum.depth δ ≤ 60 := by decide) : EvK Y s .In a b fun k => Wa fun x => Wb fun xs => k (inL x xs) := fun k w =>
  cmp_of (op_inT (α := δ) ok.room.units hd) (ha.q w fun i w => hb.q w fun B j hB w => ⟨_, ⟨rfl, w⟩, fun σ H F v u Q S r1 r2 q => ⟨i, j, DA.pu σ H F v S r1, hB.da σ H F u S r2, q⟩⟩)
theorem k_nin {Wb : (List δ → Prop) → Prop} (ok : YOk Y) (ha : EvC Y s a Wa) (hb : EvL Y s b Wb) (hd : Datum.depth δ ≤ 60 := by decide) : EvK Y s .NotIn a b fun k => Wa fun x => Wb fun xs => k (niL x xs) := fun k w =>
  cmp_of (op_ninT (α := δ) ok.room.units hd) (ha.q w fun i w => hb.q w fun B j hB w => ⟨_, ⟨rfl, w⟩, fun σ H F v u Q S r1 r2 q => ⟨i, j, DA.pu σ H F v S r1, hB.da σ H F u S r2, q⟩⟩)
theorem k_inH {Wb : (Tup δ → Prop) → Prop} (ok : YOk Y) (ha : EvC Y s a Wa) (hb : EvC Y s b Wb) (hd : Datum.depth δ ≤ 60 := by decide) : EvK Y s .In a b fun k => Wa fun x => Wb fun xs => k (inL x xs.items) := fun k w =>
  cmp_of (op_inH (α := δ) ok.room.units hd) (ha.q w fun i w => hb.q w fun j w => ⟨_, ⟨rfl, w⟩, fun σ H F v u Q S r1 r2 q => ⟨i, j, DA.pu σ H F v S r1, Enc.mono (α := Tup δ) r2 S.ext, q⟩⟩)
theorem k_ninH {Wb : (Tup δ → Prop) → Prop} (ok : YOk Y) (ha : EvC Y s a Wa) (hb : EvC Y s b Wb) (hd : Datum.depth δ ≤ 60 := by decide) : EvK Y s .NotIn a b fun k => Wa fun x => Wb fun xs => k (niL x xs.items) := fun k w =>
  cmp_of (op_ninH (α := δ) ok.room.units hd) (ha.q w fun i w => hb.q w fun j w => ⟨_, ⟨rfl, w⟩, fun σ H F v u Q S r1 r2 q => ⟨i, j, DA.pu σ H F v S r1, Enc.mono (α := Tup δ) r2 S.ext, q⟩⟩)
end
section
variable {δ : Type} [DecidableEq δ] [Enc δ] [DatumOrd δ] [Dat δ] {Wa Wb : (δ → Prop) → Prop}
theorem k_ltD (ok : YOk Y) (ha : EvC Y s a Wa) (hb : EvC Y s b Wb) (hd : Datum.depth δ ≤ 60 := by decide) : EvK Y s .Lt a b fun k => Wa fun x => Wb fun y => k (DatumOrd.lt x y) := fun k w =>
  cmp_of (op_ltD (α := δ) ok.room.units hd) (ha.q w fun i w => hb.q w fun j w => ⟨_, ⟨rfl, w⟩, fun σ H F v u Q S r1 r2 q => ⟨i, j, DA.pu σ H F v S r1, DA.pu σ H F u S r2, q⟩⟩)
theorem k_gtD (ok : YOk Y) (ha : EvC Y s a Wa) (hb : EvC Y s b Wb) (hd : Datum.depth δ ≤ 60 := by decide) : EvK Y s .Gt a b fun k => Wa fun x => Wb fun y => k (DatumOrd.lt y x) := fun k w =>
  cmp_of (op_gtD (α := δ) ok.room.units hd) (ha.q w fun i w => hb.q w fun j w => ⟨_, ⟨rfl, w⟩, fun σ H F v u Q S r1 r2 q => ⟨i, j, DA.pu σ H F v S r1, DA.pu σ H F u S r2, q⟩⟩)
theorem k_leD (ok : YOk Y) (ha : EvC Y s a Wa) (hb : EvC Y s b Wb) (hd : Datum.depth δ ≤ 60 := by decide) : EvK Y s .LtE a b fun k => Wa fun x => Wb fun y => k (!DatumOrd.lt y x) := fun k w =>
  cmp_of (op_leD (α := δ) ok.room.units hd) (ha.q w fun i w => hb.q w fun j w => ⟨_, ⟨rfl, w⟩, fun σ H F v u Q S r1 r2 q => ⟨i, j, DA.pu σ H F v S r1, DA.pu σ H F u S r2, q⟩⟩)
theorem k_geD (ok : YOk Y) (ha : EvC Y s a Wa) (hb : EvC Y s b Wb) (hd : Datum.depth δ ≤ 60 := by decide) : EvK Y s .GtE a b fun k => Wa fun x => Wb fun y => k (!DatumOrd.lt x y) := fun k w =>
  cmp_of (op_geD (α := δ) ok.room.units hd) (ha.q w fun i w => hb.q w fun j w => ⟨_, ⟨rfl, w⟩, fun σ H F v u Q S r1 r2 q => ⟨i, j, DA.pu σ H F v S r1, DA.pu σ H F u S r2, q⟩⟩)
end
section
variable {Wa Wb : (List Nat → Prop) → Prop}
theorem k_inS (ha : EvC Y s a Wa) (hb : EvC Y s b Wb) : EvK Y s .In a b fun k => Wa fun x => Wb fun y => k (tin x y) := fun k w =>
  cmp_of op_in_str (ha.q w fun x w => hb.q w fun y w => ⟨_, ⟨rfl, w⟩, fun σ H F v u Q S r1 r2 q => ⟨toStr x, toStr y, r1, r2, by rw [toStr_len]; exact q⟩⟩)
theorem k_ninS (ha : EvC Y s a Wa) (hb : EvC Y s b Wb) : EvK Y s .NotIn a b fun k => Wa fun x => Wb fun y => k (!tin x y) := fun k w =>
  cmp_of op_notin_str (ha.q w fun x w => hb.q w fun y w => ⟨_, ⟨rfl, w⟩, fun σ H F v u Q S r1 r2 q => ⟨toStr x, toStr y, r1, r2, by rw [toStr_len]; exact q⟩⟩)
end
section
variable [NoN α] {W : (Option α → Prop) → Prop} {j : Nat}
theorem k_isN (ha : EvC Y s a W) : EvK Y s .Is a (.Constant .none j p) fun k => W fun x => k x.isNone := fun k w =>
  cmp_of op_isN (ha.q w fun x w => .of evp_non ⟨_, ⟨rfl, w⟩, fun σ H F v u Q S r1 r2 q => ⟨r2, by rw [optNone (α := α) r1]; exact q⟩⟩)
theorem k_notN (ha : EvC Y s a W) : EvK Y s .IsNot a (.Constant .none j p) fun k => W fun x => k x.isSome := fun k w =>
  cmp_of op_notN (ha.q w fun x w => .of evp_non ⟨_, ⟨rfl, w⟩, fun σ H F v u Q S r1 r2 q => ⟨r2, by
    rw [optNone (α := α) r1]
    cases x <;> exact q⟩⟩)
end
section
variable {κ ν : Type} [DecidableEq κ] [Kk κ] [Enc κ] [KkV κ] [Enc ν] {Wa : (κ → Prop) → Prop} {Wb : (List (κ × ν) → Prop) → Prop}
theorem k_inD (ok : YOk Y) (ha : EvC Y s a Wa) (hb : EvD Y s b Wb) : EvK Y s .In a b fun k => Wa fun x => Wb fun m => k (dhas m x) := fun kk w F0 σ H F e0 S => by
  refine .of (pc_din (by have := ok.room.units; omega) pe_we pe_we) ?_
  refine ((ha _ w) F0 σ H F e0 S).mono fun u H1 ⟨_, _, F1, e1, r1, S1, k, ea, es, w⟩ => ?_
  subst ea es
  refine ((hb _ w) F1 σ H1 F1 (.refl _) S1).mono fun v H2 ⟨B, _, F2, e2, r2, S2, m, hB, es, w⟩ => ?_
  subst es
  obtain ⟨q, zs, ev, hr, hz⟩ := hB σ H2 F2 v S2 r2
  refine ⟨q, valV zs (Kk.key k), ev, .inl ⟨zs, Kk.key k, hr, KkV.of r1, rfl⟩, _, _, F2, rfl, e1.trans e2, S2, rfl, ?_⟩
  unfold dhas at w
  rcases kvs_val hz k with ⟨h1, h2⟩ | ⟨w', y', h1, h2, h3⟩ <;> rw [h1] at w <;> rw [h2] <;> exact w
theorem k_ninD (ok : YOk Y) (ha : EvC Y s a Wa) (hb : EvD Y s b Wb) : EvK Y s .NotIn a b fun k => Wa fun x => Wb fun m => k (!dhas m x) := fun kk w F0 σ H F e0 S => by
  refine .of (pc_dnotin (by have := ok.room.units; omega) pe_we pe_we) ?_
  refine ((ha _ w) F0 σ H F e0 S).mono fun u H1 ⟨_, _, F1, e1, r1, S1, k, ea, es, w⟩ => ?_
  subst ea es
  refine ((hb _ w) F1 σ H1 F1 (.refl _) S1).mono fun v H2 ⟨B, _, F2, e2, r2, S2, m, hB, es, w⟩ => ?_
  subst es
  obtain ⟨q, zs, ev, hr, hz⟩ := hB σ H2 F2 v S2 r2
  refine ⟨q, valV zs (Kk.key k), ev, .inl ⟨zs, Kk.key k, hr, KkV.of r1, rfl⟩, _, _, F2, rfl, e1.trans e2, S2, rfl, ?_⟩
  unfold dhas at w
  rcases kvs_val hz k with ⟨h1, h2⟩ | ⟨w', y', h1, h2, h3⟩ <;> rw [h1] at w <;> rw [h2] <;> exact w
end
theorem c_k {op : CmpOp} {W : (Bool → Prop) → Prop} (h : EvK Y s op a b W) (h1 : behindInMarks op b = false := by first | exact nobehind _ (by decide) (by decide) | rfl) : EvC Y s (.Compare a [op] [b] pos) W := fun k w =>
  ev_cmp (h.q w fun x kx => ⟨x, rfl, rfl, kx⟩) h1
theorem t_k {op : CmpOp} {W : (Bool → Prop) → Prop} (h : EvK Y s op a b W) (h1 : behindInMarks op b = false := by first | exact nobehind _ (by decide) (by decide) | rfl) : EvT Y s (.Compare a [op] [b] pos) W := fun k w =>
  et_cmp (h.q w fun x kx => ⟨rfl, kx⟩) h1
/-! truth -/
theorem t_v {W : (Bool → Prop) → Prop} (he : ∀ whole, isTrue e Y.X.env whole = (do let v ← whole; standAt e.pos; holding [v] (truthy v))) (h : EvC Y s e W) : EvT Y s e W := fun k w =>
  et_val he (h.q w fun x kx => ⟨x, rfl, rfl, kx⟩)
theorem t_not {W : (Bool → Prop) → Prop} (h : EvT Y s a W) : EvT Y s (.UnaryOp .Not a pos) fun k => W fun x => k (!x) := fun k w =>
  et_not (h.q w fun x kx => ⟨rfl, kx⟩)
theorem c_not {W : (Bool → Prop) → Prop} (h : EvC Y s a W) : EvC Y s (.UnaryOp .Not a pos) fun k => W fun x => k (!x) := fun k w =>
  ev1 (r := fun v H Q => ∃ c, v = .bl c ∧ Q (.bl (!c)) H) (pe_not pe_we) (h.q w fun x kx F0 σ H F v e0 S r => ⟨x, r, _, _, F, e0, rfl, S, _, rfl, rfl, kx⟩)
theorem t_w {W : (Bool → Prop) → Prop} (h : EvW Y s a W) : EvT Y s a W := fun k w => et_w (h k w)
theorem w_and1 {W : (Bool → Prop) → Prop} (h : EvT Y s a W) : EvW Y s (.BoolOp .And [a] pos) W := fun k w => ew_and1 (h k w)
theorem w_or1 {W : (Bool → Prop) → Prop} (h : EvT Y s a W) : EvW Y s (.BoolOp .Or [a] pos) W := fun k w => ew_or1 (h k w)
/-- both ways told -/
theorem w_and {W V : (Bool → Prop) → Prop} {r : List Expr} (h : EvT Y s a W) (hr : EvW Y s (.BoolOp .And (b :: r) pos) V) : EvW Y s (.BoolOp .And (a :: b :: r) pos) fun k => W fun x => (x = true → V k) ∧ (x = false → k false) := fun k w =>
  ew_and (h.q w fun x kx => by
    cases x with
    | true => exact hr k (kx.1 rfl)
    | false => exact ⟨rfl, kx.2 rfl⟩)
theorem w_or {W V : (Bool → Prop) → Prop} {r : List Expr} (h : EvT Y s a W) (hr : EvW Y s (.BoolOp .Or (b :: r) pos) V) : EvW Y s (.BoolOp .Or (a :: b :: r) pos) fun k => W fun x => (x = true → k true) ∧ (x = false → V k) := fun k w =>
  ew_or (h.q w fun x kx => by
    cases x with
    | false => exact hr k (kx.2 rfl)
    | true => exact ⟨rfl, kx.1 rfl⟩)
/-- the second a plain datum -/
theorem w_andP {W V : (Bool → Prop) → Prop} {r : List Expr} {y : Bool} (h : EvT Y s a W) (hr : EvW Y s (.BoolOp .And (b :: r) pos) V) : EvW Y s (.BoolOp .And (a :: b :: r) pos) fun k => W fun x => (x = true → V fun z => z = y) ∧ k (x && y) := fun k w =>
  ew_and (h.q w fun x kx => by
    cases x with
    | true => exact (hr _ (kx.1 rfl)).to fun z s' ⟨e1, e2⟩ => ⟨e1, by rw [e2]; exact kx.2⟩
    | false => exact ⟨rfl, kx.2⟩)
theorem w_orP {W V : (Bool → Prop) → Prop} {r : List Expr} {y : Bool} (h : EvT Y s a W) (hr : EvW Y s (.BoolOp .Or (b :: r) pos) V) : EvW Y s (.BoolOp .Or (a :: b :: r) pos) fun k => W fun x => (x = false → V fun z => z = y) ∧ k (x || y) := fun k w =>
  ew_or (h.q w fun x kx => by
    cases x with
    | false => exact (hr _ (kx.1 rfl)).to fun z s' ⟨e1, e2⟩ => ⟨e1, by rw [e2]; exact kx.2⟩
    | true => exact ⟨rfl, kx.2⟩)
/-- and, or as values of truth -/
theorem c_b1 {op : BoolOp} {W : (Bool → Prop) → Prop} (h : EvC Y s a W) : EvC Y s (.BoolOp op [a] pos) W := fun k w F0 σ H F e0 S => .of (pe_one pe_we) (h k w F0 σ H F e0 S)
theorem Po.ext {σ : St} {F0 F1 : Hp} {Q : Pv → DSt → Prop} {v : V} {H : Hp} (h : Po Y σ F1 Q v H) (e : Ext F0 F1) : Po Y σ F0 Q v H := by
  obtain ⟨A, s', F', e1, r, S', q⟩ := h
  exact ⟨A, s', F', e.trans e1, r, S', q⟩
theorem c_and {W V : (Bool → Prop) → Prop} {r : List Expr} (h : EvC Y s a W) (hr : EvC Y s (.BoolOp .And (b :: r) pos) V) : EvC Y s (.BoolOp .And (a :: b :: r) pos) fun k => W fun x => (x = true → V k) ∧ (x = false → k false) := fun k w F0 σ H F e0 S => by
  refine .of (pe_and pe_we pe_we) ((h _ w F0 σ H F e0 S).mono fun v H1 ⟨_, _, F1, e1, r1, S1, x, ea, es, kx⟩ => ?_)
  subst ea es
  refine ⟨x, r1, ?_⟩
  cases x with
  | true => exact ((hr k (kx.1 rfl)) F1 σ H1 F1 (.refl _) S1).mono fun c H2 z => Po.ext z e1
  | false => exact ⟨_, _, F1, e1, rfl, S1, false, rfl, rfl, kx.2 rfl⟩
theorem c_or {W V : (Bool → Prop) → Prop} {r : List Expr} (h : EvC Y s a W) (hr : EvC Y s (.BoolOp .Or (b :: r) pos) V) : EvC Y s (.BoolOp .Or (a :: b :: r) pos) fun k => W fun x => (x = true → k true) ∧ (x = false → V k) := fun k w F0 σ H F e0 S => by
  refine .of (pe_or pe_we pe_we) ((h _ w F0 σ H F e0 S).mono fun v H1 ⟨_, _, F1, e1, r1, S1, x, ea, es, kx⟩ => ?_)
  subst ea es
  refine ⟨x, r1, ?_⟩
  cases x with
  | false => exact ((hr k (kx.2 rfl)) F1 σ H1 F1 (.refl _) S1).mono fun c H2 z => Po.ext z e1
  | true => exact ⟨_, _, F1, e1, rfl, S1, true, rfl, rfl, kx.1 rfl⟩
theorem c_andP {W V : (Bool → Prop) → Prop} {r : List Expr} {y : Bool} (h : EvC Y s a W) (hr : EvC Y s (.BoolOp .And (b :: r) pos) V) : EvC Y s (.BoolOp .And (a :: b :: r) pos) fun k => W fun x => (x = true → V fun z => z = y) ∧ k (x && y) := fun k w F0 σ H F e0 S => by
  refine .of (pe_and pe_we pe_we) ((h _ w F0 σ H F e0 S).mono fun v H1 ⟨_, _, F1, e1, r1, S1, x, ea, es, kx⟩ => ?_)
  subst ea es
  refine ⟨x, r1, ?_⟩
  cases x with
  | true => exact ((hr _ (kx.1 rfl)) F1 σ H1 F1 (.refl _) S1).mono fun c H2 ⟨_, _, F2, e2, r2, S2, z, ea, es, ez⟩ => ⟨_, _, F2, e1.trans e2, r2, S2, z, ea, es, by rw [ez]; exact kx.2⟩
  | false => exact ⟨_, _, F1, e1, rfl, S1, false, rfl, rfl, kx.2⟩
theorem c_orP {W V : (Bool → Prop) → Prop} {r : List Expr} {y : Bool} (h : EvC Y s a W) (hr : EvC Y s (.BoolOp .Or (b :: r) pos) V) : EvC Y s (.BoolOp .Or (a :: b :: r) pos) fun k => W fun x => (x = false → V fun z => z = y) ∧ k (x || y) := fun k w F0 σ H F e0 S => by
  refine .of (pe_or pe_we pe_we) ((h _ w F0 σ H F e0 S).mono fun v H1 ⟨_, _, F1, e1, r1, S1, x, ea, es, kx⟩ => ?_)
  subst ea es
  refine ⟨x, r1, ?_⟩
  cases x with
  | false => exact ((hr _ (kx.1 rfl)) F1 σ H1 F1 (.refl _) S1).mono fun c H2 ⟨_, _, F2, e2, r2, S2, z, ea, es, ez⟩ => ⟨_, _, F2, e1.trans e2, r2, S2, z, ea, es, by rw [ez]; exact kx.2⟩
  | true => exact ⟨_, _, F1, e1, rfl, S1, true, rfl, rfl, kx.2⟩
/-- a if c else b -/
theorem c_if {W : (Bool → Prop) → Prop} {Wa Wb : (α → Prop) → Prop} (h : EvT Y s c W) (ha : EvC Y s a Wa) (hb : EvC Y s b Wb) : EvC Y s (.IfExp c a b pos) fun k => W fun x => (x = true → Wa k) ∧ (x = false → Wb k) := fun k w =>
  ev_if (h.q w fun x kx => by
    cases x with
    | true => exact ha k (kx.1 rfl)
    | false => exact hb k (kx.2 rfl))
theorem c_ifP {W : (Bool → Prop) → Prop} {Wa Wb : (α → Prop) → Prop} {u w : α} (h : EvT Y s c W) (ha : EvC Y s a Wa) (hb : EvC Y s b Wb) : EvC Y s (.IfExp c a b pos) fun k => W fun x => (x = true → Wa fun z => z = u) ∧ (x = false → Wb fun z => z = w) ∧ k (if x = true then u else w) := fun k w =>
  ev_if (h.q w fun x kx => by
    cases x with
    | true => exact (ha _ (kx.1 rfl)).mono fun A s' ⟨z, e1, e2, e3⟩ => ⟨z, e1, e2, by rw [e3]; exact kx.2.2⟩
    | false => exact (hb _ (kx.2.1 rfl)).mono fun A s' ⟨z, e1, e2, e3⟩ => ⟨z, e1, e2, by rw [e3]; exact kx.2.2⟩)
end
end Sp
set_option maxHeartbeats 4000000
/-! Sp: displays, lengths, places, slices, methods of texts and lists, to what is wanted. -/
namespace Sp
open PySem L2
open PySem.W (Datum DatumOrd SomeDatum)
/-! plain words -/
instance : Inhabited (Tup α) := ⟨⟨[]⟩⟩
instance [Inhabited α] [Inhabited β] [Inhabited γ] : Inhabited (T3 α β γ) := ⟨⟨default, default, default⟩⟩
instance [Inhabited α] [Inhabited β] [Inhabited γ] [Inhabited δ] : Inhabited (T4 α β γ δ) := ⟨⟨default, default, default, default⟩⟩
instance : Inhabited (Dct κ ν) := ⟨⟨[]⟩⟩
/-- a place that is there -/
def inR (n : Nat) (i : Int) : Prop := -(n : Int) ≤ i ∧ i < n
/-- the place i of n, from either end -/
def plc (n : Nat) (i : Int) : Nat := (if 0 ≤ i then i else i + n).toNat
def ixD {α : Type} [Inhabited α] (xs : List α) (i : Int) : α := xs.getD (plc xs.length i) default
def ixS (x : Txt) (i : Int) : Txt := [x.getD (plc x.length i) 0]
theorem ixN_plc {n : Nat} {i : Int} (h : inR n i) : ixN n i = some (plc n i) ∧ plc n i < n := by
  unfold inR at h
  unfold ixN plc
  by_cases h0 : 0 ≤ i
  · rw [if_pos h0, if_pos h.2, if_pos h0]
    exact ⟨rfl, by omega⟩
  · rw [if_neg h0, if_pos h.1, if_neg h0]
    exact ⟨rfl, by omega⟩
theorem at_ix {α : Type} [Inhabited α] {xs : List α} {i : Int} (h : inR xs.length i) : atI xs i = some (ixD xs i) := by
  obtain ⟨e, l⟩ := ixN_plc h
  unfold atI ixD
  rw [e]
  show xs[plc xs.length i]? = _
  rw [List.getElem?_eq_getElem l, List.getD_eq_getElem?_getD, List.getElem?_eq_getElem l]
  rfl
theorem at_ixS {x : Txt} {i : Int} (h : inR x.length i) : atI x i = some (x.getD (plc x.length i) 0) := by
  obtain ⟨e, l⟩ := ixN_plc h
  unfold atI
  rw [e]
  show x[plc x.length i]? = _
  rw [List.getElem?_eq_getElem l, List.getD_eq_getElem?_getD, List.getElem?_eq_getElem l]
  rfl
/-- what stands at k -/
def dgt {κ ν : Type} [DecidableEq κ] [Inhabited ν] (m : List (κ × ν)) (k : κ) : ν := (dval m k).getD default
/-! items of displays, arguments -/
def EvS (Y : DX) (s : DSt) (es : List Expr) {α : Type} [Enc α] (W : (List α → Prop) → Prop) : Prop := ∀ k : List α → Prop, W k → Evs Y s es fun As s' => ∃ xs : List α, As = xs.map pu ∧ xs.length = es.length ∧ s' = s ∧ k xs
/-- arguments of several types -/
class Ags (τ : Type) where
  pvs : τ → List Pv
instance : Ags Unit := ⟨fun _ => []⟩
instance {α τ : Type} [Enc α] [Ags τ] : Ags (α × τ) := ⟨fun t => pu t.1 :: Ags.pvs t.2⟩
def EvA (Y : DX) (s : DSt) (es : List Expr) {τ : Type} [Ags τ] (W : (τ → Prop) → Prop) : Prop := ∀ k : τ → Prop, W k → Evs Y s es fun As s' => ∃ t : τ, As = Ags.pvs t ∧ s' = s ∧ k t
section
variable {Y : DX} {s : DSt} {e a b c d o : Expr} {es : List Expr} {pos p apos : Pos} {α β γ δ : Type} [Enc α] [Enc β] [Enc γ] [Enc δ]
theorem s_nil : EvS Y s [] (α := α) fun k => k [] := fun k w => evs_nil ⟨[], rfl, rfl, rfl, w⟩
theorem s_cons {W : (α → Prop) → Prop} {V : (List α → Prop) → Prop} (h : EvC Y s e W) (hs : EvS Y s es V) (he : starEach (e :: es) Y.X.env = (false, eval e Y.X.env) :: starEach es Y.X.env := by exact star_c rfl) : EvS Y s (e :: es) fun k => W fun x => V fun xs => k (x :: xs) := fun k w =>
  evs_cons (h.q w fun x w => (hs _ w).mono fun As s' ⟨xs, e1, e2, e3, w⟩ => ⟨x :: xs, by rw [e1]; rfl, by simp [e2], e3, w⟩) he
theorem a_nil : EvA Y s [] (τ := Unit) fun k => k () := fun k w => evs_nil ⟨(), rfl, rfl, w⟩
theorem a_cons {τ : Type} [Ags τ] {W : (α → Prop) → Prop} {V : (τ → Prop) → Prop} (h : EvC Y s e W) (hs : EvA Y s es V) (he : starEach (e :: es) Y.X.env = (false, eval e Y.X.env) :: starEach es Y.X.env := by exact star_c rfl) : EvA Y s (e :: es) (τ := α × τ) fun k => W fun x => V fun t => k (x, t) := fun k w =>
  evs_cons (h.q w fun x w => (hs _ w).mono fun As s' ⟨t, e1, e3, w⟩ => ⟨(x, t), by rw [e1]; rfl, e3, w⟩) he
theorem c_list {W : (List α → Prop) → Prop} (h : EvS Y s es W) (hl : es.length ≤ sizeLine := by show _ ≤ sizeLine; decide) : EvC Y s (.List es pos) W := fun k w =>
  ev_list ((h k w).mono fun As s' ⟨xs, e1, e2, e3, w⟩ => ⟨xs, e1, by omega, xs, rfl, e3, w⟩)
theorem c_tupH {W : (List α → Prop) → Prop} {kk : Nat} (h : EvS Y s es W) (hl : es.length ≤ sizeLine := by show _ ≤ sizeLine; decide) : EvC Y s (.Tuple es kk pos) fun k => W fun xs => k (PySem.W.Tup.mk xs) := fun k w =>
  ev_tupH ((h _ w).mono fun As s' ⟨xs, e1, e2, e3, w⟩ => ⟨xs, e1, by omega, PySem.W.Tup.mk xs, rfl, e3, w⟩)
theorem c_tup2 {W : (α × β × Unit → Prop) → Prop} {kk : Nat} (h : EvA Y s es W) : EvC Y s (.Tuple es kk pos) fun k => W fun t => k (t.1, t.2.1) := fun k w =>
  ev_tup2 ((h _ w).mono fun As s' ⟨t, e1, e3, w⟩ => ⟨t.1, t.2.1, e1, _, rfl, e3, w⟩)
theorem c_tup3 {W : (α × β × γ × Unit → Prop) → Prop} {kk : Nat} (h : EvA Y s es W) : EvC Y s (.Tuple es kk pos) fun k => W fun t => k (PySem.W.T3.mk t.1 t.2.1 t.2.2.1) := fun k w =>
  ev_tup3 ((h _ w).mono fun As s' ⟨t, e1, e3, w⟩ => ⟨t.1, t.2.1, t.2.2.1, e1, _, rfl, e3, w⟩)
/-! len -/
theorem c_lenL {W : (List α → Prop) → Prop} (T : Bis Y.X.mg) (hg : Gl Y.X "len") (ha : EvL Y s a W) (he : starEach [a] Y.X.env = (false, eval a Y.X.env) :: starEach [] Y.X.env := by exact star_c rfl) : EvC Y s (.Call (.Name "len" p) [a] [] pos) fun k => W fun xs => k (xs.length : Int) := fun k w =>
  ev_B1 call_len hg (T.no _ (by decide)) boot_len (ha.q w fun A xs hA w F0 σ H F v e0 S r => by
    obtain ⟨q, vs, h1, h2, h3⟩ := hA σ H F v S r
    exact ⟨v, vs.length, rfl, by subst h1; exact .inl ⟨vs, h2, rfl⟩, pu (xs.length : Int), s, F, e0, by rw [Paired.length h3]; rfl, S, _, rfl, rfl, w⟩) (by decide) (by decide) he
theorem c_lenH {W : (Tup α → Prop) → Prop} (T : Bis Y.X.mg) (hg : Gl Y.X "len") (ha : EvC Y s a W) (he : starEach [a] Y.X.env = (false, eval a Y.X.env) :: starEach [] Y.X.env := by exact star_c rfl) : EvC Y s (.Call (.Name "len" p) [a] [] pos) fun k => W fun xs => k (xs.items.length : Int) := fun k w =>
  ev_B1 call_len_seq hg (T.no _ (by decide)) boot_len (ha.q w fun xs w F0 σ H F v e0 S r => by
    obtain ⟨q, vs, h1, h2, h3⟩ := r
    exact ⟨q, vs, by rw [h1], .inr (sqT_ext h2 S.ext), pu (xs.items.length : Int), s, F, e0, by rw [Paired.length h3]; rfl, S, _, rfl, rfl, w⟩) (by decide) (by decide) he
theorem c_lenS {W : (List Nat → Prop) → Prop} (T : Bis Y.X.mg) (hg : Gl Y.X "len") (ha : EvC Y s a W) (he : starEach [a] Y.X.env = (false, eval a Y.X.env) :: starEach [] Y.X.env := by exact star_c rfl) : EvC Y s (.Call (.Name "len" p) [a] [] pos) fun k => W fun x => x.length ≤ sizeLine ∧ k (x.length : Int) := fun k w =>
  ev_B1 call_len_str hg (T.no _ (by decide)) boot_len (ha.q w fun x w F0 σ H F v e0 S r => by
    exact ⟨toStr x, by rw [show v = V.str (toStr x) from r], by rw [toStr_len]; exact w.1, pu (x.length : Int), s, F, e0, by rw [toStr_len]; rfl, S, _, rfl, rfl, w.2⟩) (by decide) (by decide) he
theorem call_lenF {X : Cx} : CallR X (.builtin "len") (fun xs H Q => ∃ a kvs, xs = [V.ref a] ∧ Rd H a (.dK kvs) ∧ Q (.int kvs.length) H) := by
  intro pins s σ H xs us Q I r h
  obtain ⟨a, kvs, rfl, ha, q⟩ := h
  obtain ⟨u, rfl, ru⟩ := vals1 r
  cases ru
  exact d_len I ha fun t s' I' => ⟨.int kvs.length, H, I', ⟨t, rfl⟩, q⟩
theorem c_lenD {κ ν : Type} [DecidableEq κ] [Kk κ] [Enc κ] [KkV κ] [Enc ν] {W : (List (κ × ν) → Prop) → Prop} (T : Bis Y.X.mg) (hg : Gl Y.X "len") (ha : EvD Y s a W) (he : starEach [a] Y.X.env = (false, eval a Y.X.env) :: starEach [] Y.X.env := by exact star_c rfl) : EvC Y s (.Call (.Name "len" p) [a] [] pos) fun k => W fun m => k (m.length : Int) := fun k w =>
  ev_B1 call_lenF hg (T.no _ (by decide)) boot_len (ha.q w fun A m hA w F0 σ H F v e0 S r => by
    obtain ⟨q, kvs, h1, h2, h3⟩ := hA σ H F v S r
    exact ⟨q, kvs, by rw [h1], h2, pu (m.length : Int), s, F, e0, by rw [Paired.length h3]; rfl, S, _, rfl, rfl, w⟩) (by decide) (by decide) he
/-! places -/
section
variable {Wi : (Int → Prop) → Prop}
theorem c_ixL [Inhabited α] {W : (List α → Prop) → Prop} (ha : EvL Y s a W) (hb : EvC Y s b Wi) (hs : PlainIx b := by intro _ _; rfl) : EvC Y s (.Subscript a b pos) fun k => W fun xs => Wi fun i => inR xs.length i ∧ k (ixD xs i) := fun k w =>
  ev2 (pe_ix ix_list pe_we pe_we hs) (ha.q w fun A xs hA w => hb.q w fun i w F0 σ H F v u e0 S rv ru => by
    obtain ⟨p, vs, h1, h2, h3⟩ := hA σ H F v S rv
    obtain ⟨y, hy, ry⟩ := atI_of h3 (at_ix w.1)
    exact ⟨p, vs, i, y, h1, ru, h2, hy, pu (ixD xs i), s, F, e0, ry, S, _, rfl, rfl, w.2⟩)
theorem c_ixH [Inhabited α] {W : (Tup α → Prop) → Prop} (ha : EvC Y s a W) (hb : EvC Y s b Wi) (hs : PlainIx b := by intro _ _; rfl) : EvC Y s (.Subscript a b pos) fun k => W fun xs => Wi fun i => inR xs.items.length i ∧ k (ixD xs.items i) := fun k w =>
  ev2 (pe_ix ix_tup pe_we pe_we hs) (ha.q w fun xs w => hb.q w fun i w F0 σ H F v u e0 S rv ru => by
    obtain ⟨p, vs, h1, h2, h3⟩ := rv
    obtain ⟨y, hy, ry⟩ := atI_of h3 (at_ix w.1)
    exact ⟨p, vs, i, y, h1, ru, sqT_ext h2 S.ext, hy, pu (ixD xs.items i), s, F, e0, ry, S, _, rfl, rfl, w.2⟩)
theorem c_ixS {W : (List Nat → Prop) → Prop} (ha : EvC Y s a W) (hb : EvC Y s b Wi) (hs : PlainIx b := by intro _ _; rfl) : EvC Y s (.Subscript a b pos) fun k => W fun x => Wi fun i => x.length ≤ sizeLine ∧ inR x.length i ∧ k (ixS x i) := fun k w =>
  ev2 (pe_ix ix_str pe_we pe_we hs) (ha.q w fun x w => hb.q w fun i w F0 σ H F v u e0 S rv ru =>
    ⟨toStr x, i, _, rv, ru, by rw [toStr_len]; exact w.1, by rw [toStr_cps]; exact at_ixS w.2.1, pu (ixS x i), s, F, e0, rfl, S, _, rfl, rfl, w.2.2⟩)
/-- tuples' places by constants -/
theorem c_fst {W : (α × β → Prop) → Prop} {j : Nat} {p2 : Pos} (ha : EvC Y s a W) (hs : PlainIx (.Constant (.int 0) j p2) := by intro _ _; rfl) : EvC Y s (.Subscript a (.Constant (.int 0) j p2) pos) fun k => W fun x => k x.1 := fun k w =>
  ev_fst hs (ha.q w fun x w => ⟨x, rfl, x.1, rfl, rfl, w⟩)
theorem c_snd {W : (α × β → Prop) → Prop} {j : Nat} {p2 : Pos} (ha : EvC Y s a W) (hs : PlainIx (.Constant (.int 1) j p2) := by intro _ _; rfl) : EvC Y s (.Subscript a (.Constant (.int 1) j p2) pos) fun k => W fun x => k x.2 := fun k w =>
  ev_snd hs (ha.q w fun x w => ⟨x, rfl, x.2, rfl, rfl, w⟩)
theorem c_t3a {W : (T3 α β γ → Prop) → Prop} {j : Nat} {p2 : Pos} (ha : EvC Y s a W) (hs : PlainIx (.Constant (.int 0) j p2) := by intro _ _; rfl) : EvC Y s (.Subscript a (.Constant (.int 0) j p2) pos) fun k => W fun x => k x.a := fun k w =>
  ev2 (pe_ix ix_tup pe_we pe_we hs) (ha.q w fun x w => .of evp_int fun F0 σ H F v u e0 S rv ru => by
    obtain ⟨p, z1, z2, z3, h1, h2, h3, h4, h5⟩ := rv
    exact ⟨p, [z1, z2, z3], 0, z1, h1, ru, sqT_ext h2 S.ext, rfl, pu x.a, s, F, e0, h3, S, _, rfl, rfl, w⟩)
theorem c_t3b {W : (T3 α β γ → Prop) → Prop} {j : Nat} {p2 : Pos} (ha : EvC Y s a W) (hs : PlainIx (.Constant (.int 1) j p2) := by intro _ _; rfl) : EvC Y s (.Subscript a (.Constant (.int 1) j p2) pos) fun k => W fun x => k x.b := fun k w =>
  ev2 (pe_ix ix_tup pe_we pe_we hs) (ha.q w fun x w => .of evp_int fun F0 σ H F v u e0 S rv ru => by
    obtain ⟨p, z1, z2, z3, h1, h2, h3, h4, h5⟩ := rv
    exact ⟨p, [z1, z2, z3], 1, z2, h1, ru, sqT_ext h2 S.ext, rfl, pu x.b, s, F, e0, h4, S, _, rfl, rfl, w⟩)
theorem c_t3c {W : (T3 α β γ → Prop) → Prop} {j : Nat} {p2 : Pos} (ha : EvC Y s a W) (hs : PlainIx (.Constant (.int 2) j p2) := by intro _ _; rfl) : EvC Y s (.Subscript a (.Constant (.int 2) j p2) pos) fun k => W fun x => k x.c := fun k w =>
  ev2 (pe_ix ix_tup pe_we pe_we hs) (ha.q w fun x w => .of evp_int fun F0 σ H F v u e0 S rv ru => by
    obtain ⟨p, z1, z2, z3, h1, h2, h3, h4, h5⟩ := rv
    exact ⟨p, [z1, z2, z3], 2, z3, h1, ru, sqT_ext h2 S.ext, rfl, pu x.c, s, F, e0, h5, S, _, rfl, rfl, w⟩)
end
/-! slices -/
def EvOC (Y : DX) (s : DSt) (e : Option Expr) (W : (Option Int → Prop) → Prop) : Prop := ∀ k : Option Int → Prop, W k → ∀ F0 σ H F, Ext F0 F → Sta Y s σ H F →
  WO Y.X e σ H fun o H' => ∃ F', Ext F0 F' ∧ Sta Y s σ H' F' ∧ k o
theorem o_no : EvOC Y s none fun k => k none := fun k w F0 σ H F e0 S => ⟨fun pins s1 I => (po_none).run pins s1 σ H _ I ⟨F, e0, S, w⟩⟩
theorem o_at {W : (Int → Prop) → Prop} (h : EvC Y s e W) : EvOC Y s (some e) fun k => W fun i => k (some i) := fun k w F0 σ H F e0 S => ⟨fun pins s1 I =>
  (po_some pe_we).run pins s1 σ H _ I (((h _ w) F0 σ H F e0 S).mono fun v H' ⟨_, _, F', e1, r, S', i, ea, es, w⟩ => by subst ea es; exact ⟨i, r, F', e1, S', w⟩)⟩
theorem ev_slC {Q : Pv → DSt → Prop} {r : V → Option Int → Option Int → Hp → VK → Prop} {lo hi : Option Expr} {p2 : Pos} {Wl Wh : (Option Int → Prop) → Prop} (hr : SlR Y.X r) (hl : EvOC Y s lo Wl) (hh : EvOC Y s hi Wh)
    (h : Ev Y s a fun A s1 => s1 = s ∧ ∃ K : Option Int → Option Int → Prop, (Wl fun i => Wh fun j => K i j) ∧ ∀ i j, K i j → ∀ F0 σ H F v, Ext F0 F → Sta Y s σ H F → A.rep Y.X.K F v → r v i j H (Po Y σ F0 Q)) : Ev Y s (.Subscript a (.Slice lo hi none p2) pos) Q := fun F0 σ H F e0 S => by
  refine .of (pe_slice hr pe_we po_wo po_wo) ?_
  refine (h F σ H F (.refl _) S).mono fun v H1 ⟨A, s1, F1, e1, r1, S1, es, K, w, q⟩ => ?_
  subst es
  refine ⟨fun pins sh I => ?_⟩
  refine thn ((hl _ w F1 σ H1 F1 (.refl _) S1).run pins sh I) fun u s2 ⟨o, H2, I2, p2, F2, e2, S2, w⟩ => ⟨o, H2, I2, p2, ?_⟩
  refine ⟨fun pins' s1' I' => ?_⟩
  refine thn ((hh _ w F2 σ H2 F2 (.refl _) S2).run pins' s1' I') fun u' s3 ⟨o', H3, I3, p3, F3, e3, S3, w⟩ => ⟨o', H3, I3, p3, ?_⟩
  exact q _ _ w F0 σ H3 F3 v (((e0.trans e1).trans e2).trans e3) S3 (A.mono r1 (e2.trans e3))
section
variable {lo hi : Option Expr} {p2 : Pos} {Wl Wh : (Option Int → Prop) → Prop}
theorem c_slS {W : (List Nat → Prop) → Prop} (ha : EvC Y s a W) (hl : EvOC Y s lo Wl) (hh : EvOC Y s hi Wh) : EvC Y s (.Subscript a (.Slice lo hi none p2) pos) fun k => W fun x => Wl fun i => Wh fun j => x.length ≤ sizeLine ∧ k (cutD x i j) := fun k w =>
  ev_slC sl_str hl hh (ha.q w fun x w => ⟨rfl, _, w, fun i j w F0 σ H F v e0 S r => ⟨toStr x, r, by rw [toStr_len]; exact w.1, pu (cutD x i j), s, F, e0, by rw [toStr_cut]; rfl, S, _, rfl, rfl, w.2⟩⟩)
theorem po_listC {σ : St} {F0 : Hp} {H F : Hp} {vs : List V} {xs : List α} {k : List α → Prop} (e0 : Ext F0 F) (S : Sta Y s σ H F) (r : Vs Y.X.K F vs xs) (w : k xs) : ∀ p, H p = none → Po Y σ F0 (fun A s' => ∃ x, A = pu x ∧ s' = s ∧ k x) (.ref p) (upd H p (.lst vs)) :=
  po_list e0 S r ⟨xs, rfl, rfl, w⟩
theorem c_slL {W : (List α → Prop) → Prop} (ha : EvL Y s a W) (hl : EvOC Y s lo Wl) (hh : EvOC Y s hi Wh) : EvC Y s (.Subscript a (.Slice lo hi none p2) pos) fun k => W fun x => Wl fun i => Wh fun j => k (cutD x i j) := fun k w =>
  ev_slC sl_list hl hh (ha.q w fun A x hA w => ⟨rfl, _, w, fun i j w F0 σ H F v e0 S r => by
    obtain ⟨q, zs, h1, h2, h3⟩ := hA σ H F v S r
    exact ⟨q, zs, h1, h2, fun l hl => po_listC e0 S (cut_vs h3 i j) w l hl⟩⟩)
theorem c_slH {W : (Tup α → Prop) → Prop} (ha : EvC Y s a W) (hl : EvOC Y s lo Wl) (hh : EvOC Y s hi Wh) : EvC Y s (.Subscript a (.Slice lo hi none p2) pos) fun k => W fun x => Wl fun i => Wh fun j => k (PySem.W.Tup.mk (cutD x.items i j)) := fun k w =>
  ev_slC sl_tupA hl hh (ha.q w fun x w => ⟨rfl, _, w, fun i j w F0 σ H F v e0 S ⟨q, zs, h1, h2, h3⟩ => ⟨q, zs, h1, sqT_ext h2 S.ext, fun kk => ⟨pu (PySem.W.Tup.mk (cutD x.items i j)), s, F, e0, ⟨q, zs, rfl, h2, by have := cut_vs h3 i j; rw [cutV_all kk] at this; exact this⟩, S, _, rfl, rfl, w⟩,
    fun _ l hl => ⟨pu (PySem.W.Tup.mk (cutD x.items i j)), s, upd F l (.tup (cutV zs i j)), e0.trans (Ext.grow (S.free hl)), ⟨l, _, rfl, .of upd_same, (cut_vs h3 i j).mono (Ext.grow (S.free hl))⟩, S.newF hl rfl, _, rfl, rfl, w⟩⟩⟩)
end
/-! + and * of texts, lists, tuples -/
theorem c_catS {Wa Wb : (List Nat → Prop) → Prop} (ha : EvC Y s a Wa) (hb : EvC Y s b Wb) : EvC Y s (.BinOp a .Add b pos) fun k => Wa fun x => Wb fun y => x.length + y.length ≤ sizeLine ∧ k (x ++ y) := fun k w =>
  ev2 (pe_op op_add_str pe_we pe_we) (ha.q w fun x w => hb.q w fun y w F0 σ H F v u e0 S r1 r2 => ⟨toStr x, toStr y, r1, r2, by rw [toStr_len, toStr_len]; exact w.1, pu (x ++ y), s, F, e0, by rw [toStr_app]; rfl, S, _, rfl, rfl, w.2⟩)
theorem c_catL {Wa Wb : (List α → Prop) → Prop} (ha : EvL Y s a Wa) (hb : EvL Y s b Wb) : EvC Y s (.BinOp a .Add b pos) fun k => Wa fun x => Wb fun y => x.length + y.length ≤ sizeLine ∧ k (x ++ y) := fun k w =>
  ev2 (pe_op op_catF pe_we pe_we) (ha.q w fun A x hA w => hb.q w fun B y hB w F0 σ H F v u e0 S r1 r2 => by
    obtain ⟨p, zs, h1, h2, h3⟩ := hA σ H F v S r1
    obtain ⟨q, ws, g1, g2, g3⟩ := hB σ H F u S r2
    have l1 : zs.length = x.length := Paired.length h3
    have l2 : ws.length = y.length := Paired.length g3
    exact ⟨p, q, zs, ws, h1, g1, h2, g2, by omega, fun l hl => po_listC e0 S (prd_app h3 g3) w.2 l hl⟩)
theorem c_catH {Wa Wb : (Tup α → Prop) → Prop} (ha : EvC Y s a Wa) (hb : EvC Y s b Wb) : EvC Y s (.BinOp a .Add b pos) fun k => Wa fun x => Wb fun y => x.items.length + y.items.length ≤ sizeLine ∧ k (PySem.W.Tup.mk (x.items ++ y.items)) := fun k w =>
  ev2 (pe_op op_catA pe_we pe_we) (ha.q w fun x w => hb.q w fun y w F0 σ H F v u e0 S ⟨p, zs, h1, h2, h3⟩ ⟨q, ws, g1, g2, g3⟩ => by
    have l1 : zs.length = x.items.length := Paired.length h3
    have l2 : ws.length = y.items.length := Paired.length g3
    refine ⟨p, q, zs, ws, h1, g1, sqT_ext h2 S.ext, sqT_ext g2 S.ext, by omega, fun e => ?_, fun _ e => ?_, fun _ _ l hl => ?_⟩
    · have : x.items = [] := List.eq_nil_of_length_eq_zero (by rw [← l1, e]; rfl)
      exact ⟨pu (PySem.W.Tup.mk (x.items ++ y.items)), s, F, e0, ⟨q, ws, rfl, g2, by rw [this]; exact g3⟩, S, _, rfl, rfl, w.2⟩
    · have : y.items = [] := List.eq_nil_of_length_eq_zero (by rw [← l2, e]; rfl)
      exact ⟨pu (PySem.W.Tup.mk (x.items ++ y.items)), s, F, e0, ⟨p, zs, rfl, h2, by rw [this, List.append_nil]; exact h3⟩, S, _, rfl, rfl, w.2⟩
    · exact ⟨pu (PySem.W.Tup.mk (x.items ++ y.items)), s, upd F l (.tup (zs ++ ws)), e0.trans (Ext.grow (S.free hl)), ⟨l, _, rfl, .of upd_same, Vs.mono (α := α) (prd_app h3 g3) (Ext.grow (S.free hl))⟩, S.newF hl rfl, _, rfl, rfl, w.2⟩)
/-- a text so often -/
def repS (x : Txt) (n : Int) : Txt := (List.replicate n.toNat x).flatten
theorem repS_cps (x : Txt) (m : Nat) : (List.replicate m (toStr x).cps).foldl (· ++ ·) #[] = (List.replicate m x).flatten.toArray := by
  have h : ∀ (l : List (Array Nat)) (acc : Array Nat), l.foldl (· ++ ·) acc = acc ++ (l.map Array.toList).flatten.toArray := by
    intro l
    induction l with
    | nil => intro acc; simp
    | cons y l ih => intro acc; rw [List.foldl_cons, ih]; cases y; simp
  rw [h]
  simp [toStr]
theorem op_mulS {X : Cx} : OpR X (binaryOp .Mult) (fun x y H Q => ∃ (z : List Nat) (n : Int), x = .str (toStr z) ∧ y = .int n ∧ -(2 ^ 63) ≤ n ∧ z.length * n.toNat ≤ 16777216 ∧ n ≤ 16777216 ∧ Q (.str (toStr (repS z n))) H) := by
  intro pins s σ H x y v u Q I rx ry h
  obtain ⟨z, n, rfl, rfl, h1, h2, h3, q⟩ := h
  obtain ⟨t, rfl⟩ := rx
  obtain ⟨t', rfl⟩ := ry
  have zl : (toStr z).length = z.length := toStr_len z
  refine P.mul_str ?_ (fun g1 g2 => ?_) (fun g1 g2 => ?_) ?_
  · have : ¬ n ≥ 2 ^ 63 := by omega
    have : ¬ n < -(2 ^ 63 : Int) := by omega
    simp only [Bool.or_eq_false_iff, decide_eq_false_iff_not]
    exact ⟨by omega, by omega⟩
  · have hz : (z.length : Int) ≤ 16777216 := by
      have : 1 ≤ n.toNat := by omega
      have : z.length * 1 ≤ z.length * n.toNat := Nat.mul_le_mul_left _ this
      omega
    rw [zl]
    have : (16777216 : Int) ≤ (2 ^ 63 - 1) / n := by
      rw [Int.le_ediv_iff_mul_le (by omega)]
      omega
    omega
  · rw [zl]
    unfold Builtin.Str.tooLong
    rw [sizeLine_eq]
    exact decide_eq_false (by omega)
  · by_cases g : n < 1
    · rw [if_pos g]
      refine ⟨by decide, ?_⟩
      have e : repS z n = [] := by
        unfold repS
        rw [show n.toNat = 0 by omega]
        rfl
      rw [e] at q
      exact ⟨.str (toStr []), H, I.tok _, ⟨_, rfl⟩, q⟩
    · rw [if_neg g]
      by_cases g2 : (n == 1 || (toStr z).length == 0) = true
      · rw [if_pos g2]
        have e : repS z n = z := by
          unfold repS
          simp only [Bool.or_eq_true, beq_iff_eq] at g2
          rcases g2 with g2 | g2
          · rw [g2]; simp
          · rw [zl] at g2
            have : z = [] := List.eq_nil_of_length_eq_zero g2
            subst this
            simp
        rw [e] at q
        exact ⟨.str (toStr z), H, I, ⟨_, rfl⟩, q⟩
      · rw [if_neg g2]
        refine ⟨?_, ?_⟩
        · show (_ : Nat) ≤ _
          rw [repS_cps]
          have e2 : (List.replicate n.toNat z).flatten.length = n.toNat * z.length := by simp
          show (List.replicate n.toNat z).flatten.length ≤ sizeLine
          rw [e2, sizeLine_eq, Nat.mul_comm]
          exact h2
        · exact ⟨.str (toStr (repS z n)), H, I.tok _, ⟨_, by rw [repS_cps]; rfl⟩, q⟩
theorem c_mulS {Wa : (List Nat → Prop) → Prop} {Wb : (Int → Prop) → Prop} (ha : EvC Y s a Wa) (hb : EvC Y s b Wb) : EvC Y s (.BinOp a .Mult b pos) fun k => Wa fun x => Wb fun n => (-(2 ^ 63) ≤ n ∧ x.length * n.toNat ≤ 16777216 ∧ n ≤ 16777216) ∧ k (repS x n) := fun k w =>
  ev2 (pe_op op_mulS pe_we pe_we) (ha.q w fun x w => hb.q w fun n w F0 σ H F v u e0 S r1 r2 => ⟨x, n, r1, r2, w.1.1, w.1.2.1, w.1.2.2, pu (repS x n), s, F, e0, rfl, S, _, rfl, rfl, w.2⟩)
theorem vs_rep {K : Frag} {F : Hp} {vs : List V} {xs : List α} (h : Vs K F vs xs) : ∀ n : Nat, Vs K F (List.replicate n vs).flatten (List.replicate n xs).flatten
  | 0 => .nil
  | n + 1 => by
    rw [List.replicate_succ, List.replicate_succ, List.flatten_cons, List.flatten_cons]
    exact prd_app h (vs_rep h n)
/-- [..] * n -/
theorem c_repL {W : (List α → Prop) → Prop} {Wb : (Int → Prop) → Prop} {p2 : Pos} (h : EvS Y s es W) (hb : ∀ p xs, EvC Y ⟨s.ρ, (p, lstc (α := α) xs) :: s.gs⟩ b Wb) (hl : es.length ≤ sizeLine := by show _ ≤ sizeLine; decide) : EvC Y s (.BinOp (.List es p2) .Mult b pos) fun k => W fun xs => Wb fun n => (-(2 ^ 63) ≤ n ∧ n < 2 ^ 63 ∧ xs.length * n.toNat ≤ sizeLine) ∧ k (List.replicate n.toNat xs).flatten := fun k w =>
  ev2 (pe_op op_rep pe_we pe_we) (ev_listO ((h _ w).mono fun As s' ⟨xs, e1, e2, e3, w⟩ => ⟨xs, e1, by omega, fun p => by
    subst e3
    exact (hb p xs _ w).mono fun B s2 ⟨n, eb, es, w⟩ F0 σ H F v u e0 S r1 r2 => by
      subst eb es
      obtain ⟨hF, o, ho, _, vs, eo, rv⟩ := S.cell (i := 0) (p := p) (c := lstc xs) rfl
      subst eo
      have hl : vs.length = xs.length := Paired.length rv
      refine ⟨p, n, vs, r1, r2, ho, w.1.1, w.1.2.1, by rw [hl]; exact w.1.2.2, fun q hq => ?_⟩
      exact po_listC e0 (S.drop 0) (vs_rep rv _) w.2 q hq⟩))
end
end Sp
set_option maxHeartbeats 4000000
/-! Sp: methods of builtin values, calls of built-ins, to what is wanted. -/
namespace Sp
open PySem L2
open PySem.W (Datum DatumOrd SomeDatum)
section
variable {Y : DX} {s : DSt} {e a b c d o f : Expr} {es : List Expr} {pos p apos : Pos} {α β γ δ : Type} [Enc α] [Enc β] [Enc γ] [Enc δ]
/-! methods -/
theorem ev_m1C {T id : String} {name : Str} {Q : Pv → DSt → Prop} {r : V → List V → Hp → VK → Prop} (pa : PlainAttrs T) (slot : Slot T name id) (hty : typeOf (.builtin id) = pure (.type "method_descriptor")) (hm : MtR Y.X id r)
    (h : Ev Y s o fun A s1 => (∀ σ H F v, Sta Y s1 σ H F → A.rep Y.X.K F v → tyV Y.X.K T v H) ∧ Ev Y s1 e fun B s2 => ∀ F0 σ H F v u, Ext F0 F → Sta Y s2 σ H F → A.rep Y.X.K F v → B.rep Y.X.K F u → r v [u] H (Po Y σ F0 Q))
    (m : Mx1 Y.X o name apos e pos) : Ev Y s (.Call (.Attribute o name apos) [e] [] pos) Q := fun F0 σ H F e0 S => by
  refine .of (pe_bm pa slot hty hm pe_we (pa_cons pe_we pa_nil m.star) m.base m.few m.line m.star (by rfl)) ?_
  refine (h F σ H F (.refl _) S).mono fun v H1 ⟨A, s1, F1, e1, r1, S1, ht, q⟩ => ⟨ht _ _ _ _ S1 r1, ?_⟩
  refine (q F1 σ H1 F1 (.refl _) S1).mono fun u H2 ⟨B, s2, F2, e2, r2, S2, q⟩ => ?_
  exact q F0 σ H2 F2 v u ((e0.trans e1).trans e2) S2 (A.mono r1 e2) r2
theorem ev_m0C {T id : String} {name : Str} {Q : Pv → DSt → Prop} {r : V → List V → Hp → VK → Prop} (pa : PlainAttrs T) (slot : Slot T name id) (hty : typeOf (.builtin id) = pure (.type "method_descriptor")) (hm : MtR Y.X id r)
    (h : Ev Y s o fun A s1 => (∀ σ H F v, Sta Y s1 σ H F → A.rep Y.X.K F v → tyV Y.X.K T v H) ∧ ∀ F0 σ H F v, Ext F0 F → Sta Y s1 σ H F → A.rep Y.X.K F v → r v [] H (Po Y σ F0 Q))
    (m : Mx0 Y.X o name apos pos) : Ev Y s (.Call (.Attribute o name apos) [] [] pos) Q := fun F0 σ H F e0 S => by
  refine .of (pe_bm0 pa slot hty hm pe_we m.base m.line) ?_
  refine (h F σ H F (.refl _) S).mono fun v H1 ⟨A, s1, F1, e1, r1, S1, ht, q⟩ => ⟨ht _ _ _ _ S1 r1, ?_⟩
  exact q F0 σ H1 F1 v (e0.trans e1) S1 r1
structure Mx2 (X : Cx) (o : Expr) (m : Str) (apos : Pos) (e f : Expr) (pos : Pos) : Prop where
  base : attributeBase o m X.env (eval o X.env) = eval o X.env
  few : ((backTo pos (starEach [e, f] X.env)).all (fun x => !x.1) && (backToKw pos (keywordEach [] X.env)).all (fun x => x.1.isSome)
      && decide (([e, f] : List Expr).length + ([] : List Keyword).length + (if ([] : List Keyword).isEmpty then 0 else 1) < 30)) = true
  line : (apos.endLine == pos.line) = true
  star : starEach [e, f] X.env = (false, eval e X.env) :: starEach [f] X.env
  star2 : starEach [f] X.env = (false, eval f X.env) :: starEach [] X.env
theorem ev_m2C {T id : String} {name : Str} {Q : Pv → DSt → Prop} {r : V → List V → Hp → VK → Prop} (pa : PlainAttrs T) (slot : Slot T name id) (hty : typeOf (.builtin id) = pure (.type "method_descriptor")) (hm : MtR Y.X id r)
    (h : Ev Y s o fun A s1 => (∀ σ H F v, Sta Y s1 σ H F → A.rep Y.X.K F v → tyV Y.X.K T v H) ∧ Ev Y s1 e fun B s2 => Ev Y s2 f fun C s3 => ∀ F0 σ H F v u w, Ext F0 F → Sta Y s3 σ H F → A.rep Y.X.K F v → B.rep Y.X.K F u → C.rep Y.X.K F w → r v [u, w] H (Po Y σ F0 Q))
    (m : Mx2 Y.X o name apos e f pos) : Ev Y s (.Call (.Attribute o name apos) [e, f] [] pos) Q := fun F0 σ H F e0 S => by
  refine .of (pe_bm pa slot hty hm pe_we (pa_cons pe_we (pa_cons pe_we pa_nil m.star2) m.star) m.base m.few m.line m.star (by rw [m.star2]; rfl)) ?_
  refine (h F σ H F (.refl _) S).mono fun v H1 ⟨A, s1, F1, e1, r1, S1, ht, q⟩ => ⟨ht _ _ _ _ S1 r1, ?_⟩
  refine (q F1 σ H1 F1 (.refl _) S1).mono fun u H2 ⟨B, s2, F2, e2, r2, S2, q⟩ => ?_
  refine (q F2 σ H2 F2 (.refl _) S2).mono fun w H3 ⟨C, s3, F3, e3, r3, S3, q⟩ => ?_
  exact q F0 σ H3 F3 v u w (((e0.trans e1).trans e2).trans e3) S3 (A.mono r1 (e2.trans e3)) (B.mono r2 e3) r3
/-! texts -/
section
variable {Wo We Wf : (List Nat → Prop) → Prop} {Wi : (Int → Prop) → Prop}
theorem ty_txt {x : List Nat} : ∀ σ H F v, Sta Y s σ H F → (pu x).rep Y.X.K F v → tyV Y.X.K "str" v H := fun σ H F v S r => tyV_str r
def upT (x : Txt) : Txt := tx (Txt.upper (toStr x))
def loT (x : Txt) : Txt := tx (Txt.lower (toStr x))
def stripT (x : Txt) : Txt := tx (Txt.strip (toStr x))
def cntT (x y : Txt) : Int := Txt.count (toStr x) (toStr y)
def startT (x y : Txt) : Bool := Txt.startswith (toStr x) (toStr y)
def startT3 (x y : Txt) (i : Int) : Bool := Txt.startswith3 (toStr x) (toStr y) i
def endT (x y : Txt) : Bool := Txt.endswith (toStr x) (toStr y)
def rfindT (x y : Txt) : Int := Txt.rfind (toStr x) (toStr y)
def splitT (x y : Txt) : List Txt := (Txt.split (toStr x) (toStr y)).map tx
def partT (x y : Txt) : T3 Txt Txt Txt := let z := Txt.partition (toStr x) (toStr y); ⟨tx z.1, tx z.2.1, tx z.2.2⟩
/-- the first place of y in x -/
def idxT (x y : Txt) : Int := ((Builtin.Str.occurrences (toStr x) (toStr y) 0 x.length 1).headD 0 : Nat)
theorem c_upper (ho : EvC Y s o Wo) (m : Mx0 Y.X o "upper" apos pos := by exact mx0 rfl rfl) : EvC Y s (.Call (.Attribute o "upper" apos) [] [] pos) fun k => Wo fun x => x.length ≤ 5592405 ∧ k (upT x) := fun k w =>
  ev_m0C PySem.F.plainAttrs_str PySem.F.slot_str_upper PySem.F.type_str_upper mt_upper (ho.q w fun x w => ⟨ty_txt, fun F0 σ H F v e0 S r => ⟨toStr x, r, rfl, by rw [toStr_len]; exact w.1, pu (upT x), s, F, e0, (by show V.str _ = V.str _; unfold upT; rw [toStr_tx]), S, _, rfl, rfl, w.2⟩⟩) m
theorem c_lower (ho : EvC Y s o Wo) (m : Mx0 Y.X o "lower" apos pos := by exact mx0 rfl rfl) : EvC Y s (.Call (.Attribute o "lower" apos) [] [] pos) fun k => Wo fun x => x.length ≤ 5592405 ∧ k (loT x) := fun k w =>
  ev_m0C PySem.F.plainAttrs_str PySem.F.slot_str_lower PySem.F.type_str_lower mt_lower (ho.q w fun x w => ⟨ty_txt, fun F0 σ H F v e0 S r => ⟨toStr x, r, rfl, by rw [toStr_len]; exact w.1, pu (loT x), s, F, e0, (by show V.str _ = V.str _; unfold loT; rw [toStr_tx]), S, _, rfl, rfl, w.2⟩⟩) m
theorem c_strip (ho : EvC Y s o Wo) (m : Mx0 Y.X o "strip" apos pos := by exact mx0 rfl rfl) : EvC Y s (.Call (.Attribute o "strip" apos) [] [] pos) fun k => Wo fun x => x.length ≤ sizeLine ∧ k (stripT x) := fun k w =>
  ev_m0C PySem.F.plainAttrs_str PySem.F.slot_str_strip PySem.F.type_str_strip mt_strip (ho.q w fun x w => ⟨ty_txt, fun F0 σ H F v e0 S r => ⟨toStr x, r, rfl, by rw [toStr_len]; exact w.1, pu (stripT x), s, F, e0, (by show V.str _ = V.str _; unfold stripT; rw [toStr_tx]), S, _, rfl, rfl, w.2⟩⟩) m
theorem c_cntS (ho : EvC Y s o Wo) (he : EvC Y s e We) (m : Mx1 Y.X o "count" apos e pos := by exact mx1 rfl rfl rfl) : EvC Y s (.Call (.Attribute o "count" apos) [e] [] pos) fun k => Wo fun x => We fun y => k (cntT x y) := fun k w =>
  ev_m1C PySem.F.plainAttrs_str PySem.F.slot_str_count PySem.F.type_str_count mt_count (ho.q w fun x w => ⟨ty_txt, he.q w fun y w F0 σ H F v u e0 S r r2 => ⟨toStr x, toStr y, r, by rw [show u = V.str (toStr y) from r2], pu (cntT x y), s, F, e0, rfl, S, _, rfl, rfl, w⟩⟩) m
theorem c_start (ho : EvC Y s o Wo) (he : EvC Y s e We) (m : Mx1 Y.X o "startswith" apos e pos := by exact mx1 rfl rfl rfl) : EvC Y s (.Call (.Attribute o "startswith" apos) [e] [] pos) fun k => Wo fun x => We fun y => k (startT x y) := fun k w =>
  ev_m1C PySem.F.plainAttrs_str PySem.F.slot_str_startswith PySem.F.type_str_startswith mt_startswith (ho.q w fun x w => ⟨ty_txt, he.q w fun y w F0 σ H F v u e0 S r r2 => ⟨toStr x, toStr y, r, by rw [show u = V.str (toStr y) from r2], pu (startT x y), s, F, e0, rfl, S, _, rfl, rfl, w⟩⟩) m
theorem c_end (ho : EvC Y s o Wo) (he : EvC Y s e We) (m : Mx1 Y.X o "endswith" apos e pos := by exact mx1 rfl rfl rfl) : EvC Y s (.Call (.Attribute o "endswith" apos) [e] [] pos) fun k => Wo fun x => We fun y => k (endT x y) := fun k w =>
  ev_m1C PySem.F.plainAttrs_str PySem.F.slot_str_endswith PySem.F.type_str_endswith mt_endswith (ho.q w fun x w => ⟨ty_txt, he.q w fun y w F0 σ H F v u e0 S r r2 => ⟨toStr x, toStr y, r, by rw [show u = V.str (toStr y) from r2], pu (endT x y), s, F, e0, rfl, S, _, rfl, rfl, w⟩⟩) m
theorem c_rfind (ho : EvC Y s o Wo) (he : EvC Y s e We) (m : Mx1 Y.X o "rfind" apos e pos := by exact mx1 rfl rfl rfl) : EvC Y s (.Call (.Attribute o "rfind" apos) [e] [] pos) fun k => Wo fun x => We fun y => k (rfindT x y) := fun k w =>
  ev_m1C PySem.F.plainAttrs_str PySem.F.slot_str_rfind PySem.F.type_str_rfind mt_rfind (ho.q w fun x w => ⟨ty_txt, he.q w fun y w F0 σ H F v u e0 S r r2 => ⟨toStr x, toStr y, r, by rw [show u = V.str (toStr y) from r2], pu (rfindT x y), s, F, e0, rfl, S, _, rfl, rfl, w⟩⟩) m
theorem c_idxS (ho : EvC Y s o Wo) (he : EvC Y s e We) (m : Mx1 Y.X o "index" apos e pos := by exact mx1 rfl rfl rfl) : EvC Y s (.Call (.Attribute o "index" apos) [e] [] pos) fun k => Wo fun x => We fun y => tin y x = true ∧ k (idxT x y) := fun k w =>
  ev_m1C PySem.F.plainAttrs_str PySem.F.slot_str_index PySem.F.type_str_index mt_sindex (ho.q w fun x w => ⟨ty_txt, he.q w fun y w F0 σ H F v u e0 S r r2 => by
    obtain ⟨h1, w⟩ := w
    unfold tin at h1
    unfold idxT at w
    cases ho : Builtin.Str.occurrences (toStr x) (toStr y) 0 x.length 1 with
    | nil => rw [ho] at h1; cases h1
    | cons i rest =>
      rw [ho] at w
      exact ⟨toStr x, toStr y, i, rest, r, by rw [show u = V.str (toStr y) from r2], by rw [toStr_len]; exact ho, pu ((i : Nat) : Int), s, F, e0, rfl, S, _, rfl, rfl, w⟩⟩) m
theorem txts_back (ys : List Str) : ys.map V.str = ((ys.map tx).map toStr).map V.str := by
  rw [List.map_map, List.map_map]
  exact List.map_congr_left fun y _ => by show V.str y = V.str (toStr (tx y)); rw [toStr_tx]
theorem vs_strs {K : Frag} {F : Hp} : ∀ ys : List Str, Vs K F (ys.map V.str) (ys.map tx)
  | [] => .nil
  | y :: r => .cons (by show V.str y = V.str (toStr (tx y)); rw [toStr_tx]) (vs_strs r)
theorem c_split (ho : EvC Y s o Wo) (he : EvC Y s e We) (m : Mx1 Y.X o "split" apos e pos := by exact mx1 rfl rfl rfl) : EvC Y s (.Call (.Attribute o "split" apos) [e] [] pos) fun k => Wo fun x => We fun y => (y ≠ [] ∧ x.length + 2 ≤ sizeLine) ∧ k (splitT x y) := fun k w =>
  ev_m1C PySem.F.plainAttrs_str PySem.F.slot_str_split PySem.F.type_str_split mt_split (ho.q w fun x w => ⟨ty_txt, he.q w fun y w F0 σ H F v u e0 S r r2 => ⟨toStr x, toStr y, r, by rw [show u = V.str (toStr y) from r2], by
    rw [toStr_len]
    cases y with
    | nil => exact absurd rfl w.1.1
    | cons c y => rfl, by rw [toStr_len]; exact w.1.2, fun l hl => po_listC e0 S (vs_strs _) w.2 l hl⟩⟩) m
theorem c_part (ho : EvC Y s o Wo) (he : EvC Y s e We) (m : Mx1 Y.X o "partition" apos e pos := by exact mx1 rfl rfl rfl) : EvC Y s (.Call (.Attribute o "partition" apos) [e] [] pos) fun k => Wo fun x => We fun y => (y ≠ [] ∧ x.length ≤ sizeLine) ∧ k (partT x y) := fun k w =>
  ev_m1C PySem.F.plainAttrs_str PySem.F.slot_str_partition PySem.F.type_str_partition mt_partition (ho.q w fun x w => ⟨ty_txt, he.q w fun y w F0 σ H F v u e0 S r r2 => ⟨toStr x, toStr y, r, by rw [show u = V.str (toStr y) from r2], by
    rw [toStr_len]
    cases y with
    | nil => exact absurd rfl w.1.1
    | cons c y => rfl, by rw [toStr_len]; exact w.1.2, fun l hl => po_tup (A := pu (partT x y)) e0 S (fun F' p e' hs => ⟨p, _, _, _, rfl, hs, (by show V.str _ = V.str (toStr (tx _)); rw [toStr_tx]), (by show V.str _ = V.str (toStr (tx _)); rw [toStr_tx]), (by show V.str _ = V.str (toStr (tx _)); rw [toStr_tx])⟩) ⟨_, rfl, rfl, w.2⟩ l hl⟩⟩) m
theorem c_join {Wl : (List (List Nat) → Prop) → Prop} (ho : EvC Y s o Wo) (he : EvL Y s e Wl) (m : Mx1 Y.X o "join" apos e pos := by exact mx1 rfl rfl rfl) : EvC Y s (.Call (.Attribute o "join" apos) [e] [] pos) fun k => Wo fun x => Wl fun xs => lenSum xs + xs.length * x.length ≤ 16777216 ∧ k (joinT x xs) := fun k w =>
  ev_m1C PySem.F.plainAttrs_str PySem.F.slot_str_join PySem.F.type_str_join mt_join (ho.q w fun x w => ⟨ty_txt, he.q w fun B xs hB w F0 σ H F v u e0 S r r2 => by
    obtain ⟨q, zs, h1, h2, h3⟩ := hB σ H F u S r2
    rw [txts_map h3] at h2
    refine ⟨toStr x, q, xs.map toStr, r, by rw [h1], .inl h2, ?_, pu (joinT x xs), s, F, e0, by rw [toStr_join']; rfl, S, _, rfl, rfl, w.2⟩
    have e1 : (xs.map toStr).map (·.length) = xs.map List.length := by rw [List.map_map]; exact List.map_congr_left fun y _ => toStr_len y
    rw [e1, List.length_map, toStr_len]
    exact w.1⟩) m
theorem c_start3 (ho : EvC Y s o Wo) (he : EvC Y s e We) (hf : EvC Y s f Wi) (m : Mx2 Y.X o "startswith" apos e f pos := by exact ⟨rfl, rfl, rfl, rfl, rfl⟩) : EvC Y s (.Call (.Attribute o "startswith" apos) [e, f] [] pos) fun k => Wo fun x => We fun y => Wi fun i => k (startT3 x y i) := fun k w =>
  ev_m2C PySem.F.plainAttrs_str PySem.F.slot_str_startswith PySem.F.type_str_startswith mt_startswith3 (ho.q w fun x w => ⟨ty_txt, he.q w fun y w => hf.q w fun i w F0 σ H F v u z e0 S r r2 r3 => ⟨toStr x, toStr y, i, r, by rw [show u = V.str (toStr y) from r2, show z = V.int i from r3], pu (startT3 x y i), s, F, e0, rfl, S, _, rfl, rfl, w⟩⟩) m
end
/-! lists -/
section
variable {δ : Type} [DecidableEq δ] [Enc δ] [Datum δ] [Dat δ] {Wo : (List δ → Prop) → Prop} {We : (δ → Prop) → Prop}
theorem c_cntL (ok : YOk Y) (ho : EvL Y s o Wo) (he : EvC Y s e We) (m : Mx1 Y.X o "count" apos e pos := by exact mx1 rfl rfl rfl) (hd : Datum.depth δ ≤ 60 := by decide) : EvC Y s (.Call (.Attribute o "count" apos) [e] [] pos) fun k => Wo fun xs => We fun x => k (cnt xs x : Int) := fun k w =>
  ev_m1C PySem.F.plainAttrs_list PySem.F.slot_list_count PySem.F.type_list_count (mt_countT (α := δ) ok.room.units hd) (ho.q w fun A xs hA w => ⟨hA.ty, he.q w fun x w F0 σ H F v u e0 S r1 r2 => ⟨x, xs, u, rfl, Enc.mono (α := δ) r2 S.ext, hA.rd S r1, pu (cnt xs x : Int), s, F, e0, rfl, S, _, rfl, rfl, w⟩⟩) m
theorem c_idxL (ok : YOk Y) (ho : EvL Y s o Wo) (he : EvC Y s e We) (m : Mx1 Y.X o "index" apos e pos := by exact mx1 rfl rfl rfl) (hd : Datum.depth δ ≤ 60 := by decide) : EvC Y s (.Call (.Attribute o "index" apos) [e] [] pos) fun k => Wo fun xs => We fun x => x ∈ xs ∧ k (idx xs x : Int) := fun k w =>
  ev_m1C PySem.F.plainAttrs_list PySem.F.slot_list_index PySem.F.type_list_index (mt_indexT (α := δ) ok.room.units hd) (ho.q w fun A xs hA w => ⟨hA.ty, he.q w fun x w F0 σ H F v u e0 S r1 r2 => ⟨x, xs, u, rfl, Enc.mono (α := δ) r2 S.ext, hA.rd S r1, w.1, pu (idx xs x : Int), s, F, e0, rfl, S, _, rfl, rfl, w.2⟩⟩) m
end
/-! dicts -/
section
variable {κ ν : Type} [DecidableEq κ] [Kk κ] [Enc κ] [KkV κ] [Enc ν] {Wd : (List (κ × ν) → Prop) → Prop} {Wk : (κ → Prop) → Prop} {Wv : (ν → Prop) → Prop}
theorem c_dget [Inhabited ν] (ok : YOk Y) (ha : EvD Y s a Wd) (hb : EvC Y s b Wk) (hs : NoSl b := by intro _ _; rfl) : EvC Y s (.Subscript a b pos) fun k => Wd fun m => Wk fun x => dhas m x = true ∧ k (dgt m x) := fun k w F0 σ H F e0 S => by
  refine .of (pe_dget (by have := ok.room.units; omega) pe_we pe_we hs) ?_
  refine (ha _ w F σ H F (.refl _) S).mono fun v H1 ⟨A, _, F1, e1, r1, S1, m, hA, es, w⟩ => ?_
  subst es
  refine (hb _ w F1 σ H1 F1 (.refl _) S1).mono fun u H2 ⟨_, _, F2, e2, r2, S2, x, ex, es, w⟩ => ?_
  subst ex es
  obtain ⟨q, zs, ev, hr, hz⟩ := hA σ H2 F2 v S2 (A.mono r1 e2)
  obtain ⟨w1, w2⟩ := w
  unfold dhas at w1
  unfold dgt at w2
  rcases kvs_val hz x with ⟨h1, _⟩ | ⟨z, y, h1, h2, h3⟩
  · rw [h1] at w1; cases w1
  · rw [h1] at w2
    exact ⟨q, z, ev, .inl ⟨zs, Kk.key x, hr, KkV.of r2, h2.symm⟩, pu y, _, F2, (e0.trans e1).trans e2, h3, S2, _, rfl, rfl, w2⟩
theorem c_dget2 (ok : YOk Y) (ho : EvD Y s o Wd) (he : EvC Y s e Wk) (hf : EvC Y s f Wv) (M : M2 Y.X o "get" apos e f pos := by exact ⟨rfl, rfl, rfl, rfl⟩) : EvC Y s (.Call (.Attribute o "get" apos) [e, f] [] pos) fun k => Wd fun m => Wk fun x => Wv fun y => k ((dval m x).getD y) := fun k w F0 σ H F e0 S => by
  refine .of (pe_dget2 (by have := ok.room.units; omega) pe_we pe_we pe_we M) ?_
  refine (ho _ w F σ H F (.refl _) S).mono fun v H1 ⟨A, _, F1, e1, r1, S1, m, hA, es, w⟩ => ?_
  subst es
  obtain ⟨q, zs, ev, hr, hz⟩ := hA σ H1 F1 v S1 r1
  refine ⟨q, ev, .inl ⟨zs, hr⟩, ?_⟩
  refine (he _ w F1 σ H1 F1 (.refl _) S1).mono fun u H2 ⟨_, _, F2, e2, r2, S2, x, ex, es, w⟩ => ?_
  subst ex es
  refine (hf _ w F2 σ H2 F2 (.refl _) S2).mono fun z H3 ⟨_, _, F3, e3, r3, S3, y, ey, es, w⟩ => ?_
  subst ey es
  obtain ⟨q', zs', ev', hr', hz'⟩ := hA σ H3 F3 v S3 (A.mono r1 (e2.trans e3))
  have eq : q' = q := by rw [ev] at ev'; cases ev'; rfl
  subst eq
  refine ⟨valV zs' (Kk.key x), .inl ⟨zs', Kk.key x, hr', KkV.of r2, rfl⟩, pu ((dval m x).getD y), _, F3, ((e0.trans e1).trans e2).trans e3, ?_, S3, _, rfl, rfl, w⟩
  rcases kvs_val hz' x with ⟨h1, h2⟩ | ⟨w', y', h1, h2, h3⟩
  · rw [h1, h2]; exact r3
  · rw [h1, h2]; exact h3
theorem c_dget1 (ok : YOk Y) (ho : EvD Y s o Wd) (he : EvC Y s e Wk) (M : M1 Y.X o "get" apos e pos := by exact ⟨rfl, rfl, rfl, rfl⟩) : EvC Y s (.Call (.Attribute o "get" apos) [e] [] pos) fun k => Wd fun m => Wk fun x => k (dval m x) := fun k w F0 σ H F e0 S => by
  refine .of (pe_dget1 (by have := ok.room.units; omega) pe_we pe_we M) ?_
  refine (ho _ w F σ H F (.refl _) S).mono fun v H1 ⟨A, _, F1, e1, r1, S1, m, hA, es, w⟩ => ?_
  subst es
  obtain ⟨q, zs, ev, hr, hz⟩ := hA σ H1 F1 v S1 r1
  refine ⟨q, ev, .inl ⟨zs, hr⟩, ?_⟩
  refine (he _ w F1 σ H1 F1 (.refl _) S1).mono fun u H2 ⟨_, _, F2, e2, r2, S2, x, ex, es, w⟩ => ?_
  subst ex es
  obtain ⟨q', zs', ev', hr', hz'⟩ := hA σ H2 F2 v S2 (A.mono r1 e2)
  have eq : q' = q := by rw [ev] at ev'; cases ev'; rfl
  subst eq
  refine ⟨valV zs' (Kk.key x), .inl ⟨zs', Kk.key x, hr', KkV.of r2, rfl⟩, pu (dval m x), _, F2, (e0.trans e1).trans e2, ?_, S2, _, rfl, rfl, w⟩
  rcases kvs_val hz' x with ⟨h1, h2⟩ | ⟨w', y', h1, h2, h3⟩
  · rw [h1, h2]; rfl
  · rw [h1, h2]; exact h3
theorem c_dnew {κ ν : Type} [DecidableEq κ] [Kk κ] [Enc κ] [KkV κ] [Enc ν] : EvC Y s (.Dict [] [] pos) fun k => k (Dct.mk ([] : List (κ × ν))) := c_of evp_dnew
end
end
end Sp
set_option maxHeartbeats 4000000
/-! Sp: calls of built-ins; sources of walks. -/
namespace Sp
open PySem L2
open PySem.W (Datum DatumOrd SomeDatum)
/-- the least, the greatest of a list that isn't empty -/
def minL {α : Type} [DecidableEq α] [DatumOrd α] [Inhabited α] : List α → α
  | [] => default
  | x :: r => PySem.W.minOf x r
def maxL {α : Type} [DecidableEq α] [DatumOrd α] [Inhabited α] : List α → α
  | [] => default
  | x :: r => PySem.W.maxOf x r
section
variable {Y : DX} {s : DSt} {e a b c d o f : Expr} {es : List Expr} {pos p apos : Pos} {α β γ δ : Type} [Enc α] [Enc β] [Enc γ] [Enc δ]
theorem ev_T1C {x : Str} {T : String} {Q : Pv → DSt → Prop} {r : List V → Hp → VK → Prop} (hc : CallR Y.X (.type T) r) (hg : Gl Y.X x) (hm : Y.X.mg x = none) (hv : bootBuiltins x = some (.type T))
    (h : Ev Y s a fun A s1 => ∀ F0 σ H F v, Ext F0 F → Sta Y s1 σ H F → A.rep Y.X.K F v → r [v] H (Po Y σ F0 Q)) (hn : x ≠ "__name__" := by decide) (hdb : (x == ("__debug__" : Str)) = false := by decide)
    (he : starEach [a] Y.X.env = (false, eval a Y.X.env) :: starEach [] Y.X.env := by exact star_c rfl) : Ev Y s (.Call (.Name x p) [a] [] pos) Q := ev_T1 hc hg hm hv h hn hdb he
section
variable {Wi Wj : (Int → Prop) → Prop} {Wb : (Bool → Prop) → Prop} {Wt : (List Nat → Prop) → Prop}
theorem c_sum {W : (List Int → Prop) → Prop} (ok : YOk Y) (T : Bis Y.X.mg) (hg : Gl Y.X "sum") (ha : EvL Y s a W) (he : starEach [a] Y.X.env = (false, eval a Y.X.env) :: starEach [] Y.X.env := by exact star_c rfl) : EvC Y s (.Call (.Name "sum" p) [a] [] pos) fun k => W fun ns => k ns.sum := fun k w =>
  ev_B1 (cr_sumT ok.calm) hg (T.no _ (by decide)) PyProof.Rows.boot_sum (ha.q w fun A ns hA w F0 σ H F v e0 S r => ⟨v, ns, rfl, hA.da σ H F v S r, pu ns.sum, s, F, e0, rfl, S, _, rfl, rfl, w⟩) (by decide) (by decide) he
theorem c_abs (T : Bis Y.X.mg) (hg : Gl Y.X "abs") (ha : EvC Y s a Wi) (he : starEach [a] Y.X.env = (false, eval a Y.X.env) :: starEach [] Y.X.env := by exact star_c rfl) : EvC Y s (.Call (.Name "abs" p) [a] [] pos) fun k => Wi fun i => k (if i < 0 then -i else i) := fun k w =>
  ev_B1 call_abs hg (T.no _ (by decide)) PyProof.Rows.boot_abs (ha.q w fun i w F0 σ H F v e0 S r => ⟨i, by rw [show v = .int i from r], pu (if i < 0 then -i else i), s, F, e0, rfl, S, _, rfl, rfl, w⟩) (by decide) (by decide) he
theorem c_int1 (T : Bis Y.X.mg) (hg : Gl Y.X "int") (ha : EvC Y s a Wi) (he : starEach [a] Y.X.env = (false, eval a Y.X.env) :: starEach [] Y.X.env := by exact star_c rfl) : EvC Y s (.Call (.Name "int" p) [a] [] pos) fun k => Wi fun i => k i := fun k w =>
  ev_T1 call_int1 hg (T.no _ (by decide)) PySem.Pv.boot_int (ha.q w fun i w F0 σ H F v e0 S h1 => .inl ⟨i, by cases h1; rfl, pu i, s, F, e0, rfl, S, _, rfl, rfl, w⟩) (by decide) (by decide) he
theorem c_intB (T : Bis Y.X.mg) (hg : Gl Y.X "int") (ha : EvC Y s a Wb) (he : starEach [a] Y.X.env = (false, eval a Y.X.env) :: starEach [] Y.X.env := by exact star_c rfl) : EvC Y s (.Call (.Name "int" p) [a] [] pos) fun k => Wb fun x => k (if x = true then (1 : Int) else 0) := fun k w =>
  ev_T1 call_int1 hg (T.no _ (by decide)) PySem.Pv.boot_int (ha.q w fun x w F0 σ H F v e0 S h1 => .inr ⟨x, by cases h1; rfl, pu (if x = true then (1 : Int) else 0), s, F, e0, rfl, S, _, rfl, rfl, w⟩) (by decide) (by decide) he
/-- int(text) -/
def intT (x : Txt) : Int := (PySem.intText? (toStr x)).getD 0
theorem c_intS (T : Bis Y.X.mg) (hg : Gl Y.X "int") (ha : EvC Y s a Wt) (he : starEach [a] Y.X.env = (false, eval a Y.X.env) :: starEach [] Y.X.env := by exact star_c rfl) : EvC Y s (.Call (.Name "int" p) [a] [] pos) fun k => Wt fun x => ((PySem.intText? (toStr x)).isSome = true ∧ x.length ≤ 640) ∧ k (intT x) := fun k w =>
  ev_T1 call_int_str hg (T.no _ (by decide)) PySem.Pv.boot_int (ha.q w fun x w F0 σ H F v e0 S h1 => by
    obtain ⟨⟨w1, w2⟩, w3⟩ := w
    unfold intT at w3
    cases hi : PySem.intText? (toStr x) with
    | none => rw [hi] at w1; cases w1
    | some n =>
      rw [hi] at w3
      exact ⟨toStr x, n, by cases h1; rfl, hi, by rw [toStr_len]; exact w2, pu n, s, F, e0, rfl, S, _, rfl, rfl, w3⟩) (by decide) (by decide) he
/-- str(n) -/
def strI (n : Int) : Txt := tx (toString n)
theorem c_strI (T : Bis Y.X.mg) (hg : Gl Y.X "str") (ha : EvC Y s a Wi) (he : starEach [a] Y.X.env = (false, eval a Y.X.env) :: starEach [] Y.X.env := by exact star_c rfl) : EvC Y s (.Call (.Name "str" p) [a] [] pos) fun k => Wi fun n => n.natAbs.log2 < 1920 ∧ k (strI n) := fun k w =>
  ev_T1 call_str_int hg (T.no _ (by decide)) PySem.Pv.boot_str (ha.q w fun n w F0 σ H F v e0 S h1 => ⟨n, by cases h1; rfl, w.1, pu (strI n), s, F, e0, (by show V.str _ = V.str (toStr (tx _)); rw [toStr_tx]), S, _, rfl, rfl, w.2⟩) (by decide) (by decide) he
theorem c_min2 (ok : YOk Y) (T : Bis Y.X.mg) (hg : Gl Y.X "min") (ha : EvC Y s a Wi) (hb : EvC Y s b Wj)
    (he : starEach [a, b] Y.X.env = (false, eval a Y.X.env) :: starEach [b] Y.X.env := by exact star_c rfl) (he2 : starEach [b] Y.X.env = (false, eval b Y.X.env) :: starEach [] Y.X.env := by exact star_c rfl) (hpl : (backTo pos (starEach [b] Y.X.env)).any (·.1) = false := by exact star_any rfl) :
    EvC Y s (.Call (.Name "min" p) [a, b] [] pos) fun k => Wi fun i => Wj fun j => k (min i j) := fun k w =>
  ev_B2 (call_min2 ok.calm) hg (T.no _ (by decide)) PyProof.Rows.boot_min (ha.q w fun i w => hb.q w fun j w F0 σ H F v u e0 S r r2 => ⟨i, j, by rw [show v = .int i from r, show u = .int j from r2], pu (min i j), s, F, e0, (by
    show V.int (if j < i then j else i) = V.int (min i j)
    rw [Int.min_def]
    split <;> split <;> first | rfl | (exfalso; omega)), S, _, rfl, rfl, w⟩) (by decide) (by decide) he he2 hpl
theorem c_max2 (ok : YOk Y) (T : Bis Y.X.mg) (hg : Gl Y.X "max") (ha : EvC Y s a Wi) (hb : EvC Y s b Wj)
    (he : starEach [a, b] Y.X.env = (false, eval a Y.X.env) :: starEach [b] Y.X.env := by exact star_c rfl) (he2 : starEach [b] Y.X.env = (false, eval b Y.X.env) :: starEach [] Y.X.env := by exact star_c rfl) (hpl : (backTo pos (starEach [b] Y.X.env)).any (·.1) = false := by exact star_any rfl) :
    EvC Y s (.Call (.Name "max" p) [a, b] [] pos) fun k => Wi fun i => Wj fun j => k (max i j) := fun k w =>
  ev_B2 (call_max2 ok.calm) hg (T.no _ (by decide)) PyProof.Rows.boot_max (ha.q w fun i w => hb.q w fun j w F0 σ H F v u e0 S r r2 => ⟨i, j, by rw [show v = .int i from r, show u = .int j from r2], pu (max i j), s, F, e0, (by
    show V.int (if j > i then j else i) = V.int (max i j)
    rw [Int.max_def]
    split <;> split <;> first | rfl | (congr 1; omega)), S, _, rfl, rfl, w⟩) (by decide) (by decide) he he2 hpl
end
section
variable {δ : Type} [DecidableEq δ] [Enc δ] [DatumOrd δ] [Dat δ] {W : (List δ → Prop) → Prop}
theorem c_sorted [Srtb δ] (ok : YOk Y) (T : Bis Y.X.mg) (hg : Gl Y.X "sorted") (ha : EvL Y s a W) (hd : Datum.depth δ ≤ 60 := by decide) (he : starEach [a] Y.X.env = (false, eval a Y.X.env) :: starEach [] Y.X.env := by exact star_c rfl) :
    EvC Y s (.Call (.Name "sorted" p) [a] [] pos) fun k => W fun xs => k (srt xs) := fun k w =>
  ev_B1 (cr_sortedF (α := δ) ok.room.units hd) hg (T.no _ (by decide)) PyProof.Rows.boot_sorted (ha.q w fun A xs hA w F0 σ H F v e0 S r => by
    obtain ⟨q, zs, h1, h2, h3⟩ := hA σ H F v S r
    exact ⟨F, v, q, zs, xs, rfl, h1, h2, h3, S.ext, fun q' zs' hq' r' => po_listC e0 S r' w q' hq'⟩) (by decide) (by decide) he
theorem c_min [Inhabited δ] (ok : YOk Y) (T : Bis Y.X.mg) (hg : Gl Y.X "min") (ha : EvL Y s a W) (hd : Datum.depth δ ≤ 60 := by decide) (he : starEach [a] Y.X.env = (false, eval a Y.X.env) :: starEach [] Y.X.env := by exact star_c rfl) :
    EvC Y s (.Call (.Name "min" p) [a] [] pos) fun k => W fun xs => xs ≠ [] ∧ k (minL xs) := fun k w =>
  ev_B1 (cr_minF (α := δ) ok.calm ok.room.units hd) hg (T.no _ (by decide)) PyProof.Rows.boot_min (ha.q w fun A xs hA w F0 σ H F v e0 S r => by
    obtain ⟨q, zs, h1, h2, h3⟩ := hA σ H F v S r
    obtain ⟨w1, w2⟩ := w
    cases xs with
    | nil => exact absurd rfl w1
    | cons x xs => exact ⟨F, v, q, zs, x, xs, rfl, h1, h2, h3, S.ext, fun z r' => ⟨pu (PySem.W.minOf x xs), s, F, e0, r', S, _, rfl, rfl, w2⟩⟩) (by decide) (by decide) he
theorem c_max [Inhabited δ] (ok : YOk Y) (T : Bis Y.X.mg) (hg : Gl Y.X "max") (ha : EvL Y s a W) (hd : Datum.depth δ ≤ 60 := by decide) (he : starEach [a] Y.X.env = (false, eval a Y.X.env) :: starEach [] Y.X.env := by exact star_c rfl) :
    EvC Y s (.Call (.Name "max" p) [a] [] pos) fun k => W fun xs => xs ≠ [] ∧ k (maxL xs) := fun k w =>
  ev_B1 (cr_maxF (α := δ) ok.calm ok.room.units hd) hg (T.no _ (by decide)) PyProof.Rows.boot_max (ha.q w fun A xs hA w F0 σ H F v e0 S r => by
    obtain ⟨q, zs, h1, h2, h3⟩ := hA σ H F v S r
    obtain ⟨w1, w2⟩ := w
    cases xs with
    | nil => exact absurd rfl w1
    | cons x xs => exact ⟨F, v, q, zs, x, xs, rfl, h1, h2, h3, S.ext, fun z r' => ⟨pu (PySem.W.maxOf x xs), s, F, e0, r', S, _, rfl, rfl, w2⟩⟩) (by decide) (by decide) he
end
theorem c_sortedS {W : (List Nat → Prop) → Prop} (ok : YOk Y) (T : Bis Y.X.mg) (hg : Gl Y.X "sorted") (ha : EvC Y s a W) (he : starEach [a] Y.X.env = (false, eval a Y.X.env) :: starEach [] Y.X.env := by exact star_c rfl) : EvC Y s (.Call (.Name "sorted" p) [a] [] pos) fun k => W fun x => x.length ≤ sizeLine ∧ k (srt (x.map fun c => [c])) := fun k w =>
  ev_B1 (cr_sortedTxt ok.calm ok.room.units) hg (T.no _ (by decide)) PyProof.Rows.boot_sorted (ha.q w fun x w F0 σ H F v e0 S r => ⟨x, by rw [show v = .str (toStr x) from r], w.1, fun l hl => po_listC e0 S (flat_vs _) w.2 l hl⟩) (by decide) (by decide) he
section
variable {κ ν : Type} [DecidableEq κ] [Kk κ] [Enc κ] [KkV κ] [Enc ν] {W : (List (κ × ν) → Prop) → Prop}
theorem c_sortedD [DatumOrd κ] [Dat κ] [Srtb κ] [FlatV κ] [FlatR κ] (ok : YOk Y) (T : Bis Y.X.mg) (hg : Gl Y.X "sorted") (ha : EvD Y s a W) (hz : ∀ k : κ, FlatV.z k = kV (Kk.key k) := by intro _; rfl) (hd : Datum.depth κ ≤ 60 := by decide)
    (he : starEach [a] Y.X.env = (false, eval a Y.X.env) :: starEach [] Y.X.env := by exact star_c rfl) : EvC Y s (.Call (.Name "sorted" p) [a] [] pos) fun k => W fun m => k (srt (m.map (·.1))) := fun k w =>
  ev_B1 (cr_sortedD (κ := κ) hz ok.calm ok.room.units hd) hg (T.no _ (by decide)) PyProof.Rows.boot_sorted (ha.q w fun A m hA w F0 σ H F v e0 S r => by
    obtain ⟨q, zs, h1, h2, h3⟩ := hA σ H F v S r
    exact ⟨q, zs, m.map (·.1), by rw [h1], h2, keys_key h3, fun l hl => po_listC e0 S (flat_vs _) w l hl⟩) (by decide) (by decide) he
theorem c_listD (ok : YOk Y) (T : Bis Y.X.mg) (hg : Gl Y.X "list") (ha : EvD Y s a W) (he : starEach [a] Y.X.env = (false, eval a Y.X.env) :: starEach [] Y.X.env := by exact star_c rfl) : EvC Y s (.Call (.Name "list" p) [a] [] pos) fun k => W fun m => k (m.map (·.1)) := fun k w =>
  ev_T1 (call_listD ok.calm) hg (T.no _ (by decide)) PyProof.Rows.boot_list (ha.q w fun A m hA w F0 σ H F v e0 S r => by
    obtain ⟨q, zs, h1, h2, h3⟩ := hA σ H F v S r
    exact ⟨q, zs, by rw [h1], h2, fun l hl => po_listC e0 S (keys_vs h3) w l hl⟩) (by decide) (by decide) he
theorem po_lock {σ : St} {F0 H F : Hp} {zs : List (Key × V)} {m : List (κ × ν)} {k : Dct κ ν → Prop} (e0 : Ext F0 F) (S : Sta Y s σ H F) (r : KVs Y.X.K F zs m) (w : k (Dct.mk m)) (q : Addr) (hq : H q = none) :
    ∃ d u, (upd H q (.dK zs)) d = some u ∧ Mut (some u) ∧ ∀ od, Po Y σ F0 (fun A s' => ∃ x, A = pu x ∧ s' = s ∧ k x) (.ref q) (upd (upd H q (.dK zs)) d (.frz od u)) :=
  ⟨q, .dK zs, upd_same, trivial, fun od => by
    rw [upd_upd]
    obtain ⟨F', e1, r', S'⟩ := pp_dict (Y := Y) e0 S r q hq od
    exact ⟨_, s, F', e1, r', S', _, rfl, rfl, w⟩⟩
theorem c_dictL {W : (List (κ × ν) → Prop) → Prop} (ok : YOk Y) (T : Bis Y.X.mg) (hg : Gl Y.X "dict") (ha : EvL Y s a W) (he : starEach [a] Y.X.env = (false, eval a Y.X.env) :: starEach [] Y.X.env := by exact star_c rfl) : EvC Y s (.Call (.Name "dict" p) [a] [] pos) fun k => W fun xs => k (Dct.mk (dmerge [] xs)) := fun k w F0 σ H F e0 S => by
  refine .lockAfter (.of (pe_callTy (call_dictP ok.calm) hg (T.no _ (by decide)) PyProof.Rows.boot_dict (pa_cons pe_we pa_nil he) (by decide) (by decide) he (by rfl)) ?_)
  refine (ha _ w F0 σ H F e0 S).mono fun v H1 ⟨A, _, F1, e1, r1, S1, xs, hA, es, w⟩ => ?_
  subst es
  obtain ⟨q, zs, h1, h2, h3⟩ := hA σ H1 F1 v S1 r1
  obtain ⟨ps, kvs, g1, g2, g3⟩ := pairs_kvs h3
  subst g1
  exact ⟨q, ps, kvs, by rw [h1], h2, Paired.mapP g2 fun _ _ z => sqT_ext z S1.ext, fun l hl => po_lock e1 S1 (kvs_merge g3 .nil) w l hl⟩
theorem c_dictD (ok : YOk Y) (T : Bis Y.X.mg) (hg : Gl Y.X "dict") (ha : EvD Y s a W) (he : starEach [a] Y.X.env = (false, eval a Y.X.env) :: starEach [] Y.X.env := by exact star_c rfl) : EvC Y s (.Call (.Name "dict" p) [a] [] pos) fun k => W fun m => k (Dct.mk m) := fun k w F0 σ H F e0 S => by
  refine .lockAfter (.of (pe_callTy call_dictD hg (T.no _ (by decide)) PyProof.Rows.boot_dict (pa_cons pe_we pa_nil he) (by decide) (by decide) he (by rfl)) ?_)
  refine (ha _ w F0 σ H F e0 S).mono fun v H1 ⟨A, _, F1, e1, r1, S1, m, hA, es, w⟩ => ?_
  subst es
  obtain ⟨q, zs, h1, h2, h3⟩ := hA σ H1 F1 v S1 r1
  exact ⟨q, zs, by rw [h1], h2, fun l hl => po_lock e1 S1 h3 w l hl⟩
end
/-! list(x), tuple(x) -/
theorem c_listL {W : (List α → Prop) → Prop} (T : Bis Y.X.mg) (hg : Gl Y.X "list") (ha : EvL Y s a W) (he : starEach [a] Y.X.env = (false, eval a Y.X.env) :: starEach [] Y.X.env := by exact star_c rfl) : EvC Y s (.Call (.Name "list" p) [a] [] pos) fun k => W fun xs => k xs := fun k w =>
  ev_T1 call_list_of hg (T.no _ (by decide)) PyProof.Rows.boot_list (ha.q w fun A xs hA w F0 σ H F v e0 S r => by
    obtain ⟨q, zs, h1, h2, h3⟩ := hA σ H F v S r
    exact ⟨q, zs, by rw [h1], .inl h2, fun l hl => po_listC e0 S h3 w l hl⟩) (by decide) (by decide) he
theorem c_listH {W : (Tup α → Prop) → Prop} (T : Bis Y.X.mg) (hg : Gl Y.X "list") (ha : EvC Y s a W) (he : starEach [a] Y.X.env = (false, eval a Y.X.env) :: starEach [] Y.X.env := by exact star_c rfl) : EvC Y s (.Call (.Name "list" p) [a] [] pos) fun k => W fun xs => k xs.items := fun k w =>
  ev_T1 call_list_of hg (T.no _ (by decide)) PyProof.Rows.boot_list (ha.q w fun xs w F0 σ H F v e0 S ⟨q, zs, h1, h2, h3⟩ => ⟨q, zs, by rw [h1], .inr (sqT_ext h2 S.ext), fun l hl => po_listC e0 S h3 w l hl⟩) (by decide) (by decide) he
theorem c_listS {W : (List Nat → Prop) → Prop} (ok : YOk Y) (T : Bis Y.X.mg) (hg : Gl Y.X "list") (ha : EvC Y s a W) (he : starEach [a] Y.X.env = (false, eval a Y.X.env) :: starEach [] Y.X.env := by exact star_c rfl) : EvC Y s (.Call (.Name "list" p) [a] [] pos) fun k => W fun x => x.length ≤ sizeLine ∧ k (x.map fun c => [c]) := fun k w =>
  ev_T1 (call_list_ofS ok.calm) hg (T.no _ (by decide)) PyProof.Rows.boot_list (ha.q w fun x w F0 σ H F v e0 S r => ⟨x, by rw [show v = .str (toStr x) from r], w.1, fun l hl => po_listC e0 S (signs_vs x) w.2 l hl⟩) (by decide) (by decide) he
theorem c_tupL {W : (List α → Prop) → Prop} (T : Bis Y.X.mg) (hg : Gl Y.X "tuple") (ha : EvL Y s a W) (he : starEach [a] Y.X.env = (false, eval a Y.X.env) :: starEach [] Y.X.env := by exact star_c rfl) : EvC Y s (.Call (.Name "tuple" p) [a] [] pos) fun k => W fun xs => k (PySem.W.Tup.mk xs) := fun k w =>
  ev_T1 call_tuple_of hg (T.no _ (by decide)) PyProof.Rows.boot_tuple (ha.q w fun A xs hA w F0 σ H F v e0 S r => by
    obtain ⟨q, zs, h1, h2, h3⟩ := hA σ H F v S r
    exact ⟨q, zs, by rw [h1], .inl ⟨h2, fun l hl => ⟨pu (PySem.W.Tup.mk xs), s, upd F l (.tup zs), e0.trans (Ext.grow (S.free hl)), ⟨l, zs, rfl, .of upd_same, h3.mono (Ext.grow (S.free hl))⟩, S.newF hl rfl, _, rfl, rfl, w⟩⟩⟩) (by decide) (by decide) he
theorem c_tupT {W : (Tup α → Prop) → Prop} (T : Bis Y.X.mg) (hg : Gl Y.X "tuple") (ha : EvC Y s a W) (he : starEach [a] Y.X.env = (false, eval a Y.X.env) :: starEach [] Y.X.env := by exact star_c rfl) : EvC Y s (.Call (.Name "tuple" p) [a] [] pos) fun k => W fun xs => k xs := fun k w =>
  ev_T1 call_tuple_of hg (T.no _ (by decide)) PyProof.Rows.boot_tuple (ha.q w fun xs w F0 σ H F v e0 S ⟨q, zs, h1, h2, h3⟩ => ⟨q, zs, by rw [h1], .inr ⟨sqT_ext h2 S.ext, pu xs, s, F, e0, ⟨q, zs, rfl, h2, h3⟩, S, _, rfl, rfl, w⟩⟩) (by decide) (by decide) he
theorem c_tupP {W : (α × β → Prop) → Prop} (T : Bis Y.X.mg) (hg : Gl Y.X "tuple") (ha : EvC Y s a W) (he : starEach [a] Y.X.env = (false, eval a Y.X.env) :: starEach [] Y.X.env := by exact star_c rfl) : EvC Y s (.Call (.Name "tuple" p) [a] [] pos) fun k => W fun x => k x := fun k w =>
  ev_T1 call_tuple_of hg (T.no _ (by decide)) PyProof.Rows.boot_tuple (ha.q w fun x w F0 σ H F v e0 S ⟨q, z1, z2, h1, h2, h3, h4⟩ => ⟨q, _, by rw [h1], .inr ⟨sqT_ext h2 S.ext, pu x, s, F, e0, ⟨q, z1, z2, rfl, h2, h3, h4⟩, S, _, rfl, rfl, w⟩⟩) (by decide) (by decide) he
end
end Sp
set_option maxHeartbeats 4000000
/-! Sp: sources of walks, to what is wanted of their items. -/
namespace Sp
open PySem L2
open PySem.W (Datum DatumOrd SomeDatum)
/-- the state stays; W k: the items are k -/
def ItC (Y : DX) (s : DSt) (tg iter : Expr) {β : Type} [Enc β] (W : (List β → Prop) → Prop) : Prop := ∀ k : List β → Prop, W k → EvItE Y s tg iter fun items s' => s' = s ∧ k items
section
variable {Y : DX} {s : DSt} {e a b c d o tg : Expr} {es elts : List Expr} {pos p apos cpos tpos : Pos} {kk : Nat} {α β γ : Type} [Enc α] [Enc β] [Enc γ] {κ ν : Type} [Kk κ] [Enc κ] [KkV κ] [Enc ν]
theorem i_list {tg iter : Expr} {WW : (List α → Prop) → Prop} (ha : EvC Y s iter WW) : ItC Y s tg iter fun kk => WW fun xs => kk xs := fun kk ww =>
  ⟨_, pi_list pe_we, fun F0 σ H F R e0 S k => (ha _ ww F0 σ H F e0 S).mono fun v H' ⟨_, _, F', e1, rr, S', xs, ea, es, ww⟩ => by
    subst ea es
    obtain ⟨p, vs, ev, hq, rv⟩ := rr
    exact ⟨p, ev, ⟨vs, sqL_ext hq S'.ext⟩, k _ _ F' _ _ e1 S' (fun i H2 F2 e2 e3 => ⟨fun x hx => by
      have hq2 := sqL_ext (sqL_ext hq e2) e3
      obtain ⟨w, hw, rw'⟩ := prd_get rv hx
      exact ⟨⟨vs, w, hq2, hw⟩, fun v H3 ⟨eh, hv⟩ => .inl ⟨eh, by
        have := hv vs hq2
        rw [hw] at this
        cases this
        exact Enc.mono rw' e2⟩⟩, fun hl => ⟨vs, sqL_ext (sqL_ext hq e2) e3, by rw [rv.length]; exact hl⟩⟩) ⟨rfl, ww⟩⟩⟩
theorem i_tup {tg iter : Expr} {WW : (Tup α → Prop) → Prop} (ha : EvC Y s iter WW) : ItC Y s tg iter fun kk => WW fun xs => kk xs.items := fun kk ww =>
  ⟨_, pi_tup pe_we, fun F0 σ H F R e0 S k => (ha _ ww F0 σ H F e0 S).mono fun v H' ⟨_, _, F', e1, rr, S', xs, ea, es, ww⟩ => by
    subst ea es
    obtain ⟨p, vs, ev, hq, rv⟩ := rr
    exact ⟨p, ev, ⟨vs, sqT_ext hq S'.ext⟩, k _ _ F' _ _ e1 S' (fun i H2 F2 e2 e3 => ⟨fun x hx => by
      have hq2 := sqT_ext (sqT_ext hq e2) e3
      obtain ⟨w, hw, rw'⟩ := prd_get rv hx
      exact ⟨⟨vs, w, hq2, hw⟩, fun v H3 ⟨eh, hv⟩ => .inl ⟨eh, by
        have := hv vs hq2
        rw [hw] at this
        cases this
        exact Enc.mono rw' e2⟩⟩, fun hl => ⟨vs, sqT_ext (sqT_ext hq e2) e3, by rw [rv.length]; exact hl⟩⟩) ⟨rfl, ww⟩⟩⟩
theorem i_txt {tg iter : Expr} {WW : (List Nat → Prop) → Prop} (ha : EvC Y s iter WW) : ItC Y s tg iter fun kk => WW fun x => kk (x.map fun c => [c]) := fun kk ww =>
  ⟨_, pi_str pe_we, fun F0 σ H F R e0 S k => (ha _ ww F0 σ H F e0 S).mono fun v H' ⟨_, _, F', e1, rr, S', x, ea, es, ww⟩ => by
    subst ea es
    have ev := rr
    exact ⟨toStr x, ev, k _ _ F' _ _ e1 S' (fun i H2 F2 e2 e3 => ⟨fun y hy => by
      rw [List.getElem?_map] at hy
      cases q : x[i]? with
      | none => rw [q] at hy; cases hy
      | some c =>
        rw [q] at hy
        cases hy
        have hl : i < (toStr x).cps.size := by
          have := (List.getElem?_eq_some_iff.mp q).1
          simpa [toStr] using this
        refine ⟨hl, fun v H3 ⟨eh, c', hc, hv⟩ => .inl ⟨eh, ?_⟩⟩
        have e9 : c' = c := by
          have : x[i]? = some c' := by simpa [toStr] using hc
          rw [q] at this
          exact (Option.some.inj this).symm
        subst e9
        exact hv, fun hl => by
      show (toStr x).cps.size ≤ i
      simpa [toStr] using hl⟩) ⟨rfl, ww⟩⟩⟩
theorem i_range1 (_ok : YOk Y) (T : Bis Y.X.mg) (hg : Gl Y.X "range") {WW : (Int → Prop) → Prop} (ha : EvC Y s a WW) (hs : starEach [a] Y.X.env = [(false, eval a Y.X.env)] := by exact star_1 rfl) : ItC Y s tg (.Call (.Name "range" p) [a] [] pos) fun kk => WW fun n => (-(2 ^ 62) ≤ n ∧ n < 2 ^ 62) ∧ kk ((List.range n.toNat).map fun i : Nat => (i : Int)) := fun kk ww =>
  ⟨_, pi_range1 hg (T.no _ (by decide)) (pa_cons pe_we pa_nil hs) hs, fun F0 σ H F R e0 S k => (ha _ ww F0 σ H F e0 S).mono fun v H' ⟨_, _, F', e1, rr, S', n, ea, es, ww⟩ => by
    subst ea es
    have r := rr
    obtain ⟨hc, ww⟩ := ww
    exact ⟨n, by rw [show v = .int n from r], hc.1, hc.2, k _ _ F' _ _ e1 S' (fun i H2 F2 e2 e3 => ⟨fun x hx => by
      rw [List.getElem?_map] at hx
      cases q : (List.range n.toNat)[i]? with
      | none => rw [q] at hx; cases hx
      | some j =>
        rw [q] at hx
        cases hx
        obtain ⟨h5, h6⟩ := List.getElem?_eq_some_iff.mp q
        rw [List.getElem_range] at h6
        subst h6
        rw [List.length_range] at h5
        refine ⟨h5, fun v H3 ⟨eh, hv⟩ => .inl ⟨eh, ?_⟩⟩
        rw [hv]
        show V.int (0 + (i : Int)) = V.int i
        rw [Int.zero_add], fun hl => by
      show n.toNat ≤ i
      simpa using hl⟩) ⟨rfl, ww⟩⟩⟩
theorem i_enum {α : Type} [Enc α] (_ok : YOk Y) (T : Bis Y.X.mg) (hg : Gl Y.X "enumerate") {WW : (List α → Prop) → Prop} (ha : EvC Y s a WW) (hs : starEach [a] Y.X.env = [(false, eval a Y.X.env)] := by exact star_1 rfl) : ItC Y s (.Tuple elts kk tpos) (.Call (.Name "enumerate" p) [a] [] pos) fun kk => WW fun xs => kk (enumD xs) := fun kk ww =>
  ⟨_, pi_enum hg (T.no _ (by decide)) (pa_cons pe_we pa_nil hs) hs, fun F0 σ H F R e0 S k => (ha _ ww F0 σ H F e0 S).mono fun v H' ⟨_, _, F', e1, rr, S', xs, ea, es, ww⟩ => by
    subst ea es
    obtain ⟨p, vs, ev, hq, rv⟩ := rr
    exact ⟨p, vs, by rw [ev], sqL_ext hq S'.ext, k _ _ F' _ _ e1 S' (fun i H2 F2 e2 e3 => ⟨fun x hx => by
      have hq2 := sqL_ext (sqL_ext hq e2) e3
      unfold enumD at hx
      rw [List.getElem?_mapIdx] at hx
      cases q : xs[i]? with
      | none => rw [q] at hx; cases hx
      | some y =>
        rw [q] at hx
        cases hx
        obtain ⟨w, hw, rw'⟩ := prd_get rv q
        refine ⟨⟨vs, w, hq2, hw⟩, fun v H3 ⟨t, x, ev, ht, eh, hv⟩ => .inr ⟨t, _, ht, eh, ev, fun F3 e4 hs3 => ?_⟩⟩
        have := hv vs hq2
        rw [hw] at this
        cases this
        exact ⟨t, _, _, ev, hs3, rfl, Enc.mono rw' (e2.trans e4)⟩, fun hl => ⟨vs, sqL_ext (sqL_ext hq e2) e3, by
      have := Paired.length rv
      unfold enumD at hl
      rw [List.length_mapIdx] at hl
      omega⟩⟩) ⟨rfl, ww⟩⟩⟩
theorem i_enumS {Y : DX} {s : DSt} {a : Expr} {elts : List Expr} {kk : Nat} {p pos tpos : Pos} (_ok : YOk Y) (T : Bis Y.X.mg) (hg : Gl Y.X "enumerate") {WW : (List Nat → Prop) → Prop} (ha : EvC Y s a WW) (hs : starEach [a] Y.X.env = [(false, eval a Y.X.env)] := by exact star_1 rfl) : ItC Y s (.Tuple elts kk tpos) (.Call (.Name "enumerate" p) [a] [] pos) fun kk => WW fun x => kk (enumD (x.map fun c => [c])) := fun kk ww =>
  ⟨_, pi_enumS hg (T.no _ (by decide)) (pa_cons pe_we pa_nil hs) hs, fun F0 σ H F R e0 S k => (ha _ ww F0 σ H F e0 S).mono fun v H' ⟨_, _, F', e1, rr, S', x, ea, es, ww⟩ => by
    subst ea es
    have ev := rr
    exact ⟨toStr x, by rw [show v = V.str (toStr x) from ev], k _ _ F' _ _ e1 S' (fun i H2 F2 e2 e3 => ⟨fun y hy => by
      unfold enumD at hy
      rw [List.getElem?_mapIdx, List.getElem?_map] at hy
      cases q : x[i]? with
      | none => rw [q] at hy; cases hy
      | some c =>
        rw [q] at hy
        cases hy
        have hl : i < (toStr x).cps.size := by
          have := (List.getElem?_eq_some_iff.mp q).1
          simpa [toStr] using this
        refine ⟨hl, fun v H3 ⟨t, c', ev, ht, eh, hc⟩ => .inr ⟨t, _, ht, eh, ev, fun F3 e4 hs3 => ?_⟩⟩
        have e9 : c' = c := by
          have : x[i]? = some c' := by simpa [toStr] using hc
          rw [q] at this
          cases this
          rfl
        subst e9
        exact ⟨t, _, _, ev, hs3, rfl, rfl⟩, fun hl => by
      show (toStr x).cps.size ≤ i
      unfold enumD at hl
      simpa [toStr] using hl⟩) ⟨rfl, ww⟩⟩⟩
theorem i_keys {WW : (Dct κ ν → Prop) → Prop} (ha : EvC Y s a WW) : ItC Y s tg a fun kk => WW fun m => kk (m.kvs.map (·.1)) := fun kk ww =>
  ⟨_, pi_keys pe_we, fun F0 σ H F R e0 S k => (ha _ ww F0 σ H F e0 S).mono fun v H' ⟨_, _, F', e1, rr, S', m, ea, es, ww⟩ => by
    subst ea es
    obtain ⟨q, od, zs, ev, hq, rv⟩ := rr
    exact ⟨q, od, ev, .inl ⟨zs, S'.ext _ _ hq, k _ _ F' _ _ e1 S' (fun i H2 F2 e2 e3 => ⟨fun x hx => by
      rw [List.getElem?_map] at hx
      cases z : m.kvs[i]? with
      | none => rw [z] at hx; cases hx
      | some y =>
        rw [z] at hx
        cases hx
        obtain ⟨w, hw, r1, r2⟩ := prd_get rv z
        refine ⟨⟨e3 _ _ (e2 _ _ hq), (List.getElem?_eq_some_iff.mp hw).1⟩, fun v H3 ⟨eh, k', v', hk, hv⟩ => .inl ⟨eh, ?_⟩⟩
        rw [hw] at hk
        cases hk
        rw [hv]
        have e := KkV.rep (K := Y.X.K) (F := F2) y.1
        rw [← r1] at e
        exact e, fun hl => ⟨e3 _ _ (e2 _ _ hq), by have := Paired.length rv; rw [List.length_map] at hl; omega⟩⟩) ⟨rfl, ww⟩⟩⟩⟩
theorem i_values {WW : (Dct κ ν → Prop) → Prop} (ha : EvC Y s a WW) (hbase : attributeBase a "values" Y.X.env (eval a Y.X.env) = eval a Y.X.env := by exact ab_ok rfl) (hline : (apos.endLine == cpos.line) = true := by rfl) : ItC Y s tg (.Call (.Attribute a "values" apos) [] [] cpos) fun kk => WW fun m => kk (m.kvs.map (·.2)) := fun kk ww =>
  ⟨_, pi_values pe_we hbase hline, fun F0 σ H F R e0 S k => (ha _ ww F0 σ H F e0 S).mono fun v H' ⟨_, _, F', e1, rr, S', m, ea, es, ww⟩ => by
    subst ea es
    obtain ⟨q, od, zs, ev, hq, rv⟩ := rr
    exact ⟨q, od, zs, ev, S'.ext _ _ hq, k _ _ F' _ _ e1 S' (fun i H2 F2 e2 e3 => ⟨fun x hx => by
      rw [List.getElem?_map] at hx
      cases z : m.kvs[i]? with
      | none => rw [z] at hx; cases hx
      | some y =>
        rw [z] at hx
        cases hx
        obtain ⟨w, hw, r1, r2⟩ := prd_get rv z
        refine ⟨⟨e3 _ _ (e2 _ _ hq), (List.getElem?_eq_some_iff.mp hw).1⟩, fun v H3 ⟨eh, k', hk⟩ => .inl ⟨eh, ?_⟩⟩
        rw [hw] at hk
        cases hk
        exact Enc.mono r2 e2, fun hl => ⟨e3 _ _ (e2 _ _ hq), by have := Paired.length rv; rw [List.length_map] at hl; omega⟩⟩) ⟨rfl, ww⟩⟩⟩
theorem i_items {WW : (Dct κ ν → Prop) → Prop} (ha : EvC Y s a WW) (hbase : attributeBase a "items" Y.X.env (eval a Y.X.env) = eval a Y.X.env := by exact ab_ok rfl) (hline : (apos.endLine == cpos.line) = true := by rfl) : ItC Y s (.Tuple elts kk tpos) (.Call (.Attribute a "items" apos) [] [] cpos) fun kk => WW fun m => kk m.kvs := fun kk ww =>
  ⟨_, pi_items pe_we hbase hline, fun F0 σ H F R e0 S k => (ha _ ww F0 σ H F e0 S).mono fun v H' ⟨_, _, F', e1, rr, S', m, ea, es, ww⟩ => by
    subst ea es
    obtain ⟨q, od, zs, ev, hq, rv⟩ := rr
    exact ⟨q, od, zs, ev, S'.ext _ _ hq, k _ _ F' _ _ e1 S' (fun i H2 F2 e2 e3 => ⟨fun y z => by
        obtain ⟨w, hw, r1, r2⟩ := prd_get rv z
        refine ⟨⟨e3 _ _ (e2 _ _ hq), (List.getElem?_eq_some_iff.mp hw).1⟩, fun v H3 ⟨t, k', v', hk, hv, ht, eh⟩ => .inr ⟨t, _, ht, eh, hv, fun F3 e4 hs3 => ?_⟩⟩
        rw [hw] at hk
        cases hk
        have e := KkV.rep (K := Y.X.K) (F := F3) y.1
        rw [← r1] at e
        exact ⟨t, _, _, hv, hs3, e, Enc.mono r2 (e2.trans e4)⟩, fun hl => ⟨e3 _ _ (e2 _ _ hq), by have := Paired.length rv; omega⟩⟩) ⟨rfl, ww⟩⟩⟩theorem i_range2 {Wa Wb : (Int → Prop) → Prop} (_ok : YOk Y) (T : Bis Y.X.mg) (hg : Gl Y.X "range") (ha : EvC Y s a Wa) (hb : EvC Y s b Wb)
    (hs : starEach [a, b] Y.X.env = [(false, eval a Y.X.env), (false, eval b Y.X.env)] := by rfl) (hs2 : starEach [b] Y.X.env = [(false, eval b Y.X.env)] := by exact star_1 rfl) : ItC Y s tg (.Call (.Name "range" p) [a, b] [] pos) fun kk => Wa fun n => Wb fun m => (-(2 ^ 62) ≤ n ∧ n < 2 ^ 62 ∧ -(2 ^ 62) ≤ m ∧ m < 2 ^ 62) ∧ kk ((List.range (m - n).toNat).map fun i : Nat => n + (i : Int)) := fun kk ww =>
  ⟨_, pi_range2 hg (T.no _ (by decide)) (pa_cons pe_we (pa_cons pe_we pa_nil hs2) (by rw [hs, hs2])) hs hs2, fun F0 σ H F R e0 S k => (ha _ ww F σ H F (.refl _) S).mono fun v H' ⟨_, _, F', e1, r, S', n, ea, es, ww⟩ => by
    subst ea es
    refine (hb _ ww F' σ H' F' (.refl _) S').mono fun w H2 ⟨_, _, F2, e2, r2, S2, m, eb, es, ww⟩ => ?_
    subst eb es
    obtain ⟨hc, ww⟩ := ww
    refine ⟨n, m, by rw [show v = .int n from r, show w = .int m from r2], hc, k _ _ F2 _ _ ((e0.trans e1).trans e2) S2 (fun i H2 F2 e2 e3 => ⟨fun x hx => ?_, fun hl => ?_⟩) ⟨rfl, ww⟩⟩
    · rw [List.getElem?_map] at hx
      cases q : (List.range (m - n).toNat)[i]? with
      | none => rw [q] at hx; cases hx
      | some j =>
        rw [q] at hx
        cases hx
        obtain ⟨h5, h6⟩ := List.getElem?_eq_some_iff.mp q
        rw [List.getElem_range] at h6
        subst h6
        rw [List.length_range] at h5
        exact ⟨h5, fun v H3 ⟨eh, hv⟩ => .inl ⟨eh, by rw [hv]; rfl⟩⟩
    · show (m - n).toNat ≤ i
      simpa using hl⟩
theorem i_rev {W : (List α → Prop) → Prop} (_ok : YOk Y) (T : Bis Y.X.mg) (hg : Gl Y.X "reversed") (ha : EvC Y s a W) (hs : starEach [a] Y.X.env = [(false, eval a Y.X.env)] := by exact star_1 rfl) : ItC Y s tg (.Call (.Name "reversed" p) [a] [] pos) fun kk => W fun xs => kk xs.reverse := fun kk ww =>
  ⟨_, pi_reversed hg (T.no _ (by decide)) (pa_cons pe_we pa_nil hs) hs, fun F0 σ H F R e0 S k => (ha _ ww F0 σ H F e0 S).mono fun v H' ⟨_, _, F', e1, rr, S', xs, ea, es, ww⟩ => by
    subst ea es
    obtain ⟨p, vs, ev, hq, rv⟩ := rr
    have hl : vs.length = xs.length := Paired.length rv
    exact ⟨p, vs, by rw [ev], sqL_ext hq S'.ext, k _ _ F' _ _ e1 S' (fun i H2 F2 e2 e3 => ⟨fun x hx => by
      have hq2 := sqL_ext (sqL_ext hq e2) e3
      have hi : i < xs.length := by have := (List.getElem?_eq_some_iff.mp hx).1; simpa using this
      rw [List.getElem?_reverse hi] at hx
      obtain ⟨w, hw, rw'⟩ := prd_get rv hx
      refine ⟨⟨by omega, vs, w, hq2, by rw [hl]; exact hw⟩, fun v H3 ⟨eh, hv⟩ => .inl ⟨eh, ?_⟩⟩
      have := hv vs hq2
      rw [hl, hw] at this
      cases this
      exact Enc.mono rw' e2, fun h => by show vs.length ≤ i; rw [List.length_reverse] at h; omega⟩) ⟨rfl, ww⟩⟩⟩
theorem i_zip {Wa : (List α → Prop) → Prop} {Wb : (List β → Prop) → Prop} (_ok : YOk Y) (T : Bis Y.X.mg) (hg : Gl Y.X "zip") (ha : EvC Y s a Wa) (hb : EvC Y s b Wb)
    (hs : starEach [a, b] Y.X.env = (false, eval a Y.X.env) :: starEach [b] Y.X.env := by exact star_c rfl) (hs2 : starEach [b] Y.X.env = (false, eval b Y.X.env) :: starEach [] Y.X.env := by exact star_c rfl) (hpl : (backTo pos (starEach [b] Y.X.env)).any (·.1) = false := by exact star_any rfl) : ItC Y s (.Tuple elts kk tpos) (.Call (.Name "zip" p) [a, b] [] pos) fun kk => Wa fun xs => Wb fun ys => kk (xs.zip ys) := fun kk ww =>
  ⟨_, pi_zip hg (T.no _ (by decide)) (pa_cons pe_we (pa_cons pe_we pa_nil hs2) hs) hs hpl, fun F0 σ H F R e0 S k => (ha _ ww F σ H F (.refl _) S).mono fun v H' ⟨_, _, F', e1, rr, S', xs, ea, es, ww⟩ => by
    subst ea es
    refine (hb _ ww F' σ H' F' (.refl _) S').mono fun w H2 ⟨_, _, F2, e2, rr2, S2, ys, eb, es, ww⟩ => ?_
    subst eb es
    obtain ⟨p1, vs, ev, hq, rv⟩ := rr
    obtain ⟨p2, ws, ew, hq2, rw2⟩ := rr2
    have hq := sqL_ext hq e2
    have rv := Vs.mono rv e2
    refine ⟨p1, p2, vs, ws, by rw [ev, ew], sqL_ext hq S2.ext, sqL_ext hq2 S2.ext, k _ _ F2 _ _ ((e0.trans e1).trans e2) S2 (fun i H3 F3 e3 e4 => ⟨fun x hx => ?_, fun hl => ?_⟩) ⟨rfl, ww⟩⟩
    · have g1 := sqL_ext (sqL_ext hq e3) e4
      have g2 := sqL_ext (sqL_ext hq2 e3) e4
      obtain ⟨x1, x2⟩ := x
      rw [List.getElem?_zip_eq_some] at hx
      obtain ⟨w1, h1, r1⟩ := prd_get rv hx.1
      obtain ⟨w2, h2, r2⟩ := prd_get rw2 hx.2
      refine ⟨⟨vs, ws, w1, w2, g1, g2, h1, h2⟩, fun v H4 ⟨t, y1, y2, ev, ht, eh, k1, k2⟩ => .inr ⟨t, _, ht, eh, ev, fun F4 e5 hs3 => ?_⟩⟩
      have := k1 vs g1
      rw [h1] at this
      cases this
      have := k2 ws g2
      rw [h2] at this
      cases this
      exact ⟨t, _, _, ev, hs3, Enc.mono r1 (e3.trans e5), Enc.mono r2 (e3.trans e5)⟩
    · have l1 : vs.length = xs.length := Paired.length rv
      have l2 : ws.length = ys.length := Paired.length rw2
      rw [List.length_zip] at hl
      exact ⟨vs, ws, sqL_ext (sqL_ext hq e3) e4, sqL_ext (sqL_ext hq2 e3) e4, by omega⟩⟩
end
end Sp
set_option maxHeartbeats 4000000
/-! Sp: comprehensions and generator expressions, to what is wanted. -/
namespace Sp
open PySem L2
open PySem.W (Datum DatumOrd SomeDatum)
/-- tests of a clause -/
def EvTs (Y : DX) (s : DSt) (ifs : List Expr) (W : (Bool → Prop) → Prop) : Prop := ∀ k : Bool → Prop, W k → Ets Y s ifs fun b s' => s' = s ∧ k b
/-- item by item -/
inductive Each {β α : Type} (P : β → α → Prop) : List β → List α → Prop
  | nil : Each P [] []
  | cons {x : β} {y : α} {xs : List β} {ys : List α} : P x y → Each P xs ys → Each P (x :: xs) (y :: ys)
theorem Each.snoc {β α : Type} {P : β → α → Prop} {xs : List β} {ys : List α} (h : Each P xs ys) {x : β} {y : α} (p : P x y) : Each P (xs ++ [x]) (ys ++ [y]) := by
  induction h with
  | nil => exact .cons p .nil
  | cons q _ ih => exact .cons q ih
theorem Each.len {β α : Type} {P : β → α → Prop} {xs : List β} {ys : List α} (h : Each P xs ys) : ys.length = xs.length := by
  induction h with
  | nil => rfl
  | cons q _ ih => simp [ih]
section
variable {Y : DX} {s : DSt} {tg iter elt : Expr} {ifs : List Expr} {pos spos py gpos p : Pos} {scope : Scope} {α β : Type} [Enc α] [Enc β] {W : (List β → Prop) → Prop} {D : DE} {k : Nat}
theorem ts_nil : EvTs Y s [] fun k => k true := fun k w => ets_nil ⟨rfl, w⟩
theorem ts_one {c : Expr} {V : (Bool → Prop) → Prop} (h : EvT Y s c V) : EvTs Y s [c] V := fun k w => ets_one (h k w)
theorem EvTs.pp {c : List Expr} {V : (Bool → Prop) → Prop} {x : Bool} (h : EvTs Y s c V) (w : V fun y => y = x) : Ets Y s c fun b s' => b = x ∧ s' = s := fun F0 σ H F e0 S => (h _ w F0 σ H F e0 S).mono fun b H' ⟨s', F', e1, S', q1, q2⟩ => ⟨s', F', e1, S', q2, q1⟩
variable {Wc : β → (Bool → Prop) → Prop} {We : β → (α → Prop) → Prop}
/-- a comprehension, its list wanted by W -/
structure LcW (Y : DX) (s : DSt) (scope : Scope) (own : List (Str × Nat)) (t : TgD β) (tg iter elt : Expr) (ifs : List Expr) {α : Type} [Enc α] (W : (List α → Prop) → Prop) : Prop where
  bk : BlkOk Y.X.N Y.X.env.scope scope own
  tg0 : ∀ z, TgOk (blkY Y scope z) tg (t.g Y.X.K) t.ws t.f
  hs : ∀ x, foldedSetIterable iter Y.X.env x = pure x
  run : ∀ k, W k → ∃ G, EvItE (β := β) Y s tg iter G ∧ LcG Y scope (own.map (·.2)) tg elt ifs (t.g Y.X.K) t.ws t.f G fun (ys : List α) s' => s' = s ∧ k ys
theorem c_L {t : TgD β} {own : List (Str × Nat)} {W : (List α → Prop) → Prop} (ok : YOk Y) (h : LcW Y s scope own t tg iter elt ifs W) : EvC Y s (.ListComp elt [⟨tg, iter, ifs, 0⟩] scope pos) W := fun k w => by
  obtain ⟨G, hi, L⟩ := h.run k w
  refine ev_lcE (α := α) ok hi h.bk h.tg0 (fun items s' g => ?_) h.hs
  obtain ⟨Iv, L, h0, hQ⟩ := L items s' g
  exact ⟨Iv, L, h0, fun ys gs iv => ⟨ys, rfl, hQ ys gs iv⟩⟩
/-- x = [..] on one line -/
theorem w1_asgL {t : TgD β} {own : List (Str × Nat)} {W : (List α → Prop) → Prop} {y : Str} {i : Nat} {k : List α → Prop} (ok : YOk Y) (hy : Y.X.N[i]? = some y) (h : LcW Y s scope own t tg iter elt ifs W) (w : W k) (hQ : ∀ ys, k ys → D.nx ⟨s.ρ.set i (some (pu ys)), s.gs⟩)
    (hyl : Y.X.env.scope.names.lookup y = some .local := by rfl) (hsw : swapsWith (.ListComp elt [⟨tg, iter, ifs, 0⟩] scope pos) (some (.Name y py)) spos.line Y.X.env = pure true := by rfl) : W1 Y s (.Assign [.Name y py] (.ListComp elt [⟨tg, iter, ifs, 0⟩] scope pos) spos) D := fun F0 σ H F e0 S => by
  obtain ⟨G, ⟨wi, hp, hw⟩, L⟩ := h.run k w
  have P := ps_setLc (tt := fun σ H Q => ∀ z, WTs (blkX Y.X scope z) ifs σ H Q) (te := fun σ H Q => ∀ z, WE (blkX Y.X scope z) elt σ H Q) ok.calm ok.nd hy hyl hsw hp h.bk (fun s H C cl fp => (h.tg0 ⟨s, H, C, cl, fp⟩).1) (fun s H C cl fp => ⟨fun pins s' σ H' Q I h => (h ⟨s, H, C, cl, fp⟩).run pins s' I⟩) (fun s H C cl fp => ⟨fun pins s' σ H' Q I h => (h ⟨s, H, C, cl, fp⟩).run pins s' I⟩) h.hs
  refine WP.of P ?_
  show tLc wi (t.g Y.X.K) _ _ _ σ H (fun x H1 => gName i x σ H1 (D.to Y F0).nx)
  show wi σ H _
  refine hw F0 σ H F _ e0 S fun J H1 F1 items s' e1 S1 K1 q => ?_
  obtain ⟨Iv, L, h0, hQ2⟩ := L items s' q
  have t := tlc_ok (own := own) (wi := fun _ _ R => R J H1) (F0 := F1) (σ := σ) (H := H1) (Qf := fun x H1 => gName i x σ H1 (D.to Y F0).nx) (fun R k => k J H1 F1 (.refl _) S1 K1) L h0 fun D2 H' F' ys gs e2 S2 iv => by
    obtain ⟨hF, o, ho, hot, vs, ev, rv⟩ := S2.cell (i := 0) (p := D2) (c := lstc ys) rfl
    subst ev
    have S3 := S2.freeze (i := 0) (p := D2) (c := lstc ys) rfl ho
    obtain ⟨es, kk⟩ := hQ2 ys gs iv
    have hq := hQ ys kk
    refine ⟨⟨s'.ρ.set i (some (pu ys)), gs⟩, upd F' D2 (.lst vs), (e1.trans e2).trans (Ext.grow hF), S3.set (A := pu ys) ⟨D2, vs, rfl, .of upd_same, rv.mono (Ext.grow hF)⟩ i, ?_⟩
    rw [← es] at hq
    exact hq
  exact t
/-- quiet turns -/
theorem lcg_quiet (t : TgD β) (own : List (Str × Nat)) (c : β → Bool) (h : β → α) (items : List β) (tg0 : ∀ z, TgOk (blkY Y scope z) tg (t.g Y.X.K) t.ws t.f) (small : items.length ≤ sizeLine)
    (ht : ∀ z x D ys, EvTs (blkY Y scope z) ⟨t.f x (wipeR s.ρ (own.map (·.2))), (D, lstc (α := α) ys) :: s.gs⟩ ifs (Wc x)) (he : ∀ z x D ys, EvC (blkY Y scope z) ⟨t.f x (wipeR s.ρ (own.map (·.2))), (D, lstc (α := α) ys) :: s.gs⟩ elt (We x))
    (hc : ∀ x ∈ items, Wc x fun b => b = c x) (hv : ∀ x ∈ items, c x = true → We x fun y => y = h x) (sub : ∀ j ∈ t.ws, j ∈ own.map (·.2)) :
    ∃ Iv : Nat → List α → Gs → Prop, LcTurns Y s scope (own.map (·.2)) tg elt ifs (t.g Y.X.K) t.ws t.f items Iv ∧ Iv 0 [] s.gs ∧ ∀ ys gs, Iv items.length ys gs → ys = (items.filter c).map h ∧ gs = s.gs :=
  ⟨_, lc_quiet c h tg0 sub small (fun z x D ys hx => (ht z x D ys).pp (hc x hx)) (fun z x D ys hx hcx => (he z x D ys).pp (hv x hx hcx)), ⟨by simp, rfl⟩, fun ys gs ⟨e1, e2⟩ => ⟨by rw [e1, List.take_length], e2⟩⟩
theorem l_lc (t : TgD β) (own : List (Str × Nat)) (c : β → Bool) (h : β → α) (ok : YOk Y) (hi : ItC Y s tg iter W) (bk : BlkOk Y.X.N Y.X.env.scope scope own) (tg0 : ∀ z, TgOk (blkY Y scope z) tg (t.g Y.X.K) t.ws t.f)
    (ht : ∀ z x D ys, EvTs (blkY Y scope z) ⟨t.f x (wipeR s.ρ (own.map (·.2))), (D, lstc (α := α) ys) :: s.gs⟩ ifs (Wc x)) (he : ∀ z x D ys, EvC (blkY Y scope z) ⟨t.f x (wipeR s.ρ (own.map (·.2))), (D, lstc (α := α) ys) :: s.gs⟩ elt (We x))
    (sub : ∀ j ∈ t.ws, j ∈ own.map (·.2) := by decide) (hs : ∀ x, foldedSetIterable iter Y.X.env x = pure x := by intro _; rfl) :
    LcW Y s scope own t tg iter elt ifs fun k => W fun items => items.length ≤ sizeLine ∧ (∀ x ∈ items, Wc x fun b => b = c x) ∧ (∀ x ∈ items, c x = true → We x fun y => y = h x) ∧ k ((items.filter c).map h) :=
  ⟨bk, tg0, hs, fun k w => ⟨_, hi _ w, fun items s' ⟨es, w1, w2, w3, w4⟩ => by
    subst es
    obtain ⟨Iv, L, h0, hQ⟩ := lcg_quiet (Y := Y) (s := s') t own c h items tg0 w1 ht he w2 w3 sub
    exact ⟨Iv, L, h0, fun ys gs iv => by obtain ⟨e1, e2⟩ := hQ ys gs iv; subst e1 e2; exact ⟨rfl, w4⟩⟩⟩⟩
/-- .. with no test -/
theorem l_lc0 (t : TgD β) (own : List (Str × Nat)) (h : β → α) (ok : YOk Y) (hi : ItC Y s tg iter W) (bk : BlkOk Y.X.N Y.X.env.scope scope own) (tg0 : ∀ z, TgOk (blkY Y scope z) tg (t.g Y.X.K) t.ws t.f)
    (he : ∀ z x D ys, EvC (blkY Y scope z) ⟨t.f x (wipeR s.ρ (own.map (·.2))), (D, lstc (α := α) ys) :: s.gs⟩ elt (We x))
    (sub : ∀ j ∈ t.ws, j ∈ own.map (·.2) := by decide) (hs : ∀ x, foldedSetIterable iter Y.X.env x = pure x := by intro _; rfl) :
    LcW Y s scope own t tg iter elt [] fun k => W fun items => items.length ≤ sizeLine ∧ (∀ x ∈ items, We x fun y => y = h x) ∧ k (items.map h) :=
  ⟨bk, tg0, hs, fun k w => ⟨_, hi _ w, fun items s' ⟨es, w1, w3, w4⟩ => by
    subst es
    obtain ⟨Iv, L, h0, hQ⟩ := lcg_quiet (Y := Y) (s := s') (Wc := fun _ k => k true) t own (fun _ => true) h items tg0 w1 (fun _ _ _ _ => ts_nil) he (fun _ _ => rfl) (fun x hx _ => w3 x hx) sub
    exact ⟨Iv, L, h0, fun ys gs iv => by obtain ⟨e1, e2⟩ := hQ ys gs iv; rw [List.filter_eq_self.mpr (fun _ _ => rfl)] at e1; subst e1 e2; exact ⟨rfl, w4⟩⟩⟩⟩
/-- .. the items' data to be found -/
theorem l_lcX (t : TgD β) (own : List (Str × Nat)) (ok : YOk Y) (hi : ItC Y s tg iter W) (bk : BlkOk Y.X.N Y.X.env.scope scope own) (tg0 : ∀ z, TgOk (blkY Y scope z) tg (t.g Y.X.K) t.ws t.f)
    (ht : ∀ z x D ys, EvTs (blkY Y scope z) ⟨t.f x (wipeR s.ρ (own.map (·.2))), (D, lstc (α := α) ys) :: s.gs⟩ ifs (Wc x)) (he : ∀ z x D ys, EvC (blkY Y scope z) ⟨t.f x (wipeR s.ρ (own.map (·.2))), (D, lstc (α := α) ys) :: s.gs⟩ elt (We x))
    (sub : ∀ j ∈ t.ws, j ∈ own.map (·.2) := by decide) (hs : ∀ x, foldedSetIterable iter Y.X.env x = pure x := by intro _; rfl) :
    LcW Y s scope own t tg iter elt ifs fun k => W fun items => items.length ≤ sizeLine ∧ ∃ (c : β → Bool) (h : β → α), (∀ x ∈ items, Wc x fun b => b = c x) ∧ (∀ x ∈ items, c x = true → We x fun y => y = h x) ∧ k ((items.filter c).map h) :=
  ⟨bk, tg0, hs, fun k w => ⟨_, hi _ w, fun items s' ⟨es, w1, c, h, w2, w3, w4⟩ => by
    subst es
    obtain ⟨Iv, L, h0, hQ⟩ := lcg_quiet (Y := Y) (s := s') t own c h items tg0 w1 ht he w2 w3 sub
    exact ⟨Iv, L, h0, fun ys gs iv => by obtain ⟨e1, e2⟩ := hQ ys gs iv; subst e1 e2; exact ⟨rfl, w4⟩⟩⟩⟩
theorem l_lcX0 (t : TgD β) (own : List (Str × Nat)) (ok : YOk Y) (hi : ItC Y s tg iter W) (bk : BlkOk Y.X.N Y.X.env.scope scope own) (tg0 : ∀ z, TgOk (blkY Y scope z) tg (t.g Y.X.K) t.ws t.f)
    (he : ∀ z x D ys, EvC (blkY Y scope z) ⟨t.f x (wipeR s.ρ (own.map (·.2))), (D, lstc (α := α) ys) :: s.gs⟩ elt (We x))
    (sub : ∀ j ∈ t.ws, j ∈ own.map (·.2) := by decide) (hs : ∀ x, foldedSetIterable iter Y.X.env x = pure x := by intro _; rfl) :
    LcW Y s scope own t tg iter elt [] fun k => W fun items => items.length ≤ sizeLine ∧ ∃ h : β → α, (∀ x ∈ items, We x fun y => y = h x) ∧ k (items.map h) :=
  ⟨bk, tg0, hs, fun k w => ⟨_, hi _ w, fun items s' ⟨es, w1, h, w3, w4⟩ => by
    subst es
    obtain ⟨Iv, L, h0, hQ⟩ := lcg_quiet (Y := Y) (s := s') (Wc := fun _ k => k true) t own (fun _ => true) h items tg0 w1 (fun _ _ _ _ => ts_nil) he (fun _ _ => rfl) (fun x hx _ => w3 x hx) sub
    exact ⟨Iv, L, h0, fun ys gs iv => by obtain ⟨e1, e2⟩ := hQ ys gs iv; rw [List.filter_eq_self.mpr (fun _ _ => rfl)] at e1; subst e1 e2; exact ⟨rfl, w4⟩⟩⟩⟩
/-- .. of drawn items -/
theorem l_lcN (t : TgD β) (own : List (Str × Nat)) (ok : YOk Y) (hi : ItC Y s tg iter W) (bk : BlkOk Y.X.N Y.X.env.scope scope own) (tg0 : ∀ z, TgOk (blkY Y scope z) tg (t.g Y.X.K) t.ws t.f)
    (he : ∀ z x D ys, EvC (blkY Y scope z) ⟨t.f x (wipeR s.ρ (own.map (·.2))), (D, lstc (α := α) ys) :: s.gs⟩ elt (We x))
    (sub : ∀ j ∈ t.ws, j ∈ own.map (·.2) := by decide) (hs : ∀ x, foldedSetIterable iter Y.X.env x = pure x := by intro _; rfl) :
    LcW Y s scope own t tg iter elt [] fun k => W fun items => items.length ≤ sizeLine ∧ ∃ P : β → α → Prop, (∀ x ∈ items, We x (P x)) ∧ ∀ ys, Each P items ys → k ys :=
  ⟨bk, tg0, hs, fun k w => ⟨_, hi _ w, fun items s' ⟨es, w1, P, w3, w4⟩ => by
    subst es
    refine ⟨fun i ys gs => gs = s'.gs ∧ i ≤ items.length ∧ Each P (items.take i) ys, ⟨tg0, sub, fun i ys gs ⟨_, _, h⟩ hi => ?_, fun z i x ys gs D hx ⟨eg, hi, h⟩ => ?_⟩, ⟨rfl, Nat.zero_le _, .nil⟩, fun ys gs ⟨eg, _, h⟩ => ?_⟩
    · rw [h.len, List.length_take]
      omega
    · subst eg
      refine ets_nil ?_
      rw [if_pos rfl]
      intro z'
      have hm : x ∈ items := List.mem_of_getElem? hx
      refine (he z' x D ys).q (w3 x hm) fun y py => ⟨y, s'.gs, rfl, rfl, rfl, ?_, ?_⟩
      · exact (List.getElem?_eq_some_iff.mp hx).1
      · rw [List.take_add_one, hx]
        exact h.snoc py
    · subst eg
      rw [List.take_length] at h
      exact ⟨rfl, w4 ys h⟩⟩⟩
end
end Sp
set_option maxHeartbeats 4000000
/-! Sp: calls of defs, methods, classes; the telling def; generator expressions; to what is wanted. -/
namespace Sp
open PySem L2
open PySem.W (Datum DatumOrd SomeDatum)
/-- the program's own errors -/
inductive Ex
  | BadWord | BadRule | BadCount | NoSuch | NoWay | TooLarge | BadDeed
  | BadText (row : Int)
  | BadPaper (part : Int)
deriving DecidableEq
def exK (K : Frag) : Ex → Exc
  | .BadWord => ⟨He.ga K "BadWord", none⟩
  | .BadRule => ⟨He.ga K "BadRule", none⟩
  | .BadCount => ⟨He.ga K "BadCount", none⟩
  | .NoSuch => ⟨He.ga K "NoSuch", none⟩
  | .NoWay => ⟨He.ga K "NoWay", none⟩
  | .TooLarge => ⟨He.ga K "TooLarge", none⟩
  | .BadDeed => ⟨He.ga K "BadDeed", none⟩
  | .BadText r => ⟨He.ga K "BadText", some r⟩
  | .BadPaper r => ⟨He.ga K "BadPaper", some r⟩
/-- no error -/
def NoE : Ex → Prop := fun _ => False
/-- what a def's caller needs: the end is k, an error is E -/
def Cl {ρ : Type} (w : (ρ → Prop) → (Ex → Prop) → Prop) (k : ρ → Prop) (E : Ex → Prop) : Prop := ∃ (R0 : ρ → Prop) (E0 : Ex → Prop), w R0 E0 ∧ (∀ r, R0 r → k r) ∧ ∀ e, E0 e → E e
/-- errors leave as E says, the cells that are left being G0 -/
structure YE (Y : DX) (G0 : Gs → Prop) (E : Ex → Prop) : Prop where
  ok : YOk Y
  ex : ∀ e s', (∃ n, G0 (s'.gs.drop n)) → E e → Y.ex (exK Y.X.K e) s'
theorem YE.blk {Y : DX} {G0 : Gs → Prop} {E : Ex → Prop} {scope : Scope} {z : BCx} (h : YE Y G0 E) : YE (blkY Y scope z) (fun _ => True) NoE := ⟨h.ok.blk, fun _ _ _ h => h.elim⟩
theorem YE.gen {Y : DX} {k : Nat} {scope : Scope} {z : GCx} (o : YOk (genY Y k scope z)) : YE (genY Y k scope z) (fun _ => True) NoE := ⟨o, fun _ _ _ h => h.elim⟩
/-! promises -/
/-- a def over frozen data -/
def spF {τ ρ : Type} [Ags τ] [Enc ρ] (K : Frag) (w : τ → (ρ → Prop) → (Ex → Prop) → Prop) : DSp := fun As gs R E => ∃ t, As = Ags.pvs t ∧ gs = [] ∧ ∃ R0 E0, w t R0 E0 ∧ (∀ r, R0 r → R (pu r) []) ∧ ∀ e, E0 e → E (exK K e) []
theorem spF_mono {τ ρ : Type} [Ags τ] [Enc ρ] {K : Frag} {w : τ → (ρ → Prop) → (Ex → Prop) → Prop} : DMono (spF K w) := fun As gs R R' E E' h1 h2 ⟨t, e1, e2, R0, E0, hw, hr, he⟩ => ⟨t, e1, e2, R0, E0, hw, fun r q => h1 _ _ (hr r q), fun e q => h2 _ _ (he e q)⟩
/-- .. of a def that rolls the dice: it raises nothing -/
def ClD {ρ : Type} (w : (ρ → Prop) → (Ex → Prop) → Prop) (k : ρ → Prop) : Prop := ∃ R0 : ρ → Prop, w R0 NoE ∧ ∀ r, R0 r → k r
def spD {τ ρ : Type} [Ags τ] [Enc ρ] (w : τ → (ρ → Prop) → (Ex → Prop) → Prop) : DSp := fun As gs R E => ∃ q t, As = raw (.ref q) :: Ags.pvs t ∧ gs = [(q, dicec)] ∧ ClD (w t) fun r => R (pu r) [(q, dicec)]
theorem spD_mono {τ ρ : Type} [Ags τ] [Enc ρ] {w : τ → (ρ → Prop) → (Ex → Prop) → Prop} : DMono (spD w) := fun As gs R R' E E' h1 h2 ⟨q, t, e1, e2, R0, hw, hr⟩ => ⟨q, t, e1, e2, R0, hw, fun r q => h1 _ _ (hr r q)⟩
/-- own objects as data -/
class Ob (α : Type) where
  cls : Str
  flds : α → Flds
@[reducible] def obEnc {α : Type} (o : Ob α) : Enc α := ⟨fun K F v m => (insP (He.ga K o.cls) (o.flds m)).rep K F v, fun {K F F' v a} h e => Pv.mono _ h e⟩
/-- an __init__ -/
def spI {τ ρ : Type} [Ags τ] [o : Ob ρ] (K : Frag) (w : τ → (ρ → Prop) → (Ex → Prop) → Prop) : DSp := fun As gs R E => ∃ q t, As = raw (.ref q) :: Ags.pvs t ∧ gs = [(q, insc (He.ga K o.cls) [])] ∧ ∃ R0 E0, w t R0 E0 ∧ (∀ r, R0 r → R (pu ()) [(q, insc (He.ga K o.cls) (o.flds r))]) ∧ ∀ e, E0 e → ∀ fs, E (exK K e) [(q, insc (He.ga K o.cls) fs)]
theorem spI_mono {τ ρ : Type} [Ags τ] [Ob ρ] {K : Frag} {w : τ → (ρ → Prop) → (Ex → Prop) → Prop} : DMono (spI K w) := fun As gs R R' E E' h1 h2 ⟨q, t, e1, e2, R0, E0, hw, hr, he⟩ => ⟨q, t, e1, e2, R0, E0, hw, fun r q => h1 _ _ (hr r q), fun e q fs => h2 _ _ (he e q fs)⟩
section
variable {Y : DX} {s : DSt} {e a b c o tg iter elt : Expr} {es ifs : List Expr} {pos p apos lpos gpos : Pos} {τ ρ α β : Type} [Ags τ] [Enc ρ] [Enc α] [Enc β] {G0 : Gs → Prop} {E : Ex → Prop} {V : (τ → Prop) → Prop} {w : τ → (ρ → Prop) → (Ex → Prop) → Prop} {ps : List Str} {j : Nat}
theorem c_call {x : Str} (n : Nat) (ye : YE Y G0 E) (G : Df Y.X.prog Y.X.w Y.X.K Y.X.mg Y.X.base Y.T j x ps (spF Y.X.K w)) (hj : j ≤ Y.k) (hg : Gl Y.X x) (h : EvA Y s (e :: es) V) (hl : ∀ t : τ, (Ags.pvs t).length = ps.length) (hn : G0 (s.gs.drop n))
    (hdb : (x == ("__debug__" : Str)) = false := by decide) (he : starEach (e :: es) Y.X.env = (false, eval e Y.X.env) :: starEach es Y.X.env := by exact star_c rfl) (hpl : (backTo pos (starEach es Y.X.env)).any (·.1) = false := by exact star_any rfl) : EvC Y s (.Call (.Name x p) (e :: es) [] pos) fun k => V fun t => Cl (w t) k E := fun k ww =>
  ev_call G ye.ok hj hg ((h _ ww).mono fun As s1 ⟨t, ea, es, R0, E0, w0, hr, hE⟩ => by
    subst es
    exact ⟨by rw [ea]; exact hl t, [], s1.gs, .refl _, t, ea, rfl, R0, E0, w0, fun r q => ⟨r, rfl, rfl, hr r q⟩, fun e q => ye.ex e _ ⟨n, hn⟩ (hE e q)⟩) hdb he hpl
theorem c_call0 {x : Str} {w : Unit → (ρ → Prop) → (Ex → Prop) → Prop} (n : Nat) (ye : YE Y G0 E) (G : Df Y.X.prog Y.X.w Y.X.K Y.X.mg Y.X.base Y.T j x ps (spF Y.X.K w)) (hj : j ≤ Y.k) (hg : Gl Y.X x) (hl : ps.length = 0) (hn : G0 (s.gs.drop n))
    (hdb : (x == ("__debug__" : Str)) = false := by decide) : EvC Y s (.Call (.Name x p) [] [] pos) fun k => Cl (w ()) k E := fun k ⟨R0, E0, w0, hr, hE⟩ =>
  ev_call0 G ye.ok hj hg ⟨hl, [], s.gs, .refl _, (), rfl, rfl, R0, E0, w0, fun r q => ⟨r, rfl, rfl, hr r q⟩, fun e q => ye.ex e _ ⟨n, hn⟩ (hE e q)⟩ hdb
/-- with the dice in front -/
theorem perm_front {α : Type} : ∀ {l : List α} {i : Nat} {x : α}, l[i]? = some x → l.Perm ([x] ++ l.eraseIdx i)
  | [], i, x, h => by simp at h
  | y :: l, 0, x, h => by simp at h; subst h; exact .refl _
  | y :: l, i + 1, x, h => by
    have ih := perm_front (l := l) (i := i) (x := x) (by simpa using h)
    rw [List.eraseIdx_cons_succ]
    exact (ih.cons y).trans (.swap _ _ _)
theorem c_callD {x y : Str} {q : Addr} {py : Pos} (i g : Nat) (ok : YOk Y) (G : Df Y.X.prog Y.X.w Y.X.K Y.X.mg Y.X.base Y.T j x ps (spD w)) (hj : j ≤ Y.k) (hg : Gl Y.X x) (h : EvA Y s es V) (hN : Y.X.N[i]? = some y) (hρ : s.ρ[i]? = some (some (raw (.ref q)))) (hd : s.gs[g]? = some (q, dicec)) (hl : ∀ t : τ, (Ags.pvs t).length + 1 = ps.length)
    (hv : Vis Y.X.env.scope y := by first | exact .inl rfl | exact .inr (.inl rfl) | exact .inr (.inr rfl)) (hd1 : (y == ("__debug__" : Str)) = false := by decide) (hcd : (y == ("__classdict__" : Str)) = false := by decide)
    (hdb : (x == ("__debug__" : Str)) = false := by decide) (he : starEach (.Name y py :: es) Y.X.env = (false, eval (.Name y py) Y.X.env) :: starEach es Y.X.env := by exact star_c rfl) (hpl : (backTo pos (starEach es Y.X.env)).any (·.1) = false := by exact star_any rfl) : EvC Y s (.Call (.Name x p) (.Name y py :: es) [] pos) fun k => V fun t => ClD (w t) k := fun k ww =>
  ev_perm (ev_call G ok hj hg (evs_cons (.of (evp_v i hN hρ hv hd1 hcd) ((h _ ww).mono fun As s1 ⟨t, ea, es, R0, w0, hr⟩ => by
    subst es
    exact ⟨by rw [ea, List.length_cons]; exact hl t, _, _, perm_front hd, q, t, by rw [ea], rfl, R0, w0, fun r qq => ⟨_, (perm_front hd).symm, r, rfl, rfl, hr r qq⟩⟩)) he) hdb he hpl)
/-! own objects -/
theorem ev_as {Q : Pv → DSt → Prop} (h : Ev Y s e fun A s' => ∃ B, (∀ F v, A.rep Y.X.K F v → B.rep Y.X.K F v) ∧ Q B s') : Ev Y s e Q := fun F0 σ H F e0 S => (h F0 σ H F e0 S).mono fun v H' ⟨A, s', F', e1, r, S', B, hb, q⟩ => ⟨B, s', F', e1, hb _ _ r, S', q⟩
section
variable {γ : Type} [og : Ob γ] [eg : Enc γ]
/-- γ's data stand as its own objects -/
class ObOk (γ : Type) [Ob γ] [Enc γ] : Prop where
  eq : ∀ {K F v} {m : γ}, Enc.rep K F v m ↔ (insP (He.ga K (Ob.cls γ)) (Ob.flds m)).rep K F v
theorem ia_ob [ObOk γ] {m : γ} : IA Y s (pu m) (He.ga Y.X.K (Ob.cls γ)) (Ob.flds m) := fun σ H F v S r => IA.pu σ H F v S (ObOk.eq.mp r)
/-- o.f -/
theorem c_fld [ObOk γ] {f : Str} {W : (γ → Prop) → Prop} (get : γ → α) (c : Cls Y.X.K (He.ga Y.X.K (Ob.cls γ))) (nn : NoAttr Y.X.K (He.ga Y.X.K (Ob.cls γ)) f) (ho : EvC Y s o W) (l : ∀ m : γ, (Ob.flds m).lookup f = some (pu (get m)) := by intro _; rfl) (hb : attributeBase o f Y.X.env (eval o Y.X.env) = eval o Y.X.env := by exact ab_ok rfl) : EvC Y s (.Attribute o f pos) fun k => W fun m => k (get m) := fun k w F0 σ H F e0 S => by
  refine .of (pe_fld pe_we hb) ((ho _ w F0 σ H F e0 S).mono fun v H1 ⟨_, _, F1, e1, r1, S1, m, ea, es, ww⟩ => ?_)
  subst ea es
  obtain ⟨a, dx, vs, ev, ha, rf⟩ := ia_ob σ H1 F1 v S1 r1
  obtain ⟨u, l2, ru⟩ := fr_look rf (l m)
  exact ⟨a, _, dx, vs, u, ev, ha, c, nn, l2, _, _, F1, e1, ru, S1, _, rfl, rfl, ww⟩
/-- a method of frozen data -/
theorem c_meth [ObOk γ] {m : Str} {Wo : (γ → Prop) → Prop} {w : γ × τ → (ρ → Prop) → (Ex → Prop) → Prop} {pl : Sem Bool} (n : Nat) (ye : YE Y G0 E) (G : Mt Y.X.prog Y.X.w Y.X.K Y.X.mg Y.X.base Y.T j (He.ga Y.X.K (Ob.cls γ)) m ps (spF Y.X.K w)) (c : Cls Y.X.K (He.ga Y.X.K (Ob.cls γ))) (hj : j ≤ Y.k) (ho : EvC Y s o Wo) (h : EvA Y s (e :: es) V) (hl : ∀ t : τ, (Ags.pvs t).length + 1 = ps.length) (hn : G0 (s.gs.drop n))
    (hf : ∀ x : γ, (Ob.flds x).lookup m = none := by intro _; rfl) (hst : starEach (e :: es) Y.X.env = (false, eval e Y.X.env) :: starEach es Y.X.env := by exact star_c rfl) (hpl : (backTo pos (starEach es Y.X.env)).any (·.1) = false := by exact star_any rfl)
    (ht : eval (.Call (.Attribute o m apos) (e :: es) [] pos) Y.X.env = (do
      let ov ← eval o Y.X.env
      standAt apos.atName
      let (f, first) ← holding [ov] (getMethod ov m pl)
      callWith pos f first (backTo pos (starEach (e :: es) Y.X.env)) (backToKw pos (keywordEach [] Y.X.env))) := by rfl) : EvC Y s (.Call (.Attribute o m apos) (e :: es) [] pos) fun k => Wo fun x => V fun t => Cl (w (x, t)) k E := fun k ww F0 σ H F e0 S => by
  obtain ⟨⟨f, fd, F1, hm, hb⟩, mono⟩ := G
  refine .of (pe_methS (E := L2.WE (wxOf Y)) pe_we c hm F1 (ye.ok.room.mono hj) hb (fun σ => passAt ye.ok.tk σ) pa_wa hst hpl ht) ?_
  refine (ho _ ww F σ H F (.refl _) S).mono fun v H1 ⟨_, _, F1, e1, r1, S1, x, ea, es, ww⟩ => ?_
  subst ea es
  obtain ⟨a, dx, vs, ev, ha, rf⟩ := ia_ob σ H1 F1 v S1 r1
  refine ⟨a, dx, vs, ev, ha, fr_no rf (hf x), ?_⟩
  refine (h _ ww F1 σ H1 F1 (.refl _) S1).mono fun us H2 ⟨_, _, F2, e2, r2, S2, t, ea, es, R0, E0, w0, hr, hE⟩ => ?_
  subst ea es
  refine sp_call (gs1 := []) ((e0.trans e1).trans e2) S2 (.cons ((pu x).mono r1 e2) r2) (by rw [List.length_cons]; exact hl t) (.refl _) ?_ (mono _ _)
  exact ⟨(x, t), rfl, rfl, R0, E0, w0, fun r q => ⟨r, rfl, rfl, hr r q⟩, fun e q => ye.ex e _ ⟨n, hn⟩ (hE e q)⟩
theorem c_meth0 [ObOk γ] {m : Str} {Wo : (γ → Prop) → Prop} {w : γ × Unit → (ρ → Prop) → (Ex → Prop) → Prop} {pl : Sem Bool} (n : Nat) (ye : YE Y G0 E) (G : Mt Y.X.prog Y.X.w Y.X.K Y.X.mg Y.X.base Y.T j (He.ga Y.X.K (Ob.cls γ)) m ps (spF Y.X.K w)) (c : Cls Y.X.K (He.ga Y.X.K (Ob.cls γ))) (hj : j ≤ Y.k) (ho : EvC Y s o Wo) (hl : 1 = ps.length) (hn : G0 (s.gs.drop n))
    (hf : ∀ x : γ, (Ob.flds x).lookup m = none := by intro _; rfl)
    (ht : eval (.Call (.Attribute o m apos) [] [] pos) Y.X.env = (do
      let ov ← eval o Y.X.env
      standAt apos.atName
      let (f, first) ← holding [ov] (getMethod ov m pl)
      callWith pos f first (backTo pos (starEach [] Y.X.env)) (backToKw pos (keywordEach [] Y.X.env))) := by rfl) : EvC Y s (.Call (.Attribute o m apos) [] [] pos) fun k => Wo fun x => Cl (w (x, ())) k E := fun k ww F0 σ H F e0 S => by
  obtain ⟨⟨f, fd, F1, hm, hb⟩, mono⟩ := G
  refine .of (pe_methS0 (E := L2.WE (wxOf Y)) pe_we c hm F1 (ye.ok.room.mono hj) hb (fun σ => passAt ye.ok.tk σ) ht) ?_
  refine (ho _ ww F σ H F (.refl _) S).mono fun v H1 ⟨_, _, F1, e1, r1, S1, x, ea, es, R0, E0, w0, hr, hE⟩ => ?_
  subst ea es
  obtain ⟨a, dx, vs, ev, ha, rf⟩ := ia_ob σ H1 F1 v S1 r1
  refine ⟨a, dx, vs, ev, ha, fr_no rf (hf x), sp_call (gs1 := []) (e0.trans e1) S1 (.cons r1 .nil) hl (.refl _) ?_ (mono _ _)⟩
  exact ⟨(x, ()), rfl, rfl, R0, E0, w0, fun r q => ⟨r, rfl, rfl, hr r q⟩, fun e q => ye.ex e _ ⟨n, hn⟩ (hE e q)⟩
/-- C(..), the new object frozen -/
theorem ev_makeE {x : Str} {C : Addr} {Q : Pv → DSt → Prop} {dd : DSp} (G : Mkr Y.X.prog Y.X.w Y.X.K Y.X.mg Y.X.base Y.T j x C ps dd) (ok : YOk Y) (hj : j + 1 ≤ Y.k) (hg : Gl Y.X x)
    (h : Evs Y s (e :: es) fun As s1 => As.length + 1 = ps.length ∧ ∀ q, ∃ gs1 gs2, s1.gs.Perm (gs1 ++ gs2) ∧ dd (raw (.ref q) :: As) ((q, insc C []) :: gs1)
      (fun A gs' => A = pu () ∧ ∃ fs gs3, gs' = (q, insc C fs) :: gs3 ∧ Q (insP C fs) ⟨s1.ρ, gs3 ++ gs2⟩) (fun e gs' => Y.ex e ⟨s1.ρ, gs' ++ gs2⟩))
    (hdb : (x == ("__debug__" : Str)) = false := by decide) (he : starEach (e :: es) Y.X.env = (false, eval e Y.X.env) :: starEach es Y.X.env := by exact star_c rfl) (hpl : (backTo pos (starEach es Y.X.env)).any (·.1) = false := by exact star_any rfl) : Ev Y s (.Call (.Name x p) (e :: es) [] pos) Q := fun F0 σ H F e0 S => by
  obtain ⟨⟨f, fd, F1, M, hb⟩, hm, mono⟩ := G
  refine .of (pe_makeS (E := L2.WE (wxOf Y)) M F1 (ok.room.mono hj) hg hm hb (fun σ => passAt ok.tk σ) pa_wa hdb he hpl) ?_
  refine (h F0 σ H F e0 S).mono fun us H1 ⟨As, s1, F1, e1, r1, S1, hl, k⟩ => ?_
  intro q dx hq hdx hne
  obtain ⟨gs1, gs2, hp, hd⟩ := k q
  have S2 := S1.newF (o := .own q) hdx rfl
  have hq2 : (upd H1 dx (.own q)) q = none := by rw [upd_ne (Ne.symm hne)]; exact hq
  have S3 := S2.newO (o := .ins C dx []) (c := insc C []) hq2 rfl ⟨dx, [], rfl, .nil⟩
  have hp3 : ((q, insc C []) :: s1.gs).Perm (((q, insc C []) :: gs1) ++ gs2) := hp.cons _
  have e2 : Ext F1 (upd F1 dx (.own q)) := Ext.grow (S1.free hdx)
  have sp := sp_call (Q := fun A s' => A = pu () ∧ ∃ fs gs3, s'.gs = (q, insc C fs) :: gs3 ∧ s'.ρ = s1.ρ ∧ Q (insP C fs) ⟨s1.ρ, gs3⟩) (As := raw (.ref q) :: As) (n := ps.length) (d := dd) (F0 := F0) (e1.trans e2) S3 (.cons rfl (r1.mono e2)) (by rw [List.length_cons]; exact hl) hp3
    (mono _ _ _ _ _ _ (fun A g ⟨ea, fs, gs3, eg, q2⟩ => ⟨ea, fs, gs3 ++ gs2, by rw [eg]; rfl, rfl, q2⟩) (fun e g q2 => q2) hd) (mono _ _)
  obtain ⟨hlen, As', gs', F', rr, G', d'⟩ := sp
  refine ⟨hlen, As', gs', F', rr, G', mono _ _ _ _ _ _ (fun A g q3 v H' F'' ra G2 st => ?_) (fun e g q3 => q3) d'⟩
  obtain ⟨B, s4, F4, e4, r4, S4, eb, fs, gs3, eg, eρ, q4⟩ := q3 v H' F'' ra G2 st
  have hc : s4.gs[0]? = some (q, insc C fs) := by rw [eg]; rfl
  obtain ⟨hF, oo, hoo, _, dx2, vs, eo, rv⟩ := S4.cell hc
  subst eo
  have S5 := S4.freeze hc hoo
  have eg5 : s4.gs.eraseIdx 0 = gs3 := by rw [eg]; rfl
  rw [eg5, eρ] at S5
  subst eb
  exact ⟨r4, insP C fs, _, _, e4.trans (Ext.grow hF), ⟨q, dx2, vs, rfl, upd_same, rv.mono (Ext.grow hF)⟩, S5, q4⟩
theorem c_make [ObOk γ] {x : Str} {w : τ → (γ → Prop) → (Ex → Prop) → Prop} (n : Nat) (ye : YE Y G0 E) (G : Mkr Y.X.prog Y.X.w Y.X.K Y.X.mg Y.X.base Y.T j x (He.ga Y.X.K (Ob.cls γ)) ps (spI Y.X.K w)) (hj : j + 1 ≤ Y.k) (hg : Gl Y.X x) (h : EvA Y s (e :: es) V) (hl : ∀ t : τ, (Ags.pvs t).length + 1 = ps.length) (hn : G0 (s.gs.drop n))
    (hdb : (x == ("__debug__" : Str)) = false := by decide) (he : starEach (e :: es) Y.X.env = (false, eval e Y.X.env) :: starEach es Y.X.env := by exact star_c rfl) (hpl : (backTo pos (starEach es Y.X.env)).any (·.1) = false := by exact star_any rfl) : EvC Y s (.Call (.Name x p) (e :: es) [] pos) fun k => V fun t => Cl (w t) k E := fun k ww =>
  ev_as (ev_makeE G ye.ok hj hg ((h _ ww).mono fun As s1 ⟨t, ea, es, R0, E0, w0, hr, hE⟩ => by
    subst ea es
    refine ⟨hl t, fun q => ⟨[], _, .refl _, q, t, rfl, rfl, R0, E0, w0, fun r qq => ⟨rfl, _, [], rfl, pu r, fun F v h => ObOk.eq.mpr h, r, rfl, rfl, hr r qq⟩, fun e qq fs => ye.ex e _ ⟨n + 1, ?_⟩ (hE e qq)⟩⟩
    exact hn) hdb he hpl)
end
end
end Sp
set_option maxHeartbeats 4000000
/-! Sp: the telling def; generator expressions; to what is wanted. -/
namespace Sp
open PySem L2
open PySem.W (Datum DatumOrd SomeDatum)
section
variable {Y : DX} {s : DSt} {e a b c o tg iter elt body : Expr} {es ifs : List Expr} {pos p apos lpos gpos : Pos} {α β : Type} [Enc α] [Enc β] {G0 : Gs → Prop} {E : Ex → Prop} {k : Nat} {scope : Scope}
/-- cells forgotten -/
theorem Sta.dropN {σ : St} {H F : Hp} : ∀ (n : Nat) {s : DSt}, Sta Y s σ H F → Sta Y ⟨s.ρ, s.gs.drop n⟩ σ H F
  | 0, s, S => S
  | n + 1, s, S => by
    have S1 := S.drop 0
    rw [List.eraseIdx_zero] at S1
    have S2 := Sta.dropN n S1
    rw [show s.gs.drop (n + 1) = s.gs.tail.drop n by rw [← List.drop_one, List.drop_drop, Nat.add_comm]]
    exact S2
theorem ev_dropN {Q : Pv → DSt → Prop} (h : Ev Y s e fun A s' => ∃ n, Q A ⟨s'.ρ, s'.gs.drop n⟩) : Ev Y s e Q := fun F0 σ H F e0 S => (h F0 σ H F e0 S).mono fun v H1 ⟨A, s1, F1, e1, r1, S1, n, q⟩ => ⟨A, _, F1, e1, r1, S1.dropN n, q⟩
/-- the lambda's place -/
structure LZ where
  A : Around
  outer : List Env
  s1 : Shared
  Hc : Hp
  E : XK
  f : Addr
  c' : Addr
  H : Hp
  F : Hp
  ex : Exc → DSt → Prop
abbrev lzY (Y : DX) (k : Nat) (scope : Scope) (gs : Gs) (z : LZ) : DX := lamY Y k z.A z.outer z.s1 z.Hc z.E scope z.f z.c' z.H z.F gs z.ex
/-- x(lambda: body), x the telling def; its own errors are told by tl -/
theorem c_told {x : Str} {l : Cls_} {params : Arguments} {We : (Ex → Prop) → (α → Prop) → Prop} (k : Nat) (inj : α → β) (tin : Txt → β) (tl : Ex → Option Txt) (G : Told Y.X x l) (htl : ∀ e t, tl e = some t → Tell Y.X.K l (exK Y.X.K e).C t) (tb : Tbl Y.X Y.T (Y.X.env.qual ++ "<lambda>")) (ok : YOk Y) (hk : k + 2 ≤ Y.k) (hg : Gl Y.X x) (L : LamX.LamS Y.X.env.scope scope)
    (hi : ∀ K F v (m : α), Enc.rep K F v m → Enc.rep K F v (inj m)) (ht : ∀ K F v (m : Txt), Enc.rep K F v m → Enc.rep K F v (tin m))
    (h : ∀ (z : LZ) (E : Ex → Prop), YE (lzY Y k scope s.gs z) (fun gs => gs = s.gs) E → EvC (lzY Y k scope s.gs z) s body (We E))
    (hdef : defaultsOf params Y.X.env = ([], []) := by rfl) (hbind : ∀ (q : Str) (cl : List (Str × Addr)) (pm cv ctv : Value), bindArgs (PySem.W.kla_fn "<lambda>" q params body scope cl pm cv ctv) ⟨[], []⟩ = pure [] := by intros; rfl)
    (hdb : (x == ("__debug__" : Str)) = false := by decide) : EvC Y s (.Call (.Name x p) [.Lambda params body scope lpos] [] pos) fun kk => We (fun e => ∃ t, tl e = some t ∧ kk (tin t)) fun r => kk (inj r) := fun kk w =>
  ev_as (ev_dropN (ev_told G tb ok hk hg L (fun A outer s1 Hc E0 f c' H F => by
    intro Y' ok'
    refine (h ⟨A, outer, s1, Hc, E0, f, c', H, F, _⟩ _ ⟨ok', fun e s' ⟨n, hn⟩ he => ?_⟩).q w fun r hr => ?_
    · obtain ⟨t, h1, h2⟩ := he
      exact ⟨t, htl e t h1, n, pu (tin t), fun F v r => ht _ _ _ _ r, tin t, rfl, by rw [hn], h2⟩
    · exact ⟨0, pu (inj r), fun F v q => hi _ _ _ _ q, inj r, rfl, rfl, hr⟩) hdef hbind hdb))
/-! generator expressions -/
theorem ItC.pp {W : (List β → Prop) → Prop} {items : List β} (h : ItC Y s tg iter W) (w : W fun is => is = items) : EvIt Y s tg iter items := by
  obtain ⟨wi, h1, h2⟩ := h _ w
  exact ⟨wi, h1, fun F0 σ H F R e0 S k => h2 F0 σ H F R e0 S fun J H' F' is s' e1 S1 K1 ⟨g1, g2⟩ => by subst g1 g2; exact k J H' F' e1 S1 K1⟩
section
variable {W : (List β → Prop) → Prop} {Wc : β → (Bool → Prop) → Prop}
theorem gturns {γ : Type} [Enc γ] {We : β → (γ → Prop) → Prop} (t : TgD β) (k : Nat) (vs : List Nat) (items : List β) (c : β → Bool) (h : β → γ) (tg0 : ∀ z, TgOk (genY Y k scope z) tg (t.g Y.X.K) t.ws t.f)
    (ht : ∀ z, YOk (genY Y k scope z) → ∀ x, EvTs (genY Y k scope z) ⟨t.f x (wipeR s.ρ vs), s.gs⟩ ifs (Wc x)) (he : ∀ z, YOk (genY Y k scope z) → ∀ x, EvC (genY Y k scope z) ⟨t.f x (wipeR s.ρ vs), s.gs⟩ elt (We x))
    (hc : ∀ x ∈ items, Wc x fun b => b = c x) (hv : ∀ x ∈ items, c x = true → We x fun y => y = h x) (sub : ∀ j ∈ t.ws, j ∈ vs) : GTurns Y k s scope vs tg elt ifs (t.g Y.X.K) t.ws t.f items c h :=
  ⟨tg0, sub, fun z o x hx => (ht z o x).pp (hc x hx), fun z o x hx hcx => (he z o x).pp (hv x hx hcx)⟩
theorem c_any {We : β → (Bool → Prop) → Prop} (t : TgD β) (k : Nat) (vs : List Nat) (items : List β) (c h : β → Bool) (ok : YOk Y) (B : Bis Y.X.mg) (hg : Gl Y.X "any") (hk : k + 2 ≤ Y.k) (hi : ItC Y s tg iter W) (G : GenOk Y.X.N Y.X.env.scope scope vs) (tb : Tbl Y.X Y.T (Y.X.env.qual ++ "<genexpr>")) (tg0 : ∀ z, TgOk (genY Y k scope z) tg (t.g Y.X.K) t.ws t.f)
    (ht : ∀ z, YOk (genY Y k scope z) → ∀ x, EvTs (genY Y k scope z) ⟨t.f x (wipeR s.ρ vs), s.gs⟩ ifs (Wc x)) (he : ∀ z, YOk (genY Y k scope z) → ∀ x, EvC (genY Y k scope z) ⟨t.f x (wipeR s.ρ vs), s.gs⟩ elt (We x)) (sub : ∀ j ∈ t.ws, j ∈ vs := by decide) (hs : ∀ x, genFold iter Y.X.env x = pure x := by intro _; rfl)
    (hst : starEach [.GeneratorExp elt [⟨tg, iter, ifs, 0⟩] scope gpos] Y.X.env = (false, eval (.GeneratorExp elt [⟨tg, iter, ifs, 0⟩] scope gpos) Y.X.env) :: starEach [] Y.X.env := by exact star_c rfl) :
    EvC Y s (.Call (.Name "any" p) [.GeneratorExp elt [⟨tg, iter, ifs, 0⟩] scope gpos] [] pos) fun kk => (W fun is => is = items) ∧ (∀ x ∈ items, Wc x fun b => b = c x) ∧ (∀ x ∈ items, c x = true → We x fun y => y = h x) ∧ kk ((items.filter c).any h) := fun kk ⟨w1, w2, w3, w4⟩ =>
  .of ((evp_any ok B hg hk (hi.pp w1) G tb (gturns t k vs items c h tg0 ht he w2 w3 sub) hs hst).to (by rw [List.any_map]; rfl)) ⟨_, rfl, rfl, w4⟩
theorem c_all {We : β → (Bool → Prop) → Prop} (t : TgD β) (k : Nat) (vs : List Nat) (items : List β) (c h : β → Bool) (ok : YOk Y) (B : Bis Y.X.mg) (hg : Gl Y.X "all") (hk : k + 2 ≤ Y.k) (hi : ItC Y s tg iter W) (G : GenOk Y.X.N Y.X.env.scope scope vs) (tb : Tbl Y.X Y.T (Y.X.env.qual ++ "<genexpr>")) (tg0 : ∀ z, TgOk (genY Y k scope z) tg (t.g Y.X.K) t.ws t.f)
    (ht : ∀ z, YOk (genY Y k scope z) → ∀ x, EvTs (genY Y k scope z) ⟨t.f x (wipeR s.ρ vs), s.gs⟩ ifs (Wc x)) (he : ∀ z, YOk (genY Y k scope z) → ∀ x, EvC (genY Y k scope z) ⟨t.f x (wipeR s.ρ vs), s.gs⟩ elt (We x)) (sub : ∀ j ∈ t.ws, j ∈ vs := by decide) (hs : ∀ x, genFold iter Y.X.env x = pure x := by intro _; rfl)
    (hst : starEach [.GeneratorExp elt [⟨tg, iter, ifs, 0⟩] scope gpos] Y.X.env = (false, eval (.GeneratorExp elt [⟨tg, iter, ifs, 0⟩] scope gpos) Y.X.env) :: starEach [] Y.X.env := by exact star_c rfl) :
    EvC Y s (.Call (.Name "all" p) [.GeneratorExp elt [⟨tg, iter, ifs, 0⟩] scope gpos] [] pos) fun kk => (W fun is => is = items) ∧ (∀ x ∈ items, Wc x fun b => b = c x) ∧ (∀ x ∈ items, c x = true → We x fun y => y = h x) ∧ kk ((items.filter c).all h) := fun kk ⟨w1, w2, w3, w4⟩ =>
  .of ((evp_all ok B hg hk (hi.pp w1) G tb (gturns t k vs items c h tg0 ht he w2 w3 sub) hs hst).to (by rw [List.all_map]; rfl)) ⟨_, rfl, rfl, w4⟩
theorem c_sumG {We : β → (Int → Prop) → Prop} (t : TgD β) (k : Nat) (vs : List Nat) (items : List β) (c : β → Bool) (h : β → Int) (ok : YOk Y) (B : Bis Y.X.mg) (hg : Gl Y.X "sum") (hk : k + 2 ≤ Y.k) (hi : ItC Y s tg iter W) (G : GenOk Y.X.N Y.X.env.scope scope vs) (tb : Tbl Y.X Y.T (Y.X.env.qual ++ "<genexpr>")) (tg0 : ∀ z, TgOk (genY Y k scope z) tg (t.g Y.X.K) t.ws t.f)
    (ht : ∀ z, YOk (genY Y k scope z) → ∀ x, EvTs (genY Y k scope z) ⟨t.f x (wipeR s.ρ vs), s.gs⟩ ifs (Wc x)) (he : ∀ z, YOk (genY Y k scope z) → ∀ x, EvC (genY Y k scope z) ⟨t.f x (wipeR s.ρ vs), s.gs⟩ elt (We x)) (sub : ∀ j ∈ t.ws, j ∈ vs := by decide) (hs : ∀ x, genFold iter Y.X.env x = pure x := by intro _; rfl)
    (hst : starEach [.GeneratorExp elt [⟨tg, iter, ifs, 0⟩] scope gpos] Y.X.env = (false, eval (.GeneratorExp elt [⟨tg, iter, ifs, 0⟩] scope gpos) Y.X.env) :: starEach [] Y.X.env := by exact star_c rfl) :
    EvC Y s (.Call (.Name "sum" p) [.GeneratorExp elt [⟨tg, iter, ifs, 0⟩] scope gpos] [] pos) fun kk => (W fun is => is = items) ∧ (∀ x ∈ items, Wc x fun b => b = c x) ∧ (∀ x ∈ items, c x = true → We x fun y => y = h x) ∧ SumOk ((items.filter c).map h) ∧ kk ((items.filter c).map h).sum := fun kk ⟨w1, w2, w3, w5, w4⟩ =>
  .of (evp_sumG ok B hg hk (hi.pp w1) G tb (gturns t k vs items c h tg0 ht he w2 w3 sub) w5 hs hst) ⟨_, rfl, rfl, w4⟩
end
end
end Sp
set_option maxHeartbeats 4000000
/-! Sp: new owned lists and dicts; statements; to what is wanted. -/
namespace Sp
open PySem L2
open PySem.W (Datum DatumOrd SomeDatum)
/-- a new list, owned -/
def EvN (Y : DX) (s : DSt) (e : Expr) {α : Type} [Enc α] (W : (List α → Prop) → Prop) : Prop := ∀ k : List α → Prop, W k → Ev Y s e fun A s' => ∃ p xs, A = raw (.ref p) ∧ s' = ⟨s.ρ, (p, lstc xs) :: s.gs⟩ ∧ k xs
/-- a new dict, owned -/
def EvM (Y : DX) (s : DSt) (e : Expr) {κ ν : Type} [Kk κ] [Enc ν] (W : (List (κ × ν) → Prop) → Prop) : Prop := ∀ k : List (κ × ν) → Prop, W k → Ev Y s e fun A s' => ∃ p m, A = raw (.ref p) ∧ s' = ⟨s.ρ, (p, dctc m) :: s.gs⟩ ∧ k m
/-! loops -/
/-- a for loop: what holds ahead of each turn is to be found -/
def forW {β Z : Type} (items : List β) (z0 : Z) (body : β → Z → (Z → Prop) → Prop) (rest : Z → Prop) : Prop :=
  ∃ Iv : Nat → Z → Prop, Iv 0 z0 ∧ (∀ i x z, items[i]? = some x → Iv i z → body x z (Iv (i + 1))) ∧ ∀ z, Iv items.length z → rest z
/-- .. that may be left -/
def forB {β Z : Type} (items : List β) (z0 : Z) (body : β → Z → (Z → Prop) → (Z → Prop) → Prop) (rest : Z → Prop) : Prop :=
  ∃ (Iv : Nat → Z → Prop) (J : Z → Prop), Iv 0 z0 ∧ (∀ i x z, items[i]? = some x → Iv i z → body x z (Iv (i + 1)) J) ∧ (∀ z, Iv items.length z → J z) ∧ ∀ z, J z → rest z
def whileW {Z : Type} (z0 : Z) (cond : Z → (Bool → Prop) → Prop) (body : Z → (Z → Prop) → Prop) (rest : Z → Prop) : Prop :=
  ∃ (Iv : Z → Prop) (μ : Z → Nat), Iv z0 ∧ ∀ z, Iv z → cond z fun b => (b = true → body z fun z' => Iv z' ∧ μ z' < μ z) ∧ (b = false → rest z)
section
variable {Y : DX} {s : DSt} {e a b c o tg iter elt : Expr} {es ifs : List Expr} {pos p p2 apos : Pos} {α β γ : Type} [Enc α] [Enc β] [Enc γ] {D : DE} {sts : List Stmt} {x y : Str}
/-! new lists, dicts -/
theorem n_list {W : (List α → Prop) → Prop} (h : EvS Y s es W) (hl : es.length ≤ sizeLine := by show _ ≤ sizeLine; decide) : EvN Y s (.List es pos) W := fun k w =>
  ev_listO ((h k w).mono fun As s' ⟨xs, e1, e2, e3, w⟩ => ⟨xs, e1, by omega, fun p => by subst e3; exact ⟨p, xs, rfl, rfl, w⟩⟩)
theorem po_listN {σ : St} {F0 : Hp} {H F : Hp} {vs : List V} {xs : List α} {k : List α → Prop} (e0 : Ext F0 F) (S : Sta Y s σ H F) (r : Vs Y.X.K F vs xs) (w : k xs) : ∀ p, H p = none → Po Y σ F0 (fun A s' => ∃ p xs, A = raw (.ref p) ∧ s' = ⟨s.ρ, (p, lstc xs) :: s.gs⟩ ∧ k xs) (.ref p) (upd H p (.lst vs)) :=
  po_listO e0 S r fun p => ⟨p, xs, rfl, rfl, w⟩
theorem n_listL {W : (List α → Prop) → Prop} (T : Bis Y.X.mg) (hg : Gl Y.X "list") (ha : EvL Y s a W) (he : starEach [a] Y.X.env = (false, eval a Y.X.env) :: starEach [] Y.X.env := by exact star_c rfl) : EvN Y s (.Call (.Name "list" p) [a] [] pos) W := fun k w =>
  ev_T1 call_list_of hg (T.no _ (by decide)) PyProof.Rows.boot_list (ha.q w fun A xs hA w F0 σ H F v e0 S r => by
    obtain ⟨q, zs, h1, h2, h3⟩ := hA σ H F v S r
    exact ⟨q, zs, by rw [h1], .inl h2, fun l hl => po_listN e0 S h3 w l hl⟩) (by decide) (by decide) he
theorem n_listH {W : (Tup α → Prop) → Prop} (T : Bis Y.X.mg) (hg : Gl Y.X "list") (ha : EvC Y s a W) (he : starEach [a] Y.X.env = (false, eval a Y.X.env) :: starEach [] Y.X.env := by exact star_c rfl) : EvN Y s (.Call (.Name "list" p) [a] [] pos) fun k => W fun xs => k xs.items := fun k w =>
  ev_T1 call_list_of hg (T.no _ (by decide)) PyProof.Rows.boot_list (ha.q w fun xs w F0 σ H F v e0 S ⟨q, zs, h1, h2, h3⟩ => ⟨q, zs, by rw [h1], .inr (sqT_ext h2 S.ext), fun l hl => po_listN e0 S h3 w l hl⟩) (by decide) (by decide) he
theorem n_listS {W : (List Nat → Prop) → Prop} (ok : YOk Y) (T : Bis Y.X.mg) (hg : Gl Y.X "list") (ha : EvC Y s a W) (he : starEach [a] Y.X.env = (false, eval a Y.X.env) :: starEach [] Y.X.env := by exact star_c rfl) : EvN Y s (.Call (.Name "list" p) [a] [] pos) fun k => W fun x => x.length ≤ sizeLine ∧ k (x.map fun c => [c]) := fun k w =>
  ev_T1 (call_list_ofS ok.calm) hg (T.no _ (by decide)) PyProof.Rows.boot_list (ha.q w fun x w F0 σ H F v e0 S r => ⟨x, by rw [show v = .str (toStr x) from r], w.1, fun l hl => po_listN e0 S (signs_vs x) w.2 l hl⟩) (by decide) (by decide) he
theorem n_sorted {δ : Type} [DecidableEq δ] [Enc δ] [DatumOrd δ] [Dat δ] {W : (List δ → Prop) → Prop} [Srtb δ] (ok : YOk Y) (T : Bis Y.X.mg) (hg : Gl Y.X "sorted") (ha : EvL Y s a W) (hd : Datum.depth δ ≤ 60 := by decide) (he : starEach [a] Y.X.env = (false, eval a Y.X.env) :: starEach [] Y.X.env := by exact star_c rfl) :
    EvN Y s (.Call (.Name "sorted" p) [a] [] pos) fun k => W fun xs => k (srt xs) := fun k w =>
  ev_B1 (cr_sortedF (α := δ) ok.room.units hd) hg (T.no _ (by decide)) PyProof.Rows.boot_sorted (ha.q w fun A xs hA w F0 σ H F v e0 S r => by
    obtain ⟨q, zs, h1, h2, h3⟩ := hA σ H F v S r
    exact ⟨F, v, q, zs, xs, rfl, h1, h2, h3, S.ext, fun q' zs' hq' r' => po_listN e0 S r' w q' hq'⟩) (by decide) (by decide) he
theorem n_cat {Wa Wb : (List α → Prop) → Prop} (ha : EvL Y s a Wa) (hb : EvL Y s b Wb) : EvN Y s (.BinOp a .Add b pos) fun k => Wa fun x => Wb fun y => x.length + y.length ≤ sizeLine ∧ k (x ++ y) := fun k w =>
  ev2 (pe_op op_catF pe_we pe_we) (ha.q w fun A x hA w => hb.q w fun B y hB w F0 σ H F v u e0 S r1 r2 => by
    obtain ⟨p, zs, h1, h2, h3⟩ := hA σ H F v S r1
    obtain ⟨q, ws, g1, g2, g3⟩ := hB σ H F u S r2
    have l1 : zs.length = x.length := Paired.length h3
    have l2 : ws.length = y.length := Paired.length g3
    exact ⟨p, q, zs, ws, h1, g1, h2, g2, by omega, fun l hl => po_listN e0 S (prd_app h3 g3) w.2 l hl⟩)
theorem n_rep {W : (List α → Prop) → Prop} {Wb : (Int → Prop) → Prop} {p2 : Pos} (h : EvS Y s es W) (hb : ∀ p xs, EvC Y ⟨s.ρ, (p, lstc (α := α) xs) :: s.gs⟩ b Wb) (hl : es.length ≤ sizeLine := by show _ ≤ sizeLine; decide) : EvN Y s (.BinOp (.List es p2) .Mult b pos) fun k => W fun xs => Wb fun n => (-(2 ^ 63) ≤ n ∧ n < 2 ^ 63 ∧ xs.length * n.toNat ≤ sizeLine) ∧ k (List.replicate n.toNat xs).flatten := fun k w =>
  ev2 (pe_op op_rep pe_we pe_we) (ev_listO ((h _ w).mono fun As s' ⟨xs, e1, e2, e3, w⟩ => ⟨xs, e1, by omega, fun p => by
    subst e3
    exact (hb p xs _ w).mono fun B s2 ⟨n, eb, es, w⟩ F0 σ H F v u e0 S r1 r2 => by
      subst eb es
      obtain ⟨hF, o, ho, _, vs, eo, rv⟩ := S.cell (i := 0) (p := p) (c := lstc xs) rfl
      subst eo
      have hl : vs.length = xs.length := Paired.length rv
      refine ⟨p, n, vs, r1, r2, ho, w.1.1, w.1.2.1, by rw [hl]; exact w.1.2.2, fun q hq => ?_⟩
      exact po_listN e0 (S.drop 0) (vs_rep rv _) w.2 q hq⟩))
theorem n_slL {W : (List α → Prop) → Prop} {lo hi : Option Expr} {Wl Wh : (Option Int → Prop) → Prop} (ha : EvL Y s a W) (hl : EvOC Y s lo Wl) (hh : EvOC Y s hi Wh) : EvN Y s (.Subscript a (.Slice lo hi none p2) pos) fun k => W fun x => Wl fun i => Wh fun j => k (cutD x i j) := fun k w =>
  ev_slC sl_list hl hh (ha.q w fun A x hA w => ⟨rfl, _, w, fun i j w F0 σ H F v e0 S r => by
    obtain ⟨q, zs, h1, h2, h3⟩ := hA σ H F v S r
    exact ⟨q, zs, h1, h2, fun l hl => po_listN e0 S (cut_vs h3 i j) w l hl⟩⟩)
section
variable {κ ν : Type} [DecidableEq κ] [Kk κ] [Enc κ] [KkV κ] [Enc ν]
theorem m_new : EvM Y s (.Dict [] [] pos) fun k => k ([] : List (κ × ν)) := fun k w => ev_dnew fun p => ⟨p, [], rfl, rfl, w⟩
theorem m_dictL {W : (List (κ × ν) → Prop) → Prop} (ok : YOk Y) (T : Bis Y.X.mg) (hg : Gl Y.X "dict") (ha : EvL Y s a W) (he : starEach [a] Y.X.env = (false, eval a Y.X.env) :: starEach [] Y.X.env := by exact star_c rfl) : EvM Y s (.Call (.Name "dict" p) [a] [] pos) fun k => W fun xs => k (dmerge [] xs) := fun k w F0 σ H F e0 S => by
  refine .of (pe_callTy (call_dictP ok.calm) hg (T.no _ (by decide)) PyProof.Rows.boot_dict (pa_cons pe_we pa_nil he) (by decide) (by decide) he (by rfl)) ?_
  refine (ha _ w F0 σ H F e0 S).mono fun v H1 ⟨A, _, F1, e1, r1, S1, xs, hA, es, w⟩ => ?_
  subst es
  obtain ⟨q', zs, h1, h2, h3⟩ := hA σ H1 F1 v S1 r1
  obtain ⟨ps, kvs, g1, g2, g3⟩ := pairs_kvs h3
  subst g1
  exact ⟨q', ps, kvs, by rw [h1], h2, Paired.mapP g2 fun _ _ z => sqT_ext z S1.ext, fun l hl => ⟨raw (.ref l), _, F1, e1, rfl, S1.newO (c := dctc (dmerge [] xs)) hl rfl ⟨_, rfl, kvs_merge g3 .nil⟩, l, _, rfl, rfl, w⟩⟩
theorem m_dictD {W : (List (κ × ν) → Prop) → Prop} (ok : YOk Y) (T : Bis Y.X.mg) (hg : Gl Y.X "dict") (ha : EvD Y s a W) (he : starEach [a] Y.X.env = (false, eval a Y.X.env) :: starEach [] Y.X.env := by exact star_c rfl) : EvM Y s (.Call (.Name "dict" p) [a] [] pos) fun k => W fun m => k m := fun k w F0 σ H F e0 S => by
  refine .of (pe_callTy call_dictD hg (T.no _ (by decide)) PyProof.Rows.boot_dict (pa_cons pe_we pa_nil he) (by decide) (by decide) he (by rfl)) ?_
  refine (ha _ w F0 σ H F e0 S).mono fun v H1 ⟨A, _, F1, e1, r1, S1, m, hA, es, w⟩ => ?_
  subst es
  obtain ⟨q', zs, h1, h2, h3⟩ := hA σ H1 F1 v S1 r1
  exact ⟨q', zs, by rw [h1], h2, fun l hl => ⟨raw (.ref l), _, F1, e1, rfl, S1.newO (c := dctc m) hl rfl ⟨_, rfl, h3⟩, l, _, rfl, rfl, w⟩⟩
end
/-! statements -/
section
variable {R : α → Prop} {W : (α → Prop) → Prop}
theorem s_asg (i : Nat) (ok : YOk Y) (hi : Y.X.N[i]? = some x) (he : EvC Y s e W) (next : ∀ v, R v → Ws Y ⟨s.ρ.set i (some (pu v)), s.gs⟩ sts D) (w : W R)
    (hx : Loc Y.X.env.scope x := by first | exact .inl rfl | exact .inr rfl) (hs : swapsWith e (some (.Name x p2)) pos.line Y.X.env = pure false := by rfl) (hf : Y.X.fn x = true ∨ Y.X.env.scope.names.lookup x = some .local := by first | exact .inl rfl | exact .inr rfl) : Ws Y s (.Assign [.Name x p2] e pos :: sts) D :=
  ws_cons (w1_set i ok hi hx (he.q w fun v r => next v r) hs hf)
theorem s_asgL {t : TgD β} {own : List (Str × Nat)} {R : List α → Prop} {W : (List α → Prop) → Prop} {scope : Scope} {spos : Pos} (i : Nat) (ok : YOk Y) (hi : Y.X.N[i]? = some x) (h : LcW Y s scope own t tg iter elt ifs W) (next : ∀ v, R v → Ws Y ⟨s.ρ.set i (some (pu v)), s.gs⟩ sts D) (w : W R)
    (hyl : Y.X.env.scope.names.lookup x = some .local := by rfl) (hsw : swapsWith (.ListComp elt [⟨tg, iter, ifs, 0⟩] scope pos) (some (.Name x p2)) spos.line Y.X.env = pure true := by rfl) : Ws Y s (.Assign [.Name x p2] (.ListComp elt [⟨tg, iter, ifs, 0⟩] scope pos) spos :: sts) D :=
  ws_cons (w1_asgL ok hi h w (fun ys k => next ys k) hyl hsw)
theorem s_asgN {R : List α → Prop} {W : (List α → Prop) → Prop} (i : Nat) (ok : YOk Y) (hi : Y.X.N[i]? = some x) (he : EvN Y s e W) (next : ∀ q v, R v → Ws Y ⟨s.ρ.set i (some (raw (.ref q))), (q, lstc v) :: s.gs⟩ sts D) (w : W R)
    (hx : Loc Y.X.env.scope x := by first | exact .inl rfl | exact .inr rfl) (hs : swapsWith e (some (.Name x p2)) pos.line Y.X.env = pure false := by rfl) (hf : Y.X.fn x = true ∨ Y.X.env.scope.names.lookup x = some .local := by first | exact .inl rfl | exact .inr rfl) : Ws Y s (.Assign [.Name x p2] e pos :: sts) D :=
  ws_cons (w1_set i ok hi hx ((he _ w).mono fun A s' ⟨q, xs, ea, es, r⟩ => by subst ea es; exact next q xs r) hs hf)
theorem s_asgM {κ ν : Type} [DecidableEq κ] [Kk κ] [Enc κ] [KkV κ] [Enc ν] {R : List (κ × ν) → Prop} {W : (List (κ × ν) → Prop) → Prop} (i : Nat) (ok : YOk Y) (hi : Y.X.N[i]? = some x) (he : EvM Y s e W) (next : ∀ q v, R v → Ws Y ⟨s.ρ.set i (some (raw (.ref q))), (q, dctc v) :: s.gs⟩ sts D) (w : W R)
    (hx : Loc Y.X.env.scope x := by first | exact .inl rfl | exact .inr rfl) (hs : swapsWith e (some (.Name x p2)) pos.line Y.X.env = pure false := by rfl) (hf : Y.X.fn x = true ∨ Y.X.env.scope.names.lookup x = some .local := by first | exact .inl rfl | exact .inr rfl) : Ws Y s (.Assign [.Name x p2] e pos :: sts) D :=
  ws_cons (w1_set i ok hi hx ((he _ w).mono fun A s' ⟨q, xs, ea, es, r⟩ => by subst ea es; exact next q xs r) hs hf)
/-- a, b = e, e a tuple -/
theorem s_asgT (t : TgD α) (hg : TgOk Y tg (t.g Y.X.K) t.ws t.f) (he : EvC Y s e W) (next : ∀ v, R v → Ws Y ⟨t.f v s.ρ, s.gs⟩ sts D) (w : W R)
    (hs : swapsWithSole [tg] e pos.line Y.X.env = pure false := by rfl) (hw : swappedStores [tg] e Y.X.env = pure none := by rfl) (h1 : (assignEach [tg] Y.X.env).map (·.2) = [assign tg Y.X.env] := by rfl) : Ws Y s (.Assign [tg] e pos :: sts) D :=
  ws_cons (w1_asg hg (he.q w fun v r => ⟨v, rfl, next v r⟩) hs hw h1)
/-- a, b = x, y -/
theorem s_par {px py pt pt2 : Pos} {kt k2 : Nat} {R : α → β → Prop} {Wa : (α → Prop) → Prop} {Wb : (β → Prop) → Prop} (i j : Nat) (ok : YOk Y) (hi : Y.X.N[i]? = some x) (hj : Y.X.N[j]? = some y) (ha : EvC Y s a Wa) (hb : EvC Y s b Wb) (next : ∀ u v, R u v → Ws Y ⟨(s.ρ.set i (some (pu u))).set j (some (pu v)), s.gs⟩ sts D) (w : Wa fun u => Wb fun v => R u v)
    (hij : i ≠ j := by decide) (hx : Y.X.env.scope.names.lookup x = some .local := by rfl) (hy : Y.X.env.scope.names.lookup y = some .local := by rfl) (he : starEach [a, b] Y.X.env = (false, eval a Y.X.env) :: starEach [b] Y.X.env := by exact star_c rfl) (he2 : starEach [b] Y.X.env = (false, eval b Y.X.env) :: starEach [] Y.X.env := by exact star_c rfl)
    (hw : swappedStores [.Tuple [.Name x px, .Name y py] kt pt] (.Tuple [a, b] k2 pt2) Y.X.env = pure (some [x, y]) := by rfl) (hs : swapsWithSole [.Tuple [.Name x px, .Name y py] kt pt] (.Tuple [a, b] k2 pt2) pos.line Y.X.env = pure false := by rfl) : Ws Y s (.Assign [.Tuple [.Name x px, .Name y py] kt pt] (.Tuple [a, b] k2 pt2) pos :: sts) D :=
  ws_cons (w1_par ok hi hj hij hx hy (evs_cons (ha.q w fun u w => evs_cons (hb.q w fun v w => evs_nil ⟨_, _, rfl, next u v w⟩) he2) he) hw hs)
theorem s_parM {κ ν : Type} [DecidableEq κ] [Kk κ] [Enc κ] [KkV κ] [Enc ν] {px py pt pt2 : Pos} {kt k2 : Nat} {R : α → List (κ × ν) → Prop} {Wa : (α → Prop) → Prop} {Wb : (List (κ × ν) → Prop) → Prop} (i j : Nat) (ok : YOk Y) (hi : Y.X.N[i]? = some x) (hj : Y.X.N[j]? = some y) (ha : EvC Y s a Wa) (hb : EvM Y s b Wb) (next : ∀ q u v, R u v → Ws Y ⟨(s.ρ.set i (some (pu u))).set j (some (raw (.ref q))), (q, dctc v) :: s.gs⟩ sts D) (w : Wa fun u => Wb fun v => R u v)
    (hij : i ≠ j := by decide) (hx : Y.X.env.scope.names.lookup x = some .local := by rfl) (hy : Y.X.env.scope.names.lookup y = some .local := by rfl) (he : starEach [a, b] Y.X.env = (false, eval a Y.X.env) :: starEach [b] Y.X.env := by exact star_c rfl) (he2 : starEach [b] Y.X.env = (false, eval b Y.X.env) :: starEach [] Y.X.env := by exact star_c rfl)
    (hw : swappedStores [.Tuple [.Name x px, .Name y py] kt pt] (.Tuple [a, b] k2 pt2) Y.X.env = pure (some [x, y]) := by rfl) (hs : swapsWithSole [.Tuple [.Name x px, .Name y py] kt pt] (.Tuple [a, b] k2 pt2) pos.line Y.X.env = pure false := by rfl) : Ws Y s (.Assign [.Tuple [.Name x px, .Name y py] kt pt] (.Tuple [a, b] k2 pt2) pos :: sts) D :=
  ws_cons (w1_par ok hi hj hij hx hy (evs_cons (ha.q w fun u w => evs_cons ((hb _ w).mono fun A s' ⟨q, v, ea, es, w⟩ => by subst ea es; exact evs_nil ⟨_, _, rfl, next q u v w⟩) he2) he) hw hs)
theorem s_parCN {px py pt pt2 : Pos} {kt k2 : Nat} {R : α → List β → Prop} {Wa : (α → Prop) → Prop} {Wb : (List β → Prop) → Prop} (i j : Nat) (ok : YOk Y) (hi : Y.X.N[i]? = some x) (hj : Y.X.N[j]? = some y) (ha : EvC Y s a Wa) (hb : EvN Y s b Wb) (next : ∀ q u v, R u v → Ws Y ⟨(s.ρ.set i (some (pu u))).set j (some (raw (.ref q))), (q, lstc v) :: s.gs⟩ sts D) (w : Wa fun u => Wb fun v => R u v)
    (hij : i ≠ j := by decide) (hx : Y.X.env.scope.names.lookup x = some .local := by rfl) (hy : Y.X.env.scope.names.lookup y = some .local := by rfl) (he : starEach [a, b] Y.X.env = (false, eval a Y.X.env) :: starEach [b] Y.X.env := by exact star_c rfl) (he2 : starEach [b] Y.X.env = (false, eval b Y.X.env) :: starEach [] Y.X.env := by exact star_c rfl)
    (hw : swappedStores [.Tuple [.Name x px, .Name y py] kt pt] (.Tuple [a, b] k2 pt2) Y.X.env = pure (some [x, y]) := by rfl) (hs : swapsWithSole [.Tuple [.Name x px, .Name y py] kt pt] (.Tuple [a, b] k2 pt2) pos.line Y.X.env = pure false := by rfl) : Ws Y s (.Assign [.Tuple [.Name x px, .Name y py] kt pt] (.Tuple [a, b] k2 pt2) pos :: sts) D :=
  ws_cons (w1_par ok hi hj hij hx hy (evs_cons (ha.q w fun u w => evs_cons ((hb _ w).mono fun A s' ⟨q, v, ea, es, w⟩ => by subst ea es; exact evs_nil ⟨_, _, rfl, next q u v w⟩) he2) he) hw hs)
theorem s_parNC {px py pt pt2 : Pos} {kt k2 : Nat} {R : List α → β → Prop} {Wa : (List α → Prop) → Prop} {Wb : (β → Prop) → Prop} (i j : Nat) (ok : YOk Y) (hi : Y.X.N[i]? = some x) (hj : Y.X.N[j]? = some y) (ha : EvN Y s a Wa) (hb : ∀ q u, EvC Y ⟨s.ρ, (q, lstc (α := α) u) :: s.gs⟩ b Wb) (next : ∀ q u v, R u v → Ws Y ⟨(s.ρ.set i (some (raw (.ref q)))).set j (some (pu v)), (q, lstc u) :: s.gs⟩ sts D) (w : Wa fun u => Wb fun v => R u v)
    (hij : i ≠ j := by decide) (hx : Y.X.env.scope.names.lookup x = some .local := by rfl) (hy : Y.X.env.scope.names.lookup y = some .local := by rfl) (he : starEach [a, b] Y.X.env = (false, eval a Y.X.env) :: starEach [b] Y.X.env := by exact star_c rfl) (he2 : starEach [b] Y.X.env = (false, eval b Y.X.env) :: starEach [] Y.X.env := by exact star_c rfl)
    (hw : swappedStores [.Tuple [.Name x px, .Name y py] kt pt] (.Tuple [a, b] k2 pt2) Y.X.env = pure (some [x, y]) := by rfl) (hs : swapsWithSole [.Tuple [.Name x px, .Name y py] kt pt] (.Tuple [a, b] k2 pt2) pos.line Y.X.env = pure false := by rfl) : Ws Y s (.Assign [.Tuple [.Name x px, .Name y py] kt pt] (.Tuple [a, b] k2 pt2) pos :: sts) D :=
  ws_cons (w1_par ok hi hj hij hx hy (evs_cons ((ha _ w).mono fun A s' ⟨q, u, ea, es, w⟩ => by subst ea es; exact evs_cons ((hb q u).q w fun v w => evs_nil ⟨_, _, rfl, next q u v w⟩) he2) he) hw hs)
theorem s_ret (he : EvC Y s e W) (w : W R) (q : ∀ v, R v → D.rt (pu v) s) : Ws Y s (.Return (some e) pos :: sts) D := ws_cons (w1_ret (he.q w fun v r => q v r))
theorem s_if {B C : Prop} {A1 A2 : List Stmt} {Wc : (Bool → Prop) → Prop} (hc : EvT Y s c Wc) (h1 : B → Ws Y s A1 { D with nx := fun s' => Ws Y s' sts D }) (h2 : C → Ws Y s A2 { D with nx := fun s' => Ws Y s' sts D }) (w : Wc fun t => (t = true → B) ∧ (t = false → C)) : Ws Y s (.If c A1 A2 pos :: sts) D :=
  ws_cons (w1_if (hc.q w fun t r => by
    cases t with
    | true => rw [if_pos rfl]; exact h1 (r.1 rfl)
    | false => rw [if_neg Bool.false_ne_true]; exact h2 (r.2 rfl)))
end
/-! loops -/
section
variable {Z J : Type}
theorem s_for {W : (List β → Prop) → Prop} {Body : β → Z → (Z → Prop) → Prop} {Rest : Z → Prop} {bd : List Stmt} (t : TgD β) (stf : Z → J → DSt) (z0 : Z) (j0 : J) (ok : YOk Y) (hi : ItC Y s tg iter W) (hg : TgOk Y tg (t.g Y.X.K) t.ws t.f) (h0 : s = stf z0 j0)
    (body : ∀ x z j (nx : Z → Prop), Body x z nx → Ws Y ⟨t.f x (stf z j).ρ, (stf z j).gs⟩ bd { D with nx := fun s' => ∃ z' j', s' = stf z' j' ∧ nx z', ct := fun s' => ∃ z' j', s' = stf z' j' ∧ nx z', bk := fun _ => False })
    (next : ∀ z j, Rest z → Ws Y (stf z j) sts D) (w : W fun items => forW items z0 Body Rest) (hs : ∀ x, foldedSetIterable iter Y.X.env x = pure x := by intro _; rfl) : Ws Y s (.For tg iter bd [] pos :: sts) D :=
  ws_cons (w1_forE ok (hi _ w) hg (fun items s' ⟨es, Iv, w0, w1, w2⟩ => ⟨fun i s2 => ∃ z j, s2 = stf z j ∧ Iv i z, ⟨z0, j0, by rw [es, h0], w0⟩, fun i x s2 hx ⟨z, j, e2, iv⟩ => by
    subst e2
    exact (body x z j _ (w1 i x z hx iv)).mono (fun s h => h) (fun A s h => h) (fun s h => h.elim) (fun s h => h), fun s2 ⟨z, j, e2, iv⟩ => by subst e2; exact next z j (w2 z iv)⟩) hs)
theorem s_forB {W : (List β → Prop) → Prop} {Body : β → Z → (Z → Prop) → (Z → Prop) → Prop} {Rest : Z → Prop} {bd : List Stmt} (t : TgD β) (stf : Z → J → DSt) (z0 : Z) (j0 : J) (ok : YOk Y) (hi : ItC Y s tg iter W) (hg : TgOk Y tg (t.g Y.X.K) t.ws t.f) (h0 : s = stf z0 j0)
    (body : ∀ x z j (nx bk : Z → Prop), Body x z nx bk → Ws Y ⟨t.f x (stf z j).ρ, (stf z j).gs⟩ bd { D with nx := fun s' => ∃ z' j', s' = stf z' j' ∧ nx z', ct := fun s' => ∃ z' j', s' = stf z' j' ∧ nx z', bk := fun s' => ∃ z' j', s' = stf z' j' ∧ bk z' })
    (next : ∀ z j, Rest z → Ws Y (stf z j) sts D) (w : W fun items => forB items z0 Body Rest) (hs : ∀ x, foldedSetIterable iter Y.X.env x = pure x := by intro _; rfl) : Ws Y s (.For tg iter bd [] pos :: sts) D :=
  ws_cons (w1_forE ok (hi _ w) hg (fun items s' ⟨es, Iv, Jv, w0, w1, w2, w3⟩ => ⟨fun i s2 => ∃ z j, s2 = stf z j ∧ Iv i z, ⟨z0, j0, by rw [es, h0], w0⟩, fun i x s2 hx ⟨z, j, e2, iv⟩ => by
    subst e2
    exact (body x z j _ _ (w1 i x z hx iv)).mono (fun s h => h) (fun A s h => h) (fun s ⟨z', j', e3, jv⟩ => by subst e3; exact next z' j' (w3 z' jv)) (fun s h => h), fun s2 ⟨z, j, e2, iv⟩ => by subst e2; exact next z j (w3 z (w2 z iv))⟩) hs)
theorem s_while {Cond : Z → (Bool → Prop) → Prop} {Body : Z → (Z → Prop) → Prop} {Rest : Z → Prop} {bd : List Stmt} (stf : Z → J → DSt) (z0 : Z) (j0 : J) (ok : YOk Y) (h0 : s = stf z0 j0) (hc : ∀ z j, EvT Y (stf z j) c (Cond z))
    (body : ∀ z j (nx : Z → Prop), Body z nx → Ws Y (stf z j) bd { D with nx := fun s' => ∃ z' j', s' = stf z' j' ∧ nx z', ct := fun s' => ∃ z' j', s' = stf z' j' ∧ nx z', bk := fun _ => False })
    (next : ∀ z j, Rest z → Ws Y (stf z j) sts D) (w : whileW z0 Cond Body Rest) : Ws Y s (.While c bd [] pos :: sts) D := by
  obtain ⟨Iv, μ, w0, w1⟩ := w
  refine ws_cons fun F0 σ H F e0 S => ?_
  refine .of (ps_while ok.pass pt_wt pss_ws) ⟨fun m σ H => ∃ z j F2, Ext F0 F2 ∧ Sta Y (stf z j) σ H F2 ∧ Iv z ∧ m = μ z, ⟨_, z0, j0, F, e0, h0 ▸ S, w0, rfl⟩, ?_⟩
  rintro m σ2 H2 ⟨z, j, F2, e2, S2, iv, rfl⟩
  refine (hc z j _ (w1 z iv) F0 σ2 H2 F2 e2 S2).mono fun t H3 ⟨s3, F3, e3, S3, es, q⟩ => ?_
  subst es
  cases t with
  | false => exact ⟨_, F3, e3, S3, next z j (q.2 rfl)⟩
  | true => exact ⟨fun σ' H' => ∃ z4 j4 F4, Ext F0 F4 ∧ Sta Y (stf z4 j4) σ' H' F4 ∧ Iv z4 ∧ μ z4 < μ z, fun σ' H' ⟨z4, j4, F4, e4, S4, iv4, lt⟩ => ⟨_, lt, z4, j4, F4, e4, S4, iv4, rfl⟩, (body z j _ (q.1 rfl) F0 σ2 H3 F3 e3 S3).mono (fun σ' H' ⟨s5, F5, e5, S5, z', j', e6, iv5, lt⟩ => by subst e6; exact ⟨z', j', F5, e5, S5, iv5, lt⟩) (fun v H' q => q) (fun σ' H' ⟨s5, F5, e5, S5, q⟩ => q.elim) (fun σ' H' ⟨s5, F5, e5, S5, z', j', e6, iv5, lt⟩ => by subst e6; exact ⟨z', j', F5, e5, S5, iv5, lt⟩)⟩
end
/-! changes in place -/
section
variable {α : Type} [Enc α] {W : (α → Prop) → Prop} {xs : List α} {q : Addr}
/-- a changing thing's method, its argument to be found -/
theorem ev_m1X {T id : String} {name : Str} {Q : Pv → DSt → Prop} {r : V → List V → Hp → VK → Prop} (pa : PlainAttrs T) (slot : Slot T name id) (hty : typeOf (.builtin id) = pure (.type "method_descriptor")) (hm : MtR Y.X id r) (ho : EvP Y s o (raw (.ref q)))
    (ht : ∀ σ H F, Sta Y s σ H F → tyV Y.X.K T (.ref q) H)
    (h : Ev Y s e fun B s2 => ∀ F0 σ H F u, Ext F0 F → Sta Y s2 σ H F → B.rep Y.X.K F u → r (.ref q) [u] H (Po Y σ F0 Q))
    (m : Mx1 Y.X o name apos e pos) : Ev Y s (.Call (.Attribute o name apos) [e] [] pos) Q :=
  ev_m1C pa slot hty hm (.of ho ⟨fun σ H F v S r => by rw [show v = .ref q from r]; exact ht σ H F S, h.mono fun B s2 h F0 σ H F v u e0 S r1 r2 => by rw [show v = .ref q from r1]; exact h F0 σ H F u e0 S r2⟩) m
theorem s_append (i g : Nat) (hN : Y.X.N[i]? = some x) (hρ : s.ρ[i]? = some (some (raw (.ref q)))) (hg : s.gs[g]? = some (q, lstc xs)) (he : EvC Y s e W) {R : α → Prop} (next : ∀ v, R v → Ws Y ⟨s.ρ, s.gs.set g (q, lstc (xs ++ [v]))⟩ sts D) (w : W fun v => xs.length < sizeLine ∧ R v)
    (m : Mx1 Y.X (.Name x p) "append" apos e pos := by exact mx1 rfl rfl rfl) (hv : Vis Y.X.env.scope x := by first | exact .inl rfl | exact .inr (.inl rfl) | exact .inr (.inr rfl)) (hd : (x == ("__debug__" : Str)) = false := by decide) (hcd : (x == ("__classdict__" : Str)) = false := by decide) : Ws Y s (.Expr (.Call (.Attribute (.Name x p) "append" apos) [e] [] pos) p2 :: sts) D :=
  ws_cons (w1_expr (ev_m1X PySem.F.plainAttrs_list PySem.F.slot_list_append PySem.F.type_list_append mt_append (evp_v i hN hρ hv hd hcd) (fun σ H F S => by
      obtain ⟨_, o, ho, _, vs, eo, rv⟩ := S.cell hg
      subst eo
      exact tyV_list (.of ho))
    (he.q w fun v w F0 σ H F u e0 S ru => by
      obtain ⟨hF, o, ho, _, vs, eo, rv⟩ := S.cell hg
      subst eo
      have hl : vs.length = xs.length := Paired.length rv
      refine ⟨q, vs, u, rfl, rfl, ho, by omega, pu (), _, F, e0, rfl, ?_, next v w.2⟩
      exact S.write (c' := lstc (xs ++ [v])) hg ho (not_codeL rfl) rfl ⟨_, rfl, prd_app rv (.cons ru .nil)⟩) m))
theorem s_remove {α : Type} [DecidableEq α] [Enc α] [Datum α] [Dat α] {W : (α → Prop) → Prop} {xs : List α} (i g : Nat) (ok : YOk Y) (hN : Y.X.N[i]? = some x) (hρ : s.ρ[i]? = some (some (raw (.ref q)))) (hg : s.gs[g]? = some (q, lstc xs)) (he : EvC Y s e W) {R : α → Prop} (next : ∀ v, R v → Ws Y ⟨s.ρ, s.gs.set g (q, lstc (erL xs v))⟩ sts D) (w : W fun v => v ∈ xs ∧ R v)
    (m : Mx1 Y.X (.Name x p) "remove" apos e pos := by exact mx1 rfl rfl rfl) (hdp : Datum.depth α ≤ 60 := by decide) (hv : Vis Y.X.env.scope x := by first | exact .inl rfl | exact .inr (.inl rfl) | exact .inr (.inr rfl)) (hd : (x == ("__debug__" : Str)) = false := by decide) (hcd : (x == ("__classdict__" : Str)) = false := by decide) : Ws Y s (.Expr (.Call (.Attribute (.Name x p) "remove" apos) [e] [] pos) p2 :: sts) D :=
  ws_cons (w1_expr (ev_m1X PySem.F.plainAttrs_list PySem.F.slot_list_remove PySem.F.type_list_remove (mt_removeF (α := α) ok.room.units hdp) (evp_v i hN hρ hv hd hcd) (fun σ H F S => by
      obtain ⟨_, o, ho, _, vs, eo, rv⟩ := S.cell hg
      subst eo
      exact tyV_list (.of ho))
    (he.q w fun v w F0 σ H F u e0 S ru => by
      obtain ⟨hF, o, ho, _, vs, eo, rv⟩ := S.cell hg
      subst eo
      refine ⟨F, v, xs, u, q, vs, rfl, rfl, Enc.mono (α := α) ru S.ext, ho, rv, S.ext, w.1, fun zs' rz => ⟨pu (), _, F, e0, rfl, ?_, next v w.2⟩⟩
      exact S.write (c' := lstc (xs.erase v)) hg ho (not_codeL rfl) rfl ⟨_, rfl, rz⟩) m))
/-- x[k] = e, x an owned list -/
theorem s_lput (i g : Nat) {b : Expr} {W : (α → Prop) → Prop} {Wi : (Int → Prop) → Prop} (hN : Y.X.N[i]? = some x) (hρ : s.ρ[i]? = some (some (raw (.ref q)))) (hg : s.gs[g]? = some (q, lstc xs)) (he : EvC Y s e W) (hb : EvC Y s b Wi) {R : List α → Prop} {pn ps : Pos} (next : ∀ v, R v → Ws Y ⟨s.ρ, s.gs.set g (q, lstc v)⟩ sts D) (w : W fun v => Wi fun k => inR xs.length k ∧ R (xs.set (plc xs.length k) v))
    (hv : Vis Y.X.env.scope x := by first | exact .inl rfl | exact .inr (.inl rfl) | exact .inr (.inr rfl)) (hd : (x == ("__debug__" : Str)) = false := by decide) (hcd : (x == ("__classdict__" : Str)) = false := by decide)
    (hs : swapsWithSole [Expr.Subscript (.Name x pn) b ps] e pos.line Y.X.env = pure false := by rfl) (hw : swappedStores [Expr.Subscript (.Name x pn) b ps] e Y.X.env = pure none := by rfl) (h1 : (assignEach [Expr.Subscript (.Name x pn) b ps] Y.X.env).map (·.2) = [assign (Expr.Subscript (.Name x pn) b ps) Y.X.env] := by rfl)
    (ha : ∀ v, assign (.Subscript (.Name x pn) b ps) Y.X.env v = (do
      let ov ← holding [v] (eval (.Name x pn) Y.X.env)
      let iv ← holding [v, ov] (eval b Y.X.env)
      standAt ps
      holding [v, ov, iv] (setItem ov iv v)
      release [v, ov, iv] []) := by intro _; rfl) : Ws Y s (.Assign [.Subscript (.Name x pn) b ps] e pos :: sts) D := ws_cons fun F0 σ H F e0 S => by
  refine .of (ps_asg pe_we (pg_sub pe_we pe_we set_list ha) hs hw h1) ?_
  refine (he _ w F σ H F (.refl _) S).mono fun v H1 ⟨_, _, F1, e1, r1, S1, y, ey, es, w⟩ => ?_
  subst ey es
  refine (evp_v i hN hρ hv hd hcd F1 σ H1 F1 (.refl _) S1).mono fun u H2 ⟨F2, e2, r2, S2⟩ => ?_
  refine (hb _ w F2 σ H2 F2 (.refl _) S2).mono fun z H3 ⟨_, _, F3, e3, r3, S3, k, ek, es, w⟩ => ?_
  subst ek es
  obtain ⟨hF, oo, hoo, _, zs, eo, rv⟩ := S3.cell hg
  subst eo
  refine ⟨q, zs, k, plc xs.length k, r2, r3, hoo, by rw [show zs.length = xs.length from Paired.length rv]; exact (ixN_plc w.1).1, _, F3, ((e0.trans e1).trans e2).trans e3, ?_, next _ w.2⟩
  exact S3.write (c' := lstc (xs.set (plc xs.length k) y)) hg hoo (not_codeL rfl) rfl ⟨_, rfl, prd_set rv (Enc.mono (α := α) r1 (e2.trans e3)) _⟩
/-- d[k] = e, d an owned dict -/
theorem s_dput {κ ν : Type} [DecidableEq κ] [Kk κ] [Enc κ] [KkV κ] [Enc ν] {m : List (κ × ν)} (i g : Nat) (ok : YOk Y) {b : Expr} {W : (ν → Prop) → Prop} {Wk : (κ → Prop) → Prop} (hN : Y.X.N[i]? = some x) (hρ : s.ρ[i]? = some (some (raw (.ref q)))) (hg : s.gs[g]? = some (q, dctc m)) (he : EvC Y s e W) (hb : EvC Y s b Wk) {R : List (κ × ν) → Prop} {pn ps : Pos} (next : ∀ v, R v → Ws Y ⟨s.ρ, s.gs.set g (q, dctc v)⟩ sts D) (w : W fun v => Wk fun k => m.length < sizeLine ∧ R (dput m k v))
    (hv : Vis Y.X.env.scope x := by first | exact .inl rfl | exact .inr (.inl rfl) | exact .inr (.inr rfl)) (hd : (x == ("__debug__" : Str)) = false := by decide) (hcd : (x == ("__classdict__" : Str)) = false := by decide)
    (hs : swapsWith e (some (.Subscript (.Name x pn) b ps)) pos.line Y.X.env = pure false := by rfl) : Ws Y s (.Assign [.Subscript (.Name x pn) b ps] e pos :: sts) D := ws_cons fun F0 σ H F e0 S => by
  refine .of (ps_dput (by have := ok.room.units; omega) pe_we pe_we pe_we hs) ?_
  refine (he _ w F σ H F (.refl _) S).mono fun v H1 ⟨_, _, F1, e1, r1, S1, y, ey, es, w⟩ => ?_
  subst ey es
  refine (evp_v i hN hρ hv hd hcd F1 σ H1 F1 (.refl _) S1).mono fun u H2 ⟨F2, e2, r2, S2⟩ => ?_
  refine (hb _ w F2 σ H2 F2 (.refl _) S2).mono fun z H3 ⟨_, _, F3, e3, r3, S3, k, ek, es, w⟩ => ?_
  subst ek es
  obtain ⟨hF, oo, hoo, _, zs, eo, rv⟩ := S3.cell hg
  subst eo
  refine ⟨q, upd H3 q (.dK (putK zs (Kk.key k) v)), r2, .inl ⟨zs, Kk.key k, hoo, KkV.of r3, by rw [show zs.length = m.length from Paired.length rv]; exact w.1, rfl⟩, _, F3, ((e0.trans e1).trans e2).trans e3, ?_, next _ w.2⟩
  exact S3.write (c' := dctc (dput m k y)) hg hoo (not_codeD rfl) rfl ⟨_, rfl, kvs_put rv (Enc.mono (α := ν) r1 (e2.trans e3))⟩
end
/-! x op= e -/
section
variable {W : (Int → Prop) → Prop} {R : Int → Prop} {n : Int}
theorem s_augAdd (i : Nat) (ok : YOk Y) (hi : Y.X.N[i]? = some x) (hA : s.ρ[i]? = some (some (pu n))) (he : EvC Y s e W) (next : ∀ v, R v → Ws Y ⟨s.ρ.set i (some (pu v)), s.gs⟩ sts D) (w : W fun m => R (n + m)) (hx : Loc Y.X.env.scope x := by first | exact .inl rfl | exact .inr rfl) (hf : Y.X.fn x = true ∨ Y.X.env.scope.names.lookup x = some .local := by first | exact .inl rfl | exact .inr rfl) : Ws Y s (.AugAssign (.Name x p2) .Add e pos :: sts) D :=
  ws_cons (w1_add i ok hi hx hA hf (he.q w fun m r => ⟨m, rfl, next _ r⟩))
theorem s_augSub (i : Nat) (ok : YOk Y) (hi : Y.X.N[i]? = some x) (hA : s.ρ[i]? = some (some (pu n))) (he : EvC Y s e W) (next : ∀ v, R v → Ws Y ⟨s.ρ.set i (some (pu v)), s.gs⟩ sts D) (w : W fun m => R (n - m)) (hx : Loc Y.X.env.scope x := by first | exact .inl rfl | exact .inr rfl) (hf : Y.X.fn x = true ∨ Y.X.env.scope.names.lookup x = some .local := by first | exact .inl rfl | exact .inr rfl) : Ws Y s (.AugAssign (.Name x p2) .Sub e pos :: sts) D :=
  ws_cons (w1_sub i ok hi hx hA hf (he.q w fun m r => ⟨m, rfl, next _ r⟩))
theorem s_augMul (i : Nat) (ok : YOk Y) (hi : Y.X.N[i]? = some x) (hA : s.ρ[i]? = some (some (pu n))) (he : EvC Y s e W) (next : ∀ v, R v → Ws Y ⟨s.ρ.set i (some (pu v)), s.gs⟩ sts D) (w : W fun m => CMul n m ∧ R (n * m)) (hx : Loc Y.X.env.scope x := by first | exact .inl rfl | exact .inr rfl) (hf : Y.X.fn x = true ∨ Y.X.env.scope.names.lookup x = some .local := by first | exact .inl rfl | exact .inr rfl) : Ws Y s (.AugAssign (.Name x p2) .Mult e pos :: sts) D :=
  ws_cons (w1_mul i ok hi hx hA hf (he.q w fun m r => ⟨m, rfl, r.1, next _ r.2⟩))
theorem s_augFdiv (i : Nat) (ok : YOk Y) (hi : Y.X.N[i]? = some x) (hA : s.ρ[i]? = some (some (pu n))) (he : EvC Y s e W) (next : ∀ v, R v → Ws Y ⟨s.ρ.set i (some (pu v)), s.gs⟩ sts D) (w : W fun m => CDiv n m ∧ R (n / m)) (hx : Loc Y.X.env.scope x := by first | exact .inl rfl | exact .inr rfl) (hf : Y.X.fn x = true ∨ Y.X.env.scope.names.lookup x = some .local := by first | exact .inl rfl | exact .inr rfl) : Ws Y s (.AugAssign (.Name x p2) .FloorDiv e pos :: sts) D :=
  ws_cons (w1_fdiv i ok hi hx hA hf (he.q w fun m r => ⟨m, rfl, r.1, next _ r.2⟩))
end
theorem s_augS {W : (List Nat → Prop) → Prop} {R : List Nat → Prop} {n : List Nat} (i : Nat) (ok : YOk Y) (hi : Y.X.N[i]? = some x) (hA : s.ρ[i]? = some (some (pu n))) (he : EvC Y s e W) (next : ∀ v, R v → Ws Y ⟨s.ρ.set i (some (pu v)), s.gs⟩ sts D) (w : W fun m => n.length + m.length ≤ sizeLine ∧ R (n ++ m)) (hx : Loc Y.X.env.scope x := by first | exact .inl rfl | exact .inr rfl) (hf : Y.X.fn x = true ∨ Y.X.env.scope.names.lookup x = some .local := by first | exact .inl rfl | exact .inr rfl) : Ws Y s (.AugAssign (.Name x p2) .Add e pos :: sts) D :=
  ws_cons (w1_addS i ok hi hx hA hf (he.q w fun m r => ⟨m, rfl, r.1, next _ r.2⟩))
/-! raise, self.f = e, the ends -/
theorem s_raise {C : Addr} {m : Str} {j : Nat} {p3 : Pos} {G0 : Gs → Prop} {E : Ex → Prop} (n : Nat) (ex : Ex) (ye : YE Y G0 E) (T : ErrC Y.X.K Y.X.mg x C) (hg : Gl Y.X x) (hx : exK Y.X.K ex = ⟨C, none⟩) (hn : G0 (s.gs.drop n)) (w : E ex) (hdb : (x == ("__debug__" : Str)) = false := by decide) : Ws Y s (.Raise (some (.Call (.Name x p) [.Constant (.str m) j p2] [] p3)) none pos :: sts) D :=
  ws_cons (w1_raise ye.ok T hg (hx ▸ ye.ex ex s ⟨n, hn⟩ w) hdb)
/-- self.f = e, self owned -/
theorem s_fld {C : Addr} {fs : Flds} {q : Addr} {f : Str} {W : (α → Prop) → Prop} {R : α → Prop} {pn : Pos} (i g : Nat) (c : Cls Y.X.K C) (nn : NoAttr Y.X.K C f) (hN : Y.X.N[i]? = some x) (hρ : s.ρ[i]? = some (some (raw (.ref q)))) (hg : s.gs[g]? = some (q, insc C fs)) (he : EvC Y s e W) (next : ∀ v, R v → Ws Y ⟨s.ρ, s.gs.set g (q, insc C (fput f (pu v) fs))⟩ sts D) (w : W R) (hl : fs.length < 1000 := by decide)
    (hv : Vis Y.X.env.scope x := by first | exact .inl rfl | exact .inr (.inl rfl) | exact .inr (.inr rfl)) (hd : (x == ("__debug__" : Str)) = false := by decide) (hcd : (x == ("__classdict__" : Str)) = false := by decide) (hs : swapsWith e (some (.Attribute (.Name x pn) f p2)) pos.line Y.X.env = pure false := by rfl) : Ws Y s (.Assign [.Attribute (.Name x pn) f p2] e pos :: sts) D :=
  ws_cons (w1_fld g c nn hl (he.q w fun v r => ⟨hg, evp_v i hN hρ hv hd hcd, next v r⟩) hs)
/-- o.f, o an owned instance -/
theorem c_fldO {C : Addr} {fs : Flds} {q : Addr} {f : Str} {v : α} {pn : Pos} (i g : Nat) (c : Cls Y.X.K C) (nn : NoAttr Y.X.K C f) (hN : Y.X.N[i]? = some x) (hρ : s.ρ[i]? = some (some (raw (.ref q)))) (hg : s.gs[g]? = some (q, insc C fs)) (l : fs.lookup f = some (pu v)) (hb : attributeBase (.Name x pn) f Y.X.env (eval (.Name x pn) Y.X.env) = eval (.Name x pn) Y.X.env := by exact ab_ok rfl)
    (hv : Vis Y.X.env.scope x := by first | exact .inl rfl | exact .inr (.inl rfl) | exact .inr (.inr rfl)) (hd : (x == ("__debug__" : Str)) = false := by decide) (hcd : (x == ("__classdict__" : Str)) = false := by decide) : EvC Y s (.Attribute (.Name x pn) f pos) fun k => k v :=
  c_of (evp_fld c nn (evp_v i hN hρ hv hd hcd) (IA.own g hg) l hb)
theorem s_expr {W : (α → Prop) → Prop} {R : α → Prop} (he : EvC Y s e W) (next : ∀ v, R v → Ws Y s sts D) (w : W R) (hs : swapsWith e none pos.line Y.X.env = pure false := by rfl) : Ws Y s (.Expr e pos :: sts) D :=
  ws_cons (w1_expr (he.q w fun v r => next v r) hs)
theorem s_retN (q : D.rt (pu ()) s) : Ws Y s (.Return none pos :: sts) D := ws_cons (w1_retN q)
theorem s_break (q : D.bk s) : Ws Y s (.Break pos :: sts) D := ws_cons (w1_break q)
theorem s_continue (q : D.ct s) : Ws Y s (.Continue pos :: sts) D := ws_cons (w1_continue q)
theorem s_pass (next : Ws Y s sts D) : Ws Y s (.Pass pos :: sts) D := ws_cons (w1_pass next)
end
end Sp
set_option maxHeartbeats 4000000
/-! Sp: defs' promises from their walks. -/
namespace Sp
open PySem L2
open PySem.W (Datum DatumOrd SomeDatum)
/-- a body's place -/
structure BZ where
  cdv : Value
  A : Around
  outer : List Env
  s : Shared
  H : Hp
  F : Hp
  E : XK
  ex : Exc → DSt → Prop
section
variable {P : Program} {w : World} {K : Frag} {mg : Str → Option Value} {base : Heap} {fa : List He.Fa} {fn : List He.DefD} {tq : TQ}
abbrev yB (P : Program) (w : World) (K : Frag) (mg : Str → Option Value) (base : Heap) (tq : TQ) (k : Nat) (N : List Str) (d : He.DefD) (gs : Gs) (z : BZ) : DX :=
  bodyY P w K mg base (tbOf K tq) k N d.qual d.scope (He.fAd K d.at_) z.cdv z.A z.outer z.s z.H z.F gs z.E z.ex
/-- the ends of a def: cells that are left are G; what falls off the end gives r0 -/
def retE {ρ : Type} [Enc ρ] (G : Gs → Prop) (r0 : Option ρ) (Q : ρ → Prop) : DE :=
  { nx := fun s' => (∃ n, G (s'.gs.drop n)) ∧ ∃ r, r0 = some r ∧ Q r, rt := fun A s' => (∃ n, G (s'.gs.drop n)) ∧ ∃ r, A = pu r ∧ Q r }
/-- None is told by r0 -/
def NoneIs {ρ : Type} [Enc ρ] (r0 : Option ρ) : Prop := ∀ r, r0 = some r → ∀ K F v, (pu ()).rep K F v → (pu r).rep K F v
theorem noneNo {ρ : Type} [Enc ρ] : NoneIs (none : Option ρ) := fun r h => by cases h
theorem noneUnit : NoneIs (some ()) := fun r h K F v q => by cases r; exact q
theorem noneOpt {ρ : Type} [Enc ρ] : NoneIs (some (none : Option ρ)) := fun r h K F v q => by cases h; exact q
theorem toSp_imp {T : Tb} {n : Nat} {d d' : DSp} {vs : List V} {H : Hp} {Q : VK} {E : XK} (h : toSp K T n d vs H Q E) (k : ∀ As gs R X, d As gs R X → d' As gs R X) : toSp K T n d' vs H Q E := by
  obtain ⟨h1, As, gs, F, r, G, q⟩ := h
  exact ⟨h1, As, gs, F, r, G, k _ _ _ _ q⟩
/-- returned data may be told otherwise -/
def DAs (K : Frag) (d : DSp) : DSp := fun As gs R E => d As gs (fun A gs' => ∃ B : Pv, (∀ F v, A.rep K F v → B.rep K F v) ∧ R B gs') E
theorem fnOk_as {T : Tb} {k n : Nat} {f : Addr} {fd : FuncData} {ps : List Str} {d : DSp} (m : DMono d) (h : FnOk P w K mg base (L2.CX P w) k f fd ps (toSp K T n d)) : FnOk P w K mg base (L2.CX P w) k f fd ps (toSp K T n (DAs K d)) :=
  h.imp fun vs H Q E ⟨h1, As, gs, F, r, G, q⟩ => ⟨h1, As, gs, F, r, G, m _ _ _ _ _ _ (fun A gs' ⟨B, hb, q⟩ v H' F' r' G' st => q v H' F' (hb _ _ r') G' st) (fun e gs' q => q) q⟩
section
variable {τ ρ : Type} [Ags τ] [Enc ρ]
theorem fn_F {k : Nat} {N ps : List Str} {d : He.DefD} {fd : FuncData} (r0 : Option ρ) (L : LK w K mg base fa fn tq) (F1 : Fd K d ps fd) (S : FnScope N ps d.scope) (W : τ → (ρ → Prop) → (Ex → Prop) → Prop) (n0 : NoneIs r0) (hl : ∀ t : τ, (Ags.pvs t).length = ps.length)
    (body : ∀ (z : BZ) (t : τ) (Q : ρ → Prop) (E : Ex → Prop), W t Q E → YE (yB P w K mg base tq k N d [] z) (fun gs => gs = []) E → (∀ q, (d.at_, q) ∈ tq → Tbl (yB P w K mg base tq k N d [] z).X (tbOf K tq) q) →
      Ws (yB P w K mg base tq k N d [] z) ⟨(Ags.pvs t).map some ++ List.replicate (N.length - ps.length) none, []⟩ d.body (retE (fun gs => gs = []) r0 Q)) :
    FnOk P w K mg base (L2.CX P w) (k + 1) (He.fAd K d.at_) fd ps (toSp K (tbOf K tq) ps.length (spF K W)) := by
  have h := fnOk_as (d := fun As gs R E => ∃ t, As = Ags.pvs t ∧ gs = [] ∧ ∃ R0 E0, W t R0 E0 ∧ (∀ r, R0 r → R (pu r) []) ∧ (∀ r, r0 = some r → R0 r → R (pu ()) []) ∧ ∀ e, E0 e → E (exK K e) [])
    (fun As gs R R' E E' h1 h2 ⟨t, e1, e2, R0, E0, hw, hr, hr', he⟩ => ⟨t, e1, e2, R0, E0, hw, fun r q => h1 _ _ (hr r q), fun r e q => h1 _ _ (hr' r e q), fun e q => h2 _ _ (he e q)⟩)
    (df_ok L F1 S _ (fun As gs R E ⟨t, e1, _⟩ => by rw [e1]; exact hl t) fun cdv A outer s H F gs E ex As R X hd hex tbl ok => by
      obtain ⟨t, rfl, rfl, R0, E0, hw, hr, hr', hE⟩ := hd
      refine (body ⟨cdv, A, outer, s, H, F, E, ex⟩ t R0 E0 hw ⟨ok, fun e s' ⟨n, hn⟩ he => hex _ _ ⟨n, by rw [hn]; exact hE e he⟩⟩ tbl).mono (fun s' ⟨⟨n, hn⟩, r, e, q⟩ => ⟨n, by rw [hn]; exact hr' r e q⟩) (fun A s' ⟨⟨n, hn⟩, r, e, q⟩ => ⟨n, by rw [hn, e]; exact hr r q⟩) (fun _ h => h) (fun _ h => h))
  exact h.imp fun vs H Q E q => toSp_imp q fun As gs R X ⟨t, e1, e2, R0, E0, hw, hr, he⟩ => ⟨t, e1, e2, R0, E0, hw, fun r q => ⟨_, fun _ _ h => h, hr r q⟩, fun r e q => ⟨_, n0 r e K, hr r q⟩, he⟩
theorem fn_D {k : Nat} {N ps : List Str} {d : He.DefD} {fd : FuncData} (r0 : Option ρ) (L : LK w K mg base fa fn tq) (F1 : Fd K d ps fd) (S : FnScope N ps d.scope) (W : τ → (ρ → Prop) → (Ex → Prop) → Prop) (n0 : NoneIs r0) (hl : ∀ t : τ, (Ags.pvs t).length + 1 = ps.length)
    (body : ∀ (q : Addr) (z : BZ) (t : τ) (Q : ρ → Prop), W t Q NoE → YE (yB P w K mg base tq k N d [(q, dicec)] z) (fun gs => gs = [(q, dicec)]) NoE → (∀ q', (d.at_, q') ∈ tq → Tbl (yB P w K mg base tq k N d [(q, dicec)] z).X (tbOf K tq) q') →
      Ws (yB P w K mg base tq k N d [(q, dicec)] z) ⟨(raw (.ref q) :: Ags.pvs t).map some ++ List.replicate (N.length - ps.length) none, [(q, dicec)]⟩ d.body (retE (fun gs => gs = [(q, dicec)]) r0 Q)) :
    FnOk P w K mg base (L2.CX P w) (k + 1) (He.fAd K d.at_) fd ps (toSp K (tbOf K tq) ps.length (spD W)) := by
  have h := fnOk_as (d := fun As gs R E => ∃ q t, As = raw (.ref q) :: Ags.pvs t ∧ gs = [(q, dicec)] ∧ ∃ R0, W t R0 NoE ∧ (∀ r, R0 r → R (pu r) [(q, dicec)]) ∧ (∀ r, r0 = some r → R0 r → R (pu ()) [(q, dicec)]))
    (fun As gs R R' E E' h1 h2 ⟨q, t, e1, e2, R0, hw, hr, hr'⟩ => ⟨q, t, e1, e2, R0, hw, fun r q => h1 _ _ (hr r q), fun r e q => h1 _ _ (hr' r e q)⟩)
    (df_ok L F1 S _ (fun As gs R E ⟨q, t, e1, _⟩ => by rw [e1]; exact hl t) fun cdv A outer s H F gs E ex As R X hd hex tbl ok => by
      obtain ⟨q, t, rfl, rfl, R0, hw, hr, hr'⟩ := hd
      refine (body q ⟨cdv, A, outer, s, H, F, E, ex⟩ t R0 hw ⟨ok, fun e s' _ he => he.elim⟩ tbl).mono (fun s' ⟨⟨n, hn⟩, r, e, q⟩ => ⟨n, by rw [hn]; exact hr' r e q⟩) (fun A s' ⟨⟨n, hn⟩, r, e, q⟩ => ⟨n, by rw [hn, e]; exact hr r q⟩) (fun _ h => h) (fun _ h => h))
  exact h.imp fun vs H Q E q => toSp_imp q fun As gs R X ⟨q, t, e1, e2, R0, hw, hr⟩ => ⟨q, t, e1, e2, R0, hw, fun r q => ⟨_, fun _ _ h => h, hr r q⟩, fun r e q => ⟨_, n0 r e K, hr r q⟩⟩
/-- an __init__'s ends -/
def retI (K : Frag) {ρ : Type} [o : Ob ρ] (q : Addr) (Q : ρ → Prop) : DE :=
  { nx := fun s' => ∃ r, (∃ n, s'.gs.drop n = [(q, insc (He.ga K o.cls) (o.flds r))]) ∧ Q r, rt := fun A s' => A = pu () ∧ ∃ r, (∃ n, s'.gs.drop n = [(q, insc (He.ga K o.cls) (o.flds r))]) ∧ Q r }
theorem fn_I {γ : Type} [og : Ob γ] {k : Nat} {N ps : List Str} {d : He.DefD} {fd : FuncData} (L : LK w K mg base fa fn tq) (F1 : Fd K d ps fd) (S : FnScope N ps d.scope) (W : τ → (γ → Prop) → (Ex → Prop) → Prop) (hl : ∀ t : τ, (Ags.pvs t).length + 1 = ps.length)
    (body : ∀ (q : Addr) (z : BZ) (t : τ) (Q : γ → Prop) (E : Ex → Prop), W t Q E → YE (yB P w K mg base tq k N d [(q, insc (He.ga K (Ob.cls γ)) [])] z) (fun gs => ∃ fs, gs = [(q, insc (He.ga K (Ob.cls γ)) fs)]) E → (∀ q', (d.at_, q') ∈ tq → Tbl (yB P w K mg base tq k N d [(q, insc (He.ga K (Ob.cls γ)) [])] z).X (tbOf K tq) q') →
      Ws (yB P w K mg base tq k N d [(q, insc (He.ga K (Ob.cls γ)) [])] z) ⟨(raw (.ref q) :: Ags.pvs t).map some ++ List.replicate (N.length - ps.length) none, [(q, insc (He.ga K (Ob.cls γ)) [])]⟩ d.body (retI K q Q)) :
    FnOk P w K mg base (L2.CX P w) (k + 1) (He.fAd K d.at_) fd ps (toSp K (tbOf K tq) ps.length (spI K W)) :=
  df_ok L F1 S _ (fun As gs R E ⟨q, t, e1, _⟩ => by rw [e1]; exact hl t) fun cdv A outer s H F gs E ex As R X hd hex tbl ok => by
    obtain ⟨q, t, rfl, rfl, R0, E0, hw, hr, hE⟩ := hd
    refine (body q ⟨cdv, A, outer, s, H, F, E, ex⟩ t R0 E0 hw ⟨ok, fun e s' ⟨n, fs, hn⟩ he => hex _ _ ⟨n, by rw [hn]; exact hE e he fs⟩⟩ tbl).mono (fun s' ⟨r, ⟨n, hn⟩, q⟩ => ⟨n, by rw [hn]; exact hr r q⟩) (fun A s' ⟨ea, r, ⟨n, hn⟩, q⟩ => ⟨n, by rw [hn, ea]; exact hr r q⟩) (fun _ h => h) (fun _ h => h)
end
/-! the dice -/
theorem dice_open {T : Tb} {q : Addr} {H F : Hp} (G : Stg K T [(q, dicec)] H F) : ∃ i j k : Int, Stg K T [(q, lstc [i, j, k])] H F := by
  obtain ⟨h1, o, h2, h3, i, j, k, h4⟩ := G.own (q, dicec) List.mem_cons_self
  refine ⟨i, j, k, G.ext, G.ntb, fun p hp => ?_, G.nd, G.tb⟩
  rw [List.mem_singleton.mp hp]
  exact ⟨h1, o, h2, h3, _, h4, .cons rfl (.cons rfl (.cons rfl .nil))⟩
theorem dice_close {T : Tb} {q : Addr} {H F : Hp} {i j k : Int} (G : Stg K T [(q, lstc [i, j, k])] H F) : Stg K T [(q, dicec)] H F := by
  obtain ⟨h1, o, h2, h3, vs, h4, h5⟩ := G.own (q, lstc [i, j, k]) List.mem_cons_self
  refine ⟨G.ext, G.ntb, fun p hp => ?_, G.nd, G.tb⟩
  rw [List.mem_singleton.mp hp]
  refine ⟨h1, o, h2, h3, i, j, k, ?_⟩
  rw [h4, vs_ints h5]
  rfl
def rollW (t : Int × Unit) (Q : Int → Prop) (_ : Ex → Prop) : Prop := 0 < t.1 ∧ t.1 < 1073741824 ∧ ∀ r : Int, 0 ≤ r → r < t.1 → Q r
/-- rolls with the dice told, as a promise with the dice untold -/
def dRollA : DSp := fun As gs R E => ∃ (q : Addr) (i j k many : Int), As = [raw (.ref q), pu many] ∧ gs = [(q, lstc [i, j, k])] ∧ 0 < many ∧ many < 1073741824 ∧ ∀ r i' j' k' : Int, 0 ≤ r → r < many → R (pu r) [(q, lstc [i', j', k'])]
theorem roll_D {k n : Nat} {f : Addr} {fd : FuncData} {ps : List Str} {T : Tb} (h : FnOk P w K mg base (L2.CX P w) k f fd ps (toSp K T n dRollA)) : FnOk P w K mg base (L2.CX P w) k f fd ps (toSp K T n (spD rollW)) :=
  h.imp fun vs H Q E ⟨h1, As, gs, F, r, G, q, t, e1, e2, R0, ⟨hw1, hw2, hw3⟩, hr⟩ => by
    subst e1 e2
    obtain ⟨i, j, k, G'⟩ := dice_open G
    exact ⟨h1, _, _, F, r, G', q, i, j, k, t.1, rfl, rfl, hw1, hw2, fun r i' j' k' l1 l2 v H' F' rr G2 st => hr r (hw3 r l1 l2) v H' F' rr (dice_close G2) st⟩
/-- the dice made -/
def dDiceA : DSp := fun As gs R E => ∃ c : Int, As = [pu c] ∧ gs = [] ∧ ∀ q : Addr, R (raw (.ref q)) [(q, dicec)]
def dDice0 : DSp := fun As gs R E => ∃ c : Int, As = [pu c] ∧ gs = [] ∧ ∀ (i j k : Int) (q : Addr), R (raw (.ref q)) [(q, lstc [i, j, k])]
theorem dice_D {k n : Nat} {f : Addr} {fd : FuncData} {ps : List Str} {T : Tb} (h : FnOk P w K mg base (L2.CX P w) k f fd ps (toSp K T n dDice0)) : FnOk P w K mg base (L2.CX P w) k f fd ps (toSp K T n dDiceA) :=
  h.imp fun vs H Q E ⟨h1, As, gs, F, r, G, c, e1, e2, hr⟩ => ⟨h1, _, _, F, r, G, c, e1, e2, fun i j k q v H' F' rr G2 st => hr q v H' F' rr (dice_close G2) st⟩
theorem mDiceA : DMono dDiceA := fun As gs R R' E E' h1 h2 ⟨c, e, e2, k⟩ => ⟨c, e, e2, fun q => h1 _ _ (k q)⟩
/-- the rounds: one -/
def dRoundsA : DSp := fun As gs R E => ∃ ns : List Int, As = [pu ns, pu (1 : Int)] ∧ gs = [] ∧ ∀ q : Addr, R (pu [Rf.mk q]) [(q, dicec)]
theorem mRoundsA : DMono dRoundsA := fun As gs R R' E E' h1 h2 ⟨c, e, e2, k⟩ => ⟨c, e, e2, fun q => h1 _ _ (k q)⟩
/-- a drawn word -/
def wordW (t : Txt × Int × Int × Unit) (Q : Txt → Prop) (_ : Ex → Prop) : Prop :=
  t.1 ≠ [] ∧ t.1.length ≤ 1000 ∧ 0 ≤ t.2.1 ∧ t.2.1 ≤ t.2.2.1 ∧ t.2.2.1 ≤ 1000 ∧ ∀ x : Txt, (∀ c ∈ x, c ∈ t.1) → t.2.1 ≤ (x.length : Int) → (x.length : Int) ≤ t.2.2.1 → Q x
end
end Sp
set_option maxHeartbeats 4000000
/-! Sp: joins, constants of the module, chains of comparisons, the rounds. -/
namespace Sp
open PySem L2
open PySem.W (Datum DatumOrd SomeDatum)
section
variable {Y : DX} {s : DSt} {e a b c o tg iter elt : Expr} {es ifs : List Expr} {pos p p2 apos : Pos} {α β γ : Type} [Enc α] [Enc β] [Enc γ] {D : DE} {sts : List Stmt} {x y : Str}
/-- module constants -/
theorem c_gs {z : Str} (hg : Gl Y.X x) (hm : ∃ t, Y.X.mg x = some (.str z t)) (hd : (x == ("__debug__" : Str)) = false := by decide) : EvC Y s (.Name x pos) fun k => k (tx z) := by
  obtain ⟨t, hm⟩ := hm
  exact c_of (evp_glob (v := .str z) hg hm ⟨t, rfl⟩ (fun F => by show V.str z = V.str (toStr (tx z)); rw [toStr_tx]) hd)
theorem c_gi {z : Int} (hg : Gl Y.X x) (hm : ∃ t, Y.X.mg x = some (.int z t)) (hd : (x == ("__debug__" : Str)) = false := by decide) : EvC Y s (.Name x pos) fun k => k z := by
  obtain ⟨t, hm⟩ := hm
  exact c_of (evp_glob (v := .int z) hg hm ⟨t, rfl⟩ (fun F => rfl) hd)
/-! chains -/
section
variable {o1 o2 : CmpOp} {r1 r2 : Int → Int → Bool} {Wa Wb Wc : (Int → Prop) → Prop}
theorem t_chain (h1 : OpR Y.X (compareOp o1) (fun x y H Q => ∃ i j, x = .int i ∧ y = .int j ∧ Q (.bl (r1 i j)) H)) (h2 : OpR Y.X (compareOp o2) (fun x y H Q => ∃ i j, x = .int i ∧ y = .int j ∧ Q (.bl (r2 i j)) H)) (ha : EvC Y s a Wa) (hb : EvC Y s b Wb) {v : Int} (hc : EvC Y s c Wc) (hm : lastMarks [o1, o2] [b, c] = false := by with_unfolding_all rfl) :
    EvT Y s (.Compare a [o1, o2] [b, c] pos) fun k => Wa fun i => Wb fun j => (r1 i j = true → Wc fun z => z = v) ∧ k (r1 i j && r2 j v) := fun k w F0 σ H F e0 S => by
  refine .of (pt_chain h1 h2 pe_we pe_we pe_we hm) ?_
  refine (ha _ w F0 σ H F e0 S).mono fun v H1 ⟨_, _, F1, e1, r1', S1, i, ei, es, w⟩ => ?_
  subst ei es
  refine (hb _ w F1 σ H1 F1 (.refl _) S1).mono fun u H2 ⟨_, _, F2, e2, r2', S2, j, ej, es, w⟩ => ?_
  subst ej es
  refine ⟨i, j, r1', r2', r1 i j, rfl, ?_⟩
  cases hr : r1 i j with
  | true =>
    rw [if_pos rfl]
    refine (hc _ (w.1 hr) F2 σ H2 F2 (.refl _) S2).mono fun z H3 ⟨_, _, F3, e3, r3, S3, m, em, es, ez⟩ => ?_
    subst em es ez
    refine ⟨j, m, r2', r3, r2 j m, rfl, _, F3, (e1.trans e2).trans e3, S3, rfl, ?_⟩
    have := w.2
    rw [hr] at this
    simpa using this
  | false =>
    rw [if_neg Bool.false_ne_true]
    refine ⟨false, rfl, _, F2, e1.trans e2, S2, rfl, ?_⟩
    have := w.2
    rw [hr] at this
    simpa using this
theorem c_chain (h1 : OpR Y.X (compareOp o1) (fun x y H Q => ∃ i j, x = .int i ∧ y = .int j ∧ Q (.bl (r1 i j)) H)) (h2 : OpR Y.X (compareOp o2) (fun x y H Q => ∃ i j, x = .int i ∧ y = .int j ∧ Q (.bl (r2 i j)) H)) (ha : EvC Y s a Wa) (hb : EvC Y s b Wb) {v : Int} (hc : EvC Y s c Wc) (hm : lastMarks [o1, o2] [b, c] = false := by with_unfolding_all rfl) :
    EvC Y s (.Compare a [o1, o2] [b, c] pos) fun k => Wa fun i => Wb fun j => (r1 i j = true → Wc fun z => z = v) ∧ k (r1 i j && r2 j v) := fun k w F0 σ H F e0 S => by
  refine .of (pe_chain h1 h2 pe_we pe_we pe_we hm) ?_
  refine (ha _ w F0 σ H F e0 S).mono fun v H1 ⟨_, _, F1, e1, r1', S1, i, ei, es, w⟩ => ?_
  subst ei es
  refine (hb _ w F1 σ H1 F1 (.refl _) S1).mono fun u H2 ⟨_, _, F2, e2, r2', S2, j, ej, es, w⟩ => ?_
  subst ej es
  refine ⟨i, j, r1', r2', r1 i j, rfl, ?_⟩
  cases hr : r1 i j with
  | true =>
    rw [if_pos rfl]
    refine (hc _ (w.1 hr) F2 σ H2 F2 (.refl _) S2).mono fun z H3 ⟨_, _, F3, e3, r3, S3, m, em, es, ez⟩ => ?_
    subst em es ez
    refine ⟨j, m, r2', r3, pu (r2 j m), _, F3, (e1.trans e2).trans e3, rfl, S3, _, rfl, rfl, ?_⟩
    have := w.2
    rw [hr] at this
    simpa using this
  | false =>
    rw [if_neg Bool.false_ne_true]
    refine ⟨pu false, _, F2, e1.trans e2, rfl, S2, _, rfl, rfl, ?_⟩
    have := w.2
    rw [hr] at this
    simpa using this
end
/-! a join behind an if -/
theorem s_ifJ {Z J : Type} {A1 A2 : List Stmt} {Rest : Z → Prop} {B C : (Z → Prop) → Prop} {Wc : (Bool → Prop) → Prop} (stf : Z → J → DSt) (hc : EvT Y s c Wc) (h1 : ∀ nx : Z → Prop, B nx → Ws Y s A1 { D with nx := fun s' => ∃ z j, s' = stf z j ∧ nx z }) (h2 : ∀ nx : Z → Prop, C nx → Ws Y s A2 { D with nx := fun s' => ∃ z j, s' = stf z j ∧ nx z })
    (next : ∀ z j, Rest z → Ws Y (stf z j) sts D) (w : Wc fun t => (t = true → B Rest) ∧ (t = false → C Rest)) : Ws Y s (.If c A1 A2 pos :: sts) D :=
  ws_cons (w1_if (hc.q w fun t r => by
    cases t with
    | true => rw [if_pos rfl]; exact (h1 _ (r.1 rfl)).mono (fun s' ⟨z, j, e, q⟩ => by subst e; exact next z j q) (fun _ _ h => h) (fun _ h => h) (fun _ h => h)
    | false => rw [if_neg Bool.false_ne_true]; exact (h2 _ (r.2 rfl)).mono (fun s' ⟨z, j, e, q⟩ => by subst e; exact next z j q) (fun _ _ h => h) (fun _ h => h) (fun _ h => h)))
theorem ws_dropN {n : Nat} (h : Ws Y ⟨s.ρ, s.gs.drop n⟩ sts D) : Ws Y s sts D := fun F0 σ H F e0 S => h F0 σ H F e0 (S.dropN n)
theorem ws_frL {α : Type} [Enc α] {xs : List α} {q : Addr} (i j : Nat) (hi : s.ρ[i]? = some (some (raw (.ref q)))) (hj : s.gs[j]? = some (q, lstc xs)) (h : Ws Y ⟨s.ρ.set i (some (pu xs)), s.gs.eraseIdx j⟩ sts D) : Ws Y s sts D := ws_freezeL i j hi hj h
theorem ws_frD {κ ν : Type} [DecidableEq κ] [Kk κ] [Enc κ] [KkV κ] [Enc ν] {m : List (κ × ν)} {q : Addr} (i j : Nat) (hi : s.ρ[i]? = some (some (raw (.ref q)))) (hj : s.gs[j]? = some (q, dctc m)) (h : Ws Y ⟨s.ρ.set i (some (pu (Dct.mk m))), s.gs.eraseIdx j⟩ sts D) : Ws Y s sts D := ws_freezeD i j hi hj h
/-- the one round of a law -/
theorem s_rounds {j : Nat} {ns : List Int} {ps : List Str} {bd : List Stmt} {py pp pc : Pos} {k1 : Nat} {R : Prop} (i i0 : Nat) (ok : YOk Y) (G : Df Y.X.prog Y.X.w Y.X.K Y.X.mg Y.X.base Y.T j "_law_rounds" ps dRoundsA) (hj : j ≤ Y.k) (hl : ps.length = 2) (hg : Gl Y.X "_law_rounds") (h0 : s.gs = []) (hx : TgOk Y tg (gName i) [i] (fun (v : Rf) ρ => ρ.set i (some (pu v)))) (ha : EvC Y s a fun k => k ns)
    (body : ∀ q, R → Ws Y ⟨s.ρ.set i (some (raw (.ref q))), [(q, dicec)]⟩ bd { D with nx := fun s' => Ws Y s' sts D, ct := fun s' => Ws Y s' sts D, bk := fun _ => False }) (w : R)
    (he : starEach [a, .Constant (.int 1) k1 pc] Y.X.env = (false, eval a Y.X.env) :: starEach [.Constant (.int 1) k1 pc] Y.X.env := by exact star_c rfl) (he2 : starEach [.Constant (.int 1) k1 pc] Y.X.env = (false, eval (.Constant (.int 1) k1 pc) Y.X.env) :: starEach [] Y.X.env := by exact star_c rfl) (hpl : (backTo pos (starEach [.Constant (.int 1) k1 pc] Y.X.env)).any (·.1) = false := by rfl) (hs : ∀ x, foldedSetIterable (.Call (.Name "_law_rounds" pp) [a, .Constant (.int 1) k1 pc] [] pos) Y.X.env x = pure x := by intro _; rfl) :
    Ws Y s (.For tg (.Call (.Name "_law_rounds" pp) [a, .Constant (.int 1) k1 pc] [] pos) bd [] py :: sts) D :=
  ws_cons (w1_forE ok (it_listE (α := Rf) (G := fun items s' => ∃ q, items = [Rf.mk q] ∧ s' = ⟨s.ρ, [(q, dicec)]⟩) (ev_call G ok hj hg (evs_cons (ha.q (k := fun v => v = ns) rfl fun v ev => evs_cons (.of evp_int (evs_nil (by
    subst ev
    refine ⟨hl.symm, [], s.gs, .refl _, _, rfl, rfl, fun q => ⟨[Rf.mk q], rfl, q, rfl, ?_⟩⟩
    rw [h0]
    rfl))) he2) he) (by decide) he hpl)) hx (fun items s' ⟨q, e1, e2⟩ => by
      subst e1 e2
      refine ⟨fun n s' => (n = 0 ∧ s' = ⟨s.ρ, [(q, dicec)]⟩) ∨ (n = 1 ∧ Ws Y s' sts D), .inl ⟨rfl, rfl⟩, fun i x s2 hx h => ?_, fun s2 h => ?_⟩
      · rcases h with ⟨rfl, rfl⟩ | ⟨rfl, _⟩
        · cases hx
          exact (body q w).mono (fun s' h => .inr ⟨rfl, h⟩) (fun _ _ h => h) (fun _ h => h.elim) (fun s' h => .inr ⟨rfl, h⟩)
        · cases hx
      · rcases h with ⟨h, _⟩ | ⟨_, h⟩
        · cases h
        · exact h) hs)
end
end Sp
set_option maxHeartbeats 4000000
/-! Sp: generators with no test; lists of dicts' parts; sums' sides. -/
namespace Sp
open PySem L2
open PySem.W (Datum DatumOrd SomeDatum)
/-- an if whose ways meet again -/
def ifJ {Z : Type} (b : Bool) (B C : (Z → Prop) → Prop) (rest : Z → Prop) : Prop := (b = true → B rest) ∧ (b = false → C rest)
abbrev TgD.t {α β γ : Type} (a : TgD α) (b : TgD β) (c : TgD γ) : TgD (T3 α β γ) := ⟨fun K => gTup K 3 (gCons (a.g K) (gCons (b.g K) (gCons (c.g K) gNil))), a.ws ++ (b.ws ++ c.ws), fun v ρ => c.f v.c (b.f v.b (a.f v.a ρ))⟩
def sumL {α β : Type} [Inhabited α] : α ⊕ β → α
  | .inl a => a
  | .inr _ => default
def optG {α : Type} [Inhabited α] (x : Option α) : α := x.getD default
section
variable {Y : DX} {s : DSt} {e a b c o tg iter elt body : Expr} {es ifs : List Expr} {pos p apos cpos lpos gpos : Pos} {α β : Type} [Enc α] [Enc β] {G0 : Gs → Prop} {E : Ex → Prop} {k : Nat} {scope : Scope}
theorem c_sumL [Inhabited α] {W : (α ⊕ β → Prop) → Prop} (h : EvC Y s e W) : EvC Y s e fun k => W fun x => x.isLeft = true ∧ k (sumL x) := fun k w => (h _ w).mono fun A s' ⟨x, ea, es, w1, w2⟩ => by
  cases x with
  | inl x => exact ⟨x, by rw [ea]; rfl, es, w2⟩
  | inr x => cases w1
theorem c_optG [Inhabited α] {W : (Option α → Prop) → Prop} (h : EvC Y s e W) : EvC Y s e fun k => W fun x => x.isSome = true ∧ k (optG x) := fun k w => (h _ w).mono fun A s' ⟨x, ea, es, w1, w2⟩ => by
  cases x with
  | some x => exact ⟨x, by rw [ea]; rfl, es, w2⟩
  | none => cases w1
section
variable {W : (List β → Prop) → Prop}
theorem c_any0 {We : β → (Bool → Prop) → Prop} (t : TgD β) (k : Nat) (vs : List Nat) (items : List β) (h : β → Bool) (ok : YOk Y) (B : Bis Y.X.mg) (hg : Gl Y.X "any") (hk : k + 2 ≤ Y.k) (hi : ItC Y s tg iter W) (G : GenOk Y.X.N Y.X.env.scope scope vs) (tb : Tbl Y.X Y.T (Y.X.env.qual ++ "<genexpr>")) (tg0 : ∀ z, TgOk (genY Y k scope z) tg (t.g Y.X.K) t.ws t.f)
    (he : ∀ z, YOk (genY Y k scope z) → ∀ x, EvC (genY Y k scope z) ⟨t.f x (wipeR s.ρ vs), s.gs⟩ elt (We x)) (sub : ∀ j ∈ t.ws, j ∈ vs := by decide) (hs : ∀ x, genFold iter Y.X.env x = pure x := by intro _; rfl)
    (hst : starEach [.GeneratorExp elt [⟨tg, iter, [], 0⟩] scope gpos] Y.X.env = (false, eval (.GeneratorExp elt [⟨tg, iter, [], 0⟩] scope gpos) Y.X.env) :: starEach [] Y.X.env := by exact star_c rfl) :
    EvC Y s (.Call (.Name "any" p) [.GeneratorExp elt [⟨tg, iter, [], 0⟩] scope gpos] [] pos) fun kk => (W fun is => is = items) ∧ (∀ x ∈ items, We x fun y => y = h x) ∧ kk (items.any h) := fun kk ⟨w1, w3, w4⟩ =>
  (c_any (Wc := fun _ k => k true) t k vs items (fun _ => true) h ok B hg hk hi G tb tg0 (fun _ _ _ => ts_nil) he sub hs hst) kk ⟨w1, fun _ _ => rfl, fun x hx _ => w3 x hx, by rw [List.filter_eq_self.mpr (fun _ _ => rfl)]; exact w4⟩
theorem c_all0 {We : β → (Bool → Prop) → Prop} (t : TgD β) (k : Nat) (vs : List Nat) (items : List β) (h : β → Bool) (ok : YOk Y) (B : Bis Y.X.mg) (hg : Gl Y.X "all") (hk : k + 2 ≤ Y.k) (hi : ItC Y s tg iter W) (G : GenOk Y.X.N Y.X.env.scope scope vs) (tb : Tbl Y.X Y.T (Y.X.env.qual ++ "<genexpr>")) (tg0 : ∀ z, TgOk (genY Y k scope z) tg (t.g Y.X.K) t.ws t.f)
    (he : ∀ z, YOk (genY Y k scope z) → ∀ x, EvC (genY Y k scope z) ⟨t.f x (wipeR s.ρ vs), s.gs⟩ elt (We x)) (sub : ∀ j ∈ t.ws, j ∈ vs := by decide) (hs : ∀ x, genFold iter Y.X.env x = pure x := by intro _; rfl)
    (hst : starEach [.GeneratorExp elt [⟨tg, iter, [], 0⟩] scope gpos] Y.X.env = (false, eval (.GeneratorExp elt [⟨tg, iter, [], 0⟩] scope gpos) Y.X.env) :: starEach [] Y.X.env := by exact star_c rfl) :
    EvC Y s (.Call (.Name "all" p) [.GeneratorExp elt [⟨tg, iter, [], 0⟩] scope gpos] [] pos) fun kk => (W fun is => is = items) ∧ (∀ x ∈ items, We x fun y => y = h x) ∧ kk (items.all h) := fun kk ⟨w1, w3, w4⟩ =>
  (c_all (Wc := fun _ k => k true) t k vs items (fun _ => true) h ok B hg hk hi G tb tg0 (fun _ _ _ => ts_nil) he sub hs hst) kk ⟨w1, fun _ _ => rfl, fun x hx _ => w3 x hx, by rw [List.filter_eq_self.mpr (fun _ _ => rfl)]; exact w4⟩
theorem c_sumG0 {We : β → (Int → Prop) → Prop} (t : TgD β) (k : Nat) (vs : List Nat) (items : List β) (h : β → Int) (ok : YOk Y) (B : Bis Y.X.mg) (hg : Gl Y.X "sum") (hk : k + 2 ≤ Y.k) (hi : ItC Y s tg iter W) (G : GenOk Y.X.N Y.X.env.scope scope vs) (tb : Tbl Y.X Y.T (Y.X.env.qual ++ "<genexpr>")) (tg0 : ∀ z, TgOk (genY Y k scope z) tg (t.g Y.X.K) t.ws t.f)
    (he : ∀ z, YOk (genY Y k scope z) → ∀ x, EvC (genY Y k scope z) ⟨t.f x (wipeR s.ρ vs), s.gs⟩ elt (We x)) (sub : ∀ j ∈ t.ws, j ∈ vs := by decide) (hs : ∀ x, genFold iter Y.X.env x = pure x := by intro _; rfl)
    (hst : starEach [.GeneratorExp elt [⟨tg, iter, [], 0⟩] scope gpos] Y.X.env = (false, eval (.GeneratorExp elt [⟨tg, iter, [], 0⟩] scope gpos) Y.X.env) :: starEach [] Y.X.env := by exact star_c rfl) :
    EvC Y s (.Call (.Name "sum" p) [.GeneratorExp elt [⟨tg, iter, [], 0⟩] scope gpos] [] pos) fun kk => (W fun is => is = items) ∧ (∀ x ∈ items, We x fun y => y = h x) ∧ SumOk (items.map h) ∧ kk (items.map h).sum := fun kk ⟨w1, w3, w5, w4⟩ =>
  (c_sumG (Wc := fun _ k => k true) t k vs items (fun _ => true) h ok B hg hk hi G tb tg0 (fun _ _ _ => ts_nil) he sub hs hst) kk ⟨w1, fun _ _ => rfl, fun x hx _ => w3 x hx, by rw [List.filter_eq_self.mpr (fun _ _ => rfl)]; exact ⟨w5, w4⟩⟩
end
/-- a comprehension's list, owned -/
theorem n_L {t : TgD β} {own : List (Str × Nat)} {W : (List α → Prop) → Prop} (ok : YOk Y) (h : LcW Y s scope own t tg iter elt ifs W) : EvN Y s (.ListComp elt [⟨tg, iter, ifs, 0⟩] scope pos) W := fun k w F0 σ H F e0 S => by
  obtain ⟨G, ⟨wi, hp, hw⟩, LL⟩ := h.run k w
  have P := pe_lc (pos := pos) (tt := fun σ H Q => ∀ z, WTs (blkX Y.X scope z) ifs σ H Q) (te := fun σ H Q => ∀ z, WE (blkX Y.X scope z) elt σ H Q) ok.calm ok.nd hp h.bk (fun s H C cl fp => (h.tg0 ⟨s, H, C, cl, fp⟩).1) (fun s H C cl fp => ⟨fun pins s' σ H' Q I h => (h ⟨s, H, C, cl, fp⟩).run pins s' I⟩) (fun s H C cl fp => ⟨fun pins s' σ H' Q I h => (h ⟨s, H, C, cl, fp⟩).run pins s' I⟩) h.hs
  refine .of P (hw F0 σ H F _ e0 S fun J H1 F1 items s' e1 S1 K1 q => ?_)
  obtain ⟨Iv, L, h0, hQ⟩ := LL items s' q
  have t := tlc_ok (own := own) (wi := fun _ _ R => R J H1) (F0 := F1) (σ := σ) (H := H1) (Qf := Po Y σ F0 fun A s' => ∃ p xs, A = raw (.ref p) ∧ s' = ⟨s.ρ, (p, lstc xs) :: s.gs⟩ ∧ k xs) (fun R k => k J H1 F1 (.refl _) S1 K1) L h0 fun D H' F' ys gs e2 S2 iv => by
    obtain ⟨es, kk⟩ := hQ ys gs iv
    have e3 : s'.ρ = s.ρ ∧ gs = s.gs := by rw [← es]; exact ⟨rfl, rfl⟩
    rw [e3.1, e3.2] at S2
    exact ⟨raw (.ref D), _, F', e1.trans e2, rfl, S2, D, ys, rfl, rfl, kk⟩
  exact t
/-- tuple(d.items()) -/
theorem c_tupItems {κ ν : Type} [DecidableEq κ] [Kk κ] [Enc κ] [KkV κ] [Enc ν] {W : (List (κ × ν) → Prop) → Prop} (ok : YOk Y) (T : Bis Y.X.mg) (hg : Gl Y.X "tuple") (ho : EvD Y s e W) (hbase : attributeBase e "items" Y.X.env (eval e Y.X.env) = eval e Y.X.env := by exact ab_ok rfl) (hline : (apos.endLine == cpos.line) = true := by rfl)
    (hs : starEach [.Call (.Attribute e "items" apos) [] [] cpos] Y.X.env = (false, eval (.Call (.Attribute e "items" apos) [] [] cpos) Y.X.env) :: starEach [] Y.X.env := by exact star_c rfl) :
    EvC Y s (.Call (.Name "tuple" p) [.Call (.Attribute e "items" apos) [] [] cpos] [] pos) fun k => W fun m => k (PySem.W.Tup.mk m) := fun k w F0 σ H F e0 S => by
  refine .of (pe_tupleItems ok.calm pe_we hg (T.no _ (by decide)) hbase hline hs) ?_
  refine (ho _ w F0 σ H F e0 S).mono fun v H1 ⟨A, _, F1, e1, r1, S1, m, hA, es, w⟩ => ?_
  subst es
  obtain ⟨d, kvs, ev, hd, rk⟩ := hA σ H1 F1 v S1 r1
  refine ⟨d, kvs, ev, hd, fun H' p ts k1 k2 k3 k4 k5 k6 => ?_⟩
  have at6 : ∀ t ∈ ts, ∃ q : Key × V, H' t = some (.tup [kV q.1, q.2]) := fun t ht => by
    obtain ⟨j, q, _, _, e3⟩ := LiI.paired_ix k6 ht
    exact ⟨q, e3⟩
  obtain ⟨S2, eF⟩ := S1.growAll k1 (p :: ts) fun a ha => by
    rcases List.mem_cons.mp ha with h | h
    · subst h
      exact ⟨k2, _, k5, rfl⟩
    · obtain ⟨q, hq⟩ := at6 a h
      exact ⟨k3 a h, _, hq, rfl⟩
  refine ⟨pu (PySem.W.Tup.mk m), _, _, e1.trans eF, ⟨p, ts.map V.ref, rfl, .of (by
    show (if p ∈ p :: ts then H' p else F1 p) = _
    rw [if_pos List.mem_cons_self]
    exact k5), ?_⟩, S2, _, rfl, rfl, w⟩
  have key : ∀ (ts' : List Addr) (kvs' : List (Key × V)) (m' : List (κ × ν)), (∀ t ∈ ts', t ∈ ts) → Paired (fun (t : Addr) (q : Key × V) => H' t = some (.tup [kV q.1, q.2])) ts' kvs' → KVs Y.X.K F1 kvs' m' → Vs Y.X.K (fun b => if b ∈ p :: ts then H' b else F1 b) (ts'.map V.ref) m' := by
    intro ts' kvs' m' hsub h1
    induction h1 generalizing m' with
    | nil =>
      intro h2
      cases h2
      exact .nil
    | @cons t0 q0 l1 l2 a _ ih =>
      intro h2
      cases h2 with
      | cons b r =>
        refine .cons ⟨t0, kV q0.1, q0.2, rfl, .of ?_, ?_, Enc.mono b.2 eF⟩ (ih _ (fun t ht => hsub t (List.mem_cons_of_mem _ ht)) r)
        · show (if _ ∈ p :: ts then _ else _) = _
          rw [if_pos (List.mem_cons_of_mem _ (hsub _ List.mem_cons_self))]
          exact a
        · rw [b.1]
          exact KkV.rep _
  exact key ts kvs m (fun _ h => h) k6 rk
end
end Sp
set_option maxHeartbeats 4000000
/-! Sp: new cells frozen at once, dict displays, sums of a dict's values. -/
namespace Sp
open PySem L2
open PySem.W (Datum DatumOrd SomeDatum)
section
variable {Y : DX} {s : DSt} {e a b c d o : Expr} {es : List Expr} {pos p apos cpos : Pos}
section
variable {κ ν : Type} [DecidableEq κ] [Kk κ] [Enc κ] [KkV κ] [Enc ν]
theorem c_ofM {W : (List (κ × ν) → Prop) → Prop} (h : EvM Y s e W) : EvC Y s e fun k => W fun m => k (Dct.mk m) := fun k w F0 σ H F e0 S => by
  refine .lockAfter ((h _ w F0 σ H F e0 S).mono fun v H1 ⟨A, s1, F1, e1, r1, S1, q, m, ea, es, w⟩ => ?_)
  subst ea es
  obtain ⟨hF, oo, hoo, _, zs, eo, rv⟩ := S1.cell (i := 0) (p := q) (c := dctc m) rfl
  subst eo
  obtain rfl : v = .ref q := r1
  refine ⟨q, .dK zs, hoo, trivial, fun od => ⟨pu (Dct.mk m), s, upd F1 q (.frz od (.dK zs)), e1.trans (Ext.grow hF), ⟨q, od, zs, rfl, upd_same, rv.mono (Ext.grow hF)⟩, ?_, Dct.mk m, rfl, rfl, w⟩⟩
  have T1 := S1.write (i := 0) (o' := .frz od (.dK zs)) (c' := ⟨fun _ _ o => o = .frz od (.dK zs), fun h _ => h⟩) rfl hoo (not_codeD rfl) rfl rfl
  exact T1.freeze (i := 0) (p := q) rfl upd_same
/-- pairs of a display -/
def prL : List (Option Expr) → List Expr → List (Expr × Expr)
  | some k :: ks, v :: vs => (k, v) :: prL ks vs
  | _, _ => []
def EvPr (Y : DX) (s : DSt) (ks : List (Option Expr)) (vs : List Expr) {κ ν : Type} [Kk κ] [Enc κ] [Enc ν] (W : (List (κ × ν) → Prop) → Prop) : Prop :=
  ks.length = vs.length ∧ ks.all (·.isSome) = true ∧ (∀ pos, PPs Y.X pos ks vs ((prL ks vs).map fun p => (WE Y.X p.1, WE Y.X p.2))) ∧ ∀ k : List (κ × ν) → Prop, W k → ∀ F0 σ H F, Ext F0 F → Sta Y s σ H F →
    tPairs ((prL ks vs).map fun p => (WE Y.X p.1, WE Y.X p.2)) σ H fun ps H2 => ∃ F', Ext F0 F' ∧ Sta Y s σ H2 F' ∧ ∃ (m : List (κ × ν)) (kvs : List (Key × V)), ps = kvs.map (fun kv => (kV kv.1, kv.2)) ∧ kvs.length = ks.length ∧ KVs Y.X.K F' kvs m ∧ k m
theorem tp_mono {X : Cx} : ∀ (l : List (Expr × Expr)) {σ : St} {H : Hp} {Q Q' : List (V × V) → Hp → Prop}, tPairs (l.map fun p => (WE X p.1, WE X p.2)) σ H Q → (∀ ps H', Q ps H' → Q' ps H') → tPairs (l.map fun p => (WE X p.1, WE X p.2)) σ H Q'
  | [], _, _, _, _, h, f => f _ _ h
  | (a, b) :: l, σ, H, Q, Q', h, f => by
    show WE X a σ H fun x H1 => WE X b σ H1 fun y H2 => tPairs (l.map fun p => (WE X p.1, WE X p.2)) σ H2 fun ps H3 => Q' ((x, y) :: ps) H3
    exact (show WE X a σ H fun x H1 => WE X b σ H1 fun y H2 => tPairs (l.map fun p => (WE X p.1, WE X p.2)) σ H2 fun ps H3 => Q ((x, y) :: ps) H3 from h).mono fun x H1 h1 => h1.mono fun y H2 h2 => tp_mono l h2 fun ps H' q => f _ _ q
theorem pr_nil : EvPr Y s [] [] (κ := κ) (ν := ν) fun k => k [] := ⟨rfl, rfl, fun pos => pps_nil, fun k w F0 σ H F e0 S => ⟨F, e0, S, [], [], rfl, rfl, .nil, w⟩⟩
theorem pr_cons {ke ve : Expr} {ks : List (Option Expr)} {vs : List Expr} {Wk : (κ → Prop) → Prop} {Wv : (ν → Prop) → Prop} {W : (List (κ × ν) → Prop) → Prop} (hk : EvC Y s ke Wk) (hv : EvC Y s ve Wv) (h : EvPr Y s ks vs W) :
    EvPr Y s (some ke :: ks) (ve :: vs) fun k => Wk fun x => Wv fun y => W fun m => k ((x, y) :: m) := by
  obtain ⟨h1, h2, hp, hl⟩ := h
  refine ⟨by simp [h1], by simpa using h2, fun pos => pps_cons pe_we pe_we (hp pos), fun k w F0 σ H F e0 S => ?_⟩
  show WE Y.X ke σ H fun x H1 => WE Y.X ve σ H1 fun y H2 => tPairs ((prL ks vs).map fun p => (WE Y.X p.1, WE Y.X p.2)) σ H2 fun ps H3 => _
  refine (hk _ w F0 σ H F e0 S).mono fun x H1 ⟨A, _, F1, e1, r1, S1, x', ea, es, w⟩ => ?_
  subst ea es
  refine (hv _ w F1 σ H1 F1 (.refl _) S1).mono fun y H2 ⟨B, _, F2, e2, r2, S2, y', eb, es, w⟩ => ?_
  subst eb es
  refine tp_mono _ (hl _ w F2 σ H2 F2 (.refl _) S2) fun ps H3 ⟨F3, e3, S3, m, kvs, ep, el, rk, w⟩ => ?_
  subst ep
  exact ⟨F3, (e1.trans e2).trans e3, S3, (x', y') :: m, (Kk.key x', y) :: kvs, by rw [List.map_cons, KkV.of r1], by simp [el], .cons ⟨rfl, Enc.mono (α := ν) r2 e3⟩ rk, w⟩
theorem m_disp {ks : List (Option Expr)} {vs : List Expr} {W : (List (κ × ν) → Prop) → Prop} (h : ∀ p, EvPr Y ⟨s.ρ, (p, dctc ([] : List (κ × ν))) :: s.gs⟩ ks vs W) (h0 : ks ≠ [] := by intro h; cases h) (h15 : ks.length ≤ 15 := by decide) :
    EvM Y s (.Dict ks vs pos) fun k => W fun m => k (dmerge [] m) := fun k w F0 σ H F e0 S => by
  obtain ⟨h1, h2, hp, _⟩ := h 0
  refine .of (pe_disp (hp pos) h2 h1 h0 h15) fun q hq => ?_
  have S1 := S.newO (c := dctc ([] : List (κ × ν))) hq rfl ⟨[], rfl, .nil⟩
  refine tp_mono _ ((h q).2.2.2 _ w F0 σ _ F e0 S1) fun ps H2 ⟨F2, e2, S2, m, kvs, ep, el, rk, w⟩ => ?_
  obtain ⟨hF, oo, hoo, _, zs, eo, rv⟩ := S2.cell (i := 0) (p := q) (c := dctc ([] : List (κ × ν))) rfl
  subst eo
  cases rv
  refine ⟨hoo, kvs, ep, by omega, raw (.ref q), _, F2, e2, rfl, S2.write (i := 0) (c' := dctc (dmerge [] m)) rfl hoo (not_codeD rfl) rfl ⟨_, rfl, kvs_merge rk .nil⟩, q, _, rfl, rfl, w⟩
theorem c_disp {ks : List (Option Expr)} {vs : List Expr} {W : (List (κ × ν) → Prop) → Prop} (h : ∀ p, EvPr Y ⟨s.ρ, (p, dctc ([] : List (κ × ν))) :: s.gs⟩ ks vs W) (h0 : ks ≠ [] := by intro h; cases h) (h15 : ks.length ≤ 15 := by decide) :
    EvC Y s (.Dict ks vs pos) fun k => W fun m => k (Dct.mk (dmerge [] m)) := fun k w => c_ofM (m_disp h h0 h15) k w
/-- sum(d.values()) -/
def tSumValsF (td : TE) : TE := fun σ H Q => td σ H fun x H1 => ∃ a kvs, ∃ is : List Int, x = V.ref a ∧ Rd H1 a (.dK kvs) ∧ kvs.map (·.2) = is.map V.int ∧ Q (.int is.sum) H1
theorem pe_sumVals {X : Cx} {td : TE} (hc : X.calm = true) (hg : Gl X "sum") (hm : X.mg "sum" = none) (hd : PE X o td) (hbase : attributeBase o "values" X.env (eval o X.env) = eval o X.env := by exact ab_ok rfl) (hline : (apos.endLine == cpos.line) = true := by rfl)
    (hse : starEach [Expr.Call (.Attribute o "values" apos) [] [] cpos] X.env = [(false, eval (Expr.Call (.Attribute o "values" apos) [] [] cpos) X.env)] := by exact star_1 rfl) :
    PE X (.Call (.Name "sum" p) [.Call (.Attribute o "values" apos) [] [] cpos] [] pos) (tSumValsF td) := by
  refine ⟨fun pins s σ H Q I h => ?_⟩
  refine wpAny_Call_Name_kw (ld_blt I hg hm (u := .builtin "sum") (by first | rfl | decide +kernel) ?_ (by first | decide +kernel | decide) (by first | decide +kernel | decide))
  rw [hse]
  refine PySem.callWith_builtin1 (wpAny_Call_method0_late hbase hline (thn (hd.run pins s σ H _ I h) fun v s1 ⟨x, H1, I1, r1, a, kvs, is, ex, ha, hv, q⟩ => ?_))
  subst ex
  obtain rfl : v = Value.ref a := r1
  obtain ⟨hz, hsys, vs, rel, dof⟩ := dk_rd I1.hok ha
  obtain ⟨ep, dat⟩ := dof.dictAt
  have dat' := dat
  obtain ⟨ob, es, ho, ex, hdat, hko, hpr, hnd⟩ := dat'
  refine ⟨"dict", "dict.values", F.plainAttrs_dict, F.slot_dict_values, F.type_dict_values, ⟨ob, ho, ex.1⟩, fun b e => ?_, Calls.callWith_builtin rfl (PySem.evalArgs_none ?_)⟩
  · cases e
    exact ⟨ob, ho, ex.2.1⟩
  refine call_meetsIn F.slot_dict_values ⟨ob, ho, ex.1⟩ F.entry_dict_values (F.args_dict_values_1 _) (meets_dict_values (mixKind X.prog X.w) a hsys) ⟨⟨vs, dof⟩, ?_⟩
  have k1 : ∀ b u, s1.heap.get? b = some u → (s1.heap.push { cls := .type "dict_values", data := .fields #[.ref a] }).get? b = some u := fun b u e => Heap.get?_push_of_some _ e
  have dat1 : (s1.heap.push { cls := .type "dict_values", data := .fields #[.ref a] }).DictAt (mixKind X.prog X.w) a vs ep := dat.keep k1
  have hlv : vs.length = is.length := by
    have e1 := congrArg List.length hv
    rw [List.length_map, List.length_map] at e1
    rw [← e1]
    exact (KV.length rel).symm
  have hval : ∀ (i : Nat) (v : Value), (∃ k, vs[i]? = some (k, v)) → ∃ t, v = Value.int (is.getD i 0) t := fun i v ⟨k, hk⟩ => by
    obtain ⟨x, h1, h2⟩ := KV.at' rel hk
    have e1 : (kvs.map (·.2))[i]? = some x := by rw [List.getElem?_map, h1] <;> rfl
    rw [hv, List.getElem?_map] at e1
    obtain ⟨j, hj, e2⟩ := Option.map_eq_some_iff.mp e1
    subst e2
    obtain ⟨t, e3⟩ := h2
    refine ⟨t, ?_⟩
    rw [e3, List.getD_eq_getElem?_getD, hj] <;> rfl
  have hlt : a < s1.heap.objs.size := Heap.lt_size ho
  have hsz : (s1.heap.push { cls := .type "dict_values", data := .fields #[.ref a] }).objs.size = s1.heap.objs.size + 1 := Heap.size_push _ _
  refine call_sum_walkAnyS (wpAny_pyIter_values (v := s1.heap.objs.size) (d := a) ⟨_, Heap.get?_push_size _ rfl, rfl, rfl⟩ dat1 ?_)
  refine ⟨_, _, _, _, _, _, _, fun i => is.getD i 0, rfl, (Walks.dictValues (knd := mixKind X.prog X.w) (A := X.A.in1) (I.ok.hd hc) (s1.heap.push { cls := .type "dict_values", data := .fields #[.ref a] }).objs.size a (by rw [hsz]; exact Nat.ne_of_lt (Nat.lt_succ_of_lt hlt)) vs ep).toS,
    ⟨⟨_, Heap.get?_push_size _ rfl, rfl, rfl⟩, dat1.keep fun b u e => Heap.get?_push_of_some _ e⟩, fun b hb => ?_, hval, fun s' t' hm => ?_⟩
  · show b < ((s1.heap.push _).push _).objs.size
    rw [Heap.size_push, Heap.size_push]
    rw [hsz] at hb
    rcases List.mem_cons.mp hb with e | hb
    · rw [e]
      exact Nat.lt_succ_self _
    · have e : b = a := List.mem_singleton.mp hb
      rw [e]
      exact Nat.lt_succ_of_lt (Nat.lt_succ_of_lt hlt)
  · rw [Moved.eq_with hm]
    refine ⟨.int _, H1, I1.kept (t' := s'.toks) fun b u e => hm.heap b u (fun hmem => ?_) (Heap.get?_push_of_some _ (k1 b u e)), ⟨_, rfl⟩, ?_⟩
    · have e1 : b = (s1.heap.push { cls := .type "dict_values", data := .fields #[.ref a] }).objs.size := List.mem_singleton.mp hmem
      have e2 := Heap.lt_size e
      rw [hsz] at e1
      rw [e1] at e2
      exact absurd e2 (Nat.not_lt.mpr (Nat.le_succ _))
    · rw [PyProof.Rows.preSum_getD, List.take_of_length_le (by omega)]
      exact q
end
end
end Sp
namespace HN
open PySem PySem.Spec PyProof.Rows PySem.SeqAt
section
variable {M : Model} {prog : Program} {w : World} {A : Around} {E : Value → Shared → Prop} {s : Shared} {K : PySem.W.Frag} {x C dx : Addr} {ox : Obj} {od : Option Obj} {b : Str} {u : Tok}
theorem isSame_strI {R : Bool → Shared → Prop} (h : R false s) : wpAny M A (isSame (.ref x) (.str b u)) R E s := wpAny_of_eq (rfl : isSame (.ref x) (.str b u) = pure false) h
theorem entry_strI {Q : Fin → Shared → Prop} (hq : Q (.done (.ret .notImplemented)) s) : wpAny M A (Builtin.«object.__eq__» ⟨[.ref x, .str b u], []⟩) Q E s := by
  unfold Builtin.«object.__eq__»
  repeat (first | with_reducible refine isSame_strI ?_ | wp_step)
  exact hq
theorem call_objEqS {Q : Value → Shared → Prop} (X : K.In s.heap) (I : PySem.W.InstAt s.heap x ox C od) (hm : PySem.W.mroIn K C (.type "object") = some true) (hq : Q .notImplemented s) :
    wpAny (model prog w) A (call (.builtin "object.__eq__") [.ref x, .str b u]) Q E s :=
  wpAny_call (codeAny_call_builtin F.cmp_object.eq.plain F.cmpEntry_eq (PySem.W.check_slot F.cmpKind_eq F.cmpSplit_eq (I.type.andThen (PySem.W.looks_mroIn X hm)) (F.cmpArgs_eq _ _) (entry_strI hq)))
theorem entry_strN {Q : Fin → Shared → Prop} (hu : A.units < cLine) (X : K.In s.heap) (I : PySem.W.InstAt s.heap x ox C od) (hm : PySem.W.mroIn K C (.type "object") = some true) (hs : PySem.W.findIn K (.ref C) "__eq__" = some (some (.builtin "object.__eq__"))) (hq : Q (.done (.ret .notImplemented)) s) :
    wpAny (model prog w) A (Builtin.«object.__ne__» ⟨[.ref x, .str b u], []⟩) Q E s := by
  unfold Builtin.«object.__ne__»
  repeat (first | with_reducible refine wpAny_cRoomFor hu ?_ | with_reducible refine ifBound_objEq X I hs (call_objEqS X I hm ?_) | wp_step)
  exact hq
theorem call_objNeS {Q : Value → Shared → Prop} (hu : A.units + 1 < cLine) (X : K.In s.heap) (I : PySem.W.InstAt s.heap x ox C od) (hm : PySem.W.mroIn K C (.type "object") = some true) (hs : PySem.W.findIn K (.ref C) "__eq__" = some (some (.builtin "object.__eq__"))) (hq : Q .notImplemented s) :
    wpAny (model prog w) A (call (.builtin "object.__ne__") [.ref x, .str b u]) Q E s :=
  wpAny_call (codeAny_call_builtin F.cmp_object.ne.plain F.cmpEntry_ne (PySem.W.check_slot F.cmpKind_ne F.cmpSplit_ne (I.type.andThen (PySem.W.looks_mroIn X hm)) (F.cmpArgs_ne _ _) (entry_strN (A := A.in1) hu X I hm hs hq)))
theorem ifBound_objNe {args : List Value} {Q : Option Value → Shared → Prop} (X : K.In s.heap) (I : PySem.W.InstAt s.heap x ox C od) (hs : PySem.W.findIn K (.ref C) "__ne__" = some (some (.builtin "object.__ne__")))
    (h : wpAny M A (call (.builtin "object.__ne__") (.ref x :: args)) (fun v => Q (some v)) E s) : wpAny M A (callSpecialIfBound? (.ref x) "__ne__" args) Q E s := by
  simp only [callSpecialIfBound?, bindSpecialIfBound?]
  refine wpAny_holding (wpAny_bind (wpAny_bind (wpAny_bind (I.type.here ((PySem.W.looks_findIn X hs).here ?_)))))
  refine wpAny_bind (wpAny_askSetting (wpAny_ite ?_))
  have fin : wpAny M A (call (.builtin "object.__ne__") ([.ref x] ++ args) >>= fun v => pure (some v)) Q E s := wpAny_bind (wpAny_mono h (fun v s' h' => wpAny_pure h') fun _ _ h' => h')
  split
  · exact wpAny_bind (wpAny_of_eq (F.cmp_object.ne.bind _) (wpAny_pure (by exact fin)))
  · exact wpAny_tryCatch (wpAny_bind (wpAny_of_eq (F.cmp_object.ne.bind _) (wpAny_pure (by exact fin))))
theorem sub_strI : PySem.W.subIn K (.type "str") (.ref C) = some false := by
  have e : fastBuiltinMro "str" = some [.type "str", .type "object"] := by decide +kernel
  show (fastBuiltinMro "str").map (·.contains (.ref C)) = some false
  rw [e]
  first
    | rfl
    | simp
theorem str_eq_declines_inst (l : Addr) : Meets (Builtin.«str.__eq__» ⟨[.str b u, .ref l], []⟩) (fun _ R s => s.heap.get? l = some (PySem.W.instObj C dx) ∧ R (.ok (.ret .notImplemented)) s) :=
  .of_wp fun prog w A R s h => by obtain ⟨hp, g, d, tk, os⟩ := s; obtain ⟨hl, h⟩ := h; wp_walk using wpAny_loadPart' hl, wpAny_load hl; exact ⟨_, rfl, h⟩
theorem str_ne_declines_inst (l : Addr) : Meets (Builtin.«str.__ne__» ⟨[.str b u, .ref l], []⟩) (fun _ R s => s.heap.get? l = some (PySem.W.instObj C dx) ∧ R (.ok (.ret .notImplemented)) s) :=
  .of_wp fun prog w A R s h => by obtain ⟨hp, g, d, tk, os⟩ := s; obtain ⟨hl, h⟩ := h; wp_walk using wpAny_loadPart' hl, wpAny_load hl; exact ⟨_, rfl, h⟩
end
end HN
set_option maxHeartbeats 4000000
namespace HN
open PySem PySem.Spec PyProof.Rows PySem.SeqAt
section
variable {M : Model} {prog : Program} {w : World} {A : Around} {E : Value → Shared → Prop} {s : Shared} {K : PySem.W.Frag} {x C dx : Addr} {od : Option Obj} {b : Str} {u : Tok}
/-- what a class must keep of the comparisons that it was born with -/
def cmpK (K : PySem.W.Frag) (C : Addr) : Prop := PySem.W.mroIn K C (.type "object") = some true ∧ PySem.W.findIn K (.ref C) "__eq__" = some (some (.builtin "object.__eq__")) ∧ PySem.W.findIn K (.ref C) "__ne__" = some (some (.builtin "object.__ne__"))
def cmpB (K : PySem.W.Frag) (C : Addr) : Bool := (PySem.W.mroIn K C (.type "object") == some true) && (PySem.W.findIn K (.ref C) "__eq__" == some (some (.builtin "object.__eq__"))) && (PySem.W.findIn K (.ref C) "__ne__" == some (some (.builtin "object.__ne__")))
theorem cmpB_ok {K : PySem.W.Frag} {C : Addr} (h : cmpB K C = true) : cmpK K C := by
  unfold cmpB at h
  rw [Bool.and_eq_true, Bool.and_eq_true] at h
  exact ⟨eq_of_beq h.1.1, eq_of_beq h.1.2, eq_of_beq h.2⟩
theorem rc_strI (hu : A.units + 64 < cLine) (X : K.In s.heap) (I : PySem.W.InstAt s.heap x (PySem.W.instObj C dx) C od) (c : cmpK K C) {Q : Value → Shared → Prop} (h : Q (.bool false) s) :
    wpAny (model prog w) A (richCompare .Eq (.ref x) (.str b u)) Q E s := by
  obtain ⟨hm, hs, _⟩ := c
  have one : wpAny (model prog w) A (tryCompare (.ref x) "__eq__" (.str b u)) (fun r s' => r = none ∧ s' = s) E s := by
    unfold tryCompare
    exact wpAny_bind (ifBound_objEq X I hs (call_objEqS X I hm (wpAny_pure ⟨rfl, rfl⟩)))
  have two : wpAny (model prog w) A (tryCompare (.str b u) "__eq__" (.ref x)) (fun r s' => r = none ∧ s' = s) E s :=
    wpAny_tryCompare_declines (typeIs_str s b u) F.slot_str_eq_refl (call_meets F.slot_str_eq_refl (typeIs_str s b u) F.entry_str_eq (F.args_str_eq_2 _ _) (str_eq_declines_inst (C := C) (dx := dx) x) ⟨I.at_, rfl, rfl, rfl⟩)
  simp only [richCompare, cmpInfo_Eq, oneThing_ref]
  refine wpAny_holding (wpAny_bind (wpAny_cRoomFor (by omega) ?_))
  refine wpAny_bind (I.type.here ?_)
  refine wpAny_bind (wpAny_typeOf (typeIs_str s b u) ?_)
  split
  · refine wpAny_bind ((PySem.W.looks_subIn X sub_strI).here ?_)
    simp only [Bool.false_eq_true, if_false, Bool.not_false, if_true]
    refine wpAny_bind (m := tryCompare (.ref x) _ (.str b u)) (wpAny_mono one (fun r s1 z => ?_) fun _ _ e => e)
    obtain ⟨z1, z2⟩ := z
    subst z1
    subst z2
    refine wpAny_bind (m := tryCompare (.str b u) _ (.ref x)) (wpAny_mono two (fun r s2 z => ?_) fun _ _ e => e)
    obtain ⟨z1, z2⟩ := z
    subst z1
    subst z2
    exact wpAny_bind (wpAny_rule (wpAny_bind (wpAny_of_eq (rfl : isSame (.ref x) (.str b u) = pure false) (wpAny_pure h))))
  · rename_i q
    exact absurd (by simp) q
theorem rc_strN (hu : A.units + 64 < cLine) (X : K.In s.heap) (I : PySem.W.InstAt s.heap x (PySem.W.instObj C dx) C od) (c : cmpK K C) {Q : Value → Shared → Prop} (h : Q (.bool true) s) :
    wpAny (model prog w) A (richCompare .NotEq (.ref x) (.str b u)) Q E s := by
  obtain ⟨hm, hs, hn⟩ := c
  have one : wpAny (model prog w) A (tryCompare (.ref x) "__ne__" (.str b u)) (fun r s' => r = none ∧ s' = s) E s := by
    unfold tryCompare
    exact wpAny_bind (ifBound_objNe X I hn (call_objNeS (by omega) X I hm hs (wpAny_pure ⟨rfl, rfl⟩)))
  have two : wpAny (model prog w) A (tryCompare (.str b u) "__ne__" (.ref x)) (fun r s' => r = none ∧ s' = s) E s :=
    wpAny_tryCompare_declines (typeIs_str s b u) F.slot_str_ne_refl (call_meets F.slot_str_ne_refl (typeIs_str s b u) F.entry_str_ne (F.args_str_ne_2 _ _) (str_ne_declines_inst (C := C) (dx := dx) x) ⟨I.at_, rfl, rfl, rfl⟩)
  simp only [richCompare, cmpInfo_NotEq, oneThing_ref]
  refine wpAny_holding (wpAny_bind (wpAny_cRoomFor (by omega) ?_))
  refine wpAny_bind (I.type.here ?_)
  refine wpAny_bind (wpAny_typeOf (typeIs_str s b u) ?_)
  split
  · refine wpAny_bind ((PySem.W.looks_subIn X sub_strI).here ?_)
    simp only [Bool.false_eq_true, if_false, Bool.not_false, if_true]
    refine wpAny_bind (m := tryCompare (.ref x) _ (.str b u)) (wpAny_mono one (fun r s1 z => ?_) fun _ _ e => e)
    obtain ⟨z1, z2⟩ := z
    subst z1
    subst z2
    refine wpAny_bind (m := tryCompare (.str b u) _ (.ref x)) (wpAny_mono two (fun r s2 z => ?_) fun _ _ e => e)
    obtain ⟨z1, z2⟩ := z
    subst z1
    subst z2
    exact wpAny_bind (wpAny_rule (wpAny_bind (wpAny_of_eq (rfl : isSame (.ref x) (.str b u) = pure false) (wpAny_pure h))))
  · rename_i q
    exact absurd (by simp) q
end
end HN

namespace Sp
open PySem L2
def isT {α : Type} : α ⊕ List Nat → List Nat → Bool
  | .inl _, _ => false
  | .inr z, y => decide (z = y)
section
variable {Y : DX} {s : DSt} {a b : Expr}
theorem cmp_strI {X : Cx} (hu : X.A.units + 64 < cLine) : OpR X (compareOp .Eq) (fun x y H Q => ∃ p C dx fs, ∃ t : List Nat, x = .ref p ∧ H p = some (.ins C dx fs) ∧ HN.cmpK X.K C ∧ y = .str (toStr t) ∧ Q (.bl false) H) := by
  intro pins s σ H x y v u Q I rx ry ⟨p, C, dx, fs, t, ex, hp, hc, ey, q⟩
  subst ex ey
  cases rx
  obtain ⟨tk, rfl⟩ : ∃ tk, u = .str (toStr t) tk := ry
  obtain ⟨mA, O, _⟩ := ins_get I.hok hp
  obtain ⟨od, J, _⟩ := O.look
  show wpAny _ _ (richCompare .Eq _ _) _ _ _
  refine HN.rc_strI hu I.kIn J hc ?_
  exact ⟨.bl _, H, I, rfl, q⟩
theorem cmp_strN {X : Cx} (hu : X.A.units + 64 < cLine) : OpR X (compareOp .NotEq) (fun x y H Q => ∃ p C dx fs, ∃ t : List Nat, x = .ref p ∧ H p = some (.ins C dx fs) ∧ HN.cmpK X.K C ∧ y = .str (toStr t) ∧ Q (.bl true) H) := by
  intro pins s σ H x y v u Q I rx ry ⟨p, C, dx, fs, t, ex, hp, hc, ey, q⟩
  subst ex ey
  cases rx
  obtain ⟨tk, rfl⟩ : ∃ tk, u = .str (toStr t) tk := ry
  obtain ⟨mA, O, _⟩ := ins_get I.hok hp
  obtain ⟨od, J, _⟩ := O.look
  show wpAny _ _ (richCompare .NotEq _ _) _ _ _
  refine HN.rc_strN hu I.kIn J hc ?_
  exact ⟨.bl _, H, I, rfl, q⟩
theorem opr_or {X : Cx} {op : Value → Value → Sem Value} {r1 r2 : R2} (h1 : OpR X op r1) (h2 : OpR X op r2) : OpR X op (fun x y H Q => r1 x y H Q ∨ r2 x y H Q) := by
  intro pins s σ H x y v u Q I rx ry h
  rcases h with h | h
  · exact h1 pins s σ H x y v u Q I rx ry h
  · exact h2 pins s σ H x y v u Q I rx ry h
section
variable {γ : Type} [og : Ob γ] [eg : Enc γ] [ObOk γ] {Wa : (γ ⊕ List Nat → Prop) → Prop} {Wb : (List Nat → Prop) → Prop}
theorem k_eqT (ok : YOk Y) (hc : HN.cmpK Y.X.K (He.ga Y.X.K (Ob.cls γ))) (ha : EvC Y s a Wa) (hb : EvC Y s b Wb) : EvK Y s .Eq a b fun k => Wa fun x => Wb fun y => k (isT x y) := fun k w =>
  cmp_of (opr_or (cmp_strI ok.room.units) (op_eqT (α := List Nat) ok.room.units (by decide))) (ha.q w fun i w => hb.q w fun j w => ⟨_, ⟨rfl, w⟩, fun σ H F v u Q S r1 r2 q => by
    cases i with
    | inl m =>
      obtain ⟨p, dx, vs, ev, hp, _⟩ := ia_ob σ H F v S (show (pu m).rep Y.X.K F v from r1)
      exact .inl ⟨p, _, dx, vs, j, ev, hp, hc, r2, q⟩
    | inr z => exact .inr ⟨z, j, DA.pu (α := List Nat) σ H F v S r1, DA.pu (α := List Nat) σ H F u S r2, q⟩⟩)
theorem k_neT (ok : YOk Y) (hc : HN.cmpK Y.X.K (He.ga Y.X.K (Ob.cls γ))) (ha : EvC Y s a Wa) (hb : EvC Y s b Wb) : EvK Y s .NotEq a b fun k => Wa fun x => Wb fun y => k (!isT x y) := fun k w =>
  cmp_of (opr_or (cmp_strN ok.room.units) (op_neT (α := List Nat) ok.room.units (by decide))) (ha.q w fun i w => hb.q w fun j w => ⟨_, ⟨rfl, w⟩, fun σ H F v u Q S r1 r2 q => by
    cases i with
    | inl m =>
      obtain ⟨p, dx, vs, ev, hp, _⟩ := ia_ob σ H F v S (show (pu m).rep Y.X.K F v from r1)
      exact .inl ⟨p, _, dx, vs, j, ev, hp, hc, r2, q⟩
    | inr z =>
      refine .inr ⟨z, j, DA.pu (α := List Nat) σ H F v S r1, DA.pu (α := List Nat) σ H F u S r2, ?_⟩
      have e : (!isT (α := γ) (.inr z) j) = decide (z ≠ j) := by simp [isT]
      rw [← e]; exact q⟩)
end
section
variable {e o : Expr} {p pos apos cpos p2 : Pos} {κ : Type} [DecidableEq κ] [Kk κ] [Enc κ] [KkV κ]
/-- sum(d.values()) -/
theorem c_sumV {W : (List (κ × Int) → Prop) → Prop} (ok : YOk Y) (T : Bis Y.X.mg) (hg : Gl Y.X "sum") (ho : EvD Y s o W) (hbase : attributeBase o "values" Y.X.env (eval o Y.X.env) = eval o Y.X.env := by exact ab_ok rfl) (hline : (apos.endLine == cpos.line) = true := by rfl)
    (hse : starEach [Expr.Call (.Attribute o "values" apos) [] [] cpos] Y.X.env = [(false, eval (Expr.Call (.Attribute o "values" apos) [] [] cpos) Y.X.env)] := by exact star_1 rfl) :
    EvC Y s (.Call (.Name "sum" p) [.Call (.Attribute o "values" apos) [] [] cpos] [] pos) fun k => W fun m => k (m.map (fun q => q.2)).sum := fun k w F0 σ H F e0 S => by
  refine .of (pe_sumVals ok.calm hg (T.no _ (by decide)) pe_we hbase hline hse) ?_
  refine (ho _ w F0 σ H F e0 S).mono fun v H1 ⟨A, _, F1, e1, r1, S1, m, hA, es, w⟩ => ?_
  subst es
  obtain ⟨d, kvs, ev, hd, rk⟩ := hA σ H1 F1 v S1 r1
  refine ⟨d, kvs, m.map (fun q : κ × Int => q.2), ev, hd, ?_, pu (α := Int) ((m.map (fun q : κ × Int => q.2)).sum), _, F1, e1, ?_, S1, _, rfl, rfl, w⟩
  rotate_left
  · exact rfl
  have key : ∀ {ks : List (Key × V)} {m : List (κ × Int)}, KVs Y.X.K F1 ks m → ks.map (·.2) = (m.map (·.2)).map V.int := by
    intro ks m h
    induction h with
    | nil => rfl
    | cons r _ ih => rw [List.map_cons, List.map_cons, List.map_cons, ih, show _ = V.int _ from r.2]
  exact key rk
end
end
end Sp
set_option maxHeartbeats 4000000
/-! RX: list(reversed(text)), at the library's level. -/
namespace RX
open PySem PySem.Spec PyProof.Rows
theorem no_rev_str : typeLookup (.type "str") "__reversed__" = pure none := by rw [typeLookup_type, builtinLookup_eq_fast]; kernel_rfl
theorem has_get_str : typeLookup (.type "str") "__getitem__" = pure (some (.builtin "str.__getitem__")) := by rw [typeLookup_type, builtinLookup_eq_fast]; kernel_rfl
theorem no_len_rev : typeLookup (.type "reversed") "__len__" = pure none := by rw [typeLookup_type, builtinLookup_eq_fast]; kernel_rfl
theorem has_hint_rev : typeLookup (.type "reversed") "__length_hint__" = pure (some (.builtin "reversed.__length_hint__")) := by rw [typeLookup_type, builtinLookup_eq_fast]; kernel_rfl
theorem entry_rev_hint : entryFor table "reversed.__length_hint__" = some Builtin.«reversed.__length_hint__» := entryFor_of_tree (by kernel_rfl)
theorem slot_rev_hint : Slot "reversed" "__length_hint__" "reversed.__length_hint__" :=
  .of (n := "__length_hint__") (owner := "reversed") (by rw [typeLookup_type, builtinLookup_eq_fast]; kernel_rfl) (by decide +kernel) (by decide +kernel) (by decide +kernel)
    (by first | exact Or.inl (by decide +kernel) | exact Or.inr (by decide +kernel)) (by rw [isSubtype_type]; kernel_rfl)
theorem args_rev_hint (v : Value) : argsOk "reversed.__length_hint__" ⟨[v], []⟩ := by
  unfold argsOk; rw [signature?_of (n := ['_', '_', 't', 'n', 'i', 'h', '_', 'h', 't', 'g', 'n', 'e', 'l', '_', '_']) (id := "reversed.__length_hint__") (o := ['d', 'e', 's', 'r', 'e', 'v', 'e', 'r']) (by kernel_rfl) RT.owner_rt]; kernel_rfl
def revO (x : Str) (t : Tok) (i : Int) : Obj := { data := .fields #[.str x t, rawInt i], cls := .type "reversed" }
/-- reversed(x), the next place i -/
def IsRx (h : Heap) (a : Addr) (x : Str) (i : Int) : Prop := ∃ (o : Obj) (t : Tok), h.get? a = some o ∧ o.cls = .type "reversed" ∧ o.data = .fields #[.str x t, rawInt i]
section
variable {prog : Program} {w : World} {A : Around} {E : Value → Shared → Prop} {s : Shared} {x : Str} {t : Tok}
theorem IsRx.ty {a : Addr} {i : Int} (r : IsRx s.heap a x i) : s.TypeIs (.ref a) "reversed" := let ⟨o, _, ho, hc, _⟩ := r; ⟨o, ho, hc⟩
theorem code_rev_str {Q₁ : Value → Shared → Prop} (hn : x.length ≤ sizeLine)
    (h : Q₁ (.ref s.heap.objs.size) { s with heap := s.heap.push (revO x t ((x.length : Int) - 1)), toks := s.toks + 1 + 1 }) :
    codeAny (model prog w) A (.call (.builtin "reversed.__new__") ⟨[.type "reversed", .str x t], []⟩) (wants Q₁ E) s := by
  have hT : s.TypeIs (.str x t) "str" := typeIs_str s x t
  refine codeAny_of_tree ?_
  show wpAny _ A.in1 (do checkBuiltinCall "reversed.__new__" ⟨[.type "reversed", .str x t], []⟩; again (.builtin "reversed.__new__" ⟨[.type "reversed", .str x t], []⟩)) _ _ s
  refine wpAny_bind (wpAny_of_eq (F.newCall_reversed_1 _) (wpAny_pure ⟨plainId_quiet F.plain_reversed_new _, codeAny_builtin F.entry_reversed_new ?_⟩))
  rw [Around.under_plainId F.plain_reversed_new _]
  unfold Builtin.«reversed.__new__»
  refine wpAny_bind (wpAny_of_eq (newClass_reversed _) ?_)
  try dsimp only
  refine wpAny_bind (wpAny_of_eq (a := ()) (by first | rfl | kernel_rfl) ?_)
  try dsimp only
  refine wpAny_bind (wpAny_of_eq (a := ()) (by first | rfl | kernel_rfl) ?_)
  try dsimp only
  refine wpAny_bind (wpAny_specialOf hT no_rev_str ?_)
  try dsimp only
  refine wpAny_bind ?_
  wp_delta
  refine wpAny_bind (wpAny_isInstance (T := "str") (b := false) (U := "dict") hT PySem.F.sub_str_dict ?_)
  try dsimp only
  try rw [if_neg Bool.false_ne_true]
  try dsimp only
  refine wpAny_bind (wpAny_specialOf hT has_get_str ?_)
  try dsimp only
  try rw [if_pos (by decide +kernel)]
  refine wpAny_pure ?_
  try dsimp only
  try rw [if_neg (by decide)]
  try dsimp only
  have h63 : ¬ (x.length : Int) ≥ 2 ^ 63 := by
    rw [sizeLine_eq] at hn
    omega
  refine wpAny_bind (len_str h63 ?_)
  refine wpAny_bind (wpAny_of_eq (a := some ((x.length : Nat) : Int)) rfl ?_)
  try dsimp only
  refine wpAny_bind ?_
  show wpAny _ _ (newObj (.type "reversed") (.fields #[.str x t, rawInt ((x.length : Int) - 1)])) _ _ _
  refine wpAny_newObj_type ?_
  exact wpAny_pure h
theorem call_rev_str {Q : Value → Shared → Prop} (hn : x.length ≤ sizeLine)
    (h : Q (.ref s.heap.objs.size) { s with heap := s.heap.push (revO x t ((x.length : Int) - 1)), toks := s.toks + 1 + 1 }) : wpAny (model prog w) A (call (.type "reversed") [.str x t]) Q E s := by
  refine callType_codes (Q₁ := fun ob s2 => s2.TypeIs ob "reversed" ∧ Q ob s2) RT.called_rt (F.typeCall_reversed_1 _) F.entry_object_init
    (code_rev_str (A := A.in1) hn ⟨⟨_, Heap.get?_push_size _ rfl, rfl⟩, h⟩) fun ob s2 h2 => ?_
  exact ⟨h2.1, F.args_object_init_2 ob _, object_init_meets RT.called_rt.init.lookup RT.called_rt.made (by decide) prog w A.in1 _ s2 ⟨h2.1, rfl, h2.2⟩⟩
theorem next_item {it : Addr} {i : Nat} {c : Nat} {Q : Option Value → Shared → Prop} (hit : IsRx s.heap it x (i : Int)) (hx : x.cps[i]? = some c) (hsz : x.length ≤ sizeLine)
    (hQ : ∀ h', IsRx h' it x ((i : Int) - 1) → Heap.SameBut it s.heap h' → Q (some (.str ⟨#[c]⟩ (s.toks + 1))) { s with heap := h', toks := s.toks + 1 + 1 }) : wpAny (model prog w) A (pyNext (.ref it)) Q E s := by
  obtain ⟨o, t, ho, hc, hd⟩ := id hit
  have hi : i < x.length := (Array.getElem?_eq_some_iff.mp hx).1
  rw [sizeLine_eq] at hsz
  unfold pyNext
  refine wpAny_bind (wpAny_attempt (wpAny_callSpecial?_slot (name := Str.ofString "__next__") hit.ty RT.slot_rt_next
    (wpAny_call_entry RT.slot_rt_next hit.ty RT.entry_rt_next ?_ (RT.args_rt_next _))))
  unfold Builtin.«reversed.__next__»
  refine wpAny_bind (wpAny_of_eq (a := (Value.ref it, [])) rfl ?_)
  try dsimp only
  refine wpAny_bind (wpAny_field ho hd (x := .str x t) rfl ?_)
  try dsimp only
  refine wpAny_bind (wpAny_field ho hd (x := rawInt (i : Int)) rfl ?_)
  show wpAny _ _ (if (i : Int) < 0 then _ else _) _ _ s
  rw [if_neg (by omega)]
  try dsimp only
  refine wpAny_bind (wpAny_specialOf (typeIs_str s x t) has_get_str ?_)
  try dsimp only
  try rw [if_neg (by decide)]
  try dsimp only
  refine wpAny_bind (wpAny_mkInt ?_)
  refine wpAny_bind (wpAny_attempt ?_)
  have fin : seqIndex? (i : Int) x.length = some i := seqIndex_of (by omega) (by omega)
  refine getItem_str (s := { s with toks := s.toks + 1 }) (c := c) (by simp only [Bool.or_eq_false_iff, decide_eq_false_iff_not]; omega) (by rw [fin]; exact hx) ?_
  try dsimp only
  refine wpAny_bind (wpAny_field (s := { s with toks := s.toks + 1 + 1 }) ho hd (x := rawInt (i : Int)) rfl ?_)
  try dsimp only
  refine wpAny_bind (wpAny_setField (s := { s with toks := s.toks + 1 + 1 }) ho hd (by simp) ?_)
  have last : ∀ h', h' = s.heap.update it (Obj.mapFields (·.setIfInBounds 1 (rawInt ((i : Int) - 1)))) → IsRx h' it x ((i : Int) - 1) := by
    intro h' e
    subst e
    exact ⟨_, t, Heap.get?_update_self _ ho (Obj.isFreed_of_fields (Obj.data_mapFields hd _)), (Obj.cls_mapFields ..).trans hc, by
      rw [Obj.data_mapFields hd]; simp⟩
  first
  | exact wpAny_pure ⟨_, rfl, wpAny_pure (hQ _ (last _ rfl) (Heap.SameBut.update ..))⟩
  | exact wpAny_bind (wpAny_pure (wpAny_pure ⟨_, rfl, wpAny_pure (hQ _ (last _ rfl) (Heap.SameBut.update ..))⟩))
theorem next_over {it : Addr} {Q : Option Value → Shared → Prop} (hh : A.handled = none) (hit : IsRx s.heap it x (-1))
    (hQ : ∀ h', Heap.ExtBut it s.heap h' → Q none { s with heap := h' }) : wpAny (model prog w) A (pyNext (.ref it)) Q E s := by
  obtain ⟨o, t, ho, hc, hd⟩ := id hit
  unfold pyNext
  refine wpAny_bind (wpAny_attempt (wpAny_callSpecial?_slot (name := Str.ofString "__next__") hit.ty RT.slot_rt_next
    (wpAny_call_entry RT.slot_rt_next hit.ty RT.entry_rt_next ?_ (RT.args_rt_next _))))
  unfold Builtin.«reversed.__next__»
  refine wpAny_bind (wpAny_of_eq (a := (Value.ref it, [])) rfl ?_)
  try dsimp only
  refine wpAny_bind (wpAny_field ho hd (x := .str x t) rfl ?_)
  try dsimp only
  refine wpAny_bind (wpAny_field ho hd (x := rawInt (-1)) rfl ?_)
  show wpAny _ _ (if (-1 : Int) < 0 then _ else _) _ _ s
  rw [if_pos (by decide)]
  try dsimp only
  refine wpAny_bind (wpAny_rule ?_)
  refine wpAny_bind ?_
  wp_delta
  refine wpAny_bind (wpAny_setField ho hd (by simp) ?_)
  have ho2 := Heap.get?_update_self (Obj.mapFields (·.setIfInBounds 1 (rawInt (-1)))) ho (Obj.isFreed_of_fields (Obj.data_mapFields hd _))
  refine wpAny_setField (s := { s with heap := s.heap.update it (Obj.mapFields (·.setIfInBounds 1 (rawInt (-1)))) }) ho2 (Obj.data_mapFields hd _) (by simp) ?_
  try dsimp only
  first
  | show wpAny _ _ (newExc (.type "StopIteration") [] >>= _) _ _ _
  | (refine wpAny_bind ?_; show wpAny _ _ (newExc (.type "StopIteration") [] >>= _) _ _ _)
  | (refine wpAny_bind ?_; wp_delta; show wpAny _ _ (newExc (.type "StopIteration") [] >>= _) _ _ _)
  refine wpAny_bind ?_
  simp only [newExc, newTuple]
  refine wpAny_bind (wpAny_newObj_type ?_ (by size_fits))
  refine wpAny_bind (m := firstArgMember _ _) (wpAny_of_eq (a := Value.none) (by first | rfl | (simp only [firstArgMember]; rfl)) ?_)
  refine wpAny_newObj_type ?_ (by size_fits)
  simp only [raiseNew]
  refine wpAny_bind (wpAny_handled ?_)
  first | rw [show A.in1.handled = none from hh] | rw [hh]
  refine wpAny_bind (wpAny_pure (wpAny_throw ?_))
  refine wpAny_bind (wpAny_isInstance (b := true) (T := "StopIteration") ⟨_, Heap.get?_push_size _ rfl, rfl⟩ isSubtype_stop ?_)
  refine wpAny_pure (hQ _ ?_)
  refine Heap.ExtBut.push (Heap.ExtBut.push ?_ _) _
  exact fun c u hc e => (Heap.get?_update_other _ _ (Ne.symm hc)).trans ((Heap.get?_update_other _ _ (Ne.symm hc)).trans e)
theorem iter_rx {it : Addr} {i : Int} {Q : Value → Shared → Prop} (r : IsRx s.heap it x i) (h : Q (.ref it) s) : wpAny (model prog w) A (pyIter (.ref it)) Q E s := by
  refine wpAny_pyIter_slot r.ty RT.slot_rt_iter (wpAny_call_entry RT.slot_rt_iter r.ty RT.entry_rt_iter ?_ (RT.args_rt_iter _))
  show wpAny _ _ (ret (.ref it)) _ _ s
  exact wpAny_pure ⟨_, rfl, "reversed", _, r.ty, RT.slot_rt_next.lookup, h⟩
def RxP (x : Str) : Nat → Value → Prop := fun i v => ∃ (c : Nat) (u : Tok), x.cps[x.length - 1 - i]? = some c ∧ v = .str ⟨#[c]⟩ u
def RxS (it : Addr) (x : Str) : Nat → Shared → Prop := fun i s => i ≤ x.length ∧ IsRx s.heap it x ((x.length : Int) - 1 - (i : Int))
theorem walk_rx {it : Addr} (hh : A.handled = none) (hn : x.length ≤ sizeLine) : WalksS prog w A it [it] [it] (fun a b => a = b) x.length (RxP x) (RxS it x) where
  sub := fun _ h => h
  grefl := fun _ => rfl
  gtrans := fun _ _ _ h1 h2 => h1.trans h2
  frame := fun i s h' tk ⟨h1, o, t, ho, hc, hd⟩ _ k => ⟨h1, o, t, k it (List.mem_singleton.mpr rfl) o ho, hc, hd⟩
  item := fun i s Q E hi ⟨_, st⟩ k => by
    have e1 : (x.length : Int) - 1 - (i : Int) = ((x.length - 1 - i : Nat) : Int) := by omega
    rw [e1] at st
    have hlt : x.length - 1 - i < x.cps.size := show x.length - 1 - i < x.length by omega
    refine next_item st (c := x.cps[x.length - 1 - i]) (Array.getElem?_eq_getElem hlt) hn fun h' st' sb => ?_
    refine k _ _ ⟨_, _, Array.getElem?_eq_getElem hlt, rfl⟩ ⟨hi, ?_⟩ ⟨fun b o hb e => (sb.2 b (fun z => hb (List.mem_singleton.mpr z))).trans e, rfl, rfl, rfl, by show s.toks ≤ s.toks + 1 + 1; omega⟩
    have e2 : (x.length : Int) - 1 - ((i + 1 : Nat) : Int) = ((x.length - 1 - i : Nat) : Int) - 1 := by omega
    rw [e2]
    exact st'
  done := fun s Q E ⟨_, st⟩ k => by
    have e1 : (x.length : Int) - 1 - (x.length : Int) = -1 := by omega
    rw [e1] at st
    exact next_over hh st fun h' eb => k _ ⟨fun b o hb e => eb b o (fun z => hb (List.mem_singleton.mpr z)) e, rfl, rfl, rfl, Nat.le_refl _⟩
  self := fun i s Q E ⟨_, st⟩ h => iter_rx st h
theorem bind_rev_hint (self : Value) : bindSpecial (.builtin "reversed.__length_hint__") self = pure (.builtin "reversed.__length_hint__", [self]) := by
  first | rfl | kernel_rfl
/-- how many are left, asked before any is taken -/
theorem hint_rx {it : Addr} {Q : Bool → Shared → Prop} (st : IsRx s.heap it x ((x.length : Int) - 1)) (hn : x.length ≤ sizeLine) (h : ∀ tk, s.toks ≤ tk → Q (decide (x.length ≠ 0)) { s with toks := tk }) : wpAny (model prog w) A (Builtin.List.listLengthHint (.ref it)) Q E s := by
  obtain ⟨o, t, ho, hc, hd⟩ := id st
  have h63 : ¬ (x.length : Int) ≥ 2 ^ 63 := by
    rw [sizeLine_eq] at hn
    omega
  unfold Builtin.List.listLengthHint
  refine wpAny_bind (wpAny_specialOf st.ty no_len_rev ?_)
  show wpAny _ A (specialOf (Value.ref it) (Str.ofString "__length_hint__") >>= _) _ _ _
  refine wpAny_bind (wpAny_specialOf st.ty has_hint_rev ?_)
  generalize hid : ("reversed.__length_hint__" : String) = id0
  wp_delta
  rw [show splitId id0 = some ("reversed", "__length_hint__") from by subst hid; decide +kernel]
  subst hid
  refine wpAny_bind (wpAny_isInstance (b := true) st.ty (by rw [isSubtype_type]; kernel_rfl) ?_)
  show wpAny _ A (rule "list.length-hint.hint" >>= _) _ _ _
  refine wpAny_bind (wpAny_rule ?_)
  refine wpAny_bind (wpAny_of_eq (bind_rev_hint _) ?_)
  try dsimp only
  refine wpAny_bind (wpAny_attempt (wpAny_call_entry slot_rev_hint st.ty entry_rev_hint ?_ (args_rev_hint _)))
  unfold Builtin.«reversed.__length_hint__»
  refine wpAny_bind (wpAny_of_eq (a := Value.ref it) (by first | rfl | kernel_rfl) ?_)
  try dsimp only
  refine wpAny_bind (wpAny_field ho hd (x := .str x t) rfl ?_)
  try dsimp only
  rw [if_neg (show ¬ ((Value.str x t == Value.none) = true) from fun z => by cases z)]
  refine wpAny_bind (len_str h63 ?_)
  refine wpAny_bind (wpAny_of_eq (a := some ((x.length : Nat) : Int)) rfl ?_)
  try dsimp only
  refine wpAny_bind (wpAny_field (s := { s with toks := s.toks + 1 + 1 }) ho hd (x := rawInt ((x.length : Int) - 1)) rfl ?_)
  show wpAny _ _ (if (x.length : Int) < (x.length : Int) - 1 + 1 then _ else _) _ _ _
  rw [if_neg (by omega)]
  refine wpAny_bind (wpAny_mkInt (wpAny_pure ⟨_, rfl, ?_⟩))
  try dsimp only
  refine wpAny_bind (wpAny_of_eq (a := some ((x.length : Int) - 1 + 1)) rfl ?_)
  try dsimp only
  have e1 : (x.length : Int) - 1 + 1 = (x.length : Int) := by omega
  rw [e1]
  have l1 : Builtin.List.listFitsIndex (x.length : Int) = true := by
    unfold Builtin.List.listFitsIndex
    rw [sizeLine_eq] at hn
    simp
    omega
  have l2 : Builtin.List.listTooLong ((x.length : Int)).toNat = false := by
    unfold Builtin.List.listTooLong
    simp
    exact hn
  rw [if_neg (by rw [l1]; decide), if_neg (by omega), if_neg (by rw [l2]; decide)]
  refine wpAny_pure ?_
  have e2 : (((x.length : Int)) != 0) = decide (x.length ≠ 0) := by
    by_cases z : x.length = 0
    · rw [z]; rfl
    · have z2 : (x.length : Int) ≠ 0 := by omega
      simp [z, z2]
  rw [e2]
  exact h _ (by show s.toks ≤ s.toks + 1 + 1 + 1; omega)
theorem extend_rx {R : Result → Shared → Prop} {it : Addr} (hh : A.handled = none) (st : IsRx s.heap it x ((x.length : Int) - 1)) (hn : x.length ≤ sizeLine) (S : Addr) (res : Value) (c₀ : Nat) (hSI : S ≠ it)
    (hS : s.heap.get? S = some { cls := .type "list", data := .seq #[] c₀ })
    (hR : ∀ s' acc' c', Moved [S, it] (fun a b => a = b) s s' → s'.heap.get? S = some { cls := .type "list", dict := none, data := .seq acc' c', slots := #[] } → ItemsOf (RxP x) acc' x.length → R (.ok (.ret res)) s') :
    wpAny (model prog w) A.in1 (Builtin.List.listExtendWith (.ref S) (.ref it) res)
      (fun r s' => match r with | .done f => R (.ok f) s' | .again c' => c'.quiet = true ∧ codeAny (model prog w) A c' R s') (fun er s' => R (.error er) s') s := by
  have hSf : S ∉ [it] := fun z => hSI (List.mem_singleton.mp z)
  have W := walk_rx (prog := prog) (w := w) (A := A.in1) (it := it) (x := x) hh hn
  unfold Builtin.List.listExtendWith
  refine wpAny_bind (wpAny_typeOf st.ty ?_)
  have h1 : Builtin.List.listSameRef (.ref S) (.ref it) = false := by simp [Builtin.List.listSameRef, hSI]
  have h2 : (Value.type "reversed" == Value.type "list") = false := by decide
  have h3 : (Value.type "reversed" == Value.type "tuple") = false := by decide
  simp only [h1, h2, h3, Bool.or_false, Bool.false_eq_true, if_false]
  refine wpAny_bind (iter_rx st ?_)
  refine wpAny_bind (wpAny_holding (hint_rx st hn fun tk htk => ?_))
  have st0 : ∀ h' : Heap, (∀ o, s.heap.get? it = some o → h'.get? it = some o) → ∀ t', RxS it x 0 { s with heap := h', toks := t' } := fun h' k t' => ⟨Nat.zero_le _, by
    obtain ⟨o, t, ho, hc, hd⟩ := st
    refine ⟨o, t, k o ho, hc, ?_⟩
    rw [hd, show (x.length : Int) - 1 - ((0 : Nat) : Int) = (x.length : Int) - 1 by omega]⟩
  by_cases z : x.length = 0
  · rw [show decide (x.length ≠ 0) = false from decide_eq_false (fun q => q z), if_neg (by decide)]
    refine wpAny_pure ⟨plainId_quiet F.plain_extend_loop _, codeAny_extend_loopS W hn _ hSf _ x.length 0 _ _ _ rfl (Nat.zero_le _) (st0 _ (fun _ e => e) _) hS (ItemsOf.nil _) fun s' acc' c' hm hS' hacc => ?_⟩
    exact hR s' acc' c' ⟨hm.heap, hm.gens, hm.drawn, hm.os, Nat.le_trans htk hm.toks⟩ hS' hacc
  · rw [show decide (x.length ≠ 0) = true from decide_eq_true z, if_pos (by decide)]
    show wpAny _ A.in1 (rule "list.extend.makes-room" >>= fun _ => Builtin.List.listTouch (.ref S) >>= fun _ => again (.builtin "list.extend.loop" ⟨[.ref S, .ref it, res], []⟩)) _ _ _
    refine wpAny_bind (wpAny_rule ?_)
    refine wpAny_bind ?_
    show wpAny _ A.in1 (updateSeq S (·.push Value.none) >>= fun _ => updateSeq S (·.pop)) _ _ { s with toks := tk }
    refine wpAny_bind (wpAny_updateSeq (s := { s with toks := tk }) hS rfl ?_)
    have hS2 := Heap.get?_update_self (Obj.mapSeq (·.push Value.none)) hS rfl
    refine wpAny_updateSeq (hz := by seq_fits) hS2 rfl ?_
    have hS3 := Heap.get?_update_self (Obj.mapSeq (·.pop)) hS2 rfl
    have oth : ∀ b o, b ≠ S → s.heap.get? b = some o → ((s.heap.update S (Obj.mapSeq (·.push Value.none))).update S (Obj.mapSeq (·.pop))).get? b = some o :=
      fun c u hc e => (Heap.get?_update_other _ _ (Ne.symm hc)).trans ((Heap.get?_update_other _ _ (Ne.symm hc)).trans e)
    refine wpAny_pure ⟨plainId_quiet F.plain_extend_loop _, codeAny_extend_loopS W hn _ hSf _ x.length 0 _ _ _ rfl (Nat.zero_le _) (st0 _ (fun o e => oth it o (Ne.symm hSI) e) _) hS3 (ItemsOf.nil _) fun s' acc' c' hm hS' hacc => ?_⟩
    exact hR s' acc' c' ⟨fun b o hb e => hm.heap b o hb (oth b o (fun q => hb (q ▸ List.mem_cons_self)) e), hm.gens, hm.drawn, hm.os, Nat.le_trans htk hm.toks⟩ hS' hacc
theorem call_list_rx {Q : Value → Shared → Prop} {it : Addr} (hh : A.handled = none) (st : IsRx s.heap it x ((x.length : Int) - 1)) (hn : x.length ≤ sizeLine)
    (hQ : ∀ h' tk acc' c', (∀ b o, b ≠ it → s.heap.get? b = some o → h'.get? b = some o) → h'.get? s.heap.objs.size = some { cls := .type "list", dict := none, data := .seq acc' c', slots := #[] } → ItemsOf (RxP x) acc' x.length →
      Q (.ref s.heap.objs.size) { s with heap := h', toks := tk }) : wpAny (model prog w) A (call (.type "list") [.ref it]) Q E s := by
  refine callType_codes (Q₁ := fun ob s2 => ob = .ref s.heap.objs.size ∧ s2 = { s with heap := s.heap.push { cls := .type "list", data := .seq #[] } }) F.called_list (F.typeCall_list_1 _) F.entry_list_init
    (code_list_new _ ⟨rfl, rfl⟩) fun ob s2 h2 => ?_
  obtain ⟨rfl, rfl⟩ := h2
  have hS : (s.heap.push { cls := .type "list", data := .seq #[] }).get? s.heap.objs.size = some { cls := .type "list", data := .seq #[] } := Heap.get?_push_size _ rfl
  refine ⟨⟨_, hS, rfl⟩, F.args_list_init_2 _ _, ?_⟩
  have hne : s.heap.objs.size ≠ it := by
    obtain ⟨o, _, ho, _⟩ := st
    exact Nat.ne_of_gt (Heap.lt_size ho)
  show wpAny _ A.in1.in1 (do let old ← Builtin.List.listItems (.ref s.heap.objs.size); Builtin.List.listUpdate (.ref s.heap.objs.size) (fun _ => #[]); letGo old.toList.reverse; Builtin.List.listExtendWith (.ref s.heap.objs.size) (.ref it) .none) _ _ _
  refine wpAny_bind ?_
  unfold Builtin.List.listItems
  refine wpAny_bind (wpAny_seqItems hS rfl (wpAny_pure ?_))
  show wpAny _ _ (updateSeq s.heap.objs.size (fun _ => #[]) >>= fun _ => letGo (#[] : Array Value).toList.reverse >>= fun _ => Builtin.List.listExtendWith (.ref s.heap.objs.size) (.ref it) .none) _ _ _
  refine wpAny_bind (wpAny_updateSeq hS rfl ?_)
  have hS2 := Heap.get?_update_self (Obj.mapSeq (fun _ => (#[] : Array Value))) hS rfl
  have oth : ∀ b o, s.heap.get? b = some o → ((s.heap.push { cls := .type "list", data := .seq #[] }).update s.heap.objs.size (Obj.mapSeq (fun _ => (#[] : Array Value)))).get? b = some o :=
    fun b o e => (Heap.get?_update_other _ _ (Nat.ne_of_gt (Heap.lt_size e))).trans (Heap.get?_push_of_some _ e)
  refine wpAny_bind (wpAny_letGo ?_)
  have st2 : IsRx ((s.heap.push { cls := .type "list", data := .seq #[] }).update s.heap.objs.size (Obj.mapSeq (fun _ => (#[] : Array Value)))) it x ((x.length : Int) - 1) := by
    obtain ⟨o, t, ho, hc, hd⟩ := st
    exact ⟨o, t, oth _ _ ho, hc, hd⟩
  refine extend_rx (A := A.in1) (s := { s with heap := (s.heap.push { cls := .type "list", data := .seq #[] }).update s.heap.objs.size (Obj.mapSeq (fun _ => (#[] : Array Value))) }) hh st2 hn s.heap.objs.size .none _ hne hS2 fun s' acc' c' hm hS' hacc => ?_
  refine ⟨rfl, ?_⟩
  have eg : s' = { s with heap := s'.heap, toks := s'.toks } := by
    obtain ⟨hp, g, d, tk, os⟩ := s'
    have h1 := hm.gens
    have h2 := hm.drawn
    have h3 := hm.os
    simp only at h1 h2 h3
    subst h2 h3
    rw [← h1]
  rw [eg]
  exact hQ s'.heap s'.toks acc' c' (fun b o hb e => hm.heap b o (fun z => by
    rcases List.mem_cons.mp z with z | z
    · rw [z] at e; exact Nat.lt_irrefl _ (Heap.lt_size e)
    · exact hb (List.mem_singleton.mp z)) (oth b o e)) hS' hacc
end
end RX
/-! Sp: list(reversed(text)), by data. -/
namespace Sp
open PySem L2
open PyProof.Rows (Call_ args_cons args_nil)
section
variable {X : Cx}
def tListRev (te : TE) : TE := fun σ H Q => te σ H fun v H1 => ∃ x : List Nat, v = .str (toStr x) ∧ x.length ≤ sizeLine ∧ ∀ p, H1 p = none → Q (.ref p) (upd H1 p (.lst (x.reverse.map fun c => V.str (toStr [c]))))
theorem pe_listRev {e : Expr} {te : TE} {p p2 pos pos2 : Pos} (hc : X.calm = true) (hg : Gl X "list") (hm : X.mg "list" = none) (hg2 : Gl X "reversed") (hm2 : X.mg "reversed" = none) (he : PE X e te)
    (hs : starEach [e] X.env = (false, eval e X.env) :: starEach [] X.env) (hs2 : starEach [.Call (.Name "reversed" p2) [e] [] pos2] X.env = (false, eval (.Call (.Name "reversed" p2) [e] [] pos2) X.env) :: starEach [] X.env) :
    PE X (.Call (.Name "list" p) [.Call (.Name "reversed" p2) [e] [] pos2] [] pos) (tListRev te) := by
  refine ⟨fun pins s σ H Q I h => ?_⟩
  refine Call_ (ld_blt I hg hm PyProof.Rows.boot_list (PyProof.Rows.callWith_type1 (args_cons (Call_ (ld_blt I hg2 hm2 PyProof.Rows.boot_reversed (PyProof.Rows.callWith_type1 (args_cons (thn (he.run pins s σ H _ I h) fun u s1 ⟨v, H1, I1, r1, q1⟩ => args_nil ?_) hs) hs rfl))) hs2) hs2 rfl))
  obtain ⟨x, ev, hx, q⟩ := q1
  subst ev
  obtain ⟨t, rfl⟩ := r1
  have hn : (toStr x).length ≤ sizeLine := by rw [toStr_len]; exact hx
  refine RX.call_rev_str hn (args_nil ?_)
  have hit : RX.IsRx (s1.heap.push (RX.revO (toStr x) t (((toStr x).length : Int) - 1))) s1.heap.objs.size (toStr x) (((toStr x).length : Int) - 1) := ⟨_, t, Heap.get?_push_size _ rfl, rfl, rfl⟩
  refine RX.call_list_rx (s := { s1 with heap := s1.heap.push (RX.revO (toStr x) t (((toStr x).length : Int) - 1)), toks := s1.toks + 1 + 1 }) (I1.ok.hd hc) hit hn fun h' tk acc c hk hS hi => ?_
  have hl : acc.toList.length = x.length := by
    have := hi.1
    rw [toStr_len] at this
    simpa using this
  have hv : Vals (x.reverse.map fun c => V.str (toStr [c])) acc.toList := by
    refine prd_of (by rw [List.length_map, List.length_reverse]; omega) fun i a b ha hb => ?_
    obtain ⟨c', u, h8, h9⟩ := hi.2 i b (by simpa using hb)
    have hil : i < acc.toList.length := (List.getElem?_eq_some_iff.mp hb).1
    rw [List.getElem?_map, List.getElem?_reverse (by omega)] at ha
    have h10 : x[x.length - 1 - i]? = some c' := by
      rw [toStr_len] at h8
      simpa [toStr] using h8
    rw [h10] at ha
    cases ha
    exact ⟨u, h9⟩
  refine ⟨.ref _, upd H1 _ (.lst _), I1.laid (t' := tk) (fun b o e => hk b o (Nat.ne_of_lt (Heap.lt_size e)) (Heap.get?_push_of_some _ e)) (show s1.heap.objs.size ≤ (s1.heap.push _).objs.size from ?_) ⟨by rw [List.length_map, List.length_reverse]; exact hx, acc.toList, c, hv, by simpa using hS⟩, rfl, q _ (I1.hok.fresh ?_)⟩
  · simp [Heap.push]
  · simp [Heap.push]
end
section
variable {Y : DX} {s : DSt} {a : Expr} {pos p p2 pos2 : Pos} {W : (List Nat → Prop) → Prop}
theorem c_listRevS (ok : YOk Y) (T : Bis Y.X.mg) (hg : Gl Y.X "list") (hg2 : Gl Y.X "reversed") (ha : EvC Y s a W) (he : starEach [a] Y.X.env = (false, eval a Y.X.env) :: starEach [] Y.X.env := by exact star_c rfl)
    (he2 : starEach [.Call (.Name "reversed" p2) [a] [] pos2] Y.X.env = (false, eval (.Call (.Name "reversed" p2) [a] [] pos2) Y.X.env) :: starEach [] Y.X.env := by exact star_c rfl) :
    EvC Y s (.Call (.Name "list" p) [.Call (.Name "reversed" p2) [a] [] pos2] [] pos) fun k => W fun x => x.length ≤ sizeLine ∧ k (x.reverse.map fun c => [c]) := fun k w F0 σ H F e0 S => by
  refine .of (pe_listRev ok.calm hg (T.no _ (by decide)) hg2 (T.no _ (by decide)) pe_we he he2) ?_
  refine (ha _ w F0 σ H F e0 S).mono fun v H1 ⟨A, s1, F1, e1, r1, S1, x, ea, es, hx, kx⟩ => ?_
  subst ea es
  exact ⟨x, r1, hx, fun l hl => po_listC e1 S1 (signs_vs x.reverse) kx l hl⟩
end
end Sp
set_option maxHeartbeats 4000000
/-! Sp: a dict of lists that grow: found.setdefault(key, []).append(x). -/
namespace Sp
open PySem L2
section
variable {κ α : Type} [DecidableEq κ]
/-- x is laid at the end of the row of k -/
def grp : List (κ × List α) → κ → α → List (κ × List α)
  | [], k, v => [(k, [v])]
  | p :: r, k, v => if p.1 = k then (p.1, p.2 ++ [v]) :: r else p :: grp r k v
def gval : List (κ × List α) → κ → List α
  | [], _ => []
  | p :: r, k => if p.1 = k then p.2 else gval r k
def grefs : List (κ × List α) → (Nat → Addr) → List (κ × Rf)
  | [], _ => []
  | p :: r, f => (p.1, Rf.mk (f 0)) :: grefs r fun n => f (n + 1)
theorem grefs_len : ∀ (m : List (κ × List α)) (f : Nat → Addr), (grefs m f).length = m.length
  | [], _ => rfl
  | _ :: r, _ => congrArg (· + 1) (grefs_len r _)
section
variable [Enc α]
def gcells : List (κ × List α) → (Nat → Addr) → Gs
  | [], _ => []
  | p :: r, f => (f 0, lstc p.2) :: gcells r fun n => f (n + 1)
/-- the key stands, or it does not -/
theorem g_find : ∀ (m : List (κ × List α)) (f : Nat → Addr) (k : κ), (dval (grefs m f) k = none ∧ gval m k = [] ∧ ∀ D : Addr, ∃ f', grefs (m ++ [(k, [])]) f' = grefs m f ++ [(k, Rf.mk D)] ∧ gcells (m ++ [(k, [])]) f' = gcells m f ++ [(D, lstc ([] : List α))] ∧
      dval (grefs (m ++ [(k, [])]) f') k = some (Rf.mk D) ∧ gval (m ++ [(k, [])]) k = [] ∧ ∀ v, grp (m ++ [(k, [])]) k v = grp m k v) ∨
    ∃ j a, dval (grefs m f) k = some (Rf.mk a) ∧ (gcells m f)[j]? = some (a, lstc (gval m k)) ∧ ∀ v, grefs (grp m k v) f = grefs m f ∧ gcells (grp m k v) f = (gcells m f).set j (a, lstc (gval m k ++ [v]))
  | [], f, k => .inl ⟨rfl, rfl, fun D => ⟨fun _ => D, rfl, rfl, by simp [grefs, dval], by simp [gval], fun v => by simp [grp]⟩⟩
  | p :: r, f, k => by
    by_cases e : p.1 = k
    · refine .inr ⟨0, f 0, ?_, ?_, fun v => ?_⟩
      · simp [grefs, dval, e]
      · simp [gcells, gval, e]
      · simp [grp, grefs, gcells, gval, e]
    · rcases g_find r (fun n => f (n + 1)) k with ⟨h1, h2, h3⟩ | ⟨j, a, h1, h2, h3⟩
      · refine .inl ⟨?_, ?_, fun D => ?_⟩
        · simpa [grefs, dval, e] using h1
        · simpa [gval, e] using h2
        · obtain ⟨f', g1, g2, g3, g4, g5⟩ := h3 D
          refine ⟨fun n => match n with | 0 => f 0 | n + 1 => f' n, ?_, ?_, ?_, ?_, fun v => ?_⟩
          · simpa [grefs] using g1
          · simpa [gcells] using g2
          · simpa [grefs, dval, e] using g3
          · simpa [gval, e] using g4
          · simpa [grp, e] using g5 v
      · refine .inr ⟨j + 1, a, ?_, ?_, fun v => ?_⟩
        · simpa [grefs, dval, e] using h1
        · simpa [gcells, gval, e] using h2
        · simpa [grp, grefs, gcells, gval, e] using h3 v
end
end
theorem dput_none {κ ν : Type} [DecidableEq κ] {m : List (κ × ν)} {k : κ} {x : ν} (h : dval m k = none) : dput m k x = m ++ [(k, x)] := by
  unfold dput
  rw [if_neg]
  intro z
  unfold dval at h
  rw [Option.map_eq_none_iff, List.find?_eq_none] at h
  obtain ⟨p, hp, hq⟩ := List.any_eq_true.mp z
  exact h p hp hq
theorem upd_id {H : Hp} {q : Addr} {o : HO} (h : H q = some o) : upd H q o = H := by
  funext a
  by_cases e : a = q
  · rw [e, upd_same, h]
  · rw [upd_ne e]
section
variable {Y : DX} {s : DSt} {o e f a : Expr} {pos p apos cpos : Pos} {D : DE} {sts : List Stmt} {Q : Pv → DSt → Prop}
variable {κ α : Type} [DecidableEq κ] [Kk κ] [Enc κ] [KkV κ] [Enc α]
theorem m2 {X : Cx} {o : Expr} {m : Str} {apos : Pos} {e f : Expr} {cpos : Pos} (h1 : noSup o = true) (h2 : noStar e = true) (h3 : noStar f = true) (h4 : (apos.endLine == cpos.line) = true) : M2 X o m apos e f cpos := by
  have s1 : starEach [f] X.env = (false, eval f X.env) :: starEach [] X.env := star_c h3
  have s2 : starEach [e, f] X.env = (false, eval e X.env) :: starEach [f] X.env := star_c h2
  refine ⟨ab_ok h1, ?_, h4, ?_⟩
  · rw [s2, s1]; rfl
  · rw [s2, s1]; rfl
/-- the row of the key, new or there -/
theorem ev_rowOf {q : Addr} {m : List (κ × List α)} {fA : Nat → Addr} {front : Gs} {g : Nat} {lp : Pos} {WK : (κ → Prop) → Prop} {R : κ → Prop} (ho : EvP Y s o (raw (.ref q))) (hs : s.gs = front ++ gcells m fA) (hg : front[g]? = some (q, dctc (grefs m fA))) (hk : EvC Y s e WK) (w : WK fun k => m.length < sizeLine ∧ R k)
    (hQ : ∀ k j a f1 m1, R k → gval m1 k = gval m k → (∀ v, grp m1 k v = grp m k v) → (gcells m1 f1)[j]? = some (a, lstc (gval m k)) → (∀ v, grefs (grp m1 k v) f1 = grefs m1 f1 ∧ gcells (grp m1 k v) f1 = (gcells m1 f1).set j (a, lstc (gval m k ++ [v]))) → Q (raw (.ref a)) ⟨s.ρ, front.set g (q, dctc (grefs m1 f1)) ++ gcells m1 f1⟩)
    (h2 : M2 Y.X o "setdefault" apos e (.List [] lp) cpos) : Ev Y s (.Call (.Attribute o "setdefault" apos) [e, .List [] lp] [] cpos) Q := fun F0 σ H F e0 S => by
  refine .of (pe_dsetd pe_we pe_we pe_we h2) ?_
  refine (ho F0 σ H F e0 S).mono fun v H1 ⟨F1, e1, r1, S1⟩ => ?_
  have hgs : ∀ {G : Gs}, s.gs = G → front ++ gcells m fA = G := fun h => by rw [← hs]; exact h
  have hgl : g < front.length := (List.getElem?_eq_some_iff.mp hg).1
  have hcell : s.gs[g]? = some (q, dctc (grefs m fA)) := by rw [hs, List.getElem?_append_left hgl]; exact hg
  refine ⟨q, r1, ?_, ?_⟩
  · obtain ⟨_, oo, hoo, _, zs, eo, rv⟩ := S1.cell hcell
    subst eo
    exact .inl ⟨zs, .of hoo⟩
  refine (hk _ w F1 σ H1 F1 (.refl _) S1).mono fun u H2 ⟨A, s2, F2, e2, r2, S2, k, ea, es, hl, hr⟩ => ?_
  subst ea es
  refine ((ev_listO (Q := fun A s3 => ∃ D, A = raw (.ref D) ∧ s3 = ⟨s2.ρ, (D, lstc ([] : List α)) :: s2.gs⟩) (evs_nil ⟨[], rfl, Nat.zero_le _, fun D => ⟨D, rfl, rfl⟩⟩)) F2 σ H2 F2 (.refl _) S2).mono fun z H3 ⟨_, _, F3, e3, r3, S3, D, ea, es⟩ => ?_
  subst ea es
  have rz : z = .ref D := r3
  subst rz
  have hcell3 : ((D, lstc ([] : List α)) :: s2.gs)[g + 1]? = some (q, dctc (grefs m fA)) := by rw [List.getElem?_cons_succ]; exact hcell
  obtain ⟨_, oo, hoo, _, zs, eo, rv⟩ := S3.cell hcell3
  subst eo
  have hzl : zs.length = m.length := by rw [show zs.length = (grefs m fA).length from Paired.length rv, grefs_len]
  have eF : Ext F0 F3 := (e1.trans e2).trans e3
  refine ⟨zs, Kk.key k, hoo, KkV.of r2, by rw [hzl]; exact hl, fun v hv => ?_, fun hv => ?_⟩
  · rcases g_find m fA k with ⟨h1, _, _⟩ | ⟨j, a, h1, h2, h3⟩
    · rcases kvs_val rv k with ⟨_, h4⟩ | ⟨_, x, h4, _⟩
      · rw [hv] at h4; cases h4
      · rw [h1] at h4; cases h4
    · rcases kvs_val rv k with ⟨h4, _⟩ | ⟨v', x, h4, h5, h6⟩
      · rw [h1] at h4; cases h4
      · rw [h1] at h4
        cases h4
        rw [hv] at h5
        cases h5
        have S4 := S3.drop 0
        have hfr : front.set g (q, dctc (grefs m fA)) = front := by
          apply List.ext_getElem?
          intro n
          by_cases z : g = n
          · subst z; rw [List.getElem?_set_self hgl, hg]
          · rw [List.getElem?_set_ne z]
        refine ⟨raw (.ref a), _, F3, eF, h6, S4, ?_⟩
        have := hQ k j a fA m hr rfl (fun _ => rfl) h2 h3
        rw [hfr, ← hs] at this
        exact this
  · rcases g_find m fA k with ⟨h1, h2, h3⟩ | ⟨j, a, h1, _, _⟩
    · obtain ⟨f', g1, g2, g3, g4, g5⟩ := h3 D
      have S4 := S3.write (c' := dctc (dput (grefs m fA) k (Rf.mk D))) (o' := .dK (putK zs (Kk.key k) (.ref D))) hcell3 hoo (not_codeD rfl) rfl ⟨_, rfl, kvs_put rv (x := Rf.mk D) rfl⟩
      rw [dput_none h1, ← g1] at S4
      have hp : (((D, lstc ([] : List α)) :: s2.gs).set (g + 1) (q, dctc (grefs (m ++ [(k, [])]) f'))).Perm (front.set g (q, dctc (grefs (m ++ [(k, [])]) f')) ++ gcells (m ++ [(k, [])]) f') := by
        rw [g2, hs, List.set_cons_succ, List.set_append_left _ _ hgl, ← List.append_assoc]
        exact List.perm_append_comm (l₁ := [(D, lstc ([] : List α))])
      have S5 := S4.perm hp
      rcases g_find (m ++ [(k, [])]) f' k with ⟨h4, _⟩ | ⟨j, a, h4, h5, h6⟩
      · rw [g3] at h4; cases h4
      · rw [g3] at h4
        cases h4
        rw [g4] at h5 h6
        exact ⟨raw (.ref D), _, F3, eF, rfl, S5, hQ k j D f' (m ++ [(k, [])]) hr (g4.trans h2.symm) g5 (by rw [h2]; exact h5) (by rw [h2]; exact h6)⟩
    · rcases kvs_val rv k with ⟨h4, _⟩ | ⟨v', x, h4, h5, h6⟩
      · rw [h1] at h4; cases h4
      · rw [hv] at h5; cases h5
/-- found.setdefault(key, []).append(x) -/
theorem s_grp {b : Expr} {q : Addr} {m : List (κ × List α)} {fA : Nat → Addr} {front : Gs} {nm : Str} {lp np p2 ap : Pos} {WK : (κ → Prop) → Prop} {WE_ : (α → Prop) → Prop} {R : κ → α → Prop} (i g : Nat) (hN : Y.X.N[i]? = some nm) (hρ : s.ρ[i]? = some (some (raw (.ref q))))
    (hs : s.gs = front ++ gcells m fA) (hg : front[g]? = some (q, dctc (grefs m fA))) (hk : EvC Y s e WK) (hb : ∀ gs', EvC Y ⟨s.ρ, gs'⟩ b WE_)
    (next : ∀ k v f', R k v → Ws Y ⟨s.ρ, front.set g (q, dctc (grefs (grp m k v) f')) ++ gcells (grp m k v) f'⟩ sts D) (w : WK fun k => m.length < sizeLine ∧ WE_ fun v => (gval m k).length < sizeLine ∧ R k v)
    (h2 : M2 Y.X (.Name nm np) "setdefault" apos e (.List [] lp) cpos := by exact m2 rfl rfl rfl rfl) (h1 : Mx1 Y.X (.Call (.Attribute (.Name nm np) "setdefault" apos) [e, .List [] lp] [] cpos) "append" ap b pos := by exact mx1 rfl rfl rfl)
    (hv : Vis Y.X.env.scope nm := by first | exact .inl rfl | exact .inr (.inl rfl) | exact .inr (.inr rfl)) (hd : (nm == ("__debug__" : Str)) = false := by decide) (hcd : (nm == ("__classdict__" : Str)) = false := by decide) :
    Ws Y s (.Expr (.Call (.Attribute (.Call (.Attribute (.Name nm np) "setdefault" apos) [e, .List [] lp] [] cpos) "append" ap) [b] [] pos) p2 :: sts) D := by
  have hgl : g < front.length := (List.getElem?_eq_some_iff.mp hg).1
  refine ws_cons (w1_expr (ev_m1C PySem.F.plainAttrs_list PySem.F.slot_list_append PySem.F.type_list_append mt_append (ev_rowOf (evp_v i hN hρ hv hd hcd) hs hg hk w (fun k j a f1 m1 hr e1 e2 hc hset => ?_) h2) h1))
  have hcell : (front.set g (q, dctc (grefs m1 f1)) ++ gcells m1 f1)[front.length + j]? = some (a, lstc (gval m k)) := by
    rw [List.getElem?_append_right (by rw [List.length_set]; omega), List.length_set, Nat.add_sub_cancel_left]
    exact hc
  refine ⟨fun σ H F v S r => ?_, ?_⟩
  · have rv : v = .ref a := r
    subst rv
    obtain ⟨_, oo, hoo, _, vs, eo, _⟩ := S.cell hcell
    subst eo
    exact tyV_list (.of hoo)
  refine (hb _).q hr fun v ⟨hl, hR⟩ F0 σ H F u0 u e0 S r1 r2 => ?_
  have rv : u0 = .ref a := r1
  subst rv
  obtain ⟨hF, oo, hoo, _, vs, eo, rv⟩ := S.cell hcell
  subst eo
  have nx := next k v f1 hR
  have := hset v
  rw [e2] at this
  rw [this.1, this.2] at nx
  have S2 := S.write (c' := lstc (gval m k ++ [v])) (o' := .lst (vs ++ [u])) hcell hoo (not_codeL rfl) rfl ⟨_, rfl, rv.snoc r2⟩
  rw [List.set_append_right _ _ (by rw [List.length_set]; omega), List.length_set, Nat.add_sub_cancel_left] at S2
  exact ⟨a, vs, u, rfl, rfl, hoo, by rw [show vs.length = (gval m k).length from Paired.length rv]; exact hl, pu (), _, F, e0, rfl, S2, nx⟩
/-! the dict and its rows are frozen -/
theorem fr_cells {σ : St} {ρ : Rho} : ∀ (m : List (κ × List α)) (f : Nat → Addr) (front : Gs) {H F : Hp}, Sta Y ⟨ρ, front ++ gcells m f⟩ σ H F → ∃ F', Ext F F' ∧ Sta Y ⟨ρ, front⟩ σ H F' ∧ ∀ kvs, KVs Y.X.K F kvs (grefs m f) → KVs Y.X.K F' kvs m
  | [], f, front, H, F, S => ⟨F, .refl _, by
      have e : front ++ gcells ([] : List (κ × List α)) f = front := List.append_nil _
      rw [e] at S
      exact S, fun kvs h => by
      cases h
      exact .nil⟩
  | p :: r, f, front, H, F, S => by
    have hc : (front ++ gcells (p :: r) f)[front.length]? = some (f 0, lstc p.2) := by
      rw [List.getElem?_append_right (Nat.le_refl _), Nat.sub_self]
      rfl
    obtain ⟨hF, oo, hoo, _, vs, eo, rv⟩ := S.cell hc
    subst eo
    have S1 := S.freeze hc hoo
    have ee : (front ++ gcells (p :: r) f).eraseIdx front.length = front ++ gcells r fun n => f (n + 1) := by
      rw [List.eraseIdx_append_of_length_le (Nat.le_refl _), Nat.sub_self]
      rfl
    have S2 : Sta Y ⟨ρ, front ++ gcells r fun n => f (n + 1)⟩ σ H (upd F (f 0) (.lst vs)) := by
      rw [← ee]
      exact S1
    obtain ⟨F', e1, S3, h3⟩ := fr_cells r _ front S2
    refine ⟨F', (Ext.grow hF).trans e1, S3, fun kvs h => ?_⟩
    cases h with
    | cons h1 h2 =>
      refine .cons ⟨h1.1, ?_⟩ (h3 _ (KVs.mono h2 (Ext.grow hF)))
      exact Enc.mono (α := List α) (⟨f 0, vs, h1.2, .of upd_same, rv.mono (Ext.grow hF)⟩ : Enc.rep Y.X.K (upd F (f 0) (.lst vs)) _ p.2) e1
/-- from here on the dict is frozen -/
theorem ws_frG {q : Addr} {m : List (κ × List α)} {f : Nat → Addr} {front : Gs} (i g : Nat) (hi : s.ρ[i]? = some (some (raw (.ref q)))) (hs : s.gs = front ++ gcells m f) (hg : front[g]? = some (q, dctc (grefs m f))) (h : Ws Y ⟨s.ρ.set i (some (pu (Dct.mk m))), front.eraseIdx g⟩ sts D) : Ws Y s sts D := fun F0 σ H F e0 S => by
  have hgl : g < front.length := (List.getElem?_eq_some_iff.mp hg).1
  have hcell : s.gs[g]? = some (q, dctc (grefs m f)) := by rw [hs, List.getElem?_append_left hgl]; exact hg
  obtain ⟨hF, oo, hoo, _, zs, eo, rv⟩ := S.cell hcell
  subst eo
  have S0 : Sta Y ⟨s.ρ, front ++ gcells m f⟩ σ H F := by rw [← hs]; exact S
  obtain ⟨F1, e1, S1, hk⟩ := fr_cells m f front S0
  have S2 := S1.write (c' := dctc m) (o' := .dK zs) hg hoo (not_codeD rfl) rfl ⟨zs, rfl, hk zs rv⟩
  rw [upd_id hoo] at S2
  have hj : (front.set g (q, dctc m))[g]? = some (q, dctc m) := List.getElem?_set_self hgl
  have ee : (front.set g (q, dctc m)).eraseIdx g = front.eraseIdx g := List.eraseIdx_set_eq
  rw [← ee] at h
  exact ws_freezeD (s := ⟨s.ρ, front.set g (q, dctc m)⟩) i g hi hj h F0 σ H F1 (e0.trans e1) S2
end
section
variable {Y : DX} {s : DSt} {e : Expr} {pos p2 : Pos} {D : DE} {sts : List Stmt} {x : Str}
variable {κ α : Type} [DecidableEq κ] [Kk κ] [Enc κ] [KkV κ] [Enc α]
/-- x = {}: a dict whose rows will grow -/
theorem s_asgG {R : Prop} (i : Nat) (f0 : Nat → Addr) (ok : YOk Y) (hi : Y.X.N[i]? = some x) (next : ∀ q, R → Ws Y ⟨s.ρ.set i (some (raw (.ref q))), (q, dctc (grefs ([] : List (κ × List α)) f0)) :: (s.gs ++ gcells ([] : List (κ × List α)) f0)⟩ sts D) (w : R)
    (hx : Loc Y.X.env.scope x := by first | exact .inl rfl | exact .inr rfl) (hf : Y.X.fn x = true ∨ Y.X.env.scope.names.lookup x = some .local := by first | exact .inl rfl | exact .inr rfl) {spos : Pos}
    (hs' : swapsWith (.Dict [] [] pos) (some (.Name x p2)) spos.line Y.X.env = pure false := by rfl) : Ws Y s (.Assign [.Name x p2] (.Dict [] [] pos) spos :: sts) D := by
  have next' : ∀ q, R → Ws Y ⟨s.ρ.set i (some (raw (.ref q))), (q, dctc ([] : List (κ × Rf))) :: s.gs⟩ sts D := fun q r => by
    have := next q r
    rwa [show s.gs ++ gcells ([] : List (κ × List α)) f0 = s.gs from List.append_nil _] at this
  exact s_asgM (R := fun v : List (κ × Rf) => v = [] ∧ R) i ok hi m_new (fun q v ⟨e, r⟩ => by subst e; exact next' q r) ⟨rfl, w⟩ hx hs' hf
end
end Sp
namespace Sp
open PySem L2
section
variable {Y : DX} {s : DSt} {a b c : Expr} {pos : Pos} {o1 o2 : CmpOp} {r1 r2 : Int → Int → Bool} {Wa Wb Wc : (Int → Prop) → Prop}
theorem t_chainV (v : Int) (ha : EvC Y s a Wa) (hb : EvC Y s b Wb) (hc : EvC Y s c Wc) (h1 : OpR Y.X (compareOp o1) (fun x y H Q => ∃ i j, x = .int i ∧ y = .int j ∧ Q (.bl (r1 i j)) H)) (h2 : OpR Y.X (compareOp o2) (fun x y H Q => ∃ i j, x = .int i ∧ y = .int j ∧ Q (.bl (r2 i j)) H)) (hm : lastMarks [o1, o2] [b, c] = false := by with_unfolding_all rfl) :
    EvT Y s (.Compare a [o1, o2] [b, c] pos) fun k => Wa fun i => Wb fun j => (r1 i j = true → Wc fun z => z = v) ∧ k (r1 i j && r2 j v) := t_chain h1 h2 ha hb hc hm
theorem c_chainV (v : Int) (ha : EvC Y s a Wa) (hb : EvC Y s b Wb) (hc : EvC Y s c Wc) (h1 : OpR Y.X (compareOp o1) (fun x y H Q => ∃ i j, x = .int i ∧ y = .int j ∧ Q (.bl (r1 i j)) H)) (h2 : OpR Y.X (compareOp o2) (fun x y H Q => ∃ i j, x = .int i ∧ y = .int j ∧ Q (.bl (r2 i j)) H)) (hm : lastMarks [o1, o2] [b, c] = false := by with_unfolding_all rfl) :
    EvC Y s (.Compare a [o1, o2] [b, c] pos) fun k => Wa fun i => Wb fun j => (r1 i j = true → Wc fun z => z = v) ∧ k (r1 i j && r2 j v) := c_chain h1 h2 ha hb hc hm
end
end Sp
set_option maxHeartbeats 4000000
/-! Sp: plain words for the wishes that the walks leave. -/
namespace Sp
open PySem L2
open PySem.W (DatumOrd)
/-! calls -/
section
variable {ρ : Type} {w : (ρ → Prop) → (Ex → Prop) → Prop} {k : ρ → Prop} {E : Ex → Prop}
theorem Cl.here (h : w k E) : Cl w k E := ⟨k, E, h, fun _ r => r, fun _ r => r⟩
theorem Cl.val {r : ρ} (h : w (fun x => x = r) NoE) (q : k r) : Cl w k E := ⟨_, _, h, fun _ e => by subst e; exact q, fun _ h => h.elim⟩
theorem Cl.exc {e : Ex} (h : w (fun _ => False) (fun x => x = e)) (q : E e) : Cl w k E := ⟨_, _, h, fun _ h => h.elim, fun _ h => by subst h; exact q⟩
theorem Cl.mono {k' : ρ → Prop} {E' : Ex → Prop} (h : Cl w k E) (h1 : ∀ r, k r → k' r) (h2 : ∀ e, E e → E' e) : Cl w k' E' :=
  let ⟨R0, E0, a, b, c⟩ := h
  ⟨R0, E0, a, fun r x => h1 r (b r x), fun e x => h2 e (c e x)⟩
end
theorem ClD.here {ρ : Type} {w : (ρ → Prop) → (Ex → Prop) → Prop} {k : ρ → Prop} (h : w k NoE) : ClD w k := ⟨k, h, fun _ r => r⟩
theorem ClD.roll {n : Int} {k : Int → Prop} (h0 : 0 < n) (h1 : n < 1073741824) (h : ∀ r : Int, 0 ≤ r → r < n → k r) : ClD (rollW (n, ())) k := ⟨k, ⟨h0, h1, h⟩, fun _ r => r⟩
/-! loops -/
section
variable {β Z : Type} {items : List β} {z0 : Z} {body : β → Z → (Z → Prop) → Prop} {rest : Z → Prop}
theorem forW.inv (P : List β → Z → Prop) (h0 : P [] z0) (hs : ∀ l x r z, items = l ++ x :: r → P l z → body x z (P (l ++ [x]))) (he : ∀ z, P items z → rest z) : forW items z0 body rest :=
  ⟨fun i z => P (items.take i) z, by simpa using h0, fun i x z hx h => by
    have hlt := (List.getElem?_eq_some_iff.mp hx).1
    have e : items = items.take i ++ x :: items.drop (i + 1) := by
      have := List.take_append_drop i items
      rw [List.drop_eq_getElem_cons hlt] at this
      rw [(List.getElem?_eq_some_iff.mp hx).2] at this
      exact this.symm
    have := hs _ _ _ z e h
    have e2 : items.take (i + 1) = items.take i ++ [x] := by rw [List.take_add_one, hx]; rfl
    show body x z (fun z => P (items.take (i + 1)) z)
    rw [e2]
    exact this, fun z h => he z (by simpa using h)⟩
/-- a loop that is a fold -/
theorem forW.fold (f : Z → β → Z) (hs : ∀ l x r, items = l ++ x :: r → ∀ k : Z → Prop, k (f (l.foldl f z0) x) → body x (l.foldl f z0) k) (he : rest (items.foldl f z0)) : forW items z0 body rest :=
  forW.inv (fun l z => z = l.foldl f z0) rfl (fun l x r z e h => by
    subst h
    exact hs l x r e _ (by rw [List.foldl_append]; rfl)) (fun z h => by subst h; exact he)
end
theorem ifJ.mk {Z : Type} {b : Bool} {B C : (Z → Prop) → Prop} {rest : Z → Prop} (h1 : b = true → B rest) (h2 : b = false → C rest) : ifJ b B C rest := ⟨h1, h2⟩
/-! comprehensions of drawn items -/
section
variable {β α : Type} {P : β → α → Prop} {xs : List β} {ys : List α}
theorem Each.all {R : α → Prop} (h : Each P xs ys) (q : ∀ x ∈ xs, ∀ y, P x y → R y) : ∀ y ∈ ys, R y := by
  induction h with
  | nil => intro y hy; cases hy
  | cons p _ ih =>
    intro y hy
    rcases List.mem_cons.mp hy with rfl | hy
    · exact q _ (List.mem_cons_self ..) _ p
    · exact ih (fun x hx => q x (List.mem_cons_of_mem _ hx)) y hy
theorem Each.length {P : β → α → Prop} (h : Each P xs ys) : ys.length = xs.length := h.len
end
/-! texts -/
theorem cntT_one (x : Txt) (c : Nat) : cntT x [c] = (x.count c : Int) := by
  unfold cntT
  rw [count_sign]
  congr 1
theorem ixS_mem {x : Txt} {i : Int} (h0 : 0 ≤ i) (h1 : i < x.length) : ∃ c ∈ x, ixS x i = [c] := by
  unfold ixS plc
  rw [if_pos h0]
  have : i.toNat < x.length := by omega
  refine ⟨x[i.toNat], List.getElem_mem this, ?_⟩
  rw [List.getD_eq_getElem?_getD, List.getElem?_eq_getElem this] <;> rfl
theorem ixD_mem {α : Type} [Inhabited α] {x : List α} {i : Int} (h0 : 0 ≤ i) (h1 : i < x.length) : ixD x i ∈ x := by
  unfold ixD plc
  rw [if_pos h0]
  have : i.toNat < x.length := by omega
  rw [List.getD_eq_getElem?_getD, List.getElem?_eq_getElem this]
  exact List.getElem_mem this
theorem joinT_nil : ∀ xs : List Txt, joinT [] xs = xs.flatten
  | [] => rfl
  | [x] => by simp [joinT]
  | x :: y :: r => by
    rw [joinT, joinT_nil (y :: r)]
    simp
theorem lenSum_nil : lenSum [] = 0 := rfl
theorem lenSum_cons (x : Txt) (xs : List Txt) : lenSum (x :: xs) = x.length + lenSum xs := by simp [lenSum]
theorem lenSum_app (xs ys : List Txt) : lenSum (xs ++ ys) = lenSum xs + lenSum ys := by simp [lenSum]
theorem lenSum_perm {xs ys : List Txt} (h : xs.Perm ys) : lenSum xs = lenSum ys := (h.map _).sum_nat
theorem lenSum_flat (xs : List Txt) : lenSum xs = xs.flatten.length := by simp [lenSum, List.length_flatten]
theorem lenSum_chars (x : Txt) : lenSum (x.map fun c => [c]) = x.length := by
  induction x with
  | nil => rfl
  | cons a x ih => rw [List.map_cons, lenSum_cons, ih, List.length_cons, List.length_cons, List.length_nil]; omega
theorem flat_chars (x : Txt) : (x.map fun c => [c]).flatten = x := by
  induction x with
  | nil => rfl
  | cons a x ih => simp [ih]
/-! sorted -/
theorem srt_perm {α : Type} [DecidableEq α] [DatumOrd α] (xs : List α) : (srt xs).Perm xs := List.mergeSort_perm _ _
theorem srt_len {α : Type} [DecidableEq α] [DatumOrd α] (xs : List α) : (srt xs).length = xs.length := (srt_perm xs).length_eq
theorem srt_mem {α : Type} [DecidableEq α] [DatumOrd α] {xs : List α} {x : α} : x ∈ srt xs ↔ x ∈ xs := (srt_perm xs).mem_iff
/-- a strict order that tells any two apart -/
class Lin (α : Type) [DecidableEq α] [DatumOrd α] : Prop where
  irr : ∀ a : α, DatumOrd.lt a a = false
  tr : ∀ a b c : α, DatumOrd.lt a b = true → DatumOrd.lt b c = true → DatumOrd.lt a c = true
  tot : ∀ a b : α, DatumOrd.lt a b = false → DatumOrd.lt b a = false → a = b
instance : Lin Int := ⟨fun a => decide_eq_false (Int.lt_irrefl a), fun a b c h1 h2 => decide_eq_true (Int.lt_trans (of_decide_eq_true h1) (of_decide_eq_true h2)), fun a b h1 h2 => by
  have h1 := of_decide_eq_false h1
  have h2 := of_decide_eq_false h2
  omega⟩
instance : Lin (List Nat) := ⟨fun a => decide_eq_false (List.lt_irrefl a), fun a b c h1 h2 => decide_eq_true (List.lt_trans (of_decide_eq_true h1) (of_decide_eq_true h2)), fun a b h1 h2 =>
  List.le_antisymm (List.not_lt.mp (of_decide_eq_false h2)) (List.not_lt.mp (of_decide_eq_false h1))⟩
instance {α β : Type} [DecidableEq α] [DecidableEq β] [DatumOrd α] [DatumOrd β] [Lin α] [Lin β] : Lin (α × β) where
  irr a := by show (if a.1 = a.1 then _ else _) = false; rw [if_pos rfl]; exact Lin.irr _
  tr a b c h1 h2 := by
    have h1 : (if a.1 = b.1 then DatumOrd.lt a.2 b.2 else DatumOrd.lt a.1 b.1) = true := h1
    have h2 : (if b.1 = c.1 then DatumOrd.lt b.2 c.2 else DatumOrd.lt b.1 c.1) = true := h2
    show (if a.1 = c.1 then DatumOrd.lt a.2 c.2 else DatumOrd.lt a.1 c.1) = true
    by_cases e1 : a.1 = b.1
    · rw [if_pos e1] at h1
      by_cases e2 : b.1 = c.1
      · rw [if_pos e2] at h2; rw [if_pos (e1.trans e2)]; exact Lin.tr _ _ _ h1 h2
      · rw [if_neg e2] at h2; rw [if_neg (fun e => e2 (e1.symm.trans e)), e1]; exact h2
    · rw [if_neg e1] at h1
      by_cases e2 : b.1 = c.1
      · rw [if_neg (fun e => e1 (e.trans e2.symm)), ← e2]; exact h1
      · rw [if_neg e2] at h2
        have h3 := Lin.tr _ _ _ h1 h2
        by_cases e3 : a.1 = c.1
        · rw [e3, Lin.irr] at h3; cases h3
        · rw [if_neg e3]; exact h3
  tot a b h1 h2 := by
    have h1 : (if a.1 = b.1 then DatumOrd.lt a.2 b.2 else DatumOrd.lt a.1 b.1) = false := h1
    have h2 : (if b.1 = a.1 then DatumOrd.lt b.2 a.2 else DatumOrd.lt b.1 a.1) = false := h2
    by_cases e1 : a.1 = b.1
    · rw [if_pos e1] at h1
      rw [if_pos e1.symm] at h2
      exact Prod.ext e1 (Lin.tot _ _ h1 h2)
    · rw [if_neg e1] at h1
      rw [if_neg (Ne.symm e1)] at h2
      exact absurd (Lin.tot _ _ h1 h2) e1
section
variable {α : Type} [DecidableEq α] [DatumOrd α] [Lin α]
theorem Lin.asym {a b : α} (h : DatumOrd.lt a b = true) : DatumOrd.lt b a = false := by
  cases e : DatumOrd.lt b a with
  | false => rfl
  | true => have := Lin.tr _ _ _ h e; rw [Lin.irr] at this; cases this
theorem Lin.le_tr {a b c : α} (h1 : DatumOrd.lt b a = false) (h2 : DatumOrd.lt c b = false) : DatumOrd.lt c a = false := by
  cases e : DatumOrd.lt c a with
  | false => rfl
  | true =>
    cases e2 : DatumOrd.lt a b with
    | true => rw [Lin.tr _ _ _ e e2] at h2; cases h2
    | false => rw [Lin.tot _ _ e2 h1] at e; rw [e] at h2; cases h2
theorem srt_sorted (xs : List α) : (srt xs).Pairwise fun a b => DatumOrd.lt b a = false := by
  have h := List.pairwise_mergeSort (le := fun a b : α => !DatumOrd.lt b a) (fun a b c h1 h2 => by
    rw [Bool.not_eq_true'] at h1 h2 ⊢
    exact Lin.le_tr h1 h2) (fun a b => by
    cases e : DatumOrd.lt b a with
    | false => rfl
    | true => rw [Lin.asym e]; rfl) xs
  exact h.imp fun h => by rwa [Bool.not_eq_true'] at h
theorem sorted_eq {xs ys : List α} (h1 : xs.Pairwise fun a b => DatumOrd.lt b a = false) (h2 : ys.Pairwise fun a b => DatumOrd.lt b a = false) (p : xs.Perm ys) : xs = ys :=
  List.Perm.eq_of_pairwise (fun a b _ _ x y => Lin.tot a b y x) h1 h2 p
theorem srt_congr {xs ys : List α} (p : xs.Perm ys) : srt xs = srt ys := sorted_eq (srt_sorted _) (srt_sorted _) ((srt_perm xs).trans (p.trans (srt_perm ys).symm))
theorem srt_of {xs ys : List α} (h : ys.Pairwise fun a b => DatumOrd.lt b a = false) (p : xs.Perm ys) : srt xs = ys := sorted_eq (srt_sorted _) h ((srt_perm xs).trans p)
theorem minOf_mem : ∀ (xs : List α) (x : α), PySem.W.minOf x xs = x ∨ PySem.W.minOf x xs ∈ xs
  | [], x => .inl rfl
  | y :: xs, x => by
    show PySem.W.minOf (if DatumOrd.lt y x = true then y else x) xs = x ∨ _
    rcases minOf_mem xs (if DatumOrd.lt y x = true then y else x) with h | h
    · by_cases e : DatumOrd.lt y x = true
      · rw [if_pos e] at h; exact .inr (by show PySem.W.minOf (if DatumOrd.lt y x = true then y else x) xs ∈ _; rw [if_pos e, h]; exact List.mem_cons_self ..)
      · rw [if_neg e] at h; exact .inl (by rw [if_neg e, h])
    · exact .inr (List.mem_cons_of_mem _ h)
theorem minOf_le : ∀ (xs : List α) (x : α), DatumOrd.lt x (PySem.W.minOf x xs) = false ∧ ∀ y ∈ xs, DatumOrd.lt y (PySem.W.minOf x xs) = false
  | [], x => ⟨Lin.irr x, fun y h => by cases h⟩
  | z :: xs, x => by
    have ih := minOf_le xs (if DatumOrd.lt z x = true then z else x)
    show DatumOrd.lt x (PySem.W.minOf (if DatumOrd.lt z x = true then z else x) xs) = false ∧ _
    have e0 : PySem.W.minOf x (z :: xs) = PySem.W.minOf (if DatumOrd.lt z x = true then z else x) xs := rfl
    rw [e0]
    have hx : DatumOrd.lt x (if DatumOrd.lt z x = true then z else x) = false := by
      by_cases e : DatumOrd.lt z x = true
      · rw [if_pos e]; exact Lin.asym e
      · rw [if_neg e]; exact Lin.irr x
    have hz : DatumOrd.lt z (if DatumOrd.lt z x = true then z else x) = false := by
      by_cases e : DatumOrd.lt z x = true
      · rw [if_pos e]; exact Lin.irr z
      · rw [if_neg e]; exact Bool.eq_false_iff.mpr e
    refine ⟨Lin.le_tr ih.1 hx, fun y hy => ?_⟩
    rcases List.mem_cons.mp hy with rfl | hy
    · exact Lin.le_tr ih.1 hz
    · exact ih.2 y hy
theorem minL_mem [Inhabited α] {xs : List α} (h : xs ≠ []) : minL xs ∈ xs := by
  cases xs with
  | nil => exact absurd rfl h
  | cons x r =>
    rcases minOf_mem r x with e | e
    · show PySem.W.minOf x r ∈ _; rw [e]; exact List.mem_cons_self ..
    · exact List.mem_cons_of_mem _ e
theorem minL_le [Inhabited α] {xs : List α} {y : α} (h : y ∈ xs) : DatumOrd.lt y (minL xs) = false := by
  cases xs with
  | nil => cases h
  | cons x r =>
    rcases List.mem_cons.mp h with rfl | h
    · exact (minOf_le r _).1
    · exact (minOf_le r x).2 y h
end
theorem erL_cons {α : Type} [DecidableEq α] (a : α) (xs : List α) (x : α) : erL (a :: xs) x = if a = x then xs else a :: erL xs x := by
  unfold erL
  rw [List.erase_cons]
  by_cases e : a = x <;> simp [e]
theorem erL_nil {α : Type} [DecidableEq α] (x : α) : erL ([] : List α) x = [] := rfl
theorem snocInd {α : Type} {P : List α → Prop} (h0 : P []) (hs : ∀ l x, P l → P (l ++ [x])) (l : List α) : P l := by
  have h : ∀ m : List α, P m.reverse := fun m => by
    induction m with
    | nil => exact h0
    | cons a m ih => rw [List.reverse_cons]; exact hs _ _ ih
  have := h l.reverse
  rwa [List.reverse_reverse] at this
/-! dicts -/
section
variable {κ ν : Type} [DecidableEq κ]
theorem dval_nil (k : κ) : dval ([] : List (κ × ν)) k = none := rfl
theorem dval_cons (p : κ × ν) (d : List (κ × ν)) (k : κ) : dval (p :: d) k = if p.1 = k then some p.2 else dval d k := by
  unfold dval
  rw [List.find?_cons]
  by_cases h : p.1 = k
  · simp [h]
  · simp [h]
theorem dval_mem {d : List (κ × ν)} {k : κ} {v : ν} (h : dval d k = some v) : (k, v) ∈ d := by
  induction d with
  | nil => cases h
  | cons p d ih =>
    rw [dval_cons] at h
    by_cases e : p.1 = k
    · rw [if_pos e] at h; cases h; subst e; exact List.mem_cons_self ..
    · rw [if_neg e] at h; exact List.mem_cons_of_mem _ (ih h)
theorem dhas_iff {d : List (κ × ν)} {k : κ} : dhas d k = true ↔ k ∈ d.map (·.1) := by
  unfold dhas
  induction d with
  | nil => simp [dval_nil]
  | cons p d ih =>
    rw [dval_cons]
    by_cases e : p.1 = k
    · simp [e]
    · rw [if_neg e, ih, List.map_cons, List.mem_cons]
      constructor
      · exact .inr
      · rintro (h | h)
        · exact absurd h.symm e
        · exact h
theorem dput_new {d : List (κ × ν)} {k : κ} {v : ν} (h : k ∉ d.map (·.1)) : dput d k v = d ++ [(k, v)] := by
  unfold dput
  rw [if_neg]
  intro hh
  obtain ⟨p, hp, e⟩ := List.any_eq_true.mp hh
  exact h (of_decide_eq_true e ▸ List.mem_map_of_mem hp)
theorem dput_len {d : List (κ × ν)} {k : κ} {v : ν} : (dput d k v).length ≤ d.length + 1 := by
  unfold dput
  by_cases h : (d.any fun kv => decide (kv.1 = k)) = true
  · rw [if_pos h, List.length_map]; omega
  · rw [if_neg h]; simp
theorem dval_map (d : List (κ × ν)) (k : κ) (v : ν) (j : κ) : dval (d.map fun kv => if kv.1 = k then (kv.1, v) else kv) j = if k = j then (dval d j).map (fun _ => v) else dval d j := by
  induction d with
  | nil => simp [dval_nil]
  | cons p d ih =>
    rw [List.map_cons, dval_cons, dval_cons, ih]
    by_cases e : p.1 = k
    · simp only [e, if_true]
      by_cases ej : k = j <;> simp [ej]
    · simp only [e, if_false]
      by_cases ej : k = j
      · subst ej; simp [e]
      · simp [ej]
theorem dval_app (d e : List (κ × ν)) (j : κ) : dval (d ++ e) j = (dval d j).or (dval e j) := by
  induction d with
  | nil => simp [dval_nil]
  | cons p d ih =>
    rw [List.cons_append, dval_cons, dval_cons, ih]
    by_cases h : p.1 = j <;> simp [h]
theorem dval_none {d : List (κ × ν)} {k : κ} : dval d k = none ↔ k ∉ d.map (·.1) := by
  rw [← dhas_iff, dhas]
  cases dval d k <;> simp
theorem any_key {d : List (κ × ν)} {k : κ} : (d.any fun kv => decide (kv.1 = k)) = true ↔ k ∈ d.map (·.1) := by
  simp [List.any_eq_true]
theorem dval_put (d : List (κ × ν)) (k : κ) (v : ν) (j : κ) : dval (dput d k v) j = if k = j then some v else dval d j := by
  unfold dput
  by_cases h : (d.any fun kv => decide (kv.1 = k)) = true
  · rw [if_pos h, dval_map]
    by_cases ej : k = j
    · subst ej
      have : dval d k ≠ none := fun e => dval_none.mp e (any_key.mp h)
      cases hd : dval d k with
      | none => exact absurd hd this
      | some _ => simp
    · simp [ej]
  · rw [if_neg h, dval_app]
    have hn : dval d k = none := dval_none.mpr fun m => h (any_key.mpr m)
    by_cases ej : k = j
    · subst ej
      rw [hn]
      simp [dval_cons]
    · rw [dval_cons, if_neg ej, if_neg ej, dval_nil]
      cases dval d j <;> rfl
theorem dput_keys (d : List (κ × ν)) (k : κ) (v : ν) : (dput d k v).map (·.1) = if k ∈ d.map (·.1) then d.map (·.1) else d.map (·.1) ++ [k] := by
  unfold dput
  by_cases h : (d.any fun kv => decide (kv.1 = k)) = true
  · rw [if_pos h, if_pos (any_key.mp h), List.map_map]
    apply List.map_congr_left
    intro p _
    show (if p.1 = k then (p.1, v) else p).1 = p.1
    by_cases e : p.1 = k <;> simp [e]
  · rw [if_neg h, if_neg fun m => h (any_key.mpr m), List.map_append]
    rfl
theorem dmerge_cons (d : List (κ × ν)) (p : κ × ν) (r : List (κ × ν)) : dmerge d (p :: r) = dmerge (dput d p.1 p.2) r := rfl
theorem dmerge_new : ∀ (m d : List (κ × ν)), (d.map (·.1) ++ m.map (·.1)).Nodup → dmerge d m = d ++ m
  | [], d, _ => by simp [dmerge]
  | p :: m, d, h => by
    rw [dmerge_cons]
    have hn : p.1 ∉ d.map (·.1) := fun hm => by
      have := List.nodup_append.mp h
      exact this.2.2 _ hm _ (List.mem_cons_self ..) rfl
    rw [dput_new hn, dmerge_new m (d ++ [(p.1, p.2)]) (by simpa [List.map_append, List.append_assoc] using h)]
    simp
end
end Sp
set_option maxHeartbeats 4000000
/-! Sp: plain words about texts, pieces, places. -/
namespace Sp
open PySem L2
open PySem.W (DatumOrd)
abbrev sg (x : Txt) : List Txt := x.map fun c => [c]
theorem sg_mem {x : Txt} {c : Nat} : [c] ∈ sg x ↔ c ∈ x := by simp [sg]
theorem sg_mem' {x : Txt} {y : Txt} : y ∈ sg x ↔ ∃ c ∈ x, y = [c] := by simp [sg, eq_comm]
theorem sg_len (x : Txt) : (sg x).length = x.length := by simp [sg]
theorem sg_app (x y : Txt) : sg (x ++ y) = sg x ++ sg y := List.map_append ..
theorem sg_inj {x y : Txt} (h : sg x = sg y) : x = y := by
  have h3 := congrArg List.flatten h
  rwa [flat_chars, flat_chars] at h3
theorem sg_rev (x : Txt) : sg x.reverse = (sg x).reverse := List.map_reverse ..
theorem join_sg (x : Txt) : joinT [] (sg x) = x := by rw [joinT_nil, flat_chars]
theorem pre_sg {l r : List Txt} {x : Txt} {w : Txt} (e : sg w = l ++ x :: r) : ∃ (l' : Txt) (c : Nat) (r' : Txt), w = l' ++ c :: r' ∧ l = sg l' ∧ x = [c] ∧ r = sg r' := by
  obtain ⟨a, b, e1, e2, e3⟩ := List.map_eq_append_iff.mp e
  obtain ⟨c, r', e4, e5, e6⟩ := List.map_eq_cons_iff.mp e3
  exact ⟨a, c, r', by rw [e1, e4], e2.symm, e5.symm, e6.symm⟩
/-- loops over a text, told by its signs -/
theorem forT {Z : Type} {w : Txt} {z0 : Z} {body : Txt → Z → (Z → Prop) → Prop} {rest : Z → Prop} (P : Txt → Z → Prop) (h0 : P [] z0) (hs : ∀ l c r z, w = l ++ c :: r → P l z → ∀ k : Z → Prop, (∀ z', P (l ++ [c]) z' → k z') → body [c] z k) (he : ∀ z, P w z → rest z) : forW (sg w) z0 body rest := by
  refine forW.inv (fun l z => ∃ l', l = sg l' ∧ P l' z) ⟨[], rfl, h0⟩ (fun l x r z e ⟨l1, e1, hp⟩ => ?_) (fun z ⟨l', e, hp⟩ => ?_)
  · obtain ⟨l', c, r', ew, el, ex, er⟩ := pre_sg e
    have : l1 = l' := sg_inj (e1.symm.trans el)
    subst this ex
    exact hs l1 c r' z ew hp _ fun z' hz => ⟨l1 ++ [c], by rw [el]; simp [sg], hz⟩
  · have h3 := sg_inj e
    subst h3
    exact he z hp
theorem flat_one {ls : Txt} : ∀ {ys : List Txt}, (∀ y ∈ ys, ∃ c ∈ ls, y = [c]) → lenSum ys = ys.length ∧ ys.flatten.length = ys.length ∧ ∀ c ∈ ys.flatten, c ∈ ls
  | [], _ => ⟨rfl, rfl, fun c h => by simp at h⟩
  | y :: ys, h => by
    obtain ⟨c, hc, e⟩ := h y (List.mem_cons_self ..)
    obtain ⟨h1, h2, h3⟩ := flat_one (ys := ys) fun z hz => h z (List.mem_cons_of_mem _ hz)
    subst e
    refine ⟨by rw [lenSum_cons, h1, List.length_cons, List.length_cons, List.length_nil]; omega, by rw [List.flatten_cons, List.length_append, h2, List.length_cons, List.length_cons, List.length_nil]; omega, fun d hd => ?_⟩
    rw [List.flatten_cons, List.mem_append] at hd
    rcases hd with hd | hd
    · rw [List.mem_singleton.mp hd]; exact hc
    · exact h3 d hd
/-! places, pieces -/
abbrev rng (n : Nat) : List Int := (List.range n).map fun i : Nat => (i : Int)
theorem rng_mem {n : Nat} {x : Int} : x ∈ rng n ↔ 0 ≤ x ∧ x < n := by
  simp only [rng, List.mem_map, List.mem_range]
  exact ⟨fun ⟨a, h1, h2⟩ => by omega, fun ⟨h1, h2⟩ => ⟨x.toNat, by omega, by omega⟩⟩
theorem rng_len (n : Nat) : (rng n).length = n := by simp [rng]
theorem tn (n : Nat) : ((n : Int)).toNat = n := Int.toNat_natCast n
theorem plc_nat (n k : Nat) : plc n (k : Int) = k := by
  unfold plc
  rw [if_pos (by omega), Int.toNat_natCast]
theorem ixS_nat {x : Txt} {k : Nat} (h : k < x.length) : ixS x (k : Int) = [x[k]] := by
  unfold ixS
  rw [plc_nat, List.getD_eq_getElem?_getD, List.getElem?_eq_getElem h]
  rfl
theorem ixD_nat {α : Type} [Inhabited α] {x : List α} {k : Nat} (h : k < x.length) : ixD x (k : Int) = x[k] := by
  unfold ixD
  rw [plc_nat, List.getD_eq_getElem?_getD, List.getElem?_eq_getElem h]
  rfl
theorem cut_to {α : Type} (x : List α) (k : Nat) : cutD x none (some (k : Int)) = x.take k := by
  unfold cutD
  rw [HT.sIx_nat, HT.sIx_none, List.drop_zero, Nat.sub_zero]
  by_cases h : k ≤ x.length
  · rw [Nat.min_eq_left h]
  · rw [Nat.min_eq_right (by omega), List.take_of_length_le (Nat.le_refl _), List.take_of_length_le (by omega)]
theorem cut_from {α : Type} (x : List α) (k : Nat) : cutD x (some (k : Int)) none = x.drop k := by
  unfold cutD
  rw [HT.sIx_nat, HT.sIx_none]
  by_cases h : k ≤ x.length
  · rw [Nat.min_eq_left h, List.take_of_length_le (by rw [List.length_drop]; omega)]
  · rw [Nat.min_eq_right (by omega), Nat.sub_self, List.take_zero, List.drop_eq_nil_of_le (by omega)]
theorem cut_mid {α : Type} (x : List α) (i j : Nat) : cutD x (some (i : Int)) (some (j : Int)) = (x.drop i).take (j - i) := by
  unfold cutD
  rw [HT.sIx_nat, HT.sIx_nat]
  by_cases h : i ≤ x.length
  · rw [Nat.min_eq_left h]
    by_cases h2 : j ≤ x.length
    · rw [Nat.min_eq_left h2]
    · rw [Nat.min_eq_right (by omega), List.take_of_length_le (by rw [List.length_drop]; omega), List.take_of_length_le (by rw [List.length_drop]; omega)]
  · rw [Nat.min_eq_right (show x.length ≤ i by omega), List.drop_eq_nil_of_le (Nat.le_refl _), List.drop_eq_nil_of_le (by omega), List.take_nil, List.take_nil]
theorem rng_map_ixS (x : Txt) : (rng x.length).map (fun k => ixS x k) = sg x := by
  apply List.ext_getElem
  · simp [rng]
  · intro i h1 h2
    simp only [List.length_map, List.length_range] at h1
    have h3 : i < x.length := by simpa [rng] using h1
    simp only [rng, sg, List.getElem_map, List.getElem_range]
    exact ixS_nat h3
theorem nodup_len {α : Type} [DecidableEq α] : ∀ (ls xs : List α), xs.Nodup → (∀ x ∈ xs, x ∈ ls) → xs.length ≤ ls.length
  | [], xs, _, h => by
    cases xs with
    | nil => exact Nat.le_refl _
    | cons a r => exact absurd (h a List.mem_cons_self) (by simp)
  | l :: ls, xs, hn, h => by
    have h1 := nodup_len ls (xs.erase l) (hn.erase l) (fun x hx => by
      have h2 := h x (List.mem_of_mem_erase hx)
      rcases List.mem_cons.mp h2 with e | h3
      · subst e; exact absurd rfl ((List.Nodup.mem_erase_iff hn).mp hx).1
      · exact h3)
    rw [List.length_cons]
    by_cases hl : l ∈ xs
    · rw [List.length_erase_of_mem hl] at h1; omega
    · rw [List.erase_of_not_mem hl] at h1; omega
/-! text in text -/
theorem tin_iff {x y : Txt} : tin x y = true ↔ x <:+: y := by
  unfold tin
  have hl : y.length = (toStr y).length := (toStr_len y).symm
  rw [hl, StrLaws.found_iff]
  constructor
  · rintro ⟨i, h1, h2⟩
    rw [StrLaws.subAt_eq] at h2
    have h3 : (y.drop i).take x.length = x := by
      have := beq_iff_eq.mp h2
      rw [toStr_len] at this
      simpa [toStr] using this
    refine ⟨y.take i, (y.drop i).drop x.length, ?_⟩
    conv => rhs; rw [← List.take_append_drop i y]
    rw [List.append_assoc]
    congr 1
    conv => rhs; rw [← List.take_append_drop x.length (y.drop i)]
    rw [h3]
  · rintro ⟨a, b, rfl⟩
    refine ⟨a.length, ?_, ?_⟩
    · rw [toStr_len, toStr_len]; simp
    · rw [StrLaws.subAt_eq, toStr_len]
      apply beq_iff_eq.mpr
      simp [toStr]
theorem tin_one (c : Nat) (y : Txt) : tin [c] y = decide (c ∈ y) := by
  rw [Bool.eq_iff_iff, tin_iff, decide_eq_true_eq]
  constructor
  · rintro ⟨a, b, rfl⟩; simp
  · intro h
    obtain ⟨a, b, rfl⟩ := List.append_of_mem h
    exact ⟨a, b, by simp⟩
/-! the greatest -/
section
variable {α : Type} [DecidableEq α] [DatumOrd α] [Lin α]
theorem maxOf_mem : ∀ (xs : List α) (x : α), PySem.W.maxOf x xs = x ∨ PySem.W.maxOf x xs ∈ xs
  | [], x => .inl rfl
  | y :: xs, x => by
    have e0 : PySem.W.maxOf x (y :: xs) = PySem.W.maxOf (if DatumOrd.lt x y = true then y else x) xs := rfl
    rw [e0]
    rcases maxOf_mem xs (if DatumOrd.lt x y = true then y else x) with h | h
    · by_cases e : DatumOrd.lt x y = true
      · rw [if_pos e] at h ⊢; exact .inr (by rw [h]; exact List.mem_cons_self ..)
      · rw [if_neg e] at h ⊢; exact .inl h
    · exact .inr (List.mem_cons_of_mem _ h)
theorem maxOf_le : ∀ (xs : List α) (x : α), DatumOrd.lt (PySem.W.maxOf x xs) x = false ∧ ∀ y ∈ xs, DatumOrd.lt (PySem.W.maxOf x xs) y = false
  | [], x => ⟨Lin.irr x, fun y h => by cases h⟩
  | z :: xs, x => by
    have e0 : PySem.W.maxOf x (z :: xs) = PySem.W.maxOf (if DatumOrd.lt x z = true then z else x) xs := rfl
    rw [e0]
    have ih := maxOf_le xs (if DatumOrd.lt x z = true then z else x)
    have hx : DatumOrd.lt (if DatumOrd.lt x z = true then z else x) x = false := by
      by_cases e : DatumOrd.lt x z = true
      · rw [if_pos e]; exact Lin.asym e
      · rw [if_neg e]; exact Lin.irr x
    have hz : DatumOrd.lt (if DatumOrd.lt x z = true then z else x) z = false := by
      by_cases e : DatumOrd.lt x z = true
      · rw [if_pos e]; exact Lin.irr z
      · rw [if_neg e]; simpa using e
    refine ⟨Lin.le_tr hx ih.1, fun y hy => ?_⟩
    rcases List.mem_cons.mp hy with rfl | hy
    · exact Lin.le_tr hz ih.1
    · exact ih.2 y hy
theorem maxL_mem [Inhabited α] {xs : List α} (h : xs ≠ []) : maxL xs ∈ xs := by
  cases xs with
  | nil => exact absurd rfl h
  | cons x r =>
    rcases maxOf_mem r x with e | e
    · show PySem.W.maxOf x r ∈ _; rw [e]; exact List.mem_cons_self ..
    · exact List.mem_cons_of_mem _ e
theorem maxL_le [Inhabited α] {xs : List α} {y : α} (h : y ∈ xs) : DatumOrd.lt (maxL xs) y = false := by
  cases xs with
  | nil => cases h
  | cons x r =>
    rcases List.mem_cons.mp h with rfl | h
    · exact (maxOf_le r y).1
    · exact (maxOf_le r x).2 y h
end
theorem maxI {xs : List Int} (h : xs ≠ []) : maxL xs ∈ xs ∧ ∀ y ∈ xs, y ≤ maxL xs := ⟨maxL_mem h, fun y hy => by
  have := of_decide_eq_false (maxL_le hy : decide (maxL xs < y) = false)
  omega⟩
theorem maxI_of {xs : List Int} {m : Int} (h : m ∈ xs) (k : ∀ y ∈ xs, y ≤ m) : maxL xs = m := by
  have hn : xs ≠ [] := fun e => by rw [e] at h; cases h
  have := (maxI hn).2 m h
  have := k _ (maxI hn).1
  omega
/-! lists by order -/
section
variable {α : Type} [DecidableEq α] [DatumOrd α] [Lin α]
theorem llt_irr : ∀ a : List α, PySem.W.listLt a a = false
  | [] => rfl
  | x :: a => by rw [PySem.W.listLt, if_pos rfl, llt_irr a]
theorem llt_tr : ∀ a b c : List α, PySem.W.listLt a b = true → PySem.W.listLt b c = true → PySem.W.listLt a c = true
  | [], [], c, h, _ => by cases h
  | [], _ :: _, [], _, h => by cases h
  | [], _ :: _, _ :: _, _, _ => rfl
  | _ :: _, [], _, h, _ => by cases h
  | _ :: _, _ :: _, [], _, h => by cases h
  | x :: a, y :: b, z :: c, h1, h2 => by
    rw [PySem.W.listLt] at h1 h2 ⊢
    by_cases e1 : x = y
    · rw [if_pos e1] at h1
      by_cases e2 : y = z
      · rw [if_pos e2] at h2; rw [if_pos (e1.trans e2)]; exact llt_tr a b c h1 h2
      · rw [if_neg e2] at h2; rw [if_neg (fun e => e2 (e1.symm.trans e)), e1]; exact h2
    · rw [if_neg e1] at h1
      by_cases e2 : y = z
      · rw [if_neg (fun e => e1 (e.trans e2.symm)), ← e2]; exact h1
      · rw [if_neg e2] at h2
        have h3 := Lin.tr _ _ _ h1 h2
        by_cases e3 : x = z
        · rw [e3, Lin.irr] at h3; cases h3
        · rw [if_neg e3]; exact h3
theorem llt_tot : ∀ a b : List α, PySem.W.listLt a b = false → PySem.W.listLt b a = false → a = b
  | [], [], _, _ => rfl
  | [], _ :: _, h, _ => by cases h
  | _ :: _, [], _, h => by cases h
  | x :: a, y :: b, h1, h2 => by
    rw [PySem.W.listLt] at h1 h2
    by_cases e : x = y
    · rw [if_pos e] at h1
      rw [if_pos e.symm] at h2
      rw [e, llt_tot a b h1 h2]
    · rw [if_neg e] at h1
      rw [if_neg (fun q => e q.symm)] at h2
      exact absurd (Lin.tot _ _ h1 h2) e
instance : Lin (List α) := ⟨llt_irr, llt_tr, llt_tot⟩
theorem Lin.lt_of {a b : α} (h : DatumOrd.lt b a = false) (hn : a ≠ b) : DatumOrd.lt a b = true := by
  cases h2 : DatumOrd.lt a b with
  | true => rfl
  | false => exact absurd (Lin.tot _ _ h2 h) hn
end
theorem lt_sg : ∀ a b : Txt, DatumOrd.lt (sg a) (sg b) = DatumOrd.lt a b
  | [], [] => rfl
  | [], _ :: _ => by
    show true = decide (_ < _)
    simp
  | _ :: _, [] => by
    show false = decide (_ < _)
    simp
  | x :: a, y :: b => by
    have ih := lt_sg a b
    have ih : PySem.W.listLt (sg a) (sg b) = decide (a < b) := ih
    show PySem.W.listLt ([x] :: sg a) ([y] :: sg b) = decide (x :: a < y :: b)
    rw [PySem.W.listLt, ih]
    by_cases e : x = y
    · subst e
      rw [if_pos rfl]
      simp [List.cons_lt_cons_iff]
    · rw [if_neg (by simpa using e)]
      show decide ([x] < [y]) = _
      simp [List.cons_lt_cons_iff, e]
/-! once each, in the order of the first -/
def uq {α : Type} [DecidableEq α] (l : List α) : List α := l.foldl (fun ks x => if x ∈ ks then ks else ks ++ [x]) []
section
variable {α : Type} [DecidableEq α]
theorem uq_snoc (l : List α) (x : α) : uq (l ++ [x]) = if x ∈ uq l then uq l else uq l ++ [x] := by unfold uq; rw [List.foldl_append]; rfl
theorem uq_mem : ∀ (l : List α) (x : α), x ∈ uq l ↔ x ∈ l := by
  refine snocInd ?_ ?_
  · intro x; simp [uq]
  · intro l y ih x
    rw [uq_snoc]
    by_cases h : y ∈ uq l
    · rw [if_pos h, ih, List.mem_append, List.mem_singleton]
      exact ⟨.inl, fun q => q.elim id fun e => by rw [e, ← ih]; exact h⟩
    · rw [if_neg h, List.mem_append, ih, List.mem_append]
theorem uq_nodup : ∀ l : List α, (uq l).Nodup := by
  refine snocInd ?_ ?_
  · exact List.nodup_nil
  · intro l x ih
    rw [uq_snoc]
    by_cases hx : x ∈ uq l
    · rw [if_pos hx]; exact ih
    · rw [if_neg hx, List.nodup_append]
      exact ⟨ih, by simp, fun a ha b hb e => by rw [List.mem_singleton.mp hb] at e; exact hx (e ▸ ha)⟩
theorem uq_sub : ∀ l : List α, (uq l).Sublist l := by
  refine snocInd ?_ ?_
  · exact List.Sublist.refl _
  · intro l x ih
    rw [uq_snoc]
    by_cases hx : x ∈ uq l
    · rw [if_pos hx]; exact ih.trans (List.sublist_append_left _ _)
    · rw [if_neg hx]; exact ih.append (List.Sublist.refl _)
theorem rng_succ (n : Nat) : rng (n + 1) = rng n ++ [(n : Int)] := by simp [rng, List.range_succ]
theorem ixD_app [Inhabited α] {l r : List α} {k : Nat} (h : k < l.length) : ixD (l ++ r) (k : Int) = ixD l (k : Int) := by
  rw [ixD_nat h, ixD_nat (by rw [List.length_append]; omega), List.getElem_append_left h]
/-- those that stand nowhere ahead -/
theorem uq_law [Inhabited α] : ∀ l : List α, (((rng l.length).filter fun k => niL (ixD l k) (cutD l none (some k))).map fun k => ixD l k) = uq l := by
  refine snocInd ?_ ?_
  · rfl
  · intro l x ih
    rw [List.length_append, List.length_singleton, rng_succ, List.filter_append, List.map_append]
    have e1 : (((rng l.length).filter fun k => niL (ixD (l ++ [x]) k) (cutD (l ++ [x]) none (some k))).map fun k => ixD (l ++ [x]) k) = uq l := by
      rw [← ih]
      have h1 : ((rng l.length).filter fun k => niL (ixD (l ++ [x]) k) (cutD (l ++ [x]) none (some k))) = ((rng l.length).filter fun k => niL (ixD l k) (cutD l none (some k))) := by
        apply List.filter_congr
        intro k hk
        obtain ⟨h0, h1⟩ := rng_mem.mp hk
        obtain ⟨n, rfl⟩ : ∃ n : Nat, k = (n : Int) := ⟨k.toNat, by omega⟩
        rw [ixD_app (by omega), cut_to, cut_to, List.take_append_of_le_length (by omega)]
      rw [h1]
      apply List.map_congr_left
      intro k hk
      obtain ⟨h0, h1⟩ := rng_mem.mp (List.mem_filter.mp hk).1
      obtain ⟨n, rfl⟩ : ∃ n : Nat, k = (n : Int) := ⟨k.toNat, by omega⟩
      exact ixD_app (by omega)
    have e2 : ixD (l ++ [x]) (l.length : Int) = x := by
      rw [ixD_nat (by rw [List.length_append]; simp)]
      simp
    rw [e1, List.filter_cons, List.filter_nil, e2, cut_to, List.take_left', uq_snoc]
    · by_cases hx : x ∈ l
      · rw [if_pos ((uq_mem l x).mpr hx), if_neg (by rw [niL_iff]; exact fun h => h hx)]
        simp
      · rw [if_neg (fun h => hx ((uq_mem l x).mp h)), if_pos (by rw [niL_iff]; exact hx)]
        simp [e2]
    · rfl
end
end Sp
set_option maxHeartbeats 0
namespace K01
open PySem L2 Sp
def toldT : Ex → Option Txt
  | .BadWord => some (tx "word")
  | .BadRule => some (tx "rule")
  | .BadCount => some (tx "count")
  | .NoSuch => some (tx "no such")
  | .NoWay => some (tx "no way")
  | .TooLarge => some (tx "large")
  | .BadDeed => none
  | .BadText _ => some (tx "text")
  | .BadPaper _ => none
abbrev check_word_w (word1 : Txt) (Q : Unit → Prop) (E : Ex → Prop) : Prop :=
  (word1.length ≤ sizeLine ∧ ((decide ((1 : Int) ≤ (word1.length : Int)) = true → (24 : Int) = (24 : Int)) ∧ (((!(decide ((1 : Int) ≤ (word1.length : Int)) && decide ((word1.length : Int) ≤ (24 : Int)))) = false → ((word1.map fun c => [c]) = (word1.map fun c => [c]) ∧ (∀ x2 ∈ (word1.map fun c => [c]), (!tin x2 (tx "abcdefghijklmnopqrstuvwxyz")) = (!tin x2 (tx "abcdefghijklmnopqrstuvwxyz"))) ∧ ((word1.map fun c => [c]).any (fun (x2 : Txt) => (!tin x2 (tx "abcdefghijklmnopqrstuvwxyz")))) = ((word1.map fun c => [c]).any (fun (x2 : Txt) => (!tin x2 (tx "abcdefghijklmnopqrstuvwxyz")))))) ∧ ((((!(decide ((1 : Int) ≤ (word1.length : Int)) && decide ((word1.length : Int) ≤ (24 : Int)))) || ((word1.map fun c => [c]).any (fun (x2 : Txt) => (!tin x2 (tx "abcdefghijklmnopqrstuvwxyz"))))) = true → E .BadWord) ∧ (((!(decide ((1 : Int) ≤ (word1.length : Int)) && decide ((word1.length : Int) ≤ (24 : Int)))) || ((word1.map fun c => [c]).any (fun (x2 : Txt) => (!tin x2 (tx "abcdefghijklmnopqrstuvwxyz"))))) = false → Q ())))))
abbrev check_word_W (t : Txt × Unit) (Q : Unit → Prop) (E : Ex → Prop) : Prop := check_word_w t.1 Q E

abbrev letters_in_w (word1 : Txt) (Q : (Tup (Txt × Int)) → Prop) (E : Ex → Prop) : Prop :=
  (List.length ((tx "abcdefghijklmnopqrstuvwxyz").map fun c => [c]) ≤ sizeLine ∧ (∀ x2 ∈ ((tx "abcdefghijklmnopqrstuvwxyz").map fun c => [c]), (tin x2 word1) = (tin x2 word1)) ∧ (∀ x2 ∈ ((tx "abcdefghijklmnopqrstuvwxyz").map fun c => [c]), (tin x2 word1) = true → (x2, (cntT word1 x2)) = (x2, (cntT word1 x2))) ∧ Q (PySem.W.Tup.mk ((((tx "abcdefghijklmnopqrstuvwxyz").map fun c => [c]).filter (fun (x2 : Txt) => (tin x2 word1))).map (fun (x2 : Txt) => (x2, (cntT word1 x2))))))
abbrev letters_in_W (t : Txt × Unit) (Q : (Tup (Txt × Int)) → Prop) (E : Ex → Prop) : Prop := letters_in_w t.1 Q E

abbrev sorted_letters_w (word1 : Txt) (Q : Txt → Prop) (E : Ex → Prop) : Prop :=
  (word1.length ≤ sizeLine ∧ (lenSum (srt (word1.map fun c => [c])) + List.length (srt (word1.map fun c => [c])) * List.length (tx "") ≤ 16777216 ∧ Q (joinT (tx "") (srt (word1.map fun c => [c])))))
abbrev sorted_letters_W (t : Txt × Unit) (Q : Txt → Prop) (E : Ex → Prop) : Prop := sorted_letters_w t.1 Q E

abbrev same_letters_w1 (x4 : Txt) (nx7 : ((List (Txt × (List Txt))) → Prop)) (found8 : (List (Txt × (List Txt)))) (E : Ex → Prop) : Prop :=
  (Cl (sorted_letters_W (x4, ())) (fun (r9 : Txt) => (found8.length < sizeLine ∧ ((gval found8 r9).length < sizeLine ∧ nx7 (grp found8 r9 x4)))) E)
abbrev same_letters_w2 (found15 : (List (Txt × (List Txt)))) (Q : (Tup (Tup Txt)) → Prop) : Prop :=
  (List.length (srt ((Dct.mk found15).kvs.map (·.1))) ≤ sizeLine ∧ (∀ x16 ∈ (srt ((Dct.mk found15).kvs.map (·.1))), (dhas (Dct.mk found15).kvs x16 = true ∧ (decide ((1 : Int) < (List.length (dgt (Dct.mk found15).kvs x16) : Int))) = (decide ((1 : Int) < (List.length (dgt (Dct.mk found15).kvs x16) : Int))))) ∧ (∀ x16 ∈ (srt ((Dct.mk found15).kvs.map (·.1))), (decide ((1 : Int) < (List.length (dgt (Dct.mk found15).kvs x16) : Int))) = true → (dhas (Dct.mk found15).kvs x16 = true ∧ (PySem.W.Tup.mk (dgt (Dct.mk found15).kvs x16)) = (PySem.W.Tup.mk (dgt (Dct.mk found15).kvs x16)))) ∧ Q (PySem.W.Tup.mk (((srt ((Dct.mk found15).kvs.map (·.1))).filter (fun (x16 : Txt) => (decide ((1 : Int) < (List.length (dgt (Dct.mk found15).kvs x16) : Int))))).map (fun (x16 : Txt) => (PySem.W.Tup.mk (dgt (Dct.mk found15).kvs x16))))))
abbrev same_letters_w3 (words1 : (List Txt)) (Q : (Tup (Tup Txt)) → Prop) (E : Ex → Prop) : Prop :=
  (words1.length ≤ sizeLine ∧ (∀ x3 ∈ words1, (x3, (1 : Int)) = (x3, (1 : Int))) ∧ (forW (srt ((Dct.mk (dmerge [] (words1.map (fun (x3 : Txt) => (x3, (1 : Int)))))).kvs.map (·.1))) ([] : List (Txt × (List Txt))) (fun (x4 : Txt) (z5 : (List (Txt × (List Txt)))) (nx7 : (List (Txt × (List Txt))) → Prop) => (same_letters_w1 x4 nx7 z5 E)) (fun (z13 : (List (Txt × (List Txt)))) => (same_letters_w2 z13 Q))))
abbrev same_letters_w (words1 : (List Txt)) (Q : (Tup (Tup Txt)) → Prop) (E : Ex → Prop) : Prop :=
  (same_letters_w3 words1 Q E)
abbrev same_letters_W (t : (List Txt) × Unit) (Q : (Tup (Tup Txt)) → Prop) (E : Ex → Prop) : Prop := same_letters_w t.1 Q E

abbrev can_be_made_w1 (nx9 : ((List Txt) × Int → Prop)) (left17 : (List Txt)) (lack18 : Int) : Prop :=
  nx9 (left17, lack18)
abbrev can_be_made_w2 (x6 : Txt) (nx9 : ((List Txt) × Int → Prop)) (left10 : (List Txt)) (lack11 : Int) : Prop :=
  (ifJ ((inL x6 left10)) (fun (nx14 : (List Txt) × Int → Prop) => (x6 ∈ left10 ∧ nx14 ((erL left10 x6), lack11))) (fun (nx14 : (List Txt) × Int → Prop) => nx14 (left10, (lack11 + (1 : Int)))) (fun (z12 : (List Txt) × Int) => (can_be_made_w1 nx9 z12.1 z12.2)))
abbrev can_be_made_w3 (left21 : (List Txt)) (lack22 : Int) (Q : Bool → Prop) : Prop :=
  Q (decide (lack22 ≤ (cnt left21 (tx "?") : Int)))
abbrev can_be_made_w4 (word1 : Txt) (left3 : (List Txt)) (lack5 : Int) (Q : Bool → Prop) : Prop :=
  (forW (word1.map fun c => [c]) (left3, lack5) (fun (x6 : Txt) (z7 : (List Txt) × Int) (nx9 : (List Txt) × Int → Prop) => (can_be_made_w2 x6 nx9 z7.1 z7.2)) (fun (z19 : (List Txt) × Int) => (can_be_made_w3 z19.1 z19.2 Q)))
abbrev can_be_made_w (word1 : Txt) (letters2 : Txt) (Q : Bool → Prop) (E : Ex → Prop) : Prop :=
  (letters2.length ≤ sizeLine ∧ (can_be_made_w4 word1 (letters2.map fun c => [c]) (0 : Int) Q))
abbrev can_be_made_W (t : Txt × Txt × Unit) (Q : Bool → Prop) (E : Ex → Prop) : Prop := can_be_made_w t.1 t.2.1 Q E

abbrev shape_of_w1 (nx7 : ((List Txt) → Prop)) (seen13 : (List Txt)) : Prop :=
  nx7 seen13
abbrev shape_of_w2 (x4 : Txt) (nx7 : ((List Txt) → Prop)) (seen8 : (List Txt)) : Prop :=
  (ifJ ((niL x4 seen8)) (fun (nx11 : (List Txt) → Prop) => (seen8.length < sizeLine ∧ nx11 (seen8 ++ [x4]))) (fun (nx11 : (List Txt) → Prop) => nx11 seen8) (fun (z9 : (List Txt)) => (shape_of_w1 nx7 z9)))
abbrev shape_of_w3 (word1 : Txt) (seen16 : (List Txt)) (Q : Txt → Prop) : Prop :=
  (List.length (word1.map fun c => [c]) ≤ sizeLine ∧ (∀ x17 ∈ (word1.map fun c => [c]), (x17 ∈ seen16 ∧ (List.length (tx "abcdefghijklmnopqrstuvwxyz") ≤ sizeLine ∧ inR (List.length (tx "abcdefghijklmnopqrstuvwxyz")) (idx seen16 x17 : Int) ∧ (ixS (tx "abcdefghijklmnopqrstuvwxyz") (idx seen16 x17 : Int)) = (ixS (tx "abcdefghijklmnopqrstuvwxyz") (idx seen16 x17 : Int))))) ∧ (lenSum ((word1.map fun c => [c]).map (fun (x17 : Txt) => (ixS (tx "abcdefghijklmnopqrstuvwxyz") (idx seen16 x17 : Int)))) + List.length ((word1.map fun c => [c]).map (fun (x17 : Txt) => (ixS (tx "abcdefghijklmnopqrstuvwxyz") (idx seen16 x17 : Int)))) * List.length (tx "") ≤ 16777216 ∧ Q (joinT (tx "") ((word1.map fun c => [c]).map (fun (x17 : Txt) => (ixS (tx "abcdefghijklmnopqrstuvwxyz") (idx seen16 x17 : Int)))))))
abbrev shape_of_w4 (word1 : Txt) (seen2 : (List Txt)) (Q : Txt → Prop) : Prop :=
  (forW (word1.map fun c => [c]) seen2 (fun (x4 : Txt) (z5 : (List Txt)) (nx7 : (List Txt) → Prop) => (shape_of_w2 x4 nx7 z5)) (fun (z14 : (List Txt)) => (shape_of_w3 word1 z14 Q)))
abbrev shape_of_w (word1 : Txt) (Q : Txt → Prop) (E : Ex → Prop) : Prop :=
  (shape_of_w4 word1 ([] : List Txt) Q)
abbrev shape_of_W (t : Txt × Unit) (Q : Txt → Prop) (E : Ex → Prop) : Prop := shape_of_w t.1 Q E

abbrev turned_w (word1 : Txt) (Q : Txt → Prop) (E : Ex → Prop) : Prop :=
  (word1.length ≤ sizeLine ∧ (lenSum (word1.reverse.map fun c => [c]) + List.length (word1.reverse.map fun c => [c]) * List.length (tx "") ≤ 16777216 ∧ Q (joinT (tx "") (word1.reverse.map fun c => [c]))))
abbrev turned_W (t : Txt × Unit) (Q : Txt → Prop) (E : Ex → Prop) : Prop := turned_w t.1 Q E

abbrev is_same_backward_w (word1 : Txt) (Q : Bool → Prop) (E : Ex → Prop) : Prop :=
  (Cl (turned_W (word1, ())) (fun (r2 : Txt) => Q (decide (word1 = r2))) E)
abbrev is_same_backward_W (t : Txt × Unit) (Q : Bool → Prop) (E : Ex → Prop) : Prop := is_same_backward_w t.1 Q E

abbrev longest_backward_w1 (nx11 : (Txt → Prop)) (best19 : Txt) : Prop :=
  nx11 best19
abbrev longest_backward_w2 (nx11 : (Txt → Prop)) (best12 : Txt) (part13 : Txt) (E : Ex → Prop) : Prop :=
  (part13.length ≤ sizeLine ∧ (best12.length ≤ sizeLine ∧ (((decide ((best12.length : Int) < (part13.length : Int))) = true → (Cl (is_same_backward_W (part13, ())) (fun (r14 : Bool) => (ifJ r14 (fun (nx17 : Txt → Prop) => nx17 part13) (fun (nx17 : Txt → Prop) => nx17 best12) (fun (z15 : Txt) => (longest_backward_w1 nx11 z15)))) E)) ∧ ((decide ((best12.length : Int) < (part13.length : Int))) = false → (ifJ false (fun (nx17 : Txt → Prop) => nx17 part13) (fun (nx17 : Txt → Prop) => nx17 best12) (fun (z15 : Txt) => (longest_backward_w1 nx11 z15)))))))
abbrev longest_backward_w3 (word1 : Txt) (x3 : Int) (x8 : Int) (nx11 : (Txt → Prop)) (best12 : Txt) (E : Ex → Prop) : Prop :=
  (word1.length ≤ sizeLine ∧ (longest_backward_w2 nx11 best12 (cutD word1 (some x3) (some x8)) E))
abbrev longest_backward_w4 (nx6 : (Txt → Prop)) (best22 : Txt) : Prop :=
  nx6 best22
abbrev longest_backward_w5 (word1 : Txt) (x3 : Int) (nx6 : (Txt → Prop)) (best7 : Txt) (E : Ex → Prop) : Prop :=
  (word1.length ≤ sizeLine ∧ ((-(2 ^ 62) ≤ (x3 + (1 : Int)) ∧ (x3 + (1 : Int)) < 2 ^ 62 ∧ -(2 ^ 62) ≤ ((word1.length : Int) + (1 : Int)) ∧ ((word1.length : Int) + (1 : Int)) < 2 ^ 62) ∧ (forW ((List.range (((word1.length : Int) + (1 : Int)) - (x3 + (1 : Int))).toNat).map fun i : Nat => (x3 + (1 : Int)) + (i : Int)) best7 (fun (x8 : Int) (z9 : Txt) (nx11 : Txt → Prop) => (longest_backward_w3 word1 x3 x8 nx11 z9 E)) (fun (z20 : Txt) => (longest_backward_w4 nx6 z20)))))
abbrev longest_backward_w6 (best25 : Txt) (Q : Txt → Prop) : Prop :=
  Q best25
abbrev longest_backward_w7 (word1 : Txt) (best2 : Txt) (Q : Txt → Prop) (E : Ex → Prop) : Prop :=
  (word1.length ≤ sizeLine ∧ ((-(2 ^ 62) ≤ (word1.length : Int) ∧ (word1.length : Int) < 2 ^ 62) ∧ (forW ((List.range ((word1.length : Int)).toNat).map fun i : Nat => (i : Int)) best2 (fun (x3 : Int) (z4 : Txt) (nx6 : Txt → Prop) => (longest_backward_w5 word1 x3 nx6 z4 E)) (fun (z23 : Txt) => (longest_backward_w6 z23 Q)))))
abbrev longest_backward_w (word1 : Txt) (Q : Txt → Prop) (E : Ex → Prop) : Prop :=
  (longest_backward_w7 word1 (tx "") Q E)
abbrev longest_backward_W (t : Txt × Unit) (Q : Txt → Prop) (E : Ex → Prop) : Prop := longest_backward_w t.1 Q E

abbrev beats_w (word1 : Txt) (Q : Int → Prop) (E : Ex → Prop) : Prop :=
  ((enumD (word1.map fun c => [c])) = (enumD (word1.map fun c => [c])) ∧ (∀ x2 ∈ (enumD (word1.map fun c => [c])), (((tin x2.2 (tx "aeiou")) = true → (((decide (x2.1 = (0 : Int))) = false → (word1.length ≤ sizeLine ∧ inR word1.length (x2.1 - (1 : Int)) ∧ (!tin (ixS word1 (x2.1 - (1 : Int))) (tx "aeiou")) = (!tin (ixS word1 (x2.1 - (1 : Int))) (tx "aeiou")))) ∧ ((decide (x2.1 = (0 : Int))) || (!tin (ixS word1 (x2.1 - (1 : Int))) (tx "aeiou"))) = ((decide (x2.1 = (0 : Int))) || (!tin (ixS word1 (x2.1 - (1 : Int))) (tx "aeiou"))))) ∧ ((tin x2.2 (tx "aeiou")) && ((decide (x2.1 = (0 : Int))) || (!tin (ixS word1 (x2.1 - (1 : Int))) (tx "aeiou")))) = ((tin x2.2 (tx "aeiou")) && ((decide (x2.1 = (0 : Int))) || (!tin (ixS word1 (x2.1 - (1 : Int))) (tx "aeiou")))))) ∧ (∀ x2 ∈ (enumD (word1.map fun c => [c])), ((tin x2.2 (tx "aeiou")) && ((decide (x2.1 = (0 : Int))) || (!tin (ixS word1 (x2.1 - (1 : Int))) (tx "aeiou")))) = true → (1 : Int) = (1 : Int)) ∧ SumOk (((enumD (word1.map fun c => [c])).filter (fun (x2 : (Int × Txt)) => ((tin x2.2 (tx "aeiou")) && ((decide (x2.1 = (0 : Int))) || (!tin (ixS word1 (x2.1 - (1 : Int))) (tx "aeiou")))))).map (fun (x2 : (Int × Txt)) => (1 : Int))) ∧ Q (max (1 : Int) (((enumD (word1.map fun c => [c])).filter (fun (x2 : (Int × Txt)) => ((tin x2.2 (tx "aeiou")) && ((decide (x2.1 = (0 : Int))) || (!tin (ixS word1 (x2.1 - (1 : Int))) (tx "aeiou")))))).map (fun (x2 : (Int × Txt)) => (1 : Int))).sum))
abbrev beats_W (t : Txt × Unit) (Q : Int → Prop) (E : Ex → Prop) : Prop := beats_w t.1 Q E

abbrev pattern_of_w (word1 : Txt) (Q : Txt → Prop) (E : Ex → Prop) : Prop :=
  (List.length (word1.map fun c => [c]) ≤ sizeLine ∧ (∀ x2 ∈ (word1.map fun c => [c]), (((tin x2 (tx "aeiou")) = true → (tx "v") = (tx "v")) ∧ ((tin x2 (tx "aeiou")) = false → (tx "c") = (tx "c")) ∧ (if (tin x2 (tx "aeiou")) = true then (tx "v") else (tx "c")) = (if (tin x2 (tx "aeiou")) = true then (tx "v") else (tx "c")))) ∧ (lenSum ((word1.map fun c => [c]).map (fun (x2 : Txt) => (if (tin x2 (tx "aeiou")) = true then (tx "v") else (tx "c")))) + List.length ((word1.map fun c => [c]).map (fun (x2 : Txt) => (if (tin x2 (tx "aeiou")) = true then (tx "v") else (tx "c")))) * List.length (tx "") ≤ 16777216 ∧ Q (joinT (tx "") ((word1.map fun c => [c]).map (fun (x2 : Txt) => (if (tin x2 (tx "aeiou")) = true then (tx "v") else (tx "c")))))))
abbrev pattern_of_W (t : Txt × Unit) (Q : Txt → Prop) (E : Ex → Prop) : Prop := pattern_of_w t.1 Q E

abbrev common_start_w1 (nx8 : (Int → Prop)) (k9 : Int) : Prop :=
  nx8 (k9 + (1 : Int))
abbrev common_start_w2 (least3 : Txt) (k14 : Int) (Q : Txt → Prop) : Prop :=
  (least3.length ≤ sizeLine ∧ Q (cutD least3 none (some k14)))
abbrev common_start_w3 (least3 : Txt) (most4 : Txt) (k5 : Int) (Q : Txt → Prop) : Prop :=
  (whileW k5 (fun (z6 : Int) (k10 : Bool → Prop) => (least3.length ≤ sizeLine ∧ (most4.length ≤ sizeLine ∧ (((decide (z6 < (min (least3.length : Int) (most4.length : Int)))) = true → (least3.length ≤ sizeLine ∧ inR least3.length z6 ∧ (most4.length ≤ sizeLine ∧ inR most4.length z6 ∧ (decide ((ixS least3 z6) = (ixS most4 z6))) = (decide ((ixS least3 z6) = (ixS most4 z6)))))) ∧ k10 ((decide (z6 < (min (least3.length : Int) (most4.length : Int)))) && (decide ((ixS least3 z6) = (ixS most4 z6)))))))) (fun (z6 : Int) (nx8 : Int → Prop) => (common_start_w1 nx8 z6)) (fun (z12 : Int) => (common_start_w2 least3 z12 Q)))
abbrev common_start_w4 (words1 : (List Txt)) (Q : Txt → Prop) : Prop :=
  (words1 ≠ [] ∧ (words1 ≠ [] ∧ (common_start_w3 (minL words1) (maxL words1) (0 : Int) Q)))
abbrev common_start_w (words1 : (List Txt)) (Q : Txt → Prop) (E : Ex → Prop) : Prop :=
  (((decide ((words1.length : Int) = (0 : Int))) = true → Q (tx "")) ∧ ((decide ((words1.length : Int) = (0 : Int))) = false → (common_start_w4 words1 Q)))
abbrev common_start_W (t : (List Txt) × Unit) (Q : Txt → Prop) (E : Ex → Prop) : Prop := common_start_w t.1 Q E

abbrev common_end_w (words1 : (List Txt)) (Q : Txt → Prop) (E : Ex → Prop) : Prop :=
  (words1.length ≤ sizeLine ∧ ∃ h4 : Txt → Txt, (∀ x2 ∈ words1, (Cl (turned_W (x2, ())) (fun (r3 : Txt) => r3 = h4 x2) NoE)) ∧ (Cl (common_start_W ((words1.map h4), ())) (fun (r5 : Txt) => (Cl (turned_W (r5, ())) (fun (r6 : Txt) => Q r6) E)) E))
abbrev common_end_W (t : (List Txt) × Unit) (Q : Txt → Prop) (E : Ex → Prop) : Prop := common_end_w t.1 Q E

abbrev longest_shared_w1 (nx12 : (Txt → Prop)) (best18 : Txt) : Prop :=
  nx12 best18
abbrev longest_shared_w2 (one1 : Txt) (other2 : Txt) (x4 : Int) (x9 : Int) (nx12 : (Txt → Prop)) (best13 : Txt) : Prop :=
  (one1.length ≤ sizeLine ∧ (ifJ (tin (cutD one1 (some x4) (some x9)) other2) (fun (nx16 : Txt → Prop) => (one1.length ≤ sizeLine ∧ nx16 (cutD one1 (some x4) (some x9)))) (fun (nx16 : Txt → Prop) => nx16 best13) (fun (z14 : Txt) => (longest_shared_w1 nx12 z14))))
abbrev longest_shared_w3 (nx7 : (Txt → Prop)) (best21 : Txt) : Prop :=
  nx7 best21
abbrev longest_shared_w4 (one1 : Txt) (other2 : Txt) (x4 : Int) (nx7 : (Txt → Prop)) (best8 : Txt) : Prop :=
  (best8.length ≤ sizeLine ∧ (one1.length ≤ sizeLine ∧ ((-(2 ^ 62) ≤ ((x4 + (best8.length : Int)) + (1 : Int)) ∧ ((x4 + (best8.length : Int)) + (1 : Int)) < 2 ^ 62 ∧ -(2 ^ 62) ≤ ((one1.length : Int) + (1 : Int)) ∧ ((one1.length : Int) + (1 : Int)) < 2 ^ 62) ∧ (forW ((List.range (((one1.length : Int) + (1 : Int)) - ((x4 + (best8.length : Int)) + (1 : Int))).toNat).map fun i : Nat => ((x4 + (best8.length : Int)) + (1 : Int)) + (i : Int)) best8 (fun (x9 : Int) (z10 : Txt) (nx12 : Txt → Prop) => (longest_shared_w2 one1 other2 x4 x9 nx12 z10)) (fun (z19 : Txt) => (longest_shared_w3 nx7 z19))))))
abbrev longest_shared_w5 (best24 : Txt) (Q : Txt → Prop) : Prop :=
  Q best24
abbrev longest_shared_w6 (one1 : Txt) (other2 : Txt) (best3 : Txt) (Q : Txt → Prop) : Prop :=
  (one1.length ≤ sizeLine ∧ ((-(2 ^ 62) ≤ (one1.length : Int) ∧ (one1.length : Int) < 2 ^ 62) ∧ (forW ((List.range ((one1.length : Int)).toNat).map fun i : Nat => (i : Int)) best3 (fun (x4 : Int) (z5 : Txt) (nx7 : Txt → Prop) => (longest_shared_w4 one1 other2 x4 nx7 z5)) (fun (z22 : Txt) => (longest_shared_w5 z22 Q)))))
abbrev longest_shared_w (one1 : Txt) (other2 : Txt) (Q : Txt → Prop) (E : Ex → Prop) : Prop :=
  (longest_shared_w6 one1 other2 (tx "") Q)
abbrev longest_shared_W (t : Txt × Txt × Unit) (Q : Txt → Prop) (E : Ex → Prop) : Prop := longest_shared_w t.1 t.2.1 Q E

abbrev longest_row_w1 (x4 : Txt) (best8 : (List Int)) (x11 : (Int × Txt)) (nx14 : ((List Int) → Prop)) (fresh15 : (List Int)) : Prop :=
  (((decide (x4 = x11.2)) = true → (inR (best8.length) x11.1 ∧ ((ixD best8 x11.1) + (1 : Int)) = ((ixD best8 x11.1) + (1 : Int)))) ∧ ((decide (x4 = x11.2)) = false → (inR (best8.length) (x11.1 + (1 : Int)) ∧ (inR (fresh15.length) x11.1 ∧ (max (ixD best8 (x11.1 + (1 : Int))) (ixD fresh15 x11.1)) = (max (ixD best8 (x11.1 + (1 : Int))) (ixD fresh15 x11.1))))) ∧ (fresh15.length < sizeLine ∧ nx14 (fresh15 ++ [(if (decide (x4 = x11.2)) = true then ((ixD best8 x11.1) + (1 : Int)) else (max (ixD best8 (x11.1 + (1 : Int))) (ixD fresh15 x11.1)))])))
abbrev longest_row_w2 (nx7 : ((List Int) → Prop)) (fresh19 : (List Int)) : Prop :=
  nx7 fresh19
abbrev longest_row_w3 (other2 : Txt) (x4 : Txt) (nx7 : ((List Int) → Prop)) (best8 : (List Int)) (fresh9 : (List Int)) : Prop :=
  (forW (enumD (other2.map fun c => [c])) fresh9 (fun (x11 : (Int × Txt)) (z12 : (List Int)) (nx14 : (List Int) → Prop) => (longest_row_w1 x4 best8 x11 nx14 z12)) (fun (z17 : (List Int)) => (longest_row_w2 nx7 z17)))
abbrev longest_row_w4 (other2 : Txt) (x4 : Txt) (nx7 : ((List Int) → Prop)) (best8 : (List Int)) : Prop :=
  (longest_row_w3 other2 x4 nx7 best8 [(0 : Int)])
abbrev longest_row_w5 (best23 : (List Int)) (Q : Int → Prop) : Prop :=
  (inR (best23.length) (-(1 : Int)) ∧ Q (ixD best23 (-(1 : Int))))
abbrev longest_row_w6 (one1 : Txt) (other2 : Txt) (best3 : (List Int)) (Q : Int → Prop) : Prop :=
  (forW (one1.map fun c => [c]) best3 (fun (x4 : Txt) (z5 : (List Int)) (nx7 : (List Int) → Prop) => (longest_row_w4 other2 x4 nx7 z5)) (fun (z21 : (List Int)) => (longest_row_w5 z21 Q)))
abbrev longest_row_w (one1 : Txt) (other2 : Txt) (Q : Int → Prop) (E : Ex → Prop) : Prop :=
  (other2.length ≤ sizeLine ∧ ((-(2 ^ 63) ≤ ((other2.length : Int) + (1 : Int)) ∧ ((other2.length : Int) + (1 : Int)) < 2 ^ 63 ∧ [(0 : Int)].length * (((other2.length : Int) + (1 : Int))).toNat ≤ sizeLine) ∧ (longest_row_w6 one1 other2 (List.replicate (((other2.length : Int) + (1 : Int))).toNat [(0 : Int)]).flatten Q)))
abbrev longest_row_W (t : Txt × Txt × Unit) (Q : Int → Prop) (E : Ex → Prop) : Prop := longest_row_w t.1 t.2.1 Q E

abbrev shifted_w (word1 : Txt) (by2 : Int) (Q : Txt → Prop) (E : Ex → Prop) : Prop :=
  (List.length (word1.map fun c => [c]) ≤ sizeLine ∧ (∀ x3 ∈ (word1.map fun c => [c]), (tin x3 (tx "abcdefghijklmnopqrstuvwxyz") = true ∧ (0 < (26 : Int) ∧ (List.length (tx "abcdefghijklmnopqrstuvwxyz") ≤ sizeLine ∧ inR (List.length (tx "abcdefghijklmnopqrstuvwxyz")) (((idxT (tx "abcdefghijklmnopqrstuvwxyz") x3) + by2) % (26 : Int)) ∧ (ixS (tx "abcdefghijklmnopqrstuvwxyz") (((idxT (tx "abcdefghijklmnopqrstuvwxyz") x3) + by2) % (26 : Int))) = (ixS (tx "abcdefghijklmnopqrstuvwxyz") (((idxT (tx "abcdefghijklmnopqrstuvwxyz") x3) + by2) % (26 : Int))))))) ∧ (lenSum ((word1.map fun c => [c]).map (fun (x3 : Txt) => (ixS (tx "abcdefghijklmnopqrstuvwxyz") (((idxT (tx "abcdefghijklmnopqrstuvwxyz") x3) + by2) % (26 : Int))))) + List.length ((word1.map fun c => [c]).map (fun (x3 : Txt) => (ixS (tx "abcdefghijklmnopqrstuvwxyz") (((idxT (tx "abcdefghijklmnopqrstuvwxyz") x3) + by2) % (26 : Int))))) * List.length (tx "") ≤ 16777216 ∧ Q (joinT (tx "") ((word1.map fun c => [c]).map (fun (x3 : Txt) => (ixS (tx "abcdefghijklmnopqrstuvwxyz") (((idxT (tx "abcdefghijklmnopqrstuvwxyz") x3) + by2) % (26 : Int))))))))
abbrev shifted_W (t : Txt × Int × Unit) (Q : Txt → Prop) (E : Ex → Prop) : Prop := shifted_w t.1 t.2.1 Q E

abbrev number_of_w1 (x3 : Txt) (nx6 : (Int → Prop)) (found7 : Int) : Prop :=
  (CMul found7 (26 : Int) ∧ (tin x3 (tx "abcdefghijklmnopqrstuvwxyz") = true ∧ nx6 ((found7 * (26 : Int)) + (idxT (tx "abcdefghijklmnopqrstuvwxyz") x3))))
abbrev number_of_w2 (found11 : Int) (Q : Int → Prop) : Prop :=
  Q found11
abbrev number_of_w3 (word1 : Txt) (found2 : Int) (Q : Int → Prop) : Prop :=
  (forW (word1.map fun c => [c]) found2 (fun (x3 : Txt) (z4 : Int) (nx6 : Int → Prop) => (number_of_w1 x3 nx6 z4)) (fun (z9 : Int) => (number_of_w2 z9 Q)))
abbrev number_of_w (word1 : Txt) (Q : Int → Prop) (E : Ex → Prop) : Prop :=
  (number_of_w3 word1 (0 : Int) Q)
abbrev number_of_W (t : Txt × Unit) (Q : Int → Prop) (E : Ex → Prop) : Prop := number_of_w t.1 Q E

abbrev word_at_w1 (nx7 : (Int × Txt → Prop)) (number8 : Int) (found9 : Txt) : Prop :=
  (0 < (26 : Int) ∧ (List.length (tx "abcdefghijklmnopqrstuvwxyz") ≤ sizeLine ∧ inR (List.length (tx "abcdefghijklmnopqrstuvwxyz")) (number8 % (26 : Int)) ∧ (List.length (ixS (tx "abcdefghijklmnopqrstuvwxyz") (number8 % (26 : Int))) + found9.length ≤ sizeLine ∧ (CDiv number8 (26 : Int) ∧ nx7 ((number8 / (26 : Int)), ((ixS (tx "abcdefghijklmnopqrstuvwxyz") (number8 % (26 : Int))) ++ found9))))))
abbrev word_at_w2 (number14 : Int) (found15 : Txt) (Q : Txt → Prop) (E : Ex → Prop) : Prop :=
  (((decide ((0 : Int) < number14)) = true → E .BadCount) ∧ ((decide ((0 : Int) < number14)) = false → Q found15))
abbrev word_at_w3 (number1 : Int) (length2 : Int) (found3 : Txt) (Q : Txt → Prop) (E : Ex → Prop) : Prop :=
  ((-(2 ^ 62) ≤ length2 ∧ length2 < 2 ^ 62) ∧ (forW ((List.range (length2).toNat).map fun i : Nat => (i : Int)) (number1, found3) (fun (x4 : Int) (z5 : Int × Txt) (nx7 : Int × Txt → Prop) => (word_at_w1 nx7 z5.1 z5.2)) (fun (z12 : Int × Txt) => (word_at_w2 z12.1 z12.2 Q E))))
abbrev word_at_w (number1 : Int) (length2 : Int) (Q : Txt → Prop) (E : Ex → Prop) : Prop :=
  (((decide (number1 < (0 : Int))) = true → E .BadCount) ∧ ((decide (number1 < (0 : Int))) = false → (word_at_w3 number1 length2 (tx "") Q E)))
abbrev word_at_W (t : Int × Int × Unit) (Q : Txt → Prop) (E : Ex → Prop) : Prop := word_at_w t.1 t.2.1 Q E

abbrev between_w1 (one1 : Txt) (other2 : Txt) (Q : Txt → Prop) (E : Ex → Prop) : Prop :=
  (Cl (number_of_W (one1, ())) (fun (r3 : Int) => (Cl (number_of_W (other2, ())) (fun (r4 : Int) => (CDiv (r3 + r4) (2 : Int) ∧ (one1.length ≤ sizeLine ∧ (Cl (word_at_W (((r3 + r4) / (2 : Int)), (one1.length : Int), ())) (fun (r5 : Txt) => Q r5) E)))) E)) E)
abbrev between_w (one1 : Txt) (other2 : Txt) (Q : Txt → Prop) (E : Ex → Prop) : Prop :=
  (one1.length ≤ sizeLine ∧ (other2.length ≤ sizeLine ∧ (((decide ((one1.length : Int) ≠ (other2.length : Int))) = true → E .BadWord) ∧ ((decide ((one1.length : Int) ≠ (other2.length : Int))) = false → (between_w1 one1 other2 Q E)))))
abbrev between_W (t : Txt × Txt × Unit) (Q : Txt → Prop) (E : Ex → Prop) : Prop := between_w t.1 t.2.1 Q E

abbrev law_flat_w1 (x3 : (List Txt)) (nx6 : ((List Txt) → Prop)) (found7 : (List Txt)) : Prop :=
  (found7.length + x3.length ≤ sizeLine ∧ nx6 (found7 ++ x3))
abbrev law_flat_w2 (found11 : (List Txt)) (Q : (List Txt) → Prop) : Prop :=
  Q found11
abbrev law_flat_w3 (rows1 : (List (List Txt))) (found2 : (List Txt)) (Q : (List Txt) → Prop) : Prop :=
  (forW rows1 found2 (fun (x3 : (List Txt)) (z4 : (List Txt)) (nx6 : (List Txt) → Prop) => (law_flat_w1 x3 nx6 z4)) (fun (z9 : (List Txt)) => (law_flat_w2 z9 Q)))
abbrev law_flat_w (rows1 : (List (List Txt))) (Q : (List Txt) → Prop) (E : Ex → Prop) : Prop :=
  (law_flat_w3 rows1 ([] : List Txt) Q)
abbrev law_flat_W (t : (List (List Txt)) × Unit) (Q : (List Txt) → Prop) (E : Ex → Prop) : Prop := law_flat_w t.1 Q E

abbrev law_word_w (letters1 : Txt) (least2 : Int) (most3 : Int) (Q : Txt → Prop) (E : Ex → Prop) : Prop :=
  (ClD (rollW (((most3 - least2) + (1 : Int)), ())) fun (r4 : Int) => ((-(2 ^ 62) ≤ (least2 + r4) ∧ (least2 + r4) < 2 ^ 62) ∧ (List.length ((List.range ((least2 + r4)).toNat).map fun i : Nat => (i : Int)) ≤ sizeLine ∧ ∃ P7 : Int → Txt → Prop, (∀ x5 ∈ ((List.range ((least2 + r4)).toNat).map fun i : Nat => (i : Int)), ((letters1.length ≤ sizeLine ∧ ClD (rollW ((letters1.length : Int), ())) fun (r6 : Int) => (letters1.length ≤ sizeLine ∧ inR letters1.length r6 ∧ P7 x5 (ixS letters1 r6))))) ∧ ∀ ys8, Each P7 ((List.range ((least2 + r4)).toNat).map fun i : Nat => (i : Int)) ys8 → (lenSum ys8 + ys8.length * List.length (tx "") ≤ 16777216 ∧ Q (joinT (tx "") ys8)))))
abbrev law_word_W (t : Txt × Int × Int × Unit) (Q : Txt → Prop) (E : Ex → Prop) : Prop := law_word_w t.1 t.2.1 t.2.2.1 Q E

abbrev law_unlike_w (words1 : (List Txt)) (Q : (List Txt) → Prop) (E : Ex → Prop) : Prop :=
  (words1.length ≤ sizeLine ∧ (∀ x2 ∈ words1, (x2, (1 : Int)) = (x2, (1 : Int))) ∧ Q (srt ((Dct.mk (dmerge [] (words1.map (fun (x2 : Txt) => (x2, (1 : Int)))))).kvs.map (·.1))))
abbrev law_unlike_W (t : (List Txt) × Unit) (Q : (List Txt) → Prop) (E : Ex → Prop) : Prop := law_unlike_w t.1 Q E

abbrev law_parts_w (word1 : Txt) (Q : (List Txt) → Prop) (E : Ex → Prop) : Prop :=
  (word1.length ≤ sizeLine ∧ ((-(2 ^ 62) ≤ (word1.length : Int) ∧ (word1.length : Int) < 2 ^ 62) ∧ (List.length ((List.range ((word1.length : Int)).toNat).map fun i : Nat => (i : Int)) ≤ sizeLine ∧ (∀ x2 ∈ ((List.range ((word1.length : Int)).toNat).map fun i : Nat => (i : Int)), (word1.length ≤ sizeLine ∧ ((-(2 ^ 62) ≤ (x2 + (1 : Int)) ∧ (x2 + (1 : Int)) < 2 ^ 62 ∧ -(2 ^ 62) ≤ ((word1.length : Int) + (1 : Int)) ∧ ((word1.length : Int) + (1 : Int)) < 2 ^ 62) ∧ (List.length ((List.range (((word1.length : Int) + (1 : Int)) - (x2 + (1 : Int))).toNat).map fun i : Nat => (x2 + (1 : Int)) + (i : Int)) ≤ sizeLine ∧ (∀ x3 ∈ ((List.range (((word1.length : Int) + (1 : Int)) - (x2 + (1 : Int))).toNat).map fun i : Nat => (x2 + (1 : Int)) + (i : Int)), (word1.length ≤ sizeLine ∧ (cutD word1 (some x2) (some x3)) = (cutD word1 (some x2) (some x3)))) ∧ (((List.range (((word1.length : Int) + (1 : Int)) - (x2 + (1 : Int))).toNat).map fun i : Nat => (x2 + (1 : Int)) + (i : Int)).map (fun (x3 : Int) => (cutD word1 (some x2) (some x3)))) = (((List.range (((word1.length : Int) + (1 : Int)) - (x2 + (1 : Int))).toNat).map fun i : Nat => (x2 + (1 : Int)) + (i : Int)).map (fun (x3 : Int) => (cutD word1 (some x2) (some x3)))))))) ∧ (Cl (law_flat_W ((((List.range ((word1.length : Int)).toNat).map fun i : Nat => (i : Int)).map (fun (x2 : Int) => (((List.range (((word1.length : Int) + (1 : Int)) - (x2 + (1 : Int))).toNat).map fun i : Nat => (x2 + (1 : Int)) + (i : Int)).map (fun (x3 : Int) => (cutD word1 (some x2) (some x3)))))), ())) (fun (r4 : (List Txt)) => Q r4) E))))
abbrev law_parts_W (t : Txt × Unit) (Q : (List Txt) → Prop) (E : Ex → Prop) : Prop := law_parts_w t.1 Q E

abbrev law_rows_w1 (x3 : Txt) (nx6 : ((List Txt) → Prop)) (rows7 : (List Txt)) : Prop :=
  (rows7.length ≤ sizeLine ∧ (∀ x8 ∈ rows7, (x8.length + x3.length ≤ sizeLine ∧ (x8 ++ x3) = (x8 ++ x3))) ∧ (rows7.length + List.length (rows7.map (fun (x8 : Txt) => (x8 ++ x3))) ≤ sizeLine ∧ nx6 (rows7 ++ (rows7.map (fun (x8 : Txt) => (x8 ++ x3))))))
abbrev law_rows_w2 (rows12 : (List Txt)) (Q : (List Txt) → Prop) : Prop :=
  Q rows12
abbrev law_rows_w3 (word1 : Txt) (rows2 : (List Txt)) (Q : (List Txt) → Prop) : Prop :=
  (forW (word1.map fun c => [c]) rows2 (fun (x3 : Txt) (z4 : (List Txt)) (nx6 : (List Txt) → Prop) => (law_rows_w1 x3 nx6 z4)) (fun (z10 : (List Txt)) => (law_rows_w2 z10 Q)))
abbrev law_rows_w (word1 : Txt) (Q : (List Txt) → Prop) (E : Ex → Prop) : Prop :=
  (law_rows_w3 word1 [(tx "")] Q)
abbrev law_rows_W (t : Txt × Unit) (Q : (List Txt) → Prop) (E : Ex → Prop) : Prop := law_rows_w t.1 Q E

abbrev law_cases1_w1 (Q : Bool → Prop) : Prop :=
  (Cl (word_at_W ((26 : Int), (1 : Int), ())) (fun (r4 : Txt) => (((decide (r4 ≠ (tx "count"))) = true → Q false) ∧ ((decide (r4 ≠ (tx "count"))) = false → Q true))) (fun e => ∃ t5, toldT e = some t5 ∧ (((decide (t5 ≠ (tx "count"))) = true → Q false) ∧ ((decide (t5 ≠ (tx "count"))) = false → Q true))))
abbrev law_cases1_w  (Q : Bool → Prop) (E : Ex → Prop) : Prop :=
  (Cl (between_W ((tx "a"), (tx "bb"), ())) (fun (r1 : Txt) => (((decide (r1 ≠ (tx "word"))) = true → Q false) ∧ ((decide (r1 ≠ (tx "word"))) = false → (law_cases1_w1 Q)))) (fun e => ∃ t2, toldT e = some t2 ∧ (((decide (t2 ≠ (tx "word"))) = true → Q false) ∧ ((decide (t2 ≠ (tx "word"))) = false → (law_cases1_w1 Q)))))
abbrev law_cases1_W (t : Unit) (Q : Bool → Prop) (E : Ex → Prop) : Prop := law_cases1_w  Q E

abbrev law_rest1_w1 (x34 : Txt) (nx37 : (Int → Prop)) (due38 : Int) : Prop :=
  (CMul (26 : Int) due38 ∧ (tin x34 (tx "abcdefghijklmnopqrstuvwxyz") = true ∧ nx37 (((26 : Int) * due38) + (idxT (tx "abcdefghijklmnopqrstuvwxyz") x34))))
abbrev law_rest1_w2 (x53 : Txt) (nx56 : (Unit → Prop)) (Q : Bool → Prop) : Prop :=
  (Cl (check_word_W (x53, ())) (fun (r57 : Unit) => (((decide ((Sum.inl r57 : (Unit ⊕ Txt)) ≠ (Sum.inr (tx "word") : (Unit ⊕ Txt)))) = true → Q false) ∧ ((decide ((Sum.inl r57 : (Unit ⊕ Txt)) ≠ (Sum.inr (tx "word") : (Unit ⊕ Txt)))) = false → nx56 ()))) (fun e => ∃ t58, toldT e = some t58 ∧ (((decide ((Sum.inr t58 : (Unit ⊕ Txt)) ≠ (Sum.inr (tx "word") : (Unit ⊕ Txt)))) = true → Q false) ∧ ((decide ((Sum.inr t58 : (Unit ⊕ Txt)) ≠ (Sum.inr (tx "word") : (Unit ⊕ Txt)))) = false → nx56 ()))))
abbrev law_rest1_w3 (Q : Bool → Prop) : Prop :=
  (Cl (law_cases1_W ()) (fun (r62 : Bool) => (((!r62) = true → Q false) ∧ ((!r62) = false → Q true))) NoE)
abbrev law_rest1_w4 (Q : Bool → Prop) : Prop :=
  ((-(2 ^ 63) ≤ (25 : Int) ∧ List.length (tx "a") * ((25 : Int)).toNat ≤ 16777216 ∧ (25 : Int) ≤ 16777216) ∧ (forW [(tx ""), (tx "A"), (tx "a b"), (repS (tx "a") (25 : Int)), (tx "a1")] () (fun (x53 : Txt) (z54 : Unit) (nx56 : Unit → Prop) => (law_rest1_w2 x53 nx56 Q)) (fun (z60 : Unit) => (law_rest1_w3 Q))))
abbrev law_rest1_w5 (one1 : Txt) (number32 : Int) (same46 : Txt) (middle48 : Txt) (Q : Bool → Prop) : Prop :=
  (Cl (number_of_W (middle48, ())) (fun (r49 : Int) => (CMul (2 : Int) r49 ∧ (Cl (number_of_W (same46, ())) (fun (r50 : Int) => (Cl (number_of_W (same46, ())) (fun (r51 : Int) => ((((niL ((2 : Int) * r49) [(number32 + r50), ((number32 + r51) - (1 : Int))])) = false → (middle48.length ≤ sizeLine ∧ (one1.length ≤ sizeLine ∧ (decide ((middle48.length : Int) ≠ (one1.length : Int))) = (decide ((middle48.length : Int) ≠ (one1.length : Int)))))) ∧ (((((niL ((2 : Int) * r49) [(number32 + r50), ((number32 + r51) - (1 : Int))])) || (decide ((middle48.length : Int) ≠ (one1.length : Int)))) = true → Q false) ∧ ((((niL ((2 : Int) * r49) [(number32 + r50), ((number32 + r51) - (1 : Int))])) || (decide ((middle48.length : Int) ≠ (one1.length : Int)))) = false → (law_rest1_w4 Q))))) NoE)) NoE))) NoE)
abbrev law_rest1_w6 (one1 : Txt) (number32 : Int) (same46 : Txt) (Q : Bool → Prop) : Prop :=
  (Cl (between_W (one1, same46, ())) (fun (r47 : Txt) => (law_rest1_w5 one1 number32 same46 r47 Q)) NoE)
abbrev law_rest1_w7 (one1 : Txt) (number32 : Int) (Q : Bool → Prop) : Prop :=
  ((one1.length ≤ sizeLine ∧ (one1.length ≤ sizeLine ∧ ClD (law_word_W ((tx "axyz"), (one1.length : Int), (one1.length : Int), ())) fun (r45 : Txt) => (law_rest1_w6 one1 number32 r45 Q))))
abbrev law_rest1_w8 (one1 : Txt) (number32 : Int) (due42 : Int) (Q : Bool → Prop) : Prop :=
  (one1.length ≤ sizeLine ∧ (Cl (word_at_W (number32, (one1.length : Int), ())) (fun (r43 : Txt) => (((decide (r43 ≠ one1)) = false → (decide (number32 ≠ due42)) = (decide (number32 ≠ due42))) ∧ ((((decide (r43 ≠ one1)) || (decide (number32 ≠ due42))) = true → Q false) ∧ (((decide (r43 ≠ one1)) || (decide (number32 ≠ due42))) = false → (law_rest1_w7 one1 number32 Q))))) NoE))
abbrev law_rest1_w9 (one1 : Txt) (number32 : Int) (due33 : Int) (Q : Bool → Prop) : Prop :=
  (forW (one1.map fun c => [c]) due33 (fun (x34 : Txt) (z35 : Int) (nx37 : Int → Prop) => (law_rest1_w1 x34 nx37 z35)) (fun (z40 : Int) => (law_rest1_w8 one1 number32 z40 Q)))
abbrev law_rest1_w10 (one1 : Txt) (Q : Bool → Prop) : Prop :=
  (Cl (number_of_W (one1, ())) (fun (r31 : Int) => (law_rest1_w9 one1 r31 (0 : Int) Q)) NoE)
abbrev law_rest1_w11 (one1 : Txt) (by25 : Int) (Q : Bool → Prop) : Prop :=
  (Cl (shifted_W (one1, by25, ())) (fun (r26 : Txt) => (List.length (one1.map fun c => [c]) ≤ sizeLine ∧ (∀ x27 ∈ (one1.map fun c => [c]), (tin x27 (tx "abcdefghijklmnopqrstuvwxyz") = true ∧ (0 < (26 : Int) ∧ (List.length (tx "abcdefghijklmnopqrstuvwxyz") ≤ sizeLine ∧ inR (List.length (tx "abcdefghijklmnopqrstuvwxyz")) (((idxT (tx "abcdefghijklmnopqrstuvwxyz") x27) + by25) % (26 : Int)) ∧ (ixS (tx "abcdefghijklmnopqrstuvwxyz") (((idxT (tx "abcdefghijklmnopqrstuvwxyz") x27) + by25) % (26 : Int))) = (ixS (tx "abcdefghijklmnopqrstuvwxyz") (((idxT (tx "abcdefghijklmnopqrstuvwxyz") x27) + by25) % (26 : Int))))))) ∧ (lenSum ((one1.map fun c => [c]).map (fun (x27 : Txt) => (ixS (tx "abcdefghijklmnopqrstuvwxyz") (((idxT (tx "abcdefghijklmnopqrstuvwxyz") x27) + by25) % (26 : Int))))) + List.length ((one1.map fun c => [c]).map (fun (x27 : Txt) => (ixS (tx "abcdefghijklmnopqrstuvwxyz") (((idxT (tx "abcdefghijklmnopqrstuvwxyz") x27) + by25) % (26 : Int))))) * List.length (tx "") ≤ 16777216 ∧ (((decide (r26 ≠ (joinT (tx "") ((one1.map fun c => [c]).map (fun (x27 : Txt) => (ixS (tx "abcdefghijklmnopqrstuvwxyz") (((idxT (tx "abcdefghijklmnopqrstuvwxyz") x27) + by25) % (26 : Int)))))))) = true → ((true = true → Q false) ∧ (true = false → (law_rest1_w10 one1 Q)))) ∧ ((decide (r26 ≠ (joinT (tx "") ((one1.map fun c => [c]).map (fun (x27 : Txt) => (ixS (tx "abcdefghijklmnopqrstuvwxyz") (((idxT (tx "abcdefghijklmnopqrstuvwxyz") x27) + by25) % (26 : Int)))))))) = false → (Cl (shifted_W (one1, by25, ())) (fun (r28 : Txt) => (Cl (shifted_W (r28, ((0 : Int) - by25), ())) (fun (r29 : Txt) => (((decide (r29 ≠ one1)) = true → Q false) ∧ ((decide (r29 ≠ one1)) = false → (law_rest1_w10 one1 Q)))) NoE)) NoE)))))) NoE)
abbrev law_rest1_w12 (one1 : Txt) (Q : Bool → Prop) : Prop :=
  (ClD (rollW ((60 : Int), ())) fun (r24 : Int) => (law_rest1_w11 one1 (r24 - (30 : Int)) Q))
abbrev law_rest1_w13 (one1 : Txt) (other2 : Txt) (Q : Bool → Prop) : Prop :=
  (Cl (longest_row_W (one1, other2, ())) (fun (r17 : Int) => (Cl (law_rows_W (one1, ())) (fun (r18 : (List Txt)) => (r18.length ≤ sizeLine ∧ ∃ (c21 : Txt → Bool) (h22 : Txt → Int), (∀ x19 ∈ r18, (Cl (law_rows_W (other2, ())) (fun (r20 : (List Txt)) => ((inL x19 r20)) = c21 x19) NoE)) ∧ (∀ x19 ∈ r18, c21 x19 = true → (x19.length ≤ sizeLine ∧ (x19.length : Int) = h22 x19)) ∧ (((r18.filter c21).map h22) ≠ [] ∧ (((decide (r17 ≠ (maxL ((r18.filter c21).map h22)))) = true → Q false) ∧ ((decide (r17 ≠ (maxL ((r18.filter c21).map h22)))) = false → (law_rest1_w12 one1 Q)))))) NoE)) NoE)
abbrev law_rest1_w14 (one1 : Txt) (other2 : Txt) (both11 : (List Txt)) (size13 : Int) (Q : Bool → Prop) : Prop :=
  (Cl (longest_shared_W (one1, other2, ())) (fun (r14 : Txt) => (both11.length ≤ sizeLine ∧ (∀ x15 ∈ both11, (x15.length ≤ sizeLine ∧ (decide ((x15.length : Int) = size13)) = (decide ((x15.length : Int) = size13)))) ∧ (∀ x15 ∈ both11, (decide ((x15.length : Int) = size13)) = true → x15 = x15) ∧ (List.length ((both11.filter (fun (x15 : Txt) => (decide ((x15.length : Int) = size13)))).map (fun (x15 : Txt) => x15)) + List.length [(tx "")] ≤ sizeLine ∧ (inR (List.length (((both11.filter (fun (x15 : Txt) => (decide ((x15.length : Int) = size13)))).map (fun (x15 : Txt) => x15)) ++ [(tx "")])) (0 : Int) ∧ (((decide (r14 ≠ (ixD (((both11.filter (fun (x15 : Txt) => (decide ((x15.length : Int) = size13)))).map (fun (x15 : Txt) => x15)) ++ [(tx "")]) (0 : Int)))) = true → Q false) ∧ ((decide (r14 ≠ (ixD (((both11.filter (fun (x15 : Txt) => (decide ((x15.length : Int) = size13)))).map (fun (x15 : Txt) => x15)) ++ [(tx "")]) (0 : Int)))) = false → (law_rest1_w13 one1 other2 Q))))))) NoE)
abbrev law_rest1_w15 (one1 : Txt) (other2 : Txt) (both11 : (List Txt)) (Q : Bool → Prop) : Prop :=
  (both11.length ≤ sizeLine ∧ (∀ x12 ∈ both11, (x12.length ≤ sizeLine ∧ (x12.length : Int) = (x12.length : Int))) ∧ (List.length [(0 : Int)] + List.length (both11.map (fun (x12 : Txt) => (x12.length : Int))) ≤ sizeLine ∧ (([(0 : Int)] ++ (both11.map (fun (x12 : Txt) => (x12.length : Int)))) ≠ [] ∧ (law_rest1_w14 one1 other2 both11 (maxL ([(0 : Int)] ++ (both11.map (fun (x12 : Txt) => (x12.length : Int))))) Q))))
abbrev law_rest1_w16 (one1 : Txt) (other2 : Txt) (Q : Bool → Prop) : Prop :=
  (Cl (law_parts_W (one1, ())) (fun (r9 : (List Txt)) => (r9.length ≤ sizeLine ∧ (∀ x10 ∈ r9, (tin x10 other2) = (tin x10 other2)) ∧ (∀ x10 ∈ r9, (tin x10 other2) = true → x10 = x10) ∧ (law_rest1_w15 one1 other2 ((r9.filter (fun (x10 : Txt) => (tin x10 other2))).map (fun (x10 : Txt) => x10)) Q))) NoE)
abbrev law_rest1_w17 (one1 : Txt) (other2 : Txt) (words3 : (List Txt)) (ends6 : (List Txt)) (Q : Bool → Prop) : Prop :=
  (words3.length + List.length [one1, other2] ≤ sizeLine ∧ (Cl (common_end_W ((words3 ++ [one1, other2]), ())) (fun (r7 : Txt) => (inR (ends6.length) ((ends6.length : Int) - (1 : Int)) ∧ (((decide (r7 ≠ (ixD ends6 ((ends6.length : Int) - (1 : Int))))) = true → Q false) ∧ ((decide (r7 ≠ (ixD ends6 ((ends6.length : Int) - (1 : Int))))) = false → (law_rest1_w16 one1 other2 Q))))) NoE))
abbrev law_rest1_w (one1 : Txt) (other2 : Txt) (words3 : (List Txt)) (Q : Bool → Prop) (E : Ex → Prop) : Prop :=
  (one1.length ≤ sizeLine ∧ ((-(2 ^ 62) ≤ ((one1.length : Int) + (1 : Int)) ∧ ((one1.length : Int) + (1 : Int)) < 2 ^ 62) ∧ (List.length ((List.range (((one1.length : Int) + (1 : Int))).toNat).map fun i : Nat => (i : Int)) ≤ sizeLine ∧ (∀ x4 ∈ ((List.range (((one1.length : Int) + (1 : Int))).toNat).map fun i : Nat => (i : Int)), (words3.length + List.length [other2] ≤ sizeLine ∧ (List.length (words3 ++ [other2]) ≤ sizeLine ∧ (∀ x5 ∈ (words3 ++ [other2]), (x5.length ≤ sizeLine ∧ (((decide ((x5.length : Int) < x4)) = false → (x5.length ≤ sizeLine ∧ (x5.length ≤ sizeLine ∧ (one1.length ≤ sizeLine ∧ (one1.length ≤ sizeLine ∧ (decide ((cutD x5 (some ((x5.length : Int) - x4)) none) ≠ (cutD one1 (some ((one1.length : Int) - x4)) none))) = (decide ((cutD x5 (some ((x5.length : Int) - x4)) none) ≠ (cutD one1 (some ((one1.length : Int) - x4)) none)))))))) ∧ ((decide ((x5.length : Int) < x4)) || (decide ((cutD x5 (some ((x5.length : Int) - x4)) none) ≠ (cutD one1 (some ((one1.length : Int) - x4)) none)))) = ((decide ((x5.length : Int) < x4)) || (decide ((cutD x5 (some ((x5.length : Int) - x4)) none) ≠ (cutD one1 (some ((one1.length : Int) - x4)) none))))))) ∧ (∀ x5 ∈ (words3 ++ [other2]), ((decide ((x5.length : Int) < x4)) || (decide ((cutD x5 (some ((x5.length : Int) - x4)) none) ≠ (cutD one1 (some ((one1.length : Int) - x4)) none)))) = true → x5 = x5) ∧ (decide ((((words3 ++ [other2]).filter (fun (x5 : Txt) => ((decide ((x5.length : Int) < x4)) || (decide ((cutD x5 (some ((x5.length : Int) - x4)) none) ≠ (cutD one1 (some ((one1.length : Int) - x4)) none)))))).map (fun (x5 : Txt) => x5)) = ([] : List Txt))) = (decide ((((words3 ++ [other2]).filter (fun (x5 : Txt) => ((decide ((x5.length : Int) < x4)) || (decide ((cutD x5 (some ((x5.length : Int) - x4)) none) ≠ (cutD one1 (some ((one1.length : Int) - x4)) none)))))).map (fun (x5 : Txt) => x5)) = ([] : List Txt)))))) ∧ (∀ x4 ∈ ((List.range (((one1.length : Int) + (1 : Int))).toNat).map fun i : Nat => (i : Int)), (decide ((((words3 ++ [other2]).filter (fun (x5 : Txt) => ((decide ((x5.length : Int) < x4)) || (decide ((cutD x5 (some ((x5.length : Int) - x4)) none) ≠ (cutD one1 (some ((one1.length : Int) - x4)) none)))))).map (fun (x5 : Txt) => x5)) = ([] : List Txt))) = true → (one1.length ≤ sizeLine ∧ (one1.length ≤ sizeLine ∧ (cutD one1 (some ((one1.length : Int) - x4)) none) = (cutD one1 (some ((one1.length : Int) - x4)) none)))) ∧ (law_rest1_w17 one1 other2 words3 ((((List.range (((one1.length : Int) + (1 : Int))).toNat).map fun i : Nat => (i : Int)).filter (fun (x4 : Int) => (decide ((((words3 ++ [other2]).filter (fun (x5 : Txt) => ((decide ((x5.length : Int) < x4)) || (decide ((cutD x5 (some ((x5.length : Int) - x4)) none) ≠ (cutD one1 (some ((one1.length : Int) - x4)) none)))))).map (fun (x5 : Txt) => x5)) = ([] : List Txt))))).map (fun (x4 : Int) => (cutD one1 (some ((one1.length : Int) - x4)) none))) Q))))
abbrev law_rest1_W (t : Txt × Txt × (List Txt) × Unit) (Q : Bool → Prop) (E : Ex → Prop) : Prop := law_rest1_w t.1 t.2.1 t.2.2.1 Q E

abbrev law_w1 (u5 : (Txt × Txt)) (words11 : (List Txt)) (Q : Bool → Prop) : Prop :=
  (ClD (law_rest1_W (u5.1, u5.2, words11, ())) fun (r64 : Bool) => (((!r64) = true → Q false) ∧ ((!r64) = false → Q true)))
abbrev law_w2 (u5 : (Txt × Txt)) (words11 : (List Txt)) (starts60 : (List Txt)) (Q : Bool → Prop) (E : Ex → Prop) : Prop :=
  (words11.length + List.length [u5.1, u5.2] ≤ sizeLine ∧ (Cl (common_start_W ((words11 ++ [u5.1, u5.2]), ())) (fun (r61 : Txt) => (inR (starts60.length) ((starts60.length : Int) - (1 : Int)) ∧ (((decide (r61 ≠ (ixD starts60 ((starts60.length : Int) - (1 : Int))))) = true → ((true = true → Q false) ∧ (true = false → (law_w1 u5 words11 Q)))) ∧ ((decide (r61 ≠ (ixD starts60 ((starts60.length : Int) - (1 : Int))))) = false → (Cl (common_start_W (([] : List Txt), ())) (fun (r62 : Txt) => (((decide (r62 ≠ (tx ""))) = true → Q false) ∧ ((decide (r62 ≠ (tx ""))) = false → (law_w1 u5 words11 Q)))) E))))) E))
abbrev law_w3 (u5 : (Txt × Txt)) (words11 : (List Txt)) (Q : Bool → Prop) (E : Ex → Prop) : Prop :=
  (u5.1.length ≤ sizeLine ∧ ((-(2 ^ 62) ≤ ((u5.1.length : Int) + (1 : Int)) ∧ ((u5.1.length : Int) + (1 : Int)) < 2 ^ 62) ∧ (List.length ((List.range (((u5.1.length : Int) + (1 : Int))).toNat).map fun i : Nat => (i : Int)) ≤ sizeLine ∧ (∀ x58 ∈ ((List.range (((u5.1.length : Int) + (1 : Int))).toNat).map fun i : Nat => (i : Int)), (words11.length + List.length [u5.2] ≤ sizeLine ∧ (List.length (words11 ++ [u5.2]) ≤ sizeLine ∧ (∀ x59 ∈ (words11 ++ [u5.2]), (x59.length ≤ sizeLine ∧ (u5.1.length ≤ sizeLine ∧ (decide ((cutD x59 none (some x58)) ≠ (cutD u5.1 none (some x58)))) = (decide ((cutD x59 none (some x58)) ≠ (cutD u5.1 none (some x58))))))) ∧ (∀ x59 ∈ (words11 ++ [u5.2]), (decide ((cutD x59 none (some x58)) ≠ (cutD u5.1 none (some x58)))) = true → x59 = x59) ∧ (decide ((((words11 ++ [u5.2]).filter (fun (x59 : Txt) => (decide ((cutD x59 none (some x58)) ≠ (cutD u5.1 none (some x58)))))).map (fun (x59 : Txt) => x59)) = ([] : List Txt))) = (decide ((((words11 ++ [u5.2]).filter (fun (x59 : Txt) => (decide ((cutD x59 none (some x58)) ≠ (cutD u5.1 none (some x58)))))).map (fun (x59 : Txt) => x59)) = ([] : List Txt)))))) ∧ (∀ x58 ∈ ((List.range (((u5.1.length : Int) + (1 : Int))).toNat).map fun i : Nat => (i : Int)), (decide ((((words11 ++ [u5.2]).filter (fun (x59 : Txt) => (decide ((cutD x59 none (some x58)) ≠ (cutD u5.1 none (some x58)))))).map (fun (x59 : Txt) => x59)) = ([] : List Txt))) = true → (u5.1.length ≤ sizeLine ∧ (cutD u5.1 none (some x58)) = (cutD u5.1 none (some x58)))) ∧ (law_w2 u5 words11 ((((List.range (((u5.1.length : Int) + (1 : Int))).toNat).map fun i : Nat => (i : Int)).filter (fun (x58 : Int) => (decide ((((words11 ++ [u5.2]).filter (fun (x59 : Txt) => (decide ((cutD x59 none (some x58)) ≠ (cutD u5.1 none (some x58)))))).map (fun (x59 : Txt) => x59)) = ([] : List Txt))))).map (fun (x58 : Int) => (cutD u5.1 none (some x58)))) Q E))))
abbrev law_w4 (u5 : (Txt × Txt)) (words11 : (List Txt)) (marks53 : Txt) (Q : Bool → Prop) (E : Ex → Prop) : Prop :=
  (Cl (pattern_of_W (u5.1, ())) (fun (r54 : Txt) => (((decide (r54 ≠ marks53)) = true → ((true = true → Q false) ∧ (true = false → (law_w3 u5 words11 Q E)))) ∧ ((decide (r54 ≠ marks53)) = false → (Cl (beats_W (u5.1, ())) (fun (r55 : Int) => (((tx "c") ≠ [] ∧ marks53.length + 2 ≤ sizeLine) ∧ (List.length (splitT marks53 (tx "c")) ≤ sizeLine ∧ (∀ x56 ∈ (splitT marks53 (tx "c")), (decide (x56 ≠ (tx ""))) = (decide (x56 ≠ (tx "")))) ∧ (∀ x56 ∈ (splitT marks53 (tx "c")), (decide (x56 ≠ (tx ""))) = true → x56 = x56) ∧ (((decide (r55 ≠ (max (1 : Int) (List.length (((splitT marks53 (tx "c")).filter (fun (x56 : Txt) => (decide (x56 ≠ (tx ""))))).map (fun (x56 : Txt) => x56)) : Int)))) = true → Q false) ∧ ((decide (r55 ≠ (max (1 : Int) (List.length (((splitT marks53 (tx "c")).filter (fun (x56 : Txt) => (decide (x56 ≠ (tx ""))))).map (fun (x56 : Txt) => x56)) : Int)))) = false → (law_w3 u5 words11 Q E)))))) E)))) E)
abbrev law_w5 (u5 : (Txt × Txt)) (words11 : (List Txt)) (Q : Bool → Prop) (E : Ex → Prop) : Prop :=
  (List.length (u5.1.map fun c => [c]) ≤ sizeLine ∧ (∀ x52 ∈ (u5.1.map fun c => [c]), (((tin x52 (tx "ae")) = true → (tx "v") = (tx "v")) ∧ ((tin x52 (tx "ae")) = false → (tx "c") = (tx "c")) ∧ (if (tin x52 (tx "ae")) = true then (tx "v") else (tx "c")) = (if (tin x52 (tx "ae")) = true then (tx "v") else (tx "c")))) ∧ (lenSum ((u5.1.map fun c => [c]).map (fun (x52 : Txt) => (if (tin x52 (tx "ae")) = true then (tx "v") else (tx "c")))) + List.length ((u5.1.map fun c => [c]).map (fun (x52 : Txt) => (if (tin x52 (tx "ae")) = true then (tx "v") else (tx "c")))) * List.length (tx "") ≤ 16777216 ∧ (law_w4 u5 words11 (joinT (tx "") ((u5.1.map fun c => [c]).map (fun (x52 : Txt) => (if (tin x52 (tx "ae")) = true then (tx "v") else (tx "c"))))) Q E)))
abbrev law_w6 (u5 : (Txt × Txt)) (words11 : (List Txt)) (parts46 : (List Txt)) (longest48 : Int) (Q : Bool → Prop) (E : Ex → Prop) : Prop :=
  (Cl (longest_backward_W (u5.1, ())) (fun (r49 : Txt) => (parts46.length ≤ sizeLine ∧ (∀ x50 ∈ parts46, (x50.length ≤ sizeLine ∧ (decide ((x50.length : Int) = longest48)) = (decide ((x50.length : Int) = longest48)))) ∧ (∀ x50 ∈ parts46, (decide ((x50.length : Int) = longest48)) = true → x50 = x50) ∧ (inR (List.length ((parts46.filter (fun (x50 : Txt) => (decide ((x50.length : Int) = longest48)))).map (fun (x50 : Txt) => x50))) (0 : Int) ∧ (((decide (r49 ≠ (ixD ((parts46.filter (fun (x50 : Txt) => (decide ((x50.length : Int) = longest48)))).map (fun (x50 : Txt) => x50)) (0 : Int)))) = true → Q false) ∧ ((decide (r49 ≠ (ixD ((parts46.filter (fun (x50 : Txt) => (decide ((x50.length : Int) = longest48)))).map (fun (x50 : Txt) => x50)) (0 : Int)))) = false → (law_w5 u5 words11 Q E)))))) E)
abbrev law_w7 (u5 : (Txt × Txt)) (words11 : (List Txt)) (parts46 : (List Txt)) (Q : Bool → Prop) (E : Ex → Prop) : Prop :=
  (parts46.length ≤ sizeLine ∧ (∀ x47 ∈ parts46, (x47.length ≤ sizeLine ∧ (x47.length : Int) = (x47.length : Int))) ∧ ((parts46.map (fun (x47 : Txt) => (x47.length : Int))) ≠ [] ∧ (law_w6 u5 words11 parts46 (maxL (parts46.map (fun (x47 : Txt) => (x47.length : Int)))) Q E)))
abbrev law_w8 (u5 : (Txt × Txt)) (words11 : (List Txt)) (Q : Bool → Prop) (E : Ex → Prop) : Prop :=
  (Cl (law_parts_W (u5.1, ())) (fun (r44 : (List Txt)) => (r44.length ≤ sizeLine ∧ (∀ x45 ∈ r44, (x45.length ≤ sizeLine ∧ (x45.length ≤ sizeLine ∧ (decide ((x45.map fun c => [c]) = (x45.reverse.map fun c => [c]))) = (decide ((x45.map fun c => [c]) = (x45.reverse.map fun c => [c])))))) ∧ (∀ x45 ∈ r44, (decide ((x45.map fun c => [c]) = (x45.reverse.map fun c => [c]))) = true → x45 = x45) ∧ (law_w7 u5 words11 ((r44.filter (fun (x45 : Txt) => (decide ((x45.map fun c => [c]) = (x45.reverse.map fun c => [c]))))).map (fun (x45 : Txt) => x45)) Q E))) E)
abbrev law_w9 (u5 : (Txt × Txt)) (words11 : (List Txt)) (Q : Bool → Prop) (E : Ex → Prop) : Prop :=
  (Cl (is_same_backward_W (u5.1, ())) (fun (r42 : Bool) => (u5.1.length ≤ sizeLine ∧ (u5.1.length ≤ sizeLine ∧ (((decide (r42 ≠ (decide ((u5.1.map fun c => [c]) = (u5.1.reverse.map fun c => [c]))))) = true → Q false) ∧ ((decide (r42 ≠ (decide ((u5.1.map fun c => [c]) = (u5.1.reverse.map fun c => [c]))))) = false → (law_w8 u5 words11 Q E)))))) E)
abbrev law_w10 (u5 : (Txt × Txt)) (words11 : (List Txt)) (firsts38 : (List Txt)) (Q : Bool → Prop) (E : Ex → Prop) : Prop :=
  (Cl (shape_of_W (u5.1, ())) (fun (r39 : Txt) => (List.length (u5.1.map fun c => [c]) ≤ sizeLine ∧ (∀ x40 ∈ (u5.1.map fun c => [c]), (x40 ∈ firsts38 ∧ (List.length (tx "abcd") ≤ sizeLine ∧ inR (List.length (tx "abcd")) (idx firsts38 x40 : Int) ∧ (ixS (tx "abcd") (idx firsts38 x40 : Int)) = (ixS (tx "abcd") (idx firsts38 x40 : Int))))) ∧ (lenSum ((u5.1.map fun c => [c]).map (fun (x40 : Txt) => (ixS (tx "abcd") (idx firsts38 x40 : Int)))) + List.length ((u5.1.map fun c => [c]).map (fun (x40 : Txt) => (ixS (tx "abcd") (idx firsts38 x40 : Int)))) * List.length (tx "") ≤ 16777216 ∧ (((decide (r39 ≠ (joinT (tx "") ((u5.1.map fun c => [c]).map (fun (x40 : Txt) => (ixS (tx "abcd") (idx firsts38 x40 : Int))))))) = true → Q false) ∧ ((decide (r39 ≠ (joinT (tx "") ((u5.1.map fun c => [c]).map (fun (x40 : Txt) => (ixS (tx "abcd") (idx firsts38 x40 : Int))))))) = false → (law_w9 u5 words11 Q E)))))) E)
abbrev law_w11 (u5 : (Txt × Txt)) (words11 : (List Txt)) (Q : Bool → Prop) (E : Ex → Prop) : Prop :=
  (u5.1.length ≤ sizeLine ∧ ((-(2 ^ 62) ≤ (u5.1.length : Int) ∧ (u5.1.length : Int) < 2 ^ 62) ∧ (List.length ((List.range ((u5.1.length : Int)).toNat).map fun i : Nat => (i : Int)) ≤ sizeLine ∧ (∀ x37 ∈ ((List.range ((u5.1.length : Int)).toNat).map fun i : Nat => (i : Int)), (u5.1.length ≤ sizeLine ∧ inR u5.1.length x37 ∧ (u5.1.length ≤ sizeLine ∧ (!tin (ixS u5.1 x37) (cutD u5.1 none (some x37))) = (!tin (ixS u5.1 x37) (cutD u5.1 none (some x37)))))) ∧ (∀ x37 ∈ ((List.range ((u5.1.length : Int)).toNat).map fun i : Nat => (i : Int)), (!tin (ixS u5.1 x37) (cutD u5.1 none (some x37))) = true → (u5.1.length ≤ sizeLine ∧ inR u5.1.length x37 ∧ (ixS u5.1 x37) = (ixS u5.1 x37))) ∧ (law_w10 u5 words11 ((((List.range ((u5.1.length : Int)).toNat).map fun i : Nat => (i : Int)).filter (fun (x37 : Int) => (!tin (ixS u5.1 x37) (cutD u5.1 none (some x37))))).map (fun (x37 : Int) => (ixS u5.1 x37))) Q E))))
abbrev law_w12 (u5 : (Txt × Txt)) (words11 : (List Txt)) (hand32 : Txt) (lack34 : Int) (Q : Bool → Prop) (E : Ex → Prop) : Prop :=
  (Cl (can_be_made_W (u5.1, hand32, ())) (fun (r35 : Bool) => (((decide (r35 ≠ (decide (lack34 ≤ (cntT hand32 (tx "?")))))) = true → Q false) ∧ ((decide (r35 ≠ (decide (lack34 ≤ (cntT hand32 (tx "?")))))) = false → (law_w11 u5 words11 Q E)))) E)
abbrev law_w13 (u5 : (Txt × Txt)) (words11 : (List Txt)) (hand32 : Txt) (Q : Bool → Prop) (E : Ex → Prop) : Prop :=
  (List.length ((tx "abce").map fun c => [c]) ≤ sizeLine ∧ (∀ x33 ∈ ((tx "abce").map fun c => [c]), (max (0 : Int) ((cntT u5.1 x33) - (cntT hand32 x33))) = (max (0 : Int) ((cntT u5.1 x33) - (cntT hand32 x33)))) ∧ (law_w12 u5 words11 hand32 (((tx "abce").map fun c => [c]).map (fun (x33 : Txt) => (max (0 : Int) ((cntT u5.1 x33) - (cntT hand32 x33))))).sum Q E))
abbrev law_w14 (u5 : (Txt × Txt)) (words11 : (List Txt)) (Q : Bool → Prop) (E : Ex → Prop) : Prop :=
  (ClD (law_word_W ((tx "abce?"), (0 : Int), (6 : Int), ())) fun (r31 : Txt) => (law_w13 u5 words11 r31 Q E))
abbrev law_w15 (u5 : (Txt × Txt)) (words11 : (List Txt)) (due26 : (List ((List Txt) × (List Txt)))) (Q : Bool → Prop) (E : Ex → Prop) : Prop :=
  (Cl (same_letters_W (words11, ())) (fun (r27 : (Tup (Tup Txt))) => (r27.items.length ≤ sizeLine ∧ (∀ x28 ∈ r27.items, x28.items = x28.items) ∧ ((-(2 ^ 62) ≤ (due26.length : Int) ∧ (due26.length : Int) < 2 ^ 62) ∧ (List.length ((List.range ((due26.length : Int)).toNat).map fun i : Nat => (i : Int)) ≤ sizeLine ∧ (∀ x29 ∈ ((List.range ((due26.length : Int)).toNat).map fun i : Nat => (i : Int)), (inR (due26.length) x29 ∧ ((niL (ixD due26 x29) (cutD due26 none (some x29)))) = ((niL (ixD due26 x29) (cutD due26 none (some x29)))))) ∧ (∀ x29 ∈ ((List.range ((due26.length : Int)).toNat).map fun i : Nat => (i : Int)), ((niL (ixD due26 x29) (cutD due26 none (some x29)))) = true → (inR (due26.length) x29 ∧ (ixD due26 x29).2 = (ixD due26 x29).2)) ∧ (((decide ((r27.items.map (fun (x28 : (Tup Txt)) => x28.items)) ≠ ((((List.range ((due26.length : Int)).toNat).map fun i : Nat => (i : Int)).filter (fun (x29 : Int) => ((niL (ixD due26 x29) (cutD due26 none (some x29)))))).map (fun (x29 : Int) => (ixD due26 x29).2)))) = true → Q false) ∧ ((decide ((r27.items.map (fun (x28 : (Tup Txt)) => x28.items)) ≠ ((((List.range ((due26.length : Int)).toNat).map fun i : Nat => (i : Int)).filter (fun (x29 : Int) => ((niL (ixD due26 x29) (cutD due26 none (some x29)))))).map (fun (x29 : Int) => (ixD due26 x29).2)))) = false → (law_w14 u5 words11 Q E))))))) E)
abbrev law_w16 (u5 : (Txt × Txt)) (words11 : (List Txt)) (groups24 : (List (List Txt))) (Q : Bool → Prop) (E : Ex → Prop) : Prop :=
  (groups24.length ≤ sizeLine ∧ (∀ x25 ∈ groups24, (decide ((1 : Int) < (x25.length : Int))) = (decide ((1 : Int) < (x25.length : Int)))) ∧ (∀ x25 ∈ groups24, (decide ((1 : Int) < (x25.length : Int))) = true → (inR (x25.length) (0 : Int) ∧ (List.length (ixD x25 (0 : Int)) ≤ sizeLine ∧ ((srt ((ixD x25 (0 : Int)).map fun c => [c])), x25) = ((srt ((ixD x25 (0 : Int)).map fun c => [c])), x25)))) ∧ (law_w15 u5 words11 (srt ((groups24.filter (fun (x25 : (List Txt)) => (decide ((1 : Int) < (x25.length : Int))))).map (fun (x25 : (List Txt)) => ((srt ((ixD x25 (0 : Int)).map fun c => [c])), x25)))) Q E))
abbrev law_w17 (u5 : (Txt × Txt)) (words11 : (List Txt)) (unlike21 : (List Txt)) (Q : Bool → Prop) (E : Ex → Prop) : Prop :=
  (unlike21.length ≤ sizeLine ∧ (∀ x22 ∈ unlike21, (unlike21.length ≤ sizeLine ∧ (∀ x23 ∈ unlike21, (x23.length ≤ sizeLine ∧ (x22.length ≤ sizeLine ∧ (decide ((srt (x23.map fun c => [c])) = (srt (x22.map fun c => [c])))) = (decide ((srt (x23.map fun c => [c])) = (srt (x22.map fun c => [c]))))))) ∧ (∀ x23 ∈ unlike21, (decide ((srt (x23.map fun c => [c])) = (srt (x22.map fun c => [c])))) = true → x23 = x23) ∧ ((unlike21.filter (fun (x23 : Txt) => (decide ((srt (x23.map fun c => [c])) = (srt (x22.map fun c => [c])))))).map (fun (x23 : Txt) => x23)) = ((unlike21.filter (fun (x23 : Txt) => (decide ((srt (x23.map fun c => [c])) = (srt (x22.map fun c => [c])))))).map (fun (x23 : Txt) => x23)))) ∧ (law_w16 u5 words11 (unlike21.map (fun (x22 : Txt) => ((unlike21.filter (fun (x23 : Txt) => (decide ((srt (x23.map fun c => [c])) = (srt (x22.map fun c => [c])))))).map (fun (x23 : Txt) => x23)))) Q E))
abbrev law_w18 (u5 : (Txt × Txt)) (words11 : (List Txt)) (Q : Bool → Prop) (E : Ex → Prop) : Prop :=
  (Cl (law_unlike_W (words11, ())) (fun (r20 : (List Txt)) => (law_w17 u5 words11 r20 Q E)) E)
abbrev law_w19 (u5 : (Txt × Txt)) (words11 : (List Txt)) (Q : Bool → Prop) (E : Ex → Prop) : Prop :=
  (Cl (sorted_letters_W (u5.1, ())) (fun (r16 : Txt) => (u5.1.length ≤ sizeLine ∧ (lenSum (srt (u5.1.map fun c => [c])) + List.length (srt (u5.1.map fun c => [c])) * List.length (tx "") ≤ 16777216 ∧ (((decide (r16 ≠ (joinT (tx "") (srt (u5.1.map fun c => [c]))))) = true → ((true = true → Q false) ∧ (true = false → (law_w18 u5 words11 Q E)))) ∧ ((decide (r16 ≠ (joinT (tx "") (srt (u5.1.map fun c => [c]))))) = false → (Cl (turned_W (u5.1, ())) (fun (r17 : Txt) => (u5.1.length ≤ sizeLine ∧ ((-(2 ^ 62) ≤ (u5.1.length : Int) ∧ (u5.1.length : Int) < 2 ^ 62) ∧ (List.length ((List.range ((u5.1.length : Int)).toNat).map fun i : Nat => (i : Int)) ≤ sizeLine ∧ (∀ x18 ∈ ((List.range ((u5.1.length : Int)).toNat).map fun i : Nat => (i : Int)), (u5.1.length ≤ sizeLine ∧ (u5.1.length ≤ sizeLine ∧ inR u5.1.length (((u5.1.length : Int) - (1 : Int)) - x18) ∧ (ixS u5.1 (((u5.1.length : Int) - (1 : Int)) - x18)) = (ixS u5.1 (((u5.1.length : Int) - (1 : Int)) - x18))))) ∧ (lenSum (((List.range ((u5.1.length : Int)).toNat).map fun i : Nat => (i : Int)).map (fun (x18 : Int) => (ixS u5.1 (((u5.1.length : Int) - (1 : Int)) - x18)))) + List.length (((List.range ((u5.1.length : Int)).toNat).map fun i : Nat => (i : Int)).map (fun (x18 : Int) => (ixS u5.1 (((u5.1.length : Int) - (1 : Int)) - x18)))) * List.length (tx "") ≤ 16777216 ∧ (((decide (r17 ≠ (joinT (tx "") (((List.range ((u5.1.length : Int)).toNat).map fun i : Nat => (i : Int)).map (fun (x18 : Int) => (ixS u5.1 (((u5.1.length : Int) - (1 : Int)) - x18))))))) = true → Q false) ∧ ((decide (r17 ≠ (joinT (tx "") (((List.range ((u5.1.length : Int)).toNat).map fun i : Nat => (i : Int)).map (fun (x18 : Int) => (ixS u5.1 (((u5.1.length : Int) - (1 : Int)) - x18))))))) = false → (law_w18 u5 words11 Q E)))))))) E)))))) E)
abbrev law_w20 (u5 : (Txt × Txt)) (words11 : (List Txt)) (Q : Bool → Prop) (E : Ex → Prop) : Prop :=
  (Cl (letters_in_W (u5.1, ())) (fun (r12 : (Tup (Txt × Int))) => (List.length ((tx "abce").map fun c => [c]) ≤ sizeLine ∧ (∀ x13 ∈ ((tx "abce").map fun c => [c]), (tin x13 u5.1) = (tin x13 u5.1)) ∧ (∀ x13 ∈ ((tx "abce").map fun c => [c]), (tin x13 u5.1) = true → (List.length (u5.1.map fun c => [c]) ≤ sizeLine ∧ (∀ x14 ∈ (u5.1.map fun c => [c]), (decide (x14 = x13)) = (decide (x14 = x13))) ∧ (∀ x14 ∈ (u5.1.map fun c => [c]), (decide (x14 = x13)) = true → x14 = x14) ∧ (x13, (List.length (((u5.1.map fun c => [c]).filter (fun (x14 : Txt) => (decide (x14 = x13)))).map (fun (x14 : Txt) => x14)) : Int)) = (x13, (List.length (((u5.1.map fun c => [c]).filter (fun (x14 : Txt) => (decide (x14 = x13)))).map (fun (x14 : Txt) => x14)) : Int)))) ∧ (((decide (r12.items ≠ ((((tx "abce").map fun c => [c]).filter (fun (x13 : Txt) => (tin x13 u5.1))).map (fun (x13 : Txt) => (x13, (List.length (((u5.1.map fun c => [c]).filter (fun (x14 : Txt) => (decide (x14 = x13)))).map (fun (x14 : Txt) => x14)) : Int)))))) = true → Q false) ∧ ((decide (r12.items ≠ ((((tx "abce").map fun c => [c]).filter (fun (x13 : Txt) => (tin x13 u5.1))).map (fun (x13 : Txt) => (x13, (List.length (((u5.1.map fun c => [c]).filter (fun (x14 : Txt) => (decide (x14 = x13)))).map (fun (x14 : Txt) => x14)) : Int)))))) = false → (law_w19 u5 words11 Q E))))) E)
abbrev law_w21 (u5 : (Txt × Txt)) (Q : Bool → Prop) (E : Ex → Prop) : Prop :=
  (ClD (rollW ((7 : Int), ())) fun (r6 : Int) => ((-(2 ^ 62) ≤ r6 ∧ r6 < 2 ^ 62) ∧ (List.length ((List.range (r6).toNat).map fun i : Nat => (i : Int)) ≤ sizeLine ∧ ∃ P9 : Int → Txt → Prop, (∀ x7 ∈ ((List.range (r6).toNat).map fun i : Nat => (i : Int)), (ClD (law_word_W ((tx "abc"), (1 : Int), (4 : Int), ())) fun (r8 : Txt) => P9 x7 r8)) ∧ ∀ ys10, Each P9 ((List.range (r6).toNat).map fun i : Nat => (i : Int)) ys10 → (law_w20 u5 ys10 Q E))))
abbrev law_w22 (Q : Bool → Prop) (E : Ex → Prop) : Prop :=
  (ClD (law_word_W ((tx "abce"), (1 : Int), (6 : Int), ())) fun (r3 : Txt) => (ClD (law_word_W ((tx "abce"), (1 : Int), (6 : Int), ())) fun (r4 : Txt) => (law_w21 (r3, r4) Q E)))
abbrev law_w (script1 : (List Int)) (Q : Bool → Prop) (E : Ex → Prop) : Prop :=
  (law_w22 Q E)
abbrev law_W (t : (List Int) × Unit) (Q : Bool → Prop) (E : Ex → Prop) : Prop := law_w t.1 Q E

end K01
set_option maxHeartbeats 0
namespace K01
open PySem L2 Sp
abbrev top (i : Nat) : Stmt := PySem.Challenge.pw_spellhall_k01_words.main.body.getD i (.Pass ⟨0, 0, 0, 0⟩)
def d_check_word : He.DefD := ⟨("check_word", none), "check_word", "check_word", defArgs (top 12), defBody (top 12), defScope (top 12), [], []⟩
def d_letters_in : He.DefD := ⟨("letters_in", none), "letters_in", "letters_in", defArgs (top 13), defBody (top 13), defScope (top 13), [], []⟩
def d_sorted_letters : He.DefD := ⟨("sorted_letters", none), "sorted_letters", "sorted_letters", defArgs (top 14), defBody (top 14), defScope (top 14), [], []⟩
def d_same_letters : He.DefD := ⟨("same_letters", none), "same_letters", "same_letters", defArgs (top 15), defBody (top 15), defScope (top 15), [], []⟩
def d_can_be_made : He.DefD := ⟨("can_be_made", none), "can_be_made", "can_be_made", defArgs (top 16), defBody (top 16), defScope (top 16), [], []⟩
def d_shape_of : He.DefD := ⟨("shape_of", none), "shape_of", "shape_of", defArgs (top 17), defBody (top 17), defScope (top 17), [], []⟩
def d_turned : He.DefD := ⟨("turned", none), "turned", "turned", defArgs (top 18), defBody (top 18), defScope (top 18), [], []⟩
def d_is_same_backward : He.DefD := ⟨("is_same_backward", none), "is_same_backward", "is_same_backward", defArgs (top 19), defBody (top 19), defScope (top 19), [], []⟩
def d_longest_backward : He.DefD := ⟨("longest_backward", none), "longest_backward", "longest_backward", defArgs (top 20), defBody (top 20), defScope (top 20), [], []⟩
def d_beats : He.DefD := ⟨("beats", none), "beats", "beats", defArgs (top 21), defBody (top 21), defScope (top 21), [], []⟩
def d_pattern_of : He.DefD := ⟨("pattern_of", none), "pattern_of", "pattern_of", defArgs (top 22), defBody (top 22), defScope (top 22), [], []⟩
def d_common_start : He.DefD := ⟨("common_start", none), "common_start", "common_start", defArgs (top 23), defBody (top 23), defScope (top 23), [], []⟩
def d_common_end : He.DefD := ⟨("common_end", none), "common_end", "common_end", defArgs (top 24), defBody (top 24), defScope (top 24), [], []⟩
def d_longest_shared : He.DefD := ⟨("longest_shared", none), "longest_shared", "longest_shared", defArgs (top 25), defBody (top 25), defScope (top 25), [], []⟩
def d_longest_row : He.DefD := ⟨("longest_row", none), "longest_row", "longest_row", defArgs (top 26), defBody (top 26), defScope (top 26), [], []⟩
def d_shifted : He.DefD := ⟨("shifted", none), "shifted", "shifted", defArgs (top 27), defBody (top 27), defScope (top 27), [], []⟩
def d_between : He.DefD := ⟨("between", none), "between", "between", defArgs (top 28), defBody (top 28), defScope (top 28), [], []⟩
def d_number_of : He.DefD := ⟨("number_of", none), "number_of", "number_of", defArgs (top 29), defBody (top 29), defScope (top 29), [], []⟩
def d_word_at : He.DefD := ⟨("word_at", none), "word_at", "word_at", defArgs (top 30), defBody (top 30), defScope (top 30), [], []⟩
def d__law_flat : He.DefD := ⟨("_law_flat", none), "_law_flat", "_law_flat", defArgs (top 32), defBody (top 32), defScope (top 32), [], []⟩
def d__law_dice : He.DefD := ⟨("_law_dice", none), "_law_dice", "_law_dice", defArgs (top 33), defBody (top 33), defScope (top 33), [], []⟩
def d__law_roll : He.DefD := ⟨("_law_roll", none), "_law_roll", "_law_roll", defArgs (top 34), defBody (top 34), defScope (top 34), [], []⟩
def d__law_rounds : He.DefD := ⟨("_law_rounds", none), "_law_rounds", "_law_rounds", defArgs (top 35), defBody (top 35), defScope (top 35), [], []⟩
def d__law_told : He.DefD := ⟨("_law_told", none), "_law_told", "_law_told", defArgs (top 36), defBody (top 36), defScope (top 36), [], []⟩
def d__law_word : He.DefD := ⟨("_law_word", none), "_law_word", "_law_word", defArgs (top 37), defBody (top 37), defScope (top 37), [], []⟩
def d__law_unlike : He.DefD := ⟨("_law_unlike", none), "_law_unlike", "_law_unlike", defArgs (top 38), defBody (top 38), defScope (top 38), [], []⟩
def d__law_parts : He.DefD := ⟨("_law_parts", none), "_law_parts", "_law_parts", defArgs (top 39), defBody (top 39), defScope (top 39), [], []⟩
def d__law_rows : He.DefD := ⟨("_law_rows", none), "_law_rows", "_law_rows", defArgs (top 40), defBody (top 40), defScope (top 40), [], []⟩
def d__law_cases1 : He.DefD := ⟨("_law_cases1", none), "_law_cases1", "_law_cases1", defArgs (top 41), defBody (top 41), defScope (top 41), [], []⟩
def d__law_rest1 : He.DefD := ⟨("_law_rest1", none), "_law_rest1", "_law_rest1", defArgs (top 42), defBody (top 42), defScope (top 42), [], []⟩
def d_law : He.DefD := ⟨("law", none), "law", "law", defArgs (top 43), defBody (top 43), defScope (top 43), [], []⟩
def fn : List He.DefD := [d_check_word, d_letters_in, d_sorted_letters, d_same_letters, d_can_be_made, d_shape_of, d_turned, d_is_same_backward, d_longest_backward, d_beats, d_pattern_of, d_common_start, d_common_end, d_longest_shared, d_longest_row, d_shifted, d_between, d_number_of, d_word_at, d__law_flat, d__law_dice, d__law_roll, d__law_rounds, d__law_told, d__law_word, d__law_unlike, d__law_parts, d__law_rows, d__law_cases1, d__law_rest1, d_law]
def fa0 : List He.Fa := [.glo "check_word", .glo "letters_in", .glo "sorted_letters", .glo "same_letters", .glo "can_be_made", .glo "shape_of", .glo "turned", .glo "is_same_backward", .glo "longest_backward", .glo "beats", .glo "pattern_of", .glo "common_start", .glo "common_end", .glo "longest_shared", .glo "longest_row", .glo "shifted", .glo "between", .glo "number_of", .glo "word_at", .glo "_law_flat", .glo "_law_dice", .glo "_law_roll", .glo "_law_rounds", .glo "_law_told", .glo "_law_word", .glo "_law_unlike", .glo "_law_parts", .glo "_law_rows", .glo "_law_cases1", .glo "_law_rest1"]
def fa1 : List He.Fa := [.glo "law", .glo "SpellFault", .glo "BadWord", .glo "BadRule", .glo "BadCount", .glo "NoSuch", .glo "NoWay", .glo "TooLarge", .glo "BadText", .free "len", .free "range", .free "sorted", .free "list", .free "tuple", .free "dict", .free "int", .free "str", .free "abs", .free "min", .free "max", .free "sum", .free "any", .free "all", .free "enumerate", .free "zip", .free "reversed", .free "isinstance", .free "super", .str "LETTERS" "abcdefghijklmnopqrstuvwxyz", .str "VOWELS" "aeiou"]
def fa2 : List He.Fa := [.exc "SpellFault", .exc "BadWord", .exc "BadRule", .exc "BadCount", .exc "NoSuch", .exc "NoWay", .exc "TooLarge", .exm "BadWord" "BadCount" false, .exm "BadWord" "BadRule" false, .exm "BadWord" "BadWord" true, .exm "BadWord" "NoSuch" false, .exm "BadWord" "NoWay" false, .exm "BadWord" "TooLarge" false, .exm "BadWord" "BadText" false, .exm "BadRule" "BadCount" false, .exm "BadRule" "BadRule" true, .exm "BadRule" "BadWord" false, .exm "BadRule" "NoSuch" false, .exm "BadRule" "NoWay" false, .exm "BadRule" "TooLarge" false, .exm "BadRule" "BadText" false, .exm "BadCount" "BadCount" true, .exm "BadCount" "BadRule" false, .exm "BadCount" "BadWord" false, .exm "BadCount" "NoSuch" false, .exm "BadCount" "NoWay" false, .exm "BadCount" "TooLarge" false, .exm "BadCount" "BadText" false, .exm "NoSuch" "BadCount" false, .exm "NoSuch" "BadRule" false]
def fa3 : List He.Fa := [.exm "NoSuch" "BadWord" false, .exm "NoSuch" "NoSuch" true, .exm "NoSuch" "NoWay" false, .exm "NoSuch" "TooLarge" false, .exm "NoSuch" "BadText" false, .exm "NoWay" "BadCount" false, .exm "NoWay" "BadRule" false, .exm "NoWay" "BadWord" false, .exm "NoWay" "NoSuch" false, .exm "NoWay" "NoWay" true, .exm "NoWay" "TooLarge" false, .exm "NoWay" "BadText" false, .exm "TooLarge" "BadCount" false, .exm "TooLarge" "BadRule" false, .exm "TooLarge" "BadWord" false, .exm "TooLarge" "NoSuch" false, .exm "TooLarge" "NoWay" false, .exm "TooLarge" "TooLarge" true, .exm "TooLarge" "BadText" false, .exm "BadText" "BadCount" false, .exm "BadText" "BadRule" false, .exm "BadText" "BadWord" false, .exm "BadText" "NoSuch" false, .exm "BadText" "NoWay" false, .exm "BadText" "TooLarge" false, .exm "BadText" "BadText" true]
def fa : List He.Fa := fa0 ++ (fa1 ++ (fa2 ++ (fa3)))
def tq : TQ := [(("check_word", none), (("check_word" : Str) ++ ".<locals>.") ++ "<genexpr>"), (("beats", none), (("beats" : Str) ++ ".<locals>.") ++ "<genexpr>"), (("_law_cases1", none), (("_law_cases1" : Str) ++ ".<locals>.") ++ "<lambda>"), (("_law_rest1", none), (("_law_rest1" : Str) ++ ".<locals>.") ++ "<lambda>")]
def names0 : List PySem.Str := ["SpellFault", "BadWord", "BadRule", "BadCount", "NoSuch", "NoWay", "TooLarge", "BadText", "LETTERS", "VOWELS", "check_word", "letters_in", "sorted_letters", "same_letters", "can_be_made", "shape_of", "turned", "is_same_backward", "longest_backward", "beats", "pattern_of", "common_start", "common_end", "longest_shared", "longest_row", "shifted", "between", "number_of", "word_at", "_law_flat"]
def names1 : List PySem.Str := ["_law_dice", "_law_roll", "_law_rounds", "_law_told", "_law_word", "_law_unlike", "_law_parts", "_law_rows", "_law_cases1", "_law_rest1"]
def names : List PySem.Str := names0 ++ (names1)
abbrev R : PySem.W.OpenRow := PySem.W.OpenLaw.row PySem.Challenge.rw_spellhall_k01_words
def cmc : List PySem.Str := []
def ndTab (K : PySem.W.Frag) : Bool := decide (tq.map fun p => (He.cT K p.1).2).Nodup && cmc.all fun c => HN.cmpB K (He.ga K c)
abbrev hk : PySem.W.Hook := He.hookX 5 fa fn [] (tq.map (·.1)) ndTab
def ob (s : PySem.W.SharedT) : He.AlX := He.obsX 5 fa fn [] (tq.map (·.1)) ndTab (HandSHeadRun.getT s)
theorem ob_eq (s : PySem.W.SharedT) : ob s = hk.obs s.abs := He.obsX_eq (HandSHeadRun.getT_eq s)
theorem run (w : World) : HandSHeadRun.RunEq R (PySem.W.view R.prog [43]) hk ob 4000 names w := by
  intro os
  kernel_rfl
end K01
set_option maxHeartbeats 0
namespace K01
open PySem L2 Sp
section
variable {P : Program} {w : World} {K : Frag} {mg : Str → Option Value} {base : Heap}
theorem dice_S : FnScope ["cell"] ["cell"] d__law_dice.scope := ⟨rfl, rfl, rfl, by decide +kernel, rfl, by decide +kernel, by decide +kernel⟩
theorem ok_dice (B : Bis mg) (L : LK w K mg base fa fn tq) {fd : FuncData} (F1 : Fd K d__law_dice ["cell"] fd) : FnOk P w K mg base (L2.CX P w) 1 (He.fAd K d__law_dice.at_) fd ["cell"] (toSp K (tbOf K tq) 1 dDiceA) := by
  refine dice_D (df_ok (k := 0) L F1 dice_S dDice0 (fun As gs R E ⟨_, e, _⟩ => by rw [e]; rfl) fun cdv A outer s H F gs E ex As R X hd hex tbl ok => ?_)
  obtain ⟨c, rfl, rfl, k⟩ := hd
  refine ws_cons (w1_if (.of (etp_ltlt (evp_sub evp_int evp_int) (evp_var 0 rfl (.inl rfl) rfl) evp_int) ?_))
  by_cases h : (decide ((0 : Int) - 10 < c) && decide (c < 10)) = true
  · rw [if_pos h]
    refine ws_one (w1_ret (ev_listO (α := Int) (.of (evsp_cons (evp_abs B rfl (evp_var 0 rfl (.inl rfl) rfl)) (evsp_cons evp_int (evsp_cons evp_int evsp_nil))) ⟨[_, _, _], rfl, (show 3 ≤ _ by decide), fun q => ⟨0, k _ _ _ _⟩⟩)))
  · rw [if_neg h]
    refine ws_nil ?_
    refine ws_one (w1_ret (ev_listO (α := Int) (.of (evsp_cons (evp_var 0 rfl (.inl rfl) rfl) (evsp_cons (evp_add evp_int (evp_mod (evp_int1 B rfl (evp_var 0 rfl (.inl rfl) rfl)) evp_int (by decide))) (evsp_cons (evp_intB B rfl (evp_cmp (cmp_ge (evp_var 0 rfl (.inl rfl) rfl) (evp_pow evp_int evp_int ⟨by decide, by decide, by decide⟩)))) evsp_nil))) ⟨[_, _, _], rfl, (show 3 ≤ _ by decide), fun q => ⟨0, k _ _ _ _⟩⟩)))
theorem roll_S : FnScope ["dice", "many", "found"] ["dice", "many"] d__law_roll.scope := ⟨rfl, rfl, rfl, by decide +kernel, rfl, by decide +kernel, by decide +kernel⟩
theorem ok_roll (B : Bis mg) (L : LK w K mg base fa fn tq) {fd : FuncData} (F1 : Fd K d__law_roll ["dice", "many"] fd) : FnOk P w K mg base (L2.CX P w) 1 (He.fAd K d__law_roll.at_) fd ["dice", "many"] (toSp K (tbOf K tq) 2 (spD rollW)) := by
  refine roll_D (df_ok (k := 0) L F1 roll_S dRollA (fun As gs R E ⟨_, _, _, _, _, e, _⟩ => by rw [e]; rfl) fun cdv A outer s H F gs E ex As R X hd hex tbl ok => ?_)
  obtain ⟨q, i, j, k, many, rfl, rfl, h0, h1, kk⟩ := hd
  have red : ∀ (r : Int), 0 ≤ r % many ∧ r % many < many := fun r => ⟨Int.emod_nonneg _ (by omega), Int.emod_lt_of_pos _ h0⟩
  refine ws_cons (w1_if (.of (etp_w (ewp_or (etp_cmp (cmp_eq (α := Int) ok (evp_own 0 0 rfl rfl rfl rfl) .pu evp_int .pu)) fun _ => ewp_or1 (etp_w (ewp_and (etp_cmp (cmp_eq (α := Int) ok (evp_own 0 0 rfl rfl rfl rfl) .pu evp_int .pu)) fun _ => ewp_and1 (etp_cmp (cmp_gt (evp_own 0 0 rfl rfl rfl rfl) evp_int)))))) ?_))
  by_cases h : (decide (k = 2) || (decide (k = 1) && decide (0 < i))) = true
  · rw [if_pos h]
    refine ws_cons (w1_set 2 ok rfl (.inl rfl) (.of (evp_mod (evp_int1 B rfl (evp_own 0 0 rfl rfl rfl rfl)) (evp_var 1 rfl (.inl rfl) rfl) h0) ?_))
    refine ws_cons (w1_lput (α := Int) 0 (.of (evp_fdiv (evp_own 0 0 rfl rfl rfl rfl) (evp_var 1 rfl (.inl rfl) rfl) ⟨h0, h1⟩) ⟨_, _, 0, 0, rfl, rfl, evp_var 0 rfl (.inl rfl) rfl, evp_int, rfl, ?_⟩))
    exact ws_one (w1_ret (.of (evp_var 2 rfl (.inl rfl) rfl) ⟨0, kk _ _ _ _ (red i).1 (red i).2⟩))
  · rw [if_neg h]
    refine ws_nil ?_
    refine ws_cons (w1_lput (α := Int) 0 (.of evp_int ⟨_, _, 2, 2, rfl, rfl, evp_var 0 rfl (.inl rfl) rfl, evp_int, rfl, ?_⟩))
    refine ws_cons (w1_lput (α := Int) 0 (.of (evp_mod (evp_int1 B rfl (evp_add (evp_add (evp_mul (evp_own 0 0 rfl rfl rfl rfl) evp_int (.inr (by decide))) (evp_mul (evp_own 0 0 rfl rfl rfl rfl) evp_int (.inr (by decide)))) evp_int)) evp_int (by decide)) ⟨_, _, 0, 0, rfl, rfl, evp_var 0 rfl (.inl rfl) rfl, evp_int, rfl, ?_⟩))
    refine ws_cons (w1_lput (α := Int) 0 (.of (evp_add (evp_own 0 0 rfl rfl rfl rfl) evp_int) ⟨_, _, 1, 1, rfl, rfl, evp_var 0 rfl (.inl rfl) rfl, evp_int, rfl, ?_⟩))
    exact ws_one (w1_ret (.of (evp_mod (evp_int1 B rfl (evp_add (evp_fdiv (evp_own 0 0 rfl rfl rfl rfl) evp_int ⟨by decide, by decide⟩) (evp_own 0 0 rfl rfl rfl rfl))) (evp_var 1 rfl (.inl rfl) rfl) h0) ⟨0, kk _ _ _ _ (red _).1 (red _).2⟩))
theorem cut1 : ∀ ns : List Int, (cutD ns none (some 1) = [] ∨ ∃ c, cutD ns none (some 1) = [c])
  | [] => .inl (by decide)
  | c :: r => .inr ⟨c, by
    unfold cutD HT.sIx
    simp⟩
theorem rounds_S : FnScope ["script", "most", "cells", "cell"] ["script", "most"] d__law_rounds.scope := ⟨rfl, rfl, rfl, by decide +kernel, rfl, by decide +kernel, by decide +kernel⟩
theorem ok_rounds (B : Bis mg) (L : LK w K mg base fa fn tq) {fd : FuncData} (F1 : Fd K d__law_rounds ["script", "most"] fd) (G1 : Df P w K mg base (tbOf K tq) 1 "_law_dice" ["cell"] dDiceA) : FnOk P w K mg base (L2.CX P w) 2 (He.fAd K d__law_rounds.at_) fd ["script", "most"] (toSp K (tbOf K tq) 2 dRoundsA) := by
  refine df_ok (k := 1) L F1 rounds_S dRoundsA (fun As gs R E ⟨_, e, _⟩ => by rw [e]; rfl) fun cdv A outer s H F gs E ex As R X hd hex tbl ok => ?_
  obtain ⟨ns, rfl, rfl, kk⟩ := hd
  refine ws_cons (w1_set 2 ok rfl (.inl rfl) (.of (evp_slL (evp_var 0 rfl (.inl rfl) rfl) .pu evo_no (evo_at (evp_var 1 rfl (.inl rfl) rfl))) ?_))
  refine ws_cons (w1_if (.of (etp_cmp (cmp_eq (α := List Int) ok (evp_var 2 rfl (.inl rfl) rfl) .pu (evp_list (xs := ([] : List Int)) evsp_nil) .pu)) ?_))
  have tail : ∀ c : Int, Ws (bodyY P w K mg base (tbOf K tq) 1 ["script", "most", "cells", "cell"] d__law_rounds.qual d__law_rounds.scope (He.fAd K d__law_rounds.at_) cdv A outer s H F [] E ex) ⟨[some (pu ns), some (pu (1 : Int)), some (pu [c]), none], []⟩ (d__law_rounds.body.drop 2) { nx := fun s' => ∃ n, R (pu ()) (s'.gs.drop n), rt := fun A s' => ∃ n, R A (s'.gs.drop n) } := fun c => by
    refine ws_one (w1_ret (ev_lcT (α := Rf) [("cell", 3)] ok (it_list (xs := [c]) (evp_var 2 rfl (.inl rfl) rfl)) (show BlkOk ["script", "most", "cells", "cell"] d__law_rounds.scope _ _ from blk_by (by decide +kernel)) (fun z => tg_name ok.blk.nd 3 rfl (.inl rfl))
      (fun (i : Nat) (ys : List Rf) (gs' : Gs) => (i = 0 ∧ ys = [] ∧ gs' = []) ∨ (i = 1 ∧ ∃ (q : Addr), ys = [Rf.mk q] ∧ gs' = [(q, dicec)])) (.inl ⟨rfl, rfl, rfl⟩) (fun i ys gs' h hi => ?_) (fun z i x ys gs' D hx h => ?_) ?_))
    · rcases h with ⟨_, e, _⟩ | ⟨_, q, e, _⟩ <;> subst e
      · exact (show 0 < sizeLine by decide)
      · exact (show 1 < sizeLine by decide)
    · rcases h with ⟨rfl, rfl, rfl⟩ | ⟨rfl, _⟩
      · cases hx
        refine ets_nil ?_
        rw [if_pos rfl]
        intro z'
        refine ev_perm (ev_call G1 ok.blk (show 1 ≤ 1 by decide) rfl (.of (evsp_cons (evp_var 3 rfl (.inl rfl) rfl) evsp_nil) ⟨rfl, [], _, .refl _, c, rfl, rfl, fun q => ?_⟩))
        exact ⟨_, .swap _ _ _, Rf.mk q, _, rfl, rfl, .inr ⟨rfl, q, rfl, rfl⟩⟩
      · cases hx
    · intro ys gs' h
      rcases h with ⟨h, _⟩ | ⟨_, q, rfl, rfl⟩
      · cases h
      · exact ⟨0, kk _⟩
  rcases cut1 ns with e | ⟨c, e⟩
  · rw [e]
    refine ws_one (w1_set 2 ok rfl (.inl rfl) (.of (evp_list (α := Int) (xs := [0]) (evsp_cons evp_int evsp_nil)) ?_))
    exact tail 0
  · rw [e]
    rw [if_neg (by simp)]
    exact ws_nil (tail c)
def cls (K : Frag) : Cls_ := [(He.ga K "BadCount", tx "count"), (He.ga K "BadRule", tx "rule"), (He.ga K "BadWord", tx "word"), (He.ga K "NoSuch", tx "no such"), (He.ga K "NoWay", tx "no way"), (He.ga K "TooLarge", tx "large"), (He.ga K "BadText", tx "text")]
theorem ok_told {X : Cx} (L : LK w X.K X.mg base fa fn tq) {fd : FuncData} (F1 : Fd X.K d__law_told ["what"] fd) : Told X "_law_told" (cls X.K) := by
  have g : ∀ i (x : Str), fa[i]? = some (He.Fa.glo x) → X.mg x = some (.ref (He.ga X.K x)) := fun i x h => He.glo_ok L.X L.G (L.d.fact i h)
  exact told_of (Ng := ["what"]) F1 (g 23 _ rfl) rfl rfl ⟨rfl, rfl, rfl, by decide +kernel, rfl, by decide +kernel, by decide +kernel⟩ rfl
    (.cons rfl (g 34 _ rfl) (by decide) (toStr_tx _) (.cons rfl (g 33 _ rfl) (by decide) (toStr_tx _) (.cons rfl (g 32 _ rfl) (by decide) (toStr_tx _) (.cons rfl (g 35 _ rfl) (by decide) (toStr_tx _) (.cons rfl (g 36 _ rfl) (by decide) (toStr_tx _) (.cons rfl (g 37 _ rfl) (by decide) (toStr_tx _) (.cons rfl (g 38 _ rfl) (by decide) (toStr_tx _) .nil)))))))
    rfl (.inl rfl) (by decide) (by decide) (fun f => rfl)
theorem told_tells (c : He.SaysD fa fn K) : ∀ e t, toldT e = some t → Tell K (cls K) (exK K e).C t
  | .BadWord, t, h => by cases h; exact .no (He.exm_ok (c.fact 67 rfl)) (.no (He.exm_ok (c.fact 68 rfl)) (.yes (He.exm_ok (c.fact 69 rfl))))
  | .BadRule, t, h => by cases h; exact .no (He.exm_ok (c.fact 74 rfl)) (.yes (He.exm_ok (c.fact 75 rfl)))
  | .BadCount, t, h => by cases h; exact .yes (He.exm_ok (c.fact 81 rfl))
  | .NoSuch, t, h => by cases h; exact .no (He.exm_ok (c.fact 88 rfl)) (.no (He.exm_ok (c.fact 89 rfl)) (.no (He.exm_ok (c.fact 90 rfl)) (.yes (He.exm_ok (c.fact 91 rfl)))))
  | .NoWay, t, h => by cases h; exact .no (He.exm_ok (c.fact 95 rfl)) (.no (He.exm_ok (c.fact 96 rfl)) (.no (He.exm_ok (c.fact 97 rfl)) (.no (He.exm_ok (c.fact 98 rfl)) (.yes (He.exm_ok (c.fact 99 rfl))))))
  | .TooLarge, t, h => by cases h; exact .no (He.exm_ok (c.fact 102 rfl)) (.no (He.exm_ok (c.fact 103 rfl)) (.no (He.exm_ok (c.fact 104 rfl)) (.no (He.exm_ok (c.fact 105 rfl)) (.no (He.exm_ok (c.fact 106 rfl)) (.yes (He.exm_ok (c.fact 107 rfl)))))))
  | .BadDeed, t, h => by cases h
  | .BadText _, t, h => by cases h; exact .no (He.exm_ok (c.fact 109 rfl)) (.no (He.exm_ok (c.fact 110 rfl)) (.no (He.exm_ok (c.fact 111 rfl)) (.no (He.exm_ok (c.fact 112 rfl)) (.no (He.exm_ok (c.fact 113 rfl)) (.no (He.exm_ok (c.fact 114 rfl)) (.yes (He.exm_ok (c.fact 115 rfl))))))))
  | .BadPaper _, t, h => by cases h
abbrev check_word_N : List Str := ["word", "sign"]
theorem check_word_S : FnScope check_word_N ["word"] d_check_word.scope := ⟨rfl, rfl, rfl, by decide +kernel, rfl, by decide +kernel, by decide +kernel⟩
theorem ok_check_word (B : Bis mg) (L : LK w K mg base fa fn tq) {fd : FuncData} (F1 : Fd K d_check_word ["word"] fd)  : FnOk P w K mg base (L2.CX P w) 3 (He.fAd K d_check_word.at_) fd ["word"] (toSp K (tbOf K tq) 1 (spF K check_word_W)) := by
  refine fn_F (k := 2) (some ()) L F1 check_word_S check_word_W noneUnit (fun _ => rfl) ?_
  intro z t Q E h ye tbl
  obtain ⟨word1, ⟨⟩⟩ := t
  show Ws _ (⟨[some (pu word1), none], []⟩ : DSt) _ _
  refine s_if (B := E .BadWord) (C := Q ()) (t_w (w_orP (y := ((word1.map fun c => [c]).any (fun (x2 : Txt) => (!tin x2 (tx "abcdefghijklmnopqrstuvwxyz"))))) (t_not (t_chainV (24 : Int) c_int (c_lenS B rfl (c_v 0 rfl rfl)) c_int op_le op_le)) (w_or1 (t_v (fun _ => rfl) (c_any0 (.n 1) 0 [1] (word1.map fun c => [c]) (fun (x2 : Txt) => (!tin x2 (tx "abcdefghijklmnopqrstuvwxyz"))) ye.ok B rfl (Nat.le_of_ble_eq_true rfl) (i_txt (c_v 0 rfl rfl)) (show GenOk check_word_N d_check_word.scope _ _ from genOk_by (by decide +kernel)) (tbl _ (List.mem_of_getElem? (i := 0) rfl)) (fun z => (tg_gen ye.ok z 1 rfl)) (fun _ o (x2 : Txt) => (c_k (k_ninS (c_v 1 rfl rfl) (c_gs rfl (He.str_ok L.X L.G (L.d.fact 58 rfl))))))))))) ?_ ?_ (by exact h)
  · intro h
    exact s_raise 0 .BadWord ye (L.err 61 32) rfl rfl rfl (by exact h)
  intro h
  refine ws_nil ?_
  exact ws_nil ⟨⟨0, rfl⟩, _, rfl, h⟩

abbrev letters_in_N : List Str := ["word", "letter"]
theorem letters_in_S : FnScope letters_in_N ["word"] d_letters_in.scope := ⟨rfl, rfl, rfl, by decide +kernel, rfl, by decide +kernel, by decide +kernel⟩
theorem ok_letters_in (B : Bis mg) (L : LK w K mg base fa fn tq) {fd : FuncData} (F1 : Fd K d_letters_in ["word"] fd)  : FnOk P w K mg base (L2.CX P w) 1 (He.fAd K d_letters_in.at_) fd ["word"] (toSp K (tbOf K tq) 1 (spF K letters_in_W)) := by
  refine fn_F (k := 0) none L F1 letters_in_S letters_in_W noneNo (fun _ => rfl) ?_
  intro z t Q E h ye tbl
  obtain ⟨word1, ⟨⟩⟩ := t
  show Ws _ (⟨[some (pu word1), none], []⟩ : DSt) _ _
  refine s_ret (R := fun (v3 : (Tup (Txt × Int))) => Q v3) (c_tupL B rfl (c_l (c_L ye.ok (l_lc (.n 1) [("letter", 1)] (fun (x2 : Txt) => (tin x2 word1)) (fun (x2 : Txt) => (x2, (cntT word1 x2))) ye.ok (i_txt (c_gs rfl (He.str_ok L.X L.G (L.d.fact 58 rfl)))) (show BlkOk letters_in_N d_letters_in.scope _ _ from blk_by (by decide +kernel)) (fun z => (tg_blk ye.ok z 1 rfl)) (fun _ (x2 : Txt) _ _ => ts_one (t_k (k_inS (c_v 1 rfl rfl) (c_v 0 rfl rfl)))) (fun _ (x2 : Txt) _ _ => (c_tup2 (a_cons (c_v 1 rfl rfl) (a_cons (c_cntS (c_v 0 rfl rfl) (c_v 1 rfl rfl)) a_nil)))))))) (by exact h) ?_
  intro v3 h
  try dsimp only
  exact ⟨⟨0, rfl⟩, _, rfl, h⟩

abbrev sorted_letters_N : List Str := ["word"]
theorem sorted_letters_S : FnScope sorted_letters_N ["word"] d_sorted_letters.scope := ⟨rfl, rfl, rfl, by decide +kernel, rfl, by decide +kernel, by decide +kernel⟩
theorem ok_sorted_letters (B : Bis mg) (L : LK w K mg base fa fn tq) {fd : FuncData} (F1 : Fd K d_sorted_letters ["word"] fd)  : FnOk P w K mg base (L2.CX P w) 1 (He.fAd K d_sorted_letters.at_) fd ["word"] (toSp K (tbOf K tq) 1 (spF K sorted_letters_W)) := by
  refine fn_F (k := 0) none L F1 sorted_letters_S sorted_letters_W noneNo (fun _ => rfl) ?_
  intro z t Q E h ye tbl
  obtain ⟨word1, ⟨⟩⟩ := t
  show Ws _ (⟨[some (pu word1)], []⟩ : DSt) _ _
  refine s_ret (R := fun (v2 : Txt) => Q v2) (c_join c_tx (c_l (c_sortedS ye.ok B rfl (c_v 0 rfl rfl)))) (by exact h) ?_
  intro v2 h
  try dsimp only
  exact ⟨⟨0, rfl⟩, _, rfl, h⟩

abbrev same_letters_N : List Str := ["words", "found", "word", "key"]
theorem same_letters_S : FnScope same_letters_N ["words"] d_same_letters.scope := ⟨rfl, rfl, rfl, by decide +kernel, rfl, by decide +kernel, by decide +kernel⟩
theorem ok_same_letters (B : Bis mg) (L : LK w K mg base fa fn tq) {fd : FuncData} (F1 : Fd K d_same_letters ["words"] fd) (G_sorted_letters : Df P w K mg base (tbOf K tq) 1 "sorted_letters" ["word"] (spF K sorted_letters_W)) : FnOk P w K mg base (L2.CX P w) 2 (He.fAd K d_same_letters.at_) fd ["words"] (toSp K (tbOf K tq) 1 (spF K same_letters_W)) := by
  refine fn_F (k := 1) none L F1 same_letters_S same_letters_W noneNo (fun _ => rfl) ?_
  intro z t Q E h ye tbl
  obtain ⟨words1, ⟨⟩⟩ := t
  show Ws _ (⟨[some (pu words1), none, none, none], []⟩ : DSt) _ _
  refine s_asgG (κ := Txt) (α := Txt) (R := (same_letters_w3 words1 Q E)) 1 (fun _ => 0) ye.ok rfl ?_ (by exact h)
  intro q2 h
  try dsimp only
  show Ws _ (⟨[some (pu words1), some (raw (.ref q2)), none, none], [(q2, dctc (grefs ([] : List (Txt × (List Txt))) (fun _ => 0)))] ++ gcells ([] : List (Txt × (List Txt))) (fun _ => 0)⟩ : DSt) _ _
  refine s_for (Z := (List (Txt × (List Txt)))) (J := Option Pv × (Nat → Addr)) (Body := (fun (x4 : Txt) (z5 : (List (Txt × (List Txt)))) (nx7 : (List (Txt × (List Txt))) → Prop) => (same_letters_w1 x4 nx7 z5 E))) (Rest := (fun (z13 : (List (Txt × (List Txt)))) => (same_letters_w2 z13 Q))) (.n 2) (fun (z5 : (List (Txt × (List Txt)))) (j6 : Option Pv × (Nat → Addr)) => (⟨[some (pu words1), some (raw (.ref q2)), j6.1, none], [(q2, dctc (grefs z5 (j6.2)))] ++ gcells z5 (j6.2)⟩ : DSt)) ([] : List (Txt × (List Txt))) (none, (fun _ => 0)) ye.ok (i_list (c_sortedD ye.ok B rfl (c_d (c_dictL ye.ok B rfl (c_l (c_L ye.ok (l_lc0 (.n 2) [("word", 2)] (fun (x3 : Txt) => (x3, (1 : Int))) ye.ok (i_list (c_v 0 rfl rfl)) (show BlkOk same_letters_N d_same_letters.scope _ _ from blk_by (by decide +kernel)) (fun z => (tg_blk ye.ok z 2 rfl)) (fun _ (x3 : Txt) _ _ => (c_tup2 (a_cons (c_v 2 rfl rfl) (a_cons c_int a_nil))))))))))) (tg_nm ye.ok.nd 2 rfl) rfl ?_ ?_ (by exact h)
  · intro x4 found8 j6 nx7 h
    try dsimp only
    show Ws _ (⟨[some (pu words1), some (raw (.ref q2)), some (pu x4), none], [(q2, dctc (grefs found8 (j6.2)))] ++ gcells found8 (j6.2)⟩ : DSt) _ _
    refine s_grp (R := fun (k10 : Txt) (v11 : Txt) => nx7 (grp found8 k10 v11)) (m := found8) (fA := (j6.2)) (front := [(q2, dctc (grefs found8 (j6.2)))]) 1 0 rfl rfl rfl rfl (c_call (w := sorted_letters_W) (List.length ([(q2, dctc (grefs found8 (j6.2)))] ++ gcells found8 (j6.2))) ye G_sorted_letters (Nat.le_of_ble_eq_true rfl) rfl (a_cons (c_v 2 rfl rfl) a_nil) (fun _ => rfl) List.drop_length) (fun _ => (c_v 2 rfl rfl)) ?_ (by exact h)
    intro k10 v11 f12 h
    try dsimp only
    show Ws _ (⟨[some (pu words1), some (raw (.ref q2)), some (pu x4), none], [(q2, dctc (grefs (grp found8 k10 v11) f12))] ++ gcells (grp found8 k10 v11) f12⟩ : DSt) _ _
    exact ws_nil ⟨(grp found8 k10 v11), (some (pu x4), f12), rfl, h⟩
  intro found15 j14 h
  try dsimp only
  show Ws _ (⟨[some (pu words1), some (raw (.ref q2)), j14.1, none], [(q2, dctc (grefs found15 (j14.2)))] ++ gcells found15 (j14.2)⟩ : DSt) _ _
  refine ws_frG (m := found15) (f := (j14.2)) (front := [(q2, dctc (grefs found15 (j14.2)))]) 1 0 rfl rfl rfl ?_
  refine s_ret (R := fun (v17 : (Tup (Tup Txt))) => Q v17) (c_tupL B rfl (c_l (c_L ye.ok (l_lc (.n 3) [("key", 3)] (fun (x16 : Txt) => (decide ((1 : Int) < (List.length (dgt (Dct.mk found15).kvs x16) : Int)))) (fun (x16 : Txt) => (PySem.W.Tup.mk (dgt (Dct.mk found15).kvs x16))) ye.ok (i_list (c_sortedD ye.ok B rfl (c_d (c_v 1 rfl rfl)))) (show BlkOk same_letters_N d_same_letters.scope _ _ from blk_by (by decide +kernel)) (fun z => (tg_blk ye.ok z 3 rfl)) (fun _ (x16 : Txt) _ _ => ts_one (t_k (k_gt (c_lenL B rfl (c_l (c_dget ye.ok.blk (c_d (c_v 1 rfl rfl)) (c_v 3 rfl rfl)))) c_int))) (fun _ (x16 : Txt) _ _ => (c_tupL B rfl (c_l (c_dget ye.ok.blk (c_d (c_v 1 rfl rfl)) (c_v 3 rfl rfl))))))))) (by exact h) ?_
  intro v17 h
  try dsimp only
  exact ⟨⟨0, rfl⟩, _, rfl, h⟩

abbrev can_be_made_N : List Str := ["word", "letters", "left", "lack", "letter"]
theorem can_be_made_S : FnScope can_be_made_N ["word", "letters"] d_can_be_made.scope := ⟨rfl, rfl, rfl, by decide +kernel, rfl, by decide +kernel, by decide +kernel⟩
theorem ok_can_be_made (B : Bis mg) (L : LK w K mg base fa fn tq) {fd : FuncData} (F1 : Fd K d_can_be_made ["word", "letters"] fd)  : FnOk P w K mg base (L2.CX P w) 1 (He.fAd K d_can_be_made.at_) fd ["word", "letters"] (toSp K (tbOf K tq) 2 (spF K can_be_made_W)) := by
  refine fn_F (k := 0) none L F1 can_be_made_S can_be_made_W noneNo (fun _ => rfl) ?_
  intro z t Q E h ye tbl
  obtain ⟨word1, letters2, ⟨⟩⟩ := t
  show Ws _ (⟨[some (pu word1), some (pu letters2), none, none, none], []⟩ : DSt) _ _
  refine s_asgN (R := fun (left3 : List Txt) => (can_be_made_w4 word1 left3 (0 : Int) Q)) 2 ye.ok rfl (n_listS ye.ok B rfl (c_v 1 rfl rfl)) ?_ (by exact h)
  intro q4 left3 h
  try dsimp only
  show Ws _ (⟨[some (pu word1), some (pu letters2), some (raw (.ref q4)), none, none], [(q4, lstc left3)]⟩ : DSt) _ _
  refine s_asg (R := fun (lack5 : Int) => (can_be_made_w4 word1 left3 lack5 Q)) 3 ye.ok rfl c_int ?_ (by exact h)
  intro lack5 h
  try dsimp only
  show Ws _ (⟨[some (pu word1), some (pu letters2), some (raw (.ref q4)), some (pu lack5), none], [(q4, lstc left3)]⟩ : DSt) _ _
  refine s_for (Z := (List Txt) × Int) (J := Option Pv) (Body := (fun (x6 : Txt) (z7 : (List Txt) × Int) (nx9 : (List Txt) × Int → Prop) => (can_be_made_w2 x6 nx9 z7.1 z7.2))) (Rest := (fun (z19 : (List Txt) × Int) => (can_be_made_w3 z19.1 z19.2 Q))) (.n 4) (fun (z7 : (List Txt) × Int) (j8 : Option Pv) => (⟨[some (pu word1), some (pu letters2), some (raw (.ref q4)), some (pu (z7.2 : Int)), j8], [(q4, lstc (z7.1))]⟩ : DSt)) (left3, lack5) none ye.ok (i_txt (c_v 0 rfl rfl)) (tg_nm ye.ok.nd 4 rfl) rfl ?_ ?_ (by exact h)
  · intro x6 z7 j8 nx9 h
    try dsimp only
    obtain ⟨left10, lack11⟩ := z7
    show Ws _ (⟨[some (pu word1), some (pu letters2), some (raw (.ref q4)), some (pu lack11), some (pu x6)], [(q4, lstc left10)]⟩ : DSt) _ _
    refine s_ifJ (Z := (List Txt) × Int) (J := Unit) (Rest := (fun (z12 : (List Txt) × Int) => (can_be_made_w1 nx9 z12.1 z12.2))) (B := fun nx14 => (x6 ∈ left10 ∧ nx14 ((erL left10 x6), lack11))) (C := fun nx14 => nx14 (left10, (lack11 + (1 : Int)))) (fun (z12 : (List Txt) × Int) (j13 : Unit) => (⟨[some (pu word1), some (pu letters2), some (raw (.ref q4)), some (pu (z12.2 : Int)), some (pu x6)], [(q4, lstc (z12.1))]⟩ : DSt)) (t_k (k_in ye.ok (c_v 4 rfl rfl) (l_own 2 0 rfl rfl rfl))) ?_ ?_ ?_ (by exact h)
    · intro nx14 h
      try dsimp only
      refine s_remove (R := fun (v15 : Txt) => nx14 ((erL left10 v15), lack11)) 2 0 ye.ok rfl rfl rfl (c_v 4 rfl rfl) ?_ (by exact h)
      intro v15 h
      try dsimp only
      show Ws _ (⟨[some (pu word1), some (pu letters2), some (raw (.ref q4)), some (pu lack11), some (pu x6)], [(q4, lstc (erL left10 v15))]⟩ : DSt) _ _
      exact ws_nil ⟨((erL left10 v15), lack11), (), rfl, h⟩
    · intro nx14 h
      try dsimp only
      refine s_augAdd (R := fun (lack16 : Int) => nx14 (left10, lack16)) 3 ye.ok rfl rfl c_int ?_ (by exact h)
      intro lack16 h
      try dsimp only
      show Ws _ (⟨[some (pu word1), some (pu letters2), some (raw (.ref q4)), some (pu lack16), some (pu x6)], [(q4, lstc left10)]⟩ : DSt) _ _
      exact ws_nil ⟨(left10, lack16), (), rfl, h⟩
    intro z12 j13 h
    try dsimp only
    obtain ⟨left17, lack18⟩ := z12
    show Ws _ (⟨[some (pu word1), some (pu letters2), some (raw (.ref q4)), some (pu lack18), some (pu x6)], [(q4, lstc left17)]⟩ : DSt) _ _
    exact ws_nil ⟨(left17, lack18), some (pu x6), rfl, h⟩
  intro z19 j20 h
  try dsimp only
  obtain ⟨left21, lack22⟩ := z19
  show Ws _ (⟨[some (pu word1), some (pu letters2), some (raw (.ref q4)), some (pu lack22), j20], [(q4, lstc left21)]⟩ : DSt) _ _
  refine s_ret (R := fun (v23 : Bool) => Q v23) (c_k (k_le (c_v 3 rfl rfl) (c_cntL ye.ok (l_own 2 0 rfl rfl rfl) c_tx))) (by exact h) ?_
  intro v23 h
  try dsimp only
  exact ⟨⟨1, rfl⟩, _, rfl, h⟩

abbrev shape_of_N : List Str := ["word", "seen", "letter"]
theorem shape_of_S : FnScope shape_of_N ["word"] d_shape_of.scope := ⟨rfl, rfl, rfl, by decide +kernel, rfl, by decide +kernel, by decide +kernel⟩
theorem ok_shape_of (B : Bis mg) (L : LK w K mg base fa fn tq) {fd : FuncData} (F1 : Fd K d_shape_of ["word"] fd)  : FnOk P w K mg base (L2.CX P w) 1 (He.fAd K d_shape_of.at_) fd ["word"] (toSp K (tbOf K tq) 1 (spF K shape_of_W)) := by
  refine fn_F (k := 0) none L F1 shape_of_S shape_of_W noneNo (fun _ => rfl) ?_
  intro z t Q E h ye tbl
  obtain ⟨word1, ⟨⟩⟩ := t
  show Ws _ (⟨[some (pu word1), none, none], []⟩ : DSt) _ _
  refine s_asgN (R := fun (seen2 : List Txt) => (shape_of_w4 word1 seen2 Q)) 1 ye.ok rfl (n_list (s_nil (α := Txt))) ?_ (by exact h)
  intro q3 seen2 h
  try dsimp only
  show Ws _ (⟨[some (pu word1), some (raw (.ref q3)), none], [(q3, lstc seen2)]⟩ : DSt) _ _
  refine s_for (Z := (List Txt)) (J := Option Pv) (Body := (fun (x4 : Txt) (z5 : (List Txt)) (nx7 : (List Txt) → Prop) => (shape_of_w2 x4 nx7 z5))) (Rest := (fun (z14 : (List Txt)) => (shape_of_w3 word1 z14 Q))) (.n 2) (fun (z5 : (List Txt)) (j6 : Option Pv) => (⟨[some (pu word1), some (raw (.ref q3)), j6], [(q3, lstc z5)]⟩ : DSt)) seen2 none ye.ok (i_txt (c_v 0 rfl rfl)) (tg_nm ye.ok.nd 2 rfl) rfl ?_ ?_ (by exact h)
  · intro x4 seen8 j6 nx7 h
    try dsimp only
    show Ws _ (⟨[some (pu word1), some (raw (.ref q3)), some (pu x4)], [(q3, lstc seen8)]⟩ : DSt) _ _
    refine s_ifJ (Z := (List Txt)) (J := Unit) (Rest := (fun (z9 : (List Txt)) => (shape_of_w1 nx7 z9))) (B := fun nx11 => (seen8.length < sizeLine ∧ nx11 (seen8 ++ [x4]))) (C := fun nx11 => nx11 seen8) (fun (z9 : (List Txt)) (j10 : Unit) => (⟨[some (pu word1), some (raw (.ref q3)), some (pu x4)], [(q3, lstc z9)]⟩ : DSt)) (t_k (k_nin ye.ok (c_v 2 rfl rfl) (l_own 1 0 rfl rfl rfl))) ?_ ?_ ?_ (by exact h)
    · intro nx11 h
      try dsimp only
      refine s_append (R := fun (v12 : Txt) => nx11 (seen8 ++ [v12])) 1 0 rfl rfl rfl (c_v 2 rfl rfl) ?_ (by exact h)
      intro v12 h
      try dsimp only
      show Ws _ (⟨[some (pu word1), some (raw (.ref q3)), some (pu x4)], [(q3, lstc (seen8 ++ [v12]))]⟩ : DSt) _ _
      exact ws_nil ⟨(seen8 ++ [v12]), (), rfl, h⟩
    · intro nx11 h
      try dsimp only
      exact ws_nil ⟨seen8, (), rfl, h⟩
    intro seen13 j10 h
    try dsimp only
    show Ws _ (⟨[some (pu word1), some (raw (.ref q3)), some (pu x4)], [(q3, lstc seen13)]⟩ : DSt) _ _
    exact ws_nil ⟨seen13, some (pu x4), rfl, h⟩
  intro seen16 j15 h
  try dsimp only
  show Ws _ (⟨[some (pu word1), some (raw (.ref q3)), j15], [(q3, lstc seen16)]⟩ : DSt) _ _
  refine s_ret (R := fun (v18 : Txt) => Q v18) (c_join c_tx (c_l (c_L ye.ok (l_lc0 (.n 2) [("letter", 2)] (fun (x17 : Txt) => (ixS (tx "abcdefghijklmnopqrstuvwxyz") (idx seen16 x17 : Int))) ye.ok (i_txt (c_v 0 rfl rfl)) (show BlkOk shape_of_N d_shape_of.scope _ _ from blk_by (by decide +kernel)) (fun z => (tg_blk ye.ok z 2 rfl)) (fun _ (x17 : Txt) _ _ => (c_ixS (c_gs rfl (He.str_ok L.X L.G (L.d.fact 58 rfl))) (c_idxL ye.ok.blk (l_own 1 1 rfl rfl rfl) (c_v 2 rfl rfl)))))))) (by exact h) ?_
  intro v18 h
  try dsimp only
  exact ⟨⟨1, rfl⟩, _, rfl, h⟩

abbrev turned_N : List Str := ["word"]
theorem turned_S : FnScope turned_N ["word"] d_turned.scope := ⟨rfl, rfl, rfl, by decide +kernel, rfl, by decide +kernel, by decide +kernel⟩
theorem ok_turned (B : Bis mg) (L : LK w K mg base fa fn tq) {fd : FuncData} (F1 : Fd K d_turned ["word"] fd)  : FnOk P w K mg base (L2.CX P w) 1 (He.fAd K d_turned.at_) fd ["word"] (toSp K (tbOf K tq) 1 (spF K turned_W)) := by
  refine fn_F (k := 0) none L F1 turned_S turned_W noneNo (fun _ => rfl) ?_
  intro z t Q E h ye tbl
  obtain ⟨word1, ⟨⟩⟩ := t
  show Ws _ (⟨[some (pu word1)], []⟩ : DSt) _ _
  refine s_ret (R := fun (v2 : Txt) => Q v2) (c_join c_tx (c_l (c_listRevS ye.ok B rfl rfl (c_v 0 rfl rfl)))) (by exact h) ?_
  intro v2 h
  try dsimp only
  exact ⟨⟨0, rfl⟩, _, rfl, h⟩

abbrev is_same_backward_N : List Str := ["word"]
theorem is_same_backward_S : FnScope is_same_backward_N ["word"] d_is_same_backward.scope := ⟨rfl, rfl, rfl, by decide +kernel, rfl, by decide +kernel, by decide +kernel⟩
theorem ok_is_same_backward (B : Bis mg) (L : LK w K mg base fa fn tq) {fd : FuncData} (F1 : Fd K d_is_same_backward ["word"] fd) (G_turned : Df P w K mg base (tbOf K tq) 1 "turned" ["word"] (spF K turned_W)) : FnOk P w K mg base (L2.CX P w) 2 (He.fAd K d_is_same_backward.at_) fd ["word"] (toSp K (tbOf K tq) 1 (spF K is_same_backward_W)) := by
  refine fn_F (k := 1) none L F1 is_same_backward_S is_same_backward_W noneNo (fun _ => rfl) ?_
  intro z t Q E h ye tbl
  obtain ⟨word1, ⟨⟩⟩ := t
  show Ws _ (⟨[some (pu word1)], []⟩ : DSt) _ _
  refine s_ret (R := fun (v3 : Bool) => Q v3) (c_k (k_eq ye.ok (c_v 0 rfl rfl) (c_call (w := turned_W) 0 ye G_turned (Nat.le_of_ble_eq_true rfl) rfl (a_cons (c_v 0 rfl rfl) a_nil) (fun _ => rfl) rfl))) (by exact h) ?_
  intro v3 h
  try dsimp only
  exact ⟨⟨0, rfl⟩, _, rfl, h⟩

abbrev longest_backward_N : List Str := ["word", "best", "first", "last", "part"]
theorem longest_backward_S : FnScope longest_backward_N ["word"] d_longest_backward.scope := ⟨rfl, rfl, rfl, by decide +kernel, rfl, by decide +kernel, by decide +kernel⟩
theorem ok_longest_backward (B : Bis mg) (L : LK w K mg base fa fn tq) {fd : FuncData} (F1 : Fd K d_longest_backward ["word"] fd) (G_is_same_backward : Df P w K mg base (tbOf K tq) 2 "is_same_backward" ["word"] (spF K is_same_backward_W)) : FnOk P w K mg base (L2.CX P w) 3 (He.fAd K d_longest_backward.at_) fd ["word"] (toSp K (tbOf K tq) 1 (spF K longest_backward_W)) := by
  refine fn_F (k := 2) none L F1 longest_backward_S longest_backward_W noneNo (fun _ => rfl) ?_
  intro z t Q E h ye tbl
  obtain ⟨word1, ⟨⟩⟩ := t
  show Ws _ (⟨[some (pu word1), none, none, none, none], []⟩ : DSt) _ _
  refine s_asg (R := fun (best2 : Txt) => (longest_backward_w7 word1 best2 Q E)) 1 ye.ok rfl c_tx ?_ (by exact h)
  intro best2 h
  try dsimp only
  show Ws _ (⟨[some (pu word1), some (pu best2), none, none, none], []⟩ : DSt) _ _
  refine s_for (Z := Txt) (J := Option Pv × Option Pv × Option Pv) (Body := (fun (x3 : Int) (z4 : Txt) (nx6 : Txt → Prop) => (longest_backward_w5 word1 x3 nx6 z4 E))) (Rest := (fun (z23 : Txt) => (longest_backward_w6 z23 Q))) (.n 2) (fun (z4 : Txt) (j5 : Option Pv × Option Pv × Option Pv) => (⟨[some (pu word1), some (pu (z4 : Txt)), j5.1, j5.2.1, j5.2.2], []⟩ : DSt)) best2 (none, none, none) ye.ok (i_range1 ye.ok B rfl (c_lenS B rfl (c_v 0 rfl rfl))) (tg_nm ye.ok.nd 2 rfl) rfl ?_ ?_ (by exact h)
  · intro x3 best7 j5 nx6 h
    try dsimp only
    show Ws _ (⟨[some (pu word1), some (pu best7), some (pu x3), j5.2.1, j5.2.2], []⟩ : DSt) _ _
    refine s_for (Z := Txt) (J := Option Pv × Option Pv) (Body := (fun (x8 : Int) (z9 : Txt) (nx11 : Txt → Prop) => (longest_backward_w3 word1 x3 x8 nx11 z9 E))) (Rest := (fun (z20 : Txt) => (longest_backward_w4 nx6 z20))) (.n 3) (fun (z9 : Txt) (j10 : Option Pv × Option Pv) => (⟨[some (pu word1), some (pu (z9 : Txt)), some (pu x3), j10.1, j10.2], []⟩ : DSt)) best7 (j5.2.1, j5.2.2) ye.ok (i_range2 ye.ok B rfl (c_add (c_v 2 rfl rfl) c_int) (c_add (c_lenS B rfl (c_v 0 rfl rfl)) c_int)) (tg_nm ye.ok.nd 3 rfl) rfl ?_ ?_ (by exact h)
    · intro x8 best12 j10 nx11 h
      try dsimp only
      show Ws _ (⟨[some (pu word1), some (pu best12), some (pu x3), some (pu x8), j10.2], []⟩ : DSt) _ _
      refine s_asg (R := fun (part13 : Txt) => (longest_backward_w2 nx11 best12 part13 E)) 4 ye.ok rfl (c_slS (c_v 0 rfl rfl) (o_at (c_v 2 rfl rfl)) (o_at (c_v 3 rfl rfl))) ?_ (by exact h)
      intro part13 h
      try dsimp only
      show Ws _ (⟨[some (pu word1), some (pu best12), some (pu x3), some (pu x8), some (pu part13)], []⟩ : DSt) _ _
      refine s_ifJ (Z := Txt) (J := Unit) (Rest := (fun (z15 : Txt) => (longest_backward_w1 nx11 z15))) (B := fun nx17 => nx17 part13) (C := fun nx17 => nx17 best12) (fun (z15 : Txt) (j16 : Unit) => (⟨[some (pu word1), some (pu (z15 : Txt)), some (pu x3), some (pu x8), some (pu part13)], []⟩ : DSt)) (t_w (w_and (t_k (k_gt (c_lenS B rfl (c_v 4 rfl rfl)) (c_lenS B rfl (c_v 1 rfl rfl)))) (w_and1 (t_v (fun _ => rfl) (c_call (w := is_same_backward_W) 0 ye G_is_same_backward (Nat.le_of_ble_eq_true rfl) rfl (a_cons (c_v 4 rfl rfl) a_nil) (fun _ => rfl) rfl))))) ?_ ?_ ?_ (by exact h)
      · intro nx17 h
        try dsimp only
        refine s_asg (R := fun (best18 : Txt) => nx17 best18) 1 ye.ok rfl (c_v 4 rfl rfl) ?_ (by exact h)
        intro best18 h
        try dsimp only
        show Ws _ (⟨[some (pu word1), some (pu best18), some (pu x3), some (pu x8), some (pu part13)], []⟩ : DSt) _ _
        exact ws_nil ⟨best18, (), rfl, h⟩
      · intro nx17 h
        try dsimp only
        exact ws_nil ⟨best12, (), rfl, h⟩
      intro best19 j16 h
      try dsimp only
      show Ws _ (⟨[some (pu word1), some (pu best19), some (pu x3), some (pu x8), some (pu part13)], []⟩ : DSt) _ _
      exact ws_nil ⟨best19, (some (pu x8), some (pu part13)), rfl, h⟩
    intro best22 j21 h
    try dsimp only
    show Ws _ (⟨[some (pu word1), some (pu best22), some (pu x3), j21.1, j21.2], []⟩ : DSt) _ _
    exact ws_nil ⟨best22, (some (pu x3), j21.1, j21.2), rfl, h⟩
  intro best25 j24 h
  try dsimp only
  show Ws _ (⟨[some (pu word1), some (pu best25), j24.1, j24.2.1, j24.2.2], []⟩ : DSt) _ _
  refine s_ret (R := fun (v26 : Txt) => Q v26) (c_v 1 rfl rfl) (by exact h) ?_
  intro v26 h
  try dsimp only
  exact ⟨⟨0, rfl⟩, _, rfl, h⟩

abbrev beats_N : List Str := ["word", "found", "k", "letter"]
theorem beats_S : FnScope beats_N ["word"] d_beats.scope := ⟨rfl, rfl, rfl, by decide +kernel, rfl, by decide +kernel, by decide +kernel⟩
theorem ok_beats (B : Bis mg) (L : LK w K mg base fa fn tq) {fd : FuncData} (F1 : Fd K d_beats ["word"] fd)  : FnOk P w K mg base (L2.CX P w) 3 (He.fAd K d_beats.at_) fd ["word"] (toSp K (tbOf K tq) 1 (spF K beats_W)) := by
  refine fn_F (k := 2) none L F1 beats_S beats_W noneNo (fun _ => rfl) ?_
  intro z t Q E h ye tbl
  obtain ⟨word1, ⟨⟩⟩ := t
  show Ws _ (⟨[some (pu word1), none, none, none], []⟩ : DSt) _ _
  refine s_asg (R := fun (found3 : Int) => Q (max (1 : Int) found3)) 1 ye.ok rfl (c_sumG (.p (.n 2) (.n 3)) 0 [2, 3] (enumD (word1.map fun c => [c])) (fun (x2 : (Int × Txt)) => ((tin x2.2 (tx "aeiou")) && ((decide (x2.1 = (0 : Int))) || (!tin (ixS word1 (x2.1 - (1 : Int))) (tx "aeiou"))))) (fun (x2 : (Int × Txt)) => (1 : Int)) ye.ok B rfl (Nat.le_of_ble_eq_true rfl) (i_enumS ye.ok B rfl (c_v 0 rfl rfl)) (show GenOk beats_N d_beats.scope _ _ from genOk_by (by decide +kernel)) (tbl _ (List.mem_of_getElem? (i := 1) rfl)) (fun z => (tg_pair (gen_calm z) (tg_gen ye.ok z 2 rfl) (tg_gen ye.ok z 3 rfl))) (fun _ o (x2 : (Int × Txt)) => ts_one (t_w (w_andP (y := ((decide (x2.1 = (0 : Int))) || (!tin (ixS word1 (x2.1 - (1 : Int))) (tx "aeiou")))) (t_k (k_inS (c_v 3 rfl rfl) (c_gs rfl (He.str_ok L.X L.G (L.d.fact 59 rfl))))) (w_and1 (t_w (w_orP (y := (!tin (ixS word1 (x2.1 - (1 : Int))) (tx "aeiou"))) (t_k (k_eq o (c_v 2 rfl rfl) c_int)) (w_or1 (t_k (k_ninS (c_ixS (c_v 0 rfl rfl) (c_sub (c_v 2 rfl rfl) c_int)) (c_gs rfl (He.str_ok L.X L.G (L.d.fact 59 rfl)))))))))))) (fun _ o (x2 : (Int × Txt)) => c_int)) ?_ (by exact h)
  intro found3 h
  try dsimp only
  show Ws _ (⟨[some (pu word1), some (pu found3), none, none], []⟩ : DSt) _ _
  refine s_ret (R := fun (v4 : Int) => Q v4) (c_max2 ye.ok B rfl c_int (c_v 1 rfl rfl)) (by exact h) ?_
  intro v4 h
  try dsimp only
  exact ⟨⟨0, rfl⟩, _, rfl, h⟩

abbrev pattern_of_N : List Str := ["word", "letter"]
theorem pattern_of_S : FnScope pattern_of_N ["word"] d_pattern_of.scope := ⟨rfl, rfl, rfl, by decide +kernel, rfl, by decide +kernel, by decide +kernel⟩
theorem ok_pattern_of (B : Bis mg) (L : LK w K mg base fa fn tq) {fd : FuncData} (F1 : Fd K d_pattern_of ["word"] fd)  : FnOk P w K mg base (L2.CX P w) 1 (He.fAd K d_pattern_of.at_) fd ["word"] (toSp K (tbOf K tq) 1 (spF K pattern_of_W)) := by
  refine fn_F (k := 0) none L F1 pattern_of_S pattern_of_W noneNo (fun _ => rfl) ?_
  intro z t Q E h ye tbl
  obtain ⟨word1, ⟨⟩⟩ := t
  show Ws _ (⟨[some (pu word1), none], []⟩ : DSt) _ _
  refine s_ret (R := fun (v3 : Txt) => Q v3) (c_join c_tx (c_l (c_L ye.ok (l_lc0 (.n 1) [("letter", 1)] (fun (x2 : Txt) => (if (tin x2 (tx "aeiou")) = true then (tx "v") else (tx "c"))) ye.ok (i_txt (c_v 0 rfl rfl)) (show BlkOk pattern_of_N d_pattern_of.scope _ _ from blk_by (by decide +kernel)) (fun z => (tg_blk ye.ok z 1 rfl)) (fun _ (x2 : Txt) _ _ => (c_ifP (u := (tx "v")) (w := (tx "c")) (t_k (k_inS (c_v 1 rfl rfl) (c_gs rfl (He.str_ok L.X L.G (L.d.fact 59 rfl))))) c_tx c_tx)))))) (by exact h) ?_
  intro v3 h
  try dsimp only
  exact ⟨⟨0, rfl⟩, _, rfl, h⟩

abbrev common_start_N : List Str := ["words", "least", "most", "k"]
theorem common_start_S : FnScope common_start_N ["words"] d_common_start.scope := ⟨rfl, rfl, rfl, by decide +kernel, rfl, by decide +kernel, by decide +kernel⟩
theorem ok_common_start (B : Bis mg) (L : LK w K mg base fa fn tq) {fd : FuncData} (F1 : Fd K d_common_start ["words"] fd)  : FnOk P w K mg base (L2.CX P w) 1 (He.fAd K d_common_start.at_) fd ["words"] (toSp K (tbOf K tq) 1 (spF K common_start_W)) := by
  refine fn_F (k := 0) none L F1 common_start_S common_start_W noneNo (fun _ => rfl) ?_
  intro z t Q E h ye tbl
  obtain ⟨words1, ⟨⟩⟩ := t
  show Ws _ (⟨[some (pu words1), none, none, none], []⟩ : DSt) _ _
  refine s_if (B := Q (tx "")) (C := (common_start_w4 words1 Q)) (t_k (k_eq ye.ok (c_lenL B rfl (c_l (c_v 0 rfl rfl))) c_int)) ?_ ?_ (by exact h)
  · intro h
    refine s_ret (R := fun (v2 : Txt) => Q v2) c_tx (by exact h) ?_
    intro v2 h
    try dsimp only
    exact ⟨⟨0, rfl⟩, _, rfl, h⟩
  intro h
  refine ws_nil ?_
  refine s_par (R := fun (least3 : Txt) (most4 : Txt) => (common_start_w3 least3 most4 (0 : Int) Q)) 1 2 ye.ok rfl rfl (c_min ye.ok B rfl (c_l (c_v 0 rfl rfl))) (c_max ye.ok B rfl (c_l (c_v 0 rfl rfl))) ?_ (by exact h)
  intro least3 most4 h
  try dsimp only
  show Ws _ (⟨[some (pu words1), some (pu least3), some (pu most4), none], []⟩ : DSt) _ _
  refine s_asg (R := fun (k5 : Int) => (common_start_w3 least3 most4 k5 Q)) 3 ye.ok rfl c_int ?_ (by exact h)
  intro k5 h
  try dsimp only
  show Ws _ (⟨[some (pu words1), some (pu least3), some (pu most4), some (pu k5)], []⟩ : DSt) _ _
  refine s_while (Z := Int) (J := Unit) (Cond := (fun (z6 : Int) (k10 : Bool → Prop) => (least3.length ≤ sizeLine ∧ (most4.length ≤ sizeLine ∧ (((decide (z6 < (min (least3.length : Int) (most4.length : Int)))) = true → (least3.length ≤ sizeLine ∧ inR least3.length z6 ∧ (most4.length ≤ sizeLine ∧ inR most4.length z6 ∧ (decide ((ixS least3 z6) = (ixS most4 z6))) = (decide ((ixS least3 z6) = (ixS most4 z6)))))) ∧ k10 ((decide (z6 < (min (least3.length : Int) (most4.length : Int)))) && (decide ((ixS least3 z6) = (ixS most4 z6))))))))) (Body := (fun (z6 : Int) (nx8 : Int → Prop) => (common_start_w1 nx8 z6))) (Rest := (fun (z12 : Int) => (common_start_w2 least3 z12 Q))) (fun (z6 : Int) (j7 : Unit) => (⟨[some (pu words1), some (pu least3), some (pu most4), some (pu (z6 : Int))], []⟩ : DSt)) k5 () ye.ok rfl (fun z6 j7 => (t_w (w_andP (y := (decide ((ixS least3 z6) = (ixS most4 z6)))) (t_k (k_lt (c_v 3 rfl rfl) (c_min2 ye.ok B rfl (c_lenS B rfl (c_v 1 rfl rfl)) (c_lenS B rfl (c_v 2 rfl rfl))))) (w_and1 (t_k (k_eq ye.ok (c_ixS (c_v 1 rfl rfl) (c_v 3 rfl rfl)) (c_ixS (c_v 2 rfl rfl) (c_v 3 rfl rfl)))))))) ?_ ?_ (by exact h)
  · intro k9 j7 nx8 h
    try dsimp only
    show Ws _ (⟨[some (pu words1), some (pu least3), some (pu most4), some (pu k9)], []⟩ : DSt) _ _
    refine s_augAdd (R := fun (k11 : Int) => nx8 k11) 3 ye.ok rfl rfl c_int ?_ (by exact h)
    intro k11 h
    try dsimp only
    show Ws _ (⟨[some (pu words1), some (pu least3), some (pu most4), some (pu k11)], []⟩ : DSt) _ _
    exact ws_nil ⟨k11, (), rfl, h⟩
  intro k14 j13 h
  try dsimp only
  show Ws _ (⟨[some (pu words1), some (pu least3), some (pu most4), some (pu k14)], []⟩ : DSt) _ _
  refine s_ret (R := fun (v15 : Txt) => Q v15) (c_slS (c_v 1 rfl rfl) o_no (o_at (c_v 3 rfl rfl))) (by exact h) ?_
  intro v15 h
  try dsimp only
  exact ⟨⟨0, rfl⟩, _, rfl, h⟩

abbrev common_end_N : List Str := ["words", "word"]
theorem common_end_S : FnScope common_end_N ["words"] d_common_end.scope := ⟨rfl, rfl, rfl, by decide +kernel, rfl, by decide +kernel, by decide +kernel⟩
theorem ok_common_end (B : Bis mg) (L : LK w K mg base fa fn tq) {fd : FuncData} (F1 : Fd K d_common_end ["words"] fd) (G_turned : Df P w K mg base (tbOf K tq) 1 "turned" ["word"] (spF K turned_W)) (G_common_start : Df P w K mg base (tbOf K tq) 1 "common_start" ["words"] (spF K common_start_W)) : FnOk P w K mg base (L2.CX P w) 2 (He.fAd K d_common_end.at_) fd ["words"] (toSp K (tbOf K tq) 1 (spF K common_end_W)) := by
  refine fn_F (k := 1) none L F1 common_end_S common_end_W noneNo (fun _ => rfl) ?_
  intro z t Q E h ye tbl
  obtain ⟨words1, ⟨⟩⟩ := t
  show Ws _ (⟨[some (pu words1), none], []⟩ : DSt) _ _
  refine s_ret (R := fun (v7 : Txt) => Q v7) (c_call (w := turned_W) 0 ye G_turned (Nat.le_of_ble_eq_true rfl) rfl (a_cons (c_call (w := common_start_W) 0 ye G_common_start (Nat.le_of_ble_eq_true rfl) rfl (a_cons (c_L ye.ok (l_lcX0 (.n 1) [("word", 1)] ye.ok (i_list (c_v 0 rfl rfl)) (show BlkOk common_end_N d_common_end.scope _ _ from blk_by (by decide +kernel)) (fun z => (tg_blk ye.ok z 1 rfl)) (fun _ (x2 : Txt) _ _ => (c_call (w := turned_W) 0 ye.blk G_turned (Nat.le_of_ble_eq_true rfl) rfl (a_cons (c_v 1 rfl rfl) a_nil) (fun _ => rfl) trivial)))) a_nil) (fun _ => rfl) rfl) a_nil) (fun _ => rfl) rfl) (by exact h) ?_
  intro v7 h
  try dsimp only
  exact ⟨⟨0, rfl⟩, _, rfl, h⟩

abbrev longest_shared_N : List Str := ["one", "other", "best", "first", "last"]
theorem longest_shared_S : FnScope longest_shared_N ["one", "other"] d_longest_shared.scope := ⟨rfl, rfl, rfl, by decide +kernel, rfl, by decide +kernel, by decide +kernel⟩
theorem ok_longest_shared (B : Bis mg) (L : LK w K mg base fa fn tq) {fd : FuncData} (F1 : Fd K d_longest_shared ["one", "other"] fd)  : FnOk P w K mg base (L2.CX P w) 1 (He.fAd K d_longest_shared.at_) fd ["one", "other"] (toSp K (tbOf K tq) 2 (spF K longest_shared_W)) := by
  refine fn_F (k := 0) none L F1 longest_shared_S longest_shared_W noneNo (fun _ => rfl) ?_
  intro z t Q E h ye tbl
  obtain ⟨one1, other2, ⟨⟩⟩ := t
  show Ws _ (⟨[some (pu one1), some (pu other2), none, none, none], []⟩ : DSt) _ _
  refine s_asg (R := fun (best3 : Txt) => (longest_shared_w6 one1 other2 best3 Q)) 2 ye.ok rfl c_tx ?_ (by exact h)
  intro best3 h
  try dsimp only
  show Ws _ (⟨[some (pu one1), some (pu other2), some (pu best3), none, none], []⟩ : DSt) _ _
  refine s_for (Z := Txt) (J := Option Pv × Option Pv) (Body := (fun (x4 : Int) (z5 : Txt) (nx7 : Txt → Prop) => (longest_shared_w4 one1 other2 x4 nx7 z5))) (Rest := (fun (z22 : Txt) => (longest_shared_w5 z22 Q))) (.n 3) (fun (z5 : Txt) (j6 : Option Pv × Option Pv) => (⟨[some (pu one1), some (pu other2), some (pu (z5 : Txt)), j6.1, j6.2], []⟩ : DSt)) best3 (none, none) ye.ok (i_range1 ye.ok B rfl (c_lenS B rfl (c_v 0 rfl rfl))) (tg_nm ye.ok.nd 3 rfl) rfl ?_ ?_ (by exact h)
  · intro x4 best8 j6 nx7 h
    try dsimp only
    show Ws _ (⟨[some (pu one1), some (pu other2), some (pu best8), some (pu x4), j6.2], []⟩ : DSt) _ _
    refine s_for (Z := Txt) (J := Option Pv) (Body := (fun (x9 : Int) (z10 : Txt) (nx12 : Txt → Prop) => (longest_shared_w2 one1 other2 x4 x9 nx12 z10))) (Rest := (fun (z19 : Txt) => (longest_shared_w3 nx7 z19))) (.n 4) (fun (z10 : Txt) (j11 : Option Pv) => (⟨[some (pu one1), some (pu other2), some (pu (z10 : Txt)), some (pu x4), j11], []⟩ : DSt)) best8 j6.2 ye.ok (i_range2 ye.ok B rfl (c_add (c_add (c_v 3 rfl rfl) (c_lenS B rfl (c_v 2 rfl rfl))) c_int) (c_add (c_lenS B rfl (c_v 0 rfl rfl)) c_int)) (tg_nm ye.ok.nd 4 rfl) rfl ?_ ?_ (by exact h)
    · intro x9 best13 j11 nx12 h
      try dsimp only
      show Ws _ (⟨[some (pu one1), some (pu other2), some (pu best13), some (pu x4), some (pu x9)], []⟩ : DSt) _ _
      refine s_ifJ (Z := Txt) (J := Unit) (Rest := (fun (z14 : Txt) => (longest_shared_w1 nx12 z14))) (B := fun nx16 => (one1.length ≤ sizeLine ∧ nx16 (cutD one1 (some x4) (some x9)))) (C := fun nx16 => nx16 best13) (fun (z14 : Txt) (j15 : Unit) => (⟨[some (pu one1), some (pu other2), some (pu (z14 : Txt)), some (pu x4), some (pu x9)], []⟩ : DSt)) (t_k (k_inS (c_slS (c_v 0 rfl rfl) (o_at (c_v 3 rfl rfl)) (o_at (c_v 4 rfl rfl))) (c_v 1 rfl rfl))) ?_ ?_ ?_ (by exact h)
      · intro nx16 h
        try dsimp only
        refine s_asg (R := fun (best17 : Txt) => nx16 best17) 2 ye.ok rfl (c_slS (c_v 0 rfl rfl) (o_at (c_v 3 rfl rfl)) (o_at (c_v 4 rfl rfl))) ?_ (by exact h)
        intro best17 h
        try dsimp only
        show Ws _ (⟨[some (pu one1), some (pu other2), some (pu best17), some (pu x4), some (pu x9)], []⟩ : DSt) _ _
        exact ws_nil ⟨best17, (), rfl, h⟩
      · intro nx16 h
        try dsimp only
        exact ws_nil ⟨best13, (), rfl, h⟩
      intro best18 j15 h
      try dsimp only
      show Ws _ (⟨[some (pu one1), some (pu other2), some (pu best18), some (pu x4), some (pu x9)], []⟩ : DSt) _ _
      exact ws_nil ⟨best18, some (pu x9), rfl, h⟩
    intro best21 j20 h
    try dsimp only
    show Ws _ (⟨[some (pu one1), some (pu other2), some (pu best21), some (pu x4), j20], []⟩ : DSt) _ _
    exact ws_nil ⟨best21, (some (pu x4), j20), rfl, h⟩
  intro best24 j23 h
  try dsimp only
  show Ws _ (⟨[some (pu one1), some (pu other2), some (pu best24), j23.1, j23.2], []⟩ : DSt) _ _
  refine s_ret (R := fun (v25 : Txt) => Q v25) (c_v 2 rfl rfl) (by exact h) ?_
  intro v25 h
  try dsimp only
  exact ⟨⟨0, rfl⟩, _, rfl, h⟩

abbrev longest_row_N : List Str := ["one", "other", "best", "letter", "fresh", "k", "sign"]
theorem longest_row_S : FnScope longest_row_N ["one", "other"] d_longest_row.scope := ⟨rfl, rfl, rfl, by decide +kernel, rfl, by decide +kernel, by decide +kernel⟩
theorem ok_longest_row (B : Bis mg) (L : LK w K mg base fa fn tq) {fd : FuncData} (F1 : Fd K d_longest_row ["one", "other"] fd)  : FnOk P w K mg base (L2.CX P w) 1 (He.fAd K d_longest_row.at_) fd ["one", "other"] (toSp K (tbOf K tq) 2 (spF K longest_row_W)) := by
  refine fn_F (k := 0) none L F1 longest_row_S longest_row_W noneNo (fun _ => rfl) ?_
  intro z t Q E h ye tbl
  obtain ⟨one1, other2, ⟨⟩⟩ := t
  show Ws _ (⟨[some (pu one1), some (pu other2), none, none, none, none, none], []⟩ : DSt) _ _
  refine s_asg (R := fun (best3 : (List Int)) => (longest_row_w6 one1 other2 best3 Q)) 2 ye.ok rfl (c_repL (s_cons c_int (s_nil)) (fun _ _ => (c_add (c_lenS B rfl (c_v 1 rfl rfl)) c_int))) ?_ (by exact h)
  intro best3 h
  try dsimp only
  show Ws _ (⟨[some (pu one1), some (pu other2), some (pu best3), none, none, none, none], []⟩ : DSt) _ _
  refine s_for (Z := (List Int)) (J := Option Pv × Option Pv × Option Pv × Option Pv) (Body := (fun (x4 : Txt) (z5 : (List Int)) (nx7 : (List Int) → Prop) => (longest_row_w4 other2 x4 nx7 z5))) (Rest := (fun (z21 : (List Int)) => (longest_row_w5 z21 Q))) (.n 3) (fun (z5 : (List Int)) (j6 : Option Pv × Option Pv × Option Pv × Option Pv) => (⟨[some (pu one1), some (pu other2), some (pu (z5 : (List Int))), j6.1, j6.2.1, j6.2.2.1, j6.2.2.2], []⟩ : DSt)) best3 (none, none, none, none) ye.ok (i_txt (c_v 0 rfl rfl)) (tg_nm ye.ok.nd 3 rfl) rfl ?_ ?_ (by exact h)
  · intro x4 best8 j6 nx7 h
    try dsimp only
    show Ws _ (⟨[some (pu one1), some (pu other2), some (pu best8), some (pu x4), j6.2.1, j6.2.2.1, j6.2.2.2], []⟩ : DSt) _ _
    refine s_asgN (R := fun (fresh9 : List Int) => (longest_row_w3 other2 x4 nx7 best8 fresh9)) 4 ye.ok rfl (n_list (s_cons c_int (s_nil))) ?_ (by exact h)
    intro q10 fresh9 h
    try dsimp only
    show Ws _ (⟨[some (pu one1), some (pu other2), some (pu best8), some (pu x4), some (raw (.ref q10)), j6.2.2.1, j6.2.2.2], [(q10, lstc fresh9)]⟩ : DSt) _ _
    refine s_for (Z := (List Int)) (J := Option Pv × Option Pv) (Body := (fun (x11 : (Int × Txt)) (z12 : (List Int)) (nx14 : (List Int) → Prop) => (longest_row_w1 x4 best8 x11 nx14 z12))) (Rest := (fun (z17 : (List Int)) => (longest_row_w2 nx7 z17))) (.p (.n 5) (.n 6)) (fun (z12 : (List Int)) (j13 : Option Pv × Option Pv) => (⟨[some (pu one1), some (pu other2), some (pu best8), some (pu x4), some (raw (.ref q10)), j13.1, j13.2], [(q10, lstc z12)]⟩ : DSt)) fresh9 (j6.2.2.1, j6.2.2.2) ye.ok (i_enumS ye.ok B rfl (c_v 1 rfl rfl)) (tg_pair ye.ok.calm (tg_nm ye.ok.nd 5 rfl) (tg_nm ye.ok.nd 6 rfl)) rfl ?_ ?_ (by exact h)
    · intro x11 fresh15 j13 nx14 h
      try dsimp only
      show Ws _ (⟨[some (pu one1), some (pu other2), some (pu best8), some (pu x4), some (raw (.ref q10)), some (pu x11.1), some (pu x11.2)], [(q10, lstc fresh15)]⟩ : DSt) _ _
      refine s_append (R := fun (v16 : Int) => nx14 (fresh15 ++ [v16])) 4 0 rfl rfl rfl (c_ifP (u := ((ixD best8 x11.1) + (1 : Int))) (w := (max (ixD best8 (x11.1 + (1 : Int))) (ixD fresh15 x11.1))) (t_k (k_eq ye.ok (c_v 3 rfl rfl) (c_v 6 rfl rfl))) (c_add (c_ixL (c_l (c_v 2 rfl rfl)) (c_v 5 rfl rfl)) c_int) (c_max2 ye.ok B rfl (c_ixL (c_l (c_v 2 rfl rfl)) (c_add (c_v 5 rfl rfl) c_int)) (c_ixL (l_own 4 0 rfl rfl rfl) (c_v 5 rfl rfl)))) ?_ (by exact h)
      intro v16 h
      try dsimp only
      show Ws _ (⟨[some (pu one1), some (pu other2), some (pu best8), some (pu x4), some (raw (.ref q10)), some (pu x11.1), some (pu x11.2)], [(q10, lstc (fresh15 ++ [v16]))]⟩ : DSt) _ _
      exact ws_nil ⟨(fresh15 ++ [v16]), (some (pu x11.1), some (pu x11.2)), rfl, h⟩
    intro fresh19 j18 h
    try dsimp only
    show Ws _ (⟨[some (pu one1), some (pu other2), some (pu best8), some (pu x4), some (raw (.ref q10)), j18.1, j18.2], [(q10, lstc fresh19)]⟩ : DSt) _ _
    refine ws_frL 4 0 rfl rfl ?_
    refine s_asg (R := fun (best20 : (List Int)) => nx7 best20) 2 ye.ok rfl (c_v 4 rfl rfl) ?_ (by exact h)
    intro best20 h
    try dsimp only
    show Ws _ (⟨[some (pu one1), some (pu other2), some (pu best20), some (pu x4), some (pu fresh19), j18.1, j18.2], []⟩ : DSt) _ _
    exact ws_nil ⟨best20, (some (pu x4), some (pu fresh19), j18.1, j18.2), rfl, h⟩
  intro best23 j22 h
  try dsimp only
  show Ws _ (⟨[some (pu one1), some (pu other2), some (pu best23), j22.1, j22.2.1, j22.2.2.1, j22.2.2.2], []⟩ : DSt) _ _
  refine s_ret (R := fun (v24 : Int) => Q v24) (c_ixL (c_l (c_v 2 rfl rfl)) (c_neg c_int)) (by exact h) ?_
  intro v24 h
  try dsimp only
  exact ⟨⟨0, rfl⟩, _, rfl, h⟩

abbrev shifted_N : List Str := ["word", "by", "letter"]
theorem shifted_S : FnScope shifted_N ["word", "by"] d_shifted.scope := ⟨rfl, rfl, rfl, by decide +kernel, rfl, by decide +kernel, by decide +kernel⟩
theorem ok_shifted (B : Bis mg) (L : LK w K mg base fa fn tq) {fd : FuncData} (F1 : Fd K d_shifted ["word", "by"] fd)  : FnOk P w K mg base (L2.CX P w) 1 (He.fAd K d_shifted.at_) fd ["word", "by"] (toSp K (tbOf K tq) 2 (spF K shifted_W)) := by
  refine fn_F (k := 0) none L F1 shifted_S shifted_W noneNo (fun _ => rfl) ?_
  intro z t Q E h ye tbl
  obtain ⟨word1, by2, ⟨⟩⟩ := t
  show Ws _ (⟨[some (pu word1), some (pu by2), none], []⟩ : DSt) _ _
  refine s_ret (R := fun (v4 : Txt) => Q v4) (c_join c_tx (c_l (c_L ye.ok (l_lc0 (.n 2) [("letter", 2)] (fun (x3 : Txt) => (ixS (tx "abcdefghijklmnopqrstuvwxyz") (((idxT (tx "abcdefghijklmnopqrstuvwxyz") x3) + by2) % (26 : Int)))) ye.ok (i_txt (c_v 0 rfl rfl)) (show BlkOk shifted_N d_shifted.scope _ _ from blk_by (by decide +kernel)) (fun z => (tg_blk ye.ok z 2 rfl)) (fun _ (x3 : Txt) _ _ => (c_ixS (c_gs rfl (He.str_ok L.X L.G (L.d.fact 58 rfl))) (c_mod (c_add (c_idxS (c_gs rfl (He.str_ok L.X L.G (L.d.fact 58 rfl))) (c_v 2 rfl rfl)) (c_v 1 rfl rfl)) c_int))))))) (by exact h) ?_
  intro v4 h
  try dsimp only
  exact ⟨⟨0, rfl⟩, _, rfl, h⟩

abbrev number_of_N : List Str := ["word", "found", "letter"]
theorem number_of_S : FnScope number_of_N ["word"] d_number_of.scope := ⟨rfl, rfl, rfl, by decide +kernel, rfl, by decide +kernel, by decide +kernel⟩
theorem ok_number_of (B : Bis mg) (L : LK w K mg base fa fn tq) {fd : FuncData} (F1 : Fd K d_number_of ["word"] fd)  : FnOk P w K mg base (L2.CX P w) 1 (He.fAd K d_number_of.at_) fd ["word"] (toSp K (tbOf K tq) 1 (spF K number_of_W)) := by
  refine fn_F (k := 0) none L F1 number_of_S number_of_W noneNo (fun _ => rfl) ?_
  intro z t Q E h ye tbl
  obtain ⟨word1, ⟨⟩⟩ := t
  show Ws _ (⟨[some (pu word1), none, none], []⟩ : DSt) _ _
  refine s_asg (R := fun (found2 : Int) => (number_of_w3 word1 found2 Q)) 1 ye.ok rfl c_int ?_ (by exact h)
  intro found2 h
  try dsimp only
  show Ws _ (⟨[some (pu word1), some (pu found2), none], []⟩ : DSt) _ _
  refine s_for (Z := Int) (J := Option Pv) (Body := (fun (x3 : Txt) (z4 : Int) (nx6 : Int → Prop) => (number_of_w1 x3 nx6 z4))) (Rest := (fun (z9 : Int) => (number_of_w2 z9 Q))) (.n 2) (fun (z4 : Int) (j5 : Option Pv) => (⟨[some (pu word1), some (pu (z4 : Int)), j5], []⟩ : DSt)) found2 none ye.ok (i_txt (c_v 0 rfl rfl)) (tg_nm ye.ok.nd 2 rfl) rfl ?_ ?_ (by exact h)
  · intro x3 found7 j5 nx6 h
    try dsimp only
    show Ws _ (⟨[some (pu word1), some (pu found7), some (pu x3)], []⟩ : DSt) _ _
    refine s_asg (R := fun (found8 : Int) => nx6 found8) 1 ye.ok rfl (c_add (c_mul (c_v 1 rfl rfl) c_int) (c_idxS (c_gs rfl (He.str_ok L.X L.G (L.d.fact 58 rfl))) (c_v 2 rfl rfl))) ?_ (by exact h)
    intro found8 h
    try dsimp only
    show Ws _ (⟨[some (pu word1), some (pu found8), some (pu x3)], []⟩ : DSt) _ _
    exact ws_nil ⟨found8, some (pu x3), rfl, h⟩
  intro found11 j10 h
  try dsimp only
  show Ws _ (⟨[some (pu word1), some (pu found11), j10], []⟩ : DSt) _ _
  refine s_ret (R := fun (v12 : Int) => Q v12) (c_v 1 rfl rfl) (by exact h) ?_
  intro v12 h
  try dsimp only
  exact ⟨⟨0, rfl⟩, _, rfl, h⟩

abbrev word_at_N : List Str := ["number", "length", "found", "k"]
theorem word_at_S : FnScope word_at_N ["number", "length"] d_word_at.scope := ⟨rfl, rfl, rfl, by decide +kernel, rfl, by decide +kernel, by decide +kernel⟩
theorem ok_word_at (B : Bis mg) (L : LK w K mg base fa fn tq) {fd : FuncData} (F1 : Fd K d_word_at ["number", "length"] fd)  : FnOk P w K mg base (L2.CX P w) 1 (He.fAd K d_word_at.at_) fd ["number", "length"] (toSp K (tbOf K tq) 2 (spF K word_at_W)) := by
  refine fn_F (k := 0) none L F1 word_at_S word_at_W noneNo (fun _ => rfl) ?_
  intro z t Q E h ye tbl
  obtain ⟨number1, length2, ⟨⟩⟩ := t
  show Ws _ (⟨[some (pu number1), some (pu length2), none, none], []⟩ : DSt) _ _
  refine s_if (B := E .BadCount) (C := (word_at_w3 number1 length2 (tx "") Q E)) (t_k (k_lt (c_v 0 rfl rfl) c_int)) ?_ ?_ (by exact h)
  · intro h
    exact s_raise 0 .BadCount ye (L.err 63 34) rfl rfl rfl (by exact h)
  intro h
  refine ws_nil ?_
  refine s_asg (R := fun (found3 : Txt) => (word_at_w3 number1 length2 found3 Q E)) 2 ye.ok rfl c_tx ?_ (by exact h)
  intro found3 h
  try dsimp only
  show Ws _ (⟨[some (pu number1), some (pu length2), some (pu found3), none], []⟩ : DSt) _ _
  refine s_for (Z := Int × Txt) (J := Option Pv) (Body := (fun (x4 : Int) (z5 : Int × Txt) (nx7 : Int × Txt → Prop) => (word_at_w1 nx7 z5.1 z5.2))) (Rest := (fun (z12 : Int × Txt) => (word_at_w2 z12.1 z12.2 Q E))) (.n 3) (fun (z5 : Int × Txt) (j6 : Option Pv) => (⟨[some (pu (z5.1 : Int)), some (pu length2), some (pu (z5.2 : Txt)), j6], []⟩ : DSt)) (number1, found3) none ye.ok (i_range1 ye.ok B rfl (c_v 1 rfl rfl)) (tg_nm ye.ok.nd 3 rfl) rfl ?_ ?_ (by exact h)
  · intro x4 z5 j6 nx7 h
    try dsimp only
    obtain ⟨number8, found9⟩ := z5
    show Ws _ (⟨[some (pu number8), some (pu length2), some (pu found9), some (pu x4)], []⟩ : DSt) _ _
    refine s_asg (R := fun (found10 : Txt) => (CDiv number8 (26 : Int) ∧ nx7 ((number8 / (26 : Int)), found10))) 2 ye.ok rfl (c_catS (c_ixS (c_gs rfl (He.str_ok L.X L.G (L.d.fact 58 rfl))) (c_mod (c_v 0 rfl rfl) c_int)) (c_v 2 rfl rfl)) ?_ (by exact h)
    intro found10 h
    try dsimp only
    show Ws _ (⟨[some (pu number8), some (pu length2), some (pu found10), some (pu x4)], []⟩ : DSt) _ _
    refine s_augFdiv (R := fun (number11 : Int) => nx7 (number11, found10)) 0 ye.ok rfl rfl c_int ?_ (by exact h)
    intro number11 h
    try dsimp only
    show Ws _ (⟨[some (pu number11), some (pu length2), some (pu found10), some (pu x4)], []⟩ : DSt) _ _
    exact ws_nil ⟨(number11, found10), some (pu x4), rfl, h⟩
  intro z12 j13 h
  try dsimp only
  obtain ⟨number14, found15⟩ := z12
  show Ws _ (⟨[some (pu number14), some (pu length2), some (pu found15), j13], []⟩ : DSt) _ _
  refine s_if (B := E .BadCount) (C := Q found15) (t_k (k_gt (c_v 0 rfl rfl) c_int)) ?_ ?_ (by exact h)
  · intro h
    exact s_raise 0 .BadCount ye (L.err 63 34) rfl rfl rfl (by exact h)
  intro h
  refine ws_nil ?_
  refine s_ret (R := fun (v16 : Txt) => Q v16) (c_v 2 rfl rfl) (by exact h) ?_
  intro v16 h
  try dsimp only
  exact ⟨⟨0, rfl⟩, _, rfl, h⟩

abbrev between_N : List Str := ["one", "other"]
theorem between_S : FnScope between_N ["one", "other"] d_between.scope := ⟨rfl, rfl, rfl, by decide +kernel, rfl, by decide +kernel, by decide +kernel⟩
theorem ok_between (B : Bis mg) (L : LK w K mg base fa fn tq) {fd : FuncData} (F1 : Fd K d_between ["one", "other"] fd) (G_word_at : Df P w K mg base (tbOf K tq) 1 "word_at" ["number", "length"] (spF K word_at_W)) (G_number_of : Df P w K mg base (tbOf K tq) 1 "number_of" ["word"] (spF K number_of_W)) : FnOk P w K mg base (L2.CX P w) 2 (He.fAd K d_between.at_) fd ["one", "other"] (toSp K (tbOf K tq) 2 (spF K between_W)) := by
  refine fn_F (k := 1) none L F1 between_S between_W noneNo (fun _ => rfl) ?_
  intro z t Q E h ye tbl
  obtain ⟨one1, other2, ⟨⟩⟩ := t
  show Ws _ (⟨[some (pu one1), some (pu other2)], []⟩ : DSt) _ _
  refine s_if (B := E .BadWord) (C := (between_w1 one1 other2 Q E)) (t_k (k_ne ye.ok (c_lenS B rfl (c_v 0 rfl rfl)) (c_lenS B rfl (c_v 1 rfl rfl)))) ?_ ?_ (by exact h)
  · intro h
    exact s_raise 0 .BadWord ye (L.err 61 32) rfl rfl rfl (by exact h)
  intro h
  refine ws_nil ?_
  refine s_ret (R := fun (v6 : Txt) => Q v6) (c_call (w := word_at_W) 0 ye G_word_at (Nat.le_of_ble_eq_true rfl) rfl (a_cons (c_fdiv (c_add (c_call (w := number_of_W) 0 ye G_number_of (Nat.le_of_ble_eq_true rfl) rfl (a_cons (c_v 0 rfl rfl) a_nil) (fun _ => rfl) rfl) (c_call (w := number_of_W) 0 ye G_number_of (Nat.le_of_ble_eq_true rfl) rfl (a_cons (c_v 1 rfl rfl) a_nil) (fun _ => rfl) rfl)) c_int) (a_cons (c_lenS B rfl (c_v 0 rfl rfl)) a_nil)) (fun _ => rfl) rfl) (by exact h) ?_
  intro v6 h
  try dsimp only
  exact ⟨⟨0, rfl⟩, _, rfl, h⟩

abbrev law_flat_N : List Str := ["rows", "found", "row"]
theorem law_flat_S : FnScope law_flat_N ["rows"] d__law_flat.scope := ⟨rfl, rfl, rfl, by decide +kernel, rfl, by decide +kernel, by decide +kernel⟩
theorem ok_law_flat (B : Bis mg) (L : LK w K mg base fa fn tq) {fd : FuncData} (F1 : Fd K d__law_flat ["rows"] fd)  : FnOk P w K mg base (L2.CX P w) 1 (He.fAd K d__law_flat.at_) fd ["rows"] (toSp K (tbOf K tq) 1 (spF K law_flat_W)) := by
  refine fn_F (k := 0) none L F1 law_flat_S law_flat_W noneNo (fun _ => rfl) ?_
  intro z t Q E h ye tbl
  obtain ⟨rows1, ⟨⟩⟩ := t
  show Ws _ (⟨[some (pu rows1), none, none], []⟩ : DSt) _ _
  refine s_asg (R := fun (found2 : (List Txt)) => (law_flat_w3 rows1 found2 Q)) 1 ye.ok rfl (c_list (s_nil (α := Txt))) ?_ (by exact h)
  intro found2 h
  try dsimp only
  show Ws _ (⟨[some (pu rows1), some (pu found2), none], []⟩ : DSt) _ _
  refine s_for (Z := (List Txt)) (J := Option Pv) (Body := (fun (x3 : (List Txt)) (z4 : (List Txt)) (nx6 : (List Txt) → Prop) => (law_flat_w1 x3 nx6 z4))) (Rest := (fun (z9 : (List Txt)) => (law_flat_w2 z9 Q))) (.n 2) (fun (z4 : (List Txt)) (j5 : Option Pv) => (⟨[some (pu rows1), some (pu (z4 : (List Txt))), j5], []⟩ : DSt)) found2 none ye.ok (i_list (c_v 0 rfl rfl)) (tg_nm ye.ok.nd 2 rfl) rfl ?_ ?_ (by exact h)
  · intro x3 found7 j5 nx6 h
    try dsimp only
    show Ws _ (⟨[some (pu rows1), some (pu found7), some (pu x3)], []⟩ : DSt) _ _
    refine s_asg (R := fun (found8 : (List Txt)) => nx6 found8) 1 ye.ok rfl (c_catL (c_l (c_v 1 rfl rfl)) (c_l (c_v 2 rfl rfl))) ?_ (by exact h)
    intro found8 h
    try dsimp only
    show Ws _ (⟨[some (pu rows1), some (pu found8), some (pu x3)], []⟩ : DSt) _ _
    exact ws_nil ⟨found8, some (pu x3), rfl, h⟩
  intro found11 j10 h
  try dsimp only
  show Ws _ (⟨[some (pu rows1), some (pu found11), j10], []⟩ : DSt) _ _
  refine s_ret (R := fun (v12 : (List Txt)) => Q v12) (c_v 1 rfl rfl) (by exact h) ?_
  intro v12 h
  try dsimp only
  exact ⟨⟨0, rfl⟩, _, rfl, h⟩

abbrev law_word_N : List Str := ["dice", "letters", "least", "most", "k"]
theorem law_word_S : FnScope law_word_N ["dice", "letters", "least", "most"] d__law_word.scope := ⟨rfl, rfl, rfl, by decide +kernel, rfl, by decide +kernel, by decide +kernel⟩
theorem ok_law_word (B : Bis mg) (L : LK w K mg base fa fn tq) {fd : FuncData} (F1 : Fd K d__law_word ["dice", "letters", "least", "most"] fd) (G_law_roll : Df P w K mg base (tbOf K tq) 1 "_law_roll" ["dice", "many"] (spD rollW)) : FnOk P w K mg base (L2.CX P w) 2 (He.fAd K d__law_word.at_) fd ["dice", "letters", "least", "most"] (toSp K (tbOf K tq) 4 (spD law_word_W)) := by
  refine fn_D (k := 1) none L F1 law_word_S law_word_W noneNo (fun _ => rfl) ?_
  intro q0 z t Q h ye tbl
  obtain ⟨letters1, least2, most3, ⟨⟩⟩ := t
  show Ws _ (⟨[some (raw (.ref q0)), some (pu letters1), some (pu least2), some (pu most3), none], [(q0, dicec)]⟩ : DSt) _ _
  refine s_ret (R := fun (v9 : Txt) => Q v9) (c_join c_tx (c_l (c_L ye.ok (l_lcN (.n 4) [("k", 4)] ye.ok (i_range1 ye.ok B rfl (c_add (c_v 2 rfl rfl) (c_callD 0 0 ye.ok G_law_roll (Nat.le_of_ble_eq_true rfl) rfl (a_cons (c_add (c_sub (c_v 3 rfl rfl) (c_v 2 rfl rfl)) c_int) a_nil) rfl rfl rfl (fun _ => rfl)))) (show BlkOk law_word_N d__law_word.scope _ _ from blk_by (by decide +kernel)) (fun z => (tg_blk ye.ok z 4 rfl)) (fun _ (x5 : Int) _ _ => (c_ixS (c_v 1 rfl rfl) (c_callD 0 1 ye.ok.blk G_law_roll (Nat.le_of_ble_eq_true rfl) rfl (a_cons (c_lenS B rfl (c_v 1 rfl rfl)) a_nil) rfl rfl rfl (fun _ => rfl)))))))) (by exact h) ?_
  intro v9 h
  try dsimp only
  exact ⟨⟨0, rfl⟩, _, rfl, h⟩

abbrev law_unlike_N : List Str := ["words", "word"]
theorem law_unlike_S : FnScope law_unlike_N ["words"] d__law_unlike.scope := ⟨rfl, rfl, rfl, by decide +kernel, rfl, by decide +kernel, by decide +kernel⟩
theorem ok_law_unlike (B : Bis mg) (L : LK w K mg base fa fn tq) {fd : FuncData} (F1 : Fd K d__law_unlike ["words"] fd)  : FnOk P w K mg base (L2.CX P w) 1 (He.fAd K d__law_unlike.at_) fd ["words"] (toSp K (tbOf K tq) 1 (spF K law_unlike_W)) := by
  refine fn_F (k := 0) none L F1 law_unlike_S law_unlike_W noneNo (fun _ => rfl) ?_
  intro z t Q E h ye tbl
  obtain ⟨words1, ⟨⟩⟩ := t
  show Ws _ (⟨[some (pu words1), none], []⟩ : DSt) _ _
  refine s_ret (R := fun (v3 : (List Txt)) => Q v3) (c_sortedD ye.ok B rfl (c_d (c_dictL ye.ok B rfl (c_l (c_L ye.ok (l_lc0 (.n 1) [("word", 1)] (fun (x2 : Txt) => (x2, (1 : Int))) ye.ok (i_list (c_v 0 rfl rfl)) (show BlkOk law_unlike_N d__law_unlike.scope _ _ from blk_by (by decide +kernel)) (fun z => (tg_blk ye.ok z 1 rfl)) (fun _ (x2 : Txt) _ _ => (c_tup2 (a_cons (c_v 1 rfl rfl) (a_cons c_int a_nil)))))))))) (by exact h) ?_
  intro v3 h
  try dsimp only
  exact ⟨⟨0, rfl⟩, _, rfl, h⟩

abbrev law_parts_N : List Str := ["word", "k", "j"]
theorem law_parts_S : FnScope law_parts_N ["word"] d__law_parts.scope := ⟨rfl, rfl, rfl, by decide +kernel, rfl, by decide +kernel, by decide +kernel⟩
theorem ok_law_parts (B : Bis mg) (L : LK w K mg base fa fn tq) {fd : FuncData} (F1 : Fd K d__law_parts ["word"] fd) (G_law_flat : Df P w K mg base (tbOf K tq) 1 "_law_flat" ["rows"] (spF K law_flat_W)) : FnOk P w K mg base (L2.CX P w) 2 (He.fAd K d__law_parts.at_) fd ["word"] (toSp K (tbOf K tq) 1 (spF K law_parts_W)) := by
  refine fn_F (k := 1) none L F1 law_parts_S law_parts_W noneNo (fun _ => rfl) ?_
  intro z t Q E h ye tbl
  obtain ⟨word1, ⟨⟩⟩ := t
  show Ws _ (⟨[some (pu word1), none, none], []⟩ : DSt) _ _
  refine s_ret (R := fun (v5 : (List Txt)) => Q v5) (c_call (w := law_flat_W) 0 ye G_law_flat (Nat.le_of_ble_eq_true rfl) rfl (a_cons (c_L ye.ok (l_lc0 (.n 2) [("j", 2)] (fun (x2 : Int) => (((List.range (((word1.length : Int) + (1 : Int)) - (x2 + (1 : Int))).toNat).map fun i : Nat => (x2 + (1 : Int)) + (i : Int)).map (fun (x3 : Int) => (cutD word1 (some x2) (some x3))))) ye.ok (i_range1 ye.ok B rfl (c_lenS B rfl (c_v 0 rfl rfl))) (show BlkOk law_parts_N d__law_parts.scope _ _ from blk_by (by decide +kernel)) (fun z => (tg_blk ye.ok z 2 rfl)) (fun _ (x2 : Int) _ _ => (c_L ye.ok.blk (l_lc0 (.n 1) [("k", 1)] (fun (x3 : Int) => (cutD word1 (some x2) (some x3))) ye.ok.blk (i_range2 ye.ok.blk B rfl (c_add (c_v 2 rfl rfl) c_int) (c_add (c_lenS B rfl (c_v 0 rfl rfl)) c_int)) (blk_by (by first | decide +kernel | rfl)) (fun z => (tg_blk ye.ok.blk z 1 rfl)) (fun _ (x3 : Int) _ _ => (c_slS (c_v 0 rfl rfl) (o_at (c_v 2 rfl rfl)) (o_at (c_v 1 rfl rfl))))))))) a_nil) (fun _ => rfl) rfl) (by exact h) ?_
  intro v5 h
  try dsimp only
  exact ⟨⟨0, rfl⟩, _, rfl, h⟩

abbrev law_rows_N : List Str := ["word", "rows", "letter", "row"]
theorem law_rows_S : FnScope law_rows_N ["word"] d__law_rows.scope := ⟨rfl, rfl, rfl, by decide +kernel, rfl, by decide +kernel, by decide +kernel⟩
theorem ok_law_rows (B : Bis mg) (L : LK w K mg base fa fn tq) {fd : FuncData} (F1 : Fd K d__law_rows ["word"] fd)  : FnOk P w K mg base (L2.CX P w) 1 (He.fAd K d__law_rows.at_) fd ["word"] (toSp K (tbOf K tq) 1 (spF K law_rows_W)) := by
  refine fn_F (k := 0) none L F1 law_rows_S law_rows_W noneNo (fun _ => rfl) ?_
  intro z t Q E h ye tbl
  obtain ⟨word1, ⟨⟩⟩ := t
  show Ws _ (⟨[some (pu word1), none, none, none], []⟩ : DSt) _ _
  refine s_asg (R := fun (rows2 : (List Txt)) => (law_rows_w3 word1 rows2 Q)) 1 ye.ok rfl (c_list (s_cons c_tx (s_nil))) ?_ (by exact h)
  intro rows2 h
  try dsimp only
  show Ws _ (⟨[some (pu word1), some (pu rows2), none, none], []⟩ : DSt) _ _
  refine s_for (Z := (List Txt)) (J := Option Pv) (Body := (fun (x3 : Txt) (z4 : (List Txt)) (nx6 : (List Txt) → Prop) => (law_rows_w1 x3 nx6 z4))) (Rest := (fun (z10 : (List Txt)) => (law_rows_w2 z10 Q))) (.n 2) (fun (z4 : (List Txt)) (j5 : Option Pv) => (⟨[some (pu word1), some (pu (z4 : (List Txt))), j5, none], []⟩ : DSt)) rows2 none ye.ok (i_txt (c_v 0 rfl rfl)) (tg_nm ye.ok.nd 2 rfl) rfl ?_ ?_ (by exact h)
  · intro x3 rows7 j5 nx6 h
    try dsimp only
    show Ws _ (⟨[some (pu word1), some (pu rows7), some (pu x3), none], []⟩ : DSt) _ _
    refine s_asg (R := fun (rows9 : (List Txt)) => nx6 rows9) 1 ye.ok rfl (c_catL (c_l (c_v 1 rfl rfl)) (c_l (c_L ye.ok (l_lc0 (.n 3) [("row", 3)] (fun (x8 : Txt) => (x8 ++ x3)) ye.ok (i_list (c_v 1 rfl rfl)) (show BlkOk law_rows_N d__law_rows.scope _ _ from blk_by (by decide +kernel)) (fun z => (tg_blk ye.ok z 3 rfl)) (fun _ (x8 : Txt) _ _ => (c_catS (c_v 3 rfl rfl) (c_v 2 rfl rfl))))))) ?_ (by exact h)
    intro rows9 h
    try dsimp only
    show Ws _ (⟨[some (pu word1), some (pu rows9), some (pu x3), none], []⟩ : DSt) _ _
    exact ws_nil ⟨rows9, some (pu x3), rfl, h⟩
  intro rows12 j11 h
  try dsimp only
  show Ws _ (⟨[some (pu word1), some (pu rows12), j11, none], []⟩ : DSt) _ _
  refine s_ret (R := fun (v13 : (List Txt)) => Q v13) (c_v 1 rfl rfl) (by exact h) ?_
  intro v13 h
  try dsimp only
  exact ⟨⟨0, rfl⟩, _, rfl, h⟩

abbrev law_cases1_N : List Str := []
theorem law_cases1_S : FnScope law_cases1_N [] d__law_cases1.scope := ⟨rfl, rfl, rfl, by decide +kernel, rfl, by decide +kernel, by decide +kernel⟩
theorem ok_law_cases1 (B : Bis mg) (L : LK w K mg base fa fn tq) {fd : FuncData} (F1 : Fd K d__law_cases1 [] fd) {fd_told : FuncData} (FD_told : Fd K d__law_told ["what"] fd_told) (G_between : Df P w K mg base (tbOf K tq) 2 "between" ["one", "other"] (spF K between_W)) (G_word_at : Df P w K mg base (tbOf K tq) 1 "word_at" ["number", "length"] (spF K word_at_W)) : FnOk P w K mg base (L2.CX P w) 5 (He.fAd K d__law_cases1.at_) fd [] (toSp K (tbOf K tq) 0 (spF K law_cases1_W)) := by
  refine fn_F (k := 4) none L F1 law_cases1_S law_cases1_W noneNo (fun _ => rfl) ?_
  intro z t Q E h ye tbl
  show Ws _ (⟨[], []⟩ : DSt) _ _
  refine s_if (B := Q false) (C := (law_cases1_w1 Q)) (t_k (k_ne ye.ok (c_told 2 id id toldT (ok_told L FD_told) (told_tells L.d) (tbl _ (List.mem_of_getElem? (i := 2) rfl)) ye.ok (Nat.le_of_ble_eq_true rfl) rfl (show LamX.LamS d__law_cases1.scope _ from LamX.lamS_by (by decide +kernel)) (fun _ _ _ _ h => h) (fun _ _ _ _ h => h) (fun z E_ ye' => (c_call (w := between_W) 0 ye' G_between (Nat.le_of_ble_eq_true rfl) rfl (a_cons c_tx (a_cons c_tx a_nil)) (fun _ => rfl) rfl))) c_tx)) ?_ ?_ (by exact h)
  · intro h
    refine s_ret (R := fun (v3 : Bool) => Q v3) c_bl (by exact h) ?_
    intro v3 h
    try dsimp only
    exact ⟨⟨0, rfl⟩, _, rfl, h⟩
  intro h
  refine ws_nil ?_
  refine s_if (B := Q false) (C := Q true) (t_k (k_ne ye.ok (c_told 1 id id toldT (ok_told L FD_told) (told_tells L.d) (tbl _ (List.mem_of_getElem? (i := 2) rfl)) ye.ok (Nat.le_of_ble_eq_true rfl) rfl (show LamX.LamS d__law_cases1.scope _ from LamX.lamS_by (by decide +kernel)) (fun _ _ _ _ h => h) (fun _ _ _ _ h => h) (fun z E_ ye' => (c_call (w := word_at_W) 0 ye' G_word_at (Nat.le_of_ble_eq_true rfl) rfl (a_cons c_int (a_cons c_int a_nil)) (fun _ => rfl) rfl))) c_tx)) ?_ ?_ (by exact h)
  · intro h
    refine s_ret (R := fun (v6 : Bool) => Q v6) c_bl (by exact h) ?_
    intro v6 h
    try dsimp only
    exact ⟨⟨0, rfl⟩, _, rfl, h⟩
  intro h
  refine ws_nil ?_
  refine s_ret (R := fun (v7 : Bool) => Q v7) c_bl (by exact h) ?_
  intro v7 h
  try dsimp only
  exact ⟨⟨0, rfl⟩, _, rfl, h⟩

abbrev law_rest1_N : List Str := ["dice", "one", "other", "words", "ends", "k", "word", "both", "part", "size", "row", "by", "letter", "number", "due", "same", "middle", "wrong"]
theorem law_rest1_S : FnScope law_rest1_N ["dice", "one", "other", "words"] d__law_rest1.scope := ⟨rfl, rfl, rfl, by decide +kernel, rfl, by decide +kernel, by decide +kernel⟩
theorem ok_law_rest1 (B : Bis mg) (L : LK w K mg base fa fn tq) {fd : FuncData} (F1 : Fd K d__law_rest1 ["dice", "one", "other", "words"] fd) {fd_told : FuncData} (FD_told : Fd K d__law_told ["what"] fd_told) (G_common_end : Df P w K mg base (tbOf K tq) 2 "common_end" ["words"] (spF K common_end_W)) (G_law_parts : Df P w K mg base (tbOf K tq) 2 "_law_parts" ["word"] (spF K law_parts_W)) (G_longest_shared : Df P w K mg base (tbOf K tq) 1 "longest_shared" ["one", "other"] (spF K longest_shared_W)) (G_longest_row : Df P w K mg base (tbOf K tq) 1 "longest_row" ["one", "other"] (spF K longest_row_W)) (G_law_rows : Df P w K mg base (tbOf K tq) 1 "_law_rows" ["word"] (spF K law_rows_W)) (G_law_roll : Df P w K mg base (tbOf K tq) 1 "_law_roll" ["dice", "many"] (spD rollW)) (G_shifted : Df P w K mg base (tbOf K tq) 1 "shifted" ["word", "by"] (spF K shifted_W)) (G_number_of : Df P w K mg base (tbOf K tq) 1 "number_of" ["word"] (spF K number_of_W)) (G_word_at : Df P w K mg base (tbOf K tq) 1 "word_at" ["number", "length"] (spF K word_at_W)) (G_law_word : Df P w K mg base (tbOf K tq) 2 "_law_word" ["dice", "letters", "least", "most"] (spD law_word_W)) (G_between : Df P w K mg base (tbOf K tq) 2 "between" ["one", "other"] (spF K between_W)) (G_check_word : Df P w K mg base (tbOf K tq) 3 "check_word" ["word"] (spF K check_word_W)) (G_law_cases1 : Df P w K mg base (tbOf K tq) 5 "_law_cases1" [] (spF K law_cases1_W)) : FnOk P w K mg base (L2.CX P w) 6 (He.fAd K d__law_rest1.at_) fd ["dice", "one", "other", "words"] (toSp K (tbOf K tq) 4 (spD law_rest1_W)) := by
  refine fn_D (k := 5) none L F1 law_rest1_S law_rest1_W noneNo (fun _ => rfl) ?_
  intro q0 z t Q h ye tbl
  obtain ⟨one1, other2, words3, ⟨⟩⟩ := t
  show Ws _ (⟨[some (raw (.ref q0)), some (pu one1), some (pu other2), some (pu words3), none, none, none, none, none, none, none, none, none, none, none, none, none, none], [(q0, dicec)]⟩ : DSt) _ _
  refine s_asgL (R := fun (ends6 : (List Txt)) => (law_rest1_w17 one1 other2 words3 ends6 Q)) 4 ye.ok rfl (l_lc (.n 5) [("k", 5)] (fun (x4 : Int) => (decide ((((words3 ++ [other2]).filter (fun (x5 : Txt) => ((decide ((x5.length : Int) < x4)) || (decide ((cutD x5 (some ((x5.length : Int) - x4)) none) ≠ (cutD one1 (some ((one1.length : Int) - x4)) none)))))).map (fun (x5 : Txt) => x5)) = ([] : List Txt)))) (fun (x4 : Int) => (cutD one1 (some ((one1.length : Int) - x4)) none)) ye.ok (i_range1 ye.ok B rfl (c_add (c_lenS B rfl (c_v 1 rfl rfl)) c_int)) (show BlkOk law_rest1_N d__law_rest1.scope _ _ from blk_by (by decide +kernel)) (fun z => (tg_blk ye.ok z 5 rfl)) (fun _ (x4 : Int) _ _ => ts_one (t_k (k_eqL ye.ok.blk (c_l (c_L ye.ok.blk (l_lc (.n 6) [("word", 6)] (fun (x5 : Txt) => ((decide ((x5.length : Int) < x4)) || (decide ((cutD x5 (some ((x5.length : Int) - x4)) none) ≠ (cutD one1 (some ((one1.length : Int) - x4)) none))))) (fun (x5 : Txt) => x5) ye.ok.blk (i_list (c_catL (c_l (c_v 3 rfl rfl)) (c_l (c_list (s_cons (c_v 2 rfl rfl) (s_nil)))))) (blk_by (by first | decide +kernel | rfl)) (fun z => (tg_blk ye.ok.blk z 6 rfl)) (fun _ (x5 : Txt) _ _ => ts_one (t_w (w_orP (y := (decide ((cutD x5 (some ((x5.length : Int) - x4)) none) ≠ (cutD one1 (some ((one1.length : Int) - x4)) none)))) (t_k (k_lt (c_lenS B rfl (c_v 6 rfl rfl)) (c_v 5 rfl rfl))) (w_or1 (t_k (k_ne ye.ok.blk.blk (c_slS (c_v 6 rfl rfl) (o_at (c_sub (c_lenS B rfl (c_v 6 rfl rfl)) (c_v 5 rfl rfl))) o_no) (c_slS (c_v 1 rfl rfl) (o_at (c_sub (c_lenS B rfl (c_v 1 rfl rfl)) (c_v 5 rfl rfl))) o_no))))))) (fun _ (x5 : Txt) _ _ => (c_v 6 rfl rfl))))) (c_l (c_list (s_nil (α := Txt))))))) (fun _ (x4 : Int) _ _ => (c_slS (c_v 1 rfl rfl) (o_at (c_sub (c_lenS B rfl (c_v 1 rfl rfl)) (c_v 5 rfl rfl))) o_no))) ?_ (by exact h)
  intro ends6 h
  try dsimp only
  show Ws _ (⟨[some (raw (.ref q0)), some (pu one1), some (pu other2), some (pu words3), some (pu ends6), none, none, none, none, none, none, none, none, none, none, none, none, none], [(q0, dicec)]⟩ : DSt) _ _
  refine s_if (B := Q false) (C := (law_rest1_w16 one1 other2 Q)) (t_k (k_ne ye.ok (c_call (w := common_end_W) 0 ye G_common_end (Nat.le_of_ble_eq_true rfl) rfl (a_cons (c_catL (c_l (c_v 3 rfl rfl)) (c_l (c_list (s_cons (c_v 1 rfl rfl) (s_cons (c_v 2 rfl rfl) (s_nil)))))) a_nil) (fun _ => rfl) rfl) (c_ixL (c_l (c_v 4 rfl rfl)) (c_sub (c_lenL B rfl (c_l (c_v 4 rfl rfl))) c_int)))) ?_ ?_ (by exact h)
  · intro h
    refine s_ret (R := fun (v8 : Bool) => Q v8) c_bl (by exact h) ?_
    intro v8 h
    try dsimp only
    exact ⟨⟨0, rfl⟩, _, rfl, h⟩
  intro h
  refine ws_nil ?_
  refine s_asgL (R := fun (both11 : (List Txt)) => (law_rest1_w15 one1 other2 both11 Q)) 7 ye.ok rfl (l_lc (.n 8) [("part", 8)] (fun (x10 : Txt) => (tin x10 other2)) (fun (x10 : Txt) => x10) ye.ok (i_list (c_call (w := law_parts_W) 0 ye G_law_parts (Nat.le_of_ble_eq_true rfl) rfl (a_cons (c_v 1 rfl rfl) a_nil) (fun _ => rfl) rfl)) (show BlkOk law_rest1_N d__law_rest1.scope _ _ from blk_by (by decide +kernel)) (fun z => (tg_blk ye.ok z 8 rfl)) (fun _ (x10 : Txt) _ _ => ts_one (t_k (k_inS (c_v 8 rfl rfl) (c_v 2 rfl rfl)))) (fun _ (x10 : Txt) _ _ => (c_v 8 rfl rfl))) ?_ (by exact h)
  intro both11 h
  try dsimp only
  show Ws _ (⟨[some (raw (.ref q0)), some (pu one1), some (pu other2), some (pu words3), some (pu ends6), none, none, some (pu both11), none, none, none, none, none, none, none, none, none, none], [(q0, dicec)]⟩ : DSt) _ _
  refine s_asg (R := fun (size13 : Int) => (law_rest1_w14 one1 other2 both11 size13 Q)) 9 ye.ok rfl (c_max ye.ok B rfl (c_l (c_catL (c_l (c_list (s_cons c_int (s_nil)))) (c_l (c_L ye.ok (l_lc0 (.n 8) [("part", 8)] (fun (x12 : Txt) => (x12.length : Int)) ye.ok (i_list (c_v 7 rfl rfl)) (show BlkOk law_rest1_N d__law_rest1.scope _ _ from blk_by (by decide +kernel)) (fun z => (tg_blk ye.ok z 8 rfl)) (fun _ (x12 : Txt) _ _ => (c_lenS B rfl (c_v 8 rfl rfl))))))))) ?_ (by exact h)
  intro size13 h
  try dsimp only
  show Ws _ (⟨[some (raw (.ref q0)), some (pu one1), some (pu other2), some (pu words3), some (pu ends6), none, none, some (pu both11), none, some (pu size13), none, none, none, none, none, none, none, none], [(q0, dicec)]⟩ : DSt) _ _
  refine s_if (B := Q false) (C := (law_rest1_w13 one1 other2 Q)) (t_k (k_ne ye.ok (c_call (w := longest_shared_W) 0 ye G_longest_shared (Nat.le_of_ble_eq_true rfl) rfl (a_cons (c_v 1 rfl rfl) (a_cons (c_v 2 rfl rfl) a_nil)) (fun _ => rfl) rfl) (c_ixL (c_l (c_catL (c_l (c_L ye.ok (l_lc (.n 8) [("part", 8)] (fun (x15 : Txt) => (decide ((x15.length : Int) = size13))) (fun (x15 : Txt) => x15) ye.ok (i_list (c_v 7 rfl rfl)) (show BlkOk law_rest1_N d__law_rest1.scope _ _ from blk_by (by decide +kernel)) (fun z => (tg_blk ye.ok z 8 rfl)) (fun _ (x15 : Txt) _ _ => ts_one (t_k (k_eq ye.ok.blk (c_lenS B rfl (c_v 8 rfl rfl)) (c_v 9 rfl rfl)))) (fun _ (x15 : Txt) _ _ => (c_v 8 rfl rfl))))) (c_l (c_list (s_cons c_tx (s_nil)))))) c_int))) ?_ ?_ (by exact h)
  · intro h
    refine s_ret (R := fun (v16 : Bool) => Q v16) c_bl (by exact h) ?_
    intro v16 h
    try dsimp only
    exact ⟨⟨0, rfl⟩, _, rfl, h⟩
  intro h
  refine ws_nil ?_
  refine s_if (B := Q false) (C := (law_rest1_w12 one1 Q)) (t_k (k_ne ye.ok (c_call (w := longest_row_W) 0 ye G_longest_row (Nat.le_of_ble_eq_true rfl) rfl (a_cons (c_v 1 rfl rfl) (a_cons (c_v 2 rfl rfl) a_nil)) (fun _ => rfl) rfl) (c_max ye.ok B rfl (c_l (c_L ye.ok (l_lcX (.n 10) [("row", 10)] ye.ok (i_list (c_call (w := law_rows_W) 0 ye G_law_rows (Nat.le_of_ble_eq_true rfl) rfl (a_cons (c_v 1 rfl rfl) a_nil) (fun _ => rfl) rfl)) (show BlkOk law_rest1_N d__law_rest1.scope _ _ from blk_by (by decide +kernel)) (fun z => (tg_blk ye.ok z 10 rfl)) (fun _ (x19 : Txt) _ _ => ts_one (t_k (k_in ye.ok.blk (c_v 10 rfl rfl) (c_l (c_call (w := law_rows_W) 0 ye.blk G_law_rows (Nat.le_of_ble_eq_true rfl) rfl (a_cons (c_v 2 rfl rfl) a_nil) (fun _ => rfl) trivial))))) (fun _ (x19 : Txt) _ _ => (c_lenS B rfl (c_v 10 rfl rfl))))))))) ?_ ?_ (by exact h)
  · intro h
    refine s_ret (R := fun (v23 : Bool) => Q v23) c_bl (by exact h) ?_
    intro v23 h
    try dsimp only
    exact ⟨⟨0, rfl⟩, _, rfl, h⟩
  intro h
  refine ws_nil ?_
  refine s_asg (R := fun (by25 : Int) => (law_rest1_w11 one1 by25 Q)) 11 ye.ok rfl (c_sub (c_callD 0 0 ye.ok G_law_roll (Nat.le_of_ble_eq_true rfl) rfl (a_cons c_int a_nil) rfl rfl rfl (fun _ => rfl)) c_int) ?_ (by exact h)
  intro by25 h
  try dsimp only
  show Ws _ (⟨[some (raw (.ref q0)), some (pu one1), some (pu other2), some (pu words3), some (pu ends6), none, none, some (pu both11), none, some (pu size13), none, some (pu by25), none, none, none, none, none, none], [(q0, dicec)]⟩ : DSt) _ _
  refine s_if (B := Q false) (C := (law_rest1_w10 one1 Q)) (t_w (w_or (t_k (k_ne ye.ok (c_call (w := shifted_W) 0 ye G_shifted (Nat.le_of_ble_eq_true rfl) rfl (a_cons (c_v 1 rfl rfl) (a_cons (c_v 11 rfl rfl) a_nil)) (fun _ => rfl) rfl) (c_join c_tx (c_l (c_L ye.ok (l_lc0 (.n 12) [("letter", 12)] (fun (x27 : Txt) => (ixS (tx "abcdefghijklmnopqrstuvwxyz") (((idxT (tx "abcdefghijklmnopqrstuvwxyz") x27) + by25) % (26 : Int)))) ye.ok (i_txt (c_v 1 rfl rfl)) (show BlkOk law_rest1_N d__law_rest1.scope _ _ from blk_by (by decide +kernel)) (fun z => (tg_blk ye.ok z 12 rfl)) (fun _ (x27 : Txt) _ _ => (c_ixS (c_gs rfl (He.str_ok L.X L.G (L.d.fact 58 rfl))) (c_mod (c_add (c_idxS (c_gs rfl (He.str_ok L.X L.G (L.d.fact 58 rfl))) (c_v 12 rfl rfl)) (c_v 11 rfl rfl)) c_int))))))))) (w_or1 (t_k (k_ne ye.ok (c_call (w := shifted_W) 0 ye G_shifted (Nat.le_of_ble_eq_true rfl) rfl (a_cons (c_call (w := shifted_W) 0 ye G_shifted (Nat.le_of_ble_eq_true rfl) rfl (a_cons (c_v 1 rfl rfl) (a_cons (c_v 11 rfl rfl) a_nil)) (fun _ => rfl) rfl) (a_cons (c_sub c_int (c_v 11 rfl rfl)) a_nil)) (fun _ => rfl) rfl) (c_v 1 rfl rfl)))))) ?_ ?_ (by exact h)
  · intro h
    refine s_ret (R := fun (v30 : Bool) => Q v30) c_bl (by exact h) ?_
    intro v30 h
    try dsimp only
    exact ⟨⟨0, rfl⟩, _, rfl, h⟩
  intro h
  refine ws_nil ?_
  refine s_asg (R := fun (number32 : Int) => (law_rest1_w9 one1 number32 (0 : Int) Q)) 13 ye.ok rfl (c_call (w := number_of_W) 0 ye G_number_of (Nat.le_of_ble_eq_true rfl) rfl (a_cons (c_v 1 rfl rfl) a_nil) (fun _ => rfl) rfl) ?_ (by exact h)
  intro number32 h
  try dsimp only
  show Ws _ (⟨[some (raw (.ref q0)), some (pu one1), some (pu other2), some (pu words3), some (pu ends6), none, none, some (pu both11), none, some (pu size13), none, some (pu by25), none, some (pu number32), none, none, none, none], [(q0, dicec)]⟩ : DSt) _ _
  refine s_asg (R := fun (due33 : Int) => (law_rest1_w9 one1 number32 due33 Q)) 14 ye.ok rfl c_int ?_ (by exact h)
  intro due33 h
  try dsimp only
  show Ws _ (⟨[some (raw (.ref q0)), some (pu one1), some (pu other2), some (pu words3), some (pu ends6), none, none, some (pu both11), none, some (pu size13), none, some (pu by25), none, some (pu number32), some (pu due33), none, none, none], [(q0, dicec)]⟩ : DSt) _ _
  refine s_for (Z := Int) (J := Option Pv) (Body := (fun (x34 : Txt) (z35 : Int) (nx37 : Int → Prop) => (law_rest1_w1 x34 nx37 z35))) (Rest := (fun (z40 : Int) => (law_rest1_w8 one1 number32 z40 Q))) (.n 12) (fun (z35 : Int) (j36 : Option Pv) => (⟨[some (raw (.ref q0)), some (pu one1), some (pu other2), some (pu words3), some (pu ends6), none, none, some (pu both11), none, some (pu size13), none, some (pu by25), j36, some (pu number32), some (pu (z35 : Int)), none, none, none], [(q0, dicec)]⟩ : DSt)) due33 none ye.ok (i_txt (c_v 1 rfl rfl)) (tg_nm ye.ok.nd 12 rfl) rfl ?_ ?_ (by exact h)
  · intro x34 due38 j36 nx37 h
    try dsimp only
    show Ws _ (⟨[some (raw (.ref q0)), some (pu one1), some (pu other2), some (pu words3), some (pu ends6), none, none, some (pu both11), none, some (pu size13), none, some (pu by25), some (pu x34), some (pu number32), some (pu due38), none, none, none], [(q0, dicec)]⟩ : DSt) _ _
    refine s_asg (R := fun (due39 : Int) => nx37 due39) 14 ye.ok rfl (c_add (c_mul c_int (c_v 14 rfl rfl)) (c_idxS (c_gs rfl (He.str_ok L.X L.G (L.d.fact 58 rfl))) (c_v 12 rfl rfl))) ?_ (by exact h)
    intro due39 h
    try dsimp only
    show Ws _ (⟨[some (raw (.ref q0)), some (pu one1), some (pu other2), some (pu words3), some (pu ends6), none, none, some (pu both11), none, some (pu size13), none, some (pu by25), some (pu x34), some (pu number32), some (pu due39), none, none, none], [(q0, dicec)]⟩ : DSt) _ _
    exact ws_nil ⟨due39, some (pu x34), rfl, h⟩
  intro due42 j41 h
  try dsimp only
  show Ws _ (⟨[some (raw (.ref q0)), some (pu one1), some (pu other2), some (pu words3), some (pu ends6), none, none, some (pu both11), none, some (pu size13), none, some (pu by25), j41, some (pu number32), some (pu due42), none, none, none], [(q0, dicec)]⟩ : DSt) _ _
  refine s_if (B := Q false) (C := (law_rest1_w7 one1 number32 Q)) (t_w (w_orP (y := (decide (number32 ≠ due42))) (t_k (k_ne ye.ok (c_call (w := word_at_W) 0 ye G_word_at (Nat.le_of_ble_eq_true rfl) rfl (a_cons (c_v 13 rfl rfl) (a_cons (c_lenS B rfl (c_v 1 rfl rfl)) a_nil)) (fun _ => rfl) rfl) (c_v 1 rfl rfl))) (w_or1 (t_k (k_ne ye.ok (c_v 13 rfl rfl) (c_v 14 rfl rfl)))))) ?_ ?_ (by exact h)
  · intro h
    refine s_ret (R := fun (v44 : Bool) => Q v44) c_bl (by exact h) ?_
    intro v44 h
    try dsimp only
    exact ⟨⟨0, rfl⟩, _, rfl, h⟩
  intro h
  refine ws_nil ?_
  refine s_asg (R := fun (same46 : Txt) => (law_rest1_w6 one1 number32 same46 Q)) 15 ye.ok rfl (c_callD 0 0 ye.ok G_law_word (Nat.le_of_ble_eq_true rfl) rfl (a_cons c_tx (a_cons (c_lenS B rfl (c_v 1 rfl rfl)) (a_cons (c_lenS B rfl (c_v 1 rfl rfl)) a_nil))) rfl rfl rfl (fun _ => rfl)) ?_ (by exact h)
  intro same46 h
  try dsimp only
  show Ws _ (⟨[some (raw (.ref q0)), some (pu one1), some (pu other2), some (pu words3), some (pu ends6), none, none, some (pu both11), none, some (pu size13), none, some (pu by25), j41, some (pu number32), some (pu due42), some (pu same46), none, none], [(q0, dicec)]⟩ : DSt) _ _
  refine s_asg (R := fun (middle48 : Txt) => (law_rest1_w5 one1 number32 same46 middle48 Q)) 16 ye.ok rfl (c_call (w := between_W) 0 ye G_between (Nat.le_of_ble_eq_true rfl) rfl (a_cons (c_v 1 rfl rfl) (a_cons (c_v 15 rfl rfl) a_nil)) (fun _ => rfl) rfl) ?_ (by exact h)
  intro middle48 h
  try dsimp only
  show Ws _ (⟨[some (raw (.ref q0)), some (pu one1), some (pu other2), some (pu words3), some (pu ends6), none, none, some (pu both11), none, some (pu size13), none, some (pu by25), j41, some (pu number32), some (pu due42), some (pu same46), some (pu middle48), none], [(q0, dicec)]⟩ : DSt) _ _
  refine s_if (B := Q false) (C := (law_rest1_w4 Q)) (t_w (w_orP (y := (decide ((middle48.length : Int) ≠ (one1.length : Int)))) (t_k (k_nin ye.ok (c_mul c_int (c_call (w := number_of_W) 0 ye G_number_of (Nat.le_of_ble_eq_true rfl) rfl (a_cons (c_v 16 rfl rfl) a_nil) (fun _ => rfl) rfl)) (c_l (c_list (s_cons (c_add (c_v 13 rfl rfl) (c_call (w := number_of_W) 0 ye G_number_of (Nat.le_of_ble_eq_true rfl) rfl (a_cons (c_v 15 rfl rfl) a_nil) (fun _ => rfl) rfl)) (s_cons (c_sub (c_add (c_v 13 rfl rfl) (c_call (w := number_of_W) 0 ye G_number_of (Nat.le_of_ble_eq_true rfl) rfl (a_cons (c_v 15 rfl rfl) a_nil) (fun _ => rfl) rfl)) c_int) (s_nil))))))) (w_or1 (t_k (k_ne ye.ok (c_lenS B rfl (c_v 16 rfl rfl)) (c_lenS B rfl (c_v 1 rfl rfl))))))) ?_ ?_ (by exact h)
  · intro h
    refine s_ret (R := fun (v52 : Bool) => Q v52) c_bl (by exact h) ?_
    intro v52 h
    try dsimp only
    exact ⟨⟨0, rfl⟩, _, rfl, h⟩
  intro h
  refine ws_nil ?_
  refine s_for (Z := Unit) (J := Option Pv) (Body := (fun (x53 : Txt) (z54 : Unit) (nx56 : Unit → Prop) => (law_rest1_w2 x53 nx56 Q))) (Rest := (fun (z60 : Unit) => (law_rest1_w3 Q))) (.n 17) (fun (z54 : Unit) (j55 : Option Pv) => (⟨[some (raw (.ref q0)), some (pu one1), some (pu other2), some (pu words3), some (pu ends6), none, none, some (pu both11), none, some (pu size13), none, some (pu by25), j41, some (pu number32), some (pu due42), some (pu same46), some (pu middle48), j55], [(q0, dicec)]⟩ : DSt)) () none ye.ok (i_list (c_list (s_cons c_tx (s_cons c_tx (s_cons c_tx (s_cons (c_mulS c_tx c_int) (s_cons c_tx (s_nil)))))))) (tg_nm ye.ok.nd 17 rfl) rfl ?_ ?_ (by exact h)
  · intro x53 z54 j55 nx56 h
    try dsimp only
    show Ws _ (⟨[some (raw (.ref q0)), some (pu one1), some (pu other2), some (pu words3), some (pu ends6), none, none, some (pu both11), none, some (pu size13), none, some (pu by25), j41, some (pu number32), some (pu due42), some (pu same46), some (pu middle48), some (pu x53)], [(q0, dicec)]⟩ : DSt) _ _
    refine s_if (B := Q false) (C := nx56 ()) (t_k (k_ne ye.ok (c_told 3 (Sum.inl : Unit → (Unit ⊕ Txt)) (Sum.inr : Txt → (Unit ⊕ Txt)) toldT (ok_told L FD_told) (told_tells L.d) (tbl _ (List.mem_of_getElem? (i := 3) rfl)) ye.ok (Nat.le_of_ble_eq_true rfl) rfl (show LamX.LamS d__law_rest1.scope _ from LamX.lamS_by (by decide +kernel)) (fun _ _ _ _ h => h) (fun _ _ _ _ h => h) (fun z E_ ye' => (c_call (w := check_word_W) 0 ye' G_check_word (Nat.le_of_ble_eq_true rfl) rfl (a_cons (c_v 17 rfl rfl) a_nil) (fun _ => rfl) rfl))) (c_inr (α := Unit) (β := Txt) c_tx))) ?_ ?_ (by exact h)
    · intro h
      refine s_ret (R := fun (v59 : Bool) => Q v59) c_bl (by exact h) ?_
      intro v59 h
      try dsimp only
      exact ⟨⟨0, rfl⟩, _, rfl, h⟩
    intro h
    refine ws_nil ?_
    exact ws_nil ⟨(), some (pu x53), rfl, h⟩
  intro z60 j61 h
  try dsimp only
  show Ws _ (⟨[some (raw (.ref q0)), some (pu one1), some (pu other2), some (pu words3), some (pu ends6), none, none, some (pu both11), none, some (pu size13), none, some (pu by25), j41, some (pu number32), some (pu due42), some (pu same46), some (pu middle48), j61], [(q0, dicec)]⟩ : DSt) _ _
  refine s_if (B := Q false) (C := Q true) (t_not (t_v (fun _ => rfl) (c_call0 (w := law_cases1_W) 0 ye G_law_cases1 (Nat.le_of_ble_eq_true rfl) rfl rfl rfl))) ?_ ?_ (by exact h)
  · intro h
    refine s_ret (R := fun (v63 : Bool) => Q v63) c_bl (by exact h) ?_
    intro v63 h
    try dsimp only
    exact ⟨⟨0, rfl⟩, _, rfl, h⟩
  intro h
  refine ws_nil ?_
  refine s_ret (R := fun (v64 : Bool) => Q v64) c_bl (by exact h) ?_
  intro v64 h
  try dsimp only
  exact ⟨⟨0, rfl⟩, _, rfl, h⟩

abbrev law_N : List Str := ["script", "dice", "one", "other", "words", "k", "sign", "letter", "unlike", "groups", "word", "first", "due", "group", "hand", "lack", "firsts", "parts", "part", "longest", "marks", "starts"]
theorem law_S : FnScope law_N ["script"] d_law.scope := ⟨rfl, rfl, rfl, by decide +kernel, rfl, by decide +kernel, by decide +kernel⟩
theorem ok_law (B : Bis mg) (L : LK w K mg base fa fn tq) {fd : FuncData} (F1 : Fd K d_law ["script"] fd) (G_law_rounds : Df P w K mg base (tbOf K tq) 2 "_law_rounds" ["script", "most"] dRoundsA) (G_law_word : Df P w K mg base (tbOf K tq) 2 "_law_word" ["dice", "letters", "least", "most"] (spD law_word_W)) (G_law_roll : Df P w K mg base (tbOf K tq) 1 "_law_roll" ["dice", "many"] (spD rollW)) (G_letters_in : Df P w K mg base (tbOf K tq) 1 "letters_in" ["word"] (spF K letters_in_W)) (G_sorted_letters : Df P w K mg base (tbOf K tq) 1 "sorted_letters" ["word"] (spF K sorted_letters_W)) (G_turned : Df P w K mg base (tbOf K tq) 1 "turned" ["word"] (spF K turned_W)) (G_law_unlike : Df P w K mg base (tbOf K tq) 1 "_law_unlike" ["words"] (spF K law_unlike_W)) (G_same_letters : Df P w K mg base (tbOf K tq) 2 "same_letters" ["words"] (spF K same_letters_W)) (G_can_be_made : Df P w K mg base (tbOf K tq) 1 "can_be_made" ["word", "letters"] (spF K can_be_made_W)) (G_shape_of : Df P w K mg base (tbOf K tq) 1 "shape_of" ["word"] (spF K shape_of_W)) (G_is_same_backward : Df P w K mg base (tbOf K tq) 2 "is_same_backward" ["word"] (spF K is_same_backward_W)) (G_law_parts : Df P w K mg base (tbOf K tq) 2 "_law_parts" ["word"] (spF K law_parts_W)) (G_longest_backward : Df P w K mg base (tbOf K tq) 3 "longest_backward" ["word"] (spF K longest_backward_W)) (G_pattern_of : Df P w K mg base (tbOf K tq) 1 "pattern_of" ["word"] (spF K pattern_of_W)) (G_beats : Df P w K mg base (tbOf K tq) 3 "beats" ["word"] (spF K beats_W)) (G_common_start : Df P w K mg base (tbOf K tq) 1 "common_start" ["words"] (spF K common_start_W)) (G_law_rest1 : Df P w K mg base (tbOf K tq) 6 "_law_rest1" ["dice", "one", "other", "words"] (spD law_rest1_W)) : FnOk P w K mg base (L2.CX P w) 7 (He.fAd K d_law.at_) fd ["script"] (toSp K (tbOf K tq) 1 (spF K law_W)) := by
  refine fn_F (k := 6) none L F1 law_S law_W noneNo (fun _ => rfl) ?_
  intro z t Q E h ye tbl
  obtain ⟨script1, ⟨⟩⟩ := t
  show Ws _ (⟨[some (pu script1), none, none, none, none, none, none, none, none, none, none, none, none, none, none, none, none, none, none, none, none, none], []⟩ : DSt) _ _
  refine s_rounds (R := (law_w22 Q E)) 1 0 ye.ok G_law_rounds (Nat.le_of_ble_eq_true rfl) rfl rfl rfl (tg_nm ye.ok.nd 1 rfl) (c_v 0 rfl rfl) ?_ (by exact h)
  intro q2 h
  try dsimp only
  show Ws _ (⟨[some (pu script1), some (raw (.ref q2)), none, none, none, none, none, none, none, none, none, none, none, none, none, none, none, none, none, none, none, none], [(q2, dicec)]⟩ : DSt) _ _
  refine s_asgT (R := fun (u5 : (Txt × Txt)) => (law_w21 u5 Q E)) (.p (.n 2) (.n 3)) (tg_pair ye.ok.calm (tg_nm ye.ok.nd 2 rfl) (tg_nm ye.ok.nd 3 rfl)) (c_tup2 (a_cons (c_callD 1 0 ye.ok G_law_word (Nat.le_of_ble_eq_true rfl) rfl (a_cons c_tx (a_cons c_int (a_cons c_int a_nil))) rfl rfl rfl (fun _ => rfl)) (a_cons (c_callD 1 0 ye.ok G_law_word (Nat.le_of_ble_eq_true rfl) rfl (a_cons c_tx (a_cons c_int (a_cons c_int a_nil))) rfl rfl rfl (fun _ => rfl)) a_nil))) ?_ (by exact h)
  intro u5 h
  try dsimp only
  show Ws _ (⟨[some (pu script1), some (raw (.ref q2)), some (pu u5.1), some (pu u5.2), none, none, none, none, none, none, none, none, none, none, none, none, none, none, none, none, none, none], [(q2, dicec)]⟩ : DSt) _ _
  refine s_asg (R := fun (words11 : (List Txt)) => (law_w20 u5 words11 Q E)) 4 ye.ok rfl (c_L ye.ok (l_lcN (.n 5) [("k", 5)] ye.ok (i_range1 ye.ok B rfl (c_callD 1 0 ye.ok G_law_roll (Nat.le_of_ble_eq_true rfl) rfl (a_cons c_int a_nil) rfl rfl rfl (fun _ => rfl))) (show BlkOk law_N d_law.scope _ _ from blk_by (by decide +kernel)) (fun z => (tg_blk ye.ok z 5 rfl)) (fun _ (x7 : Int) _ _ => (c_callD 1 1 ye.ok.blk G_law_word (Nat.le_of_ble_eq_true rfl) rfl (a_cons c_tx (a_cons c_int (a_cons c_int a_nil))) rfl rfl rfl (fun _ => rfl))))) ?_ (by exact h)
  intro words11 h
  try dsimp only
  show Ws _ (⟨[some (pu script1), some (raw (.ref q2)), some (pu u5.1), some (pu u5.2), some (pu words11), none, none, none, none, none, none, none, none, none, none, none, none, none, none, none, none, none], [(q2, dicec)]⟩ : DSt) _ _
  refine s_if (B := Q false) (C := (law_w19 u5 words11 Q E)) (t_k (k_neL ye.ok (c_l (c_listH B rfl (c_call (w := letters_in_W) 1 ye G_letters_in (Nat.le_of_ble_eq_true rfl) rfl (a_cons (c_v 2 rfl rfl) a_nil) (fun _ => rfl) rfl))) (c_l (c_L ye.ok (l_lc (.n 7) [("letter", 7)] (fun (x13 : Txt) => (tin x13 u5.1)) (fun (x13 : Txt) => (x13, (List.length (((u5.1.map fun c => [c]).filter (fun (x14 : Txt) => (decide (x14 = x13)))).map (fun (x14 : Txt) => x14)) : Int))) ye.ok (i_txt c_tx) (show BlkOk law_N d_law.scope _ _ from blk_by (by decide +kernel)) (fun z => (tg_blk ye.ok z 7 rfl)) (fun _ (x13 : Txt) _ _ => ts_one (t_k (k_inS (c_v 7 rfl rfl) (c_v 2 rfl rfl)))) (fun _ (x13 : Txt) _ _ => (c_tup2 (a_cons (c_v 7 rfl rfl) (a_cons (c_lenL B rfl (c_l (c_L ye.ok.blk (l_lc (.n 6) [("sign", 6)] (fun (x14 : Txt) => (decide (x14 = x13))) (fun (x14 : Txt) => x14) ye.ok.blk (i_txt (c_v 2 rfl rfl)) (blk_by (by first | decide +kernel | rfl)) (fun z => (tg_blk ye.ok.blk z 6 rfl)) (fun _ (x14 : Txt) _ _ => ts_one (t_k (k_eq ye.ok.blk.blk (c_v 6 rfl rfl) (c_v 7 rfl rfl)))) (fun _ (x14 : Txt) _ _ => (c_v 6 rfl rfl)))))) a_nil))))))))) ?_ ?_ (by exact h)
  · intro h
    refine s_ret (R := fun (v15 : Bool) => Q v15) c_bl (by exact h) ?_
    intro v15 h
    try dsimp only
    exact ⟨⟨1, rfl⟩, _, rfl, h⟩
  intro h
  refine ws_nil ?_
  refine s_if (B := Q false) (C := (law_w18 u5 words11 Q E)) (t_w (w_or (t_k (k_ne ye.ok (c_call (w := sorted_letters_W) 1 ye G_sorted_letters (Nat.le_of_ble_eq_true rfl) rfl (a_cons (c_v 2 rfl rfl) a_nil) (fun _ => rfl) rfl) (c_join c_tx (c_l (c_sortedS ye.ok B rfl (c_v 2 rfl rfl)))))) (w_or1 (t_k (k_ne ye.ok (c_call (w := turned_W) 1 ye G_turned (Nat.le_of_ble_eq_true rfl) rfl (a_cons (c_v 2 rfl rfl) a_nil) (fun _ => rfl) rfl) (c_join c_tx (c_l (c_L ye.ok (l_lc0 (.n 5) [("k", 5)] (fun (x18 : Int) => (ixS u5.1 (((u5.1.length : Int) - (1 : Int)) - x18))) ye.ok (i_range1 ye.ok B rfl (c_lenS B rfl (c_v 2 rfl rfl))) (show BlkOk law_N d_law.scope _ _ from blk_by (by decide +kernel)) (fun z => (tg_blk ye.ok z 5 rfl)) (fun _ (x18 : Int) _ _ => (c_ixS (c_v 2 rfl rfl) (c_sub (c_sub (c_lenS B rfl (c_v 2 rfl rfl)) c_int) (c_v 5 rfl rfl))))))))))))) ?_ ?_ (by exact h)
  · intro h
    refine s_ret (R := fun (v19 : Bool) => Q v19) c_bl (by exact h) ?_
    intro v19 h
    try dsimp only
    exact ⟨⟨1, rfl⟩, _, rfl, h⟩
  intro h
  refine ws_nil ?_
  refine s_asg (R := fun (unlike21 : (List Txt)) => (law_w17 u5 words11 unlike21 Q E)) 8 ye.ok rfl (c_call (w := law_unlike_W) 1 ye G_law_unlike (Nat.le_of_ble_eq_true rfl) rfl (a_cons (c_v 4 rfl rfl) a_nil) (fun _ => rfl) rfl) ?_ (by exact h)
  intro unlike21 h
  try dsimp only
  show Ws _ (⟨[some (pu script1), some (raw (.ref q2)), some (pu u5.1), some (pu u5.2), some (pu words11), none, none, none, some (pu unlike21), none, none, none, none, none, none, none, none, none, none, none, none, none], [(q2, dicec)]⟩ : DSt) _ _
  refine s_asgL (R := fun (groups24 : (List (List Txt))) => (law_w16 u5 words11 groups24 Q E)) 9 ye.ok rfl (l_lc0 (.n 11) [("first", 11)] (fun (x22 : Txt) => ((unlike21.filter (fun (x23 : Txt) => (decide ((srt (x23.map fun c => [c])) = (srt (x22.map fun c => [c])))))).map (fun (x23 : Txt) => x23))) ye.ok (i_list (c_v 8 rfl rfl)) (show BlkOk law_N d_law.scope _ _ from blk_by (by decide +kernel)) (fun z => (tg_blk ye.ok z 11 rfl)) (fun _ (x22 : Txt) _ _ => (c_L ye.ok.blk (l_lc (.n 10) [("word", 10)] (fun (x23 : Txt) => (decide ((srt (x23.map fun c => [c])) = (srt (x22.map fun c => [c]))))) (fun (x23 : Txt) => x23) ye.ok.blk (i_list (c_v 8 rfl rfl)) (blk_by (by first | decide +kernel | rfl)) (fun z => (tg_blk ye.ok.blk z 10 rfl)) (fun _ (x23 : Txt) _ _ => ts_one (t_k (k_eqL ye.ok.blk.blk (c_l (c_sortedS ye.ok.blk.blk B rfl (c_v 10 rfl rfl))) (c_l (c_sortedS ye.ok.blk.blk B rfl (c_v 11 rfl rfl)))))) (fun _ (x23 : Txt) _ _ => (c_v 10 rfl rfl)))))) ?_ (by exact h)
  intro groups24 h
  try dsimp only
  show Ws _ (⟨[some (pu script1), some (raw (.ref q2)), some (pu u5.1), some (pu u5.2), some (pu words11), none, none, none, some (pu unlike21), some (pu groups24), none, none, none, none, none, none, none, none, none, none, none, none], [(q2, dicec)]⟩ : DSt) _ _
  refine s_asg (R := fun (due26 : (List ((List Txt) × (List Txt)))) => (law_w15 u5 words11 due26 Q E)) 12 ye.ok rfl (c_sorted ye.ok B rfl (c_l (c_L ye.ok (l_lc (.n 13) [("group", 13)] (fun (x25 : (List Txt)) => (decide ((1 : Int) < (x25.length : Int)))) (fun (x25 : (List Txt)) => ((srt ((ixD x25 (0 : Int)).map fun c => [c])), x25)) ye.ok (i_list (c_v 9 rfl rfl)) (show BlkOk law_N d_law.scope _ _ from blk_by (by decide +kernel)) (fun z => (tg_blk ye.ok z 13 rfl)) (fun _ (x25 : (List Txt)) _ _ => ts_one (t_k (k_gt (c_lenL B rfl (c_l (c_v 13 rfl rfl))) c_int))) (fun _ (x25 : (List Txt)) _ _ => (c_tup2 (a_cons (c_sortedS ye.ok.blk B rfl (c_ixL (c_l (c_v 13 rfl rfl)) c_int)) (a_cons (c_v 13 rfl rfl) a_nil)))))))) ?_ (by exact h)
  intro due26 h
  try dsimp only
  show Ws _ (⟨[some (pu script1), some (raw (.ref q2)), some (pu u5.1), some (pu u5.2), some (pu words11), none, none, none, some (pu unlike21), some (pu groups24), none, none, some (pu due26), none, none, none, none, none, none, none, none, none], [(q2, dicec)]⟩ : DSt) _ _
  refine s_if (B := Q false) (C := (law_w14 u5 words11 Q E)) (t_k (k_neL ye.ok (c_l (c_L ye.ok (l_lc0 (.n 13) [("group", 13)] (fun (x28 : (Tup Txt)) => x28.items) ye.ok (i_tup (c_call (w := same_letters_W) 1 ye G_same_letters (Nat.le_of_ble_eq_true rfl) rfl (a_cons (c_v 4 rfl rfl) a_nil) (fun _ => rfl) rfl)) (show BlkOk law_N d_law.scope _ _ from blk_by (by decide +kernel)) (fun z => (tg_blk ye.ok z 13 rfl)) (fun _ (x28 : (Tup Txt)) _ _ => (c_listH B rfl (c_v 13 rfl rfl)))))) (c_l (c_L ye.ok (l_lc (.n 5) [("k", 5)] (fun (x29 : Int) => ((niL (ixD due26 x29) (cutD due26 none (some x29))))) (fun (x29 : Int) => (ixD due26 x29).2) ye.ok (i_range1 ye.ok B rfl (c_lenL B rfl (c_l (c_v 12 rfl rfl)))) (show BlkOk law_N d_law.scope _ _ from blk_by (by decide +kernel)) (fun z => (tg_blk ye.ok z 5 rfl)) (fun _ (x29 : Int) _ _ => ts_one (t_k (k_nin ye.ok.blk (c_ixL (c_l (c_v 12 rfl rfl)) (c_v 5 rfl rfl)) (c_l (c_slL (c_l (c_v 12 rfl rfl)) o_no (o_at (c_v 5 rfl rfl))))))) (fun _ (x29 : Int) _ _ => (c_snd (c_ixL (c_l (c_v 12 rfl rfl)) (c_v 5 rfl rfl))))))))) ?_ ?_ (by exact h)
  · intro h
    refine s_ret (R := fun (v30 : Bool) => Q v30) c_bl (by exact h) ?_
    intro v30 h
    try dsimp only
    exact ⟨⟨1, rfl⟩, _, rfl, h⟩
  intro h
  refine ws_nil ?_
  refine s_asg (R := fun (hand32 : Txt) => (law_w13 u5 words11 hand32 Q E)) 14 ye.ok rfl (c_callD 1 0 ye.ok G_law_word (Nat.le_of_ble_eq_true rfl) rfl (a_cons c_tx (a_cons c_int (a_cons c_int a_nil))) rfl rfl rfl (fun _ => rfl)) ?_ (by exact h)
  intro hand32 h
  try dsimp only
  show Ws _ (⟨[some (pu script1), some (raw (.ref q2)), some (pu u5.1), some (pu u5.2), some (pu words11), none, none, none, some (pu unlike21), some (pu groups24), none, none, some (pu due26), none, some (pu hand32), none, none, none, none, none, none, none], [(q2, dicec)]⟩ : DSt) _ _
  refine s_asg (R := fun (lack34 : Int) => (law_w12 u5 words11 hand32 lack34 Q E)) 15 ye.ok rfl (c_sum ye.ok B rfl (c_l (c_L ye.ok (l_lc0 (.n 7) [("letter", 7)] (fun (x33 : Txt) => (max (0 : Int) ((cntT u5.1 x33) - (cntT hand32 x33)))) ye.ok (i_txt c_tx) (show BlkOk law_N d_law.scope _ _ from blk_by (by decide +kernel)) (fun z => (tg_blk ye.ok z 7 rfl)) (fun _ (x33 : Txt) _ _ => (c_max2 ye.ok.blk B rfl c_int (c_sub (c_cntS (c_v 2 rfl rfl) (c_v 7 rfl rfl)) (c_cntS (c_v 14 rfl rfl) (c_v 7 rfl rfl))))))))) ?_ (by exact h)
  intro lack34 h
  try dsimp only
  show Ws _ (⟨[some (pu script1), some (raw (.ref q2)), some (pu u5.1), some (pu u5.2), some (pu words11), none, none, none, some (pu unlike21), some (pu groups24), none, none, some (pu due26), none, some (pu hand32), some (pu lack34), none, none, none, none, none, none], [(q2, dicec)]⟩ : DSt) _ _
  refine s_if (B := Q false) (C := (law_w11 u5 words11 Q E)) (t_k (k_ne ye.ok (c_call (w := can_be_made_W) 1 ye G_can_be_made (Nat.le_of_ble_eq_true rfl) rfl (a_cons (c_v 2 rfl rfl) (a_cons (c_v 14 rfl rfl) a_nil)) (fun _ => rfl) rfl) (c_k (k_le (c_v 15 rfl rfl) (c_cntS (c_v 14 rfl rfl) c_tx))))) ?_ ?_ (by exact h)
  · intro h
    refine s_ret (R := fun (v36 : Bool) => Q v36) c_bl (by exact h) ?_
    intro v36 h
    try dsimp only
    exact ⟨⟨1, rfl⟩, _, rfl, h⟩
  intro h
  refine ws_nil ?_
  refine s_asg (R := fun (firsts38 : (List Txt)) => (law_w10 u5 words11 firsts38 Q E)) 16 ye.ok rfl (c_L ye.ok (l_lc (.n 5) [("k", 5)] (fun (x37 : Int) => (!tin (ixS u5.1 x37) (cutD u5.1 none (some x37)))) (fun (x37 : Int) => (ixS u5.1 x37)) ye.ok (i_range1 ye.ok B rfl (c_lenS B rfl (c_v 2 rfl rfl))) (show BlkOk law_N d_law.scope _ _ from blk_by (by decide +kernel)) (fun z => (tg_blk ye.ok z 5 rfl)) (fun _ (x37 : Int) _ _ => ts_one (t_k (k_ninS (c_ixS (c_v 2 rfl rfl) (c_v 5 rfl rfl)) (c_slS (c_v 2 rfl rfl) o_no (o_at (c_v 5 rfl rfl)))))) (fun _ (x37 : Int) _ _ => (c_ixS (c_v 2 rfl rfl) (c_v 5 rfl rfl))))) ?_ (by exact h)
  intro firsts38 h
  try dsimp only
  show Ws _ (⟨[some (pu script1), some (raw (.ref q2)), some (pu u5.1), some (pu u5.2), some (pu words11), none, none, none, some (pu unlike21), some (pu groups24), none, none, some (pu due26), none, some (pu hand32), some (pu lack34), some (pu firsts38), none, none, none, none, none], [(q2, dicec)]⟩ : DSt) _ _
  refine s_if (B := Q false) (C := (law_w9 u5 words11 Q E)) (t_k (k_ne ye.ok (c_call (w := shape_of_W) 1 ye G_shape_of (Nat.le_of_ble_eq_true rfl) rfl (a_cons (c_v 2 rfl rfl) a_nil) (fun _ => rfl) rfl) (c_join c_tx (c_l (c_L ye.ok (l_lc0 (.n 7) [("letter", 7)] (fun (x40 : Txt) => (ixS (tx "abcd") (idx firsts38 x40 : Int))) ye.ok (i_txt (c_v 2 rfl rfl)) (show BlkOk law_N d_law.scope _ _ from blk_by (by decide +kernel)) (fun z => (tg_blk ye.ok z 7 rfl)) (fun _ (x40 : Txt) _ _ => (c_ixS c_tx (c_idxL ye.ok.blk (c_l (c_v 16 rfl rfl)) (c_v 7 rfl rfl)))))))))) ?_ ?_ (by exact h)
  · intro h
    refine s_ret (R := fun (v41 : Bool) => Q v41) c_bl (by exact h) ?_
    intro v41 h
    try dsimp only
    exact ⟨⟨1, rfl⟩, _, rfl, h⟩
  intro h
  refine ws_nil ?_
  refine s_if (B := Q false) (C := (law_w8 u5 words11 Q E)) (t_k (k_ne ye.ok (c_call (w := is_same_backward_W) 1 ye G_is_same_backward (Nat.le_of_ble_eq_true rfl) rfl (a_cons (c_v 2 rfl rfl) a_nil) (fun _ => rfl) rfl) (c_k (k_eqL ye.ok (c_l (c_listS ye.ok B rfl (c_v 2 rfl rfl))) (c_l (c_listRevS ye.ok B rfl rfl (c_v 2 rfl rfl))))))) ?_ ?_ (by exact h)
  · intro h
    refine s_ret (R := fun (v43 : Bool) => Q v43) c_bl (by exact h) ?_
    intro v43 h
    try dsimp only
    exact ⟨⟨1, rfl⟩, _, rfl, h⟩
  intro h
  refine ws_nil ?_
  refine s_asgL (R := fun (parts46 : (List Txt)) => (law_w7 u5 words11 parts46 Q E)) 17 ye.ok rfl (l_lc (.n 18) [("part", 18)] (fun (x45 : Txt) => (decide ((x45.map fun c => [c]) = (x45.reverse.map fun c => [c])))) (fun (x45 : Txt) => x45) ye.ok (i_list (c_call (w := law_parts_W) 1 ye G_law_parts (Nat.le_of_ble_eq_true rfl) rfl (a_cons (c_v 2 rfl rfl) a_nil) (fun _ => rfl) rfl)) (show BlkOk law_N d_law.scope _ _ from blk_by (by decide +kernel)) (fun z => (tg_blk ye.ok z 18 rfl)) (fun _ (x45 : Txt) _ _ => ts_one (t_k (k_eqL ye.ok.blk (c_l (c_listS ye.ok.blk B rfl (c_v 18 rfl rfl))) (c_l (c_listRevS ye.ok.blk B rfl rfl (c_v 18 rfl rfl)))))) (fun _ (x45 : Txt) _ _ => (c_v 18 rfl rfl))) ?_ (by exact h)
  intro parts46 h
  try dsimp only
  show Ws _ (⟨[some (pu script1), some (raw (.ref q2)), some (pu u5.1), some (pu u5.2), some (pu words11), none, none, none, some (pu unlike21), some (pu groups24), none, none, some (pu due26), none, some (pu hand32), some (pu lack34), some (pu firsts38), some (pu parts46), none, none, none, none], [(q2, dicec)]⟩ : DSt) _ _
  refine s_asg (R := fun (longest48 : Int) => (law_w6 u5 words11 parts46 longest48 Q E)) 19 ye.ok rfl (c_max ye.ok B rfl (c_l (c_L ye.ok (l_lc0 (.n 18) [("part", 18)] (fun (x47 : Txt) => (x47.length : Int)) ye.ok (i_list (c_v 17 rfl rfl)) (show BlkOk law_N d_law.scope _ _ from blk_by (by decide +kernel)) (fun z => (tg_blk ye.ok z 18 rfl)) (fun _ (x47 : Txt) _ _ => (c_lenS B rfl (c_v 18 rfl rfl))))))) ?_ (by exact h)
  intro longest48 h
  try dsimp only
  show Ws _ (⟨[some (pu script1), some (raw (.ref q2)), some (pu u5.1), some (pu u5.2), some (pu words11), none, none, none, some (pu unlike21), some (pu groups24), none, none, some (pu due26), none, some (pu hand32), some (pu lack34), some (pu firsts38), some (pu parts46), none, some (pu longest48), none, none], [(q2, dicec)]⟩ : DSt) _ _
  refine s_if (B := Q false) (C := (law_w5 u5 words11 Q E)) (t_k (k_ne ye.ok (c_call (w := longest_backward_W) 1 ye G_longest_backward (Nat.le_of_ble_eq_true rfl) rfl (a_cons (c_v 2 rfl rfl) a_nil) (fun _ => rfl) rfl) (c_ixL (c_l (c_L ye.ok (l_lc (.n 18) [("part", 18)] (fun (x50 : Txt) => (decide ((x50.length : Int) = longest48))) (fun (x50 : Txt) => x50) ye.ok (i_list (c_v 17 rfl rfl)) (show BlkOk law_N d_law.scope _ _ from blk_by (by decide +kernel)) (fun z => (tg_blk ye.ok z 18 rfl)) (fun _ (x50 : Txt) _ _ => ts_one (t_k (k_eq ye.ok.blk (c_lenS B rfl (c_v 18 rfl rfl)) (c_v 19 rfl rfl)))) (fun _ (x50 : Txt) _ _ => (c_v 18 rfl rfl))))) c_int))) ?_ ?_ (by exact h)
  · intro h
    refine s_ret (R := fun (v51 : Bool) => Q v51) c_bl (by exact h) ?_
    intro v51 h
    try dsimp only
    exact ⟨⟨1, rfl⟩, _, rfl, h⟩
  intro h
  refine ws_nil ?_
  refine s_asg (R := fun (marks53 : Txt) => (law_w4 u5 words11 marks53 Q E)) 20 ye.ok rfl (c_join c_tx (c_l (c_L ye.ok (l_lc0 (.n 7) [("letter", 7)] (fun (x52 : Txt) => (if (tin x52 (tx "ae")) = true then (tx "v") else (tx "c"))) ye.ok (i_txt (c_v 2 rfl rfl)) (show BlkOk law_N d_law.scope _ _ from blk_by (by decide +kernel)) (fun z => (tg_blk ye.ok z 7 rfl)) (fun _ (x52 : Txt) _ _ => (c_ifP (u := (tx "v")) (w := (tx "c")) (t_k (k_inS (c_v 7 rfl rfl) c_tx)) c_tx c_tx)))))) ?_ (by exact h)
  intro marks53 h
  try dsimp only
  show Ws _ (⟨[some (pu script1), some (raw (.ref q2)), some (pu u5.1), some (pu u5.2), some (pu words11), none, none, none, some (pu unlike21), some (pu groups24), none, none, some (pu due26), none, some (pu hand32), some (pu lack34), some (pu firsts38), some (pu parts46), none, some (pu longest48), some (pu marks53), none], [(q2, dicec)]⟩ : DSt) _ _
  refine s_if (B := Q false) (C := (law_w3 u5 words11 Q E)) (t_w (w_or (t_k (k_ne ye.ok (c_call (w := pattern_of_W) 1 ye G_pattern_of (Nat.le_of_ble_eq_true rfl) rfl (a_cons (c_v 2 rfl rfl) a_nil) (fun _ => rfl) rfl) (c_v 20 rfl rfl))) (w_or1 (t_k (k_ne ye.ok (c_call (w := beats_W) 1 ye G_beats (Nat.le_of_ble_eq_true rfl) rfl (a_cons (c_v 2 rfl rfl) a_nil) (fun _ => rfl) rfl) (c_max2 ye.ok B rfl c_int (c_lenL B rfl (c_l (c_L ye.ok (l_lc (.n 18) [("part", 18)] (fun (x56 : Txt) => (decide (x56 ≠ (tx "")))) (fun (x56 : Txt) => x56) ye.ok (i_list (c_split (c_v 20 rfl rfl) c_tx)) (show BlkOk law_N d_law.scope _ _ from blk_by (by decide +kernel)) (fun z => (tg_blk ye.ok z 18 rfl)) (fun _ (x56 : Txt) _ _ => ts_one (t_k (k_ne ye.ok.blk (c_v 18 rfl rfl) c_tx))) (fun _ (x56 : Txt) _ _ => (c_v 18 rfl rfl)))))))))))) ?_ ?_ (by exact h)
  · intro h
    refine s_ret (R := fun (v57 : Bool) => Q v57) c_bl (by exact h) ?_
    intro v57 h
    try dsimp only
    exact ⟨⟨1, rfl⟩, _, rfl, h⟩
  intro h
  refine ws_nil ?_
  refine s_asgL (R := fun (starts60 : (List Txt)) => (law_w2 u5 words11 starts60 Q E)) 21 ye.ok rfl (l_lc (.n 5) [("k", 5)] (fun (x58 : Int) => (decide ((((words11 ++ [u5.2]).filter (fun (x59 : Txt) => (decide ((cutD x59 none (some x58)) ≠ (cutD u5.1 none (some x58)))))).map (fun (x59 : Txt) => x59)) = ([] : List Txt)))) (fun (x58 : Int) => (cutD u5.1 none (some x58))) ye.ok (i_range1 ye.ok B rfl (c_add (c_lenS B rfl (c_v 2 rfl rfl)) c_int)) (show BlkOk law_N d_law.scope _ _ from blk_by (by decide +kernel)) (fun z => (tg_blk ye.ok z 5 rfl)) (fun _ (x58 : Int) _ _ => ts_one (t_k (k_eqL ye.ok.blk (c_l (c_L ye.ok.blk (l_lc (.n 10) [("word", 10)] (fun (x59 : Txt) => (decide ((cutD x59 none (some x58)) ≠ (cutD u5.1 none (some x58))))) (fun (x59 : Txt) => x59) ye.ok.blk (i_list (c_catL (c_l (c_v 4 rfl rfl)) (c_l (c_list (s_cons (c_v 3 rfl rfl) (s_nil)))))) (blk_by (by first | decide +kernel | rfl)) (fun z => (tg_blk ye.ok.blk z 10 rfl)) (fun _ (x59 : Txt) _ _ => ts_one (t_k (k_ne ye.ok.blk.blk (c_slS (c_v 10 rfl rfl) o_no (o_at (c_v 5 rfl rfl))) (c_slS (c_v 2 rfl rfl) o_no (o_at (c_v 5 rfl rfl)))))) (fun _ (x59 : Txt) _ _ => (c_v 10 rfl rfl))))) (c_l (c_list (s_nil (α := Txt))))))) (fun _ (x58 : Int) _ _ => (c_slS (c_v 2 rfl rfl) o_no (o_at (c_v 5 rfl rfl))))) ?_ (by exact h)
  intro starts60 h
  try dsimp only
  show Ws _ (⟨[some (pu script1), some (raw (.ref q2)), some (pu u5.1), some (pu u5.2), some (pu words11), none, none, none, some (pu unlike21), some (pu groups24), none, none, some (pu due26), none, some (pu hand32), some (pu lack34), some (pu firsts38), some (pu parts46), none, some (pu longest48), some (pu marks53), some (pu starts60)], [(q2, dicec)]⟩ : DSt) _ _
  refine s_if (B := Q false) (C := (law_w1 u5 words11 Q)) (t_w (w_or (t_k (k_ne ye.ok (c_call (w := common_start_W) 1 ye G_common_start (Nat.le_of_ble_eq_true rfl) rfl (a_cons (c_catL (c_l (c_v 4 rfl rfl)) (c_l (c_list (s_cons (c_v 2 rfl rfl) (s_cons (c_v 3 rfl rfl) (s_nil)))))) a_nil) (fun _ => rfl) rfl) (c_ixL (c_l (c_v 21 rfl rfl)) (c_sub (c_lenL B rfl (c_l (c_v 21 rfl rfl))) c_int)))) (w_or1 (t_k (k_ne ye.ok (c_call (w := common_start_W) 1 ye G_common_start (Nat.le_of_ble_eq_true rfl) rfl (a_cons (c_list (s_nil (α := Txt))) a_nil) (fun _ => rfl) rfl) c_tx))))) ?_ ?_ (by exact h)
  · intro h
    refine s_ret (R := fun (v63 : Bool) => Q v63) c_bl (by exact h) ?_
    intro v63 h
    try dsimp only
    exact ⟨⟨1, rfl⟩, _, rfl, h⟩
  intro h
  refine ws_nil ?_
  refine s_if (B := Q false) (C := Q true) (t_not (t_v (fun _ => rfl) (c_callD 1 0 ye.ok G_law_rest1 (Nat.le_of_ble_eq_true rfl) rfl (a_cons (c_v 2 rfl rfl) (a_cons (c_v 3 rfl rfl) (a_cons (c_v 4 rfl rfl) a_nil))) rfl rfl rfl (fun _ => rfl)))) ?_ ?_ (by exact h)
  · intro h
    refine s_ret (R := fun (v65 : Bool) => Q v65) c_bl (by exact h) ?_
    intro v65 h
    try dsimp only
    exact ⟨⟨1, rfl⟩, _, rfl, h⟩
  intro h
  refine ws_nil ?_
  refine ws_nil ?_
  refine s_ret (R := fun (v66 : Bool) => Q v66) c_bl (by exact h) ?_
  intro v66 h
  try dsimp only
  exact ⟨⟨1, rfl⟩, _, rfl, h⟩

end
end K01
set_option maxHeartbeats 0
namespace K01
open PySem L2 Sp
theorem law_ok {P : Program} {w : World} {K : Frag} {mg : Str → Option Value} {base : Heap} (B : Bis mg) (L : LK w K mg base fa fn tq) {fd : FuncData} (F0 : Fd K d_law ["script"] fd) : FnOk P w K mg base (L2.CX P w) 7 (He.fAd K d_law.at_) fd ["script"] (toSp K (tbOf K tq) 1 (spF K law_W)) := by
  obtain ⟨fd_law_dice, FD_law_dice⟩ := Sp.LK.fd L.d 20 (d := d__law_dice) ["cell"] rfl (fun _ _ _ _ _ _ us hl => match us, hl with | [_], _ => rfl)
  have G_law_dice : Df P w K mg base (tbOf K tq) 1 "_law_dice" ["cell"] dDiceA := LK.df L FD_law_dice (ok_dice B L FD_law_dice) mDiceA 20
  obtain ⟨fd_law_roll, FD_law_roll⟩ := Sp.LK.fd L.d 21 (d := d__law_roll) ["dice", "many"] rfl (fun _ _ _ _ _ _ us hl => match us, hl with | [_, _], _ => rfl)
  have G_law_roll : Df P w K mg base (tbOf K tq) 1 "_law_roll" ["dice", "many"] (spD rollW) := LK.df L FD_law_roll (ok_roll B L FD_law_roll) spD_mono 21
  obtain ⟨fd_law_rounds, FD_law_rounds⟩ := Sp.LK.fd L.d 22 (d := d__law_rounds) ["script", "most"] rfl (fun _ _ _ _ _ _ us hl => match us, hl with | [_, _], _ => rfl)
  have G_law_rounds : Df P w K mg base (tbOf K tq) 2 "_law_rounds" ["script", "most"] dRoundsA := LK.df L FD_law_rounds (ok_rounds B L FD_law_rounds G_law_dice) mRoundsA 22
  obtain ⟨fd_law_told, FD_law_told⟩ := Sp.LK.fd L.d 23 (d := d__law_told) ["what"] rfl (fun _ _ _ _ _ _ us hl => match us, hl with | [_], _ => rfl)
  obtain ⟨fd_check_word, FD_check_word⟩ := Sp.LK.fd L.d 0 (d := d_check_word) ["word"] rfl (fun _ _ _ _ _ _ us hl => match us, hl with | [_], _ => rfl)
  have G_check_word : Df P w K mg base (tbOf K tq) 3 "check_word" ["word"] (spF K check_word_W) := LK.df L FD_check_word (ok_check_word B L FD_check_word ) spF_mono 0
  obtain ⟨fd_letters_in, FD_letters_in⟩ := Sp.LK.fd L.d 1 (d := d_letters_in) ["word"] rfl (fun _ _ _ _ _ _ us hl => match us, hl with | [_], _ => rfl)
  have G_letters_in : Df P w K mg base (tbOf K tq) 1 "letters_in" ["word"] (spF K letters_in_W) := LK.df L FD_letters_in (ok_letters_in B L FD_letters_in ) spF_mono 1
  obtain ⟨fd_sorted_letters, FD_sorted_letters⟩ := Sp.LK.fd L.d 2 (d := d_sorted_letters) ["word"] rfl (fun _ _ _ _ _ _ us hl => match us, hl with | [_], _ => rfl)
  have G_sorted_letters : Df P w K mg base (tbOf K tq) 1 "sorted_letters" ["word"] (spF K sorted_letters_W) := LK.df L FD_sorted_letters (ok_sorted_letters B L FD_sorted_letters ) spF_mono 2
  obtain ⟨fd_same_letters, FD_same_letters⟩ := Sp.LK.fd L.d 3 (d := d_same_letters) ["words"] rfl (fun _ _ _ _ _ _ us hl => match us, hl with | [_], _ => rfl)
  have G_same_letters : Df P w K mg base (tbOf K tq) 2 "same_letters" ["words"] (spF K same_letters_W) := LK.df L FD_same_letters (ok_same_letters B L FD_same_letters G_sorted_letters) spF_mono 3
  obtain ⟨fd_can_be_made, FD_can_be_made⟩ := Sp.LK.fd L.d 4 (d := d_can_be_made) ["word", "letters"] rfl (fun _ _ _ _ _ _ us hl => match us, hl with | [_, _], _ => rfl)
  have G_can_be_made : Df P w K mg base (tbOf K tq) 1 "can_be_made" ["word", "letters"] (spF K can_be_made_W) := LK.df L FD_can_be_made (ok_can_be_made B L FD_can_be_made ) spF_mono 4
  obtain ⟨fd_shape_of, FD_shape_of⟩ := Sp.LK.fd L.d 5 (d := d_shape_of) ["word"] rfl (fun _ _ _ _ _ _ us hl => match us, hl with | [_], _ => rfl)
  have G_shape_of : Df P w K mg base (tbOf K tq) 1 "shape_of" ["word"] (spF K shape_of_W) := LK.df L FD_shape_of (ok_shape_of B L FD_shape_of ) spF_mono 5
  obtain ⟨fd_turned, FD_turned⟩ := Sp.LK.fd L.d 6 (d := d_turned) ["word"] rfl (fun _ _ _ _ _ _ us hl => match us, hl with | [_], _ => rfl)
  have G_turned : Df P w K mg base (tbOf K tq) 1 "turned" ["word"] (spF K turned_W) := LK.df L FD_turned (ok_turned B L FD_turned ) spF_mono 6
  obtain ⟨fd_is_same_backward, FD_is_same_backward⟩ := Sp.LK.fd L.d 7 (d := d_is_same_backward) ["word"] rfl (fun _ _ _ _ _ _ us hl => match us, hl with | [_], _ => rfl)
  have G_is_same_backward : Df P w K mg base (tbOf K tq) 2 "is_same_backward" ["word"] (spF K is_same_backward_W) := LK.df L FD_is_same_backward (ok_is_same_backward B L FD_is_same_backward G_turned) spF_mono 7
  obtain ⟨fd_longest_backward, FD_longest_backward⟩ := Sp.LK.fd L.d 8 (d := d_longest_backward) ["word"] rfl (fun _ _ _ _ _ _ us hl => match us, hl with | [_], _ => rfl)
  have G_longest_backward : Df P w K mg base (tbOf K tq) 3 "longest_backward" ["word"] (spF K longest_backward_W) := LK.df L FD_longest_backward (ok_longest_backward B L FD_longest_backward G_is_same_backward) spF_mono 8
  obtain ⟨fd_beats, FD_beats⟩ := Sp.LK.fd L.d 9 (d := d_beats) ["word"] rfl (fun _ _ _ _ _ _ us hl => match us, hl with | [_], _ => rfl)
  have G_beats : Df P w K mg base (tbOf K tq) 3 "beats" ["word"] (spF K beats_W) := LK.df L FD_beats (ok_beats B L FD_beats ) spF_mono 9
  obtain ⟨fd_pattern_of, FD_pattern_of⟩ := Sp.LK.fd L.d 10 (d := d_pattern_of) ["word"] rfl (fun _ _ _ _ _ _ us hl => match us, hl with | [_], _ => rfl)
  have G_pattern_of : Df P w K mg base (tbOf K tq) 1 "pattern_of" ["word"] (spF K pattern_of_W) := LK.df L FD_pattern_of (ok_pattern_of B L FD_pattern_of ) spF_mono 10
  obtain ⟨fd_common_start, FD_common_start⟩ := Sp.LK.fd L.d 11 (d := d_common_start) ["words"] rfl (fun _ _ _ _ _ _ us hl => match us, hl with | [_], _ => rfl)
  have G_common_start : Df P w K mg base (tbOf K tq) 1 "common_start" ["words"] (spF K common_start_W) := LK.df L FD_common_start (ok_common_start B L FD_common_start ) spF_mono 11
  obtain ⟨fd_common_end, FD_common_end⟩ := Sp.LK.fd L.d 12 (d := d_common_end) ["words"] rfl (fun _ _ _ _ _ _ us hl => match us, hl with | [_], _ => rfl)
  have G_common_end : Df P w K mg base (tbOf K tq) 2 "common_end" ["words"] (spF K common_end_W) := LK.df L FD_common_end (ok_common_end B L FD_common_end G_turned G_common_start) spF_mono 12
  obtain ⟨fd_longest_shared, FD_longest_shared⟩ := Sp.LK.fd L.d 13 (d := d_longest_shared) ["one", "other"] rfl (fun _ _ _ _ _ _ us hl => match us, hl with | [_, _], _ => rfl)
  have G_longest_shared : Df P w K mg base (tbOf K tq) 1 "longest_shared" ["one", "other"] (spF K longest_shared_W) := LK.df L FD_longest_shared (ok_longest_shared B L FD_longest_shared ) spF_mono 13
  obtain ⟨fd_longest_row, FD_longest_row⟩ := Sp.LK.fd L.d 14 (d := d_longest_row) ["one", "other"] rfl (fun _ _ _ _ _ _ us hl => match us, hl with | [_, _], _ => rfl)
  have G_longest_row : Df P w K mg base (tbOf K tq) 1 "longest_row" ["one", "other"] (spF K longest_row_W) := LK.df L FD_longest_row (ok_longest_row B L FD_longest_row ) spF_mono 14
  obtain ⟨fd_shifted, FD_shifted⟩ := Sp.LK.fd L.d 15 (d := d_shifted) ["word", "by"] rfl (fun _ _ _ _ _ _ us hl => match us, hl with | [_, _], _ => rfl)
  have G_shifted : Df P w K mg base (tbOf K tq) 1 "shifted" ["word", "by"] (spF K shifted_W) := LK.df L FD_shifted (ok_shifted B L FD_shifted ) spF_mono 15
  obtain ⟨fd_number_of, FD_number_of⟩ := Sp.LK.fd L.d 17 (d := d_number_of) ["word"] rfl (fun _ _ _ _ _ _ us hl => match us, hl with | [_], _ => rfl)
  have G_number_of : Df P w K mg base (tbOf K tq) 1 "number_of" ["word"] (spF K number_of_W) := LK.df L FD_number_of (ok_number_of B L FD_number_of ) spF_mono 17
  obtain ⟨fd_word_at, FD_word_at⟩ := Sp.LK.fd L.d 18 (d := d_word_at) ["number", "length"] rfl (fun _ _ _ _ _ _ us hl => match us, hl with | [_, _], _ => rfl)
  have G_word_at : Df P w K mg base (tbOf K tq) 1 "word_at" ["number", "length"] (spF K word_at_W) := LK.df L FD_word_at (ok_word_at B L FD_word_at ) spF_mono 18
  obtain ⟨fd_between, FD_between⟩ := Sp.LK.fd L.d 16 (d := d_between) ["one", "other"] rfl (fun _ _ _ _ _ _ us hl => match us, hl with | [_, _], _ => rfl)
  have G_between : Df P w K mg base (tbOf K tq) 2 "between" ["one", "other"] (spF K between_W) := LK.df L FD_between (ok_between B L FD_between G_word_at G_number_of) spF_mono 16
  obtain ⟨fd_law_flat, FD_law_flat⟩ := Sp.LK.fd L.d 19 (d := d__law_flat) ["rows"] rfl (fun _ _ _ _ _ _ us hl => match us, hl with | [_], _ => rfl)
  have G_law_flat : Df P w K mg base (tbOf K tq) 1 "_law_flat" ["rows"] (spF K law_flat_W) := LK.df L FD_law_flat (ok_law_flat B L FD_law_flat ) spF_mono 19
  obtain ⟨fd_law_word, FD_law_word⟩ := Sp.LK.fd L.d 24 (d := d__law_word) ["dice", "letters", "least", "most"] rfl (fun _ _ _ _ _ _ us hl => match us, hl with | [_, _, _, _], _ => rfl)
  have G_law_word : Df P w K mg base (tbOf K tq) 2 "_law_word" ["dice", "letters", "least", "most"] (spD law_word_W) := LK.df L FD_law_word (ok_law_word B L FD_law_word G_law_roll) spD_mono 24
  obtain ⟨fd_law_unlike, FD_law_unlike⟩ := Sp.LK.fd L.d 25 (d := d__law_unlike) ["words"] rfl (fun _ _ _ _ _ _ us hl => match us, hl with | [_], _ => rfl)
  have G_law_unlike : Df P w K mg base (tbOf K tq) 1 "_law_unlike" ["words"] (spF K law_unlike_W) := LK.df L FD_law_unlike (ok_law_unlike B L FD_law_unlike ) spF_mono 25
  obtain ⟨fd_law_parts, FD_law_parts⟩ := Sp.LK.fd L.d 26 (d := d__law_parts) ["word"] rfl (fun _ _ _ _ _ _ us hl => match us, hl with | [_], _ => rfl)
  have G_law_parts : Df P w K mg base (tbOf K tq) 2 "_law_parts" ["word"] (spF K law_parts_W) := LK.df L FD_law_parts (ok_law_parts B L FD_law_parts G_law_flat) spF_mono 26
  obtain ⟨fd_law_rows, FD_law_rows⟩ := Sp.LK.fd L.d 27 (d := d__law_rows) ["word"] rfl (fun _ _ _ _ _ _ us hl => match us, hl with | [_], _ => rfl)
  have G_law_rows : Df P w K mg base (tbOf K tq) 1 "_law_rows" ["word"] (spF K law_rows_W) := LK.df L FD_law_rows (ok_law_rows B L FD_law_rows ) spF_mono 27
  obtain ⟨fd_law_cases1, FD_law_cases1⟩ := Sp.LK.fd L.d 28 (d := d__law_cases1) [] rfl (fun _ _ _ _ _ _ us hl => match us, hl with | [], _ => rfl)
  have G_law_cases1 : Df P w K mg base (tbOf K tq) 5 "_law_cases1" [] (spF K law_cases1_W) := LK.df L FD_law_cases1 (ok_law_cases1 B L FD_law_cases1 FD_law_told G_between G_word_at) spF_mono 28
  obtain ⟨fd_law_rest1, FD_law_rest1⟩ := Sp.LK.fd L.d 29 (d := d__law_rest1) ["dice", "one", "other", "words"] rfl (fun _ _ _ _ _ _ us hl => match us, hl with | [_, _, _, _], _ => rfl)
  have G_law_rest1 : Df P w K mg base (tbOf K tq) 6 "_law_rest1" ["dice", "one", "other", "words"] (spD law_rest1_W) := LK.df L FD_law_rest1 (ok_law_rest1 B L FD_law_rest1 FD_law_told G_common_end G_law_parts G_longest_shared G_longest_row G_law_rows G_law_roll G_shifted G_number_of G_word_at G_law_word G_between G_check_word G_law_cases1) spD_mono 29
  exact ok_law B L F0 G_law_rounds G_law_word G_law_roll G_letters_in G_sorted_letters G_turned G_law_unlike G_same_letters G_can_be_made G_shape_of G_is_same_backward G_law_parts G_longest_backward G_pattern_of G_beats G_common_start G_law_rest1
end K01
namespace K01
open PySem L2 Sp
theorem bis_of {w : World} {K : Frag} {mg : Str → Option Value} {base : Heap} (L : LK w K mg base fa fn tq) : Bis mg := by
  have g : ∀ i (x : Str), fa[i]? = some (He.Fa.free x) → mg x = none := fun i x h => He.free_ok L.X L.G (L.d.fact i h)
  refine ⟨fun x hx => ?_⟩
  simp only [List.mem_cons, List.not_mem_nil, or_false] at hx
  rcases hx with rfl | rfl | rfl | rfl | rfl | rfl | rfl | rfl | rfl | rfl | rfl | rfl | rfl | rfl | rfl | rfl | rfl | rfl | rfl
  · exact g 39 _ rfl
  · exact g 40 _ rfl
  · exact g 41 _ rfl
  · exact g 42 _ rfl
  · exact g 43 _ rfl
  · exact g 44 _ rfl
  · exact g 45 _ rfl
  · exact g 46 _ rfl
  · exact g 47 _ rfl
  · exact g 48 _ rfl
  · exact g 49 _ rfl
  · exact g 50 _ rfl
  · exact g 51 _ rfl
  · exact g 52 _ rfl
  · exact g 53 _ rfl
  · exact g 54 _ rfl
  · exact g 55 _ rfl
  · exact g 56 _ rfl
  · exact g 57 _ rfl
theorem cm_of {K : Frag} (h : ndTab K = true) (c : Str) (hc : c ∈ cmc) : HN.cmpK K (He.ga K c) := by
  unfold ndTab at h
  rw [Bool.and_eq_true] at h
  exact HN.cmpB_ok (List.all_eq_true.mp h.2 c hc)
theorem nd_of {K : Frag} (h : ndTab K = true) : (tq.map fun p => (He.cT K p.1).2).Nodup := by
  unfold ndTab at h
  rw [Bool.and_eq_true] at h
  exact of_decide_eq_true h.1
end K01
open PySem PySem.W PySem.Calls PyProof.Rows in
theorem K01.holds_of (plain : ∀ ns : List Int, ns.length ≤ 63 → (∀ z ∈ ns, Builtin.Int.intBits z ≤ 1048576) → K01.law_W (ns, ()) (fun b => b = true) Sp.NoE) : PySem.Challenge.rw_spellhall_k01_words.Holds := by
  w_on; o_law
  refine HandSHeadRun.head_any (r := K01.R) (q := view K01.R.prog [43]) (H := K01.hk) (ob := K01.ob) (M := 4000) (loose := K01.names) (d := HandSHeadRun.topDef K01.R.prog 43) (kwd := []) K01.ob_eq
    (by kernel_rfl) (fun s => by kernel_rfl) K01.run (by kernel_rfl) (by kernel_rfl) (by kernel_rfl) (by rfl) (by first | assumption | decide +kernel) (by decide +kernel) ⟨rfl, rfl, rfl, rfl, rfl, by decide +kernel⟩ ?hw ?hc
  case hw => w_witness2
  case hc =>
    refine LamX.walk_ofTsE (l := PySem.Challenge.rw_spellhall_k01_words) (n := 63) (k := 7) (x := "script") (CX := fun w => L2.CX PySem.Challenge.rw_spellhall_k01_words.prog w) rfl (by decide) (by kernel_rfl) ⟨rfl, by decide, by decide⟩ ?F (fun w H s e s' z => by
      obtain ⟨_, _, _, _, _, _, _, _, _, _, _, _, z⟩ := z
      exact z)
    intro w mg fA h Y G hmg0
    obtain ⟨K, KX, c⟩ := Y
    refine ⟨K, KX, ?_⟩
    have hmg : mg ("law" : PySem.Str) = some (.ref fA) := by
      have e : (HandSHeadRun.topDef K01.R.prog 43).name = ("law" : PySem.Str) := by kernel_rfl
      rw [← e]
      exact hmg0
    have hg := He.glo_ok KX G (c.t.d.fact 30 (f := .glo "law") rfl)
    have ef : He.fAd K K01.d_law.at_ = fA := by
      rw [hmg] at hg
      cases hg
      rfl
    have hb : ∀ (kV doc pm : Value) (an : Option Addr) (cdv ct : Value) (us : List Value), us.length = [("script" : PySem.Str)].length → bindArgs (PySem.W.fnOf K01.d_law.name K01.d_law.qual K01.d_law.params K01.d_law.body K01.d_law.scope .none kV doc pm an cdv ct) ⟨us, []⟩ = pure ([("script" : PySem.Str)].zip us) :=
      fun _ _ _ _ _ _ us hl => match us, hl with | [_], _ => rfl
    obtain ⟨fd, F1⟩ := Sp.LK.fd c.t.d 30 (d := K01.d_law) ["script"] rfl hb
    exact Sp.law_end (tq := K01.tq) KX c (K01.nd_of c.more) F1 ef hb Sp.spF_mono (fun ns hl hz => ⟨(ns, ()), rfl, rfl, (fun b => b = true), Sp.NoE, plain ns hl hz, fun b hb => by subst hb; rfl, fun e he => he.elim⟩) fun base L => K01.law_ok (K01.bis_of L) L F1
set_option maxHeartbeats 4000000
namespace K01
open PySem L2 Sp
abbrev AZ : Txt := tx "abcdefghijklmnopqrstuvwxyz"
theorem az : AZ = [97,98,99,100,101,102,103,104,105,106,107,108,109,110,111,112,113,114,115,116,117,118,119,120,121,122] := rfl
theorem sl {n : Nat} (h : n ≤ 1000000) : n ≤ sizeLine := Nat.le_trans h (by decide)
theorem tx0 : (tx "" : Txt) = [] := rfl
theorem word_ok {ls : Txt} {lo hi : Int} {Q : Txt → Prop} {E : Ex → Prop} (h0 : 0 ≤ lo) (h1 : lo ≤ hi) (h2 : hi ≤ 1000) (hl : 0 < ls.length) (hl2 : ls.length ≤ 1000) (q : ∀ y : Txt, (∀ c ∈ y, c ∈ ls) → lo ≤ y.length → (y.length : Int) ≤ hi → Q y) : law_word_W (ls, lo, hi, ()) Q E := by
  have hs : ls.length ≤ sizeLine := Nat.le_trans hl2 (by decide)
  show law_word_w ls lo hi Q E
  refine ClD.roll (by omega) (by omega) fun r hr0 hr1 => ⟨⟨by omega, by omega⟩, ?_, fun _ y => ∃ c ∈ ls, y = [c], fun x hx => ⟨hs, ClD.roll (by omega) (by omega) fun i hi0 hi1 => ⟨hs, ⟨by omega, hi1⟩, ixS_mem hi0 hi1⟩⟩, fun ys hy => ?_⟩
  · rw [List.length_map, List.length_range]
    have : (lo + r).toNat ≤ 1000 := by omega
    exact Nat.le_trans this (by decide)
  · obtain ⟨f1, f2, f3⟩ := flat_one (ls := ls) (hy.all fun x _ y hy => hy)
    have hlen := hy.length
    rw [List.length_map, List.length_range] at hlen
    refine ⟨?_, ?_⟩
    · have : List.length (tx "") = 0 := rfl
      rw [this, f1, hlen]
      omega
    · show Q (joinT [] ys)
      rw [joinT_nil]
      refine q _ f3 ?_ ?_
      · rw [f2, hlen]; omega
      · rw [f2, hlen]; omega
/-- a drawn word of some letters -/
structure Wd (ls : Txt) (lo hi : Nat) (x : Txt) : Prop where
  mem : ∀ c ∈ x, c ∈ ls
  lo : lo ≤ x.length
  hi : x.length ≤ hi
theorem join_ok {xs : List Txt} (h : lenSum xs ≤ 1000000) : lenSum xs + List.length xs * List.length (tx "") ≤ 16777216 := by
  have : List.length (tx "") = 0 := rfl
  rw [this]; omega
theorem lenSum_ones : ∀ {xs : List Txt}, (∀ x ∈ xs, x.length = 1) → lenSum xs = xs.length
  | [], _ => rfl
  | x :: xs, h => by
    rw [lenSum_cons, lenSum_ones fun y hy => h y (List.mem_cons_of_mem _ hy), h x List.mem_cons_self, List.length_cons]; omega
/-! sorted letters, turned words -/
def sletters (w : Txt) : Txt := (srt (sg w)).flatten
theorem sletters_ok {w : Txt} {Q : Txt → Prop} {E : Ex → Prop} (h : w.length ≤ 1000) (q : Q (sletters w)) : sorted_letters_W (w, ()) Q E := by
  refine ⟨sl (by show w.length ≤ _; omega), join_ok ?_, ?_⟩
  · rw [lenSum_perm (srt_perm _), lenSum_chars]; show w.length ≤ _; omega
  · show Q (joinT [] _)
    rw [joinT_nil]
    exact q
theorem turned_ok {w : Txt} {Q : Txt → Prop} {E : Ex → Prop} (h : w.length ≤ 1000) (q : Q w.reverse) : turned_W (w, ()) Q E := by
  refine ⟨sl (by show w.length ≤ _; omega), join_ok ?_, ?_⟩
  · rw [lenSum_chars, List.length_reverse]; show w.length ≤ _; omega
  · show Q (joinT [] (sg w.reverse))
    rw [join_sg]
    exact q
theorem back_ok {w : Txt} {Q : Bool → Prop} {E : Ex → Prop} (h : w.length ≤ 1000) (q : Q (decide (w = w.reverse))) : is_same_backward_W (w, ()) Q E := by
  show is_same_backward_w w Q E
  exact Cl.val (turned_ok h rfl) q
/-! letters counted -/
def lin (w : Txt) : List (Txt × Int) := ((sg AZ).filter fun x => tin x w).map fun x => (x, cntT w x)
theorem lin_ok {w : Txt} {Q : Tup (Txt × Int) → Prop} {E : Ex → Prop} (q : Q ⟨lin w⟩) : letters_in_W (w, ()) Q E := by
  refine ⟨by decide, fun _ _ => rfl, fun _ _ _ => rfl, ?_⟩
  exact q
theorem lin_abce {w : Txt} (hw : ∀ c ∈ w, c ∈ ([97, 98, 99, 101] : Txt)) : lin w = (((sg (tx "abce")).filter fun x => tin x w).map fun x => (x, ((((sg w).filter fun y => decide (y = x)).map fun y => y).length : Int))) := by
  have e1 : ((sg AZ).filter fun x => tin x w) = ((sg (tx "abce")).filter fun x => tin x w) := by
    have no : ∀ c, c ∉ ([97, 98, 99, 101] : Txt) → tin [c] w = false := fun c hc => by
      rw [tin_one, decide_eq_false_iff_not]
      exact fun h => hc (hw c h)
    rw [az, show (tx "abce" : Txt) = [97, 98, 99, 101] from rfl]
    simp only [sg, List.map_cons, List.map_nil, List.filter_cons, List.filter_nil, no 100 (by decide), no 102 (by decide), no 103 (by decide), no 104 (by decide), no 105 (by decide), no 106 (by decide), no 107 (by decide), no 108 (by decide), no 109 (by decide), no 110 (by decide), no 111 (by decide), no 112 (by decide), no 113 (by decide), no 114 (by decide), no 115 (by decide), no 116 (by decide), no 117 (by decide), no 118 (by decide), no 119 (by decide), no 120 (by decide), no 121 (by decide), no 122 (by decide), Bool.false_eq_true, if_false]
  unfold lin
  rw [e1]
  apply List.map_congr_left
  intro x hx
  obtain ⟨c, hc, rfl⟩ := sg_mem'.mp (List.mem_filter.mp hx).1
  rw [cntT_one, List.map_id', ← List.countP_eq_length_filter, sg, List.countP_map, List.count]
  congr 3
  funext y
  by_cases e : y = c <;> simp [Function.comp, e]
/-! unlike words -/
theorem dm1 (ws : List Txt) : ∀ d : List (Txt × Int), (dmerge d (ws.map fun x => (x, (1 : Int)))).map (·.1) = ws.foldl (fun ks x => if x ∈ ks then ks else ks ++ [x]) (d.map (·.1)) := by
  induction ws with
  | nil => intro d; rfl
  | cons x r ih =>
    intro d
    rw [List.map_cons, dmerge_cons, ih, dput_keys, List.foldl_cons]
    by_cases hx : x ∈ d.map (·.1)
    · rw [if_pos hx, if_pos hx]
    · rw [if_neg hx, if_neg hx]
/-- the keys, once each -/
def uniq (ws : List Txt) : List Txt := ws.foldl (fun ks x => if x ∈ ks then ks else ks ++ [x]) []
theorem uniq_ind (ws : List Txt) : ∀ ks : List Txt, ks.Nodup → (ws.foldl (fun ks x => if x ∈ ks then ks else ks ++ [x]) ks).Nodup ∧ ∀ y, y ∈ ws.foldl (fun ks x => if x ∈ ks then ks else ks ++ [x]) ks ↔ y ∈ ks ∨ y ∈ ws := by
  induction ws with
  | nil => intro ks h; exact ⟨h, fun y => by simp⟩
  | cons x r ih =>
    intro ks h
    rw [List.foldl_cons]
    by_cases hx : x ∈ ks
    · rw [if_pos hx]
      refine ⟨(ih ks h).1, fun y => ?_⟩
      rw [(ih ks h).2, List.mem_cons]
      constructor
      · rintro (z | z); exact .inl z; exact .inr (.inr z)
      · rintro (z | rfl | z); exact .inl z; exact .inl hx; exact .inr z
    · rw [if_neg hx]
      have hn : (ks ++ [x]).Nodup := by
        rw [List.nodup_append]
        exact ⟨h, by simp, fun a ha b hb e => by rw [List.mem_singleton.mp hb] at e; exact hx (e ▸ ha)⟩
      refine ⟨(ih _ hn).1, fun y => ?_⟩
      rw [(ih _ hn).2, List.mem_cons, List.mem_append, List.mem_singleton]
      constructor
      · rintro ((z | z) | z); exact .inl z; exact .inr (.inl z); exact .inr (.inr z)
      · rintro (z | z | z); exact .inl (.inl z); exact .inl (.inr z); exact .inr z
theorem uniq_nodup (ws : List Txt) : (uniq ws).Nodup := (uniq_ind ws [] List.nodup_nil).1
theorem uniq_mem {ws : List Txt} {y : Txt} : y ∈ uniq ws ↔ y ∈ ws := by
  have := (uniq_ind ws [] List.nodup_nil).2 y
  simpa [uniq] using this
theorem uniq_eq (ws : List Txt) : ((Dct.mk (dmerge [] (ws.map fun x => (x, (1 : Int))))).kvs.map (·.1)) = uniq ws := dm1 ws []
theorem unlike_ok {ws : List Txt} {Q : List Txt → Prop} {E : Ex → Prop} (h : ws.length ≤ 1000) (q : Q (srt (uniq ws))) : law_unlike_W (ws, ()) Q E := by
  refine ⟨sl (by show ws.length ≤ _; omega), fun _ _ => rfl, ?_⟩
  rw [show ((Dct.mk (dmerge [] ((ws, ()).1.map fun (x2 : Txt) => (x2, (1 : Int))))).kvs.map (·.1)) = uniq ws from uniq_eq ws]
  exact q
end K01
set_option maxHeartbeats 4000000
namespace K01
open PySem L2 Sp
/-! words laid with letters -/
theorem sg_cnt (x : Txt) (c : Nat) : cnt (sg x) [c] = x.count c := by
  unfold sg cnt
  rw [List.countP_map, List.count]
  congr 1
  funext y
  by_cases e : y = c <;> simp [Function.comp, e]
theorem sg_erase (x : Txt) (c : Nat) : erL (sg x) [c] = sg (x.erase c) := by
  induction x with
  | nil => rfl
  | cons a x ih =>
    show erL ([a] :: sg x) [c] = _
    rw [erL_cons, List.erase_cons]
    by_cases e : a = c
    · subst e; simp
    · rw [if_neg (by simpa using e), if_neg (by simpa using e), ih]
      rfl
def cSt (z : Txt × Int) (c : Nat) : Txt × Int := if c ∈ z.1 then (z.1.erase c, z.2) else (z.1, z.2 + 1)
def cF (w h : Txt) : Txt × Int := w.foldl cSt (h, 0)
theorem cF_snoc (l h : Txt) (c : Nat) : cF (l ++ [c]) h = cSt (cF l h) c := by unfold cF; rw [List.foldl_append]; rfl
theorem cF_cnt (h : Txt) : ∀ (l : Txt) (c : Nat), (cF l h).1.count c = h.count c - l.count c := by
  refine snocInd ?_ ?_
  · intro c; simp [cF]
  · intro l x ih c
    rw [cF_snoc]
    unfold cSt
    by_cases hx : x ∈ (cF l h).1
    · rw [if_pos hx]
      show ((cF l h).1.erase x).count c = _
      rw [List.count_erase, ih, List.count_append, List.count_singleton]
      by_cases e : x = c
      · subst e; simp; omega
      · simp [e]
    · rw [if_neg hx]
      show (cF l h).1.count c = _
      have h0 : (cF l h).1.count x = 0 := List.count_eq_zero.mpr hx
      rw [ih] at h0
      rw [ih, List.count_append, List.count_singleton]
      by_cases e : x = c
      · subst e; simp; omega
      · simp [e]
def lackN (l h : Txt) : Nat := (l.count 97 - h.count 97) + (l.count 98 - h.count 98) + (l.count 99 - h.count 99) + (l.count 101 - h.count 101)
theorem cF_lack (h : Txt) : ∀ l : Txt, (∀ c ∈ l, c ∈ ([97, 98, 99, 101] : Txt)) → (cF l h).2 = (lackN l h : Int) := by
  refine snocInd ?_ ?_
  · intro _; simp [cF, lackN]
  · intro l x ih hm
    have ih := ih fun c hc => hm c (List.mem_append_left _ hc)
    have hx4 := hm x (by simp)
    rw [cF_snoc]
    unfold cSt
    have hc := cF_cnt h l x
    have key : (lackN (l ++ [x]) h : Int) = lackN l h + (if h.count x ≤ l.count x then 1 else 0) := by
      unfold lackN
      simp only [List.count_append, List.count_singleton]
      simp only [List.mem_cons, List.not_mem_nil, or_false] at hx4
      rcases hx4 with rfl | rfl | rfl | rfl <;> simp <;> split <;> omega
    by_cases hx : x ∈ (cF l h).1
    · rw [if_pos hx]
      show (cF l h).2 = _
      have h1 : 0 < (cF l h).1.count x := List.count_pos_iff.mpr hx
      rw [key, ih, if_neg (by omega)]
      omega
    · rw [if_neg hx]
      show (cF l h).2 + 1 = _
      have h1 : (cF l h).1.count x = 0 := List.count_eq_zero.mpr hx
      rw [key, ih, if_pos (by omega)]
theorem cbm_ok {w h : Txt} {Q : Bool → Prop} {E : Ex → Prop} (hw : ∀ c ∈ w, c ∈ ([97, 98, 99, 101] : Txt)) (hh : h.length ≤ 1000) (q : Q (decide ((lackN w h : Int) ≤ (h.count 63 : Int)))) : can_be_made_W (w, h, ()) Q E := by
  refine ⟨sl (by show h.length ≤ _; omega), ?_⟩
  refine forT (fun l z => z = (sg (cF l h).1, (cF l h).2)) rfl (fun l c r z e hp k hk => ?_) (fun z hp => ?_)
  · subst hp
    have hk := hk _ rfl
    rw [cF_snoc] at hk
    unfold cSt at hk
    refine ifJ.mk (fun hb => ?_) (fun hb => ?_)
    · have hm : c ∈ (cF l h).1 := sg_mem.mp (by simpa [inL] using hb)
      rw [if_pos hm] at hk
      refine ⟨sg_mem.mpr hm, ?_⟩
      show k (erL (sg (cF l h).1) [c], _)
      rw [sg_erase]
      exact hk
    · have hm : ¬ c ∈ (cF l h).1 := fun hm => by
        have : inL [c] (sg (cF l h).1) = true := by rw [inL_iff]; exact sg_mem.mpr hm
        rw [this] at hb; cases hb
      rw [if_neg hm] at hk
      exact hk
  · subst hp
    show Q (decide ((cF w h).2 ≤ (cnt (sg (cF w h).1) (tx "?") : Int)))
    rw [show (tx "?" : Txt) = [63] from rfl, sg_cnt, cF_lack h w hw, cF_cnt]
    have h0 : w.count 63 = 0 := List.count_eq_zero.mpr fun h => absurd (hw 63 h) (by decide)
    rw [h0, Nat.sub_zero]
    exact q
theorem lack_sum (w h : Txt) : (((tx "abce").map fun c => [c]).map fun (x : Txt) => max (0 : Int) (cntT w x - cntT h x)).sum = (lackN w h : Int) := by
  rw [show (tx "abce" : Txt) = [97, 98, 99, 101] from rfl]
  simp only [List.map_cons, List.map_nil, cntT_one, List.sum_cons, List.sum_nil]
  unfold lackN
  omega
/-! shapes -/
def seenOf (w : Txt) : Txt := w.foldl (fun s c => if c ∈ s then s else s ++ [c]) []
theorem seen_snoc (l : Txt) (c : Nat) : seenOf (l ++ [c]) = if c ∈ seenOf l then seenOf l else seenOf l ++ [c] := by unfold seenOf; rw [List.foldl_append]; rfl
theorem seen_mem : ∀ (w : Txt) (c : Nat), c ∈ seenOf w ↔ c ∈ w := by
  refine snocInd ?_ ?_
  · intro c; simp [seenOf]
  · intro l x ih c
    rw [seen_snoc]
    by_cases hx : x ∈ seenOf l
    · rw [if_pos hx, ih, List.mem_append, List.mem_singleton]
      exact ⟨.inl, fun h => h.elim id fun e => by rw [e, ← ih]; exact hx⟩
    · rw [if_neg hx, List.mem_append, ih, List.mem_append]
theorem seen_nodup : ∀ w : Txt, (seenOf w).Nodup := by
  refine snocInd ?_ ?_
  · exact List.nodup_nil
  · intro l x ih
    rw [seen_snoc]
    by_cases hx : x ∈ seenOf l
    · rw [if_pos hx]; exact ih
    · rw [if_neg hx, List.nodup_append]
      exact ⟨ih, by simp, fun a ha b hb e => by rw [List.mem_singleton.mp hb] at e; exact hx (e ▸ ha)⟩
theorem ixS_app {l r : Txt} {k : Nat} (h : k < l.length) : ixS (l ++ r) (k : Int) = ixS l (k : Int) := by
  rw [ixS_nat h, ixS_nat (by rw [List.length_append]; omega), List.getElem_append_left h]
theorem firsts_eq : ∀ w : Txt, (((rng w.length).filter fun k => !tin (ixS w k) (cutD w none (some k))).map fun k => ixS w k) = sg (seenOf w) := by
  refine snocInd ?_ ?_
  · rfl
  · intro l x ih
    rw [List.length_append, List.length_singleton, rng_succ, List.filter_append, List.map_append]
    have e1 : (((rng l.length).filter fun k => !tin (ixS (l ++ [x]) k) (cutD (l ++ [x]) none (some k))).map fun k => ixS (l ++ [x]) k) = sg (seenOf l) := by
      rw [← ih]
      have h1 : ((rng l.length).filter fun k => !tin (ixS (l ++ [x]) k) (cutD (l ++ [x]) none (some k))) = ((rng l.length).filter fun k => !tin (ixS l k) (cutD l none (some k))) := by
        apply List.filter_congr
        intro k hk
        obtain ⟨h0, h1⟩ := rng_mem.mp hk
        obtain ⟨n, rfl⟩ : ∃ n : Nat, k = (n : Int) := ⟨k.toNat, by omega⟩
        rw [ixS_app (by omega), cut_to, cut_to, List.take_append_of_le_length (by omega)]
      rw [h1]
      apply List.map_congr_left
      intro k hk
      obtain ⟨h0, h1⟩ := rng_mem.mp (List.mem_filter.mp hk).1
      obtain ⟨n, rfl⟩ : ∃ n : Nat, k = (n : Int) := ⟨k.toNat, by omega⟩
      exact ixS_app (by omega)
    have e2 : ixS (l ++ [x]) (l.length : Int) = [x] := by
      rw [ixS_nat (by rw [List.length_append]; simp)]
      simp
    rw [e1, List.filter_cons, List.filter_nil, e2, cut_to, List.take_left', tin_one, seen_snoc]
    · by_cases hx : x ∈ l
      · have hs : x ∈ seenOf l := (seen_mem l x).mpr hx
        rw [if_pos hs, decide_eq_true hx]
        simp
      · have hs : x ∉ seenOf l := fun h => hx ((seen_mem l x).mp h)
        rw [if_neg hs, decide_eq_false hx]
        simp [sg, e2]
    · rfl
theorem seen_len {w : Txt} (hw : ∀ c ∈ w, c ∈ ([97, 98, 99, 101] : Txt)) : (seenOf w).length ≤ 4 := by
  have h := nodup_len [97, 98, 99, 101] (seenOf w) (seen_nodup w) (fun c hc => hw c ((seen_mem w c).mp hc))
  simpa using h
theorem sg_idx (x : Txt) (c : Nat) : idx (sg x) [c] = idx x c := by
  unfold idx sg List.idxOf
  induction x with
  | nil => rfl
  | cons a x ih =>
    rw [List.map_cons, List.findIdx_cons, List.findIdx_cons, ih]
    have : ∀ b1 b2 : Bool, b1 = b2 → (bif b1 then 0 else List.findIdx (fun y => decide (y = c)) x + 1) = (bif b2 then 0 else List.findIdx (fun y => decide (y = c)) x + 1) := fun _ _ h => by rw [h]
    refine this _ _ ?_
    show decide ([a] = [c]) = decide (a = c)
    simp
theorem four (i : Nat) (h : i < 4) : ixS AZ (i : Int) = ixS (tx "abcd") (i : Int) := by
  have : i = 0 ∨ i = 1 ∨ i = 2 ∨ i = 3 := by omega
  rcases this with rfl | rfl | rfl | rfl <;> rfl
def shapeOf (w : Txt) : Txt := ((sg w).map fun x => ixS (tx "abcd") (idx (sg (seenOf w)) x : Int)).flatten
theorem idx_lt {w : Txt} {c : Nat} (h : c ∈ w) : idx (seenOf w) c < (seenOf w).length := List.idxOf_lt_length_of_mem ((seen_mem w c).mpr h)
theorem ixS_len (x : Txt) (i : Int) : (ixS x i).length = 1 := rfl
theorem shape_ok {w : Txt} {Q : Txt → Prop} {E : Ex → Prop} (hw : ∀ c ∈ w, c ∈ ([97, 98, 99, 101] : Txt)) (hl : w.length ≤ 1000) (q : Q (shapeOf w)) : shape_of_W (w, ()) Q E := by
  show shape_of_w4 w [] Q
  refine forT (fun l z => z = sg (seenOf l) ∧ l.length ≤ 1000) ⟨rfl, by simp⟩ (fun l c r z e hp k hk => ?_) (fun z hp => ?_)
  · obtain ⟨rfl, hl2⟩ := hp
    have hll : l.length + 1 ≤ 1000 := by rw [e, List.length_append, List.length_cons] at hl; omega
    have hsl : (seenOf l).length ≤ 4 := seen_len fun d hd => hw d (by rw [e]; exact List.mem_append_left _ hd)
    refine ifJ.mk (fun hb => ?_) (fun hb => ?_)
    · have hm : c ∉ seenOf l := fun h => by rw [niL_iff] at hb; exact hb (sg_mem.mpr h)
      refine ⟨by show (sg (seenOf l)).length < sizeLine; rw [sg_len]; have : 5 ≤ sizeLine := sl (by omega); omega, ?_⟩
      refine hk _ ⟨?_, by simp; omega⟩
      rw [seen_snoc, if_neg hm, sg_app]
      rfl
    · have hm : c ∈ seenOf l := Classical.byContradiction fun h => by
        have : niL [c] (sg (seenOf l)) = true := by rw [niL_iff]; exact fun h2 => h (sg_mem.mp h2)
        rw [this] at hb; cases hb
      refine hk _ ⟨?_, by simp; omega⟩
      rw [seen_snoc, if_pos hm]
  · obtain ⟨rfl, _⟩ := hp
    have h4 := seen_len hw
    have e1 : ((sg w).map fun x => ixS AZ (idx (sg (seenOf w)) x : Int)) = ((sg w).map fun x => ixS (tx "abcd") (idx (sg (seenOf w)) x : Int)) := by
      apply List.map_congr_left
      intro x hx
      obtain ⟨c, hc, rfl⟩ := sg_mem'.mp hx
      have := idx_lt hc
      rw [sg_idx, four _ (by omega)]
    refine ⟨by rw [sg_len]; exact sl (by omega), fun x hx => ?_, join_ok ?_, ?_⟩
    · obtain ⟨c, hc, rfl⟩ := sg_mem'.mp hx
      have := idx_lt hc
      refine ⟨sg_mem.mpr ((seen_mem w c).mpr hc), by decide, ?_, rfl⟩
      show inR 26 _
      rw [sg_idx]
      unfold inR
      omega
    · rw [lenSum_ones (fun x hx => by obtain ⟨y, _, rfl⟩ := List.mem_map.mp hx; rfl), List.length_map, sg_len]; omega
    · show Q (joinT [] ((sg w).map fun x => ixS AZ (idx (sg (seenOf w)) x : Int)))
      rw [joinT_nil, e1]
      exact q
end K01
set_option maxHeartbeats 4000000
namespace K01
open PySem L2 Sp
open PySem.W (DatumOrd)
theorem foldl_P {α β : Type} (P : α → Prop) (f : α → β → α) : ∀ (l : List β) (z : α), P z → (∀ z x, x ∈ l → P z → P (f z x)) → P (l.foldl f z)
  | [], z, h, _ => h
  | x :: l, z, h, hs => foldl_P P f l (f z x) (hs z x List.mem_cons_self h) fun z y hy => hs z y (List.mem_cons_of_mem _ hy)
theorem foldl_flat {α β : Type} (f : α → β → α) : ∀ (l : List (List β)) (z : α), l.flatten.foldl f z = l.foldl (fun z r => r.foldl f z) z
  | [], z => rfl
  | r :: l, z => by rw [List.flatten_cons, List.foldl_append, foldl_flat f l]; rfl
theorem flat_le {α : Type} {k : Nat} : ∀ {rows : List (List α)}, (∀ r ∈ rows, r.length ≤ k) → rows.flatten.length ≤ rows.length * k
  | [], _ => by simp
  | r :: rows, h => by
    have h1 := flat_le (rows := rows) fun x hx => h x (List.mem_cons_of_mem _ hx)
    have h2 := h r List.mem_cons_self
    rw [List.flatten_cons, List.length_append, List.length_cons, Nat.add_mul]
    omega
/-! all pieces -/
def pt (w : Txt) (j i : Nat) : Txt := (w.drop j).take (i + 1)
def row (w : Txt) (j : Nat) : List Txt := (List.range (w.length - j)).map fun i => pt w j i
def parts (w : Txt) : List Txt := ((List.range w.length).map fun j => row w j).flatten
theorem pt_len {w : Txt} {j i : Nat} (h : i < w.length - j) : (pt w j i).length = i + 1 := by
  unfold pt
  rw [List.length_take, List.length_drop]
  omega
theorem row_le (w : Txt) (j : Nat) : (row w j).length ≤ w.length := by
  unfold row
  rw [List.length_map, List.length_range]
  omega
theorem parts_len (w : Txt) : (parts w).length ≤ w.length * w.length := by
  have h := flat_le (rows := (List.range w.length).map fun j => row w j) (k := w.length) (fun r hr => by
    obtain ⟨j, _, rfl⟩ := List.mem_map.mp hr
    exact row_le w j)
  rw [List.length_map, List.length_range] at h
  exact h
theorem parts_mem {w p : Txt} (h : p ∈ parts w) : p ≠ [] ∧ p.length ≤ w.length := by
  obtain ⟨r, hr, hp⟩ := List.mem_flatten.mp h
  obtain ⟨j, _, rfl⟩ := List.mem_map.mp hr
  obtain ⟨i, hi, rfl⟩ := List.mem_map.mp hp
  have h2 := pt_len (w := w) (j := j) (i := i) (List.mem_range.mp hi)
  have h3 := List.mem_range.mp hi
  refine ⟨fun e => ?_, ?_⟩
  · rw [e] at h2; simp at h2
  · rw [h2]; omega
theorem flat_ok {rows : List (List Txt)} {Q : List Txt → Prop} {E : Ex → Prop} (h : rows.flatten.length ≤ 1000000) (q : Q rows.flatten) : law_flat_W (rows, ()) Q E := by
  show law_flat_w3 rows [] Q
  refine forW.inv (fun l z => z = l.flatten) rfl (fun l x r z e hz => ?_) (fun z hz => ?_)
  · subst hz
    refine ⟨?_, ?_⟩
    · rw [e, List.flatten_append, List.length_append, List.flatten_cons, List.length_append] at h
      exact sl (by omega)
    · show _ = (l ++ [x]).flatten
      rw [List.flatten_append, List.flatten_cons, List.flatten_nil, List.append_nil]
  · subst hz; exact q
theorem seg (w : Txt) (j : Nat) : ((List.range (((w.length : Int) + 1) - ((j : Int) + 1)).toNat).map fun i : Nat => ((j : Int) + 1) + (i : Int)).map (fun x => cutD w (some (j : Int)) (some x)) = row w j := by
  rw [show (((w.length : Int) + 1) - ((j : Int) + 1)).toNat = w.length - j by omega, List.map_map]
  unfold row
  apply List.map_congr_left
  intro i _
  show cutD w (some (j : Int)) (some ((j : Int) + 1 + (i : Int))) = _
  rw [show (j : Int) + 1 + (i : Int) = ((j + 1 + i : Nat) : Int) by omega, cut_mid]
  unfold pt
  congr 1
  omega
theorem parts_ok {w : Txt} {Q : List Txt → Prop} {E : Ex → Prop} (h : w.length ≤ 100) (q : Q (parts w)) : law_parts_W (w, ()) Q E := by
  show law_parts_w w Q E
  have er : ((List.range ((w.length : Int)).toNat).map fun i : Nat => (i : Int)) = rng w.length := by rw [tn]
  unfold law_parts_w
  rw [er]
  refine ⟨sl (by omega), ⟨by omega, by omega⟩, by rw [rng_len]; exact sl (by omega), fun x hx => ?_, ?_⟩
  · obtain ⟨h0, h1⟩ := rng_mem.mp hx
    refine ⟨sl (by omega), ⟨by omega, by omega, by omega, by omega⟩, ?_, fun _ _ => ⟨sl (by omega), rfl⟩, rfl⟩
    rw [List.length_map, List.length_range]
    exact sl (by omega)
  · have e2 : ((rng w.length).map fun (x2 : Int) => (((List.range (((w.length : Int) + 1) - (x2 + 1)).toNat).map fun i : Nat => (x2 + 1) + (i : Int)).map fun (x3 : Int) => cutD w (some x2) (some x3))) = (List.range w.length).map fun j => row w j := by
      unfold rng
      rw [List.map_map]
      apply List.map_congr_left
      intro j _
      exact seg w j
    rw [e2]
    have hle := parts_len w
    have : w.length * w.length ≤ 100 * 100 := Nat.mul_le_mul h h
    exact Cl.val (flat_ok (by show (parts w).length ≤ _; omega) rfl) q
/-! the first of the longest -/
def stp (ok : Txt → Bool) (b p : Txt) : Txt := if b.length < p.length ∧ ok p = true then p else b
theorem first_max (ok : Txt → Bool) : ∀ ps : List Txt, (∀ p ∈ ps, p ≠ []) → ((ps.filter ok = [] ∧ ps.foldl (stp ok) [] = []) ∨ ∃ a b, ps.filter ok = a ++ ps.foldl (stp ok) [] :: b ∧ (∀ p ∈ a, p.length < (ps.foldl (stp ok) []).length) ∧ ∀ p ∈ b, p.length ≤ (ps.foldl (stp ok) []).length) := by
  refine snocInd ?_ ?_
  · intro _; exact .inl ⟨rfl, rfl⟩
  · intro l x ih hp
    have hx : x ≠ [] := hp x (by simp)
    have hxl : 0 < x.length := List.length_pos_iff.mpr hx
    have ih := ih fun p h => hp p (List.mem_append_left _ h)
    rw [List.filter_append, List.foldl_append, List.foldl_cons, List.foldl_nil, List.filter_cons, List.filter_nil]
    generalize hB : l.foldl (stp ok) [] = B at ih ⊢
    by_cases ho : ok x = true
    · rw [if_pos ho]
      by_cases hl : B.length < x.length
      · have e : stp ok B x = x := if_pos ⟨hl, ho⟩
        rw [e]
        rcases ih with ⟨h1, h2⟩ | ⟨a, b, h1, h2, h3⟩
        · exact .inr ⟨[], [], by rw [h1], by simp, by simp⟩
        · refine .inr ⟨a ++ B :: b, [], by rw [h1], fun p hp => ?_, by simp⟩
          rcases List.mem_append.mp hp with h | h
          · exact Nat.lt_trans (h2 p h) hl
          · rcases List.mem_cons.mp h with h | h
            · rw [h]; exact hl
            · exact Nat.lt_of_le_of_lt (h3 p h) hl
      · have e : stp ok B x = B := if_neg fun h => hl h.1
        rw [e]
        rcases ih with ⟨h1, h2⟩ | ⟨a, b, h1, h2, h3⟩
        · rw [h2] at hl; exact absurd hxl hl
        · refine .inr ⟨a, b ++ [x], by rw [h1, List.append_assoc, List.cons_append], h2, fun p hp => ?_⟩
          rcases List.mem_append.mp hp with h | h
          · exact h3 p h
          · rw [List.mem_singleton.mp h]; omega
    · rw [if_neg ho, List.append_nil]
      have e : stp ok B x = B := if_neg fun h => ho h.2
      rw [e]
      exact ih
/-- the law's way to the first of the longest -/
theorem first_law {ps : List Txt} {ok : Txt → Bool} (hp : ∀ p ∈ ps, p ≠ []) (hne : ps.filter ok ≠ []) : (ixD (((ps.filter ok).filter fun x => decide ((x.length : Int) = maxL ((ps.filter ok).map fun x => (x.length : Int)))).map fun x => x) (0 : Int)) = ps.foldl (stp ok) [] ∧
    inR (((ps.filter ok).filter fun x => decide ((x.length : Int) = maxL ((ps.filter ok).map fun x => (x.length : Int)))).map fun x => x).length 0 := by
  rcases first_max ok ps hp with ⟨h, _⟩ | ⟨a, b, h1, h2, h3⟩
  · exact absurd h hne
  · generalize ps.foldl (stp ok) [] = B at h1 h2 h3 ⊢
    have hm : maxL ((ps.filter ok).map fun x => (x.length : Int)) = (B.length : Int) := by
      rw [h1]
      refine maxI_of (List.mem_map.mpr ⟨B, by simp, rfl⟩) fun y hy => ?_
      obtain ⟨p, hp, rfl⟩ := List.mem_map.mp hy
      rcases List.mem_append.mp hp with h | h
      · have := h2 p h; omega
      · rcases List.mem_cons.mp h with h | h
        · rw [h]; omega
        · have := h3 p h; omega
    rw [hm, h1, List.map_id', List.filter_append, List.filter_cons, decide_eq_true rfl, if_pos rfl]
    have ha : a.filter (fun x => decide ((x.length : Int) = (B.length : Int))) = [] := by
      rw [List.filter_eq_nil_iff]
      intro p hp hd
      have := h2 p hp
      have := of_decide_eq_true hd
      omega
    rw [ha, List.nil_append]
    refine ⟨by rw [show (0 : Int) = ((0 : Nat) : Int) from rfl, ixD_nat (by simp)]; rfl, ?_⟩
    unfold inR
    simp only [List.length_cons]
    omega
/-! the longest that is the same backward -/
def pal (p : Txt) : Bool := decide (p = p.reverse)
def lback (w : Txt) : Txt := (parts w).foldl (stp pal) []
theorem stp_len {ok : Txt → Bool} {b p : Txt} {n : Nat} (h1 : b.length ≤ n) (h2 : p.length ≤ n) : (stp ok b p).length ≤ n := by
  unfold stp
  split
  · exact h2
  · exact h1
theorem row_mem {w p : Txt} {j : Nat} (h : p ∈ row w j) : p.length ≤ w.length := by
  obtain ⟨i, hi, rfl⟩ := List.mem_map.mp h
  have h3 := List.mem_range.mp hi
  rw [pt_len h3]; omega
theorem lback_rows (ok : Txt → Bool) (w : Txt) : (parts w).foldl (stp ok) [] = (List.range w.length).foldl (fun z j => (row w j).foldl (stp ok) z) [] := by
  unfold parts
  rw [foldl_flat, List.foldl_map]
theorem cut_row {w : Txt} {j i : Nat} : cutD w (some (j : Int)) (some ((j : Int) + 1 + (i : Int))) = pt w j i := by
  rw [show (j : Int) + 1 + (i : Int) = ((j + 1 + i : Nat) : Int) by omega, cut_mid]
  unfold pt
  congr 1
  omega
theorem lback_ok {w : Txt} {Q : Txt → Prop} {E : Ex → Prop} (h : w.length ≤ 1000) (q : Q (lback w)) : longest_backward_W (w, ()) Q E := by
  show longest_backward_w7 w [] Q E
  have er : ((List.range ((w.length : Int)).toNat).map fun i : Nat => (i : Int)) = rng w.length := by rw [tn]
  unfold longest_backward_w7
  rw [er]
  refine ⟨sl (by omega), ⟨by omega, by omega⟩, ?_⟩
  refine forW.fold (fun z x3 => (row w x3.toNat).foldl (stp pal) z) (fun l x r e k hk => ?_) ?_
  · have hx : x ∈ rng w.length := by rw [e]; simp
    obtain ⟨h0, h1⟩ := rng_mem.mp hx
    obtain ⟨j, rfl⟩ : ∃ j : Nat, x = (j : Int) := ⟨x.toNat, by omega⟩
    generalize hz : l.foldl (fun z x3 => (row w x3.toNat).foldl (stp pal) z) [] = z at hk ⊢
    have hzl : z.length ≤ w.length := by
      rw [← hz]
      exact foldl_P (fun z : Txt => z.length ≤ w.length) _ l [] (by simp) fun z x hx hz => foldl_P (fun z : Txt => z.length ≤ w.length) _ _ z hz fun z p hp hz => stp_len hz (row_mem hp)
    rw [tn] at hk
    refine ⟨sl (by omega), ⟨by omega, by omega, by omega, by omega⟩, ?_⟩
    rw [show (((w.length : Int) + 1) - ((j : Int) + 1)).toNat = w.length - j by omega]
    refine forW.fold (fun z x8 => stp pal z (cutD w (some (j : Int)) (some x8))) (fun l2 x2 r2 e2 k2 hk2 => ?_) ?_
    · have hx2 : x2 ∈ (List.range (w.length - j)).map fun i : Nat => (j : Int) + 1 + (i : Int) := by rw [e2]; simp
      obtain ⟨i, hi, rfl⟩ := List.mem_map.mp hx2
      have hi := List.mem_range.mp hi
      generalize hz2 : l2.foldl (fun z x8 => stp pal z (cutD w (some (j : Int)) (some x8))) z = z2 at hk2 ⊢
      have hzl2 : z2.length ≤ w.length := by
        rw [← hz2]
        refine foldl_P (fun z : Txt => z.length ≤ w.length) _ l2 z hzl fun z x hx hz => stp_len hz ?_
        have hx3 : x ∈ (List.range (w.length - j)).map fun i : Nat => (j : Int) + 1 + (i : Int) := by rw [e2]; exact List.mem_append_left _ hx
        obtain ⟨i', hi', rfl⟩ := List.mem_map.mp hx3
        have := List.mem_range.mp hi'
        rw [cut_row, pt_len this]; omega
      rw [cut_row] at hk2
      refine ⟨sl (by omega), ?_⟩
      rw [cut_row]
      have hpl := pt_len hi
      refine ⟨sl (by omega), sl (by omega), fun hb => ?_, fun hb => ?_⟩
      · have hlt : z2.length < (pt w j i).length := by have := of_decide_eq_true hb; omega
        refine Cl.val (back_ok (by omega) rfl) ?_
        refine ifJ.mk (fun hp => ?_) (fun hp => ?_)
        · rw [show stp pal z2 (pt w j i) = pt w j i from if_pos ⟨hlt, hp⟩] at hk2; exact hk2
        · rw [show stp pal z2 (pt w j i) = z2 from if_neg fun h => by have := h.2; unfold pal at this; rw [hp] at this; cases this] at hk2; exact hk2
      · have hlt : ¬ z2.length < (pt w j i).length := by have := of_decide_eq_false hb; omega
        refine ifJ.mk (fun hp => by cases hp) (fun _ => ?_)
        rw [show stp pal z2 (pt w j i) = z2 from if_neg fun h => hlt h.1] at hk2
        exact hk2
    · have e3 : ((List.range (w.length - j)).map fun i : Nat => (j : Int) + 1 + (i : Int)).foldl (fun z x8 => stp pal z (cutD w (some (j : Int)) (some x8))) z = (row w j).foldl (stp pal) z := by
        unfold row
        rw [List.foldl_map, List.foldl_map]
        simp only [cut_row]
      rw [e3]
      exact hk
  · have e4 : (rng w.length).foldl (fun z x3 => (row w x3.toNat).foldl (stp pal) z) [] = lback w := by
      unfold lback rng
      rw [lback_rows, List.foldl_map]
      simp only [tn]
    show Q ((rng w.length).foldl (fun z x3 => (row w x3.toNat).foldl (stp pal) z) [])
    rw [e4]
    exact q
end K01
set_option maxHeartbeats 4000000
namespace K01
open PySem L2 Sp
open PySem.W (DatumOrd)
/-! the longest stretch shared -/
def lshare (w o : Txt) : Txt := (parts w).foldl (stp fun p => tin p o) []
/-- taken outright -/
def tk (o : Txt) (b p : Txt) : Txt := if tin p o = true then p else b
theorem stp_skip {ok : Txt → Bool} : ∀ (l : List Txt) (z : Txt), (∀ p ∈ l, p.length ≤ z.length) → l.foldl (stp ok) z = z
  | [], _, _ => rfl
  | p :: l, z, h => by
    rw [List.foldl_cons, show stp ok z p = z from if_neg fun q => by have := h p List.mem_cons_self; omega]
    exact stp_skip l z fun q hq => h q (List.mem_cons_of_mem _ hq)
theorem tk_eq {w o : Txt} {j b : Nat} : ∀ (m : Nat) (z : Txt), z.length ≤ b → b + m ≤ w.length - j → ((List.range m).map fun i => pt w j (b + i)).foldl (tk o) z = ((List.range m).map fun i => pt w j (b + i)).foldl (stp fun p => tin p o) z ∧ (((List.range m).map fun i => pt w j (b + i)).foldl (tk o) z).length ≤ b + m
  | 0, z, h, _ => ⟨rfl, by simpa using h⟩
  | m + 1, z, h, hm => by
    obtain ⟨h1, h2⟩ := tk_eq (w := w) (o := o) (j := j) (b := b) m z h (by omega)
    rw [List.range_succ, List.map_append, List.foldl_append, List.foldl_append, ← h1]
    generalize ((List.range m).map fun i => pt w j (b + i)).foldl (tk o) z = y at h2
    have hl : (pt w j (b + m)).length = b + m + 1 := pt_len (w := w) (j := j) (i := b + m) (by omega)
    simp only [List.map_cons, List.map_nil, List.foldl_cons, List.foldl_nil]
    unfold tk stp
    by_cases ht : tin (pt w j (b + m)) o = true
    · rw [if_pos ht, if_pos ⟨by omega, ht⟩]
      exact ⟨rfl, by omega⟩
    · rw [if_neg ht, if_neg fun q => ht q.2]
      exact ⟨rfl, by omega⟩
theorem row_tk {w o z : Txt} {j : Nat} : ((List.range (w.length - j - z.length)).map fun i => pt w j (z.length + i)).foldl (tk o) z = (row w j).foldl (stp fun p => tin p o) z := by
  by_cases h : z.length ≤ w.length - j
  · rw [(tk_eq (w := w) (o := o) (j := j) _ z (Nat.le_refl _) (by omega)).1]
    have e : row w j = ((List.range z.length).map fun i => pt w j i) ++ ((List.range (w.length - j - z.length)).map fun i => pt w j (z.length + i)) := by
      unfold row
      have : w.length - j = z.length + (w.length - j - z.length) := by omega
      conv => lhs; rw [this]
      rw [List.range_add, List.map_append, List.map_map]
      rfl
    rw [e, List.foldl_append, stp_skip ((List.range z.length).map fun i => pt w j i) z (fun p hp => by
      obtain ⟨i, hi, rfl⟩ := List.mem_map.mp hp
      have := List.mem_range.mp hi
      rw [pt_len (by omega)]; omega)]
  · rw [show w.length - j - z.length = 0 by omega, stp_skip (row w j) z (fun p hp => by
      obtain ⟨i, hi, rfl⟩ := List.mem_map.mp hp
      have := List.mem_range.mp hi
      rw [pt_len this]; omega)]
    rfl
theorem lshare_ok {w o : Txt} {Q : Txt → Prop} {E : Ex → Prop} (h : w.length ≤ 1000) (q : Q (lshare w o)) : longest_shared_W (w, o, ()) Q E := by
  show longest_shared_w6 w o [] Q
  have er : ((List.range ((w.length : Int)).toNat).map fun i : Nat => (i : Int)) = rng w.length := by rw [tn]
  unfold longest_shared_w6
  rw [er]
  refine ⟨sl (by omega), ⟨by omega, by omega⟩, ?_⟩
  refine forW.fold (fun z x3 => (row w x3.toNat).foldl (stp fun p => tin p o) z) (fun l x r e k hk => ?_) ?_
  · have hx : x ∈ rng w.length := by rw [e]; simp
    obtain ⟨h0, h1⟩ := rng_mem.mp hx
    obtain ⟨j, rfl⟩ : ∃ j : Nat, x = (j : Int) := ⟨x.toNat, by omega⟩
    generalize hz : l.foldl (fun z x3 => (row w x3.toNat).foldl (stp fun p => tin p o) z) [] = z at hk ⊢
    have hzl : z.length ≤ w.length := by
      rw [← hz]
      exact foldl_P (fun z : Txt => z.length ≤ w.length) _ l [] (by simp) fun z x hx hz => foldl_P (fun z : Txt => z.length ≤ w.length) _ _ z hz fun z p hp hz => stp_len hz (row_mem hp)
    rw [tn] at hk
    refine ⟨sl (by omega), sl (by omega), ⟨by omega, by omega, by omega, by omega⟩, ?_⟩
    have e1 : (((w.length : Int) + 1) - (((j : Int) + (z.length : Int)) + 1)).toNat = w.length - j - z.length := by omega
    rw [e1]
    have e2 : ((List.range (w.length - j - z.length)).map fun i : Nat => ((j : Int) + (z.length : Int)) + 1 + (i : Int)) = ((List.range (w.length - j - z.length)).map fun i => z.length + i).map fun n : Nat => (j : Int) + 1 + (n : Int) := by
      rw [List.map_map]
      apply List.map_congr_left
      intro i _
      show _ = (j : Int) + 1 + ((z.length + i : Nat) : Int)
      omega
    rw [e2]
    refine forW.fold (fun z x8 => tk o z (cutD w (some (j : Int)) (some x8))) (fun l2 x2 r2 e2 k2 hk2 => ?_) ?_
    · refine ⟨sl (by omega), ?_⟩
      refine ifJ.mk (fun hp => ?_) (fun hp => ?_)
      · unfold tk at hk2
        rw [if_pos hp] at hk2
        exact ⟨sl (by omega), hk2⟩
      · unfold tk at hk2
        rw [if_neg (by rw [hp]; decide)] at hk2
        exact hk2
    · rw [List.foldl_map, List.foldl_map]
      simp only [cut_row]
      have := row_tk (w := w) (o := o) (z := z) (j := j)
      rw [List.foldl_map] at this
      show k _
      rw [this]
      exact hk
  · have e4 : (rng w.length).foldl (fun z x3 => (row w x3.toNat).foldl (stp fun p => tin p o) z) [] = lshare w o := by
      unfold lshare rng
      rw [lback_rows, List.foldl_map]
      simp only [tn]
    show Q ((rng w.length).foldl (fun z x3 => (row w x3.toNat).foldl (stp fun p => tin p o) z) [])
    rw [e4]
    exact q
/-- the law's way, with none let -/
theorem first_law0 {ps : List Txt} {ok : Txt → Bool} (hp : ∀ p ∈ ps, p ≠ []) : ixD ((((ps.filter ok).filter fun x => decide ((x.length : Int) = maxL ([(0 : Int)] ++ (ps.filter ok).map fun x => (x.length : Int)))).map fun x => x) ++ [[]]) (0 : Int) = ps.foldl (stp ok) [] := by
  rcases first_max ok ps hp with ⟨h, h2⟩ | ⟨a, b, h1, h2, h3⟩
  · rw [h, h2]; rfl
  · generalize ps.foldl (stp ok) [] = B at h1 h2 h3 ⊢
    have hm : maxL ([(0 : Int)] ++ (ps.filter ok).map fun x => (x.length : Int)) = (B.length : Int) := by
      rw [h1]
      refine maxI_of (List.mem_append_right _ (List.mem_map.mpr ⟨B, by simp, rfl⟩)) fun y hy => ?_
      rcases List.mem_append.mp hy with hy | hy
      · rw [List.mem_singleton.mp hy]; omega
      obtain ⟨p, hp, rfl⟩ := List.mem_map.mp hy
      rcases List.mem_append.mp hp with h | h
      · have := h2 p h; omega
      · rcases List.mem_cons.mp h with h | h
        · rw [h]; omega
        · have := h3 p h; omega
    rw [hm, h1, List.map_id', List.filter_append, List.filter_cons, decide_eq_true rfl, if_pos rfl]
    have ha : a.filter (fun x => decide ((x.length : Int) = (B.length : Int))) = [] := by
      rw [List.filter_eq_nil_iff]
      intro p hp hd
      have := h2 p hp
      have := of_decide_eq_true hd
      omega
    rw [ha, List.nil_append, show (0 : Int) = ((0 : Nat) : Int) from rfl, ixD_nat (by simp)]
    rfl
end K01
set_option maxHeartbeats 4000000
namespace K01
open PySem L2 Sp
open PySem.W (DatumOrd)
/-! the longest start of all -/
def cp : Txt → Txt → Nat
  | a :: x, b :: y => if a = b then cp x y + 1 else 0
  | _, _ => 0
theorem cp_le : ∀ x y : Txt, cp x y ≤ x.length ∧ cp x y ≤ y.length
  | [], _ => ⟨Nat.zero_le _, Nat.zero_le _⟩
  | _ :: _, [] => ⟨Nat.zero_le _, Nat.zero_le _⟩
  | a :: x, b :: y => by
    have := cp_le x y
    unfold cp
    split
    · simp only [List.length_cons]; omega
    · exact ⟨Nat.zero_le _, Nat.zero_le _⟩
/-- ahead of it the signs are alike, and there they are not -/
theorem cp_at : ∀ (x y : Txt) (n : Nat), n ≤ cp x y → (n < cp x y ↔ n < x.length ∧ n < y.length ∧ x[n]? = y[n]?)
  | [], y, n, h => by simp [cp]
  | a :: x, [], n, h => by simp [cp]
  | a :: x, b :: y, n, h => by
    unfold cp at h ⊢
    by_cases e : a = b
    · rw [if_pos e] at h ⊢
      subst e
      cases n with
      | zero => simp
      | succ n =>
        have := cp_at x y n (by omega)
        simp only [List.length_cons, List.getElem?_cons_succ]
        rw [show (n + 1 < cp x y + 1) = (n < cp x y) by simp, this]
        simp
    · rw [if_neg e] at h ⊢
      have : n = 0 := by omega
      subst this
      simp [e]
theorem cp_take : ∀ (x y : Txt) (n : Nat), n ≤ cp x y → x.take n = y.take n
  | _, _, 0, _ => by simp
  | [], _, n + 1, h => by simp [cp] at h
  | _ :: _, [], n + 1, h => by simp [cp] at h
  | a :: x, b :: y, n + 1, h => by
    unfold cp at h
    by_cases e : a = b
    · rw [if_pos e] at h
      rw [List.take_succ_cons, List.take_succ_cons, e, cp_take x y n (by omega)]
    · rw [if_neg e] at h; omega
theorem cp_ge : ∀ (x y : Txt) (n : Nat), n ≤ x.length → n ≤ y.length → x.take n = y.take n → n ≤ cp x y
  | _, _, 0, _, _, _ => Nat.zero_le _
  | [], _, n + 1, h, _, _ => by simp at h
  | _ :: _, [], n + 1, _, h, _ => by simp at h
  | a :: x, b :: y, n + 1, h1, h2, h => by
    rw [List.take_succ_cons, List.take_succ_cons] at h
    obtain ⟨e, h3⟩ := List.cons.inj h
    unfold cp
    rw [if_pos e]
    have := cp_ge x y n (by simpa using h1) (by simpa using h2) h3
    omega
theorem between_take : ∀ (n : Nat) (x w y : Txt), ¬ w < x → ¬ y < w → n ≤ x.length → n ≤ y.length → x.take n = y.take n → w.take n = x.take n ∧ n ≤ w.length
  | 0, _, _, _, _, _, _, _, _ => by simp
  | n + 1, [], _, _, _, _, h, _, _ => by simp at h
  | n + 1, _ :: _, _, [], _, _, _, h, _ => by simp at h
  | n + 1, a :: x, [], b :: y, h1, _, _, _, _ => absurd (List.nil_lt_cons _ _) h1
  | n + 1, a :: x, c :: w, b :: y, h1, h2, h3, h4, h => by
    rw [List.take_succ_cons, List.take_succ_cons] at h
    obtain ⟨e, h5⟩ := List.cons.inj h
    subst e
    rw [List.cons_lt_cons_iff] at h1 h2
    have hc : c = a := by
      have : ¬ c < a := fun q => h1 (.inl q)
      have : ¬ a < c := fun q => h2 (.inl q)
      omega
    subst hc
    have := between_take n x w y (fun q => h1 (.inr ⟨rfl, q⟩)) (fun q => h2 (.inr ⟨rfl, q⟩)) (by simpa using h3) (by simpa using h4) h5
    rw [List.take_succ_cons, List.take_succ_cons, this.1]
    exact ⟨rfl, by simpa using this.2⟩
/-- how far all words go together -/
def cK (ws : List Txt) : Nat := cp (minL ws) (maxL ws)
def cstart (ws : List Txt) : Txt := (minL ws).take (cK ws)
theorem cK_iff {ws : List Txt} {one : Txt} (h1 : one ∈ ws) {k : Nat} (hk : k ≤ one.length) : (∀ w ∈ ws, w.take k = one.take k) ↔ k ≤ cK ws := by
  have hne : ws ≠ [] := fun e => by rw [e] at h1; cases h1
  have ha := minL_mem hne
  have hb := maxL_mem hne
  constructor
  · intro h
    have e1 := h _ ha
    have e2 := h _ hb
    have l1 : k ≤ (minL ws).length := by
      have := congrArg List.length e1
      rw [List.length_take, List.length_take] at this; omega
    have l2 : k ≤ (maxL ws).length := by
      have := congrArg List.length e2
      rw [List.length_take, List.length_take] at this; omega
    exact cp_ge _ _ _ l1 l2 (e1.trans e2.symm)
  · intro h
    have l := cp_le (minL ws) (maxL ws)
    have ht := cp_take _ _ _ h
    have each : ∀ w ∈ ws, w.take k = (minL ws).take k := fun w hw => by
      have n1 : ¬ w < minL ws := of_decide_eq_false (minL_le hw)
      have n2 : ¬ maxL ws < w := of_decide_eq_false (maxL_le hw)
      unfold cK at h
      exact (between_take k _ w _ n1 n2 (by omega) (by omega) ht).1
    intro w hw
    rw [each w hw, each one h1]
theorem cK_le {ws : List Txt} {one : Txt} (h1 : one ∈ ws) : cK ws ≤ one.length ∧ cstart ws = one.take (cK ws) := by
  have n1 : ¬ one < minL ws := of_decide_eq_false (minL_le h1)
  have n2 : ¬ maxL ws < one := of_decide_eq_false (maxL_le h1)
  have l := cp_le (minL ws) (maxL ws)
  have := between_take (cK ws) _ one _ n1 n2 l.1 l.2 (cp_take _ _ _ (Nat.le_refl _))
  exact ⟨this.2, this.1.symm⟩
theorem ixS_eq {x y : Txt} {n : Nat} (h1 : n < x.length) (h2 : n < y.length) : (ixS x (n : Int) = ixS y (n : Int)) ↔ x[n]? = y[n]? := by
  rw [ixS_nat h1, ixS_nat h2, List.getElem?_eq_getElem h1, List.getElem?_eq_getElem h2]
  simp
theorem cstart_ok {ws : List Txt} {Q : Txt → Prop} {E : Ex → Prop} (hne : ws ≠ []) (hl : ∀ w ∈ ws, w.length ≤ 1000) (q : Q (cstart ws)) : common_start_W (ws, ()) Q E := by
  have hpos : 0 < ws.length := List.length_pos_iff.mpr hne
  have ha := hl _ (minL_mem hne)
  have hb := hl _ (maxL_mem hne)
  show common_start_w ws Q E
  refine ⟨fun h => ?_, fun _ => ⟨hne, hne, ?_⟩⟩
  · exact absurd (of_decide_eq_true h) (by omega)
  · have q' : Q ((minL ws).take (cp (minL ws) (maxL ws))) := q
    generalize minL ws = x at ha q' ⊢
    generalize maxL ws = y at hb q' ⊢
    have l := cp_le x y
    refine ⟨fun z => ∃ n : Nat, z = (n : Int) ∧ n ≤ cp x y, fun z => 1000 - z.toNat, ⟨0, rfl, Nat.zero_le _⟩, fun z ⟨n, e, hn⟩ => ?_⟩
    subst e
    have hat := cp_at x y n hn
    refine ⟨sl (by omega), sl (by omega), fun hb2 => ?_, fun hb2 => ?_, fun hb2 => ?_⟩
    · have hlt := of_decide_eq_true hb2
      exact ⟨sl (by omega), ⟨by omega, by omega⟩, sl (by omega), ⟨by omega, by omega⟩, rfl⟩
    · rw [Bool.and_eq_true, decide_eq_true_eq, decide_eq_true_eq] at hb2
      have h3 : n < x.length ∧ n < y.length := by omega
      have h4 := hat.mpr ⟨h3.1, h3.2, (ixS_eq h3.1 h3.2).mp hb2.2⟩
      refine ⟨⟨n + 1, by omega, by omega⟩, ?_⟩
      show 1000 - ((n : Int) + 1).toNat < 1000 - ((n : Int)).toNat
      omega
    · have h4 : ¬ n < cp x y := fun h => by
        obtain ⟨h5, h6, h7⟩ := hat.mp h
        have : (decide ((n : Int) < min (x.length : Int) (y.length : Int)) && decide (ixS x (n : Int) = ixS y (n : Int))) = true := by
          rw [Bool.and_eq_true, decide_eq_true_eq, decide_eq_true_eq]
          exact ⟨by omega, (ixS_eq h5 h6).mpr h7⟩
        rw [this] at hb2; cases hb2
      have : n = cp x y := by omega
      subst this
      refine ⟨sl (by omega), ?_⟩
      rw [cut_to]
      exact q'
theorem cstart0 {Q : Txt → Prop} {E : Ex → Prop} (q : Q []) : common_start_W ([], ()) Q E := by
  show common_start_w [] Q E
  exact ⟨fun _ => q, fun h => by simp at h⟩
/-- the places up to K -/
theorem filter_rng {n K : Nat} (f : Int → Bool) (hK : K ≤ n) (hf : ∀ k : Nat, k ≤ n → (f (k : Int) = true ↔ k ≤ K)) : (rng (n + 1)).filter f = rng (K + 1) := by
  have e : n + 1 = (K + 1) + (n - K) := by omega
  unfold rng
  rw [e, List.range_add, List.map_append, List.filter_append, List.filter_eq_self.mpr, List.filter_eq_nil_iff.mpr, List.append_nil]
  · intro x hx
    obtain ⟨y, hy, rfl⟩ := List.mem_map.mp hx
    obtain ⟨i, hi, rfl⟩ := List.mem_map.mp hy
    have := List.mem_range.mp hi
    intro h
    have := (hf (K + 1 + i) (by omega)).mp h
    omega
  · intro x hx
    obtain ⟨y, hy, rfl⟩ := List.mem_map.mp hx
    have := List.mem_range.mp hy
    exact (hf y (by omega)).mpr (by omega)
theorem last_of {g : Int → Txt} {K : Nat} : ixD ((rng (K + 1)).map g) ((((rng (K + 1)).map g).length : Int) - 1) = g (K : Int) ∧ inR ((rng (K + 1)).map g).length ((((rng (K + 1)).map g).length : Int) - 1) := by
  rw [List.length_map, rng_len, show (((K + 1 : Nat) : Int) - 1) = ((K : Nat) : Int) by omega, ixD_nat (by rw [List.length_map, rng_len]; omega)]
  refine ⟨by simp [rng], ?_⟩
  unfold inR
  omega
end K01
set_option maxHeartbeats 4000000
namespace K01
open PySem L2 Sp
open PySem.W (DatumOrd)
/-- what all drawn things keep -/
structure Dr (one other : Txt) (ws : List Txt) : Prop where
  o4 : ∀ c ∈ one, c ∈ ([97, 98, 99, 101] : Txt)
  ol : one.length ≤ 6
  o1 : 1 ≤ one.length
  p4 : ∀ c ∈ other, c ∈ ([97, 98, 99, 101] : Txt)
  pl : other.length ≤ 6
  wl : ws.length ≤ 6
  w4 : ∀ w ∈ ws, w.length ≤ 4 ∧ 1 ≤ w.length
theorem Dr.all {one other : Txt} {ws : List Txt} (d : Dr one other ws) : ∀ w ∈ ws ++ [one, other], w.length ≤ 6 := fun w hw => by
  rcases List.mem_append.mp hw with h | h
  · have := (d.w4 w h).1; omega
  · have h1 := d.ol
    have h2 := d.pl
    rcases List.mem_cons.mp h with rfl | h
    · exact h1
    · rw [List.mem_singleton.mp h]; exact h2
theorem rngE (n : Nat) : ((List.range (((n : Int) + 1)).toNat).map fun i : Nat => (i : Int)) = rng (n + 1) := by
  rw [show ((n : Int) + 1).toNat = n + 1 by omega]
theorem empty_iff {ws : List Txt} {f : Txt → Bool} : decide (((ws.filter f).map fun x => x) = ([] : List Txt)) = true ↔ ∀ w ∈ ws, f w = false := by
  rw [decide_eq_true_eq, List.map_id', List.filter_eq_nil_iff]
  constructor
  · exact fun h w hw => by simpa using h w hw
  · exact fun h w hw => by rw [h w hw]; decide
theorem starts_eq {one other : Txt} {ws : List Txt} : ((rng (one.length + 1)).filter fun k => decide ((((ws ++ [other]).filter fun w => decide (cutD w none (some k) ≠ cutD one none (some k))).map fun w => w) = ([] : List Txt))) = rng (cK (ws ++ [one, other]) + 1) := by
  have hm : one ∈ ws ++ [one, other] := by simp
  refine filter_rng _ (cK_le hm).1 fun k hk => ?_
  rw [empty_iff, ← cK_iff hm hk]
  constructor
  · intro h w hw
    have key : w = one ∨ w ∈ ws ++ [other] := by
      rcases List.mem_append.mp hw with h | h
      · exact .inr (List.mem_append_left _ h)
      · rcases List.mem_cons.mp h with h | h
        · exact .inl h
        · exact .inr (List.mem_append_right _ h)
    rcases key with rfl | h2
    · rfl
    · have := of_decide_eq_false (h w h2)
      rw [cut_to, cut_to] at this
      exact Classical.byContradiction this
  · intro h w hw
    have h2 : w ∈ ws ++ [one, other] := by
      rcases List.mem_append.mp hw with h | h
      · exact List.mem_append_left _ h
      · exact List.mem_append_right _ (List.mem_cons_of_mem _ h)
    rw [decide_eq_false_iff_not, cut_to, cut_to, h w h2]
    simp
theorem step3 {u : Txt × Txt} {ws : List Txt} {Q : Bool → Prop} {E : Ex → Prop} (d : Dr u.1 u.2 ws) (h : law_w1 u ws Q) : law_w3 u ws Q E := by
  have ol := d.ol
  have pl := d.pl
  have wl := d.wl
  unfold law_w3
  rw [rngE]
  refine ⟨sl (by omega), ⟨by omega, by omega⟩, by rw [rng_len]; exact sl (by omega), fun x hx => ⟨?_, ?_, fun w hw => ⟨?_, sl (by omega), rfl⟩, fun _ _ _ => rfl, rfl⟩, fun x hx _ => ⟨sl (by omega), rfl⟩, ?_⟩
  · show ws.length + 1 ≤ _
    exact sl (by omega)
  · rw [List.length_append]
    show ws.length + 1 ≤ _
    exact sl (by omega)
  · refine sl ?_
    rcases List.mem_append.mp hw with h | h
    · have := (d.w4 w h).1; omega
    · rw [List.mem_singleton.mp h]; omega
  · rw [starts_eq]
    have hm : u.1 ∈ ws ++ [u.1, u.2] := by simp
    have hl := last_of (g := fun x58 : Int => cutD u.1 none (some x58)) (K := cK (ws ++ [u.1, u.2]))
    refine ⟨?_, Cl.val (cstart_ok (by simp) (fun w hw => by have := d.all w hw; omega) rfl) ⟨hl.2, fun hb => ?_, fun _ => Cl.val (cstart0 rfl) ⟨fun hb => ?_, fun _ => h⟩⟩⟩
    · show ws.length + 2 ≤ _
      exact sl (by omega)
    · have := of_decide_eq_true hb
      rw [hl.1, cut_to, (cK_le hm).2] at this
      exact absurd rfl this
    · exact absurd (of_decide_eq_true hb) (by rw [tx0]; simp)
/-! ends -/
theorem cend_ok {ws : List Txt} {Q : Txt → Prop} {E : Ex → Prop} (hne : ws ≠ []) (hn : ws.length ≤ 1000) (hl : ∀ w ∈ ws, w.length ≤ 1000) (q : Q (cstart (ws.map List.reverse)).reverse) : common_end_W (ws, ()) Q E := by
  show common_end_w ws Q E
  have hl2 : ∀ w ∈ ws.map List.reverse, w.length ≤ 1000 := fun w hw => by
    obtain ⟨y, hy, rfl⟩ := List.mem_map.mp hw
    rw [List.length_reverse]; exact hl y hy
  have hne2 : ws.map List.reverse ≠ [] := by simpa using hne
  refine ⟨sl (by omega), List.reverse, fun x hx => Cl.val (turned_ok (hl x hx) rfl) rfl, Cl.val (cstart_ok hne2 hl2 rfl) (Cl.val (turned_ok ?_ rfl) q)⟩
  have h1 := minL_mem hne2
  have h2 := hl2 _ h1
  unfold cstart
  rw [List.length_take]
  omega
theorem cut_end {x : Txt} {k : Nat} (h : k ≤ x.length) : cutD x (some ((x.length : Int) - (k : Int))) none = x.drop (x.length - k) := by
  rw [show (x.length : Int) - (k : Int) = ((x.length - k : Nat) : Int) by omega, cut_from]
theorem rev_take (x : Txt) (k : Nat) : x.reverse.take k = (x.drop (x.length - k)).reverse := by
  rw [List.take_reverse]
theorem ends_eq {one other : Txt} {ws : List Txt} : ((rng (one.length + 1)).filter fun k => decide ((((ws ++ [other]).filter fun w => (decide ((w.length : Int) < k)) || (decide (cutD w (some ((w.length : Int) - k)) none ≠ cutD one (some ((one.length : Int) - k)) none))).map fun w => w) = ([] : List Txt))) = rng (cK ((ws ++ [one, other]).map List.reverse) + 1) := by
  have hm : one.reverse ∈ (ws ++ [one, other]).map List.reverse := List.mem_map.mpr ⟨one, by simp, rfl⟩
  have hle := (cK_le hm).1
  rw [List.length_reverse] at hle
  refine filter_rng _ hle fun k hk => ?_
  rw [empty_iff, ← cK_iff hm (by rw [List.length_reverse]; exact hk)]
  have one_ : ∀ w : Txt, ((decide ((w.length : Int) < (k : Int))) || (decide (cutD w (some ((w.length : Int) - (k : Int))) none ≠ cutD one (some ((one.length : Int) - (k : Int))) none))) = false ↔ w.reverse.take k = one.reverse.take k := by
    intro w
    rw [Bool.or_eq_false_iff, decide_eq_false_iff_not, decide_eq_false_iff_not, cut_end hk, rev_take, rev_take]
    constructor
    · rintro ⟨h1, h2⟩
      rw [cut_end (by omega)] at h2
      rw [Classical.byContradiction h2]
    · intro h
      have h1 := List.reverse_inj.mp h
      have h2 := congrArg List.length h1
      rw [List.length_drop, List.length_drop] at h2
      have h3 : k ≤ w.length := by omega
      rw [cut_end h3]
      exact ⟨by omega, fun z => z h1⟩
  constructor
  · intro h w hw
    obtain ⟨y, hy, rfl⟩ := List.mem_map.mp hw
    have key : y = one ∨ y ∈ ws ++ [other] := by
      rcases List.mem_append.mp hy with h | h
      · exact .inr (List.mem_append_left _ h)
      · rcases List.mem_cons.mp h with h | h
        · exact .inl h
        · exact .inr (List.mem_append_right _ h)
    rcases key with rfl | h2
    · rfl
    · exact (one_ y).mp (h y h2)
  · intro h w hw
    have h2 : w ∈ ws ++ [one, other] := by
      rcases List.mem_append.mp hw with h | h
      · exact List.mem_append_left _ h
      · exact List.mem_append_right _ (List.mem_cons_of_mem _ h)
    exact (one_ w).mpr (h _ (List.mem_map.mpr ⟨w, h2, rfl⟩))
theorem rest0 {one other : Txt} {ws : List Txt} {Q : Bool → Prop} {E : Ex → Prop} (d : Dr one other ws) (h : law_rest1_w16 one other Q) : law_rest1_W (one, other, ws, ()) Q E := by
  have ol := d.ol
  have pl := d.pl
  have wl := d.wl
  show law_rest1_w one other ws Q E
  unfold law_rest1_w
  rw [rngE]
  have hwl : ∀ w ∈ ws ++ [other], w.length ≤ sizeLine := fun w hw => by
    refine sl ?_
    rcases List.mem_append.mp hw with h | h
    · have := (d.w4 w h).1; omega
    · rw [List.mem_singleton.mp h]; omega
  have s1 : one.length ≤ sizeLine := sl (by omega)
  refine ⟨s1, ⟨by omega, by omega⟩, by rw [rng_len]; exact sl (by omega), fun x hx => ⟨?_, ?_, fun w hw => ⟨hwl w hw, fun _ => ⟨hwl w hw, hwl w hw, s1, s1, rfl⟩, rfl⟩, fun _ _ _ => rfl, rfl⟩, fun x hx _ => ⟨s1, s1, rfl⟩, ?_⟩
  · show ws.length + 1 ≤ _
    exact sl (by omega)
  · rw [List.length_append]
    show ws.length + 1 ≤ _
    exact sl (by omega)
  · rw [ends_eq]
    have hm : one.reverse ∈ (ws ++ [one, other]).map List.reverse := List.mem_map.mpr ⟨one, by simp, rfl⟩
    have hle := (cK_le hm).1
    rw [List.length_reverse] at hle
    have hl := last_of (g := fun x4 : Int => cutD one (some ((one.length : Int) - x4)) none) (K := cK ((ws ++ [one, other]).map List.reverse))
    refine ⟨?_, Cl.val (cend_ok (by simp) (by rw [List.length_append]; show ws.length + 2 ≤ _; omega) (fun w hw => by have := d.all w hw; omega) rfl) ⟨hl.2, fun hb => ?_, fun _ => h⟩⟩
    · show ws.length + 2 ≤ _
      exact sl (by omega)
    · have := of_decide_eq_true hb
      rw [hl.1, cut_end hle, (cK_le hm).2, rev_take, List.reverse_reverse] at this
      exact absurd rfl this
end K01
set_option maxHeartbeats 4000000
namespace K01
open PySem L2 Sp
open PySem.W (DatumOrd)
/-! the longest row of letters shared -/
def lc : Txt → Txt → Nat
  | [], _ => 0
  | _ :: _, [] => 0
  | x :: a, y :: b => if x = y then lc a b + 1 else max (lc a (y :: b)) (lc (x :: a) b)
theorem lc_nil (a : Txt) : lc a [] = 0 := by cases a <;> simp [lc]
theorem lc_cons (x y : Nat) (a b : Txt) : lc (x :: a) (y :: b) = if x = y then lc a b + 1 else max (lc a (y :: b)) (lc (x :: a) b) := by rw [lc]
theorem lc_ge : ∀ (a b r : Txt), r.Sublist a → r.Sublist b → r.length ≤ lc a b
  | [], b, r, h, _ => by rw [List.sublist_nil.mp h]; exact Nat.zero_le _
  | x :: a, [], r, _, h => by rw [List.sublist_nil.mp h]; exact Nat.zero_le _
  | x :: a, y :: b, [], _, _ => Nat.zero_le _
  | x :: a, y :: b, z :: r, h1, h2 => by
    rw [lc_cons]
    have tl : ∀ {w : Nat} {c : Txt}, (z :: r).Sublist (w :: c) → r.Sublist c := fun {w c} h => by
      cases h with
      | cons _ h => exact (List.sublist_cons_self z r).trans h
      | cons_cons _ h => exact h
    by_cases e : x = y
    · rw [if_pos e]
      have := lc_ge a b r (tl h1) (tl h2)
      simp only [List.length_cons]; omega
    · rw [if_neg e]
      cases h1 with
      | cons _ h1 =>
        have := lc_ge a (y :: b) (z :: r) h1 h2
        omega
      | cons_cons _ h1 =>
        cases h2 with
        | cons _ h2 =>
          have := lc_ge (x :: a) b (x :: r) (h1.cons_cons x) h2
          omega
        | cons_cons _ h2 => exact absurd rfl e
theorem lc_is : ∀ (a b : Txt), ∃ r : Txt, r.Sublist a ∧ r.Sublist b ∧ r.length = lc a b
  | [], b => ⟨[], List.nil_sublist _, List.nil_sublist _, by rw [lc]; rfl⟩
  | x :: a, [] => ⟨[], List.nil_sublist _, List.nil_sublist _, by rw [lc_nil]; rfl⟩
  | x :: a, y :: b => by
    rw [lc_cons]
    by_cases e : x = y
    · rw [if_pos e]
      obtain ⟨r, h1, h2, h3⟩ := lc_is a b
      subst e
      exact ⟨x :: r, h1.cons_cons x, h2.cons_cons x, by rw [List.length_cons, h3]⟩
    · rw [if_neg e]
      by_cases h : lc (x :: a) b ≤ lc a (y :: b)
      · obtain ⟨r, h1, h2, h3⟩ := lc_is a (y :: b)
        exact ⟨r, h1.cons x, h2, by omega⟩
      · obtain ⟨r, h1, h2, h3⟩ := lc_is (x :: a) b
        exact ⟨r, h1, h2.cons y, by omega⟩
/-! rows -/
def subs (w : Txt) : List Txt := w.foldl (fun rows c => rows ++ rows.map fun r => r ++ [c]) [[]]
theorem subs_snoc (l : Txt) (c : Nat) : subs (l ++ [c]) = subs l ++ (subs l).map fun r => r ++ [c] := by unfold subs; rw [List.foldl_append]; rfl
theorem subs_len : ∀ w : Txt, (subs w).length = 2 ^ w.length := by
  refine snocInd ?_ ?_
  · rfl
  · intro l x ih
    rw [subs_snoc, List.length_append, List.length_map, ih, List.length_append, List.length_singleton, Nat.pow_succ]
    omega
theorem subs_mem : ∀ (w r : Txt), r ∈ subs w ↔ r.Sublist w := by
  refine snocInd ?_ ?_
  · intro r
    rw [List.sublist_nil]
    simp [subs]
  · intro l x ih r
    rw [subs_snoc, List.mem_append, ih, List.mem_map, List.sublist_append_iff]
    constructor
    · rintro (h | ⟨r', h, rfl⟩)
      · exact ⟨r, [], by simp, h, List.nil_sublist _⟩
      · exact ⟨r', [x], rfl, (ih r').mp h, List.Sublist.refl _⟩
    · rintro ⟨a, b, rfl, h1, h2⟩
      rcases b with _ | ⟨y, b⟩
      · exact .inl (by rw [List.append_nil]; exact h1)
      · right
        have hl := h2.length_le
        have hb : b = [] := List.length_eq_zero_iff.mp (by simp only [List.length_cons, List.length_nil] at hl; omega)
        subst hb
        have : y = x := by
          have := h2.subset List.mem_cons_self
          simpa using this
        subst this
        exact ⟨a, (ih a).mpr h1, rfl⟩
theorem subs_ok {w : Txt} {Q : List Txt → Prop} {E : Ex → Prop} (h : w.length ≤ 10) (q : Q (subs w)) : law_rows_W (w, ()) Q E := by
  show law_rows_w3 w [[]] Q
  refine forT (fun l z => z = subs l) rfl (fun l c r z e hz k hk => ?_) (fun z hz => ?_)
  · subst hz
    have hlen : l.length ≤ 9 := by rw [e, List.length_append, List.length_cons] at h; omega
    have hs : (subs l).length ≤ 512 := by
      rw [subs_len]
      exact Nat.pow_le_pow_right (by omega) hlen
    refine ⟨sl (by omega), fun x hx => ⟨?_, rfl⟩, ?_, ?_⟩
    · have := ((subs_mem l x).mp hx).length_le
      show x.length + 1 ≤ _
      exact sl (by omega)
    · rw [List.length_map]
      exact sl (by omega)
    · exact hk _ (subs_snoc l c).symm
  · subst hz; exact q
/-! the table -/
def tab (l o : Txt) (m : Nat) : List Int := (List.range m).map fun k => (lc l.reverse (o.take k).reverse : Int)
theorem tab_len (l o : Txt) (m : Nat) : (tab l o m).length = m := by simp [tab]
theorem tab_at {l o : Txt} {m k : Nat} (h : k < m) : ixD (tab l o m) (k : Int) = (lc l.reverse (o.take k).reverse : Int) := by
  rw [ixD_nat (by rw [tab_len]; exact h)]
  simp [tab]
theorem tab_succ (l o : Txt) (m : Nat) : tab l o (m + 1) = tab l o m ++ [(lc l.reverse (o.take m).reverse : Int)] := by
  unfold tab
  rw [List.range_succ, List.map_append]
  rfl
theorem enum_at {o : Txt} {i : Nat} {x : Int × Txt} (h : (enumD (sg o))[i]? = some x) : ∃ hi : i < o.length, x = ((i : Int), [o[i]]) := by
  unfold enumD at h
  rw [List.getElem?_mapIdx, sg, List.getElem?_map] at h
  by_cases hi : i < o.length
  · rw [List.getElem?_eq_getElem hi] at h
    exact ⟨hi, (Option.some.inj h).symm⟩
  · rw [List.getElem?_eq_none (by omega)] at h; cases h
theorem enum_len (o : Txt) : (enumD (sg o)).length = o.length := by simp [enumD, sg]
theorem lrow_ok {w o : Txt} {Q : Int → Prop} {E : Ex → Prop} (ho : o.length ≤ 1000) (q : Q (lc w.reverse o.reverse : Int)) : longest_row_W (w, o, ()) Q E := by
  have e0 : (List.replicate (((o.length : Int) + 1)).toNat [(0 : Int)]).flatten = tab [] o (o.length + 1) := by
    rw [show ((o.length : Int) + 1).toNat = o.length + 1 by omega]
    apply List.ext_getElem
    · rw [tab_len]; simp
    · intro i h1 h2
      simp [tab, lc]
  refine ⟨sl (by show o.length ≤ _; omega), ⟨?_, ?_, ?_⟩, ?_⟩
  · show -(2 ^ 63) ≤ ((o.length : Int) + 1); omega
  · show ((o.length : Int) + 1) < 2 ^ 63; omega
  · show 1 * ((o.length : Int) + 1).toNat ≤ _
    exact sl (by omega)
  · show longest_row_w6 w o (List.replicate (((o.length : Int) + 1)).toNat [(0 : Int)]).flatten Q
    rw [e0]
    refine forT (fun l z => z = tab l o (o.length + 1)) rfl (fun l c r z e hz k hk => ?_) (fun z hz => ?_)
    · subst hz
      have hk := hk _ rfl
      show longest_row_w4 o [c] k (tab l o (o.length + 1))
      refine ⟨fun i z => z = tab (l ++ [c]) o (i + 1), ?_, fun i x z hx hz => ?_, fun z hz => ?_⟩
      · simp [tab, lc_nil]
      · subst hz
        obtain ⟨hi, rfl⟩ := enum_at hx
        have hlen : (tab (l ++ [c]) o (i + 1)).length < sizeLine := by
          rw [tab_len]
          have : 1002 ≤ sizeLine := sl (by omega)
          omega
        have a1 : ixD (tab l o (o.length + 1)) (i : Int) = (lc l.reverse (o.take i).reverse : Int) := tab_at (by omega)
        have a2 : ixD (tab l o (o.length + 1)) ((i : Int) + 1) = (lc l.reverse (o.take (i + 1)).reverse : Int) := by
          rw [show (i : Int) + 1 = ((i + 1 : Nat) : Int) by omega]
          exact tab_at (by omega)
        have a3 : ixD (tab (l ++ [c]) o (i + 1)) (i : Int) = (lc (l ++ [c]).reverse (o.take i).reverse : Int) := tab_at (by omega)
        have tk : (o.take (i + 1)).reverse = o[i] :: (o.take i).reverse := by
          rw [List.take_succ_eq_append_getElem hi, List.reverse_append]
          rfl
        have rl : (l ++ [c]).reverse = c :: l.reverse := by simp
        refine ⟨fun _ => ⟨?_, rfl⟩, fun _ => ⟨?_, ?_, rfl⟩, hlen, ?_⟩
        · rw [tab_len]; unfold inR; omega
        · rw [tab_len]; unfold inR; omega
        · rw [tab_len]; unfold inR; omega
        · show tab (l ++ [c]) o (i + 1) ++ [if decide ([c] = [o[i]]) = true then ixD (tab l o (o.length + 1)) (i : Int) + 1 else max (ixD (tab l o (o.length + 1)) ((i : Int) + 1)) (ixD (tab (l ++ [c]) o (i + 1)) (i : Int))] = tab (l ++ [c]) o (i + 1 + 1)
          rw [tab_succ (l ++ [c]) o (i + 1), a1, a2, a3, tk, rl, lc_cons]
          congr 2
          by_cases e : c = o[i]
          · rw [if_pos e, if_pos (by rw [e]; simp)]
            omega
          · rw [if_neg e, if_neg (by simpa using e)]
            omega
      · rw [enum_len] at hz
        subst hz
        exact hk
    · subst hz
      refine ⟨by rw [tab_len]; unfold inR; omega, ?_⟩
      have : ixD (tab w o (o.length + 1)) (-(1 : Int)) = (lc w.reverse o.reverse : Int) := by
        unfold ixD plc
        rw [tab_len, if_neg (by omega), show (-(1 : Int) + ((o.length + 1 : Nat) : Int)).toNat = o.length by omega, List.getD_eq_getElem?_getD, List.getElem?_eq_getElem (by rw [tab_len]; omega)]
        simp [tab]
      rw [this]
      exact q
theorem rest13 {one other : Txt} {Q : Bool → Prop} (h1 : one.length ≤ 6) (h2 : other.length ≤ 6) (h : law_rest1_w12 one Q) : law_rest1_w13 one other Q := by
  refine Cl.val (lrow_ok (by omega) rfl) (Cl.val (subs_ok (by omega) rfl) ?_)
  have hlen : ∀ x ∈ subs one, x.length ≤ 6 := fun x hx => by have := ((subs_mem one x).mp hx).length_le; omega
  refine ⟨?_, fun x => inL x (subs other), fun x => (x.length : Int), fun x hx => Cl.val (subs_ok (by omega) rfl) rfl, fun x hx _ => ⟨sl (by have := hlen x hx; omega), rfl⟩, ?_, ?_⟩
  · rw [subs_len]
    have : 2 ^ one.length ≤ 2 ^ 6 := Nat.pow_le_pow_right (by omega) h1
    exact sl (by omega)
  · have : ([] : Txt) ∈ (subs one).filter fun x => inL x (subs other) := List.mem_filter.mpr ⟨(subs_mem one []).mpr (List.nil_sublist _), by rw [inL_iff]; exact (subs_mem other []).mpr (List.nil_sublist _)⟩
    intro e
    rw [List.map_eq_nil_iff] at e
    rw [e] at this; cases this
  · have hm : maxL (((subs one).filter fun x => inL x (subs other)).map fun x => (x.length : Int)) = (lc one.reverse other.reverse : Int) := by
      obtain ⟨r, r1, r2, r3⟩ := lc_is one.reverse other.reverse
      have q1 : r.reverse.Sublist one := by have := r1.reverse; rwa [List.reverse_reverse] at this
      have q2 : r.reverse.Sublist other := by have := r2.reverse; rwa [List.reverse_reverse] at this
      refine maxI_of (List.mem_map.mpr ⟨r.reverse, List.mem_filter.mpr ⟨(subs_mem one _).mpr q1, by rw [inL_iff]; exact (subs_mem other _).mpr q2⟩, by rw [List.length_reverse, r3]⟩) fun y hy => ?_
      · obtain ⟨x, hx, rfl⟩ := List.mem_map.mp hy
        obtain ⟨g1, g2⟩ := List.mem_filter.mp hx
        rw [inL_iff] at g2
        have := lc_ge one.reverse other.reverse x.reverse ((subs_mem one x).mp g1).reverse ((subs_mem other x).mp g2).reverse
        rw [List.length_reverse] at this
        omega
    rw [hm]
    exact ⟨fun hb => absurd rfl (of_decide_eq_true hb), fun _ => h⟩
end K01
set_option maxHeartbeats 4000000
namespace K01
open PySem L2 Sp
open PySem.W (DatumOrd)
theorem letq : ∀ k : Fin 26, idxT AZ [97 + k.val] = (k.val : Int) ∧ ixS AZ (k.val : Int) = [97 + k.val] := by decide +kernel
/-- small letters alone -/
def Az (w : Txt) : Prop := ∀ c ∈ w, 97 ≤ c ∧ c ≤ 122
theorem az_tin {c : Nat} (h : 97 ≤ c ∧ c ≤ 122) : tin [c] AZ = true := by
  rw [tin_one, decide_eq_true_eq, az]
  simp only [List.mem_cons, List.not_mem_nil, or_false]
  omega
theorem az_idx {c : Nat} (h : 97 ≤ c ∧ c ≤ 122) : idxT AZ [c] = (c : Int) - 97 := by
  have := (letq ⟨c - 97, by omega⟩).1
  simp only at this
  rw [show 97 + (c - 97) = c by omega] at this
  rw [this]; omega
theorem az_at {i : Int} (h0 : 0 ≤ i) (h1 : i < 26) : ixS AZ i = [97 + i.toNat] := by
  have := (letq ⟨i.toNat, by omega⟩).2
  simp only at this
  rw [show ((i.toNat : Nat) : Int) = i by omega] at this
  exact this
/-! letters on -/
def sh (w : Txt) (by_ : Int) : Txt := w.map fun c : Nat => 97 + (((c : Int) - 97 + by_) % 26).toNat
theorem sh_az (w : Txt) (b : Int) : Az (sh w b) := fun c hc => by
  obtain ⟨d, _, rfl⟩ := List.mem_map.mp hc
  omega
theorem sh_len (w : Txt) (b : Int) : (sh w b).length = w.length := by simp [sh]
theorem sh_eq {w : Txt} (hw : Az w) (b : Int) : ((sg w).map fun x => ixS AZ ((idxT AZ x + b) % 26)) = sg (sh w b) := by
  unfold sg sh
  rw [List.map_map, List.map_map]
  apply List.map_congr_left
  intro c hc
  show ixS AZ ((idxT AZ [c] + b) % 26) = _
  rw [az_idx (hw c hc), az_at (by omega) (by omega)]
  rfl
theorem sh_parts {w : Txt} (hw : Az w) (hl : w.length ≤ 1000) (b : Int) : List.length (sg w) ≤ sizeLine ∧ (∀ x ∈ sg w, (tin x AZ = true ∧ (0 < (26 : Int) ∧ (List.length AZ ≤ sizeLine ∧ inR (List.length AZ) ((idxT AZ x + b) % (26 : Int)) ∧ ixS AZ ((idxT AZ x + b) % (26 : Int)) = ixS AZ ((idxT AZ x + b) % (26 : Int)))))) ∧ lenSum ((sg w).map fun x => ixS AZ ((idxT AZ x + b) % 26)) + List.length ((sg w).map fun x => ixS AZ ((idxT AZ x + b) % 26)) * List.length (tx "") ≤ 16777216 := by
  refine ⟨by rw [sg_len]; exact sl (by omega), fun x hx => ?_, join_ok ?_⟩
  · obtain ⟨c, hc, rfl⟩ := sg_mem'.mp hx
    refine ⟨az_tin (hw c hc), by decide, by decide, ?_, rfl⟩
    show inR 26 _
    unfold inR
    omega
  · rw [sh_eq hw, lenSum_chars, sh_len]; omega
theorem sh_ok {w : Txt} {b : Int} {Q : Txt → Prop} {E : Ex → Prop} (hw : Az w) (hl : w.length ≤ 1000) (q : Q (sh w b)) : shifted_W (w, b, ()) Q E := by
  obtain ⟨h1, h2, h3⟩ := sh_parts hw hl b
  refine ⟨h1, h2, h3, ?_⟩
  show Q (joinT [] ((sg w).map fun x => ixS AZ ((idxT AZ x + b) % 26)))
  rw [sh_eq hw, join_sg]
  exact q
theorem sh_back {w : Txt} (hw : Az w) (b : Int) : sh (sh w b) (0 - b) = w := by
  unfold sh
  rw [List.map_map]
  conv => rhs; rw [← List.map_id w]
  apply List.map_congr_left
  intro c hc
  have := hw c hc
  show 97 + ((((97 + (((c : Int) - 97 + b) % 26).toNat : Nat) : Int) - 97 + (0 - b)) % 26).toNat = c
  omega
/-! places by order -/
def num (w : Txt) : Int := w.foldl (fun (n : Int) (c : Nat) => n * 26 + ((c : Int) - 97)) 0
theorem num_snoc (l : Txt) (c : Nat) : num (l ++ [c]) = num l * 26 + ((c : Int) - 97) := by unfold num; rw [List.foldl_append]; rfl
theorem num_ge : ∀ w : Txt, Az w → 0 ≤ num w ∧ num w < 26 ^ w.length := by
  refine snocInd ?_ ?_
  · intro _; exact ⟨by decide, by decide⟩
  · intro l x ih h
    obtain ⟨h1, h2⟩ := ih fun c hc => h c (List.mem_append_left _ hc)
    have hx := h x (by simp)
    rw [num_snoc, List.length_append, List.length_singleton, Int.pow_succ]
    omega
theorem num_ok {w : Txt} {Q : Int → Prop} {E : Ex → Prop} (hw : Az w) (q : Q (num w)) : number_of_W (w, ()) Q E := by
  show number_of_w3 w 0 Q
  refine forT (fun l z => z = num l) rfl (fun l c r z e hz k hk => ?_) (fun z hz => ?_)
  · subst hz
    have hc := hw c (by rw [e]; simp)
    refine ⟨.inr (by decide), az_tin hc, ?_⟩
    refine hk _ ?_
    rw [num_snoc, az_idx hc]
  · subst hz; exact q
def wat : Nat → Int → Txt
  | 0, _ => []
  | n + 1, m => wat n (m / 26) ++ [97 + (m % 26).toNat]
theorem wat_len : ∀ (n : Nat) (m : Int), (wat n m).length = n
  | 0, _ => rfl
  | n + 1, m => by rw [wat, List.length_append, wat_len n]; rfl
theorem wat_az : ∀ (n : Nat) (m : Int), Az (wat n m)
  | 0, _ => fun c hc => by cases hc
  | n + 1, m => fun c hc => by
    rw [wat] at hc
    rcases List.mem_append.mp hc with h | h
    · exact wat_az n _ c h
    · rw [List.mem_singleton.mp h]; omega
theorem num_wat : ∀ (n : Nat) (m : Int), 0 ≤ m → m < 26 ^ n → num (wat n m) = m
  | 0, m, h0, h1 => by
    have : m = 0 := by simp at h1; omega
    rw [this]; rfl
  | n + 1, m, h0, h1 => by
    rw [Int.pow_succ] at h1
    rw [wat, num_snoc, num_wat n (m / 26) (by omega) (by omega)]
    omega
theorem wat_num : ∀ w : Txt, Az w → wat w.length (num w) = w := by
  refine snocInd ?_ ?_
  · intro _; rfl
  · intro l x ih h
    have hx := h x (by simp)
    rw [List.length_append, List.length_singleton, wat, num_snoc, show (num l * 26 + ((x : Int) - 97)) / 26 = num l by omega, show (num l * 26 + ((x : Int) - 97)) % 26 = (x : Int) - 97 by omega, ih fun c hc => h c (List.mem_append_left _ hc)]
    congr 2
    omega
theorem wat_ok {n : Nat} {m : Int} {Q : Txt → Prop} {E : Ex → Prop} (hn : n ≤ 1000) (h0 : 0 ≤ m) (h1 : m < 26 ^ n) (q : Q (wat n m)) : word_at_W (m, (n : Int), ()) Q E := by
  show word_at_w m (n : Int) Q E
  refine ⟨fun h => absurd (of_decide_eq_true h) (by omega), fun _ => ⟨⟨by omega, by omega⟩, ?_⟩⟩
  rw [show ((List.range ((n : Int)).toNat).map fun i : Nat => (i : Int)) = rng n by rw [tn]]
  refine ⟨fun i z => i ≤ n ∧ 0 ≤ z.1 ∧ z.1 < 26 ^ (n - i) ∧ wat n m = wat (n - i) z.1 ++ z.2 ∧ z.2.length = i, ⟨Nat.zero_le _, h0, by simpa using h1, by simp [tx0], rfl⟩, fun i x z hx ⟨hi, z0, z1, z2, z3⟩ => ?_, fun z hz => ?_⟩
  · have hlt : i < n := by
      have := (List.getElem?_eq_some_iff.mp hx).1
      rwa [rng_len] at this
    obtain ⟨a, f⟩ := z
    simp only at z0 z1 z2 z3
    have e1 : n - i = (n - (i + 1)) + 1 := by omega
    rw [e1, Int.pow_succ] at z1
    have z2' : wat n m = wat (n - (i + 1)) (a / 26) ++ (ixS AZ (a % 26) ++ f) := by
      rw [z2, e1, wat, az_at (by omega) (by omega), List.append_assoc]
    refine ⟨by decide, by decide, ?_, ?_, ⟨by decide, by decide⟩, hlt, ?_, ?_, z2', ?_⟩
    · show inR 26 _
      unfold inR
      omega
    · show 1 + f.length ≤ _
      exact sl (by omega)
    · show 0 ≤ a / 26
      omega
    · show a / 26 < 26 ^ (n - (i + 1))
      omega
    · show (ixS AZ (a % 26) ++ f).length = i + 1
      rw [List.length_append, z3, ixS_len]
      omega
  · obtain ⟨a, f⟩ := z
    rw [rng_len, Nat.sub_self] at hz
    obtain ⟨_, z0, z1, z2, _⟩ := hz
    simp only at z0 z1 z2
    have : a = 0 := by simp at z1; omega
    subst this
    refine ⟨fun h => absurd (of_decide_eq_true h) (by omega), fun _ => ?_⟩
    show Q f
    rw [z2] at q
    exact q
theorem bet_ok {w o : Txt} {Q : Txt → Prop} {E : Ex → Prop} (hw : Az w) (ho : Az o) (hl : w.length = o.length) (hn : w.length ≤ 1000) (q : Q (wat w.length ((num w + num o) / 2))) : between_W (w, o, ()) Q E := by
  have s1 : w.length ≤ sizeLine := sl (by omega)
  obtain ⟨a1, a2⟩ := num_ge w hw
  obtain ⟨b1, b2⟩ := num_ge o ho
  rw [← hl] at b2
  show between_w w o Q E
  refine ⟨s1, by rw [← hl]; exact s1, fun h => absurd (of_decide_eq_true h) (by omega), fun _ => ?_⟩
  exact Cl.val (num_ok hw rfl) (Cl.val (num_ok ho rfl) ⟨⟨by decide, by decide⟩, s1, Cl.val (wat_ok hn (by omega) (by omega) rfl) q⟩)
/-! wrong ones -/
theorem cases_ok {Q : Bool → Prop} {E : Ex → Prop} (q : Q true) : law_cases1_W () Q E := by
  show law_cases1_w Q E
  refine Cl.exc (e := .BadWord) ?_ ⟨tx "word", rfl, fun h => absurd rfl (of_decide_eq_true h), fun _ => ?_⟩
  · show between_w (tx "a") (tx "bb") _ _
    exact ⟨by decide, by decide, fun _ => rfl, fun h => absurd h (by decide)⟩
  · refine Cl.exc (e := .BadCount) ?_ ⟨tx "count", rfl, fun h => absurd rfl (of_decide_eq_true h), fun _ => q⟩
    show word_at_w 26 1 _ _
    refine ⟨fun h => absurd h (by decide), fun _ => ⟨by decide, fun i z => (i = 0 ∧ z = ((26 : Int), ([] : Txt))) ∨ (i = 1 ∧ z.1 = 1), .inl ⟨rfl, rfl⟩, fun i x z hx hz => ?_, fun z hz => ?_⟩⟩
    · rcases hz with ⟨rfl, rfl⟩ | ⟨rfl, _⟩
      · exact ⟨by decide, by decide, ⟨by decide, by decide⟩, by decide, ⟨by decide, by decide⟩, .inr ⟨rfl, rfl⟩⟩
      · cases hx
    · rcases hz with ⟨h, _⟩ | ⟨_, h⟩
      · cases h
      · refine ⟨fun _ => rfl, fun hb => ?_⟩
        rw [h] at hb
        exact absurd hb (by decide)
theorem wrong_ok {x : Txt} (h : x ∈ [(tx ""), (tx "A"), (tx "a b"), (repS (tx "a") (25 : Int)), (tx "a1")]) {Q : Unit → Prop} : check_word_W (x, ()) Q (fun e => e = .BadWord) := by
  have key : ∀ y ∈ [(tx ""), (tx "A"), (tx "a b"), (repS (tx "a") (25 : Int)), (tx "a1")], y.length ≤ 100 ∧ ((!(decide ((1 : Int) ≤ (y.length : Int)) && decide ((y.length : Int) ≤ (24 : Int)))) || ((y.map fun c => [c]).any (fun (x2 : Txt) => (!tin x2 AZ)))) = true := by decide +kernel
  obtain ⟨k1, k2⟩ := key x h
  refine ⟨sl (by show x.length ≤ _; omega), fun _ => rfl, fun _ => ⟨rfl, fun _ _ => rfl, rfl⟩, fun _ => rfl, fun hb => ?_⟩
  rw [k2] at hb; cases hb
theorem rest4 {Q : Bool → Prop} (q : Q true) : law_rest1_w4 Q := by
  refine ⟨⟨by decide, by decide, by decide⟩, fun i z => True, trivial, fun i x z hx _ => ?_, fun z _ => ?_⟩
  · refine Cl.exc (e := .BadWord) (wrong_ok (List.mem_of_getElem? hx)) ⟨tx "word", rfl, fun h => absurd rfl (of_decide_eq_true h), fun _ => trivial⟩
  · exact Cl.val (cases_ok rfl) ⟨fun h => absurd h (by decide), fun _ => q⟩
theorem rest10 {w : Txt} {Q : Bool → Prop} (hw : Az w) (hl : w.length ≤ 6) (q : Q true) : law_rest1_w10 w Q := by
  have s1 : w.length ≤ sizeLine := sl (by omega)
  obtain ⟨a1, a2⟩ := num_ge w hw
  refine Cl.val (num_ok hw rfl) ?_
  show law_rest1_w9 w (num w) 0 Q
  refine forT (fun l z => z = num l) rfl (fun l c r z e hz k hk => ?_) (fun z hz => ?_)
  · subst hz
    have hc := hw c (by rw [e]; simp)
    refine ⟨.inl (by decide), az_tin hc, ?_⟩
    refine hk _ ?_
    rw [num_snoc, az_idx hc, Int.mul_comm]
  · subst hz
    refine ⟨s1, Cl.val (wat_ok (by omega) a1 a2 rfl) ⟨fun _ => rfl, fun hb => ?_, fun _ => ⟨s1, s1, ?_⟩⟩⟩
    · rw [wat_num w hw] at hb
      simp at hb
    · refine ClD.here (word_ok (by omega) (by omega) (by omega) (by decide) (by decide) fun y hy h1 h2 => ?_)
      have hyl : w.length = y.length := by omega
      have hya : Az y := fun c hc => by
        have := hy c hc
        rw [show (tx "axyz" : Txt) = [97, 120, 121, 122] from rfl] at this
        simp only [List.mem_cons, List.not_mem_nil, or_false] at this
        omega
      obtain ⟨b1, b2⟩ := num_ge y hya
      rw [← hyl] at b2
      refine Cl.val (bet_ok hw hya hyl (by omega) rfl) ?_
      have hm := num_wat w.length ((num w + num y) / 2) (by omega) (by omega)
      refine Cl.val (num_ok (wat_az _ _) rfl) ?_
      rw [hm]
      refine ⟨.inl (by decide), Cl.val (num_ok hya rfl) (Cl.val (num_ok hya rfl) ⟨fun _ => ⟨by rw [wat_len]; exact s1, s1, rfl⟩, fun hb => ?_, fun _ => rest4 q⟩)⟩
      rw [Bool.or_eq_true, wat_len, niL_iff] at hb
      rcases hb with hb | hb
      · refine absurd ?_ hb
        simp only [List.mem_cons, List.not_mem_nil, or_false]
        omega
      · exact absurd rfl (of_decide_eq_true hb)
theorem rest12 {w : Txt} {Q : Bool → Prop} (hw : Az w) (hl : w.length ≤ 6) (q : Q true) : law_rest1_w12 w Q := by
  refine ClD.roll (by decide) (by decide) fun r _ _ => ?_
  obtain ⟨h1, h2, h3⟩ := sh_parts hw (by omega) (r - 30)
  refine Cl.val (sh_ok hw (by omega) rfl) ⟨h1, h2, h3, fun hb => ?_, fun _ => ?_⟩
  · have hb := of_decide_eq_true hb
    refine absurd ?_ hb
    show sh w (r - 30) = joinT [] ((sg w).map fun x => ixS AZ ((idxT AZ x + (r - 30)) % 26))
    rw [sh_eq hw, join_sg]
  · refine Cl.val (sh_ok hw (by omega) rfl) (Cl.val (sh_ok (sh_az _ _) (by rw [sh_len]; omega) rfl) ⟨fun hb => ?_, fun _ => rest10 hw hl q⟩)
    exact absurd (sh_back hw _) (of_decide_eq_true hb)
end K01
set_option maxHeartbeats 4000000
namespace K01
open PySem L2 Sp
open PySem.W (DatumOrd)
/-! vowels and others -/
def isV (c : Nat) : Bool := decide (c ∈ (tx "aeiou" : Txt))
def marks (w : Txt) : Txt := w.map fun c => if isV c = true then 118 else 99
theorem pat_eq {w : Txt} (vs : Txt) (h : ∀ c ∈ w, tin [c] vs = isV c) : ((sg w).map fun x => if tin x vs = true then (tx "v" : Txt) else tx "c") = sg (marks w) := by
  unfold sg marks
  rw [List.map_map, List.map_map]
  apply List.map_congr_left
  intro c hc
  show (if tin [c] vs = true then (tx "v" : Txt) else tx "c") = [if isV c = true then 118 else 99]
  rw [h c hc]
  cases isV c <;> rfl
theorem tin_v (c : Nat) : tin [c] (tx "aeiou") = isV c := tin_one c _
theorem tin_ae {c : Nat} (h : c ∈ ([97, 98, 99, 101] : Txt)) : tin [c] (tx "ae") = isV c := by
  rw [tin_one]
  simp only [List.mem_cons, List.not_mem_nil, or_false] at h
  rcases h with rfl | rfl | rfl | rfl <;> rfl
theorem marks_len (w : Txt) : (marks w).length = w.length := by simp [marks]
theorem pat_ok {w : Txt} {Q : Txt → Prop} {E : Ex → Prop} (hl : w.length ≤ 1000) (q : Q (marks w)) : pattern_of_W (w, ()) Q E := by
  have e := pat_eq (w := w) (tx "aeiou") fun c _ => tin_v c
  refine ⟨by show (sg w).length ≤ _; rw [sg_len]; exact sl (by omega), fun x _ => ⟨fun _ => rfl, fun _ => rfl, rfl⟩, ?_, ?_⟩
  · show lenSum ((sg w).map fun x => if tin x (tx "aeiou") = true then (tx "v" : Txt) else tx "c") + List.length ((sg w).map fun x => if tin x (tx "aeiou") = true then (tx "v" : Txt) else tx "c") * List.length (tx "") ≤ _
    refine join_ok ?_
    rw [e, lenSum_chars, marks_len]; omega
  · show Q (joinT [] ((sg w).map fun x => if tin x (tx "aeiou") = true then (tx "v" : Txt) else tx "c"))
    rw [e, join_sg]
    exact q
/-! groups of vowels -/
def rs (b : Bool) : Txt → Nat
  | [] => 0
  | a :: x => (if isV a = true ∧ b = false then 1 else 0) + rs (isV a) x
def lastV (b : Bool) (l : Txt) : Bool := l.foldl (fun _ a => isV a) b
theorem rs_snoc (x : Nat) : ∀ (l : Txt) (b : Bool), rs b (l ++ [x]) = rs b l + (if isV x = true ∧ lastV b l = false then 1 else 0)
  | [], b => by cases hb : isV x <;> cases b <;> simp [rs, lastV, hb]
  | a :: l, b => by
    rw [List.cons_append, rs, rs, rs_snoc x l (isV a)]
    show _ = _ + rs (isV a) l + (if isV x = true ∧ lastV (isV a) l = false then 1 else 0)
    omega
theorem lastV_snoc (b : Bool) (l : Txt) (y : Nat) : lastV b (l ++ [y]) = isV y := by unfold lastV; rw [List.foldl_append]; rfl
def cnd (w : Txt) (x : Int × Txt) : Bool := (tin x.2 (tx "aeiou")) && ((decide (x.1 = (0 : Int))) || (!tin (ixS w (x.1 - (1 : Int))) (tx "aeiou")))
theorem enum_snoc (l : Txt) (x : Nat) : enumD (sg (l ++ [x])) = enumD (sg l) ++ [((l.length : Int), [x])] := by
  unfold enumD
  rw [sg_app, List.mapIdx_append]
  simp [sg]
theorem beats_cnt : ∀ w : Txt, ((enumD (sg w)).filter (cnd w)).length = rs false w := by
  refine snocInd ?_ ?_
  · rfl
  · intro l x ih
    rw [enum_snoc, List.filter_append, List.length_append, rs_snoc]
    have e1 : (enumD (sg l)).filter (cnd (l ++ [x])) = (enumD (sg l)).filter (cnd l) := by
      apply List.filter_congr
      intro y hy
      obtain ⟨i, hi⟩ := List.getElem?_of_mem hy
      obtain ⟨hlt, rfl⟩ := enum_at hi
      unfold cnd
      by_cases h0 : i = 0
      · subst h0; rfl
      · have e : (i : Int) - 1 = ((i - 1 : Nat) : Int) := by omega
        simp only [e]
        rw [ixS_app (by omega)]
    rw [e1, ih]
    congr 1
    have e2 : cnd (l ++ [x]) ((l.length : Int), [x]) = (isV x && !lastV false l) := by
      unfold cnd
      simp only [tin_v]
      congr 1
      rcases List.eq_nil_or_concat l with rfl | ⟨l', y, rfl⟩
      · rfl
      · rw [List.concat_eq_append, lastV_snoc]
        have e3 : (((l' ++ [y]).length : Nat) : Int) - 1 = (l'.length : Int) := by simp
        have e4 : decide ((((l' ++ [y]).length : Nat) : Int) = 0) = false := by rw [decide_eq_false_iff_not]; simp; omega
        rw [e4, e3, Bool.false_or, ixS_app (by simp), ixS_nat (by simp)]
        simp [tin_v]
    rw [List.filter_cons, List.filter_nil, e2]
    cases isV x <;> cases lastV false l <;> simp
theorem ones_sum {α : Type} : ∀ l : List α, (l.map fun _ => (1 : Int)).sum = l.length
  | [] => rfl
  | _ :: l => by rw [List.map_cons, List.sum_cons, ones_sum l, List.length_cons]; omega
theorem ones_ok {α : Type} (l : List α) (h : l.length ≤ 1000) : SumOk (l.map fun _ => (1 : Int)) := by
  intro j hj
  rw [List.length_map] at hj
  rw [← List.map_take, ones_sum, List.length_take, List.getD_eq_getElem?_getD, List.getElem?_map, List.getElem?_eq_getElem hj]
  constructor
  · show InLong 1
    unfold InLong
    omega
  · unfold InLong
    omega
theorem beats_ok {w : Txt} {Q : Int → Prop} {E : Ex → Prop} (hl : w.length ≤ 1000) (q : Q (max 1 (rs false w : Int))) : beats_W (w, ()) Q E := by
  show beats_w w Q E
  have s1 : w.length ≤ sizeLine := sl (by omega)
  have hf : ((enumD (sg w)).filter (cnd w)).length ≤ 1000 := Nat.le_trans (List.length_filter_le _ _) (by rw [enum_len]; omega)
  refine ⟨rfl, fun x hx => ⟨fun _ => ⟨fun h0 => ⟨s1, ?_, rfl⟩, rfl⟩, rfl⟩, fun _ _ _ => rfl, ?_, ?_⟩
  · obtain ⟨i, hi⟩ := List.getElem?_of_mem hx
    obtain ⟨hlt, rfl⟩ := enum_at hi
    have := of_decide_eq_false h0
    simp only at this
    show inR w.length ((i : Int) - 1)
    unfold inR
    omega
  · exact ones_ok ((enumD (sg w)).filter (cnd w)) hf
  · show Q (max (1 : Int) ((((enumD (sg w)).filter (cnd w)).map fun _ => (1 : Int)).sum))
    rw [ones_sum, beats_cnt]
    exact q
/-! pieces between the others -/
def rc (b : Bool) : Txt → Nat
  | [] => 0
  | a :: x => (if a ≠ 99 ∧ b = false then 1 else 0) + rc (decide (a ≠ 99)) x
theorem rc_marks : ∀ (w : Txt) (b : Bool), rc b (marks w) = rs b w
  | [], _ => rfl
  | a :: w, b => by
    rw [rs]
    by_cases h : isV a = true
    · have e : marks (a :: w) = 118 :: marks w := by unfold marks; rw [List.map_cons, if_pos h]
      rw [e, rc, rc_marks w, h]
      simp
    · have e : marks (a :: w) = 99 :: marks w := by unfold marks; rw [List.map_cons, if_neg h]
      rw [e, rc, rc_marks w, Bool.eq_false_iff.mpr h]
      simp
theorem rc_free : ∀ (p : Txt) (b : Bool), 99 ∉ p → rc b p = if p ≠ [] ∧ b = false then 1 else 0
  | [], b, _ => by simp [rc]
  | a :: p, b, h => by
    have ha : a ≠ 99 := fun e => h (by rw [e]; simp)
    rw [rc, rc_free p _ fun q => h (List.mem_cons_of_mem _ q)]
    cases b <;> simp [ha]
theorem rc_app (y : Txt) : ∀ (p : Txt) (b : Bool), 99 ∉ p → rc b (p ++ 99 :: y) = (if p ≠ [] ∧ b = false then 1 else 0) + rc false y
  | [], b, _ => by simp [rc]
  | a :: p, b, h => by
    have ha : a ≠ 99 := fun e => h (by rw [e]; simp)
    rw [List.cons_append, rc, rc_app y p _ fun q => h (List.mem_cons_of_mem _ q)]
    cases b <;> simp [ha]
theorem rc_join : ∀ ps : List Txt, (∀ p ∈ ps, 99 ∉ p) → (ps.filter fun x => decide (x ≠ (tx "" : Txt))).length = rc false (joinT [99] ps)
  | [], _ => rfl
  | [p], h => by
    show _ = rc false p
    rw [rc_free p false (h p List.mem_cons_self), List.filter_cons, List.filter_nil, tx0]
    by_cases e : p = [] <;> simp [e]
  | p :: q :: r, h => by
    show _ = rc false (p ++ [99] ++ joinT [99] (q :: r))
    rw [List.append_assoc, List.singleton_append, rc_app _ p false (h p List.mem_cons_self), ← rc_join (q :: r) fun x hx => h x (List.mem_cons_of_mem _ hx), List.filter_cons, tx0]
    by_cases e : p = []
    · simp [e]
    · rw [if_pos (by simpa using e), List.length_cons, if_pos ⟨e, rfl⟩]; omega
theorem split_free' {m p : Txt} (h : p ∈ splitT m [99]) : 99 ∉ p := by
  unfold splitT at h
  obtain ⟨x, hx, rfl⟩ := List.mem_map.mp h
  exact StrLaws.split_free (toStr m) 99 x hx
theorem join_str (y : Str) : ∀ ps : List Str, tx (Str.join y ps) = joinT (tx y) (ps.map tx)
  | [] => rfl
  | [x] => rfl
  | x :: z :: r => by
    show tx (x ++ y ++ Str.join y (z :: r)) = tx x ++ tx y ++ joinT (tx y) ((z :: r).map tx)
    rw [← join_str y (z :: r)]
    show (x.cps ++ y.cps ++ (Str.join y (z :: r)).cps).toList = x.cps.toList ++ y.cps.toList ++ (Str.join y (z :: r)).cps.toList
    simp
theorem split_join (m : Txt) : joinT [99] (splitT m [99]) = m := by
  have h := congrArg tx (StrLaws.join_split (toStr m) (toStr [99]))
  rw [join_str] at h
  exact h
theorem split_len' (m : Txt) : (splitT m [99]).length ≤ m.length + 2 := by
  unfold splitT
  rw [List.length_map]
  have := PyProof.Rows.split_le (toStr m) (toStr [99])
  rwa [toStr_len] at this
theorem split_cnt (w : Txt) : ((splitT (marks w) (tx "c")).filter fun x => decide (x ≠ (tx "" : Txt))).length = rs false w := by
  show ((splitT (marks w) [99]).filter fun x => decide (x ≠ (tx "" : Txt))).length = _
  rw [rc_join _ fun p hp => split_free' hp, split_join, rc_marks]
theorem step5 {u : Txt × Txt} {ws : List Txt} {Q : Bool → Prop} {E : Ex → Prop} (h4 : ∀ c ∈ u.1, c ∈ ([97, 98, 99, 101] : Txt)) (hl : u.1.length ≤ 6) (h : law_w3 u ws Q E) : law_w5 u ws Q E := by
  have e := pat_eq (w := u.1) (tx "ae") fun c hc => tin_ae (h4 c hc)
  unfold law_w5
  refine ⟨by show (sg u.1).length ≤ _; rw [sg_len]; exact sl (by omega), fun x _ => ⟨fun _ => rfl, fun _ => rfl, rfl⟩, ?_, ?_⟩
  · refine join_ok ?_
    show lenSum ((sg u.1).map fun x => if tin x (tx "ae") = true then (tx "v" : Txt) else tx "c") ≤ _
    rw [e, lenSum_chars, marks_len]; omega
  · show law_w4 u ws (joinT [] ((sg u.1).map fun x => if tin x (tx "ae") = true then (tx "v" : Txt) else tx "c")) Q E
    rw [e, join_sg]
    have hml := marks_len u.1
    have hsl := split_len' (marks u.1)
    refine Cl.val (pat_ok (by omega) rfl) ⟨fun hb => absurd rfl (of_decide_eq_true hb), fun _ => Cl.val (beats_ok (by omega) rfl) ⟨⟨by decide, sl (by omega)⟩, sl (by show (splitT (marks u.1) [99]).length ≤ _; omega), fun _ _ => rfl, fun _ _ _ => rfl, fun hb => ?_, fun _ => h⟩⟩
    refine absurd ?_ (of_decide_eq_true hb)
    rw [List.map_id', split_cnt]
end K01
set_option maxHeartbeats 4000000
namespace K01
open PySem L2 Sp
open PySem.W (DatumOrd)
/-! words of the same letters -/
abbrev key (w : Txt) : Txt := sletters w
def rowK (U : List Txt) (k : Txt) : List Txt := U.filter fun w => decide (key w = k)
theorem sg_flat : ∀ {xs : List Txt}, (∀ x ∈ xs, ∃ c : Nat, x = [c]) → sg xs.flatten = xs
  | [], _ => rfl
  | x :: xs, h => by
    obtain ⟨c, rfl⟩ := h x List.mem_cons_self
    rw [List.flatten_cons, sg_app, sg_flat fun y hy => h y (List.mem_cons_of_mem _ hy)]
    rfl
theorem srt_sg (w : Txt) : srt (sg w) = sg (key w) := by
  unfold key sletters
  rw [sg_flat]
  intro x hx
  obtain ⟨c, _, e⟩ := sg_mem'.mp (srt_mem.mp hx)
  exact ⟨c, e⟩
theorem key_iff (a b : Txt) : decide (srt (a.map fun c => [c]) = srt (b.map fun c => [c])) = decide (key a = key b) := by
  show decide (srt (sg a) = srt (sg b)) = _
  rw [srt_sg, srt_sg]
  by_cases h : key a = key b
  · rw [decide_eq_true h, h, decide_eq_true rfl]
  · rw [decide_eq_false h, decide_eq_false fun e => h (sg_inj e)]
/-! the rows that grow -/
section
variable {κ α : Type} [DecidableEq κ]
theorem grp_new (k : κ) (v : α) : ∀ m : List (κ × List α), k ∉ m.map (·.1) → grp m k v = m ++ [(k, [v])]
  | [], _ => rfl
  | p :: m, h => by
    rw [grp, if_neg fun e => h (by rw [← e]; simp), grp_new k v m fun q => h (List.mem_cons_of_mem _ q)]
    rfl
theorem grp_old (k : κ) (v : α) (g : κ → List α) : ∀ ks : List κ, ks.Nodup → k ∈ ks → grp (ks.map fun j => (j, g j)) k v = ks.map fun j => (j, if j = k then g j ++ [v] else g j)
  | [], _, h => by cases h
  | j :: ks, hn, h => by
    rw [List.map_cons, grp, List.map_cons]
    by_cases e : j = k
    · rw [if_pos e, if_pos e]
      congr 1
      apply List.map_congr_left
      intro i hi
      have : i ≠ k := fun q => (List.nodup_cons.mp hn).1 (by rw [e, ← q]; exact hi)
      rw [if_neg this]
    · rw [if_neg e, if_neg e, grp_old k v g ks (List.nodup_cons.mp hn).2 ((List.mem_cons.mp h).resolve_left fun q => e q.symm)]
theorem gval_le (k : κ) (g : κ → List α) : ∀ ks : List κ, (gval (ks.map fun j => (j, g j)) k).length ≤ (g k).length
  | [] => Nat.zero_le _
  | j :: ks => by
    rw [List.map_cons, gval]
    by_cases e : j = k
    · rw [if_pos e, e]; exact Nat.le_refl _
    · rw [if_neg e]; exact gval_le k g ks
theorem dval_map' (k : κ) (g : κ → List α) : ∀ ks : List κ, k ∈ ks → dval (ks.map fun j => (j, g j)) k = some (g k)
  | [], h => by cases h
  | j :: ks, h => by
    rw [List.map_cons, dval_cons]
    by_cases e : j = k
    · rw [if_pos e, e]
    · rw [if_neg e, dval_map' k g ks ((List.mem_cons.mp h).resolve_left fun q => e q.symm)]
end
def fnd (l : List Txt) : List (Txt × List Txt) := (uq (l.map key)).map fun k => (k, rowK l k)
theorem fnd_keys (l : List Txt) : (fnd l).map (·.1) = uq (l.map key) := by
  unfold fnd
  rw [List.map_map]
  exact List.map_id _
theorem rowK_snoc (l : List Txt) (x k : Txt) : rowK (l ++ [x]) k = if key x = k then rowK l k ++ [x] else rowK l k := by
  unfold rowK
  rw [List.filter_append, List.filter_cons, List.filter_nil]
  by_cases e : key x = k
  · rw [if_pos e, if_pos (decide_eq_true e)]
  · rw [if_neg e, if_neg (by simpa using e), List.append_nil]
theorem fnd_snoc (l : List Txt) (x : Txt) : grp (fnd l) (key x) x = fnd (l ++ [x]) := by
  have hk : (l ++ [x]).map key = l.map key ++ [key x] := by rw [List.map_append]; rfl
  by_cases h : key x ∈ uq (l.map key)
  · unfold fnd
    rw [hk, uq_snoc, if_pos h, grp_old (key x) x (rowK l) _ (uq_nodup _) h]
    apply List.map_congr_left
    intro k _
    rw [rowK_snoc]
    by_cases e : k = key x
    · rw [if_pos e, if_pos e.symm]
    · rw [if_neg e, if_neg fun q => e q.symm]
  · have e0 : rowK l (key x) = [] := by
      unfold rowK
      rw [List.filter_eq_nil_iff]
      intro w hw hd
      have := of_decide_eq_true hd
      exact h ((uq_mem _ _).mpr (List.mem_map.mpr ⟨w, hw, this⟩))
    rw [grp_new _ _ _ (by rw [fnd_keys]; exact h)]
    unfold fnd
    rw [hk, uq_snoc, if_neg h, List.map_append]
    congr 1
    · apply List.map_congr_left
      intro k hk2
      rw [rowK_snoc, if_neg fun q => h (by rw [q]; exact hk2)]
    · rw [List.map_cons, List.map_nil, rowK_snoc, if_pos rfl, e0]
      rfl
def big (U : List Txt) (k : Txt) : Bool := decide ((1 : Int) < ((rowK U k).length : Int))
def same (U : List Txt) : List (List Txt) := ((srt (uq (U.map key))).filter (big U)).map (rowK U)
theorem uq_len {α : Type} [DecidableEq α] (l : List α) : (uq l).length ≤ l.length := (uq_sub l).length_le
theorem uniq_len (ws : List Txt) : (uniq ws).length ≤ ws.length := nodup_len ws (uniq ws) (uniq_nodup ws) fun x hx => uniq_mem.mp hx
theorem same_ok {ws : List Txt} {Q : Tup (Tup Txt) → Prop} {E : Ex → Prop} (hn : ws.length ≤ 1000) (hl : ∀ w ∈ ws, w.length ≤ 1000) (q : Q ⟨(same (srt (uniq ws))).map PySem.W.Tup.mk⟩) : same_letters_W (ws, ()) Q E := by
  show same_letters_w3 ws Q E
  refine ⟨sl (by omega), fun _ _ => rfl, ?_⟩
  rw [uniq_eq]
  have hU : (srt (uniq ws)).length ≤ 1000 := by
    rw [srt_len]
    exact Nat.le_trans (uniq_len ws) hn
  have hUl : ∀ w ∈ srt (uniq ws), w.length ≤ 1000 := fun w hw => hl w (uniq_mem.mp (srt_mem.mp hw))
  generalize hUe : srt (uniq ws) = U at hU hUl q ⊢
  refine forW.inv (fun l z => z = fnd l) rfl (fun l x r z e hz => ?_) (fun z hz => ?_)
  · subst hz
    have hx : x ∈ U := by rw [e]; simp
    have hll : l.length ≤ 1000 := by rw [e, List.length_append] at hU; omega
    refine Cl.val (sletters_ok (hUl x hx) rfl) ⟨?_, ?_, fnd_snoc l x⟩
    · have h1 := uq_len (l.map key)
      rw [List.length_map] at h1
      have h2 : 1002 ≤ sizeLine := sl (by omega)
      unfold fnd
      rw [List.length_map]
      omega
    · have h1 := gval_le (sletters x) (rowK l) (uq (l.map key))
      have h2 : (rowK l (sletters x)).length ≤ l.length := List.length_filter_le _ _
      have h3 : 1002 ≤ sizeLine := sl (by omega)
      show (gval (fnd l) (sletters x)).length < _
      unfold fnd
      omega
  · subst hz
    have hks : (srt ((Dct.mk (fnd U)).kvs.map (·.1))) = srt (uq (U.map key)) := by
      show srt ((fnd U).map (·.1)) = _
      rw [fnd_keys]
    unfold same_letters_w2
    rw [hks]
    have hd : ∀ k ∈ srt (uq (U.map key)), dhas (Dct.mk (fnd U)).kvs k = true ∧ dgt (Dct.mk (fnd U)).kvs k = rowK U k := fun k hk => by
      have hk := srt_mem.mp hk
      refine ⟨by rw [dhas_iff]; show k ∈ (fnd U).map (·.1); rw [fnd_keys]; exact hk, ?_⟩
      show (dval (fnd U) k).getD default = _
      unfold fnd
      rw [dval_map' k (rowK U) _ hk]
      rfl
    refine ⟨?_, fun k hk => ⟨(hd k hk).1, rfl⟩, fun k hk _ => ⟨(hd k hk).1, rfl⟩, ?_⟩
    · rw [srt_len]
      have h1 := uq_len (U.map key)
      rw [List.length_map] at h1
      exact sl (by omega)
    · have e1 : ((srt (uq (U.map key))).filter fun k => decide ((1 : Int) < (List.length (dgt (Dct.mk (fnd U)).kvs k) : Int))) = (srt (uq (U.map key))).filter (big U) := by
        apply List.filter_congr
        intro k hk
        rw [(hd k hk).2]
        rfl
      rw [e1]
      have e2 : (((srt (uq (U.map key))).filter (big U)).map fun k => PySem.W.Tup.mk (dgt (Dct.mk (fnd U)).kvs k)) = (same U).map PySem.W.Tup.mk := by
        unfold same
        rw [List.map_map]
        apply List.map_congr_left
        intro k hk
        rw [(hd k (List.mem_filter.mp hk).1).2]
        rfl
      show Q ⟨((srt (uq (U.map key))).filter (big U)).map fun k => PySem.W.Tup.mk (dgt (Dct.mk (fnd U)).kvs k)⟩
      rw [e2]
      exact q
/-! the law's way -/
def pr (U : List Txt) (k : Txt) : List Txt × List Txt := (sg k, rowK U k)
theorem pr_inj {U : List Txt} {a b : Txt} (h : pr U a = pr U b) : a = b := sg_inj (congrArg Prod.fst h)
theorem due_eq (U : List Txt) : uq (srt (((U.map key).filter (big U)).map (pr U))) = ((srt (uq (U.map key))).filter (big U)).map (pr U) := by
  refine sorted_eq ((srt_sorted _).sublist (uq_sub _)) ?_ ((List.perm_ext_iff_of_nodup (uq_nodup _) ?_).mpr fun p => ?_)
  · rw [List.pairwise_map]
    refine ((srt_sorted (uq (U.map key))).sublist List.filter_sublist).imp fun {a b} h => ?_
    by_cases e : a = b
    · rw [e]; exact Lin.irr _
    · refine Lin.asym ?_
      show (if sg a = sg b then DatumOrd.lt (rowK U a) (rowK U b) else DatumOrd.lt (sg a) (sg b)) = true
      rw [if_neg fun q => e (sg_inj q), lt_sg]
      exact Lin.lt_of h e
  · rw [List.Nodup, List.pairwise_map]
    have h : (srt (uq (U.map key))).Nodup := (srt_perm _).nodup_iff.mpr (uq_nodup _)
    exact (h.sublist List.filter_sublist).imp fun {a b} hne e => hne (pr_inj e)
  · rw [uq_mem, srt_mem, List.mem_map, List.mem_map]
    constructor
    · rintro ⟨k, hk, rfl⟩
      obtain ⟨h1, h2⟩ := List.mem_filter.mp hk
      exact ⟨k, List.mem_filter.mpr ⟨srt_mem.mpr ((uq_mem _ _).mpr h1), h2⟩, rfl⟩
    · rintro ⟨k, hk, rfl⟩
      obtain ⟨h1, h2⟩ := List.mem_filter.mp hk
      exact ⟨k, List.mem_filter.mpr ⟨(uq_mem _ _).mp (srt_mem.mp h1), h2⟩, rfl⟩
theorem groups_eq (U : List Txt) : (U.map fun f => (U.filter fun w => decide (srt (w.map fun c => [c]) = srt (f.map fun c => [c]))).map fun w => w) = (U.map key).map (rowK U) := by
  rw [List.map_map]
  apply List.map_congr_left
  intro f _
  show ((U.filter fun w => decide (srt (w.map fun c => [c]) = srt (f.map fun c => [c]))).map fun w => w) = rowK U (key f)
  rw [List.map_id']
  unfold rowK
  congr 1
  funext w
  exact key_iff w f
theorem pairs_eq (U : List Txt) : ((((U.map key).map (rowK U)).filter fun x => decide ((1 : Int) < (x.length : Int))).map fun x => (srt ((ixD x (0 : Int)).map fun c => [c]), x)) = ((U.map key).filter (big U)).map (pr U) := by
  rw [List.filter_map, List.map_map]
  apply List.map_congr_left
  intro k hk
  have hb := of_decide_eq_true (List.mem_filter.mp hk).2
  have hb : (1 : Int) < ((rowK U k).length : Int) := hb
  show (srt (sg (ixD (rowK U k) (0 : Int))), rowK U k) = (sg k, rowK U k)
  have hm : ixD (rowK U k) (0 : Int) ∈ rowK U k := ixD_mem (by omega) (by omega)
  have := of_decide_eq_true (List.mem_filter.mp hm).2
  rw [srt_sg, this]
theorem step15 {u : Txt × Txt} {ws : List Txt} {U : List Txt} {Q : Bool → Prop} {E : Ex → Prop} (hU : srt (uniq ws) = U) (hn : ws.length ≤ 6) (hl : ∀ w ∈ ws, w.length ≤ 1000) (h : law_w14 u ws Q E) : law_w15 u ws (srt (((U.map key).filter (big U)).map (pr U))) Q E := by
  have hUl : U.length ≤ 6 := by
    rw [← hU, srt_len]
    exact Nat.le_trans (uniq_len ws) hn
  refine Cl.val (same_ok (by omega) hl rfl) ?_
  rw [hU]
  have hlaw := uq_law (srt (((U.map key).filter (big U)).map (pr U)))
  rw [due_eq] at hlaw
  have hdl : (srt (((U.map key).filter (big U)).map (pr U))).length ≤ 6 := by
    rw [srt_len, List.length_map]
    refine Nat.le_trans (List.length_filter_le _ _) ?_
    rw [List.length_map]
    exact hUl
  generalize srt (((U.map key).filter (big U)).map (pr U)) = D at hlaw hdl ⊢
  rw [tn]
  have hin : ∀ x ∈ rng D.length, inR D.length x := fun x hx => by
    have := rng_mem.mp hx
    unfold inR
    omega
  refine ⟨?_, fun _ _ => rfl, ⟨by omega, by omega⟩, by rw [rng_len]; exact sl (by omega), fun x hx => ⟨hin x hx, rfl⟩, fun x hx _ => ⟨hin x hx, rfl⟩, fun hb => ?_, fun _ => h⟩
  · show ((same U).map PySem.W.Tup.mk).length ≤ _
    rw [List.length_map]
    unfold same
    rw [List.length_map]
    have h1 := List.length_filter_le (big U) (srt (uq (U.map key)))
    rw [srt_len] at h1
    have h2 := uq_len (U.map key)
    rw [List.length_map] at h2
    exact sl (by omega)
  · refine absurd ?_ (of_decide_eq_true hb)
    have e := congrArg (fun l => l.map Prod.snd) hlaw
    simp only [List.map_map] at e
    show (((same U).map PySem.W.Tup.mk).map fun x => x.items) = _
    rw [List.map_map]
    show ((same U).map fun x => x) = (((rng D.length).filter fun k => niL (ixD D k) (cutD D none (some k))).map fun k => (ixD D k).2)
    rw [List.map_id']
    refine Eq.trans ?_ e.symm
    rfl
theorem step17 {u : Txt × Txt} {ws : List Txt} {Q : Bool → Prop} {E : Ex → Prop} (hn : ws.length ≤ 6) (hl : ∀ w ∈ ws, w.length ≤ 4) (h : law_w14 u ws Q E) : law_w17 u ws (srt (uniq ws)) Q E := by
  have hUl : (srt (uniq ws)).length ≤ 6 := by
    rw [srt_len]
    exact Nat.le_trans (uniq_len ws) hn
  have hm : ∀ w ∈ srt (uniq ws), w.length ≤ 4 := fun w hw => hl w (uniq_mem.mp (srt_mem.mp hw))
  have hs : ∀ w ∈ srt (uniq ws), w.length ≤ sizeLine := fun w hw => sl (by have := hm w hw; omega)
  have h15 := step15 (u := u) (Q := Q) (E := E) rfl hn (fun w hw => by have := hl w hw; omega) h
  generalize srt (uniq ws) = U at hUl hm hs h15 ⊢
  have sU : U.length ≤ sizeLine := sl (by omega)
  refine ⟨sU, fun x hx => ⟨sU, fun y hy => ⟨hs y hy, hs x hx, rfl⟩, fun _ _ _ => rfl, rfl⟩, ?_⟩
  rw [groups_eq]
  have hmem : ∀ k : Txt, ∀ w ∈ rowK U k, w ∈ U := fun k w hw => (List.mem_filter.mp hw).1
  refine ⟨by rw [List.length_map, List.length_map]; exact sU, fun _ _ => rfl, fun x hx hb => ?_, ?_⟩
  · obtain ⟨k, _, rfl⟩ := List.mem_map.mp hx
    have hb := of_decide_eq_true hb
    refine ⟨by unfold inR; omega, ?_, rfl⟩
    exact hs _ (hmem k _ (ixD_mem (by omega) (by omega)))
  · rw [pairs_eq]
    exact h15
end K01
set_option maxHeartbeats 4000000
namespace K01
open PySem L2 Sp
open PySem.W (DatumOrd)
abbrev T : Bool → Prop := fun b => b = true
theorem nt {p : Prop} {x : Bool} (h : x = true → p) : x = true → p := h
theorem abce_az {w : Txt} (h : ∀ c ∈ w, c ∈ ([97, 98, 99, 101] : Txt)) : Az w := fun c hc => by
  have := h c hc
  simp only [List.mem_cons, List.not_mem_nil, or_false] at this
  omega
theorem rest16 {one other : Txt} (h4 : ∀ c ∈ one, c ∈ ([97, 98, 99, 101] : Txt)) (h1 : one.length ≤ 6) (h2 : other.length ≤ 6) : law_rest1_w16 one other T := by
  have hpl := parts_len one
  have hp36 : one.length * one.length ≤ 6 * 6 := Nat.mul_le_mul h1 h1
  have hpm : ∀ p ∈ parts one, p ≠ [] := fun p hp => (parts_mem hp).1
  refine Cl.val (parts_ok (by omega) rfl) ⟨sl (by omega), fun _ _ => rfl, fun _ _ _ => rfl, ?_⟩
  have hfl : ((parts one).filter fun x => tin x other).length ≤ 36 := Nat.le_trans (List.length_filter_le _ _) (by omega)
  rw [List.map_id']
  have hps : ∀ x ∈ (parts one).filter (fun x => tin x other), x.length ≤ sizeLine := fun x hx => sl (by have := (parts_mem (List.mem_filter.mp hx).1).2; omega)
  refine ⟨Nat.le_trans hfl (by decide), fun x hx => ⟨hps x hx, rfl⟩, ?_, by simp, ?_⟩
  · rw [List.length_map]
    show 1 + _ ≤ _
    exact Nat.le_trans (Nat.add_le_add_left hfl 1) (by decide)
  · have hf2 : ∀ m : Int, ((((parts one).filter fun x => tin x other).filter fun x => decide ((x.length : Int) = m)).map fun x => x).length ≤ 36 := fun m => by
      rw [List.length_map]
      exact Nat.le_trans (List.length_filter_le _ _) hfl
    refine Cl.val (lshare_ok (by omega) rfl) ⟨Nat.le_trans hfl (by decide), fun x hx => ⟨hps x hx, rfl⟩, fun _ _ _ => rfl, ?_, ?_, fun hb => ?_, fun _ => rest13 h1 h2 (rest12 (abce_az h4) h1 rfl)⟩
    · show _ + 1 ≤ _
      exact Nat.le_trans (Nat.add_le_add_right (hf2 _) 1) (by decide)
    · unfold inR
      rw [List.length_append]
      show _ ∧ (0 : Int) < ((_ + 1 : Nat) : Int)
      omega
    · refine absurd ?_ (of_decide_eq_true hb)
      exact (first_law0 (ps := parts one) (ok := fun p => tin p other) hpm).symm
theorem step1 {u : Txt × Txt} {ws : List Txt} (d : Dr u.1 u.2 ws) : law_w1 u ws T :=
  ⟨fun b => b = true, rest0 d (rest16 d.o4 d.ol d.pl), fun r hr => by
    subst hr
    exact ⟨fun h => absurd h (by decide), fun _ => rfl⟩⟩
theorem step6 {u : Txt × Txt} {ws : List Txt} (d : Dr u.1 u.2 ws) : law_w8 u ws T NoE := by
  have ol := d.ol
  have o1 := d.o1
  have hpl := parts_len u.1
  have hp36 : u.1.length * u.1.length ≤ 6 * 6 := Nat.mul_le_mul ol ol
  have hpm : ∀ p ∈ parts u.1, p ≠ [] := fun p hp => (parts_mem hp).1
  have hps : ∀ x ∈ parts u.1, x.length ≤ sizeLine := fun x hx => sl (by have := (parts_mem hx).2; omega)
  have eok : (fun x45 : Txt => decide ((x45.map fun c => [c]) = (x45.reverse.map fun c => [c]))) = pal := by
    funext x
    unfold pal
    by_cases e : x = x.reverse
    · rw [decide_eq_true e, decide_eq_true (by rw [← e])]
    · rw [decide_eq_false e, decide_eq_false fun q => e (sg_inj q)]
  refine Cl.val (parts_ok (by omega) rfl) ⟨sl (by omega), fun x hx => ⟨hps x hx, hps x hx, rfl⟩, fun _ _ _ => rfl, ?_⟩
  rw [eok, List.map_id']
  have hfl : ((parts u.1).filter pal).length ≤ 36 := Nat.le_trans (List.length_filter_le _ _) (by omega)
  have hps2 : ∀ x ∈ (parts u.1).filter pal, x.length ≤ sizeLine := fun x hx => hps x (List.mem_filter.mp hx).1
  have hne : (parts u.1).filter pal ≠ [] := by
    have h0 : pt u.1 0 0 ∈ parts u.1 := by
      unfold parts
      refine List.mem_flatten.mpr ⟨row u.1 0, List.mem_map.mpr ⟨0, List.mem_range.mpr (by omega), rfl⟩, ?_⟩
      unfold row
      exact List.mem_map.mpr ⟨0, List.mem_range.mpr (by omega), rfl⟩
    have hl0 : (pt u.1 0 0).length = 1 := pt_len (by omega)
    have : pt u.1 0 0 ∈ (parts u.1).filter pal := List.mem_filter.mpr ⟨h0, by
      obtain ⟨c, hc⟩ := List.length_eq_one_iff.mp hl0
      rw [hc]
      unfold pal
      exact decide_eq_true rfl⟩
    intro e
    rw [e] at this; cases this
  have hfirst := first_law (ps := parts u.1) (ok := pal) hpm hne
  refine ⟨Nat.le_trans hfl (by decide), fun x hx => ⟨hps2 x hx, rfl⟩, by simpa using hne, ?_⟩
  refine Cl.val (lback_ok (by omega) rfl) ⟨Nat.le_trans hfl (by decide), fun x hx => ⟨hps2 x hx, rfl⟩, fun _ _ _ => rfl, hfirst.2, fun hb => ?_, fun _ => step5 d.o4 ol (step3 d (step1 d))⟩
  exact absurd hfirst.1.symm (of_decide_eq_true hb)
theorem step9 {u : Txt × Txt} {ws : List Txt} (d : Dr u.1 u.2 ws) : law_w9 u ws T NoE := by
  have ol := d.ol
  have s1 : u.1.length ≤ sizeLine := sl (by omega)
  refine Cl.val (back_ok (by omega) rfl) ⟨s1, s1, fun hb => ?_, fun _ => step6 d⟩
  refine absurd ?_ (of_decide_eq_true hb)
  by_cases e : u.1 = u.1.reverse
  · rw [decide_eq_true e, decide_eq_true (by rw [← e])]
  · rw [decide_eq_false e, decide_eq_false fun q => e (sg_inj q)]
theorem step10 {u : Txt × Txt} {ws : List Txt} (d : Dr u.1 u.2 ws) : law_w11 u ws T NoE := by
  have ol := d.ol
  have s1 : u.1.length ≤ sizeLine := sl (by omega)
  have hr := firsts_eq u.1
  unfold law_w11
  rw [tn, hr]
  have h4 := seen_len d.o4
  have hin : ∀ x ∈ rng u.1.length, inR u.1.length x := fun x hx => by
    have := rng_mem.mp hx
    unfold inR
    omega
  refine ⟨s1, ⟨by omega, by omega⟩, by rw [rng_len]; exact s1, fun x hx => ⟨s1, hin x hx, s1, rfl⟩, fun x hx _ => ⟨s1, hin x hx, rfl⟩, ?_⟩
  refine Cl.val (shape_ok d.o4 (by omega) rfl) ⟨by show (sg u.1).length ≤ _; rw [sg_len]; exact s1, fun x hx => ?_, join_ok ?_, fun hb => ?_, fun _ => step9 d⟩
  · obtain ⟨c, hc, rfl⟩ := sg_mem'.mp hx
    have := idx_lt hc
    refine ⟨sg_mem.mpr ((seen_mem u.1 c).mpr hc), by decide, ?_, rfl⟩
    show inR 4 _
    rw [sg_idx]
    unfold inR
    omega
  · show lenSum ((sg u.1).map fun x => ixS (tx "abcd") (idx (sg (seenOf u.1)) x : Int)) ≤ _
    rw [lenSum_ones (fun x hx => by obtain ⟨y, _, rfl⟩ := List.mem_map.mp hx; rfl), List.length_map, sg_len]; omega
  · refine absurd ?_ (of_decide_eq_true hb)
    show shapeOf u.1 = joinT [] _
    rw [joinT_nil]
    rfl
theorem step14 {u : Txt × Txt} {ws : List Txt} (d : Dr u.1 u.2 ws) : law_w14 u ws T NoE := by
  refine ClD.here (word_ok (by decide) (by decide) (by decide) (by decide) (by decide) fun h hm h0 h6 => ?_)
  refine ⟨by decide, fun _ _ => rfl, ?_⟩
  rw [lack_sum]
  refine Cl.val (cbm_ok d.o4 (by omega) rfl) ⟨fun hb => ?_, fun _ => step10 d⟩
  refine absurd ?_ (of_decide_eq_true hb)
  rw [show (tx "?" : Txt) = [63] from rfl, cntT_one]
theorem step20 {u : Txt × Txt} {ws : List Txt} (d : Dr u.1 u.2 ws) : law_w20 u ws T NoE := by
  have ol := d.ol
  have s1 : u.1.length ≤ sizeLine := sl (by omega)
  have sS : List.length (u.1.map fun c => [c]) ≤ sizeLine := by rw [List.length_map]; exact s1
  refine Cl.val (lin_ok rfl) ⟨by decide, fun _ _ => rfl, fun _ _ _ => ⟨sS, fun _ _ => rfl, fun _ _ _ => rfl, rfl⟩, fun hb => ?_, fun _ => ?_⟩
  · exact absurd (lin_abce d.o4) (of_decide_eq_true hb)
  · refine Cl.val (sletters_ok (by omega) rfl) ⟨s1, join_ok ?_, fun hb => ?_, fun _ => ?_⟩
    · rw [lenSum_perm (srt_perm _), lenSum_chars]; omega
    · refine absurd ?_ (of_decide_eq_true hb)
      show sletters u.1 = joinT [] _
      rw [joinT_nil]
      rfl
    · have ht : ((rng u.1.length).map fun x18 => ixS u.1 (((u.1.length : Int) - (1 : Int)) - x18)) = sg u.1.reverse := by
        apply List.ext_getElem
        · simp [rng]
        · intro i h1 h2
          have hi : i < u.1.length := by simpa [rng] using h1
          simp only [rng, sg, List.getElem_map, List.getElem_range, List.getElem_reverse]
          rw [show ((u.1.length : Int) - 1) - (i : Int) = ((u.1.length - 1 - i : Nat) : Int) by omega, ixS_nat (by omega)]
      have hin : ∀ x ∈ rng u.1.length, inR u.1.length (((u.1.length : Int) - (1 : Int)) - x) := fun x hx => by
        have := rng_mem.mp hx
        unfold inR
        omega
      refine Cl.val (turned_ok (by omega) rfl) ?_
      rw [tn, ht]
      refine ⟨s1, ⟨by omega, by omega⟩, by rw [rng_len]; exact s1, fun x hx => ⟨s1, s1, hin x hx, rfl⟩, join_ok ?_, ?_, ?_⟩
      · rw [lenSum_chars, List.length_reverse]; omega
      · intro hb
        refine absurd ?_ (of_decide_eq_true hb)
        show u.1.reverse = joinT [] (sg u.1.reverse)
        rw [join_sg]
      · intro _
        have wl := d.wl
        refine Cl.val (unlike_ok (by omega) rfl) (step17 wl (fun w hw => (d.w4 w hw).1) (step14 d))
theorem plain (ns : List Int) : law_W (ns, ()) (fun b => b = true) NoE := by
  show law_w22 T NoE
  refine ClD.here (word_ok (by decide) (by decide) (by decide) (by decide) (by decide) fun one h1 h2 h3 => ?_)
  refine ClD.here (word_ok (by decide) (by decide) (by decide) (by decide) (by decide) fun other g1 g2 g3 => ?_)
  refine ClD.roll (by decide) (by decide) fun r hr0 hr1 => ⟨⟨by omega, by omega⟩, by rw [List.length_map, List.length_range]; exact sl (by omega), fun _ y => y.length ≤ 4 ∧ 1 ≤ y.length, fun x _ => ClD.here (word_ok (by decide) (by decide) (by decide) (by decide) (by decide) fun y k1 k2 k3 => ⟨by omega, by omega⟩), fun ys hy => ?_⟩
  have hl := hy.length
  rw [List.length_map, List.length_range] at hl
  exact step20 (u := (one, other)) ⟨h1, by show one.length ≤ 6; omega, by show 1 ≤ one.length; omega, g1, by show other.length ≤ 6; omega, by omega, hy.all fun _ _ y h => h⟩
end K01
theorem PySem.Challenge.cw_spellhall_k01_words_holds : PySem.Challenge.rw_spellhall_k01_words.Holds :=
  K01.holds_of fun ns _ _ => K01.plain ns
