import PyProof.Rows.All
import Wide.All
import OpenK.AllK
import Wide.FinOn
import HandS.ForMost
import HandS.Exc
import HandS.ExcOwn
import HandS.WordsExc
import HandS.TryMany
import HandS.Lambda
import KE.DatumMore
import KE.DatumMoreOrd
import KE.DatumIndex
import KE.SortKeyHeap
import HandS.Deep
import HandS.Text
import PyProof.ListStr
import HandS.RaiseMore
import HandS.Codes
import HandS.TupAny
import HandS.Flow
import HandS.Rev
import HandS.Zip
import HandS.More
import PyProof.CollectStr
import HandS.GenBody
import HandS.AnyAll
import PyProof.ConsumeS
import HandS.HeadHook4
import HandS.HeadWalk
import HandS.Head2
import HandS.ListItems
import PyProof.Draws
import HandS.StrMore
import HandS.Replace
import HandS.Style
import PyProof.SumAny
import PyProof.Rows.SumGenD
import PyProof.InstEq
import HandS.Sort
import PySem.Challenge.RW_spellhall_k19_tiles
set_option Elab.async false
set_option linter.all false
set_option maxRecDepth 100000
set_option maxHeartbeats 4000000
/-! Sp: the data layer over HandS. What a state holds is said by data: frozen data of the names, owned cells by address. -/
namespace Sp
open PySem L2

/-! ### one expression, run to what is wanted -/
def WE (X : Cx) (e : Expr) (σ : St) (H : Hp) (Q : VK) : Prop :=
  ∀ (pins : List (Addr × Obj)) (s : Shared), Inv X pins σ H s → wpAny (model X.prog X.w) X.A (eval e X.env) (EP X pins σ Q) X.xe s
def WT (X : Cx) (e : Expr) (σ : St) (H : Hp) (Q : Bool → Hp → Prop) : Prop :=
  ∀ (pins : List (Addr × Obj)) (s : Shared), Inv X pins σ H s → wpAny (model X.prog X.w) X.A (isTrue e X.env (eval e X.env)) (TP X pins σ Q) X.xe s
def WA (X : Cx) (es : List Expr) (σ : St) (H : Hp) (Q : List V → Hp → Prop) : Prop :=
  ∀ (pos : Pos) (pins : List (Addr × Obj)) (s : Shared), Inv X pins σ H s → wpAny (model X.prog X.w) X.A (spliced (backTo pos (starEach es X.env))) (AP X pins σ Q) X.xe s
def WS (X : Cx) (st : List Stmt) (σ : St) (H : Hp) (D : Ends) : Prop :=
  ∀ (pins : List (Addr × Obj)) (s : Shared), Inv X pins σ H s → wpAny (model X.prog X.w) X.A (execs st X.env) (SP X pins D) X.xe s
section
variable {X : Cx} {e : Expr} {es : List Expr} {st : List Stmt} {σ : St} {H : Hp}
theorem pe_we : PE X e (WE X e) := ⟨fun pins s _ _ _ I h => h pins s I⟩
theorem pt_wt : PT X e (WT X e) := ⟨fun pins s _ _ _ I h => h pins s I⟩
theorem pa_wa : PA X es (WA X es) := ⟨fun pos pins s _ _ _ I h => h pos pins s I⟩
theorem pss_ws : PSs X st (fun D σ H => WS X st σ H D) := ⟨fun pins s _ _ _ I h => h pins s I⟩
theorem WE.of {t : TE} {Q : VK} (p : PE X e t) (h : t σ H Q) : WE X e σ H Q := fun pins s I => p.run pins s σ H Q I h
theorem WT.of {t : TT} {Q : Bool → Hp → Prop} (p : PT X e t) (h : t σ H Q) : WT X e σ H Q := fun pins s I => p.run pins s σ H Q I h
theorem WA.of {t : TA} {Q : List V → Hp → Prop} (p : PA X es t) (h : t σ H Q) : WA X es σ H Q := fun pos pins s I => p.run pos pins s σ H Q I h
theorem WS.of {t : TS} {D : Ends} (p : PSs X st t) (h : t D σ H) : WS X st σ H D := fun pins s I => p.run pins s σ H D I h
theorem WE.mono {Q Q' : VK} (h : WE X e σ H Q) (k : ∀ v H', Q v H' → Q' v H') : WE X e σ H Q' :=
  fun pins s I => thn (h pins s I) fun _ _ ⟨v, H', J, r, q⟩ => ⟨v, H', J, r, k v H' q⟩
theorem WT.mono {Q Q' : Bool → Hp → Prop} (h : WT X e σ H Q) (k : ∀ b H', Q b H' → Q' b H') : WT X e σ H Q' :=
  fun pins s I => thn (h pins s I) fun b _ ⟨H', J, q⟩ => ⟨H', J, k b H' q⟩
theorem WA.mono {Q Q' : List V → Hp → Prop} (h : WA X es σ H Q) (k : ∀ v H', Q v H' → Q' v H') : WA X es σ H Q' :=
  fun pos pins s I => thn (h pos pins s I) fun _ _ ⟨v, H', J, r, q⟩ => ⟨v, H', J, r, k v H' q⟩
theorem WS.mono {D D' : Ends} (h : WS X st σ H D) (k1 : ∀ σ' H', D.nx σ' H' → D'.nx σ' H') (k2 : ∀ v H', D.rt v H' → D'.rt v H') (k3 : ∀ σ' H', D.bk σ' H' → D'.bk σ' H') (k4 : ∀ σ' H', D.ct σ' H' → D'.ct σ' H') : WS X st σ H D' :=
  fun pins s I => thn (h pins s I) fun f s' q => by
    cases f with
    | next => obtain ⟨σ', H', J, q⟩ := q; exact ⟨σ', H', J, k1 _ _ q⟩
    | brk => obtain ⟨σ', H', J, q⟩ := q; exact ⟨σ', H', J, k3 _ _ q⟩
    | cont => obtain ⟨σ', H', J, q⟩ := q; exact ⟨σ', H', J, k4 _ _ q⟩
    | ret u => obtain ⟨v, σ', H', J, r, q⟩ := q; exact ⟨v, σ', H', J, r, k2 _ _ q⟩
/-- a changing thing may be locked at any time -/
theorem WE.lock {Q : VK} {d : Addr} {u : HO} (hd : H d = some u) (mu : Mut (some u)) (h : ∀ od, WE X e σ (upd H d (.frz od u)) Q) : WE X e σ H Q := fun pins s I => by
  obtain ⟨od, J⟩ := I.lock hd mu
  exact h od pins s J
/-- .. behind the expression too -/
theorem WE.lockAfter {Q : VK} (h : WE X e σ H fun v H' => ∃ d u, H' d = some u ∧ Mut (some u) ∧ ∀ od, Q v (upd H' d (.frz od u))) : WE X e σ H Q := fun pins s I =>
  thn (h pins s I) fun _ _ ⟨v, H', J, r, d, u, hd, mu, q⟩ => by
    obtain ⟨od, J'⟩ := J.lock hd mu
    exact ⟨v, _, J', r, q od⟩
end

/-! ### frozen data -/
/-- all of F stands in H -/
def Ext (F H : Hp) : Prop := ∀ a o, F a = some o → H a = some o
theorem Ext.refl (F : Hp) : Ext F F := fun _ _ h => h
theorem Ext.trans {F G H : Hp} (a : Ext F G) (b : Ext G H) : Ext F H := fun c o h => b c o (a c o h)
/-- what a value is, by data that stay -/
structure Pv where
  rep : PySem.W.Frag → Hp → V → Prop
  mono : ∀ {K : PySem.W.Frag} {F F' : Hp} {v : V}, rep K F v → Ext F F' → rep K F' v
/-- what an owned address holds -/
structure Cell where
  rep : PySem.W.Frag → Hp → HO → Prop
  mono : ∀ {K : PySem.W.Frag} {F F' : Hp} {o : HO}, rep K F o → Ext F F' → rep K F' o
abbrev Rho := List (Option Pv)
abbrev Gs := List (Addr × Cell)
structure DSt where
  ρ : Rho
  gs : Gs
def isTbl : HO → Bool
  | .tbl _ => true
  | _ => false
inductive RepS (K : PySem.W.Frag) (F : Hp) : St → Rho → Prop
  | nil : RepS K F [] []
  | un {o : Option V} {σ : St} {ρ : Rho} : RepS K F σ ρ → RepS K F (o :: σ) (none :: ρ)
  | ha {v : V} {A : Pv} {σ : St} {ρ : Rho} : A.rep K F v → RepS K F σ ρ → RepS K F (some v :: σ) (some A :: ρ)
theorem RepS.mono {K : PySem.W.Frag} {F F' : Hp} {σ : St} {ρ : Rho} (h : RepS K F σ ρ) (e : Ext F F') : RepS K F' σ ρ := by
  induction h with
  | nil => exact .nil
  | un _ ih => exact .un ih
  | ha r _ ih => exact .ha (Pv.mono _ r e) ih
theorem RepS.length {K : PySem.W.Frag} {F : Hp} {σ : St} {ρ : Rho} (h : RepS K F σ ρ) : σ.length = ρ.length := by
  induction h with
  | nil => rfl
  | un _ ih => simp [ih]
  | ha _ _ ih => simp [ih]
theorem RepS.get {K : PySem.W.Frag} {F : Hp} {σ : St} {ρ : Rho} (h : RepS K F σ ρ) : ∀ {i : Nat} {A : Pv}, ρ[i]? = some (some A) → ∃ v, σ[i]? = some (some v) ∧ A.rep K F v := by
  induction h with
  | nil => intro i A e; simp at e
  | un _ ih =>
    intro i A e
    cases i with
    | zero => simp at e
    | succ i => obtain ⟨v, e1, r⟩ := ih (i := i) (by simpa using e); exact ⟨v, by simpa using e1, r⟩
  | ha r _ ih =>
    intro i A e
    cases i with
    | zero => simp at e; subst e; exact ⟨_, rfl, r⟩
    | succ i => obtain ⟨v, e1, r⟩ := ih (i := i) (by simpa using e); exact ⟨v, by simpa using e1, r⟩
theorem RepS.set {K : PySem.W.Frag} {F : Hp} {σ : St} {ρ : Rho} (h : RepS K F σ ρ) {v : V} {A : Pv} (r : A.rep K F v) : ∀ (i : Nat), RepS K F (σ.set i (some v)) (ρ.set i (some A)) := by
  induction h with
  | nil => intro i; exact .nil
  | un h ih =>
    intro i
    cases i with
    | zero => exact .ha r h
    | succ i => exact .un (ih i)
  | ha q h ih =>
    intro i
    cases i with
    | zero => exact .ha r h
    | succ i => exact .ha q (ih i)
theorem RepS.forget {K : PySem.W.Frag} {F : Hp} {σ : St} {ρ : Rho} (h : RepS K F σ ρ) {o : Option V} : ∀ (i : Nat), RepS K F (σ.set i o) (ρ.set i none) := by
  induction h with
  | nil => intro i; exact .nil
  | un h ih =>
    intro i
    cases i with
    | zero => exact .un h
    | succ i => exact .un (ih i)
  | ha q h ih =>
    intro i
    cases i with
    | zero => exact .un h
    | succ i => exact .ha q (ih i)

/-- an exception: its class, and its number where it tells one -/
structure Exc where
  C : Addr
  row : Option Int
def ExcRep (e : Exc) (cls : Value) (d : Option Addr) (H : Hp) : Prop :=
  cls = .ref e.C ∧ (match e.row with
    | none => True
    | some r => ∃ dx nm, d = some dx ∧ H dx = some (.xd [(nm, .int r)]))

/-! ### tables of code objects: lambdas' names by their places -/
abbrev Tb := List (Addr × Str)
abbrev TbOk (T : Tb) (H : Hp) : Prop := LamX.Tabs T H

/-! ### the state said by data -/
structure DX where
  X : Cx
  T : Tb
  k : Nat
  H0 : Hp
  F0 : Hp
  S0 : List Addr
  ex : Exc → DSt → Prop
/-- nothing stands there but perhaps a table -/
def Fre (H : Hp) (a : Addr) : Prop := ∀ o, H a = some o → isTbl o = true
structure Step (H0 F0 : Hp) (S0 : List Addr) (H F : Hp) (S : List Addr) : Prop where
  ff : Ext F0 F
  fr : ∀ a o, H0 a = some o → isTbl o = false → a ∉ S0 → H a = some o
  nw : ∀ a, (F a ≠ none ∨ a ∈ S) → F0 a ≠ none ∨ a ∈ S0 ∨ Fre H0 a
theorem Step.refl {H F : Hp} {S : List Addr} : Step H F S H F S :=
  ⟨Ext.refl _, fun _ _ h _ _ => h, fun _ h => h.elim .inl fun h => .inr (.inl h)⟩
/-- what is free now was free, or was owned -/
theorem Step.was {H0 F0 H F : Hp} {S0 S : List Addr} (t : Step H0 F0 S0 H F S) {p : Addr} (hp : Fre H p) : p ∈ S0 ∨ Fre H0 p := by
  by_cases z2 : p ∈ S0
  · exact .inl z2
  · refine .inr fun o e => ?_
    cases z3 : isTbl o with
    | true => rfl
    | false =>
      have := hp o (t.fr p o e z3 z2)
      rw [z3] at this
      exact this
theorem Fre.of {H : Hp} {p : Addr} (h : H p = none) : Fre H p := fun o e => by rw [h] at e; cases e
structure Sta (Y : DX) (s : DSt) (σ : St) (H F : Hp) : Prop where
  ext : Ext F H
  ntb : ∀ a o, F a = some o → isTbl o = false
  rep : RepS Y.X.K F σ s.ρ
  own : ∀ p ∈ s.gs, F p.1 = none ∧ ∃ o, H p.1 = some o ∧ isTbl o = false ∧ p.2.rep Y.X.K F o
  nd : (s.gs.map (·.1)).Nodup
  tb : TbOk Y.T H
  st : Step Y.H0 Y.F0 Y.S0 H F (s.gs.map (·.1))
section
variable {Y : DX} {s : DSt} {σ : St} {H F : Hp}
/-- a new object -/
theorem TbOk.new {T : Tb} {H : Hp} {p : Addr} {o : HO} (h : TbOk T H) (hp : H p = none) : TbOk T (upd H p o) := h.ext fun b u e => by rw [upd_ne (ne_of_none e hp)]; exact e
theorem codeO_ntb {c : Addr} {q : Str} {o : HO} (h : o = LamX.CodeO c q) : isTbl o = false := by subst h; rfl
/-- an object that is no table is written -/
theorem TbOk.write {T : Tb} {H : Hp} {p : Addr} {o u : HO} (h : TbOk T H) (hp : H p = some o) (ho : isTbl o = false) (hc : ∀ c q, o ≠ LamX.CodeO c q) : TbOk T (upd H p u) := fun q hq => by
  obtain ⟨ps, h1, h2, h3⟩ := h q hq
  refine ⟨ps, ?_, h2, fun pos cv hcv => ?_⟩
  · rw [upd_ne]
    · exact h1
    · intro e
      rw [e, hp] at h1
      cases h1
      cases ho
  · obtain ⟨c, e1, e2⟩ := h3 pos cv hcv
    refine ⟨c, e1, ?_⟩
    rw [upd_ne]
    · exact e2
    · intro e
      rw [e, hp] at e2
      exact hc _ _ (Option.some.inj e2)
theorem Ext.new {F H : Hp} {p : Addr} {o : HO} (e : Ext F H) (hp : H p = none) : Ext F (upd H p o) := fun a u h => by
  rw [upd_ne (ne_of_none (e a u h) hp)]
  exact e a u h
theorem Ext.both {F H : Hp} {p : Addr} {o : HO} (e : Ext F H) : Ext (upd F p o) (upd H p o) := fun a u h => by
  by_cases q : a = p
  · rw [q, upd_same] at h ⊢
    exact h
  · rw [upd_ne q] at h ⊢
    exact e a u h
theorem Ext.free {F H : Hp} {p : Addr} (e : Ext F H) (hp : H p = none) : F p = none := by
  cases q : F p with
  | none => rfl
  | some o => rw [e _ _ q] at hp; cases hp
theorem Ext.grow {F : Hp} {p : Addr} {o : HO} (hp : F p = none) : Ext F (upd F p o) := fun a u h => by
  rw [upd_ne (ne_of_none h hp)]
  exact h
theorem Sta.free (S : Sta Y s σ H F) {p : Addr} (hp : H p = none) : F p = none := S.ext.free hp
/-- a new object that is frozen at once -/
theorem Sta.newF (S : Sta Y s σ H F) {p : Addr} {o : HO} (hp : H p = none) (ho : isTbl o = false) : Sta Y s σ (upd H p o) (upd F p o) := by
  have hF := S.ext.free hp
  refine ⟨S.ext.both, fun a u h => ?_, S.rep.mono (Ext.grow hF), fun q hq => ?_, S.nd, S.tb.new hp, ⟨S.st.ff.trans (Ext.grow hF), fun a u h1 h2 h3 => ?_, fun a h => ?_⟩⟩
  · by_cases q : a = p
    · rw [q, upd_same] at h; cases h; exact ho
    · rw [upd_ne q] at h; exact S.ntb a u h
  · obtain ⟨h1, u, h2, h3, h4⟩ := S.own q hq
    have ne : q.1 ≠ p := ne_of_none h2 hp
    exact ⟨by rw [upd_ne ne]; exact h1, u, by rw [upd_ne ne]; exact h2, h3, q.2.mono h4 (Ext.grow hF)⟩
  · have h := S.st.fr a u h1 h2 h3
    rw [upd_ne (ne_of_none h hp)]
    exact h
  · by_cases q : a = p
    · rw [q]; exact .inr (S.st.was (.of hp))
    · refine S.st.nw a (h.elim (fun h => .inl ?_) .inr)
      rw [upd_ne q] at h
      exact h
/-- a new object that is owned -/
theorem Sta.newO (S : Sta Y s σ H F) {p : Addr} {o : HO} {c : Cell} (hp : H p = none) (ho : isTbl o = false) (r : c.rep Y.X.K F o) : Sta Y ⟨s.ρ, (p, c) :: s.gs⟩ σ (upd H p o) F := by
  have hF := S.ext.free hp
  have nin : p ∉ s.gs.map (·.1) := fun hm => by
    obtain ⟨q, hq, e⟩ := List.mem_map.mp hm
    obtain ⟨_, u, h2, _⟩ := S.own q hq
    rw [e, hp] at h2; cases h2
  refine ⟨S.ext.new hp, S.ntb, S.rep, fun q hq => ?_, List.nodup_cons.mpr ⟨nin, S.nd⟩, S.tb.new hp, ⟨S.st.ff, fun a u h1 h2 h3 => ?_, fun a h => ?_⟩⟩
  · rcases List.mem_cons.mp hq with e | hq
    · subst e
      exact ⟨hF, o, upd_same, ho, r⟩
    · obtain ⟨h1, u, h2, h3, h4⟩ := S.own q hq
      exact ⟨h1, u, by rw [upd_ne (ne_of_none h2 hp)]; exact h2, h3, h4⟩
  · have h := S.st.fr a u h1 h2 h3
    rw [upd_ne (ne_of_none h hp)]
    exact h
  · rcases h with h | h
    · exact S.st.nw a (.inl h)
    · rcases List.mem_cons.mp h with h | h
      · rw [h]; exact .inr (S.st.was (.of hp))
      · exact S.st.nw a (.inr h)
/-- an owned cell, by its place -/
theorem Sta.cell (S : Sta Y s σ H F) {i : Nat} {p : Addr} {c : Cell} (h : s.gs[i]? = some (p, c)) : F p = none ∧ ∃ o, H p = some o ∧ isTbl o = false ∧ c.rep Y.X.K F o :=
  S.own (p, c) (List.mem_of_getElem? h)
theorem fst_set (gs : Gs) {i : Nat} {p : Addr} {c c' : Cell} (h : gs[i]? = some (p, c)) : (gs.set i (p, c')).map (·.1) = gs.map (·.1) := by
  rw [List.map_set]
  apply List.ext_getElem?
  intro j
  by_cases e : i = j
  · subst e
    obtain ⟨hl, e⟩ := List.getElem?_eq_some_iff.mp h
    rw [List.getElem?_set_self (by simpa using hl), List.getElem?_map, h]
    rfl
  · rw [List.getElem?_set_ne e]
/-- an owned cell is written -/
theorem Sta.write (S : Sta Y s σ H F) {i : Nat} {p : Addr} {c c' : Cell} {o o' : HO} (h : s.gs[i]? = some (p, c)) (hp : H p = some o) (hc : ∀ c q, o ≠ LamX.CodeO c q) (ho : isTbl o' = false) (r : c'.rep Y.X.K F o') :
    Sta Y ⟨s.ρ, s.gs.set i (p, c')⟩ σ (upd H p o') F := by
  obtain ⟨hF, u, hu, hut, _⟩ := S.cell h
  rw [hp] at hu
  cases hu
  obtain ⟨hil, hie⟩ := List.getElem?_eq_some_iff.mp h
  have fs := fst_set s.gs (c' := c') h
  have hne : ∀ j q, j ≠ i → s.gs[j]? = some q → q.1 ≠ p := fun j q hj hq e => by
    obtain ⟨hjl, hje⟩ := List.getElem?_eq_some_iff.mp hq
    refine hj ((List.getElem_inj (h₀ := by simpa using hjl) (h₁ := by simpa using hil) S.nd).mp ?_)
    simp [hje, hie, e]
  refine ⟨fun a w ha => ?_, S.ntb, S.rep, fun q hq => ?_, by rw [fs]; exact S.nd, S.tb.write hp hut hc, ?_⟩
  · have n : a ≠ p := fun e => by rw [e, hF] at ha; cases ha
    rw [upd_ne n]
    exact S.ext a w ha
  · obtain ⟨j, hj, e⟩ := List.getElem_of_mem hq
    have hjl : j < s.gs.length := by simpa using hj
    by_cases hji : j = i
    · subst hji
      rw [List.getElem_set_self] at e
      subst e
      exact ⟨hF, o', upd_same, ho, r⟩
    · rw [List.getElem_set_ne (Ne.symm hji)] at e
      have e2 : s.gs[j]? = some q := by rw [List.getElem?_eq_getElem hjl, e]
      obtain ⟨h1, w, h2, h3, h4⟩ := S.own q (List.mem_of_getElem? e2)
      exact ⟨h1, w, by rw [upd_ne (hne j q hji e2)]; exact h2, h3, h4⟩
  · show Step Y.H0 Y.F0 Y.S0 (upd H p o') F ((s.gs.set i (p, c')).map (·.1))
    rw [fs]
    have pin : p ∈ s.gs.map (·.1) := List.mem_map.mpr ⟨(p, c), List.mem_of_getElem? h, rfl⟩
    refine ⟨S.st.ff, fun a w h1 h2 h3 => ?_, S.st.nw⟩
    · have n : a ≠ p := fun e => by
        rcases S.st.nw p (.inr pin) with z | z | z
        · obtain ⟨w2, z⟩ := Option.ne_none_iff_exists'.mp z
          have := S.st.ff p w2 z
          rw [hF] at this; cases this
        · exact h3 (e ▸ z)
        · have := z w (e ▸ h1)
          rw [h2] at this; cases this
      rw [upd_ne n]
      exact S.st.fr a w h1 h2 h3
/-- an owned cell is frozen (it stays as it stands) -/
theorem Sta.freeze (S : Sta Y s σ H F) {i : Nat} {p : Addr} {c : Cell} {o : HO} (h : s.gs[i]? = some (p, c)) (hp : H p = some o) : Sta Y ⟨s.ρ, s.gs.eraseIdx i⟩ σ H (upd F p o) := by
  obtain ⟨hF, u, hu, hut, _⟩ := S.cell h
  rw [hp] at hu
  cases hu
  obtain ⟨hil, hie⟩ := List.getElem?_eq_some_iff.mp h
  have hgi := h
  have sub : ∀ q, q ∈ s.gs.eraseIdx i → q ∈ s.gs := fun q hq => List.mem_of_mem_eraseIdx hq
  have hne : ∀ q, q ∈ s.gs.eraseIdx i → q.1 ≠ p := fun q hq e => by
    obtain ⟨j, hj, he⟩ := List.mem_eraseIdx_iff_getElem?.mp hq
    obtain ⟨hjl, hje⟩ := List.getElem?_eq_some_iff.mp he
    refine hj ((List.getElem_inj (h₀ := by simpa using hjl) (h₁ := by simpa using hil) S.nd).mp ?_)
    simp [hje, hie, e]
  have hsl : ((s.gs.eraseIdx i).map (·.1)).Sublist (s.gs.map (·.1)) := (List.eraseIdx_sublist _ _).map _
  refine ⟨fun a w ha => ?_, fun a w ha => ?_, S.rep.mono (Ext.grow hF), fun q hq => ?_, S.nd.sublist hsl, S.tb, ⟨S.st.ff.trans (Ext.grow hF), S.st.fr, fun a h => ?_⟩⟩
  · by_cases n : a = p
    · rw [n, upd_same] at ha; cases ha; rw [n]; exact hp
    · rw [upd_ne n] at ha; exact S.ext a w ha
  · by_cases n : a = p
    · rw [n, upd_same] at ha; cases ha; exact hut
    · rw [upd_ne n] at ha; exact S.ntb a w ha
  · obtain ⟨h1, w, h2, h3, h4⟩ := S.own q (sub q hq)
    exact ⟨by rw [upd_ne (hne q hq)]; exact h1, w, h2, h3, q.2.mono h4 (Ext.grow hF)⟩
  · rcases h with h | h
    · by_cases n : a = p
      · rw [n]
        exact S.st.nw p (.inr (List.mem_map.mpr ⟨(p, c), List.mem_of_getElem? hgi, rfl⟩))
      · rw [upd_ne n] at h
        exact S.st.nw a (.inl h)
    · exact S.st.nw a (.inr (hsl.subset h))
/-- an owned cell is let go -/
theorem Sta.drop (S : Sta Y s σ H F) (i : Nat) : Sta Y ⟨s.ρ, s.gs.eraseIdx i⟩ σ H F := by
  have hsl : ((s.gs.eraseIdx i).map (·.1)).Sublist (s.gs.map (·.1)) := (List.eraseIdx_sublist _ _).map _
  exact ⟨S.ext, S.ntb, S.rep, fun q hq => S.own q (List.mem_of_mem_eraseIdx hq), S.nd.sublist hsl, S.tb, ⟨S.st.ff, S.st.fr, fun a h => S.st.nw a (h.imp id fun h => hsl.subset h)⟩⟩
/-- the cells in another order -/
theorem Sta.perm (S : Sta Y s σ H F) {gs : Gs} (h : s.gs.Perm gs) : Sta Y ⟨s.ρ, gs⟩ σ H F :=
  ⟨S.ext, S.ntb, S.rep, fun q hq => S.own q (h.mem_iff.mpr hq), (h.map _).nodup_iff.mp S.nd, S.tb, ⟨S.st.ff, S.st.fr, fun a q => S.st.nw a (q.imp id fun q => (h.map _).mem_iff.mpr q)⟩⟩
/-- a name is set -/
theorem Sta.set (S : Sta Y s σ H F) {v : V} {A : Pv} (r : A.rep Y.X.K F v) (i : Nat) : Sta Y ⟨s.ρ.set i (some A), s.gs⟩ (σ.set i (some v)) H F := ⟨S.ext, S.ntb, S.rep.set r i, S.own, S.nd, S.tb, S.st⟩
/-- tables grew, new things came -/
theorem Sta.extN {H' : Hp} (S : Sta Y s σ H F) (e : LamX.ExtN H H') (t : TbOk Y.T H') : Sta Y s σ H' F := by
  have k : ∀ a o, H a = some o → isTbl o = false → H' a = some o := fun a o h1 h2 => e a o h1 fun ps z => by rw [z] at h2; cases h2
  exact ⟨fun a o h => k a o (S.ext a o h) (S.ntb a o h), S.ntb, S.rep, fun p hp => by
    obtain ⟨h1, o, h2, h3, h4⟩ := S.own p hp
    exact ⟨h1, o, k _ o h2 h3, h3, h4⟩, S.nd, t, ⟨S.st.ff, fun a o h1 h2 h3 => k a o (S.st.fr a o h1 h2 h3) h2, S.st.nw⟩⟩
theorem Sta.length (S : Sta Y s σ H F) : σ.length = s.ρ.length := S.rep.length
end
end Sp
set_option maxHeartbeats 4000000
/-! Sp: types of data and how values stand for them; expressions run by data. -/
namespace Sp
open PySem L2
abbrev Frag := PySem.W.Frag
/-! ### two lists, item by item -/
section
variable {δ ε : Type} {R : δ → ε → Prop}
theorem prd_get : ∀ {l : List δ} {m : List ε}, Paired R l m → ∀ {i : Nat} {y : ε}, m[i]? = some y → ∃ x, l[i]? = some x ∧ R x y
  | _, _, .nil, i, y, h => by simp at h
  | _, _, .cons r t, 0, y, h => by simp at h; subst h; exact ⟨_, rfl, r⟩
  | _, _, .cons r t, i + 1, y, h => by
    obtain ⟨x, h1, h2⟩ := prd_get t (i := i) (y := y) (by simpa using h)
    exact ⟨x, by simpa using h1, h2⟩
theorem prd_app {l l' : List δ} {m m' : List ε} (h : Paired R l m) (k : Paired R l' m') : Paired R (l ++ l') (m ++ m') := by
  induction h with
  | nil => exact k
  | cons r _ ih => exact .cons r ih
theorem prd_of : ∀ {l : List δ} {m : List ε}, l.length = m.length → (∀ (i : Nat) a b, l[i]? = some a → m[i]? = some b → R a b) → Paired R l m
  | [], [], _, _ => .nil
  | [], _ :: _, h, _ => by simp at h
  | _ :: _, [], h, _ => by simp at h
  | a :: l, b :: m, h, k => .cons (k 0 a b rfl rfl) (prd_of (by simpa using h) fun i x y hx hy => k (i + 1) x y (by simpa using hx) (by simpa using hy))
theorem prd_erase {l : List δ} {m : List ε} (h : Paired R l m) : ∀ i : Nat, Paired R (l.eraseIdx i) (m.eraseIdx i) := by
  induction h with
  | nil => intro i; exact .nil
  | cons r t ih =>
    intro i
    cases i with
    | zero => exact t
    | succ i => exact .cons r (ih i)
theorem prd_rev {l : List δ} {m : List ε} (h : Paired R l m) : Paired R l.reverse m.reverse := by
  induction h with
  | nil => exact .nil
  | cons r _ ih => rw [List.reverse_cons, List.reverse_cons]; exact prd_app ih (.cons r .nil)
theorem prd_take {l : List δ} {m : List ε} (h : Paired R l m) : ∀ i : Nat, Paired R (l.take i) (m.take i) := by
  induction h with
  | nil => intro i; simp; exact .nil
  | cons r t ih =>
    intro i
    cases i with
    | zero => exact .nil
    | succ i => exact .cons r (ih i)
theorem prd_drop {l : List δ} {m : List ε} (h : Paired R l m) : ∀ i : Nat, Paired R (l.drop i) (m.drop i) := by
  induction h with
  | nil => intro i; simp; exact .nil
  | cons r t ih =>
    intro i
    cases i with
    | zero => exact .cons r t
    | succ i => exact ih i
theorem prd_set {l : List δ} {m : List ε} {x : δ} {y : ε} (h : Paired R l m) (k : R x y) : ∀ i : Nat, Paired R (l.set i x) (m.set i y) := by
  induction h with
  | nil => intro i; exact .nil
  | cons r t ih =>
    intro i
    cases i with
    | zero => exact .cons k t
    | succ i => exact .cons r (ih i)
theorem prd_map {l : List δ} {m : List ε} {ι κ : Type} {S : ι → κ → Prop} {f : δ → ι} {g : ε → κ} (h : Paired R l m) (k : ∀ a b, R a b → S (f a) (g b)) : Paired S (l.map f) (m.map g) := by
  induction h with
  | nil => exact .nil
  | cons r _ ih => exact .cons (k _ _ r) ih
end
/-! ### data -/
class Enc (α : Type) where
  rep : Frag → Hp → V → α → Prop
  mono : ∀ {K : Frag} {F F' : Hp} {v : V} {a : α}, rep K F v a → Ext F F' → rep K F' v a
def pu {α : Type} [Enc α] (a : α) : Pv := ⟨fun K F v => Enc.rep K F v a, Enc.mono⟩
/-- just this value -/
def raw (v : V) : Pv := ⟨fun _ _ u => u = v, fun h _ => h⟩
theorem pu_rep {α : Type} [Enc α] {a : α} {K : Frag} {F : Hp} {v : V} : (pu a).rep K F v = Enc.rep K F v a := rfl
abbrev Txt := List Nat
def toStr (x : Txt) : Str := ⟨x.toArray⟩
theorem toStr_inj {x y : Txt} (h : toStr x = toStr y) : x = y := by
  have h2 : (⟨x.toArray⟩ : Str).cps = (⟨y.toArray⟩ : Str).cps := congrArg Str.cps h
  simpa using h2
theorem toStr_cps (x : Txt) : (toStr x).cps.toList = x := by simp [toStr]
theorem toStr_of (x : Str) : toStr x.cps.toList = x := by cases x; simp [toStr]
instance : Enc Int := ⟨fun _ _ v i => v = .int i, fun h _ => h⟩
instance : Enc Bool := ⟨fun _ _ v b => v = .bl b, fun h _ => h⟩
instance : Enc Unit := ⟨fun _ _ v _ => v = .non, fun h _ => h⟩
theorem toStr_app (x y : Txt) : toStr x ++ toStr y = toStr (x ++ y) := by
  show Str.append (toStr x) (toStr y) = _
  simp [Str.append, toStr]
theorem toStr_len (x : Txt) : (toStr x).length = x.length := by simp [toStr, Str.length]
instance encTxt : Enc (List Nat) := ⟨fun _ _ v x => v = .str (toStr x), fun h _ => h⟩
instance {α : Type} [Enc α] : Enc (Option α) := ⟨fun K F v o => match o with
  | none => v = .non
  | some a => Enc.rep K F v a, fun {K F F' v a} h e => by
    cases a with
    | none => exact h
    | some a => exact Enc.mono (α := α) h e⟩
instance {α β : Type} [Enc α] [Enc β] : Enc (Sum α β) := ⟨fun K F v o => match o with
  | .inl a => Enc.rep K F v a
  | .inr b => Enc.rep K F v b, fun {K F F' v a} h e => by
    cases a with
    | inl a => exact Enc.mono (α := α) h e
    | inr a => exact Enc.mono (α := β) h e⟩
abbrev Vs {α : Type} [Enc α] (K : Frag) (F : Hp) : List V → List α → Prop := Paired fun v a => Enc.rep K F v a
theorem Vs.mono {α : Type} [Enc α] {K : Frag} {F F' : Hp} {vs : List V} {xs : List α} (h : Vs K F vs xs) (e : Ext F F') : Vs K F' vs xs := Paired.mapP h fun _ _ r => Enc.mono r e
theorem rd_ext {F F' : Hp} {a : Addr} {u : HO} (h : Rd F a u) (e : Ext F F') : Rd F' a u := h.imp (e _ _) fun ⟨o, h⟩ => ⟨o, e _ _ h⟩
theorem sqL_ext {K : Frag} {F F' : Hp} {a : Addr} {xs : List V} (h : SqL K F a xs) (e : Ext F F') : SqL K F' a xs := h.imp (rd_ext · e) id
theorem sqT_ext {K : Frag} {F F' : Hp} {a : Addr} {xs : List V} (h : SqT K F a xs) (e : Ext F F') : SqT K F' a xs := h.imp (rd_ext · e) id
instance encList {α : Type} [Enc α] : Enc (List α) := ⟨fun K F v xs => ∃ p vs, v = .ref p ∧ SqL K F p vs ∧ Vs K F vs xs,
  fun ⟨p, vs, h1, h2, h3⟩ e => ⟨p, vs, h1, sqL_ext h2 e, h3.mono e⟩⟩
abbrev Tup := PySem.W.Tup
abbrev T3 := PySem.W.T3
abbrev T4 := PySem.W.T4
instance {α : Type} [Enc α] : Enc (Tup α) := ⟨fun K F v xs => ∃ p vs, v = .ref p ∧ SqT K F p vs ∧ Vs K F vs xs.items,
  fun ⟨p, vs, h1, h2, h3⟩ e => ⟨p, vs, h1, sqT_ext h2 e, h3.mono e⟩⟩
instance {α β : Type} [Enc α] [Enc β] : Enc (α × β) := ⟨fun K F v x => ∃ p a b, v = .ref p ∧ SqT K F p [a, b] ∧ Enc.rep K F a x.1 ∧ Enc.rep K F b x.2,
  fun ⟨p, a, b, h1, h2, h3, h4⟩ e => ⟨p, a, b, h1, sqT_ext h2 e, Enc.mono h3 e, Enc.mono h4 e⟩⟩
instance {α β γ : Type} [Enc α] [Enc β] [Enc γ] : Enc (T3 α β γ) := ⟨fun K F v x => ∃ p a b c, v = .ref p ∧ SqT K F p [a, b, c] ∧ Enc.rep K F a x.a ∧ Enc.rep K F b x.b ∧ Enc.rep K F c x.c,
  fun ⟨p, a, b, c, h1, h2, h3, h4, h5⟩ e => ⟨p, a, b, c, h1, sqT_ext h2 e, Enc.mono h3 e, Enc.mono h4 e, Enc.mono h5 e⟩⟩
instance {α β γ δ : Type} [Enc α] [Enc β] [Enc γ] [Enc δ] : Enc (T4 α β γ δ) := ⟨fun K F v x => ∃ p a b c d, v = .ref p ∧ SqT K F p [a, b, c, d] ∧ Enc.rep K F a x.a ∧ Enc.rep K F b x.b ∧ Enc.rep K F c x.c ∧ Enc.rep K F d x.d,
  fun ⟨p, a, b, c, d, h1, h2, h3, h4, h5, h6⟩ e => ⟨p, a, b, c, d, h1, sqT_ext h2 e, Enc.mono h3 e, Enc.mono h4 e, Enc.mono h5 e, Enc.mono h6 e⟩⟩
/-- what can be a dict's key -/
class Kk (κ : Type) where
  key : κ → Key
  inj : ∀ {a b : κ}, key a = key b → a = b
instance : Kk Int := ⟨Sum.inl, fun h => Sum.inl.inj h⟩
instance : Kk (List Nat) := ⟨fun x => Sum.inr (toStr x), fun h => toStr_inj (Sum.inr.inj h)⟩
structure Dct (κ ν : Type) where
  kvs : List (κ × ν)
abbrev KVs {κ ν : Type} [Kk κ] [Enc ν] (K : Frag) (F : Hp) : List (Key × V) → List (κ × ν) → Prop := Paired fun p q => p.1 = Kk.key q.1 ∧ Enc.rep K F p.2 q.2
theorem KVs.mono {κ ν : Type} [Kk κ] [Enc ν] {K : Frag} {F F' : Hp} {vs : List (Key × V)} {xs : List (κ × ν)} (h : KVs K F vs xs) (e : Ext F F') : KVs K F' vs xs := Paired.mapP h fun _ _ r => ⟨r.1, Enc.mono r.2 e⟩
instance encDct {κ ν : Type} [Kk κ] [Enc ν] : Enc (Dct κ ν) := ⟨fun K F v d => ∃ p od kvs, v = .ref p ∧ F p = some (.frz od (.dK kvs)) ∧ KVs K F kvs d.kvs,
  fun ⟨p, od, kvs, h1, h2, h3⟩ e => ⟨p, od, kvs, h1, e _ _ h2, h3.mono e⟩⟩
/-! owned cells -/
def lstc {α : Type} [Enc α] (xs : List α) : Cell := ⟨fun K F o => ∃ vs, o = .lst vs ∧ Vs K F vs xs, fun ⟨vs, h1, h2⟩ e => ⟨vs, h1, h2.mono e⟩⟩
def dctc {κ ν : Type} [Kk κ] [Enc ν] (d : List (κ × ν)) : Cell := ⟨fun K F o => ∃ kvs, o = .dK kvs ∧ KVs K F kvs d, fun ⟨vs, h1, h2⟩ e => ⟨vs, h1, h2.mono e⟩⟩
/-- the law's dice: three ints -/
def dicec : Cell := ⟨fun _ _ o => ∃ i j k : Int, o = .lst [.int i, .int j, .int k], fun h _ => h⟩

/-! ### expressions by data -/
/-- behind an expression: its value is A, the state is s', F0 is kept -/
def Po (Y : DX) (σ : St) (F0 : Hp) (Q : Pv → DSt → Prop) : VK := fun v H' => ∃ A s' F', Ext F0 F' ∧ A.rep Y.X.K F' v ∧ Sta Y s' σ H' F' ∧ Q A s'
def Pp (Y : DX) (s : DSt) (σ : St) (F0 : Hp) (A : Pv) : VK := fun v H' => ∃ F', Ext F0 F' ∧ A.rep Y.X.K F' v ∧ Sta Y s σ H' F'
def Pt (Y : DX) (σ : St) (F0 : Hp) (Q : Bool → DSt → Prop) : Bool → Hp → Prop := fun b H' => ∃ s' F', Ext F0 F' ∧ Sta Y s' σ H' F' ∧ Q b s'
def Ev (Y : DX) (s : DSt) (e : Expr) (Q : Pv → DSt → Prop) : Prop :=
  ∀ F0 σ H F, Ext F0 F → Sta Y s σ H F → WE Y.X e σ H (Po Y σ F0 Q)
/-- quietly: just this data, nothing owned is changed -/
def EvP (Y : DX) (s : DSt) (e : Expr) (A : Pv) : Prop :=
  ∀ F0 σ H F, Ext F0 F → Sta Y s σ H F → WE Y.X e σ H (Pp Y s σ F0 A)
def Et (Y : DX) (s : DSt) (e : Expr) (Q : Bool → DSt → Prop) : Prop :=
  ∀ F0 σ H F, Ext F0 F → Sta Y s σ H F → WT Y.X e σ H (Pt Y σ F0 Q)
def EtP (Y : DX) (s : DSt) (e : Expr) (b : Bool) : Prop :=
  ∀ F0 σ H F, Ext F0 F → Sta Y s σ H F → WT Y.X e σ H fun b' H' => b' = b ∧ ∃ F', Ext F0 F' ∧ Sta Y s σ H' F'
section
variable {Y : DX} {s : DSt} {e a b c : Expr} {pos : Pos}
theorem Ev.of {A : Pv} {Q : Pv → DSt → Prop} (h : EvP Y s e A) (q : Q A s) : Ev Y s e Q := fun F0 σ H F e0 S => (h F0 σ H F e0 S).mono fun v H' ⟨F', e1, r, S'⟩ => ⟨A, s, F', e1, r, S', q⟩
theorem Ev.mono {Q Q' : Pv → DSt → Prop} (h : Ev Y s e Q) (k : ∀ A s', Q A s' → Q' A s') : Ev Y s e Q' := fun F0 σ H F e0 S => (h F0 σ H F e0 S).mono fun v H' ⟨A, s', F', e1, r, S', q⟩ => ⟨A, s', F', e1, r, S', k _ _ q⟩
theorem EvP.of {A : Pv} (h : Ev Y s e fun B s' => B = A ∧ s' = s) : EvP Y s e A := fun F0 σ H F e0 S => (h F0 σ H F e0 S).mono fun v H' ⟨B, s', F', e1, r, S', q1, q2⟩ => by subst q1 q2; exact ⟨F', e1, r, S'⟩
theorem Et.of {x : Bool} {Q : Bool → DSt → Prop} (h : EtP Y s e x) (q : Q x s) : Et Y s e Q := fun F0 σ H F e0 S => (h F0 σ H F e0 S).mono fun v H' ⟨e2, F', e1, S'⟩ => by subst e2; exact ⟨s, F', e1, S', q⟩
theorem Et.mono {Q Q' : Bool → DSt → Prop} (h : Et Y s e Q) (k : ∀ A s', Q A s' → Q' A s') : Et Y s e Q' := fun F0 σ H F e0 S => (h F0 σ H F e0 S).mono fun v H' ⟨s', F', e1, S', q⟩ => ⟨s', F', e1, S', k _ _ q⟩
theorem EtP.of {x : Bool} (h : Et Y s e fun y s' => y = x ∧ s' = s) : EtP Y s e x := fun F0 σ H F e0 S => (h F0 σ H F e0 S).mono fun v H' ⟨s', F', e1, S', q1, q2⟩ => by subst q1 q2; exact ⟨rfl, F', e1, S'⟩
theorem EvP.to {A B : Pv} (h : EvP Y s e A) (eq : A = B) : EvP Y s e B := eq ▸ h
theorem EtP.to {x y : Bool} (h : EtP Y s e x) (eq : x = y) : EtP Y s e y := eq ▸ h

/-- two in a row, run to what is wanted of their values -/
theorem ev2 {Q : Pv → DSt → Prop} {r : R2} (P : PE Y.X e (tOp r (WE Y.X a) (WE Y.X b)))
    (h : Ev Y s a fun A s1 => Ev Y s1 b fun B s2 => ∀ F0 σ H F v u, Ext F0 F → Sta Y s2 σ H F → A.rep Y.X.K F v → B.rep Y.X.K F u → r v u H (Po Y σ F0 Q)) : Ev Y s e Q := fun F0 σ H F e0 S => by
  refine .of P ?_
  refine (h F σ H F (.refl _) S).mono fun v H1 ⟨A, s1, F1, e1, r1, S1, q1⟩ => ?_
  refine (q1 F1 σ H1 F1 (.refl _) S1).mono fun u H2 ⟨B, s2, F2, e2, r2, S2, q2⟩ => ?_
  exact q2 F0 σ H2 F2 v u ((e0.trans e1).trans e2) S2 (A.mono r1 e2) r2
theorem evp2 {A B C : Pv} {r : R2} (P : PE Y.X e (tOp r (WE Y.X a) (WE Y.X b))) (ha : EvP Y s a A) (hb : EvP Y s b B)
    (h : ∀ F0 σ H F v u, Ext F0 F → Sta Y s σ H F → A.rep Y.X.K F v → B.rep Y.X.K F u → r v u H (Pp Y s σ F0 C)) : EvP Y s e C := fun F0 σ H F e0 S => by
  refine .of P ?_
  refine (ha F σ H F (.refl _) S).mono fun v H1 ⟨F1, e1, r1, S1⟩ => ?_
  refine (hb F1 σ H1 F1 (.refl _) S1).mono fun u H2 ⟨F2, e2, r2, S2⟩ => ?_
  exact h F0 σ H2 F2 v u ((e0.trans e1).trans e2) S2 (A.mono r1 e2) r2
theorem ev1 {Q : Pv → DSt → Prop} {r : V → Hp → VK → Prop} (P : PE Y.X e fun σ H Q => WE Y.X a σ H fun x H1 => r x H1 Q)
    (h : Ev Y s a fun A s1 => ∀ F0 σ H F v, Ext F0 F → Sta Y s1 σ H F → A.rep Y.X.K F v → r v H (Po Y σ F0 Q)) : Ev Y s e Q := fun F0 σ H F e0 S => by
  refine .of P ?_
  refine (h F σ H F (.refl _) S).mono fun v H1 ⟨A, s1, F1, e1, r1, S1, q1⟩ => ?_
  exact q1 F0 σ H1 F1 v (e0.trans e1) S1 r1
theorem evp1 {A C : Pv} {r : V → Hp → VK → Prop} (P : PE Y.X e fun σ H Q => WE Y.X a σ H fun x H1 => r x H1 Q) (ha : EvP Y s a A)
    (h : ∀ F0 σ H F v, Ext F0 F → Sta Y s σ H F → A.rep Y.X.K F v → r v H (Pp Y s σ F0 C)) : EvP Y s e C := fun F0 σ H F e0 S => by
  refine .of P ?_
  refine (ha F σ H F (.refl _) S).mono fun v H1 ⟨F1, e1, r1, S1⟩ => ?_
  exact h F0 σ H1 F1 v (e0.trans e1) S1 r1
/-- as a test -/
theorem et_val {Q : Bool → DSt → Prop} (he : ∀ whole, isTrue e Y.X.env whole = (do let v ← whole; standAt e.pos; holding [v] (truthy v))) (h : Ev Y s e fun A s' => ∃ x : Bool, A = pu x ∧ Q x s') : Et Y s e Q := fun F0 σ H F e0 S => by
  refine .of (pt_val pe_we he) ?_
  refine (h F0 σ H F e0 S).mono fun v H' ⟨A, s', F', e1, r, S', x, ea, q⟩ => ?_
  subst ea
  exact ⟨x, r, s', F', e1, S', q⟩

/-! names and constants -/
theorem evp_var {A : Pv} {x : Str} (i : Nat) (hN : Y.X.N[i]? = some x) (hv : Vis Y.X.env.scope x) (hA : s.ρ[i]? = some (some A)) (hd : (x == ("__debug__" : Str)) = false := by decide) (hcd : (x == ("__classdict__" : Str)) = false := by decide) :
    EvP Y s (.Name x pos) A := fun F0 σ H F e0 S => by
  obtain ⟨v, e1, r⟩ := S.rep.get hA
  exact .of (pe_var hN hv hd hcd) ⟨v, e1, F, e0, r, S⟩
theorem evp_int {i : Int} {j : Nat} : EvP Y s (.Constant (.int i) j pos) (pu i) := fun F0 σ H F e0 S => .of pe_int ⟨F, e0, rfl, S⟩
theorem evp_bl {x : Bool} {j : Nat} : EvP Y s (.Constant (.bool x) j pos) (pu x) := fun F0 σ H F e0 S => .of pe_bl ⟨F, e0, rfl, S⟩
theorem evp_non {j : Nat} : EvP Y s (.Constant .none j pos) (pu ()) := fun F0 σ H F e0 S => .of pe_non ⟨F, e0, rfl, S⟩
theorem evp_str {x : Str} (y : Txt) {j : Nat} (hy : toStr y = x) : EvP Y s (.Constant (.str x) j pos) (pu y) := fun F0 σ H F e0 S => .of pe_str ⟨F, e0, by show V.str x = V.str (toStr y); rw [hy], S⟩
/-- a name of the module -/
theorem evp_glob {x : Str} {v : V} {u : Value} {A : Pv} (hg : Gl Y.X x) (hm : Y.X.mg x = some u) (r : RelV v u) (hA : ∀ F, A.rep Y.X.K F v) (hd : (x == ("__debug__" : Str)) = false := by decide) : EvP Y s (.Name x pos) A :=
  fun F0 σ H F e0 S => .of (pe_glob hg hm r hd) ⟨F, e0, hA F, S⟩

/-! ints -/
theorem ev_ints {Q : Pv → DSt → Prop} {α : Type} [Enc α] {C : Int → Int → Prop} {g : Int → Int → V} {f : Int → Int → α} (P : PE Y.X e (tOp (rI C g) (WE Y.X a) (WE Y.X b))) (hg : ∀ K F i j, Enc.rep K F (g i j) (f i j))
    (h : Ev Y s a fun A s1 => ∃ i : Int, A = pu i ∧ Ev Y s1 b fun B s2 => ∃ j : Int, B = pu j ∧ C i j ∧ Q (pu (f i j)) s2) : Ev Y s e Q :=
  ev2 P (h.mono fun A s1 ⟨i, ea, h1⟩ => h1.mono fun B s2 ⟨j, eb, hc, q⟩ F0 σ H F v u e0 S rv ru => by
    subst ea eb
    exact ⟨i, j, rv, ru, hc, _, s2, F, e0, hg _ _ _ _, S, q⟩)
theorem evp_ints {α : Type} [Enc α] {C : Int → Int → Prop} {g : Int → Int → V} {f : Int → Int → α} {i j : Int} (P : PE Y.X e (tOp (rI C g) (WE Y.X a) (WE Y.X b))) (hg : ∀ K F i j, Enc.rep K F (g i j) (f i j))
    (ha : EvP Y s a (pu i)) (hb : EvP Y s b (pu j)) (hc : C i j) : EvP Y s e (pu (f i j)) :=
  .of (ev_ints P hg (.of ha ⟨i, rfl, .of hb ⟨j, rfl, hc, rfl, rfl⟩⟩))
theorem ev_ints0 {Q : Pv → DSt → Prop} {α : Type} [Enc α] {g : Int → Int → V} {f : Int → Int → α} (P : PE Y.X e (tOp (rI0 g) (WE Y.X a) (WE Y.X b))) (hg : ∀ K F i j, Enc.rep K F (g i j) (f i j))
    (h : Ev Y s a fun A s1 => ∃ i : Int, A = pu i ∧ Ev Y s1 b fun B s2 => ∃ j : Int, B = pu j ∧ Q (pu (f i j)) s2) : Ev Y s e Q :=
  ev2 P (h.mono fun A s1 ⟨i, ea, h1⟩ => h1.mono fun B s2 ⟨j, eb, q⟩ F0 σ H F v u e0 S rv ru => by
    subst ea eb
    exact ⟨i, j, rv, ru, _, s2, F, e0, hg _ _ _ _, S, q⟩)
theorem evp_ints0 {α : Type} [Enc α] {g : Int → Int → V} {f : Int → Int → α} {i j : Int} (P : PE Y.X e (tOp (rI0 g) (WE Y.X a) (WE Y.X b))) (hg : ∀ K F i j, Enc.rep K F (g i j) (f i j))
    (ha : EvP Y s a (pu i)) (hb : EvP Y s b (pu j)) : EvP Y s e (pu (f i j)) :=
  .of (ev_ints0 P hg (.of ha ⟨i, rfl, .of hb ⟨j, rfl, rfl, rfl⟩⟩))
section
variable {i j : Int} {Q : Pv → DSt → Prop}
theorem evp_add (ha : EvP Y s a (pu i)) (hb : EvP Y s b (pu j)) : EvP Y s (.BinOp a .Add b pos) (pu (i + j)) := evp_ints0 (f := fun i j => i + j) (pe_op op_add pe_we pe_we) (fun _ _ _ _ => rfl) ha hb
theorem evp_sub (ha : EvP Y s a (pu i)) (hb : EvP Y s b (pu j)) : EvP Y s (.BinOp a .Sub b pos) (pu (i - j)) := evp_ints0 (f := fun i j => i - j) (pe_op op_sub pe_we pe_we) (fun _ _ _ _ => rfl) ha hb
theorem evp_mul (ha : EvP Y s a (pu i)) (hb : EvP Y s b (pu j)) (hc : CMul i j) : EvP Y s (.BinOp a .Mult b pos) (pu (i * j)) := evp_ints (f := fun i j => i * j) (pe_op op_mul pe_we pe_we) (fun _ _ _ _ => rfl) ha hb hc
theorem evp_mod (ha : EvP Y s a (pu i)) (hb : EvP Y s b (pu j)) (hc : 0 < j) : EvP Y s (.BinOp a .Mod b pos) (pu (i % j)) := evp_ints (f := fun i j => i % j) (pe_op op_mod pe_we pe_we) (fun _ _ _ _ => rfl) ha hb hc
theorem evp_fdiv (ha : EvP Y s a (pu i)) (hb : EvP Y s b (pu j)) (hc : CDiv i j) : EvP Y s (.BinOp a .FloorDiv b pos) (pu (i / j)) := evp_ints (f := fun i j => i / j) (pe_op op_fdiv pe_we pe_we) (fun _ _ _ _ => rfl) ha hb hc
theorem evp_pow (ha : EvP Y s a (pu i)) (hb : EvP Y s b (pu j)) (hc : CPow i j) : EvP Y s (.BinOp a .Pow b pos) (pu (i ^ j.toNat)) := evp_ints (f := fun i j => i ^ j.toNat) (pe_op op_pow pe_we pe_we) (fun _ _ _ _ => rfl) ha hb hc
theorem ev_add (h : Ev Y s a fun A s1 => ∃ i : Int, A = pu i ∧ Ev Y s1 b fun B s2 => ∃ j : Int, B = pu j ∧ Q (pu (i + j)) s2) : Ev Y s (.BinOp a .Add b pos) Q := ev_ints0 (f := fun i j => i + j) (pe_op op_add pe_we pe_we) (fun _ _ _ _ => rfl) h
theorem ev_sub (h : Ev Y s a fun A s1 => ∃ i : Int, A = pu i ∧ Ev Y s1 b fun B s2 => ∃ j : Int, B = pu j ∧ Q (pu (i - j)) s2) : Ev Y s (.BinOp a .Sub b pos) Q := ev_ints0 (f := fun i j => i - j) (pe_op op_sub pe_we pe_we) (fun _ _ _ _ => rfl) h
theorem evp_lt (ha : EvP Y s a (pu i)) (hb : EvP Y s b (pu j)) : EvP Y s (.Compare a [.Lt] [b] pos) (pu (decide (i < j))) := evp_ints0 (f := fun i j => decide (i < j)) (pe_cmpR op_lt pe_we pe_we (nomark _)) (fun _ _ _ _ => rfl) ha hb
theorem evp_le (ha : EvP Y s a (pu i)) (hb : EvP Y s b (pu j)) : EvP Y s (.Compare a [.LtE] [b] pos) (pu (decide (i ≤ j))) := evp_ints0 (f := fun i j => decide (i ≤ j)) (pe_cmpR op_le pe_we pe_we (nomark _)) (fun _ _ _ _ => rfl) ha hb
theorem evp_gt (ha : EvP Y s a (pu i)) (hb : EvP Y s b (pu j)) : EvP Y s (.Compare a [.Gt] [b] pos) (pu (decide (j < i))) := evp_ints0 (f := fun i j => decide (j < i)) (pe_cmpR op_gt pe_we pe_we (nomark _)) (fun _ _ _ _ => rfl) ha hb
theorem evp_ge (ha : EvP Y s a (pu i)) (hb : EvP Y s b (pu j)) : EvP Y s (.Compare a [.GtE] [b] pos) (pu (decide (j ≤ i))) := evp_ints0 (f := fun i j => decide (j ≤ i)) (pe_cmpR op_ge pe_we pe_we (nomark _)) (fun _ _ _ _ => rfl) ha hb
end
end
end Sp
set_option maxHeartbeats 4000000
/-! Sp: data as the model's own data: ==, <, sorting. -/
namespace Sp
open PySem L2
open PySem.W (Datum DatumOrd SomeDatum Holds HoldAll)
instance txtDatum : Datum (List Nat) where
  toD x := .str (toStr x)
  plain _ := rfl
  eqv a b := by
    simp only [PyData.eqv]
    rw [Bool.eq_iff_iff, beq_iff_eq, decide_eq_true_eq]
    exact ⟨toStr_inj, fun h => by rw [h]⟩
  depth := 0
  depth_le _ := Nat.le_refl _
instance txtOrd : DatumOrd (List Nat) where
  toDatum := txtDatum
  lt a b := decide (a < b)
  alike a b := DatumOrd.alike (toStr a) (toStr b)
  notNone a := DatumOrd.notNone (toStr a)
  lt_eq a b := by
    have h := DatumOrd.lt_eq (toStr a) (toStr b)
    refine h.trans ?_
    show decide ((toStr a).cps.toList < (toStr b).cps.toList) = _
    rw [toStr_cps, toStr_cps]
instance : SomeDatum (List Nat) := ⟨fun _ => by show PyData.eqv .none (.str _) = false; simp only [PyData.eqv], fun _ => by show PyData.eqv (.str _) .none = false; simp only [PyData.eqv]⟩
/-- never equal -/
class Dne (α β : Type) [DecidableEq α] [DecidableEq β] [Datum α] [Datum β] : Prop where
  ne : ∀ (a : α) (b : β), PyData.eqv (Datum.toD a) (Datum.toD b) = false
  ne' : ∀ (a : α) (b : β), PyData.eqv (Datum.toD b) (Datum.toD a) = false
section
variable {α β γ δ : Type} [DecidableEq α] [Datum α] [DecidableEq β] [Datum β] [DecidableEq γ] [Datum γ] [DecidableEq δ] [Datum δ]
instance sumDatum [Dne α β] : Datum (α ⊕ β) where
  toD x := match x with
    | .inl a => Datum.toD a
    | .inr b => Datum.toD b
  plain x := by
    cases x with
    | inl a => exact Datum.plain a
    | inr b => exact Datum.plain b
  eqv x y := by
    cases x with
    | inl a =>
      cases y with
      | inl b => show PyData.eqv (Datum.toD a) (Datum.toD b) = _; rw [Datum.eqv]; simp
      | inr b => show PyData.eqv (Datum.toD a) (Datum.toD b) = _; rw [Dne.ne]; simp
    | inr a =>
      cases y with
      | inl b => show PyData.eqv (Datum.toD a) (Datum.toD b) = _; rw [Dne.ne']; simp
      | inr b => show PyData.eqv (Datum.toD a) (Datum.toD b) = _; rw [Datum.eqv]; simp
  depth := max (Datum.depth α) (Datum.depth β)
  depth_le x := by
    cases x with
    | inl a => exact Nat.le_trans (Datum.depth_le a) (Nat.le_max_left _ _)
    | inr b => exact Nat.le_trans (Datum.depth_le b) (Nat.le_max_right _ _)
instance : Dne Int (List Nat) := ⟨fun _ _ => rfl, fun _ _ => rfl⟩
instance : Dne Bool (List Nat) := ⟨fun _ _ => rfl, fun _ _ => rfl⟩
instance : Dne Unit (List Nat) := ⟨fun _ _ => rfl, fun _ _ => rfl⟩
instance : Dne (List α) (List Nat) := ⟨fun _ _ => rfl, fun _ _ => rfl⟩
instance : Dne (Tup α) (List Nat) := ⟨fun _ _ => rfl, fun _ _ => rfl⟩
instance : Dne (α × β) (List Nat) := ⟨fun _ _ => rfl, fun _ _ => rfl⟩
instance : Dne (T3 α β γ) (List Nat) := ⟨fun _ _ => rfl, fun _ _ => rfl⟩
instance : Dne (T4 α β γ δ) (List Nat) := ⟨fun _ _ => rfl, fun _ _ => rfl⟩
instance [SomeDatum α] [Dne α (List Nat)] : Dne (Option α) (List Nat) := ⟨fun a b => by cases a with
  | none => rfl
  | some a => exact Dne.ne a b, fun a b => by cases a with
  | none => rfl
  | some a => exact Dne.ne' a b⟩
end
/-- how a value stands for its data -/
class Dat (α : Type) [DecidableEq α] [Datum α] [Enc α] : Prop where
  dp : ∀ {K : Frag} {F : Hp} {v : V} {a : α}, Enc.rep K F v a → Dp K F v (Datum.toD a)
instance : Dat Int := ⟨fun h => by cases h; exact .int _⟩
instance : Dat Bool := ⟨fun h => by cases h; exact .bl _⟩
instance : Dat Unit := ⟨fun h => by cases h; exact .non⟩
instance datTxt : Dat (List Nat) := ⟨fun h => by cases h; exact .str _⟩
section
variable {α β γ δ : Type} [DecidableEq α] [Datum α] [Enc α] [Dat α] [DecidableEq β] [Datum β] [Enc β] [Dat β] [DecidableEq γ] [Datum γ] [Enc γ] [Dat γ] [DecidableEq δ] [Datum δ] [Enc δ] [Dat δ]
theorem dpAll {K : Frag} {F : Hp} {vs : List V} {xs : List α} (h : Vs K F vs xs) : DpAll K F vs (xs.map Datum.toD) := by
  induction h with
  | nil => exact .nil
  | cons r _ ih => exact .cons (Dat.dp r) ih
instance datList : Dat (List α) := ⟨fun ⟨p, vs, h1, h2, h3⟩ => by subst h1; exact .lst h2 (dpAll h3)⟩
instance : Dat (Tup α) := ⟨fun ⟨p, vs, h1, h2, h3⟩ => by subst h1; exact .tup h2 (dpAll h3)⟩
instance : Dat (α × β) := ⟨fun ⟨p, a, b, h1, h2, h3, h4⟩ => by subst h1; exact .tup h2 (.cons (Dat.dp h3) (.cons (Dat.dp h4) .nil))⟩
instance : Dat (T3 α β γ) := ⟨fun ⟨p, a, b, c, h1, h2, h3, h4, h5⟩ => by subst h1; exact .tup h2 (.cons (Dat.dp h3) (.cons (Dat.dp h4) (.cons (Dat.dp h5) .nil)))⟩
instance : Dat (T4 α β γ δ) := ⟨fun ⟨p, a, b, c, d, h1, h2, h3, h4, h5, h6⟩ => by subst h1; exact .tup h2 (.cons (Dat.dp h3) (.cons (Dat.dp h4) (.cons (Dat.dp h5) (.cons (Dat.dp h6) .nil))))⟩
instance [SomeDatum α] : Dat (Option α) := ⟨fun {K F v a} h => by
  cases a with
  | none => cases h; exact .non
  | some a => exact Dat.dp (α := α) h⟩
instance datSum [Dne α β] : Dat (α ⊕ β) := ⟨fun {K F v a} h => by
  cases a with
  | inl a => exact Dat.dp (α := α) h
  | inr a => exact Dat.dp (α := β) h⟩
theorem enc_holds {X : Cx} {pins : List (Addr × Obj)} {σ : St} {H : Hp} {s : Shared} {v : V} {u : Value} {a : α} (I : Inv X pins σ H s) (r : Enc.rep X.K H v a) (rv : RelV v u) : Holds s.heap u a := Dp.reads I _ v u (Dat.dp r) rv
theorem vs_holds {X : Cx} {pins : List (Addr × Obj)} {σ : St} {H : Hp} {s : Shared} {vs : List V} {us : List Value} {xs : List α} (I : Inv X pins σ H s) (r : Vs X.K H vs xs) (rv : Vals vs us) : HoldAll s.heap us xs := Dp.readsAll I _ vs us (dpAll r) rv
end
/-- sorted(xs) -/
def srt {α : Type} [DecidableEq α] [DatumOrd α] (xs : List α) : List α := xs.mergeSort fun a b => !DatumOrd.lt b a

/-! ### the rules over heaps -/
section
variable {X : Cx} {α β : Type} [DecidableEq α] [Enc α]
/-- y is a list that holds xs just now -/
def LRd (K : Frag) (H : Hp) (y : V) (xs : List α) : Prop := ∃ p zs, y = .ref p ∧ SqL K H p zs ∧ Vs K H zs xs
section
variable [Datum α] [Dat α]
theorem op_eqT (hu : X.A.units + 64 < cLine) (hd : Datum.depth α ≤ 60) : OpR X (compareOp .Eq) (fun x y H Q => ∃ a b : α, Enc.rep X.K H x a ∧ Enc.rep X.K H y b ∧ Q (.bl (decide (a = b))) H) := by
  intro pins s σ H x y v u Q I rx ry ⟨a, b, ha, hb, q⟩
  exact PySem.W.eq_datum (enc_holds I ha rx) (enc_holds I hb ry) (by omega) ⟨.bl _, H, I, rfl, q⟩
theorem op_neT (hu : X.A.units + 64 < cLine) (hd : Datum.depth α ≤ 60) : OpR X (compareOp .NotEq) (fun x y H Q => ∃ a b : α, Enc.rep X.K H x a ∧ Enc.rep X.K H y b ∧ Q (.bl (decide (a ≠ b))) H) := by
  intro pins s σ H x y v u Q I rx ry ⟨a, b, ha, hb, q⟩
  exact PySem.W.ne_datum (enc_holds I ha rx) (enc_holds I hb ry) (by omega) ⟨.bl _, H, I, rfl, q⟩
theorem op_inT (hu : X.A.units + 64 < cLine) (hd : Datum.depth α ≤ 60) : OpR X (compareOp .In) (fun x y H Q => ∃ (a : α) (xs : List α), Enc.rep X.K H x a ∧ LRd X.K H y xs ∧ Q (.bl (decide (a ∈ xs))) H) := by
  intro pins s σ H x y v u Q I rx ry ⟨a, xs, ha, ⟨p, zs, e, hq, hz⟩, q⟩
  subst e
  obtain ⟨its, rv, hl, _⟩ := I.list hq
  cases ry
  exact PySem.W.in_list_datum (vs := its.toArray) hl.isList (vs_holds I hz rv) (enc_holds I ha rx) (by omega) ⟨.bl _, H, I, rfl, q⟩
theorem op_ninT (hu : X.A.units + 64 < cLine) (hd : Datum.depth α ≤ 60) : OpR X (compareOp .NotIn) (fun x y H Q => ∃ (a : α) (xs : List α), Enc.rep X.K H x a ∧ LRd X.K H y xs ∧ Q (.bl (decide (a ∉ xs))) H) := by
  intro pins s σ H x y v u Q I rx ry ⟨a, xs, ha, ⟨p, zs, e, hq, hz⟩, q⟩
  subst e
  obtain ⟨its, rv, hl, _⟩ := I.list hq
  cases ry
  exact PySem.W.notIn_list_datum (vs := its.toArray) hl.isList (vs_holds I hz rv) (enc_holds I ha rx) (by omega) ⟨.bl _, H, I, rfl, q⟩
theorem op_inH (hu : X.A.units + 64 < cLine) (hd : Datum.depth α ≤ 60) : OpR X (compareOp .In) (fun x y H Q => ∃ (a : α) (xs : Tup α), Enc.rep X.K H x a ∧ Enc.rep X.K H y xs ∧ Q (.bl (decide (a ∈ xs.items))) H) := by
  intro pins s σ H x y v u Q I rx ry ⟨a, xs, ha, ⟨p, zs, e, hq, hz⟩, q⟩
  subst e
  obtain ⟨its, rv, hl, _⟩ := I.tuple hq
  cases ry
  exact PySem.W.in_tuple_datum (vs := its.toArray) hl (vs_holds I hz rv) (enc_holds I ha rx) (by omega) ⟨.bl _, H, I, rfl, q⟩
theorem op_ninH (hu : X.A.units + 64 < cLine) (hd : Datum.depth α ≤ 60) : OpR X (compareOp .NotIn) (fun x y H Q => ∃ (a : α) (xs : Tup α), Enc.rep X.K H x a ∧ Enc.rep X.K H y xs ∧ Q (.bl (decide (a ∉ xs.items))) H) := by
  intro pins s σ H x y v u Q I rx ry ⟨a, xs, ha, ⟨p, zs, e, hq, hz⟩, q⟩
  subst e
  obtain ⟨its, rv, hl, _⟩ := I.tuple hq
  cases ry
  exact PySem.W.notIn_tuple_datum (vs := its.toArray) hl (vs_holds I hz rv) (enc_holds I ha rx) (by omega) ⟨.bl _, H, I, rfl, q⟩
/-- without the first x -/
abbrev eras (xs : List α) (x : α) : List α := xs.erase x
/-- x's first place -/
abbrev idx (xs : List α) (x : α) : Nat := xs.idxOf x
/-- how often -/
abbrev cnt (xs : List α) (x : α) : Nat := xs.countP fun y => decide (y = x)
theorem mt_countT (hu : X.A.units + 64 < cLine) (hd : Datum.depth α ≤ 60) : MtR X "list.count" (fun y vs H Q => ∃ (a : α) (xs : List α) (x : V), vs = [x] ∧ Enc.rep X.K H x a ∧ LRd X.K H y xs ∧ Q (.int (cnt xs a : Nat)) H) := by
  intro pins s σ H y vs u us Q I ry rxs ⟨a, xs, x, ev, ha, ⟨p, zs, e, hq, hz⟩, q⟩
  subst e ev
  obtain ⟨ux, rfl, rx⟩ := rxs.one
  obtain ⟨its, rv, hl, _⟩ := I.list hq
  cases ry
  exact PySem.W.count_list_datum (vs := its.toArray) hl.isList (vs_holds I hz rv) (enc_holds I ha rx) (by omega) ⟨.int _, H, I.tok _, ⟨_, rfl⟩, q⟩
theorem mt_indexT (hu : X.A.units + 64 < cLine) (hd : Datum.depth α ≤ 60) : MtR X "list.index" (fun y vs H Q => ∃ (a : α) (xs : List α) (x : V), vs = [x] ∧ Enc.rep X.K H x a ∧ LRd X.K H y xs ∧ a ∈ xs ∧ Q (.int (xs.idxOf a : Nat)) H) := by
  intro pins s σ H y vs u us Q I ry rxs ⟨a, xs, x, ev, ha, ⟨p, zs, e, hq, hz⟩, hm, q⟩
  subst e ev
  obtain ⟨ux, rfl, rx⟩ := rxs.one
  obtain ⟨its, rv, hl, hlen⟩ := I.list hq
  cases ry
  have hls : xs.length = zs.length := (Paired.length hz).symm
  exact PySem.W.index_list_datum (vs := its) hl.isList (vs_holds I hz rv) (enc_holds I ha rx) (by omega) (by omega) hm ⟨.int _, H, I.tok _, ⟨_, rfl⟩, q⟩
theorem erase_place {x : α} : ∀ {xs : List α}, x ∈ xs → ∃ j : Nat, xs[j]? = some x ∧ (∀ m, m < j → xs[m]? ≠ some x) ∧ xs.erase x = xs.eraseIdx j
  | [], h => by cases h
  | y :: ys, h => by
    by_cases e : y = x
    · subst e
      exact ⟨0, rfl, fun m hm => absurd hm (Nat.not_lt_zero _), by simp⟩
    · have h' : x ∈ ys := (List.mem_cons.mp h).resolve_left fun q => e q.symm
      obtain ⟨j, h1, h2, h3⟩ := erase_place h'
      refine ⟨j + 1, by simpa using h1, fun m hm => ?_, ?_⟩
      · cases m with
        | zero => simpa using e
        | succ m => simpa using h2 m (by omega)
      · rw [List.erase_cons_tail (by simpa using e), h3]
        rfl
theorem mt_removeT (hu : X.A.units + 64 < cLine) (hd : Datum.depth α ≤ 60) : MtR X "list.remove" (fun y vs H Q => ∃ (a : α) (xs : List α) (x : V) (p : Addr) (zs : List V), vs = [x] ∧ y = .ref p ∧ Enc.rep X.K H x a ∧ H p = some (.lst zs) ∧ Vs X.K H zs xs ∧ a ∈ xs ∧
    ∀ zs', Vs X.K H zs' (xs.erase a) → Q .non (upd H p (.lst zs'))) := by
  intro pins s σ H y vs u us Q I ry rxs ⟨a, xs, x, p, zs, ev, e, ha, hp, hz, hm, q⟩
  subst e ev
  obtain ⟨ux, rfl, rx⟩ := rxs.one
  obtain ⟨z, its, n, rv, hl, eo⟩ := I.lstM hp
  cases ry
  obtain ⟨j, h1, h2, h3⟩ := erase_place hm
  refine PySem.W.remove_list_datum (vs := its.toArray) ⟨_, eo, rfl, n, rfl⟩ (vs_holds I hz rv) (enc_holds I ha rx) (by omega) h1 h2 (by rw [List.size_toArray]; omega) ?_
  have hj : j < xs.length := (List.getElem?_eq_some_iff.mp h1).1
  have hls : xs.length = zs.length := (Paired.length hz).symm
  refine ⟨.non, upd H p (.lst (zs.eraseIdx j)), I.lset (its' := its.eraseIdx j) (t' := s.toks) hp eo ?_ (rv.eraseIdx j) ?_, rfl, q _ ?_⟩
  · rw [List.eraseIdxIfInBounds_toArray]
  · rw [List.length_eraseIdx]
    split <;> omega
  · rw [h3]
    exact prd_erase hz j
/-! sorted, min, max, sum, +, list, join -/
theorem each_of {K : Frag} {H : Hp} : ∀ {zs : List V} {its : List Value} {xs : List α}, Vs K H zs xs → Vals zs its → PySem.W.EachIs (fun u a => ∃ z, Enc.rep K H z a ∧ RelV z u) its xs
  | _, _, _, .nil, h => by cases h; exact .nil
  | _, _, _, .cons r t, h => by
    cases h with
    | cons r2 t2 => exact .cons ⟨_, r, r2⟩ (each_of t t2)
theorem each_back {K : Frag} {H : Hp} : ∀ {its : List Value} {xs : List α}, PySem.W.EachIs (fun u a => ∃ z, Enc.rep K H z a ∧ RelV z u) its xs → ∃ zs, Vs K H zs xs ∧ Vals zs its
  | _, _, .nil => ⟨[], .nil, .nil⟩
  | _, _, .cons ⟨z, r1, r2⟩ t => by
    obtain ⟨zs, h1, h2⟩ := each_back t
    exact ⟨z :: zs, .cons r1 h1, .cons r2 h2⟩
end
/-- what can be sorted -/
class Srtb (α : Type) [DecidableEq α] [Datum α] : Prop where
  kd : (∀ a : α, ∃ x r, Datum.toD a = .tuple (x :: r)) ∨ ∀ a : α, Datum.toD a ≠ .none ∧ ∀ xs, Datum.toD a ≠ .tuple xs
instance : Srtb Int := ⟨.inr fun _ => ⟨(by intro h; cases h), (by intro _ h; cases h)⟩⟩
instance : Srtb (List Nat) := ⟨.inr fun _ => ⟨(by intro h; cases h), (by intro _ h; cases h)⟩⟩
section
variable {γ ε : Type} [DecidableEq β] [DecidableEq γ] [DecidableEq ε] [Datum α] [Datum β] [Datum γ] [Datum ε]
instance : Srtb (List α) := ⟨.inr fun _ => ⟨(by intro h; cases h), (by intro _ h; cases h)⟩⟩
instance : Srtb (α × β) := ⟨.inl fun _ => ⟨_, _, rfl⟩⟩
instance : Srtb (T3 α β γ) := ⟨.inl fun _ => ⟨_, _, rfl⟩⟩
instance : Srtb (T4 α β γ ε) := ⟨.inl fun _ => ⟨_, _, rfl⟩⟩
end
section
variable [DatumOrd α] [Dat α]
theorem sort_alike (xs : List α) : PySem.W.AllAlike (xs.map Datum.toD) := fun d hd e he => by
  obtain ⟨a, _, rfl⟩ := List.mem_map.mp hd
  obtain ⟨b, _, rfl⟩ := List.mem_map.mp he
  exact DatumOrd.alike a b
theorem sort_able [Srtb α] (xs : List α) : PySem.W.Sortable (xs.map Datum.toD) := by
  rcases Srtb.kd (α := α) with k | k
  · refine .inl fun d hd => ?_
    obtain ⟨a, _, rfl⟩ := List.mem_map.mp hd
    exact k a
  · refine .inr fun d hd => ?_
    obtain ⟨a, _, rfl⟩ := List.mem_map.mp hd
    exact k a
theorem srt_eq (xs : List α) : xs.mergeSort (PySem.W.dataLe false Datum.toD) = srt xs := by
  unfold srt
  congr 1
  funext a b
  show (!PySem.W.dataLt (Datum.toD b) (Datum.toD a)) = _
  rw [DatumOrd.lt_eq]
theorem cr_sortedT [Srtb α] (hu : X.A.units + 64 < cLine) (hd : Datum.depth α ≤ 60) : CallR X (.builtin "sorted") (fun vs H Q => ∃ y, ∃ xs : List α, vs = [y] ∧ LRd X.K H y xs ∧ ∀ p zs, H p = none → Vs X.K H zs (srt xs) → Q (.ref p) (upd H p (.lst zs))) := by
  intro pins s σ H vs us Q I r ⟨y, xs, ev, ⟨p, zs, e, hq, hz⟩, q⟩
  subst e ev
  obtain ⟨its, rv, hl, hlen⟩ := I.list hq
  obtain ⟨u, rfl, ru⟩ := vals1 r
  cases ru
  have hls : zs.length = xs.length := Paired.length hz
  have e0 := each_of hz rv
  refine PySem.W.sorted_data (enc := Datum.toD) hl.isList e0 (e0.mono fun u a ⟨z, r1, r2⟩ => enc_holds I r1 r2) (sort_alike xs) (sort_able xs) (by omega) (fun b _ => by have := Datum.depth_le b; omega) fun out h1 h2 => ?_
  rw [srt_eq] at h2
  obtain ⟨zs', h3, h4⟩ := each_back h2
  obtain ⟨ep, he'⟩ := PyProof.Rows.sortedAll_at s.heap its out.toArray
  have hl4 : zs'.length = out.length := Paired.length h4
  exact ⟨.ref _, upd H (s.heap.objs.size + 1) (.lst zs'), I.laid (t' := s.toks) (fun _ _ => PyProof.Rows.sortedAll_old) (Nat.le_succ _) ⟨by omega, out, ep, h4, he'⟩, rfl, q _ zs' (I.hok.fresh (Nat.le_succ _)) h3⟩
theorem toD_inj {a b : α} (h : Datum.toD a = Datum.toD b) : a = b := by
  have h1 := Datum.eqv a b
  have h2 := Datum.eqv a a
  rw [h] at h2
  rw [h] at h1
  rw [h1] at h2
  simpa using h2
theorem holds_one {h : Heap} {v : Value} {a b : α} (x : Holds h v a) (y : Holds h v b) : a = b := by
  obtain ⟨as, r⟩ := x
  obtain ⟨bs, r2⟩ := y
  have e1 := SeqAt.readOf_plain (Datum.plain a) r
  have e2 := SeqAt.readOf_plain (Datum.plain b) r2
  exact toD_inj (e1.symm.trans e2)
/-- an item that holds what is wanted -/
theorem pick {pins : List (Addr × Obj)} {σ : St} {H : Hp} {s : Shared} {h' : Heap} {tk : Nat} {zs : List V} {its : List Value} {xs : List α} {i : Nat} {v : Value} {m : α} (I : Inv X pins σ H { s with heap := h', toks := tk }) (hz : Vs X.K H zs xs) (rv : Vals zs its) (hv : its[i]? = some v) (hm : Holds h' v m) :
    ∃ z, Enc.rep X.K H z m ∧ RelV z v := by
  have hi : i < its.length := (List.getElem?_eq_some_iff.mp hv).1
  have e1 : zs.length = its.length := Paired.length rv
  have e2 : zs.length = xs.length := Paired.length hz
  obtain ⟨z, h1, r1⟩ := prd_get hz (i := i) (y := xs[i]'(by omega)) (List.getElem?_eq_getElem _)
  obtain ⟨u, h2, r2⟩ := rv.get h1
  rw [hv] at h2
  cases h2
  have := holds_one (h := h') (enc_holds I r1 r2) hm
  rw [this] at r1
  exact ⟨z, r1, r2⟩
theorem cr_minT (hc : X.calm = true) (hu : X.A.units + 64 < cLine) (hd : Datum.depth α ≤ 60) : CallR X (.builtin "min") (fun vs H Q => ∃ y x, ∃ xs : List α, vs = [y] ∧ LRd X.K H y (x :: xs) ∧ ∀ z, Enc.rep X.K H z (PySem.W.minOf x xs) → Q z H) := by
  intro pins s σ H vs us Q I r ⟨y, x, xs, ev, ⟨p, zs, e, hq, hz⟩, q⟩
  subst e ev
  obtain ⟨its, rv, hl, hlen⟩ := I.list hq
  obtain ⟨u, rfl, ru⟩ := vals1 r
  cases ru
  refine PySem.W.min_list_datum (vs := its.toArray) (I.ok.hd hc) hl.isList (vs_holds I hz rv) (by omega) fun i v h' tk hv hm hk => ?_
  have J := I.kept (t' := tk) hk
  obtain ⟨z, r1, r2⟩ := pick J hz rv (by simpa using hv) hm
  exact ⟨z, H, J, r2, q z r1⟩
theorem cr_maxT (hc : X.calm = true) (hu : X.A.units + 64 < cLine) (hd : Datum.depth α ≤ 60) : CallR X (.builtin "max") (fun vs H Q => ∃ y x, ∃ xs : List α, vs = [y] ∧ LRd X.K H y (x :: xs) ∧ ∀ z, Enc.rep X.K H z (PySem.W.maxOf x xs) → Q z H) := by
  intro pins s σ H vs us Q I r ⟨y, x, xs, ev, ⟨p, zs, e, hq, hz⟩, q⟩
  subst e ev
  obtain ⟨its, rv, hl, hlen⟩ := I.list hq
  obtain ⟨u, rfl, ru⟩ := vals1 r
  cases ru
  refine PySem.W.max_list_datum (vs := its.toArray) (I.ok.hd hc) hl.isList (vs_holds I hz rv) (by omega) fun i v h' tk hv hm hk => ?_
  have J := I.kept (t' := tk) hk
  obtain ⟨z, r1, r2⟩ := pick J hz rv (by simpa using hv) hm
  exact ⟨z, H, J, r2, q z r1⟩
end
theorem vs_ints {K : Frag} {H : Hp} : ∀ {zs : List V} {ns : List Int}, Vs K H zs ns → zs = ns.map V.int
  | _, _, .nil => rfl
  | _, _, .cons r t => by rw [List.map_cons, ← vs_ints t]; congr 1
theorem vs_txts {K : Frag} {H : Hp} : ∀ {zs : List V} {ns : List (List Nat)}, Vs K H zs ns → zs = (ns.map toStr).map V.str
  | _, _, .nil => rfl
  | _, _, .cons r t => by rw [List.map_cons, List.map_cons, ← vs_txts t]; congr 1
theorem cr_sumT (hc : X.calm = true) : CallR X (.builtin "sum") (fun vs H Q => ∃ y, ∃ ns : List Int, vs = [y] ∧ LRd X.K H y ns ∧ Q (.int ns.sum) H) := by
  intro pins s σ H vs us Q I r ⟨y, ns, ev, ⟨p, zs, e, hq, hz⟩, q⟩
  subst e ev
  rw [vs_ints hz] at hq
  exact cr_sum hc pins s σ H _ us Q I r ⟨p, ns, rfl, hq, q⟩
theorem op_catL : OpR X (binaryOp .Add) (fun x y H Q => ∃ xs ys : List α, LRd X.K H x xs ∧ LRd X.K H y ys ∧ xs.length + ys.length ≤ sizeLine ∧ ∀ p zs, H p = none → Vs X.K H zs (xs ++ ys) → Q (.ref p) (upd H p (.lst zs))) := by
  intro pins s σ H x y v u Q I rx ry ⟨xs, ys, ⟨p, zs, e, hq, hz⟩, ⟨p2, zs2, e2, hq2, hz2⟩, hs, q⟩
  subst e e2
  obtain ⟨its, rv, hl, hlen⟩ := I.list hq
  obtain ⟨its2, rv2, hl2, hlen2⟩ := I.list hq2
  obtain ⟨⟨cls, dd, data, sl⟩, ho, hc, n, hd⟩ := hl.isList
  obtain ⟨⟨cls2, dd2, data2, sl2⟩, ho2, hc2, n2, hd2⟩ := hl2.isList
  simp only at hc hd hc2 hd2
  subst hc hd hc2 hd2
  cases rx
  cases ry
  have e : its.toArray ++ its2.toArray = (its ++ its2).toArray := by simp
  have h1 : zs.length = its.length := Paired.length rv
  have h2 : zs2.length = its2.length := Paired.length rv2
  have h3 : zs.length = xs.length := Paired.length hz
  have h4 : zs2.length = ys.length := Paired.length hz2
  refine concat_meets ⟨_, ho, rfl⟩ ⟨_, ho2, rfl⟩ noFill_list_add seq_list_add PySem.F.slot_list_add PySem.F.entry_list_add (PySem.F.args_list_add_2 _ _) (PyProof.Rows.list_addW p p2 its.toArray its2.toArray n n2 dd dd2 sl sl2 (by simp only [List.size_toArray]; omega)) ⟨ho, ho2, ?_⟩
  rw [e]
  exact ⟨.ref _, _, I.lnew (t' := s.toks) (rv.append rv2) (by rw [List.length_append]; omega), rfl, q _ _ I.fresh (prd_app hz hz2)⟩
theorem call_list_ofT : CallR X (.type "list") (fun vs H Q => ∃ y, ∃ xs : List α, vs = [y] ∧ (LRd X.K H y xs ∨ Enc.rep X.K H y (PySem.W.Tup.mk xs)) ∧ ∀ p zs, H p = none → Vs X.K H zs xs → Q (.ref p) (upd H p (.lst zs))) := by
  intro pins s σ H vs us Q I r ⟨y, xs, ev, hy, q⟩
  subst ev
  rcases hy with ⟨p, zs, e, hq, hz⟩ | ⟨p, zs, e, hq, hz⟩
  · subst e
    exact call_list_of pins s σ H _ us Q I r ⟨p, zs, rfl, .inl hq, fun l hl => q l zs hl hz⟩
  · subst e
    exact call_list_of pins s σ H _ us Q I r ⟨p, zs, rfl, .inr hq, fun l hl => q l zs hl hz⟩
theorem signs_vs {K : Frag} {H : Hp} : ∀ x : List Nat, Vs K H (x.map fun c => V.str (toStr [c])) (x.map fun c => [c])
  | [] => .nil
  | _ :: r => .cons rfl (signs_vs r)
theorem call_list_ofS (hc : X.calm = true) : CallR X (.type "list") (fun vs H Q => ∃ x : List Nat, vs = [.str (toStr x)] ∧ x.length ≤ sizeLine ∧ ∀ p, H p = none → Q (.ref p) (upd H p (.lst (x.map fun c => V.str (toStr [c]))))) := by
  intro pins s σ H vs us Q I r ⟨x, ev, hx, q⟩
  subst ev
  obtain ⟨u, rfl, ru⟩ := vals1 r
  obtain ⟨t, rfl⟩ := ru
  refine PySem.call_list_str (I.ok.hd hc) (toStr x) t (fun h' tk acc c hk hS hi => ?_) (by simpa [toStr] using hx)
  have hsz : acc.toList.length = x.length := by
    have := hi.1
    simpa [toStr] using this
  have hv : Vals (x.map fun c => V.str (toStr [c])) acc.toList := by
    refine prd_of (by rw [List.length_map]; omega) fun i a b ha hb => ?_
    rw [List.getElem?_map] at ha
    cases q1 : x[i]? with
    | none => rw [q1] at ha; cases ha
    | some c =>
      rw [q1] at ha
      cases ha
      obtain ⟨c', u, h8, h9⟩ := hi.2 i b (by simpa using hb)
      have : x[i]? = some c' := by simpa [toStr] using h8
      rw [q1] at this
      cases this
      exact ⟨u, h9⟩
  exact ⟨.ref _, upd H s.heap.objs.size (.lst _), I.laid (t' := tk) hk (Nat.le_refl _) ⟨by rw [List.length_map]; exact hx, acc.toList, c, hv, by simpa using hS⟩, rfl, q _ (I.hok.fresh (Nat.le_refl _))⟩
/-- texts laid end to end, a between them -/
def joinT (a : List Nat) : List (List Nat) → List Nat
  | [] => []
  | [x] => x
  | x :: y :: r => x ++ a ++ joinT a (y :: r)
end
end Sp
set_option maxHeartbeats 4000000
/-! Sp: displays, lengths, places, slices, texts. -/
namespace Sp
open PySem L2
abbrev Rvs (K : Frag) (F : Hp) : List V → List Pv → Prop := Paired fun v A => A.rep K F v
theorem Rvs.mono {K : Frag} {F F' : Hp} {vs : List V} {As : List Pv} (h : Rvs K F vs As) (e : Ext F F') : Rvs K F' vs As := Paired.mapP h fun _ _ r => Pv.mono _ r e
/-- an argument list by data -/
def Evs (Y : DX) (s : DSt) (es : List Expr) (Q : List Pv → DSt → Prop) : Prop :=
  ∀ F0 σ H F, Ext F0 F → Sta Y s σ H F → WA Y.X es σ H fun vs H' => ∃ As s' F', Ext F0 F' ∧ Rvs Y.X.K F' vs As ∧ Sta Y s' σ H' F' ∧ Q As s'
section
variable {Y : DX} {s : DSt} {e a b c : Expr} {es : List Expr} {pos : Pos} {Q : Pv → DSt → Prop}
theorem evs_nil {Q : List Pv → DSt → Prop} (h : Q [] s) : Evs Y s [] Q := fun F0 σ H F e0 S => .of pa_nil ⟨[], s, F, e0, .nil, S, h⟩
theorem evs_cons {Q : List Pv → DSt → Prop} (h : Ev Y s e fun A s1 => Evs Y s1 es fun As s2 => Q (A :: As) s2) (hs : starEach (e :: es) Y.X.env = (false, eval e Y.X.env) :: starEach es Y.X.env := by rfl) : Evs Y s (e :: es) Q := fun F0 σ H F e0 S => by
  refine .of (pa_cons pe_we pa_wa hs) ?_
  refine (h F σ H F (.refl _) S).mono fun v H1 ⟨A, s1, F1, e1, r1, S1, q1⟩ => ?_
  refine (q1 F1 σ H1 F1 (.refl _) S1).mono fun vs H2 ⟨As, s2, F2, e2, r2, S2, q2⟩ => ?_
  exact ⟨A :: As, s2, F2, (e0.trans e1).trans e2, .cons (A.mono r1 e2) r2, S2, q2⟩
/-- quietly -/
def EvsP (Y : DX) (s : DSt) (es : List Expr) (As : List Pv) : Prop :=
  ∀ F0 σ H F, Ext F0 F → Sta Y s σ H F → WA Y.X es σ H fun vs H' => ∃ F', Ext F0 F' ∧ Rvs Y.X.K F' vs As ∧ Sta Y s σ H' F'
theorem Evs.of {As : List Pv} {Q : List Pv → DSt → Prop} (h : EvsP Y s es As) (q : Q As s) : Evs Y s es Q := fun F0 σ H F e0 S => (h F0 σ H F e0 S).mono fun vs H' ⟨F', e1, r, S'⟩ => ⟨As, s, F', e1, r, S', q⟩
theorem Evs.mono {Q Q' : List Pv → DSt → Prop} (h : Evs Y s es Q) (k : ∀ A s', Q A s' → Q' A s') : Evs Y s es Q' := fun F0 σ H F e0 S => (h F0 σ H F e0 S).mono fun v H' ⟨A, s', F', e1, r, S', q⟩ => ⟨A, s', F', e1, r, S', k _ _ q⟩
theorem EvsP.of {As : List Pv} (h : Evs Y s es fun Bs s' => Bs = As ∧ s' = s) : EvsP Y s es As := fun F0 σ H F e0 S => (h F0 σ H F e0 S).mono fun v H' ⟨B, s', F', e1, r, S', q1, q2⟩ => by subst q1 q2; exact ⟨F', e1, r, S'⟩
theorem evsp_nil : EvsP Y s [] [] := .of (evs_nil ⟨rfl, rfl⟩)
theorem evsp_cons {A : Pv} {As : List Pv} (h : EvP Y s e A) (k : EvsP Y s es As) (hs : starEach (e :: es) Y.X.env = (false, eval e Y.X.env) :: starEach es Y.X.env := by rfl) : EvsP Y s (e :: es) (A :: As) :=
  .of (evs_cons (.of h (.of k ⟨rfl, rfl⟩)) hs)
section
variable {α β γ : Type} [Enc α] [Enc β] [Enc γ]
theorem rvs_pu {K : Frag} {F : Hp} {vs : List V} : ∀ {xs : List α}, Rvs K F vs (xs.map pu) → Vs K F vs xs := by
  induction vs with
  | nil =>
    intro xs h
    cases xs with
    | nil => exact .nil
    | cons x xs => cases h
  | cons v vs ih =>
    intro xs h
    cases xs with
    | nil => cases h
    | cons x xs =>
      cases h with
      | cons r t => exact .cons r (ih t)
theorem Vs.length {K : Frag} {F : Hp} {vs : List V} {xs : List α} (h : Vs K F vs xs) : vs.length = xs.length := Paired.length h
/-- what is given is laid into a new list, frozen -/
theorem po_list {σ : St} {F0 : Hp} {H F : Hp} {vs : List V} {xs : List α} (e0 : Ext F0 F) (S : Sta Y s σ H F) (r : Vs Y.X.K F vs xs) (q : Q (pu xs) s) : ∀ p, H p = none → Po Y σ F0 Q (.ref p) (upd H p (.lst vs)) := fun p hp => by
  have hF := S.free hp
  exact ⟨pu xs, s, upd F p (.lst vs), e0.trans (Ext.grow hF), ⟨p, vs, rfl, .of upd_same, r.mono (Ext.grow hF)⟩, S.newF hp rfl, q⟩
/-- .. owned -/
theorem po_listO {σ : St} {F0 : Hp} {H F : Hp} {vs : List V} {xs : List α} (e0 : Ext F0 F) (S : Sta Y s σ H F) (r : Vs Y.X.K F vs xs) (q : ∀ p, Q (raw (.ref p)) ⟨s.ρ, (p, lstc xs) :: s.gs⟩) : ∀ p, H p = none → Po Y σ F0 Q (.ref p) (upd H p (.lst vs)) := fun p hp =>
  ⟨raw (.ref p), _, F, e0, rfl, S.newO (c := lstc xs) hp rfl ⟨vs, rfl, r⟩, q p⟩
theorem po_tup {σ : St} {F0 : Hp} {H F : Hp} {vs : List V} {A : Pv} (e0 : Ext F0 F) (S : Sta Y s σ H F) (r : ∀ F' p, Ext F F' → SqT Y.X.K F' p vs → A.rep Y.X.K F' (.ref p)) (q : Q A s) : ∀ p, H p = none → Po Y σ F0 Q (.ref p) (upd H p (.tup vs)) := fun p hp => by
  have hF := S.free hp
  exact ⟨A, s, upd F p (.tup vs), e0.trans (Ext.grow hF), r _ p (Ext.grow hF) (.of upd_same), S.newF hp rfl, q⟩
theorem ev_list (h : Evs Y s es fun As s' => ∃ xs : List α, As = xs.map pu ∧ xs.length ≤ sizeLine ∧ Q (pu xs) s') : Ev Y s (.List es pos) Q := fun F0 σ H F e0 S => by
  refine .of (pe_lst pa_wa) ((h F0 σ H F e0 S).mono fun vs H1 ⟨As, s1, F1, e1, r1, S1, xs, ea, hl, q⟩ => ?_)
  subst ea
  have r := rvs_pu r1
  exact ⟨by rw [r.length]; exact hl, po_list e1 S1 r q⟩
theorem ev_listO (h : Evs Y s es fun As s' => ∃ xs : List α, As = xs.map pu ∧ xs.length ≤ sizeLine ∧ ∀ p, Q (raw (.ref p)) ⟨s'.ρ, (p, lstc xs) :: s'.gs⟩) : Ev Y s (.List es pos) Q := fun F0 σ H F e0 S => by
  refine .of (pe_lst pa_wa) ((h F0 σ H F e0 S).mono fun vs H1 ⟨As, s1, F1, e1, r1, S1, xs, ea, hl, q⟩ => ?_)
  subst ea
  have r := rvs_pu r1
  exact ⟨by rw [r.length]; exact hl, po_listO e1 S1 r q⟩
theorem evp_list {xs : List α} (h : EvsP Y s es (xs.map pu)) (hl : xs.length ≤ sizeLine := by decide) : EvP Y s (.List es pos) (pu xs) := .of (ev_list (.of h ⟨xs, rfl, hl, rfl, rfl⟩))
theorem ev_tupH (h : Evs Y s es fun As s' => ∃ xs : List α, As = xs.map pu ∧ xs.length ≤ sizeLine ∧ Q (pu (PySem.W.Tup.mk xs)) s') {k : Nat} : Ev Y s (.Tuple es k pos) Q := fun F0 σ H F e0 S => by
  refine .of (pe_tup pa_wa) ((h F0 σ H F e0 S).mono fun vs H1 ⟨As, s1, F1, e1, r1, S1, xs, ea, hl, q⟩ => ?_)
  subst ea
  have r := rvs_pu r1
  exact ⟨by rw [r.length]; exact hl, po_tup (A := pu (PySem.W.Tup.mk xs)) e1 S1 (fun F' p e' hs => ⟨p, vs, rfl, hs, r.mono e'⟩) q⟩
theorem evp_tupH {xs : List α} {k : Nat} (h : EvsP Y s es (xs.map pu)) (hl : xs.length ≤ sizeLine := by decide) : EvP Y s (.Tuple es k pos) (pu (PySem.W.Tup.mk xs)) := .of (ev_tupH (.of h ⟨xs, rfl, hl, rfl, rfl⟩))
theorem ev_tup2 (h : Evs Y s es fun As s' => ∃ (x : α) (y : β), As = [pu x, pu y] ∧ Q (pu (x, y)) s') {k : Nat} : Ev Y s (.Tuple es k pos) Q := fun F0 σ H F e0 S => by
  refine .of (pe_tup pa_wa) ((h F0 σ H F e0 S).mono fun vs H1 ⟨As, s1, F1, e1, r1, S1, x, y, ea, q⟩ => ?_)
  subst ea
  obtain ⟨v, w, rfl, rv, rw'⟩ : ∃ v w, vs = [v, w] ∧ (pu x).rep Y.X.K F1 v ∧ (pu y).rep Y.X.K F1 w := by
    cases r1 with
    | cons p q => cases q with
      | cons p' q' => cases q'; exact ⟨_, _, rfl, p, p'⟩
  exact ⟨by show 2 ≤ sizeLine; decide, po_tup (A := pu (x, y)) e1 S1 (fun F' p e' hs => ⟨p, v, w, rfl, hs, Enc.mono rv e', Enc.mono rw' e'⟩) q⟩
theorem evp_tup2 {x : α} {y : β} {k : Nat} (h : EvsP Y s es [pu x, pu y]) : EvP Y s (.Tuple es k pos) (pu (x, y)) := .of (ev_tup2 (.of h ⟨x, y, rfl, rfl, rfl⟩))
theorem ev_tup3 (h : Evs Y s es fun As s' => ∃ (x : α) (y : β) (z : γ), As = [pu x, pu y, pu z] ∧ Q (pu (PySem.W.T3.mk x y z)) s') {k : Nat} : Ev Y s (.Tuple es k pos) Q := fun F0 σ H F e0 S => by
  refine .of (pe_tup pa_wa) ((h F0 σ H F e0 S).mono fun vs H1 ⟨As, s1, F1, e1, r1, S1, x, y, z, ea, q⟩ => ?_)
  subst ea
  obtain ⟨v, w, u, rfl, rv, rw', ru⟩ : ∃ v w u, vs = [v, w, u] ∧ (pu x).rep Y.X.K F1 v ∧ (pu y).rep Y.X.K F1 w ∧ (pu z).rep Y.X.K F1 u := by
    cases r1 with
    | cons p q => cases q with
      | cons p' q' => cases q' with
        | cons p2 q2 => cases q2; exact ⟨_, _, _, rfl, p, p', p2⟩
  exact ⟨by show 3 ≤ sizeLine; decide, po_tup (A := pu (PySem.W.T3.mk x y z)) e1 S1 (fun F' p e' hs => ⟨p, v, w, u, rfl, hs, Enc.mono rv e', Enc.mono rw' e', Enc.mono ru e'⟩) q⟩
theorem evp_tup3 {x : α} {y : β} {z : γ} {k : Nat} (h : EvsP Y s es [pu x, pu y, pu z]) : EvP Y s (.Tuple es k pos) (pu (PySem.W.T3.mk x y z)) := .of (ev_tup3 (.of h ⟨x, y, z, rfl, rfl, rfl⟩))

/-! calls of built-ins with one argument, two -/
theorem evp_B1 {A B : Pv} {x : Str} {p : Pos} {id : String} {r : List V → Hp → VK → Prop} (hc : CallR Y.X (.builtin id) r) (hg : Gl Y.X x) (hm : Y.X.mg x = none) (hv : bootBuiltins x = some (.builtin id)) (ha : EvP Y s a A)
    (h : ∀ F0 σ H F v, Ext F0 F → Sta Y s σ H F → A.rep Y.X.K F v → r [v] H (Pp Y s σ F0 B)) (hn : x ≠ "__name__" := by decide) (hdb : (x == ("__debug__" : Str)) = false := by decide)
    (he : starEach [a] Y.X.env = (false, eval a Y.X.env) :: starEach [] Y.X.env := by rfl) : EvP Y s (.Call (.Name x p) [a] [] pos) B := fun F0 σ H F e0 S => by
  refine .of (pe_callB hc hg hm hv (pa_cons pe_we pa_nil he) hn hdb he (by rfl)) ?_
  refine (ha F0 σ H F e0 S).mono fun v H1 ⟨F1, e1, r1, S1⟩ => ?_
  exact h F0 σ H1 F1 v e1 S1 r1
theorem ev_B1 {x : Str} {p : Pos} {id : String} {r : List V → Hp → VK → Prop} (hc : CallR Y.X (.builtin id) r) (hg : Gl Y.X x) (hm : Y.X.mg x = none) (hv : bootBuiltins x = some (.builtin id))
    (h : Ev Y s a fun A s1 => ∀ F0 σ H F v, Ext F0 F → Sta Y s1 σ H F → A.rep Y.X.K F v → r [v] H (Po Y σ F0 Q)) (hn : x ≠ "__name__" := by decide) (hdb : (x == ("__debug__" : Str)) = false := by decide)
    (he : starEach [a] Y.X.env = (false, eval a Y.X.env) :: starEach [] Y.X.env := by rfl) : Ev Y s (.Call (.Name x p) [a] [] pos) Q := fun F0 σ H F e0 S => by
  refine .of (pe_callB hc hg hm hv (pa_cons pe_we pa_nil he) hn hdb he (by rfl)) ?_
  refine (h F0 σ H F e0 S).mono fun v H1 ⟨A, s1, F1, e1, r1, S1, q⟩ => ?_
  exact q F0 σ H1 F1 v e1 S1 r1
theorem ev_T1 {x : Str} {p : Pos} {T : String} {r : List V → Hp → VK → Prop} (hc : CallR Y.X (.type T) r) (hg : Gl Y.X x) (hm : Y.X.mg x = none) (hv : bootBuiltins x = some (.type T))
    (h : Ev Y s a fun A s1 => ∀ F0 σ H F v, Ext F0 F → Sta Y s1 σ H F → A.rep Y.X.K F v → r [v] H (Po Y σ F0 Q)) (hn : x ≠ "__name__" := by decide) (hdb : (x == ("__debug__" : Str)) = false := by decide)
    (he : starEach [a] Y.X.env = (false, eval a Y.X.env) :: starEach [] Y.X.env := by rfl) : Ev Y s (.Call (.Name x p) [a] [] pos) Q := fun F0 σ H F e0 S => by
  refine .of (pe_callTy hc hg hm hv (pa_cons pe_we pa_nil he) hn hdb he (by rfl)) ?_
  refine (h F0 σ H F e0 S).mono fun v H1 ⟨A, s1, F1, e1, r1, S1, q⟩ => ?_
  exact q F0 σ H1 F1 v e1 S1 r1
theorem ev_B2 {x : Str} {p : Pos} {id : String} {r : List V → Hp → VK → Prop} (hc : CallR Y.X (.builtin id) r) (hg : Gl Y.X x) (hm : Y.X.mg x = none) (hv : bootBuiltins x = some (.builtin id))
    (h : Ev Y s a fun A s1 => Ev Y s1 b fun B s2 => ∀ F0 σ H F v w, Ext F0 F → Sta Y s2 σ H F → A.rep Y.X.K F v → B.rep Y.X.K F w → r [v, w] H (Po Y σ F0 Q)) (hn : x ≠ "__name__" := by decide) (hdb : (x == ("__debug__" : Str)) = false := by decide)
    (he : starEach [a, b] Y.X.env = (false, eval a Y.X.env) :: starEach [b] Y.X.env := by rfl) (he2 : starEach [b] Y.X.env = (false, eval b Y.X.env) :: starEach [] Y.X.env := by rfl) (hpl : (backTo pos (starEach [b] Y.X.env)).any (·.1) = false := by rfl) : Ev Y s (.Call (.Name x p) [a, b] [] pos) Q := fun F0 σ H F e0 S => by
  refine .of (pe_callB hc hg hm hv (pa_cons pe_we (pa_cons pe_we pa_nil he2) he) hn hdb he hpl) ?_
  refine (h F σ H F (.refl _) S).mono fun v H1 ⟨A, s1, F1, e1, r1, S1, q⟩ => ?_
  refine (q F1 σ H1 F1 (.refl _) S1).mono fun w H2 ⟨B, s2, F2, e2, r2, S2, q2⟩ => ?_
  exact q2 F0 σ H2 F2 v w ((e0.trans e1).trans e2) S2 (A.mono r1 e2) r2
/-- the plain names of built-ins stand as they were -/
structure Bis (mg : Str → Option Value) : Prop where
  no : ∀ x : Str, x ∈ (["len", "range", "sorted", "list", "tuple", "dict", "int", "str", "abs", "min", "max", "sum", "any", "all", "enumerate", "zip", "reversed", "isinstance", "super"] : List Str) → mg x = none
section
variable {p : Pos}
theorem evp_len {xs : List α} (T : Bis Y.X.mg) (hg : Gl Y.X "len") (ha : EvP Y s a (pu xs)) (he : starEach [a] Y.X.env = (false, eval a Y.X.env) :: starEach [] Y.X.env := by rfl) : EvP Y s (.Call (.Name "len" p) [a] [] pos) (pu (xs.length : Int)) :=
  evp_B1 call_len hg (T.no _ (by decide)) boot_len ha (fun F0 σ H F v e0 S ⟨q, vs, h1, h2, h3⟩ => ⟨v, vs.length, rfl, by subst h1; exact .inl ⟨vs, sqL_ext h2 S.ext, rfl⟩, F, e0, by rw [h3.length]; rfl, S⟩) (by decide) (by decide) he
theorem evp_lenT {xs : Tup α} (T : Bis Y.X.mg) (hg : Gl Y.X "len") (ha : EvP Y s a (pu xs)) (he : starEach [a] Y.X.env = (false, eval a Y.X.env) :: starEach [] Y.X.env := by rfl) : EvP Y s (.Call (.Name "len" p) [a] [] pos) (pu (xs.items.length : Int)) :=
  evp_B1 call_len hg (T.no _ (by decide)) boot_len ha (fun F0 σ H F v e0 S ⟨q, vs, h1, h2, h3⟩ => ⟨v, vs.length, rfl, by subst h1; exact .inr ⟨vs, sqT_ext h2 S.ext, rfl⟩, F, e0, by rw [h3.length]; rfl, S⟩) (by decide) (by decide) he
theorem evp_lenS {x : List Nat} (T : Bis Y.X.mg) (hg : Gl Y.X "len") (ha : EvP Y s a (pu x)) (hl : x.length ≤ sizeLine) (he : starEach [a] Y.X.env = (false, eval a Y.X.env) :: starEach [] Y.X.env := by rfl) : EvP Y s (.Call (.Name "len" p) [a] [] pos) (pu (x.length : Int)) :=
  evp_B1 call_len hg (T.no _ (by decide)) boot_len ha (fun F0 σ H F v e0 S h1 => ⟨v, x.length, rfl, by cases h1; exact ⟨by rw [toStr_len]; exact hl, (toStr_len x).symm⟩, F, e0, rfl, S⟩) (by decide) (by decide) he
end
/-! places -/
theorem atI_of {δ ε : Type} {R : δ → ε → Prop} {l : List δ} {m : List ε} (h : Paired R l m) {i : Int} {y : ε} (k : atI m i = some y) : ∃ x, atI l i = some x ∧ R x y := by
  have hl : l.length = m.length := Paired.length h
  unfold atI at k ⊢
  rw [hl]
  cases q : ixN m.length i with
  | none => rw [q] at k; cases k
  | some j =>
    rw [q] at k
    exact prd_get h k
theorem ev_ixL (hs : PlainIx b) (h : Ev Y s a fun A s1 => ∃ xs : List α, A = pu xs ∧ Ev Y s1 b fun B s2 => ∃ (i : Int) (x : α), B = pu i ∧ atI xs i = some x ∧ Q (pu x) s2) : Ev Y s (.Subscript a b pos) Q :=
  ev2 (pe_ix ix_list pe_we pe_we hs) (h.mono fun A s1 ⟨xs, ea, h1⟩ => h1.mono fun B s2 ⟨i, x, eb, hx, q⟩ F0 σ H F v u e0 S rv ru => by
    subst ea eb
    obtain ⟨p, vs, h1, h2, h3⟩ := rv
    obtain ⟨w, hw, rw'⟩ := atI_of h3 hx
    exact ⟨p, vs, i, w, h1, ru, sqL_ext h2 S.ext, hw, pu x, s2, F, e0, rw', S, q⟩)
theorem ev_ixH (hs : PlainIx b) (h : Ev Y s a fun A s1 => ∃ xs : Tup α, A = pu xs ∧ Ev Y s1 b fun B s2 => ∃ (i : Int) (x : α), B = pu i ∧ atI xs.items i = some x ∧ Q (pu x) s2) : Ev Y s (.Subscript a b pos) Q :=
  ev2 (pe_ix ix_tup pe_we pe_we hs) (h.mono fun A s1 ⟨xs, ea, h1⟩ => h1.mono fun B s2 ⟨i, x, eb, hx, q⟩ F0 σ H F v u e0 S rv ru => by
    subst ea eb
    obtain ⟨p, vs, h1, h2, h3⟩ := rv
    obtain ⟨w, hw, rw'⟩ := atI_of h3 hx
    exact ⟨p, vs, i, w, h1, ru, sqT_ext h2 S.ext, hw, pu x, s2, F, e0, rw', S, q⟩)
theorem ev_ixS (hs : PlainIx b) (h : Ev Y s a fun A s1 => ∃ xs : List Nat, A = pu xs ∧ xs.length ≤ sizeLine ∧ Ev Y s1 b fun B s2 => ∃ (i : Int) (x : Nat), B = pu i ∧ atI xs i = some x ∧ Q (pu [x]) s2) : Ev Y s (.Subscript a b pos) Q :=
  ev2 (pe_ix ix_str pe_we pe_we hs) (h.mono fun A s1 ⟨xs, ea, hl, h1⟩ => h1.mono fun B s2 ⟨i, x, eb, hx, q⟩ F0 σ H F v u e0 S rv ru => by
    subst ea eb
    exact ⟨toStr xs, i, x, rv, ru, by rw [toStr_len]; exact hl, by rw [toStr_cps]; exact hx, pu [x], s2, F, e0, rfl, S, q⟩)
theorem evp_ixL {xs : List α} {i : Int} {x : α} (hs : PlainIx b) (ha : EvP Y s a (pu xs)) (hb : EvP Y s b (pu i)) (hx : atI xs i = some x) : EvP Y s (.Subscript a b pos) (pu x) := .of (ev_ixL hs (.of ha ⟨xs, rfl, .of hb ⟨i, x, rfl, hx, rfl, rfl⟩⟩))
theorem evp_ixH {xs : Tup α} {i : Int} {x : α} (hs : PlainIx b) (ha : EvP Y s a (pu xs)) (hb : EvP Y s b (pu i)) (hx : atI xs.items i = some x) : EvP Y s (.Subscript a b pos) (pu x) := .of (ev_ixH hs (.of ha ⟨xs, rfl, .of hb ⟨i, x, rfl, hx, rfl, rfl⟩⟩))
theorem evp_ixS {xs : List Nat} {i : Int} {x : Nat} (hs : PlainIx b) (ha : EvP Y s a (pu xs)) (hl : xs.length ≤ sizeLine) (hb : EvP Y s b (pu i)) (hx : atI xs i = some x) : EvP Y s (.Subscript a b pos) (pu [x]) := .of (ev_ixS hs (.of ha ⟨xs, rfl, hl, .of hb ⟨i, x, rfl, hx, rfl, rfl⟩⟩))
/-- a pair's places -/
theorem ev_fst {j : Nat} {p2 : Pos} (hs : PlainIx (.Constant (.int 0) j p2)) (h : Ev Y s a fun A s1 => ∃ x : α × β, A = pu x ∧ Q (pu x.1) s1) : Ev Y s (.Subscript a (.Constant (.int 0) j p2) pos) Q :=
  ev2 (pe_ix ix_tup pe_we pe_we hs) (h.mono fun A s1 ⟨x, ea, q⟩ => .of evp_int fun F0 σ H F v u e0 S rv ru => by
    subst ea
    obtain ⟨p, w, w', h1, h2, h3, h4⟩ := rv
    exact ⟨p, [w, w'], 0, w, h1, ru, sqT_ext h2 S.ext, rfl, pu x.1, s1, F, e0, h3, S, q⟩)
theorem ev_snd {j : Nat} {p2 : Pos} (hs : PlainIx (.Constant (.int 1) j p2)) (h : Ev Y s a fun A s1 => ∃ x : α × β, A = pu x ∧ Q (pu x.2) s1) : Ev Y s (.Subscript a (.Constant (.int 1) j p2) pos) Q :=
  ev2 (pe_ix ix_tup pe_we pe_we hs) (h.mono fun A s1 ⟨x, ea, q⟩ => .of evp_int fun F0 σ H F v u e0 S rv ru => by
    subst ea
    obtain ⟨p, w, w', h1, h2, h3, h4⟩ := rv
    exact ⟨p, [w, w'], 1, w', h1, ru, sqT_ext h2 S.ext, rfl, pu x.2, s1, F, e0, h4, S, q⟩)
theorem evp_fst {x : α × β} {j : Nat} {p2 : Pos} (hs : PlainIx (.Constant (.int 0) j p2)) (ha : EvP Y s a (pu x)) : EvP Y s (.Subscript a (.Constant (.int 0) j p2) pos) (pu x.1) := .of (ev_fst hs (.of ha ⟨x, rfl, rfl, rfl⟩))
theorem evp_snd {x : α × β} {j : Nat} {p2 : Pos} (hs : PlainIx (.Constant (.int 1) j p2)) (ha : EvP Y s a (pu x)) : EvP Y s (.Subscript a (.Constant (.int 1) j p2) pos) (pu x.2) := .of (ev_snd hs (.of ha ⟨x, rfl, rfl, rfl⟩))
end
end
end Sp
set_option maxHeartbeats 4000000
/-! Sp: statements by data; a def's promise by data; calls. -/
namespace Sp
open PySem L2
/-- what is wanted behind statements -/
structure DE where
  nx : DSt → Prop
  rt : Pv → DSt → Prop
  bk : DSt → Prop := fun _ => False
  ct : DSt → Prop := fun _ => False
def Pst (Y : DX) (F0 : Hp) (Q : DSt → Prop) : St → Hp → Prop := fun σ H => ∃ s F, Ext F0 F ∧ Sta Y s σ H F ∧ Q s
def Prt (Y : DX) (F0 : Hp) (Q : Pv → DSt → Prop) : VK := fun v H => ∃ A s σ F, Ext F0 F ∧ A.rep Y.X.K F v ∧ Sta Y s σ H F ∧ Q A s
def DE.to (D : DE) (Y : DX) (F0 : Hp) : Ends := { nx := Pst Y F0 D.nx, rt := Prt Y F0 D.rt, bk := Pst Y F0 D.bk, ct := Pst Y F0 D.ct }
def Ws (Y : DX) (s : DSt) (sts : List Stmt) (D : DE) : Prop := ∀ F0 σ H F, Ext F0 F → Sta Y s σ H F → WS Y.X sts σ H (D.to Y F0)
def WP (X : Cx) (st : Stmt) (σ : St) (H : Hp) (D : Ends) : Prop :=
  ∀ (pins : List (Addr × Obj)) (s : Shared), Inv X pins σ H s → wpAny (model X.prog X.w) X.A (exec st X.env) (SP X pins D) X.xe s
def W1 (Y : DX) (s : DSt) (st : Stmt) (D : DE) : Prop := ∀ F0 σ H F, Ext F0 F → Sta Y s σ H F → WP Y.X st σ H (D.to Y F0)
/-- an exception in the air, by data -/
def wxOf (Y : DX) : WX := fun cls d σ H => ∃ e s F, Sta Y s σ H F ∧ ExcRep e cls d H ∧ Y.ex e s
structure YOk (Y : DX) : Prop where
  calm : Y.X.calm = true
  nd : Y.X.N.Nodup
  room : Room Y.k Y.X.A
  pass : PassesOwn (model Y.X.prog Y.X.w) Y.X.A Y.X.env Y.X.xe
  tk : Takes Y.X (wxOf Y)
section
variable {Y : DX} {s : DSt} {e a b c : Expr} {es : List Expr} {pos : Pos} {D D' : DE} {st : Stmt} {sts : List Stmt}
theorem ps_wp {X : Cx} : PS X st (fun D σ H => WP X st σ H D) := ⟨fun pins s _ _ _ I h => h pins s I⟩
theorem WP.of {X : Cx} {σ : St} {H : Hp} {t : TS} {D : Ends} (p : PS X st t) (h : t D σ H) : WP X st σ H D := fun pins s I => p.run pins s σ H D I h
theorem Pst.mono {F0 F1 : Hp} {Q Q' : DSt → Prop} {σ : St} {H : Hp} (h : Pst Y F1 Q σ H) (e : Ext F0 F1) (k : ∀ s, Q s → Q' s) : Pst Y F0 Q' σ H := by
  obtain ⟨s, F, e1, S, q⟩ := h
  exact ⟨s, F, e.trans e1, S, k s q⟩
theorem Prt.mono {F0 F1 : Hp} {Q Q' : Pv → DSt → Prop} {v : V} {H : Hp} (h : Prt Y F1 Q v H) (e : Ext F0 F1) (k : ∀ A s, Q A s → Q' A s) : Prt Y F0 Q' v H := by
  obtain ⟨A, s, σ, F, e1, r, S, q⟩ := h
  exact ⟨A, s, σ, F, e.trans e1, r, S, k A s q⟩
theorem WS.mono2 {X : Cx} {σ : St} {H : Hp} {D D' : Ends} (h : WS X sts σ H D) (k1 : ∀ σ' H', D.nx σ' H' → D'.nx σ' H') (k2 : ∀ v H', D.rt v H' → D'.rt v H') (k3 : ∀ σ' H', D.bk σ' H' → D'.bk σ' H') (k4 : ∀ σ' H', D.ct σ' H' → D'.ct σ' H') : WS X sts σ H D' := WS.mono h k1 k2 k3 k4
theorem Ws.mono (h : Ws Y s sts D) (k1 : ∀ s, D.nx s → D'.nx s) (k2 : ∀ A s, D.rt A s → D'.rt A s) (k3 : ∀ s, D.bk s → D'.bk s) (k4 : ∀ s, D.ct s → D'.ct s) : Ws Y s sts D' := fun F0 σ H F e0 S =>
  (h F0 σ H F e0 S).mono (fun _ _ q => Pst.mono q (.refl _) k1) (fun _ _ q => Prt.mono q (.refl _) k2) (fun _ _ q => Pst.mono q (.refl _) k3) (fun _ _ q => Pst.mono q (.refl _) k4)
theorem ws_nil (h : D.nx s) : Ws Y s [] D := fun F0 σ H F e0 S => .of pss_nil ⟨s, F, e0, S, h⟩
theorem ws_cons (h : W1 Y s st { D with nx := fun s' => Ws Y s' sts D }) : Ws Y s (st :: sts) D := fun F0 σ H F e0 S => by
  refine .of (pss_cons ps_wp pss_ws) ?_
  have q := h F0 σ H F e0 S
  intro pins s' I
  refine thn (q pins s' I) fun f s1 z => ?_
  cases f with
  | next =>
    obtain ⟨σ', H', J, s2, F2, e2, S2, w⟩ := z
    exact ⟨σ', H', J, w F0 σ' H' F2 e2 S2⟩
  | brk => exact z
  | cont => exact z
  | ret u => exact z
theorem ws_one (h : W1 Y s st D) : Ws Y s [st] D := fun F0 σ H F e0 S => .of (pss_one ps_wp) (h F0 σ H F e0 S)
theorem w1_pass (h : D.nx s) : W1 Y s (.Pass pos) D := fun F0 σ H F e0 S => .of ps_pass ⟨s, F, e0, S, h⟩
theorem w1_break (h : D.bk s) : W1 Y s (.Break pos) D := fun F0 σ H F e0 S => .of ps_break ⟨s, F, e0, S, h⟩
theorem w1_continue (h : D.ct s) : W1 Y s (.Continue pos) D := fun F0 σ H F e0 S => .of ps_continue ⟨s, F, e0, S, h⟩
theorem w1_doc {x : Str} {j : Nat} {p : Pos} (h : D.nx s) : W1 Y s (.Expr (.Constant (.str x) j p) pos) D := fun F0 σ H F e0 S => .of ps_doc ⟨s, F, e0, S, h⟩
theorem w1_expr (h : Ev Y s e fun _ s' => D.nx s') (hs : swapsWith e none pos.line Y.X.env = pure false := by rfl) : W1 Y s (.Expr e pos) D := fun F0 σ H F e0 S =>
  .of (ps_expr pe_we hs) ((h F0 σ H F e0 S).mono fun v H' ⟨A, s', F', e1, r, S', q⟩ => ⟨s', F', e1, S', q⟩)
theorem w1_ret (h : Ev Y s e D.rt) : W1 Y s (.Return (some e) pos) D := fun F0 σ H F e0 S =>
  .of (ps_ret pe_we) ((h F0 σ H F e0 S).mono fun v H' ⟨A, s', F', e1, r, S', q⟩ => ⟨A, s', σ, F', e1, r, S', q⟩)
theorem w1_retN (h : D.rt (pu ()) s) : W1 Y s (.Return none pos) D := fun F0 σ H F e0 S => .of ps_retN ⟨pu (), s, σ, F, e0, rfl, S, h⟩
theorem w1_set {x : Str} {p2 : Pos} (i : Nat) (ok : YOk Y) (hi : Y.X.N[i]? = some x) (hx : Loc Y.X.env.scope x) (h : Ev Y s e fun A s' => D.nx ⟨s'.ρ.set i (some A), s'.gs⟩)
    (hs : swapsWith e (some (.Name x p2)) pos.line Y.X.env = pure false := by rfl) (hf : Y.X.fn x = true ∨ Y.X.env.scope.names.lookup x = some .local := by first | exact .inl rfl | exact .inr rfl) : W1 Y s (.Assign [.Name x p2] e pos) D := fun F0 σ H F e0 S =>
  .of (ps_set ok.nd hi hx pe_we hs hf) ((h F0 σ H F e0 S).mono fun v H' ⟨A, s', F', e1, r, S', q⟩ => ⟨_, F', e1, S'.set r i, q⟩)
theorem w1_if {A B : List Stmt} (h : Et Y s c fun t s' => if t = true then Ws Y s' A D else Ws Y s' B D) : W1 Y s (.If c A B pos) D := fun F0 σ H F e0 S => by
  refine .of (ps_if pt_wt pss_ws pss_ws) ((h F0 σ H F e0 S).mono fun t H' ⟨s', F', e1, S', q⟩ => ?_)
  cases t with
  | true => exact q F0 σ H' F' e1 S'
  | false => exact q F0 σ H' F' e1 S'
/-! ### targets -/
/-- σ' is σ but for the slots ws -/
def Only (ws : List Nat) (σ σ' : St) : Prop := σ'.length = σ.length ∧ ∀ j, j ∉ ws → σ'[j]? = σ[j]?
theorem Only.refl {σ : St} : Only [] σ σ := ⟨rfl, fun _ _ => rfl⟩
theorem Only.set {σ : St} {i : Nat} {o : Option V} : Only [i] σ (σ.set i o) := ⟨List.length_set .., fun j hj => List.getElem?_set_ne (fun e => hj (by simp [e]))⟩
theorem Only.trans {ws vs : List Nat} {σ σ1 σ2 : St} (a : Only ws σ σ1) (b : Only vs σ1 σ2) : Only (ws ++ vs) σ σ2 :=
  ⟨b.1.trans a.1, fun j hj => (b.2 j fun h => hj (List.mem_append_right _ h)).trans (a.2 j fun h => hj (List.mem_append_left _ h))⟩
/-- the target tg takes data: the names become f x ρ, the slots ws alone change -/
def TgOk (Y : DX) {β : Type} [Enc β] (tg : Expr) (g : TG) (ws : List Nat) (f : β → Rho → Rho) : Prop :=
  PG Y.X tg g ∧ ∀ (σ : St) (H F : Hp) (v : V) (x : β) (s : DSt) (Q : St → Hp → Prop), Sta Y s σ H F → Enc.rep Y.X.K F v x → (∀ σ', Sta Y ⟨f x s.ρ, s.gs⟩ σ' H F → Only ws σ σ' → Q σ' H) → g v σ H Q
section
variable {α β γ : Type} [Enc α] [Enc β] [Enc γ]
theorem tg_name {x : Str} (nd : Y.X.N.Nodup) (i : Nat) (hi : Y.X.N[i]? = some x) (hx : Loc Y.X.env.scope x) (hf : Y.X.fn x = true ∨ Y.X.env.scope.names.lookup x = some .local := by first | exact .inl rfl | exact .inr rfl) :
    TgOk Y (β := β) (.Name x pos) (gName i) [i] fun v ρ => ρ.set i (some (pu v)) :=
  ⟨pg_name nd hi hx hf, fun σ H F v x s Q S r k => k _ (S.set (A := pu x) r i) .set⟩
theorem tg_pair {t1 t2 : Expr} {g1 g2 : TG} {w1 w2 : List Nat} {f1 : α → Rho → Rho} {f2 : β → Rho → Rho} {k : Nat} (calm : Y.X.calm = true) (h1 : TgOk Y t1 g1 w1 f1) (h2 : TgOk Y t2 g2 w2 f2)
    (hs1 : (assignEach [t1, t2] Y.X.env).map (·.2) = assign t1 Y.X.env :: (assignEach [t2] Y.X.env).map (·.2) := by rfl) (hs2 : (assignEach [t2] Y.X.env).map (·.2) = assign t2 Y.X.env :: (assignEach [] Y.X.env).map (·.2) := by rfl)
    (hn : (assignEach [t1, t2] Y.X.env).length = 2 := by rfl) (hst : (assignEach [t1, t2] Y.X.env).findIdx? (·.1) = none := by rfl) :
    TgOk Y (β := α × β) (.Tuple [t1, t2] k pos) (gTup Y.X.K 2 (gCons g1 (gCons g2 gNil))) (w1 ++ w2) fun v ρ => f2 v.2 (f1 v.1 ρ) :=
  ⟨pg_tup calm (pgs_cons h1.1 (pgs_cons h2.1 pgs_nil hs2) hs1) hn hst, fun σ H F v x s Q S ⟨p, a, b, e, hq, ra, rb⟩ q =>
    ⟨p, [a, b], e, sqT_ext hq S.ext, rfl, a, [b], rfl, h1.2 σ H F a x.1 s _ S ra fun σ1 S1 o1 => ⟨b, [], rfl, h2.2 σ1 H F b x.2 _ _ S1 rb fun σ2 S2 o2 => ⟨rfl, q σ2 S2 (o1.trans o2)⟩⟩⟩⟩
theorem tg_three {t1 t2 t3 : Expr} {g1 g2 g3 : TG} {w1 w2 w3 : List Nat} {f1 : α → Rho → Rho} {f2 : β → Rho → Rho} {f3 : γ → Rho → Rho} {k : Nat} (calm : Y.X.calm = true) (h1 : TgOk Y t1 g1 w1 f1) (h2 : TgOk Y t2 g2 w2 f2) (h3 : TgOk Y t3 g3 w3 f3)
    (hs1 : (assignEach [t1, t2, t3] Y.X.env).map (·.2) = assign t1 Y.X.env :: (assignEach [t2, t3] Y.X.env).map (·.2) := by rfl) (hs2 : (assignEach [t2, t3] Y.X.env).map (·.2) = assign t2 Y.X.env :: (assignEach [t3] Y.X.env).map (·.2) := by rfl)
    (hs3 : (assignEach [t3] Y.X.env).map (·.2) = assign t3 Y.X.env :: (assignEach [] Y.X.env).map (·.2) := by rfl)
    (hn : (assignEach [t1, t2, t3] Y.X.env).length = 3 := by rfl) (hst : (assignEach [t1, t2, t3] Y.X.env).findIdx? (·.1) = none := by rfl) :
    TgOk Y (β := T3 α β γ) (.Tuple [t1, t2, t3] k pos) (gTup Y.X.K 3 (gCons g1 (gCons g2 (gCons g3 gNil)))) (w1 ++ (w2 ++ w3)) fun v ρ => f3 v.c (f2 v.b (f1 v.a ρ)) :=
  ⟨pg_tup calm (pgs_cons h1.1 (pgs_cons h2.1 (pgs_cons h3.1 pgs_nil hs3) hs2) hs1) hn hst, fun σ H F v x s Q S ⟨p, a, b, c, e, hq, ra, rb, rc⟩ q =>
    ⟨p, [a, b, c], e, sqT_ext hq S.ext, rfl, a, [b, c], rfl, h1.2 σ H F a x.a s _ S ra fun σ1 S1 o1 => ⟨b, [c], rfl, h2.2 σ1 H F b x.b _ _ S1 rb fun σ2 S2 o2 => ⟨c, [], rfl, h3.2 σ2 H F c x.c _ _ S2 rc fun σ3 S3 o3 => ⟨rfl, q σ3 S3 (o1.trans (o2.trans o3))⟩⟩⟩⟩⟩
/-- tg = e, e a tuple -/
theorem w1_asg {tg : Expr} {g : TG} {ws : List Nat} {f : β → Rho → Rho} (hg : TgOk Y tg g ws f) (h : Ev Y s e fun A s' => ∃ x : β, A = pu x ∧ D.nx ⟨f x s'.ρ, s'.gs⟩) (hs : swapsWithSole [tg] e pos.line Y.X.env = pure false := by rfl) (hw : swappedStores [tg] e Y.X.env = pure none := by rfl)
    (h1 : (assignEach [tg] Y.X.env).map (·.2) = [assign tg Y.X.env] := by rfl) : W1 Y s (.Assign [tg] e pos) D := fun F0 σ H F e0 S =>
  .of (ps_asg pe_we hg.1 hs hw h1) ((h F0 σ H F e0 S).mono fun v H' ⟨A, s', F', e1, r, S', x, ea, q⟩ => by
    subst ea
    exact hg.2 σ H' F' v x s' _ S' r fun σ' S2 _ => ⟨_, F', e1, S2, q⟩)
/-- a, b = x, y, the names plain locals -/
theorem w1_par {i j : Nat} {x y : Str} {a b : Expr} {px py pt pt2 : Pos} {kt k2 : Nat} (ok : YOk Y) (hi : Y.X.N[i]? = some x) (hj : Y.X.N[j]? = some y) (hij : i ≠ j)
    (hx : Y.X.env.scope.names.lookup x = some .local) (hy : Y.X.env.scope.names.lookup y = some .local) (h : Evs Y s [a, b] fun As s' => ∃ A B, As = [A, B] ∧ D.nx ⟨(s'.ρ.set i (some A)).set j (some B), s'.gs⟩)
    (hw : swappedStores [.Tuple [.Name x px, .Name y py] kt pt] (.Tuple [a, b] k2 pt2) Y.X.env = pure (some [x, y]) := by rfl) (hs : swapsWithSole [.Tuple [.Name x px, .Name y py] kt pt] (.Tuple [a, b] k2 pt2) pos.line Y.X.env = pure false := by rfl) :
    W1 Y s (.Assign [.Tuple [.Name x px, .Name y py] kt pt] (.Tuple [a, b] k2 pt2) pos) D := fun F0 σ H F e0 S =>
  .of (ps_par ok.calm ok.nd hi hj hij hx hy pa_wa hw hs) ((h F0 σ H F e0 S).mono fun vs H' ⟨As, s', F', e1, r, S', A, B, ea, q⟩ => by
    subst ea
    cases r with
    | cons ra rt => cases rt with
      | cons rb rn =>
        cases rn
        exact ⟨_, _, rfl, _, F', e1, (S'.set ra i).set rb j, q⟩)
/-- x op= e -/
theorem w1_aug {op : Operator} {r : R2} {x : Str} {p2 : Pos} (i : Nat) (ok : YOk Y) (ho : OpR Y.X (inplaceOp op) r) (hi : Y.X.N[i]? = some x) (hx : Loc Y.X.env.scope x) {A : Pv} (hA : s.ρ[i]? = some (some A))
    (h : Ev Y s e fun B s' => ∀ F0 σ H F v u, Ext F0 F → Sta Y s' σ H F → A.rep Y.X.K F v → B.rep Y.X.K F u → r v u H fun w H' => Pst Y F0 D.nx (σ.set i (some w)) H')
    (hf : Y.X.fn x = true ∨ Y.X.env.scope.names.lookup x = some .local := by first | exact .inl rfl | exact .inr rfl) : W1 Y s (.AugAssign (.Name x p2) op e pos) D := fun F0 σ H F e0 S => by
  obtain ⟨v, ev, rv⟩ := S.rep.get hA
  exact .of (ps_aug ok.nd hi hx pe_we (fun pins s σ H x y v u Q I r1 r2 t => ho pins s σ H x y v u Q I r1 r2 t) hf) ⟨v, ev, (h F σ H F (.refl _) S).mono fun u H1 ⟨B, s1, F1, e1, r1, S1, q⟩ => q F0 σ H1 F1 v u (e0.trans e1) S1 (A.mono rv e1) r1⟩
section
variable {x : Str} {p2 : Pos} (i : Nat) (ok : YOk Y) (hi : Y.X.N[i]? = some x) (hx : Loc Y.X.env.scope x) {n : Int} (hA : s.ρ[i]? = some (some (pu n)))
  (hf : Y.X.fn x = true ∨ Y.X.env.scope.names.lookup x = some .local)
include ok hi hx hA hf
theorem w1_add (h : Ev Y s e fun B s' => ∃ m : Int, B = pu m ∧ D.nx ⟨s'.ρ.set i (some (pu (n + m))), s'.gs⟩) : W1 Y s (.AugAssign (.Name x p2) .Add e pos) D :=
  w1_aug i ok iop_add hi hx hA (h.mono fun B s' ⟨m, eb, q⟩ F0 σ H F v u e0 S rv ru => by subst eb; exact ⟨n, m, rv, ru, _, F, e0, S.set (A := pu (n + m)) rfl i, q⟩) hf
theorem w1_sub (h : Ev Y s e fun B s' => ∃ m : Int, B = pu m ∧ D.nx ⟨s'.ρ.set i (some (pu (n - m))), s'.gs⟩) : W1 Y s (.AugAssign (.Name x p2) .Sub e pos) D :=
  w1_aug i ok iop_sub hi hx hA (h.mono fun B s' ⟨m, eb, q⟩ F0 σ H F v u e0 S rv ru => by subst eb; exact ⟨n, m, rv, ru, _, F, e0, S.set (A := pu (n - m)) rfl i, q⟩) hf
theorem w1_mul (h : Ev Y s e fun B s' => ∃ m : Int, B = pu m ∧ CMul n m ∧ D.nx ⟨s'.ρ.set i (some (pu (n * m))), s'.gs⟩) : W1 Y s (.AugAssign (.Name x p2) .Mult e pos) D :=
  w1_aug i ok iop_mul hi hx hA (h.mono fun B s' ⟨m, eb, hc, q⟩ F0 σ H F v u e0 S rv ru => by subst eb; exact ⟨n, m, rv, ru, hc, _, F, e0, S.set (A := pu (n * m)) rfl i, q⟩) hf
theorem w1_fdiv (h : Ev Y s e fun B s' => ∃ m : Int, B = pu m ∧ CDiv n m ∧ D.nx ⟨s'.ρ.set i (some (pu (n / m))), s'.gs⟩) : W1 Y s (.AugAssign (.Name x p2) .FloorDiv e pos) D :=
  w1_aug i ok iop_fdiv hi hx hA (h.mono fun B s' ⟨m, eb, hc, q⟩ F0 σ H F v u e0 S rv ru => by subst eb; exact ⟨n, m, rv, ru, hc, _, F, e0, S.set (A := pu (n / m)) rfl i, q⟩) hf
end
theorem w1_addS {x : Str} {p2 : Pos} (i : Nat) (ok : YOk Y) (hi : Y.X.N[i]? = some x) (hx : Loc Y.X.env.scope x) {n : List Nat} (hA : s.ρ[i]? = some (some (pu n)))
    (hf : Y.X.fn x = true ∨ Y.X.env.scope.names.lookup x = some .local) (h : Ev Y s e fun B s' => ∃ m : List Nat, B = pu m ∧ n.length + m.length ≤ sizeLine ∧ D.nx ⟨s'.ρ.set i (some (pu (n ++ m))), s'.gs⟩) : W1 Y s (.AugAssign (.Name x p2) .Add e pos) D :=
  w1_aug i ok iop_add_str hi hx hA (h.mono fun B s' ⟨m, eb, hc, q⟩ F0 σ H F v u e0 S rv ru => by
    subst eb
    exact ⟨toStr n, toStr m, rv, ru, by rw [toStr_len, toStr_len]; exact hc, _, F, e0, S.set (A := pu (n ++ m)) (by rw [toStr_app]; rfl) i, q⟩) hf

/-! ### what is walked -/
def ItOk {β : Type} [Enc β] (K : Frag) (J : It) (F' : Hp) (items : List β) : Prop := ∀ i H2 F2, Ext F' F2 → Ext F2 H2 →
  (∀ x, items[i]? = some x → J.go i H2 ∧ ∀ v H3, J.yld i H2 v H3 → (H3 = H2 ∧ Enc.rep K F2 v x) ∨ ∃ p vs, H2 p = none ∧ H3 = upd H2 p (.tup vs) ∧ v = .ref p ∧ ∀ F3, Ext F2 F3 → SqT K F3 p vs → Enc.rep K F3 v x) ∧ (items.length ≤ i → J.stop i H2)
def EvIt (Y : DX) (s : DSt) (tg iter : Expr) {β : Type} [Enc β] (items : List β) : Prop :=
  ∃ wi, PI Y.X tg iter wi ∧ ∀ F0 σ H F (R : It → Hp → Prop), Ext F0 F → Sta Y s σ H F → (∀ J H' F', Ext F0 F' → Sta Y s σ H' F' → ItOk Y.X.K J F' items → R J H') → wi σ H R
theorem ItOk.yld {J : It} {F' H2 F2 H3 : Hp} {items : List β} {i : Nat} {x : β} {v : V} {s2 : DSt} {σ : St} (h : ItOk Y.X.K J F' items) (e : Ext F' F2) (S : Sta Y s2 σ H2 F2) (hx : items[i]? = some x) (y : J.yld i H2 v H3) :
    ∃ F3, Ext F2 F3 ∧ Sta Y s2 σ H3 F3 ∧ Enc.rep Y.X.K F3 v x := by
  rcases ((h i H2 F2 e S.ext).1 x hx).2 v H3 y with ⟨rfl, r⟩ | ⟨p, vs, hp, rfl, ev, r⟩
  · exact ⟨F2, .refl _, S, r⟩
  · have hF := S.free hp
    exact ⟨_, Ext.grow hF, S.newF hp rfl, r _ (Ext.grow hF) (.of upd_same)⟩
/-- for, by what holds ahead of each turn -/
theorem w1_for {tg iter : Expr} {body : List Stmt} {g : TG} {ws : List Nat} {f : β → Rho → Rho} {items : List β} (ok : YOk Y) (hi : EvIt Y s tg iter items) (hg : TgOk Y tg g ws f) (Iv : Nat → DSt → Prop) (h0 : Iv 0 s)
    (hstep : ∀ i x s2, items[i]? = some x → Iv i s2 → Ws Y ⟨f x s2.ρ, s2.gs⟩ body { D with nx := Iv (i + 1), ct := Iv (i + 1), bk := D.nx }) (hd : ∀ s2, Iv items.length s2 → D.nx s2)
    (hs : ∀ x, foldedSetIterable iter Y.X.env x = pure x := by intro _; rfl) : W1 Y s (.For tg iter body [] pos) D := fun F0 σ H F e0 S => by
  obtain ⟨wi, hp, hw⟩ := hi
  refine .of (ps_for ok.pass ok.calm hp hg.1 pss_ws hs) ?_
  refine hw F0 σ H F _ e0 S fun J H1 F1 e1 S1 K1 => ?_
  refine ⟨fun i m σ H => m = items.length - i ∧ i ≤ items.length ∧ ∃ s2 F2, Ext F1 F2 ∧ Sta Y s2 σ H F2 ∧ Iv i s2, ⟨items.length, rfl, Nat.zero_le _, s, F1, .refl _, S1, h0⟩, ?_⟩
  rintro i m σ2 H2 ⟨rfl, hi, s2, F2, e2, S2, iv⟩
  by_cases hlt : i < items.length
  · have hx : items[i]? = some items[i] := List.getElem?_eq_getElem hlt
    refine .inr ⟨((K1 i H2 F2 e2 S2.ext).1 _ hx).1, fun σ' H' => ∃ s3 F3, Ext F1 F3 ∧ Sta Y s3 σ' H' F3 ∧ Iv (i + 1) s3, fun σ' H' ⟨s3, F3, e3, S3, iv3⟩ => ⟨items.length - (i + 1), by omega, rfl, hlt, s3, F3, e3, S3, iv3⟩, fun v H3 y => ?_⟩
    obtain ⟨F3, e3, S3, r3⟩ := K1.yld e2 S2 hx y
    refine hg.2 σ2 H3 F3 v _ s2 _ S3 r3 fun σ4 S4 _ => ?_
    have e9 := (e1.trans e2).trans e3
    exact (hstep i _ s2 hx iv F3 σ4 H3 F3 (.refl _) S4).mono (fun σ' H' ⟨s5, F5, e5, S5, q⟩ => ⟨s5, F5, (e2.trans e3).trans e5, S5, q⟩) (fun v H' q => q.mono e9 fun _ _ h => h)
      (fun σ' H' q => q.mono e9 fun _ h => h) (fun σ' H' ⟨s5, F5, e5, S5, q⟩ => ⟨s5, F5, (e2.trans e3).trans e5, S5, q⟩)
  · have e : i = items.length := by omega
    subst e
    exact .inl ⟨(K1 _ H2 F2 e2 S2.ext).2 (Nat.le_refl _), s2, F2, e1.trans e2, S2, hd s2 iv⟩
/-- for, its turns one way: the state is st after each turn's step -/
theorem w1_foldl {tg iter : Expr} {body : List Stmt} {g : TG} {ws : List Nat} {f : β → Rho → Rho} {items : List β} {Z : Type} (ok : YOk Y) (hi : EvIt Y s tg iter items) (hg : TgOk Y tg g ws f) (R : Z → DSt → Prop) (z0 : Z) (step : Z → β → Z) (h0 : R z0 s)
    (hstep : ∀ z x s2, x ∈ items → R z s2 → Ws Y ⟨f x s2.ρ, s2.gs⟩ body { D with nx := R (step z x), ct := R (step z x), bk := D.nx }) (hd : ∀ s2, R (items.foldl step z0) s2 → D.nx s2)
    (hs : ∀ x, foldedSetIterable iter Y.X.env x = pure x := by intro _; rfl) : W1 Y s (.For tg iter body [] pos) D :=
  w1_for ok hi hg (fun i s2 => R ((items.take i).foldl step z0) s2) (by simpa using h0) (fun i x s2 hx iv => by
    have e : (items.take (i + 1)).foldl step z0 = step ((items.take i).foldl step z0) x := by
      obtain ⟨hl, hx'⟩ := List.getElem?_eq_some_iff.mp hx
      rw [List.take_add_one, hx, Option.toList_some, List.foldl_append]
      rfl
    rw [e]
    exact hstep _ x s2 (List.mem_of_getElem? hx) iv) (fun s2 iv => hd s2 (by rw [List.take_length] at iv; exact iv)) hs
theorem w1_while {body : List Stmt} (ok : YOk Y) (Iv : DSt → Prop) (μ : DSt → Nat) (h0 : Iv s)
    (hstep : ∀ s2, Iv s2 → Et Y s2 c fun t s3 => if t = true then Ws Y s3 body { D with nx := fun s4 => Iv s4 ∧ μ s4 < μ s2, ct := fun s4 => Iv s4 ∧ μ s4 < μ s2, bk := D.nx } else D.nx s3) : W1 Y s (.While c body [] pos) D := fun F0 σ H F e0 S => by
  refine .of (ps_while ok.pass pt_wt pss_ws) ⟨fun m σ H => ∃ s2 F2, Ext F0 F2 ∧ Sta Y s2 σ H F2 ∧ Iv s2 ∧ m = μ s2, ⟨_, s, F, e0, S, h0, rfl⟩, ?_⟩
  rintro m σ2 H2 ⟨s2, F2, e2, S2, iv, rfl⟩
  refine (hstep s2 iv F0 σ2 H2 F2 e2 S2).mono fun t H3 ⟨s3, F3, e3, S3, q⟩ => ?_
  cases t with
  | false => exact ⟨s3, F3, e3, S3, q⟩
  | true => exact ⟨fun σ' H' => ∃ s4 F4, Ext F0 F4 ∧ Sta Y s4 σ' H' F4 ∧ Iv s4 ∧ μ s4 < μ s2, fun σ' H' ⟨s4, F4, e4, S4, iv4, lt⟩ => ⟨_, lt, s4, F4, e4, S4, iv4, rfl⟩, q F0 σ2 H3 F3 e3 S3⟩

/-! sources -/
theorem it_list {tg iter : Expr} {xs : List α} (h : EvP Y s iter (pu xs)) : EvIt Y s tg iter xs :=
  ⟨_, pi_list pe_we, fun F0 σ H F R e0 S k => (h F0 σ H F e0 S).mono fun v H' ⟨F', e1, ⟨p, vs, ev, hq, rv⟩, S'⟩ =>
    ⟨p, ev, ⟨vs, sqL_ext hq S'.ext⟩, k _ _ F' e1 S' fun i H2 F2 e2 e3 => ⟨fun x hx => by
      have hq2 := sqL_ext (sqL_ext hq e2) e3
      obtain ⟨w, hw, rw'⟩ := prd_get rv hx
      exact ⟨⟨vs, w, hq2, hw⟩, fun v H3 ⟨eh, hv⟩ => .inl ⟨eh, by
        have := hv vs hq2
        rw [hw] at this
        cases this
        exact Enc.mono rw' e2⟩⟩, fun hl => ⟨vs, sqL_ext (sqL_ext hq e2) e3, by rw [rv.length]; exact hl⟩⟩⟩⟩
theorem it_tup {tg iter : Expr} {xs : Tup α} (h : EvP Y s iter (pu xs)) : EvIt Y s tg iter xs.items :=
  ⟨_, pi_tup pe_we, fun F0 σ H F R e0 S k => (h F0 σ H F e0 S).mono fun v H' ⟨F', e1, ⟨p, vs, ev, hq, rv⟩, S'⟩ =>
    ⟨p, ev, ⟨vs, sqT_ext hq S'.ext⟩, k _ _ F' e1 S' fun i H2 F2 e2 e3 => ⟨fun x hx => by
      have hq2 := sqT_ext (sqT_ext hq e2) e3
      obtain ⟨w, hw, rw'⟩ := prd_get rv hx
      exact ⟨⟨vs, w, hq2, hw⟩, fun v H3 ⟨eh, hv⟩ => .inl ⟨eh, by
        have := hv vs hq2
        rw [hw] at this
        cases this
        exact Enc.mono rw' e2⟩⟩, fun hl => ⟨vs, sqT_ext (sqT_ext hq e2) e3, by rw [rv.length]; exact hl⟩⟩⟩⟩
/-- a text's signs -/
theorem it_txt {tg iter : Expr} {x : List Nat} (h : EvP Y s iter (pu x)) : EvIt Y s tg iter (x.map fun c => [c]) :=
  ⟨_, pi_str pe_we, fun F0 σ H F R e0 S k => (h F0 σ H F e0 S).mono fun v H' ⟨F', e1, ev, S'⟩ =>
    ⟨toStr x, ev, k _ _ F' e1 S' fun i H2 F2 e2 e3 => ⟨fun y hy => by
      rw [List.getElem?_map] at hy
      cases q : x[i]? with
      | none => rw [q] at hy; cases hy
      | some c =>
        rw [q] at hy
        cases hy
        have hl : i < (toStr x).cps.size := by
          have := (List.getElem?_eq_some_iff.mp q).1
          simpa [toStr] using this
        refine ⟨hl, fun v H3 ⟨eh, c', hc, hv⟩ => .inl ⟨eh, ?_⟩⟩
        have e9 : c' = c := by
          have : x[i]? = some c' := by simpa [toStr] using hc
          rw [q] at this
          exact (Option.some.inj this).symm
        subst e9
        exact hv, fun hl => by
      show (toStr x).cps.size ≤ i
      simpa [toStr] using hl⟩⟩⟩
end
end
end Sp
set_option maxHeartbeats 4000000
/-! Sp: a def's promise by data; calls, methods, raises. -/
namespace Sp
open PySem L2
/-- a promise by data: the arguments, the owned cells; what is wanted of the end and of an exception -/
abbrev DSp := List Pv → Gs → (Pv → Gs → Prop) → (Exc → Gs → Prop) → Prop
/-- heaps and owned cells -/
structure Stg (K : Frag) (T : Tb) (gs : Gs) (H F : Hp) : Prop where
  ext : Ext F H
  ntb : ∀ a o, F a = some o → isTbl o = false
  own : ∀ p ∈ gs, F p.1 = none ∧ ∃ o, H p.1 = some o ∧ isTbl o = false ∧ p.2.rep K F o
  nd : (gs.map (·.1)).Nodup
  tb : TbOk T H
abbrev ads (gs : Gs) : List Addr := gs.map (·.1)
theorem Sta.stg {Y : DX} {s : DSt} {σ : St} {H F : Hp} (S : Sta Y s σ H F) : Stg Y.X.K Y.T s.gs H F := ⟨S.ext, S.ntb, S.own, S.nd, S.tb⟩
def toSp (K : Frag) (T : Tb) (n : Nat) (d : DSp) : Sp := fun vs H Q E => vs.length = n ∧ ∃ As gs F, Rvs K F vs As ∧ Stg K T gs H F ∧
  d As gs (fun A gs' => ∀ v H' F', A.rep K F' v → Stg K T gs' H' F' → Step H F (ads gs) H' F' (ads gs') → Q v H')
    (fun e gs' => ∀ cls dd H' F', ExcRep e cls dd H' → Stg K T gs' H' F' → Step H F (ads gs) H' F' (ads gs') → E cls dd H')
section
variable {K : Frag} {T : Tb} {H0 F0 H F H' F' : Hp} {S0 : List Addr}
/-- a callee's step within a caller's -/
theorem Step.call {gs1 gs2 gs1' : Gs} (t : Step H0 F0 S0 H F (ads (gs1 ++ gs2))) (G : Stg K T (gs1 ++ gs2) H F) (c : Step H F (ads gs1) H' F' (ads gs1')) (G1 : Stg K T gs1' H' F') :
    Stg K T (gs1' ++ gs2) H' F' ∧ Step H0 F0 S0 H' F' (ads (gs1' ++ gs2)) := by
  have nd := G.nd
  rw [List.map_append, List.nodup_append] at nd
  have one : ∀ p ∈ gs2, p.1 ∉ ads gs1 := fun p hp hm => nd.2.2 _ hm _ (List.mem_map.mpr ⟨p, hp, rfl⟩) rfl
  have fr2 : ∀ p ∈ gs2, F' p.1 = none ∧ p.1 ∉ ads gs1' := fun p hp => by
    obtain ⟨h1, o, h2, h3, _⟩ := G.own p (List.mem_append_right _ hp)
    have no : ¬ (F' p.1 ≠ none ∨ p.1 ∈ ads gs1') := fun h => by
      rcases c.nw _ h with z | z | z
      · exact z h1
      · exact one p hp z
      · have := z o h2
        rw [h3] at this; cases this
    refine ⟨?_, fun h => no (.inr h)⟩
    cases q : F' p.1 with
    | none => rfl
    | some u => exact absurd (.inl (by rw [q]; simp)) no
  have own0 : ∀ a, a ∈ ads (gs1 ++ gs2) → F a = none := fun a ha => by
    obtain ⟨p, hp, e⟩ := List.mem_map.mp ha
    rw [← e]
    exact (G.own p hp).1
  have ap : ∀ {g g' : Gs}, ads (g ++ g') = ads g ++ ads g' := fun {g g'} => by unfold ads; exact List.map_append
  refine ⟨⟨G1.ext, G1.ntb, fun p hp => ?_, ?_, G1.tb⟩, t.ff.trans c.ff, fun a o h1 h2 h3 => ?_, fun a h => ?_⟩
  · rcases List.mem_append.mp hp with hp | hp
    · exact G1.own p hp
    · obtain ⟨h1, o, h2, h3, h4⟩ := G.own p (List.mem_append_right _ hp)
      exact ⟨(fr2 p hp).1, o, c.fr _ o h2 h3 (one p hp), h3, p.2.mono h4 c.ff⟩
  · rw [List.map_append, List.nodup_append]
    refine ⟨G1.nd, nd.2.1, fun a ha b hb e => ?_⟩
    obtain ⟨p, hp, e2⟩ := List.mem_map.mp hb
    exact (fr2 p hp).2 (by rw [e2, ← e]; exact ha)
  · have q := t.fr a o h1 h2 h3
    refine c.fr a o q h2 fun hm => ?_
    have hm2 : a ∈ ads (gs1 ++ gs2) := by rw [ap]; exact List.mem_append_left _ hm
    rcases t.nw a (.inr hm2) with z | z | z
    · obtain ⟨u, hu⟩ := Option.ne_none_iff_exists'.mp z
      have := t.ff a u hu
      rw [own0 a hm2] at this; cases this
    · exact h3 z
    · have := z o h1
      rw [h2] at this; cases this
  · have key : F' a ≠ none ∨ a ∈ ads gs1' → F0 a ≠ none ∨ a ∈ S0 ∨ Fre H0 a := fun h => by
      rcases c.nw a h with z | z | z
      · exact t.nw a (.inl z)
      · exact t.nw a (.inr (by rw [ap]; exact List.mem_append_left _ z))
      · exact .inr (t.was z)
    rcases h with h | h
    · exact key (.inl h)
    · rw [ap] at h
      rcases List.mem_append.mp h with h | h
      · exact key (.inr h)
      · exact t.nw a (.inr (by rw [ap]; exact List.mem_append_right _ h))
end
section
variable {Y : DX} {s : DSt} {e a b c : Expr} {es : List Expr} {pos : Pos} {D D' : DE} {st : Stmt} {sts : List Stmt} {Q : Pv → DSt → Prop}
/-- behind a callee -/
theorem Sta.called {σ : St} {H F H' F' : Hp} {gs1 gs2 gs1' : Gs} (S : Sta Y s σ H F) (hp : s.gs.Perm (gs1 ++ gs2)) (G1 : Stg Y.X.K Y.T gs1' H' F') (c : Step H F (ads gs1) H' F' (ads gs1')) : Sta Y ⟨s.ρ, gs1' ++ gs2⟩ σ H' F' := by
  have S2 := S.perm hp
  obtain ⟨G, t⟩ := Step.call S2.st S2.stg c G1
  exact ⟨G.ext, G.ntb, S.rep.mono c.ff, G.own, G.nd, G.tb, t⟩
/-- what a callee wants, at its arguments -/
theorem sp_call {n : Nat} {d : DSp} {σ : St} {F0 H F : Hp} {vs : List V} {As : List Pv} {gs1 gs2 : Gs} (e0 : Ext F0 F) (S : Sta Y s σ H F) (r : Rvs Y.X.K F vs As) (hn : As.length = n) (hp : s.gs.Perm (gs1 ++ gs2))
    (h : d As gs1 (fun A gs' => Q A ⟨s.ρ, gs' ++ gs2⟩) (fun e gs' => Y.ex e ⟨s.ρ, gs' ++ gs2⟩))
    (mono : ∀ (R R' : Pv → Gs → Prop) (E E' : Exc → Gs → Prop), (∀ A g, R A g → R' A g) → (∀ e g, E e g → E' e g) → d As gs1 R E → d As gs1 R' E') :
    toSp Y.X.K Y.T n d vs H (Po Y σ F0 Q) (L2.WE (wxOf Y) σ) := by
  have G := (S.perm hp).stg
  have nd := G.nd
  rw [List.map_append, List.nodup_append] at nd
  refine ⟨(Paired.length r).trans hn, As, gs1, F, r, ⟨G.ext, G.ntb, fun p hp => G.own p (List.mem_append_left _ hp), nd.1, G.tb⟩, mono _ _ _ _ (fun A g q v H' F' r' G1 c => ?_) (fun e g q cls dd H' F' r' G1 c => ?_) h⟩
  · exact ⟨A, _, F', e0.trans c.ff, r', S.called hp G1 c, q⟩
  · exact ⟨e, _, F', S.called hp G1 c, r', q⟩
/-- a promise that may be widened -/
def DMono (d : DSp) : Prop := ∀ As gs (R R' : Pv → Gs → Prop) (E E' : Exc → Gs → Prop), (∀ A g, R A g → R' A g) → (∀ e g, E e g → E' e g) → d As gs R E → d As gs R' E'
/-- a def of the text, as its callers know it -/
structure Df (P : Program) (w : World) (K : Frag) (mg : Str → Option Value) (base : Heap) (T : Tb) (k : Nat) (x : Str) (ps : List Str) (d : DSp) : Prop where
  ex : ∃ (f : Addr) (fd : FuncData), FnOk P w K mg base (L2.CX P w) k f fd ps (toSp K T ps.length d) ∧ mg x = some (.ref f) ∧ PySem.W.keepIn K (.ref f) = true ∧ Binds K fd ps []
  mono : DMono d
theorem ev_call {x : Str} {p : Pos} {ps : List Str} {d : DSp} {j : Nat} (G : Df Y.X.prog Y.X.w Y.X.K Y.X.mg Y.X.base Y.T j x ps d) (ok : YOk Y) (hj : j ≤ Y.k) (hg : Gl Y.X x)
    (h : Evs Y s (e :: es) fun As s1 => As.length = ps.length ∧ ∃ gs1 gs2, s1.gs.Perm (gs1 ++ gs2) ∧ d As gs1 (fun A gs' => Q A ⟨s1.ρ, gs' ++ gs2⟩) (fun e gs' => Y.ex e ⟨s1.ρ, gs' ++ gs2⟩))
    (hdb : (x == ("__debug__" : Str)) = false := by decide) (he : starEach (e :: es) Y.X.env = (false, eval e Y.X.env) :: starEach es Y.X.env := by rfl) (hpl : (backTo pos (starEach es Y.X.env)).any (·.1) = false := by rfl) : Ev Y s (.Call (.Name x p) (e :: es) [] pos) Q := fun F0 σ H F e0 S => by
  obtain ⟨⟨f, fd, F1, hm, hk, hb⟩, mono⟩ := G
  refine .of (pe_callS (E := L2.WE (wxOf Y)) F1 (ok.room.mono hj) hg hm hk hb (fun σ => passAt ok.tk σ) pa_wa hdb he hpl) ?_
  refine (h F0 σ H F e0 S).mono fun vs H1 ⟨As, s1, F1, e1, r1, S1, hl, gs1, gs2, hp, q⟩ => ?_
  exact sp_call e1 S1 r1 hl hp q (mono As gs1)
theorem pe_call0S {x : Str} {p : Pos} {k : Nat} {f : Addr} {fd : FuncData} {ps : List Str} {sp : Sp} {E : St → XK} {X : Cx} (F : FnOk X.prog X.w X.K X.mg X.base (L2.CX X.prog X.w) k f fd ps sp) (hr : Room k X.A) (hg : Gl X x) (hm : X.mg x = some (.ref f)) (hk : PySem.W.keepIn X.K (.ref f) = true) (hb : Binds X.K fd ps [])
    (hx : ∀ σ, PassesAt (L2.CX X.prog X.w) X σ (E σ)) (hdb : (x == ("__debug__" : Str)) = false := by decide) : PE X (.Call (.Name x p) [] [] pos) (tCallS sp E tNil) := by
  refine ⟨fun pins s σ H Q I h => ?_⟩
  refine wpAny_Call_Name_kw (ld_glob I hg hm ?_ hdb)
  exact PySem.W.callWith_K0 I.kIn hk (run_fnS (us := []) (vs := []) F hr hb (hx σ) I .nil h)
theorem ev_call0 {x : Str} {p : Pos} {ps : List Str} {d : DSp} {j : Nat} (G : Df Y.X.prog Y.X.w Y.X.K Y.X.mg Y.X.base Y.T j x ps d) (ok : YOk Y) (hj : j ≤ Y.k) (hg : Gl Y.X x)
    (h : ps.length = 0 ∧ ∃ gs1 gs2, s.gs.Perm (gs1 ++ gs2) ∧ d [] gs1 (fun A gs' => Q A ⟨s.ρ, gs' ++ gs2⟩) (fun e gs' => Y.ex e ⟨s.ρ, gs' ++ gs2⟩))
    (hdb : (x == ("__debug__" : Str)) = false := by decide) : Ev Y s (.Call (.Name x p) [] [] pos) Q := fun F0 σ H F e0 S => by
  obtain ⟨⟨f, fd, F1, hm, hk, hb⟩, mono⟩ := G
  obtain ⟨hl, gs1, gs2, hp, q⟩ := h
  refine .of (pe_call0S (E := L2.WE (wxOf Y)) F1 (ok.room.mono hj) hg hm hk hb (fun σ => passAt ok.tk σ) hdb) ?_
  exact sp_call e0 S .nil hl.symm hp q (mono [] gs1)

/-! ### own errors -/
structure ErrC (K : Frag) (mg : Str → Option Value) (x : Str) (C : Addr) : Prop where
  g : mg x = some (.ref C)
  xi : PySem.W.excIn K C [.type "ValueError", .type "Exception", .type "BaseException", .type "object"] "ValueError.__new__" = true
  kp : PySem.W.keepIn K (.ref C) = true
  sb : PySem.W.subIn K (.ref C) (.type "BaseException") = some true
  ty : PySem.W.typeIn K (.ref C) = some (.type "type")
theorem w1_raise {x m : Str} {C : Addr} {j : Nat} {p p2 p3 : Pos} (ok : YOk Y) (T : ErrC Y.X.K Y.X.mg x C) (hg : Gl Y.X x) (h : Y.ex ⟨C, none⟩ s) (hdb : (x == ("__debug__" : Str)) = false := by decide) :
    W1 Y s (.Raise (some (.Call (.Name x p) [.Constant (.str m) j p2] [] p3)) none pos) D := fun F0 σ H F e0 S =>
  .of (ps_raise ok.calm ok.tk (pmk_own PySem.F.excBase_ValueError T.xi T.g T.kp (raises_own T.sb T.ty) hg hdb)) ⟨⟨C, none⟩, s, F, S, ⟨rfl, trivial⟩, h⟩

/-! ### a def's body -/
theorem Stg.drop {K : Frag} {T : Tb} {gs : Gs} {H F : Hp} (G : Stg K T gs H F) (n : Nat) : Stg K T (gs.drop n) H F :=
  ⟨G.ext, G.ntb, fun p hp => G.own p (List.mem_of_mem_drop hp), G.nd.sublist ((List.drop_sublist n gs).map _), G.tb⟩
theorem Step.sub {H0 F0 H F : Hp} {S0 S S' : List Addr} (t : Step H0 F0 S0 H F S) (h : ∀ a ∈ S', a ∈ S) : Step H0 F0 S0 H F S' :=
  ⟨t.ff, t.fr, fun a q => t.nw a (q.imp id (h a))⟩
theorem ads_drop {gs : Gs} (n : Nat) : ∀ a ∈ ads (gs.drop n), a ∈ ads gs := fun a h => by
  obtain ⟨p, hp, e⟩ := List.mem_map.mp h
  exact List.mem_map.mpr ⟨p, List.mem_of_mem_drop hp, e⟩
/-- the body's context -/
abbrev bodyY (P : Program) (w : World) (K : Frag) (mg : Str → Option Value) (base : Heap) (T : Tb) (k : Nat) (N : List Str) (qual : Str) (scope : Scope) (f : Addr) (cdv : Value) (A : Around) (outer : List Env) (s : Shared) (H F : Hp) (gs : Gs) (E : XK) (ex : Exc → DSt → Prop) : DX :=
  ⟨cxOf (L2.CX P w) P w K mg base N qual scope f cdv A outer s H E, T, k, H, F, ads gs, ex⟩
theorem reps_start {K : Frag} {F : Hp} {vs : List V} {As : List Pv} (h : Rvs K F vs As) (n : Nat) : RepS K F (vs.map some ++ List.replicate n none) (As.map some ++ List.replicate n none) := by
  induction h with
  | nil =>
    induction n with
    | zero => exact .nil
    | succ n ih => exact .un ih
  | cons r _ ih => exact .ha r ih
theorem df_mk {P : Program} {w : World} {K : Frag} {mg : Str → Option Value} {base : Heap} {T : Tb} {k : Nat} {x qual : Str} {st : Stmt} {f : Addr} {fd : FuncData} {N ps : List Str} (F1 : Fun K x qual st f fd) (S : FnScope N ps (defScope st)) (d : DSp) (hl : ∀ As gs R E, d As gs R E → As.length = ps.length)
    (body : ∀ (cdv : Value) (A : Around) (outer : List Env) (s : Shared) (H F : Hp) (gs : Gs) (E : XK) (ex : Exc → DSt → Prop) (As : List Pv) (R : Pv → Gs → Prop) (X : Exc → Gs → Prop), d As gs R X → (∀ e s', (∃ n, X e (s'.gs.drop n)) → ex e s') →
      YOk (bodyY P w K mg base T k N qual (defScope st) f cdv A outer s H F gs E ex) →
      Ws (bodyY P w K mg base T k N qual (defScope st) f cdv A outer s H F gs E ex) ⟨As.map some ++ List.replicate (N.length - ps.length) none, gs⟩ (defBody st) { nx := fun s' => ∃ n, R (pu ()) (s'.gs.drop n), rt := fun A s' => ∃ n, R A (s'.gs.drop n) }) :
    FnOk P w K mg base (L2.CX P w) (k + 1) f fd ps (toSp K T ps.length d) := by
  refine F1.okX S (fun vs H Q E h => h.1) (fun cdv A outer s H vs Q E hr h => ?_)
  obtain ⟨hn, As, gs, F, r, G, hd⟩ := h
  have hAl := hl _ _ _ _ hd
  let Y : DX := bodyY P w K mg base T k N qual (defScope st) f cdv A outer s H F gs E (fun e s' => ∀ cls dd H' F', ExcRep e cls dd H' → Stg K T s'.gs H' F' → Step H F (ads gs) H' F' (ads s'.gs) → E cls dd H')
  have tk0 : Takes Y.X (fun cls d _ H => E cls d H) := takes_of rfl rfl rfl rfl
  have ok : YOk Y := ⟨rfl, S.nd, hr, passes_of rfl, tk0.imp fun c d' σ H' ⟨e, s', F', St, er, q⟩ => q c d' H' F' er St.stg St.st⟩
  have b := body cdv A outer s H F gs E _ As _ _ hd (fun e s' ⟨n, q⟩ cls dd H' F' r G' t' => q cls dd H' F' r (G'.drop n) (t'.sub (ads_drop n))) ok
  refine ⟨_, pss_ws, ?_⟩
  have S0 : Sta Y ⟨As.map some ++ List.replicate (N.length - ps.length) none, gs⟩ (L2.start N vs) H F := by
    refine ⟨G.ext, G.ntb, ?_, G.own, G.nd, G.tb, Step.refl⟩
    unfold L2.start
    rw [hn]
    exact reps_start r _
  refine (b F (L2.start N vs) H F (.refl _) S0).mono (fun σ' H' ⟨s', F', e1, S', q⟩ => ?_) (fun v H' ⟨A', s', σ', F', e1, r', S', q⟩ => ?_) (fun σ' H' ⟨s', F', e1, S', q⟩ => q.elim) (fun σ' H' ⟨s', F', e1, S', q⟩ => q.elim)
  · obtain ⟨n, q⟩ := q
    exact q .non H' F' rfl (S'.stg.drop n) (S'.st.sub (ads_drop n))
  · obtain ⟨n, q⟩ := q
    exact q v H' F' r' (S'.stg.drop n) (S'.st.sub (ads_drop n))
end
end Sp
set_option maxHeartbeats 4000000
/-! Sp: list comprehensions by data. -/
namespace Sp
open PySem L2
/-- where a comprehension's block may stand -/
structure BCx where
  s : Shared
  H : Hp
  C : Addr
  cl : List (Str × Addr)
  fp : List Addr
abbrev blkX (X : Cx) (scope : Scope) (z : BCx) : Cx := X.blk z.s z.H scope (compEnvC scope z.cl z.C X.env) z.fp
abbrev blkY (Y : DX) (scope : Scope) (z : BCx) : DX := ⟨blkX Y.X scope z, Y.T, Y.k, Y.H0, Y.F0, Y.S0, fun _ _ => False⟩
theorem Sta.blk {Y : DX} {scope : Scope} {z : BCx} {s : DSt} {σ : St} {H F : Hp} (S : Sta Y s σ H F) : Sta (blkY Y scope z) s σ H F := ⟨S.ext, S.ntb, S.rep, S.own, S.nd, S.tb, S.st⟩
theorem Sta.unblk {Y : DX} {scope : Scope} {z : BCx} {s : DSt} {σ : St} {H F : Hp} (S : Sta (blkY Y scope z) s σ H F) : Sta Y s σ H F := ⟨S.ext, S.ntb, S.rep, S.own, S.nd, S.tb, S.st⟩
theorem YOk.blk {Y : DX} {scope : Scope} {z : BCx} (ok : YOk Y) : YOk (blkY Y scope z) :=
  ⟨ok.calm, ok.nd, ok.room, PassesOwn.never, fun _ _ ⟨_, _, _, _, _, _, _, _, _, _, _, _, _, _, _, _, _, _, _, _, _, q⟩ => q.elim⟩
def wipeR (ρ : Rho) : List Nat → Rho
  | [] => ρ
  | v :: vs => (wipeR ρ vs).set v none
theorem RepS.wipe {K : Frag} {F : Hp} {σ : St} {ρ : Rho} (h : RepS K F σ ρ) : ∀ vs : List Nat, RepS K F (wipe σ vs) (wipeR ρ vs)
  | [] => h
  | v :: vs => (RepS.wipe h vs).forget v
theorem Sta.wipe {Y : DX} {s : DSt} {σ : St} {H F : Hp} (S : Sta Y s σ H F) (vs : List Nat) : Sta Y ⟨wipeR s.ρ vs, s.gs⟩ (L2.wipe σ vs) H F := ⟨S.ext, S.ntb, S.rep.wipe vs, S.own, S.nd, S.tb, S.st⟩
/-- names apart from the owned cells -/
theorem Sta.names {Y : DX} {s s' : DSt} {σ σ' : St} {H F F0 H' : Hp} (S : Sta Y s σ H F0) (S' : Sta Y s' σ' H' F) (e : Ext F0 F) : Sta Y ⟨s.ρ, s'.gs⟩ σ H' F := ⟨S'.ext, S'.ntb, S.rep.mono e, S'.own, S'.nd, S'.tb, S'.st⟩
theorem wipe_at {σ : St} {j : Nat} : ∀ {vs : List Nat}, (L2.wipe σ vs)[j]? = if j ∈ vs ∧ j < σ.length then some none else σ[j]?
  | [] => by simp [L2.wipe]
  | v :: vs => by
    unfold L2.wipe
    by_cases h : v = j
    · subst h
      by_cases hl : v < σ.length
      · rw [List.getElem?_set_self (by rw [wipe_length]; exact hl), if_pos ⟨List.mem_cons_self, hl⟩]
      · rw [if_neg (fun q => hl q.2), List.getElem?_eq_none (by rw [List.length_set, wipe_length]; omega), List.getElem?_eq_none (by omega)]
    · rw [List.getElem?_set_ne h, wipe_at]
      have : (j ∈ v :: vs) ↔ j ∈ vs := by
        rw [List.mem_cons]
        exact ⟨fun q => q.resolve_left fun e => h e.symm, .inr⟩
      simp only [this]
theorem wipe_only {σ σ2 : St} {ws vs : List Nat} (o : Only ws (L2.wipe σ vs) σ2) (hw : ∀ j ∈ ws, j ∈ vs) : L2.wipe σ2 vs = L2.wipe σ vs := by
  have hl : σ2.length = σ.length := by rw [o.1, wipe_length]
  apply List.ext_getElem?
  intro j
  rw [wipe_at, wipe_at, hl]
  by_cases h : j ∈ vs ∧ j < σ.length
  · rw [if_pos h, if_pos h]
  · rw [if_neg h, if_neg h]
    by_cases hj : j ∈ vs
    · have : ¬ j < σ.length := fun q => h ⟨hj, q⟩
      rw [List.getElem?_eq_none (by omega), List.getElem?_eq_none (by omega)]
    · rw [o.2 j (fun q => hj (hw j q)), wipe_at, if_neg h]
def WTs (X : Cx) (ifs : List Expr) (σ : St) (H : Hp) (Q : Bool → Hp → Prop) : Prop := ∀ (pins : List (Addr × Obj)) (s : Shared), Inv X pins σ H s →
  wpAny (model X.prog X.w) X.A (forIn ifs true fun c r => if r = true then do let ok ← isTrue c X.env (eval c X.env); pure (ForInStep.yield ok) else pure (ForInStep.yield r)) (TP X pins σ Q) X.xe s
theorem WTs.of {X : Cx} {ifs : List Expr} {t : TT} {σ : St} {H : Hp} {Q : Bool → Hp → Prop} (p : PTs X ifs t) (h : t σ H Q) : WTs X ifs σ H Q := fun pins s I => p.run pins s σ H Q I h
theorem WTs.mono {X : Cx} {ifs : List Expr} {σ : St} {H : Hp} {Q Q' : Bool → Hp → Prop} (h : WTs X ifs σ H Q) (k : ∀ b H', Q b H' → Q' b H') : WTs X ifs σ H Q' :=
  fun pins s I => thn (h pins s I) fun b _ ⟨H', J, q⟩ => ⟨H', J, k b H' q⟩
/-- tests of a clause -/
def Ets (Y : DX) (s : DSt) (ifs : List Expr) (Q : Bool → DSt → Prop) : Prop := ∀ F0 σ H F, Ext F0 F → Sta Y s σ H F → WTs Y.X ifs σ H (Pt Y σ F0 Q)
theorem ets_nil {Y : DX} {s : DSt} {Q : Bool → DSt → Prop} (h : Q true s) : Ets Y s [] Q := fun F0 σ H F e0 S => .of pts_nil ⟨s, F, e0, S, h⟩
theorem ets_one {Y : DX} {s : DSt} {c : Expr} {Q : Bool → DSt → Prop} (h : Et Y s c Q) : Ets Y s [c] Q := fun F0 σ H F e0 S => .of (pts_one pt_wt) (h F0 σ H F e0 S)

section
variable {Y : DX} {s : DSt} {elt tg iter : Expr} {ifs : List Expr} {scope : Scope} {own : List (Str × Nat)} {pos : Pos} {Q : Pv → DSt → Prop}
variable {α β : Type} [Enc α] [Enc β]
/-- what the turns of a comprehension are: Iv i ys gs: ahead of turn i the list is ys, the cells are gs -/
structure LcTurns (Y : DX) (s : DSt) (scope : Scope) (vs : List Nat) (tg elt : Expr) (ifs : List Expr) (g : TG) (ws : List Nat) (f : β → Rho → Rho) (items : List β) (Iv : Nat → List α → Gs → Prop) : Prop where
  tg : ∀ z, TgOk (blkY Y scope z) tg g ws f
  sub : ∀ j ∈ ws, j ∈ vs
  small : ∀ i ys gs, Iv i ys gs → i < items.length → ys.length < sizeLine
  step : ∀ z i x ys gs D, items[i]? = some x → Iv i ys gs → Ets (blkY Y scope z) ⟨f x (wipeR s.ρ vs), (D, lstc ys) :: gs⟩ ifs fun b s2 =>
    if b = true then ∀ z', Ev (blkY Y scope z') s2 elt fun A s3 => ∃ y gs3, A = pu y ∧ s3.gs = (D, lstc ys) :: gs3 ∧ Iv (i + 1) (ys ++ [y]) gs3 else ∃ gs2, s2.gs = (D, lstc ys) :: gs2 ∧ Iv (i + 1) ys gs2
theorem tlc_ok {g : TG} {ws : List Nat} {f : β → Rho → Rho} {items : List β} {Iv : Nat → List α → Gs → Prop} {wi : TI} {F0 : Hp} {σ : St} {H : Hp} {Qf : VK}
    (hw : ∀ (R : It → Hp → Prop), (∀ J H' F', Ext F0 F' → Sta Y s σ H' F' → ItOk Y.X.K J F' items → R J H') → wi σ H R) (L : LcTurns Y s scope (own.map (·.2)) tg elt ifs g ws f items Iv) (h0 : Iv 0 [] s.gs)
    (hQ : ∀ D H' F' ys gs, Ext F0 F' → Sta Y ⟨s.ρ, (D, lstc ys) :: gs⟩ σ H' F' → Iv items.length ys gs → Qf (.ref D) H') :
    tLc wi g (fun σ H Q => ∀ z, WTs (blkX Y.X scope z) ifs σ H Q) (fun σ H Q => ∀ z, WE (blkX Y.X scope z) elt σ H Q) (own.map (·.2)) σ H Qf := by
  refine hw _ fun J H1 F1 e1 S1 K1 => ?_
  intro D hD
  have S1' := S1.newO (o := .lst []) (c := lstc ([] : List α)) hD rfl ⟨[], rfl, .nil⟩
  refine ⟨fun i m H => m = items.length - i ∧ i ≤ items.length ∧ ∃ ys gs F2, Ext F1 F2 ∧ Sta Y ⟨s.ρ, (D, lstc ys) :: gs⟩ σ H F2 ∧ Iv i ys gs, ⟨items.length, rfl, Nat.zero_le _, [], s.gs, F1, .refl _, S1', h0⟩, ?_⟩
  rintro i m H2 ⟨rfl, hi, ys, gs, F2, e2, S2, iv⟩
  by_cases hlt : i < items.length
  · have hx : items[i]? = some items[i] := List.getElem?_eq_getElem hlt
    refine .inr ⟨((K1 i H2 F2 e2 S2.ext).1 _ hx).1, fun H' => ∃ ys' gs' F3, Ext F1 F3 ∧ Sta Y ⟨s.ρ, (D, lstc ys') :: gs'⟩ σ H' F3 ∧ Iv (i + 1) ys' gs', fun H' ⟨ys', gs', F3, e3, S3, iv3⟩ => ⟨items.length - (i + 1), by omega, rfl, hlt, ys', gs', F3, e3, S3, iv3⟩, fun v H3 y => ?_⟩
    obtain ⟨F3, e3, S3, r3⟩ := K1.yld e2 S2 hx y
    have e13 := e2.trans e3
    let z0 : BCx := ⟨Y.X.s_0, H, 0, [], []⟩
    refine (L.tg z0).2 (L2.wipe σ (own.map (·.2))) H3 F3 v _ ⟨wipeR s.ρ (own.map (·.2)), (D, lstc ys) :: gs⟩ _ (S3.wipe _).blk r3 fun σ4 S4 o4 => ?_
    refine ⟨wipe_only o4 L.sub, ?_⟩
    have S4' := S4.unblk
    intro z
    have st := L.step z i _ ys gs D hx iv F3 σ4 H3 F3 (.refl _) S4'.blk
    refine st.mono fun b H4 ⟨s5, F5, e5, S5, q⟩ => ?_
    cases b with
    | false =>
      obtain ⟨gs2, eg, iv5⟩ := q
      refine ⟨ys, gs2, F5, e13.trans e5, ?_, iv5⟩
      have := S3.names S5.unblk e5
      rw [eg] at this
      exact this
    | true =>
      intro z'
      refine (q z' F5 σ4 H4 F5 (.refl _) S5.unblk.blk).mono fun w H6 ⟨A, s6, F6, e6, r6, S6, y, gs3, ea, eg, iv6⟩ => ?_
      subst ea
      have S7 := S3.names S6.unblk (e5.trans e6)
      rw [eg] at S7
      obtain ⟨hF, o, ho, hot, vs, ev, rv⟩ := S7.cell (i := 0) (p := D) (c := lstc ys) rfl
      subst ev
      refine ⟨vs, ho, by rw [rv.length]; exact L.small i ys gs iv hlt, ys ++ [y], gs3, F6, (e13.trans e5).trans e6, ?_, iv6⟩
      exact S7.write (i := 0) (c' := lstc (ys ++ [y])) (o' := .lst (vs ++ [w])) rfl ho (fun c q => by intro z; cases z) rfl ⟨_, rfl, rv.snoc r6⟩
  · have e : i = items.length := by omega
    subst e
    exact .inl ⟨(K1 _ H2 F2 e2 S2.ext).2 (Nat.le_refl _), hQ D H2 F2 ys gs (e1.trans e2) S2 iv⟩
theorem pts_wts {X : Cx} : PTs X ifs (WTs X ifs) := ⟨fun pins s _ _ _ I h => h pins s I⟩
/-- a comprehension: the list frozen -/
theorem ev_lc {g : TG} {ws : List Nat} {f : β → Rho → Rho} {items : List β} (ok : YOk Y) (hi : EvIt Y s tg iter items) (bk : BlkOk Y.X.N Y.X.env.scope scope own) (Iv : Nat → List α → Gs → Prop) (L : LcTurns Y s scope (own.map (·.2)) tg elt ifs g ws f items Iv) (h0 : Iv 0 [] s.gs)
    (hQ : ∀ ys gs, Iv items.length ys gs → Q (pu ys) ⟨s.ρ, gs⟩) (hs : ∀ x, foldedSetIterable iter Y.X.env x = pure x := by intro _; rfl) : Ev Y s (.ListComp elt [⟨tg, iter, ifs, 0⟩] scope pos) Q := fun F0 σ H F e0 S => by
  obtain ⟨wi, hp, hw⟩ := hi
  have P := pe_lc (pos := pos) (tt := fun σ H Q => ∀ z, WTs (blkX Y.X scope z) ifs σ H Q) (te := fun σ H Q => ∀ z, WE (blkX Y.X scope z) elt σ H Q) ok.calm ok.nd hp bk (fun s H C cl fp => (L.tg ⟨s, H, C, cl, fp⟩).1) (fun s H C cl fp => ⟨fun pins s' σ H' Q I h => h ⟨s, H, C, cl, fp⟩ pins s' I⟩) (fun s H C cl fp => ⟨fun pins s' σ H' Q I h => h ⟨s, H, C, cl, fp⟩ pins s' I⟩) hs
  refine .of P (tlc_ok (fun R k => hw F0 σ H F R e0 S k) L h0 fun D H' F' ys gs e1 S1 iv => ?_)
  obtain ⟨hF, o, ho, hot, vs, ev, rv⟩ := S1.cell (i := 0) (p := D) (c := lstc ys) rfl
  subst ev
  have S2 := S1.freeze (i := 0) (p := D) (c := lstc ys) rfl ho
  exact ⟨pu ys, ⟨s.ρ, gs⟩, upd F' D (.lst vs), e1.trans (Ext.grow hF), ⟨D, vs, rfl, .of upd_same, rv.mono (Ext.grow hF)⟩, S2, hQ ys gs iv⟩
/-- .. the list owned -/
theorem ev_lcO {g : TG} {ws : List Nat} {f : β → Rho → Rho} {items : List β} (ok : YOk Y) (hi : EvIt Y s tg iter items) (bk : BlkOk Y.X.N Y.X.env.scope scope own) (Iv : Nat → List α → Gs → Prop) (L : LcTurns Y s scope (own.map (·.2)) tg elt ifs g ws f items Iv) (h0 : Iv 0 [] s.gs)
    (hQ : ∀ D ys gs, Iv items.length ys gs → Q (raw (.ref D)) ⟨s.ρ, (D, lstc ys) :: gs⟩) (hs : ∀ x, foldedSetIterable iter Y.X.env x = pure x := by intro _; rfl) : Ev Y s (.ListComp elt [⟨tg, iter, ifs, 0⟩] scope pos) Q := fun F0 σ H F e0 S => by
  obtain ⟨wi, hp, hw⟩ := hi
  have P := pe_lc (pos := pos) (tt := fun σ H Q => ∀ z, WTs (blkX Y.X scope z) ifs σ H Q) (te := fun σ H Q => ∀ z, WE (blkX Y.X scope z) elt σ H Q) ok.calm ok.nd hp bk (fun s H C cl fp => (L.tg ⟨s, H, C, cl, fp⟩).1) (fun s H C cl fp => ⟨fun pins s' σ H' Q I h => h ⟨s, H, C, cl, fp⟩ pins s' I⟩) (fun s H C cl fp => ⟨fun pins s' σ H' Q I h => h ⟨s, H, C, cl, fp⟩ pins s' I⟩) hs
  exact .of P (tlc_ok (fun R k => hw F0 σ H F R e0 S k) L h0 fun D H' F' ys gs e1 S1 iv => ⟨raw (.ref D), _, F', e1, rfl, S1, hQ D ys gs iv⟩)
/-- x = a comprehension, on one line -/
theorem w1_setLc {D : DE} {y : Str} {py spos : Pos} {i : Nat} {g : TG} {ws : List Nat} {f : β → Rho → Rho} {items : List β} (ok : YOk Y) (hy : Y.X.N[i]? = some y) (hyl : Y.X.env.scope.names.lookup y = some .local)
    (hsw : swapsWith (.ListComp elt [⟨tg, iter, ifs, 0⟩] scope pos) (some (.Name y py)) spos.line Y.X.env = pure true) (hi : EvIt Y s tg iter items) (bk : BlkOk Y.X.N Y.X.env.scope scope own) (Iv : Nat → List α → Gs → Prop) (L : LcTurns Y s scope (own.map (·.2)) tg elt ifs g ws f items Iv) (h0 : Iv 0 [] s.gs)
    (hQ : ∀ ys gs, Iv items.length ys gs → D.nx ⟨s.ρ.set i (some (pu ys)), gs⟩) (hs : ∀ x, foldedSetIterable iter Y.X.env x = pure x := by intro _; rfl) : W1 Y s (.Assign [.Name y py] (.ListComp elt [⟨tg, iter, ifs, 0⟩] scope pos) spos) D := fun F0 σ H F e0 S => by
  obtain ⟨wi, hp, hw⟩ := hi
  have P := ps_setLc (tt := fun σ H Q => ∀ z, WTs (blkX Y.X scope z) ifs σ H Q) (te := fun σ H Q => ∀ z, WE (blkX Y.X scope z) elt σ H Q) ok.calm ok.nd hy hyl hsw hp bk (fun s H C cl fp => (L.tg ⟨s, H, C, cl, fp⟩).1) (fun s H C cl fp => ⟨fun pins s' σ H' Q I h => h ⟨s, H, C, cl, fp⟩ pins s' I⟩) (fun s H C cl fp => ⟨fun pins s' σ H' Q I h => h ⟨s, H, C, cl, fp⟩ pins s' I⟩) hs
  refine WP.of P ?_
  show tLc wi g _ _ _ σ H (fun x H1 => gName i x σ H1 (D.to Y F0).nx)
  refine tlc_ok (fun R k => hw F0 σ H F R e0 S k) L h0 fun D H' F' ys gs e1 S1 iv => ?_
  obtain ⟨hF, o, ho, hot, vs, ev, rv⟩ := S1.cell (i := 0) (p := D) (c := lstc ys) rfl
  subst ev
  have S2 := S1.freeze (i := 0) (p := D) (c := lstc ys) rfl ho
  exact ⟨_, upd F' D (.lst vs), e1.trans (Ext.grow hF), S2.set (A := pu ys) ⟨D, vs, rfl, .of upd_same, rv.mono (Ext.grow hF)⟩ i, hQ ys gs iv⟩
/-- quiet turns: each item gives h x, those with c x alone -/
theorem lc_quiet {vs : List Nat} {g : TG} {ws : List Nat} {f : β → Rho → Rho} {items : List β} (c : β → Bool) (h : β → α) (tg0 : ∀ z, TgOk (blkY Y scope z) tg g ws f) (sub : ∀ j ∈ ws, j ∈ vs) (small : items.length ≤ sizeLine)
    (ht : ∀ z x D ys, x ∈ items → Ets (blkY Y scope z) ⟨f x (wipeR s.ρ vs), (D, lstc (α := α) ys) :: s.gs⟩ ifs fun b s2 => b = c x ∧ s2 = ⟨f x (wipeR s.ρ vs), (D, lstc ys) :: s.gs⟩)
    (he : ∀ z x D ys, x ∈ items → c x = true → EvP (blkY Y scope z) ⟨f x (wipeR s.ρ vs), (D, lstc (α := α) ys) :: s.gs⟩ elt (pu (h x))) :
    LcTurns Y s scope vs tg elt ifs g ws f items (fun i ys gs => ys = ((items.take i).filter c).map h ∧ gs = s.gs) where
  tg := tg0
  sub := sub
  small := fun i ys gs ⟨e, _⟩ hi => by
    subst e
    rw [List.length_map]
    have h1 := List.length_filter_le c (items.take i)
    rw [List.length_take] at h1
    omega
  step := fun z i x ys gs D hx ⟨e1, e2⟩ => by
    subst e2
    have hm := List.mem_of_getElem? hx
    have et : (items.take (i + 1)) = items.take i ++ [x] := by rw [List.take_add_one, hx, Option.toList_some]
    intro F0 σ H F e0 S
    refine (ht z x D ys hm F0 σ H F e0 S).mono fun b H' ⟨s2, F2, e3, S2, q1, q2⟩ => ⟨s2, F2, e3, S2, ?_⟩
    subst q1 q2
    cases hc : c x with
    | false => exact ⟨s.gs, rfl, by rw [e1, et, List.filter_append, List.filter_cons_of_neg (by simp [hc]), List.filter_nil, List.append_nil], rfl⟩
    | true => exact fun z' => .of (he z' x D ys hm hc) ⟨h x, s.gs, rfl, rfl, by rw [e1, et, List.filter_append, List.filter_cons_of_pos hc, List.filter_nil, List.map_append]; rfl, rfl⟩
end
end Sp
set_option maxHeartbeats 4000000
/-! Sp: readers; comparisons, truth, choices; lists, tuples, texts; calls of built-ins. -/
namespace Sp
open PySem L2
open PySem.W (Datum DatumOrd SomeDatum)
section
variable {Y : DX} {s : DSt} {e a b c d : Expr} {es : List Expr} {pos : Pos} {Q : Pv → DSt → Prop}
/-! ### readers -/
/-- A stands for x just now -/
def DA (Y : DX) (s : DSt) {α : Type} [Enc α] (A : Pv) (x : α) : Prop := ∀ σ H F v, Sta Y s σ H F → A.rep Y.X.K F v → Enc.rep Y.X.K H v x
theorem DA.pu {α : Type} [Enc α] {x : α} : DA Y s (pu x) x := fun σ H F v S r => Enc.mono (α := α) r S.ext
theorem DA.own {α : Type} [Enc α] {xs : List α} {p : Addr} (i : Nat) (h : s.gs[i]? = some (p, lstc xs)) : DA Y s (raw (.ref p)) xs := fun σ H F v S r => by
  obtain ⟨_, o, ho, _, vs, eo, rv⟩ := S.cell h
  subst eo
  exact ⟨p, vs, r, .of ho, rv.mono S.ext⟩
/-- A reads as a dict just now -/
def DD (Y : DX) (s : DSt) {κ ν : Type} [Kk κ] [Enc ν] (A : Pv) (d : List (κ × ν)) : Prop := ∀ σ H F v, Sta Y s σ H F → A.rep Y.X.K F v → ∃ p kvs, v = .ref p ∧ Rd H p (.dK kvs) ∧ KVs Y.X.K H kvs d
theorem DD.pu {κ ν : Type} [Kk κ] [Enc ν] {d : Dct κ ν} : DD Y s (pu d) d.kvs := fun σ H F v S ⟨p, od, kvs, e, hp, r⟩ => ⟨p, kvs, e, .inr ⟨od, S.ext _ _ hp⟩, r.mono S.ext⟩
theorem DD.own {κ ν : Type} [Kk κ] [Enc ν] {d : List (κ × ν)} {p : Addr} (i : Nat) (h : s.gs[i]? = some (p, dctc d)) : DD Y s (raw (.ref p)) d := fun σ H F v S r => by
  obtain ⟨_, o, ho, _, vs, eo, rv⟩ := S.cell h
  subst eo
  exact ⟨p, vs, r, .inl ho, rv.mono S.ext⟩

/-! ### comparisons -/
def WC (X : Cx) (op : CmpOp) (a b : Expr) (σ : St) (H : Hp) (Q : VK) : Prop := ∀ (pins : List (Addr × Obj)) (s : Shared), Inv X pins σ H s →
  wpAny (model X.prog X.w) X.A (eval a X.env) (fun v s₁ => wpAny (model X.prog X.w) X.A (eval b X.env) (fun u s₂ => wpAny (model X.prog X.w) X.A (compareOp op v u) (EP X pins σ Q) X.xe s₂) X.xe s₁) X.xe s
theorem pc_wc {X : Cx} {op : CmpOp} : PC X op a b (WC X op a b) := ⟨fun pins s _ _ _ I h => h pins s I⟩
theorem WC.of {X : Cx} {op : CmpOp} {t : TE} {σ : St} {H : Hp} {Q : VK} (p : PC X op a b t) (h : t σ H Q) : WC X op a b σ H Q := fun pins s I => p.run pins s σ H Q I h
theorem pc_opr {X : Cx} {op : CmpOp} {r : R2} {ta tb : TE} (ho : OpR X (compareOp op) r) (ha : PE X a ta) (hb : PE X b tb) : PC X op a b (tOp r ta tb) := by
  refine ⟨fun pins s σ H Q I h => ?_⟩
  exact thn (ha.run pins s σ H _ I h) fun v s1 ⟨x, H1, I1, r1, q1⟩ => thn (hb.run pins s1 σ H1 _ I1 q1) fun u s2 ⟨y, H2, I2, r2, q2⟩ => ho pins s2 σ H2 x y v u Q I2 r1 r2 q2
def Cmp (Y : DX) (s : DSt) (op : CmpOp) (a b : Expr) (Q : Bool → DSt → Prop) : Prop :=
  ∀ F0 σ H F, Ext F0 F → Sta Y s σ H F → WC Y.X op a b σ H fun v H' => ∃ c s' F', v = .bl c ∧ Ext F0 F' ∧ Sta Y s' σ H' F' ∧ Q c s'
abbrev CmpP (Y : DX) (s : DSt) (op : CmpOp) (a b : Expr) (c : Bool) : Prop := Cmp Y s op a b fun c' s' => c' = c ∧ s' = s
/-- a rule of an operator, by data -/
theorem cmp_of {op : CmpOp} {r : R2} {Q : Bool → DSt → Prop} (ho : OpR Y.X (compareOp op) r)
    (h : Ev Y s a fun A s1 => Ev Y s1 b fun B s2 => ∃ c : Bool, Q c s2 ∧ ∀ σ H F v u (Q' : VK), Sta Y s2 σ H F → A.rep Y.X.K F v → B.rep Y.X.K F u → Q' (.bl c) H → r v u H Q') : Cmp Y s op a b Q := fun F0 σ H F e0 S => by
  refine .of (pc_opr ho pe_we pe_we) ?_
  refine (h F σ H F (.refl _) S).mono fun v H1 ⟨A, s1, F1, e1, r1, S1, q1⟩ => ?_
  refine (q1 F1 σ H1 F1 (.refl _) S1).mono fun u H2 ⟨B, s2, F2, e2, r2, S2, c, qc, q2⟩ => ?_
  exact q2 σ H2 F2 v u _ S2 (A.mono r1 e2) r2 ⟨c, s2, F2, rfl, (e0.trans e1).trans e2, S2, qc⟩
theorem cmpp_of {op : CmpOp} {r : R2} {A B : Pv} {c : Bool} (ho : OpR Y.X (compareOp op) r) (ha : EvP Y s a A) (hb : EvP Y s b B)
    (h : ∀ σ H F v u (Q' : VK), Sta Y s σ H F → A.rep Y.X.K F v → B.rep Y.X.K F u → Q' (.bl c) H → r v u H Q') : CmpP Y s op a b c :=
  cmp_of ho (.of ha (.of hb ⟨c, ⟨rfl, rfl⟩, h⟩))
theorem ev_cmp {op : CmpOp} (h : Cmp Y s op a b fun c s' => Q (pu c) s') (h1 : behindInMarks op b = false := by first | exact nobehind _ (by decide) (by decide) | rfl) : Ev Y s (.Compare a [op] [b] pos) Q := fun F0 σ H F e0 S => by
  refine .of (pe_cmp pc_wc h1) ?_
  intro pins s1 I
  refine thn (h F0 σ H F e0 S pins s1 I) fun v s2 k => thn k fun u s3 k2 => thn k2 fun w s4 ⟨x, H', J, r, c, s', F', ex, e1, S', q⟩ => ?_
  subst ex
  exact ⟨_, H', J, r, pu c, s', F', e1, rfl, S', q⟩
theorem et_cmp {op : CmpOp} {Q : Bool → DSt → Prop} (h : Cmp Y s op a b Q) (h1 : behindInMarks op b = false := by first | exact nobehind _ (by decide) (by decide) | rfl) : Et Y s (.Compare a [op] [b] pos) Q := fun F0 σ H F e0 S => by
  refine .of (pt_cmp pc_wc h1) ?_
  intro pins s1 I
  refine thn (h F0 σ H F e0 S pins s1 I) fun v s2 k => thn k fun u s3 k2 => thn k2 fun w s4 ⟨x, H', J, r, c, s', F', ex, e1, S', q⟩ => ?_
  exact ⟨x, H', J, r, c, ex, s', F', e1, S', q⟩
theorem evp_cmp {op : CmpOp} {x : Bool} (h : CmpP Y s op a b x) (h1 : behindInMarks op b = false := by first | exact nobehind _ (by decide) (by decide) | rfl) : EvP Y s (.Compare a [op] [b] pos) (pu x) :=
  .of (ev_cmp (fun F0 σ H F e0 S => by
    intro pins s1 I
    exact thn (h F0 σ H F e0 S pins s1 I) fun v s2 k => thn k fun u s3 k2 => thn k2 fun w s4 ⟨x, H', J, r, c, s', F', ex, e1, S', q1, q2⟩ => by
      subst q1 q2
      exact ⟨x, H', J, r, _, _, F', ex, e1, S', rfl, rfl⟩) h1)
theorem etp_cmp {op : CmpOp} {x : Bool} (h : CmpP Y s op a b x) (h1 : behindInMarks op b = false := by first | exact nobehind _ (by decide) (by decide) | rfl) : EtP Y s (.Compare a [op] [b] pos) x := .of (et_cmp h h1)
theorem Cmp.mono {op : CmpOp} {Q Q' : Bool → DSt → Prop} (h : Cmp Y s op a b Q) (k : ∀ c s', Q c s' → Q' c s') : Cmp Y s op a b Q' := fun F0 σ H F e0 S pins s1 I =>
  thn (h F0 σ H F e0 S pins s1 I) fun v s2 z => thn z fun u s3 z2 => thn z2 fun w s4 ⟨x, H', J, r, c, s', F', ex, e1, S', q⟩ => ⟨x, H', J, r, c, s', F', ex, e1, S', k _ _ q⟩
theorem cmp_pure {op : CmpOp} {x : Bool} {Q : Bool → DSt → Prop} (h : CmpP Y s op a b x) (q : Q x s) : Cmp Y s op a b Q := h.mono fun c s' ⟨e1, e2⟩ => by subst e1 e2; exact q
section
variable {α β : Type} [DecidableEq α] [Enc α] {A B : Pv} {x y : α}
section
variable [Datum α] [Dat α]
theorem cmp_eq (ok : YOk Y) (ha : EvP Y s a A) (hA : DA Y s A x) (hb : EvP Y s b B) (hB : DA Y s B y) (hd : Datum.depth α ≤ 60 := by decide) : CmpP Y s .Eq a b (decide (x = y)) :=
  cmpp_of (op_eqT (α := α) ok.room.units hd) ha hb fun σ H F v u Q S r1 r2 q => ⟨x, y, hA σ H F v S r1, hB σ H F u S r2, q⟩
theorem cmp_ne (ok : YOk Y) (ha : EvP Y s a A) (hA : DA Y s A x) (hb : EvP Y s b B) (hB : DA Y s B y) (hd : Datum.depth α ≤ 60 := by decide) : CmpP Y s .NotEq a b (decide (x ≠ y)) :=
  cmpp_of (op_neT (α := α) ok.room.units hd) ha hb fun σ H F v u Q S r1 r2 q => ⟨x, y, hA σ H F v S r1, hB σ H F u S r2, q⟩
/-- effects on the way -/
theorem cmp_eqE (α : Type) [DecidableEq α] [Enc α] [Datum α] [Dat α] {Q : Bool → DSt → Prop} (ok : YOk Y) (h : Ev Y s a fun A s1 => Ev Y s1 b fun B s2 => ∃ x y : α, DA Y s2 A x ∧ DA Y s2 B y ∧ Q (decide (x = y)) s2) (hd : Datum.depth α ≤ 60 := by decide) : Cmp Y s .Eq a b Q :=
  cmp_of (op_eqT (α := α) ok.room.units hd) (h.mono fun A s1 h1 => h1.mono fun B s2 ⟨x, y, hA, hB, q⟩ => ⟨_, q, fun σ H F v u Q S r1 r2 q => ⟨x, y, hA σ H F v S r1, hB σ H F u S r2, q⟩⟩)
theorem cmp_neE (α : Type) [DecidableEq α] [Enc α] [Datum α] [Dat α] {Q : Bool → DSt → Prop} (ok : YOk Y) (h : Ev Y s a fun A s1 => Ev Y s1 b fun B s2 => ∃ x y : α, DA Y s2 A x ∧ DA Y s2 B y ∧ Q (decide (x ≠ y)) s2) (hd : Datum.depth α ≤ 60 := by decide) : Cmp Y s .NotEq a b Q :=
  cmp_of (op_neT (α := α) ok.room.units hd) (h.mono fun A s1 h1 => h1.mono fun B s2 ⟨x, y, hA, hB, q⟩ => ⟨_, q, fun σ H F v u Q S r1 r2 q => ⟨x, y, hA σ H F v S r1, hB σ H F u S r2, q⟩⟩)
theorem cmp_in {xs : List α} (ok : YOk Y) (ha : EvP Y s a (pu x)) (hb : EvP Y s b B) (hB : DA Y s B xs) (hd : Datum.depth α ≤ 60 := by decide) : CmpP Y s .In a b (decide (x ∈ xs)) :=
  cmpp_of (op_inT (α := α) ok.room.units hd) ha hb fun σ H F v u Q S r1 r2 q => ⟨x, xs, Enc.mono (α := α) r1 S.ext, hB σ H F u S r2, q⟩
theorem cmp_nin {xs : List α} (ok : YOk Y) (ha : EvP Y s a (pu x)) (hb : EvP Y s b B) (hB : DA Y s B xs) (hd : Datum.depth α ≤ 60 := by decide) : CmpP Y s .NotIn a b (decide (x ∉ xs)) :=
  cmpp_of (op_ninT (α := α) ok.room.units hd) ha hb fun σ H F v u Q S r1 r2 q => ⟨x, xs, Enc.mono (α := α) r1 S.ext, hB σ H F u S r2, q⟩
theorem cmp_inH {xs : Tup α} (ok : YOk Y) (ha : EvP Y s a (pu x)) (hb : EvP Y s b (pu xs)) (hd : Datum.depth α ≤ 60 := by decide) : CmpP Y s .In a b (decide (x ∈ xs.items)) :=
  cmpp_of (op_inH (α := α) ok.room.units hd) ha hb fun σ H F v u Q S r1 r2 q => ⟨x, xs, Enc.mono (α := α) r1 S.ext, Enc.mono (α := Tup α) r2 S.ext, q⟩
theorem cmp_ninH {xs : Tup α} (ok : YOk Y) (ha : EvP Y s a (pu x)) (hb : EvP Y s b (pu xs)) (hd : Datum.depth α ≤ 60 := by decide) : CmpP Y s .NotIn a b (decide (x ∉ xs.items)) :=
  cmpp_of (op_ninH (α := α) ok.room.units hd) ha hb fun σ H F v u Q S r1 r2 q => ⟨x, xs, Enc.mono (α := α) r1 S.ext, Enc.mono (α := Tup α) r2 S.ext, q⟩
end
/-! order -/
theorem op_ltD {X : Cx} [DatumOrd α] [Dat α] (hu : X.A.units + 64 < cLine) (hd : Datum.depth α ≤ 60) : OpR X (compareOp .Lt) (fun x y H Q => ∃ a b : α, Enc.rep X.K H x a ∧ Enc.rep X.K H y b ∧ Q (.bl (DatumOrd.lt a b)) H) := by
  intro pins s σ H x y v u Q I rx ry ⟨a, b, ha, hb, q⟩
  exact PySem.W.lt_datum (enc_holds I ha rx) (enc_holds I hb ry) (by omega) ⟨.bl _, H, I, rfl, q⟩
theorem op_gtD {X : Cx} [DatumOrd α] [Dat α] (hu : X.A.units + 64 < cLine) (hd : Datum.depth α ≤ 60) : OpR X (compareOp .Gt) (fun x y H Q => ∃ a b : α, Enc.rep X.K H x a ∧ Enc.rep X.K H y b ∧ Q (.bl (DatumOrd.lt b a)) H) := by
  intro pins s σ H x y v u Q I rx ry ⟨a, b, ha, hb, q⟩
  exact PySem.W.gt_datum (enc_holds I ha rx) (enc_holds I hb ry) (by omega) ⟨.bl _, H, I, rfl, q⟩
theorem op_leD {X : Cx} [DatumOrd α] [Dat α] (hu : X.A.units + 64 < cLine) (hd : Datum.depth α ≤ 60) : OpR X (compareOp .LtE) (fun x y H Q => ∃ a b : α, Enc.rep X.K H x a ∧ Enc.rep X.K H y b ∧ Q (.bl (!DatumOrd.lt b a)) H) := by
  intro pins s σ H x y v u Q I rx ry ⟨a, b, ha, hb, q⟩
  exact PySem.W.le_datum (enc_holds I ha rx) (enc_holds I hb ry) (by omega) ⟨.bl _, H, I, rfl, q⟩
theorem op_geD {X : Cx} [DatumOrd α] [Dat α] (hu : X.A.units + 64 < cLine) (hd : Datum.depth α ≤ 60) : OpR X (compareOp .GtE) (fun x y H Q => ∃ a b : α, Enc.rep X.K H x a ∧ Enc.rep X.K H y b ∧ Q (.bl (!DatumOrd.lt a b)) H) := by
  intro pins s σ H x y v u Q I rx ry ⟨a, b, ha, hb, q⟩
  exact PySem.W.ge_datum (enc_holds I ha rx) (enc_holds I hb ry) (by omega) ⟨.bl _, H, I, rfl, q⟩
section
variable [DatumOrd α] [Dat α]
theorem cmp_ltD (ok : YOk Y) (ha : EvP Y s a (pu x)) (hb : EvP Y s b (pu y)) (hd : Datum.depth α ≤ 60 := by decide) : CmpP Y s .Lt a b (DatumOrd.lt x y) :=
  cmpp_of (op_ltD (α := α) ok.room.units hd) ha hb fun σ H F v u Q S r1 r2 q => ⟨x, y, Enc.mono (α := α) r1 S.ext, Enc.mono (α := α) r2 S.ext, q⟩
theorem cmp_gtD (ok : YOk Y) (ha : EvP Y s a (pu x)) (hb : EvP Y s b (pu y)) (hd : Datum.depth α ≤ 60 := by decide) : CmpP Y s .Gt a b (DatumOrd.lt y x) :=
  cmpp_of (op_gtD (α := α) ok.room.units hd) ha hb fun σ H F v u Q S r1 r2 q => ⟨x, y, Enc.mono (α := α) r1 S.ext, Enc.mono (α := α) r2 S.ext, q⟩
theorem cmp_leD (ok : YOk Y) (ha : EvP Y s a (pu x)) (hb : EvP Y s b (pu y)) (hd : Datum.depth α ≤ 60 := by decide) : CmpP Y s .LtE a b (!DatumOrd.lt y x) :=
  cmpp_of (op_leD (α := α) ok.room.units hd) ha hb fun σ H F v u Q S r1 r2 q => ⟨x, y, Enc.mono (α := α) r1 S.ext, Enc.mono (α := α) r2 S.ext, q⟩
theorem cmp_geD (ok : YOk Y) (ha : EvP Y s a (pu x)) (hb : EvP Y s b (pu y)) (hd : Datum.depth α ≤ 60 := by decide) : CmpP Y s .GtE a b (!DatumOrd.lt x y) :=
  cmpp_of (op_geD (α := α) ok.room.units hd) ha hb fun σ H F v u Q S r1 r2 q => ⟨x, y, Enc.mono (α := α) r1 S.ext, Enc.mono (α := α) r2 S.ext, q⟩
end
end
section
variable {i j : Int}
theorem cmp_lt (ha : EvP Y s a (pu i)) (hb : EvP Y s b (pu j)) : CmpP Y s .Lt a b (decide (i < j)) := cmpp_of op_lt ha hb fun σ H F v u Q S r1 r2 q => ⟨i, j, r1, r2, q⟩
theorem cmp_le (ha : EvP Y s a (pu i)) (hb : EvP Y s b (pu j)) : CmpP Y s .LtE a b (decide (i ≤ j)) := cmpp_of op_le ha hb fun σ H F v u Q S r1 r2 q => ⟨i, j, r1, r2, q⟩
theorem cmp_gt (ha : EvP Y s a (pu i)) (hb : EvP Y s b (pu j)) : CmpP Y s .Gt a b (decide (j < i)) := cmpp_of op_gt ha hb fun σ H F v u Q S r1 r2 q => ⟨i, j, r1, r2, q⟩
theorem cmp_ge (ha : EvP Y s a (pu i)) (hb : EvP Y s b (pu j)) : CmpP Y s .GtE a b (decide (j ≤ i)) := cmpp_of op_ge ha hb fun σ H F v u Q S r1 r2 q => ⟨i, j, r1, r2, q⟩
end
/-- x in y, texts -/
def tin (x y : List Nat) : Bool := !(Builtin.Str.occurrences (toStr y) (toStr x) 0 y.length 1).isEmpty
theorem cmp_inS {x y : List Nat} (ha : EvP Y s a (pu x)) (hb : EvP Y s b (pu y)) : CmpP Y s .In a b (tin x y) :=
  cmpp_of op_in_str ha hb fun σ H F v u Q S r1 r2 q => ⟨toStr x, toStr y, r1, r2, by rw [toStr_len]; exact q⟩
theorem cmp_ninS {x y : List Nat} (ha : EvP Y s a (pu x)) (hb : EvP Y s b (pu y)) : CmpP Y s .NotIn a b (!tin x y) :=
  cmpp_of op_notin_str ha hb fun σ H F v u Q S r1 r2 q => ⟨toStr x, toStr y, r1, r2, by rw [toStr_len]; exact q⟩
/-- one sign in a text -/
theorem cmp_in1 {x : Nat} {y : List Nat} (ha : EvP Y s a (pu [x])) (hb : EvP Y s b (pu y)) : CmpP Y s .In a b (decide (x ∈ y)) :=
  cmpp_of op_in_sign ha hb fun σ H F v u Q S r1 r2 q => ⟨x, toStr y, r1, r2, by rw [toStr_cps]; exact q⟩
/-! is None -/
/-- never None -/
class NoN (α : Type) [Enc α] : Prop where
  no : ∀ {K F} {v : V} {x : α}, Enc.rep K F v x → v ≠ .non
instance : NoN Int := ⟨fun h e => by rw [e] at h; cases h⟩
instance : NoN Bool := ⟨fun h e => by rw [e] at h; cases h⟩
instance : NoN (List Nat) := ⟨fun h e => by rw [e] at h; cases h⟩
section
variable {α β γ δ : Type} [Enc α] [Enc β] [Enc γ] [Enc δ]
instance : NoN (List α) := ⟨fun ⟨_, _, h, _⟩ e => by rw [e] at h; cases h⟩
instance : NoN (Tup α) := ⟨fun ⟨_, _, h, _⟩ e => by rw [e] at h; cases h⟩
instance : NoN (α × β) := ⟨fun ⟨_, _, _, h, _⟩ e => by rw [e] at h; cases h⟩
instance : NoN (T3 α β γ) := ⟨fun ⟨_, _, _, _, h, _⟩ e => by rw [e] at h; cases h⟩
instance : NoN (T4 α β γ δ) := ⟨fun ⟨_, _, _, _, _, h, _⟩ e => by rw [e] at h; cases h⟩
theorem optNone [NoN α] {K F} {v : V} {x : Option α} (h : Enc.rep K F v x) : decide (v = .non) = x.isNone := by
  cases x with
  | none => cases h; rfl
  | some x => exact decide_eq_false (NoN.no (α := α) h)
theorem cmp_isN [NoN α] {x : Option α} {j : Nat} {p : Pos} (ha : EvP Y s a (pu x)) : CmpP Y s .Is a (.Constant .none j p) x.isNone :=
  cmpp_of op_isN ha evp_non fun σ H F v u Q S r1 r2 q => ⟨r2, by rw [optNone (α := α) r1]; exact q⟩
theorem cmp_notN [NoN α] {x : Option α} {j : Nat} {p : Pos} (ha : EvP Y s a (pu x)) : CmpP Y s .IsNot a (.Constant .none j p) x.isSome :=
  cmpp_of op_notN ha evp_non fun σ H F v u Q S r1 r2 q => ⟨r2, by
    rw [optNone (α := α) r1]
    cases x <;> exact q⟩
end

/-! ### truth -/
def WTW (X : Cx) (e : Expr) (σ : St) (H : Hp) (Q : Bool → Hp → Prop) : Prop :=
  ∀ (wh : Sem Value) (pins : List (Addr × Obj)) (s : Shared), Inv X pins σ H s → wpAny (model X.prog X.w) X.A (isTrue e X.env wh) (TP X pins σ Q) X.xe s
theorem pw_wtw {X : Cx} : PW X e (WTW X e) := ⟨fun wh pins s _ _ _ I h => h wh pins s I⟩
theorem WTW.of {X : Cx} {σ : St} {H : Hp} {t : TT} {Q : Bool → Hp → Prop} (p : PW X e t) (h : t σ H Q) : WTW X e σ H Q := fun wh pins s I => p.run wh pins s σ H Q I h
/-- a test of and, or, whatever stands around it -/
def Ew (Y : DX) (s : DSt) (e : Expr) (Q : Bool → DSt → Prop) : Prop := ∀ F0 σ H F, Ext F0 F → Sta Y s σ H F → WTW Y.X e σ H (Pt Y σ F0 Q)
theorem et_w {Q : Bool → DSt → Prop} (h : Ew Y s e Q) : Et Y s e Q := fun F0 σ H F e0 S => .of pw_wtw.pt (h F0 σ H F e0 S)
theorem ew_and1 {Q : Bool → DSt → Prop} (h : Et Y s a Q) : Ew Y s (.BoolOp .And [a] pos) Q := fun F0 σ H F e0 S => .of (pw_and1 pt_wt) (h F0 σ H F e0 S)
theorem ew_or1 {Q : Bool → DSt → Prop} (h : Et Y s a Q) : Ew Y s (.BoolOp .Or [a] pos) Q := fun F0 σ H F e0 S => .of (pw_or1 pt_wt) (h F0 σ H F e0 S)
theorem WTW.mono {X : Cx} {σ : St} {H : Hp} {Q Q' : Bool → Hp → Prop} (h : WTW X e σ H Q) (k : ∀ b H', Q b H' → Q' b H') : WTW X e σ H Q' :=
  fun wh pins s I => thn (h wh pins s I) fun b _ ⟨H', J, q⟩ => ⟨H', J, k b H' q⟩
theorem Pt.ext {σ : St} {F0 F1 : Hp} {Q : Bool → DSt → Prop} {c : Bool} {H : Hp} (h : Pt Y σ F1 Q c H) (e : Ext F0 F1) : Pt Y σ F0 Q c H := by
  obtain ⟨s', F', e1, S', q⟩ := h
  exact ⟨s', F', e.trans e1, S', q⟩
theorem ew_and {Q : Bool → DSt → Prop} {r : List Expr} (h : Et Y s a fun x s1 => if x = true then Ew Y s1 (.BoolOp .And (b :: r) pos) Q else Q false s1) : Ew Y s (.BoolOp .And (a :: b :: r) pos) Q := fun F0 σ H F e0 S => by
  refine .of (pw_and pt_wt pw_wtw) ((h F0 σ H F e0 S).mono fun x H1 ⟨s1, F1, e1, S1, q⟩ => ?_)
  cases x with
  | true => exact (q F1 σ H1 F1 (.refl _) S1).mono fun c H2 z => z.ext e1
  | false => exact ⟨s1, F1, e1, S1, q⟩
theorem ew_or {Q : Bool → DSt → Prop} {r : List Expr} (h : Et Y s a fun x s1 => if x = true then Q true s1 else Ew Y s1 (.BoolOp .Or (b :: r) pos) Q) : Ew Y s (.BoolOp .Or (a :: b :: r) pos) Q := fun F0 σ H F e0 S => by
  refine .of (pw_or pt_wt pw_wtw) ((h F0 σ H F e0 S).mono fun x H1 ⟨s1, F1, e1, S1, q⟩ => ?_)
  cases x with
  | false => exact (q F1 σ H1 F1 (.refl _) S1).mono fun c H2 z => z.ext e1
  | true => exact ⟨s1, F1, e1, S1, q⟩
theorem et_not {Q : Bool → DSt → Prop} (h : Et Y s a fun x s1 => Q (!x) s1) : Et Y s (.UnaryOp .Not a pos) Q := fun F0 σ H F e0 S =>
  .of (pt_not pt_wt) ((h F0 σ H F e0 S).mono fun x H1 ⟨s1, F1, e1, S1, q⟩ => ⟨s1, F1, e1, S1, q⟩)
/-- quiet tests -/
abbrev EwP (Y : DX) (s : DSt) (e : Expr) (x : Bool) : Prop := Ew Y s e fun y s' => y = x ∧ s' = s
theorem etp_w {x : Bool} (h : EwP Y s e x) : EtP Y s e x := .of (et_w h)
theorem ewp_and1 {x : Bool} (h : EtP Y s a x) : EwP Y s (.BoolOp .And [a] pos) x := ew_and1 (.of h ⟨rfl, rfl⟩)
theorem ewp_or1 {x : Bool} (h : EtP Y s a x) : EwP Y s (.BoolOp .Or [a] pos) x := ew_or1 (.of h ⟨rfl, rfl⟩)
theorem Ew.to {Q Q' : Bool → DSt → Prop} (h : Ew Y s e Q) (k : ∀ x s', Q x s' → Q' x s') : Ew Y s e Q' := fun F0 σ H F e0 S => (h F0 σ H F e0 S).mono fun x H1 ⟨s1, F1, e1, S1, q⟩ => ⟨s1, F1, e1, S1, k _ _ q⟩
theorem ewp_and {x y : Bool} {r : List Expr} (h : EtP Y s a x) (k : x = true → EwP Y s (.BoolOp .And (b :: r) pos) y) : EwP Y s (.BoolOp .And (a :: b :: r) pos) (x && y) := ew_and (.of h (by
  cases x with
  | true => exact (k rfl).to fun z s' q => q
  | false => exact ⟨rfl, rfl⟩))
theorem ewp_or {x y : Bool} {r : List Expr} (h : EtP Y s a x) (k : x = false → EwP Y s (.BoolOp .Or (b :: r) pos) y) : EwP Y s (.BoolOp .Or (a :: b :: r) pos) (x || y) := ew_or (.of h (by
  cases x with
  | false => exact (k rfl).to fun z s' q => q
  | true => exact ⟨rfl, rfl⟩))
theorem etp_not {x : Bool} (h : EtP Y s a x) : EtP Y s (.UnaryOp .Not a pos) (!x) := .of (et_not (.of h ⟨rfl, rfl⟩))
theorem etp_val {x : Bool} (he : ∀ whole, isTrue e Y.X.env whole = (do let v ← whole; standAt e.pos; holding [v] (truthy v))) (h : EvP Y s e (pu x)) : EtP Y s e x := .of (et_val he (.of h ⟨x, rfl, rfl, rfl⟩))
/-! as values -/
theorem evp_not {x : Bool} (h : EvP Y s a (pu x)) : EvP Y s (.UnaryOp .Not a pos) (pu (!x)) :=
  evp1 (r := fun v H Q => ∃ c, v = .bl c ∧ Q (.bl (!c)) H) (pe_not pe_we) h fun F0 σ H F v e0 S r => ⟨x, r, F, e0, rfl, S⟩
theorem evp_boole {op : BoolOp} {A : Pv} (h : EvP Y s a A) : EvP Y s (.BoolOp op [a] pos) A := fun F0 σ H F e0 S => .of (pe_one pe_we) (h F0 σ H F e0 S)
theorem Pp.ext {σ : St} {F0 F1 : Hp} {A : Pv} {v : V} {H : Hp} (h : Pp Y s σ F1 A v H) (e : Ext F0 F1) : Pp Y s σ F0 A v H := by
  obtain ⟨F', e1, r, S'⟩ := h
  exact ⟨F', e.trans e1, r, S'⟩
theorem evp_and {x y : Bool} {r : List Expr} (h : EvP Y s a (pu x)) (k : x = true → EvP Y s (.BoolOp .And (b :: r) pos) (pu y)) : EvP Y s (.BoolOp .And (a :: b :: r) pos) (pu (x && y)) := fun F0 σ H F e0 S => by
  refine .of (pe_and pe_we pe_we) ((h F0 σ H F e0 S).mono fun v H1 ⟨F1, e1, r1, S1⟩ => ⟨x, r1, ?_⟩)
  cases x with
  | true => exact (k rfl F1 σ H1 F1 (.refl _) S1).mono fun c H2 z => Pp.ext z e1
  | false => exact ⟨F1, e1, rfl, S1⟩
theorem evp_or {x y : Bool} {r : List Expr} (h : EvP Y s a (pu x)) (k : x = false → EvP Y s (.BoolOp .Or (b :: r) pos) (pu y)) : EvP Y s (.BoolOp .Or (a :: b :: r) pos) (pu (x || y)) := fun F0 σ H F e0 S => by
  refine .of (pe_or pe_we pe_we) ((h F0 σ H F e0 S).mono fun v H1 ⟨F1, e1, r1, S1⟩ => ⟨x, r1, ?_⟩)
  cases x with
  | false => exact (k rfl F1 σ H1 F1 (.refl _) S1).mono fun c H2 z => Pp.ext z e1
  | true => exact ⟨F1, e1, rfl, S1⟩
/-- a if c else b -/
theorem ev_if (h : Et Y s c fun x s1 => if x = true then Ev Y s1 a Q else Ev Y s1 b Q) : Ev Y s (.IfExp c a b pos) Q := fun F0 σ H F e0 S => by
  refine .of (pe_ifExp pt_wt pe_we pe_we) ((h F0 σ H F e0 S).mono fun x H1 ⟨s1, F1, e1, S1, q⟩ => ?_)
  cases x with
  | true => exact q F0 σ H1 F1 e1 S1
  | false => exact q F0 σ H1 F1 e1 S1
theorem evp_if {α : Type} [Enc α] {x : Bool} {u w : α} (h : EtP Y s c x) (ka : x = true → EvP Y s a (pu u)) (kb : x = false → EvP Y s b (pu w)) : EvP Y s (.IfExp c a b pos) (pu (if x = true then u else w)) := .of (ev_if (.of h (by
  cases x with
  | true => exact .of (ka rfl) ⟨rfl, rfl⟩
  | false => exact .of (kb rfl) ⟨rfl, rfl⟩)))
theorem EvP.inl {α β : Type} [Enc α] [Enc β] {x : α} (h : EvP Y s e (pu x)) : EvP Y s e (pu (Sum.inl x : α ⊕ β)) := h
theorem EvP.inr {α β : Type} [Enc α] [Enc β] {x : β} (h : EvP Y s e (pu x)) : EvP Y s e (pu (Sum.inr x : α ⊕ β)) := h
theorem EvP.some {α : Type} [Enc α] {x : α} (h : EvP Y s e (pu x)) : EvP Y s e (pu (Option.some x)) := h
theorem evp_none {α : Type} [Enc α] {j : Nat} : EvP Y s (.Constant .none j pos) (pu (Option.none : Option α)) := (evp_non : EvP Y s (.Constant .none j pos) (pu ()))
theorem evp_neg {i : Int} (h : EvP Y s a (pu i)) : EvP Y s (.UnaryOp .USub a pos) (pu (-i)) :=
  evp1 (r := fun v H Q => rU (fun i => .int (-i)) v H Q) (pe_un un_neg pe_we) h fun F0 σ H F v e0 S r => ⟨i, r, F, e0, rfl, S⟩
end
end Sp
set_option maxHeartbeats 4000000
/-! Sp: lists, tuples, texts: calls, methods, slices, sources. -/
namespace Sp
open PySem L2
open PySem.W (Datum DatumOrd SomeDatum)
section
variable {Y : DX} {s : DSt} {e a b c d o : Expr} {es : List Expr} {pos p : Pos} {Q : Pv → DSt → Prop}
/-! ### calls of built-ins, quietly -/
theorem evp_B1' {A B : Pv} {x : Str} {id : String} {r : List V → Hp → VK → Prop} (hc : CallR Y.X (.builtin id) r) (hg : Gl Y.X x) (hm : Y.X.mg x = none) (hv : bootBuiltins x = some (.builtin id)) (ha : EvP Y s a A)
    (h : ∀ F0 σ H F v, Ext F0 F → Sta Y s σ H F → A.rep Y.X.K F v → r [v] H (Pp Y s σ F0 B)) (hn : x ≠ "__name__" := by decide) (hdb : (x == ("__debug__" : Str)) = false := by decide)
    (he : starEach [a] Y.X.env = (false, eval a Y.X.env) :: starEach [] Y.X.env := by rfl) : EvP Y s (.Call (.Name x p) [a] [] pos) B := evp_B1 hc hg hm hv ha h hn hdb he
theorem evp_T1 {A B : Pv} {x : Str} {T : String} {r : List V → Hp → VK → Prop} (hc : CallR Y.X (.type T) r) (hg : Gl Y.X x) (hm : Y.X.mg x = none) (hv : bootBuiltins x = some (.type T)) (ha : EvP Y s a A)
    (h : ∀ F0 σ H F v, Ext F0 F → Sta Y s σ H F → A.rep Y.X.K F v → r [v] H (Pp Y s σ F0 B)) (hn : x ≠ "__name__" := by decide) (hdb : (x == ("__debug__" : Str)) = false := by decide)
    (he : starEach [a] Y.X.env = (false, eval a Y.X.env) :: starEach [] Y.X.env := by rfl) : EvP Y s (.Call (.Name x p) [a] [] pos) B := fun F0 σ H F e0 S => by
  refine .of (pe_callTy hc hg hm hv (pa_cons pe_we pa_nil he) hn hdb he (by rfl)) ?_
  refine (ha F0 σ H F e0 S).mono fun v H1 ⟨F1, e1, r1, S1⟩ => ?_
  exact h F0 σ H1 F1 v e1 S1 r1
theorem evp_B2 {A B C : Pv} {x : Str} {id : String} {r : List V → Hp → VK → Prop} (hc : CallR Y.X (.builtin id) r) (hg : Gl Y.X x) (hm : Y.X.mg x = none) (hv : bootBuiltins x = some (.builtin id)) (ha : EvP Y s a A) (hb : EvP Y s b B)
    (h : ∀ F0 σ H F v w, Ext F0 F → Sta Y s σ H F → A.rep Y.X.K F v → B.rep Y.X.K F w → r [v, w] H (Pp Y s σ F0 C)) (hn : x ≠ "__name__" := by decide) (hdb : (x == ("__debug__" : Str)) = false := by decide)
    (he : starEach [a, b] Y.X.env = (false, eval a Y.X.env) :: starEach [b] Y.X.env := by rfl) (he2 : starEach [b] Y.X.env = (false, eval b Y.X.env) :: starEach [] Y.X.env := by rfl) (hpl : (backTo pos (starEach [b] Y.X.env)).any (·.1) = false := by rfl) : EvP Y s (.Call (.Name x p) [a, b] [] pos) C := fun F0 σ H F e0 S => by
  refine .of (pe_callB hc hg hm hv (pa_cons pe_we (pa_cons pe_we pa_nil he2) he) hn hdb he hpl) ?_
  refine (ha F σ H F (.refl _) S).mono fun v H1 ⟨F1, e1, r1, S1⟩ => ?_
  refine (hb F1 σ H1 F1 (.refl _) S1).mono fun w H2 ⟨F2, e2, r2, S2⟩ => ?_
  exact h F0 σ H2 F2 v w ((e0.trans e1).trans e2) S2 (A.mono r1 e2) r2
/-- a new list of what the items stand for -/
theorem pp_list {α : Type} [Enc α] {σ : St} {F0 H F : Hp} {vs : List V} {xs : List α} (e0 : Ext F0 F) (S : Sta Y s σ H F) (r : Vs Y.X.K F vs xs) (q : Addr) (hq : H q = none) : Pp Y s σ F0 (pu xs) (.ref q) (upd H q (.lst vs)) :=
  ⟨upd F q (.lst vs), e0.trans (Ext.grow (S.free hq)), ⟨q, vs, rfl, .of upd_same, r.mono (Ext.grow (S.free hq))⟩, S.newF hq rfl⟩
section
variable {α : Type} [Enc α] {A B : Pv} {xs ys : List α}
theorem evp_lenA (T : Bis Y.X.mg) (hg : Gl Y.X "len") (ha : EvP Y s a A) (hA : DA Y s A xs) (he : starEach [a] Y.X.env = (false, eval a Y.X.env) :: starEach [] Y.X.env := by rfl) : EvP Y s (.Call (.Name "len" p) [a] [] pos) (pu (xs.length : Int)) :=
  evp_B1 call_len hg (T.no _ (by decide)) boot_len ha (fun F0 σ H F v e0 S r => by
    obtain ⟨q, vs, h1, h2, h3⟩ := hA σ H F v S r
    exact ⟨v, vs.length, rfl, by subst h1; exact .inl ⟨vs, h2, rfl⟩, F, e0, by rw [Paired.length h3]; rfl, S⟩) (by decide) (by decide) he
theorem evp_sum {ns : List Int} (ok : YOk Y) (T : Bis Y.X.mg) (hg : Gl Y.X "sum") (ha : EvP Y s a A) (hA : DA Y s A ns) (he : starEach [a] Y.X.env = (false, eval a Y.X.env) :: starEach [] Y.X.env := by rfl) : EvP Y s (.Call (.Name "sum" p) [a] [] pos) (pu ns.sum) :=
  evp_B1 (cr_sumT ok.calm) hg (T.no _ (by decide)) PyProof.Rows.boot_sum ha (fun F0 σ H F v e0 S r => ⟨v, ns, rfl, hA σ H F v S r, F, e0, rfl, S⟩) (by decide) (by decide) he
theorem evp_abs {i : Int} (T : Bis Y.X.mg) (hg : Gl Y.X "abs") (ha : EvP Y s a (pu i)) (he : starEach [a] Y.X.env = (false, eval a Y.X.env) :: starEach [] Y.X.env := by rfl) : EvP Y s (.Call (.Name "abs" p) [a] [] pos) (pu (if i < 0 then -i else i)) :=
  evp_B1 call_abs hg (T.no _ (by decide)) PyProof.Rows.boot_abs ha (fun F0 σ H F v e0 S r => ⟨i, by rw [show v = .int i from r], F, e0, rfl, S⟩) (by decide) (by decide) he
theorem evp_min2 {i j : Int} (ok : YOk Y) (T : Bis Y.X.mg) (hg : Gl Y.X "min") (ha : EvP Y s a (pu i)) (hb : EvP Y s b (pu j))
    (he : starEach [a, b] Y.X.env = (false, eval a Y.X.env) :: starEach [b] Y.X.env := by rfl) (he2 : starEach [b] Y.X.env = (false, eval b Y.X.env) :: starEach [] Y.X.env := by rfl) (hpl : (backTo pos (starEach [b] Y.X.env)).any (·.1) = false := by rfl) :
    EvP Y s (.Call (.Name "min" p) [a, b] [] pos) (pu (if j < i then j else i)) :=
  evp_B2 (call_min2 ok.calm) hg (T.no _ (by decide)) PyProof.Rows.boot_min ha hb (fun F0 σ H F v w e0 S r r2 => ⟨i, j, by rw [show v = .int i from r, show w = .int j from r2], F, e0, rfl, S⟩) (by decide) (by decide) he he2 hpl
theorem evp_max2 {i j : Int} (ok : YOk Y) (T : Bis Y.X.mg) (hg : Gl Y.X "max") (ha : EvP Y s a (pu i)) (hb : EvP Y s b (pu j))
    (he : starEach [a, b] Y.X.env = (false, eval a Y.X.env) :: starEach [b] Y.X.env := by rfl) (he2 : starEach [b] Y.X.env = (false, eval b Y.X.env) :: starEach [] Y.X.env := by rfl) (hpl : (backTo pos (starEach [b] Y.X.env)).any (·.1) = false := by rfl) :
    EvP Y s (.Call (.Name "max" p) [a, b] [] pos) (pu (if j > i then j else i)) :=
  evp_B2 (call_max2 ok.calm) hg (T.no _ (by decide)) PyProof.Rows.boot_max ha hb (fun F0 σ H F v w e0 S r r2 => ⟨i, j, by rw [show v = .int i from r, show w = .int j from r2], F, e0, rfl, S⟩) (by decide) (by decide) he he2 hpl
end
/-- readers of lists whose items are frozen -/
def DL (Y : DX) (s : DSt) {α : Type} [Enc α] (A : Pv) (xs : List α) : Prop := ∀ σ H F v, Sta Y s σ H F → A.rep Y.X.K F v → ∃ p vs, v = .ref p ∧ SqL Y.X.K H p vs ∧ Vs Y.X.K F vs xs
theorem DL.pu {α : Type} [Enc α] {xs : List α} : DL Y s (pu xs) xs := fun σ H F v S ⟨p, vs, h1, h2, h3⟩ => ⟨p, vs, h1, sqL_ext h2 S.ext, h3⟩
theorem DL.own {α : Type} [Enc α] {xs : List α} {p : Addr} (i : Nat) (h : s.gs[i]? = some (p, lstc xs)) : DL Y s (raw (.ref p)) xs := fun σ H F v S r => by
  obtain ⟨_, o, ho, _, vs, eo, rv⟩ := S.cell h
  subst eo
  exact ⟨p, vs, r, .of ho, rv⟩
theorem DL.da {α : Type} [Enc α] {A : Pv} {xs : List α} (h : DL Y s A xs) : DA Y s A xs := fun σ H F v S r => by
  obtain ⟨p, vs, h1, h2, h3⟩ := h σ H F v S r
  exact ⟨p, vs, h1, h2, h3.mono S.ext⟩
end
/-! ### rules whose items come out of the list, frozen where they were frozen -/
section
variable {X : Cx} {α : Type} [DecidableEq α] [Enc α]
theorem cr_sortedF [DatumOrd α] [Dat α] [Srtb α] (hu : X.A.units + 64 < cLine) (hd : Datum.depth α ≤ 60) : CallR X (.builtin "sorted") (fun vs H Q => ∃ F y p zs, ∃ xs : List α, vs = [y] ∧ y = .ref p ∧ SqL X.K H p zs ∧ Vs X.K F zs xs ∧ Ext F H ∧ ∀ p zs, H p = none → Vs X.K F zs (srt xs) → Q (.ref p) (upd H p (.lst zs))) := by
  intro pins s σ H vs us Q I r ⟨F, y, p, zs, xs, ev, e, hq, hz, ex, q⟩
  subst e ev
  obtain ⟨its, rv, hl, hlen⟩ := I.list hq
  obtain ⟨u, rfl, ru⟩ := vals1 r
  cases ru
  have hls : zs.length = xs.length := Paired.length hz
  have e0 := each_of hz rv
  refine PySem.W.sorted_data (enc := Datum.toD) hl.isList e0 (e0.mono fun u a ⟨z, r1, r2⟩ => enc_holds I (Enc.mono r1 ex) r2) (sort_alike xs) (sort_able xs) (by omega) (fun b _ => by have := Datum.depth_le b; omega) fun out h1 h2 => ?_
  rw [srt_eq] at h2
  obtain ⟨zs', h3, h4⟩ := each_back h2
  obtain ⟨ep, he'⟩ := PyProof.Rows.sortedAll_at s.heap its out.toArray
  have hl4 : zs'.length = out.length := Paired.length h4
  exact ⟨.ref _, upd H (s.heap.objs.size + 1) (.lst zs'), I.laid (t' := s.toks) (fun _ _ => PyProof.Rows.sortedAll_old) (Nat.le_succ _) ⟨by omega, out, ep, h4, he'⟩, rfl, q _ zs' (I.hok.fresh (Nat.le_succ _)) h3⟩
theorem pickF [DatumOrd α] [Dat α] {pins : List (Addr × Obj)} {σ : St} {H F : Hp} {s : Shared} {h' : Heap} {tk : Nat} {zs : List V} {its : List Value} {xs : List α} {i : Nat} {v : Value} {m : α} (I : Inv X pins σ H { s with heap := h', toks := tk }) (hz : Vs X.K F zs xs) (ex : Ext F H) (rv : Vals zs its) (hv : its[i]? = some v) (hm : PySem.W.Holds h' v m) :
    ∃ z, Enc.rep X.K F z m ∧ RelV z v := by
  have hi : i < its.length := (List.getElem?_eq_some_iff.mp hv).1
  have e1 : zs.length = its.length := Paired.length rv
  have e2 : zs.length = xs.length := Paired.length hz
  obtain ⟨z, h1, r1⟩ := prd_get hz (i := i) (y := xs[i]'(by omega)) (List.getElem?_eq_getElem _)
  obtain ⟨u, h2, r2⟩ := rv.get h1
  rw [hv] at h2
  cases h2
  have := holds_one (h := h') (enc_holds I (Enc.mono r1 ex) r2) hm
  rw [this] at r1
  exact ⟨z, r1, r2⟩
theorem cr_minF [DatumOrd α] [Dat α] (hc : X.calm = true) (hu : X.A.units + 64 < cLine) (hd : Datum.depth α ≤ 60) : CallR X (.builtin "min") (fun vs H Q => ∃ F y p zs x, ∃ xs : List α, vs = [y] ∧ y = .ref p ∧ SqL X.K H p zs ∧ Vs X.K F zs (x :: xs) ∧ Ext F H ∧ ∀ z, Enc.rep X.K F z (PySem.W.minOf x xs) → Q z H) := by
  intro pins s σ H vs us Q I r ⟨F, y, p, zs, x, xs, ev, e, hq, hz, ex, q⟩
  subst e ev
  obtain ⟨its, rv, hl, hlen⟩ := I.list hq
  obtain ⟨u, rfl, ru⟩ := vals1 r
  cases ru
  refine PySem.W.min_list_datum (vs := its.toArray) (I.ok.hd hc) hl.isList (vs_holds I (hz.mono ex) rv) (by omega) fun i v h' tk hv hm hk => ?_
  have J := I.kept (t' := tk) hk
  obtain ⟨z, r1, r2⟩ := pickF J hz ex rv (by simpa using hv) hm
  exact ⟨z, H, J, r2, q z r1⟩
theorem cr_maxF [DatumOrd α] [Dat α] (hc : X.calm = true) (hu : X.A.units + 64 < cLine) (hd : Datum.depth α ≤ 60) : CallR X (.builtin "max") (fun vs H Q => ∃ F y p zs x, ∃ xs : List α, vs = [y] ∧ y = .ref p ∧ SqL X.K H p zs ∧ Vs X.K F zs (x :: xs) ∧ Ext F H ∧ ∀ z, Enc.rep X.K F z (PySem.W.maxOf x xs) → Q z H) := by
  intro pins s σ H vs us Q I r ⟨F, y, p, zs, x, xs, ev, e, hq, hz, ex, q⟩
  subst e ev
  obtain ⟨its, rv, hl, hlen⟩ := I.list hq
  obtain ⟨u, rfl, ru⟩ := vals1 r
  cases ru
  refine PySem.W.max_list_datum (vs := its.toArray) (I.ok.hd hc) hl.isList (vs_holds I (hz.mono ex) rv) (by omega) fun i v h' tk hv hm hk => ?_
  have J := I.kept (t' := tk) hk
  obtain ⟨z, r1, r2⟩ := pickF J hz ex rv (by simpa using hv) hm
  exact ⟨z, H, J, r2, q z r1⟩
end
section
variable {Y : DX} {s : DSt} {e a b c d o : Expr} {es : List Expr} {pos p apos : Pos} {Q : Pv → DSt → Prop}
section
variable {α : Type} [DecidableEq α] [Enc α] {A B : Pv} {x : α} {xs ys : List α}
theorem evp_sorted [DatumOrd α] [Dat α] [Srtb α] (ok : YOk Y) (T : Bis Y.X.mg) (hg : Gl Y.X "sorted") (ha : EvP Y s a A) (hA : DL Y s A xs) (hd : Datum.depth α ≤ 60 := by decide) (he : starEach [a] Y.X.env = (false, eval a Y.X.env) :: starEach [] Y.X.env := by rfl) :
    EvP Y s (.Call (.Name "sorted" p) [a] [] pos) (pu (srt xs)) :=
  evp_B1 (cr_sortedF (α := α) ok.room.units hd) hg (T.no _ (by decide)) PyProof.Rows.boot_sorted ha (fun F0 σ H F v e0 S r => by
    obtain ⟨q, zs, h1, h2, h3⟩ := hA σ H F v S r
    exact ⟨F, v, q, zs, xs, rfl, h1, h2, h3, S.ext, fun q' zs' hq' r' => pp_list e0 S r' q' hq'⟩) (by decide) (by decide) he
theorem evp_min [DatumOrd α] [Dat α] (ok : YOk Y) (T : Bis Y.X.mg) (hg : Gl Y.X "min") (ha : EvP Y s a A) (hA : DL Y s A (x :: xs)) (hd : Datum.depth α ≤ 60 := by decide) (he : starEach [a] Y.X.env = (false, eval a Y.X.env) :: starEach [] Y.X.env := by rfl) :
    EvP Y s (.Call (.Name "min" p) [a] [] pos) (pu (PySem.W.minOf x xs)) :=
  evp_B1 (cr_minF (α := α) ok.calm ok.room.units hd) hg (T.no _ (by decide)) PyProof.Rows.boot_min ha (fun F0 σ H F v e0 S r => by
    obtain ⟨q, zs, h1, h2, h3⟩ := hA σ H F v S r
    exact ⟨F, v, q, zs, x, xs, rfl, h1, h2, h3, S.ext, fun z r' => ⟨F, e0, r', S⟩⟩) (by decide) (by decide) he
theorem evp_max [DatumOrd α] [Dat α] (ok : YOk Y) (T : Bis Y.X.mg) (hg : Gl Y.X "max") (ha : EvP Y s a A) (hA : DL Y s A (x :: xs)) (hd : Datum.depth α ≤ 60 := by decide) (he : starEach [a] Y.X.env = (false, eval a Y.X.env) :: starEach [] Y.X.env := by rfl) :
    EvP Y s (.Call (.Name "max" p) [a] [] pos) (pu (PySem.W.maxOf x xs)) :=
  evp_B1 (cr_maxF (α := α) ok.calm ok.room.units hd) hg (T.no _ (by decide)) PyProof.Rows.boot_max ha (fun F0 σ H F v e0 S r => by
    obtain ⟨q, zs, h1, h2, h3⟩ := hA σ H F v S r
    exact ⟨F, v, q, zs, x, xs, rfl, h1, h2, h3, S.ext, fun z r' => ⟨F, e0, r', S⟩⟩) (by decide) (by decide) he
end
section
variable {α β : Type} [Enc α] [Enc β] {A B : Pv} {xs ys : List α}
/-! list(x), tuple(x) -/
theorem evp_list1 (T : Bis Y.X.mg) (hg : Gl Y.X "list") (ha : EvP Y s a A) (hA : DL Y s A xs) (he : starEach [a] Y.X.env = (false, eval a Y.X.env) :: starEach [] Y.X.env := by rfl) : EvP Y s (.Call (.Name "list" p) [a] [] pos) (pu xs) :=
  evp_T1 call_list_of hg (T.no _ (by decide)) PyProof.Rows.boot_list ha (fun F0 σ H F v e0 S r => by
    obtain ⟨q, zs, h1, h2, h3⟩ := hA σ H F v S r
    exact ⟨q, zs, by rw [h1], .inl h2, fun l hl => pp_list e0 S h3 l hl⟩) (by decide) (by decide) he
theorem evp_listH {xs : Tup α} (T : Bis Y.X.mg) (hg : Gl Y.X "list") (ha : EvP Y s a (pu xs)) (he : starEach [a] Y.X.env = (false, eval a Y.X.env) :: starEach [] Y.X.env := by rfl) : EvP Y s (.Call (.Name "list" p) [a] [] pos) (pu xs.items) :=
  evp_T1 call_list_of hg (T.no _ (by decide)) PyProof.Rows.boot_list ha (fun F0 σ H F v e0 S ⟨q, zs, h1, h2, h3⟩ => ⟨q, zs, by rw [h1], .inr (sqT_ext h2 S.ext), fun l hl => pp_list e0 S h3 l hl⟩) (by decide) (by decide) he
theorem evp_listS {x : List Nat} (ok : YOk Y) (T : Bis Y.X.mg) (hg : Gl Y.X "list") (ha : EvP Y s a (pu x)) (hx : x.length ≤ sizeLine) (he : starEach [a] Y.X.env = (false, eval a Y.X.env) :: starEach [] Y.X.env := by rfl) : EvP Y s (.Call (.Name "list" p) [a] [] pos) (pu (x.map fun c => [c])) :=
  evp_T1 (call_list_ofS ok.calm) hg (T.no _ (by decide)) PyProof.Rows.boot_list ha (fun F0 σ H F v e0 S r => ⟨x, by rw [show v = .str (toStr x) from r], hx, fun l hl => pp_list e0 S (signs_vs x) l hl⟩) (by decide) (by decide) he
/-- .. the new list owned -/
theorem ev_list1O (T : Bis Y.X.mg) (hg : Gl Y.X "list") (ha : EvP Y s a A) (hA : DL Y s A xs) (q : ∀ p, Q (raw (.ref p)) ⟨s.ρ, (p, lstc xs) :: s.gs⟩) (he : starEach [a] Y.X.env = (false, eval a Y.X.env) :: starEach [] Y.X.env := by rfl) : Ev Y s (.Call (.Name "list" p) [a] [] pos) Q :=
  ev_T1 call_list_of hg (T.no _ (by decide)) PyProof.Rows.boot_list (.of ha fun F0 σ H F v e0 S r => by
    obtain ⟨p, zs, h1, h2, h3⟩ := hA σ H F v S r
    exact ⟨p, zs, by rw [h1], .inl h2, fun l hl => po_listO e0 S h3 q l hl⟩) (by decide) (by decide) he
theorem ev_listHO {xs : Tup α} (T : Bis Y.X.mg) (hg : Gl Y.X "list") (ha : EvP Y s a (pu xs)) (q : ∀ p, Q (raw (.ref p)) ⟨s.ρ, (p, lstc xs.items) :: s.gs⟩) (he : starEach [a] Y.X.env = (false, eval a Y.X.env) :: starEach [] Y.X.env := by rfl) : Ev Y s (.Call (.Name "list" p) [a] [] pos) Q :=
  ev_T1 call_list_of hg (T.no _ (by decide)) PyProof.Rows.boot_list (.of ha fun F0 σ H F v e0 S ⟨p, zs, h1, h2, h3⟩ => ⟨p, zs, by rw [h1], .inr (sqT_ext h2 S.ext), fun l hl => po_listO e0 S h3 q l hl⟩) (by decide) (by decide) he
theorem ev_listSO {x : List Nat} (ok : YOk Y) (T : Bis Y.X.mg) (hg : Gl Y.X "list") (ha : EvP Y s a (pu x)) (hx : x.length ≤ sizeLine) (q : ∀ p, Q (raw (.ref p)) ⟨s.ρ, (p, lstc (x.map fun c => [c])) :: s.gs⟩) (he : starEach [a] Y.X.env = (false, eval a Y.X.env) :: starEach [] Y.X.env := by rfl) : Ev Y s (.Call (.Name "list" p) [a] [] pos) Q :=
  ev_T1 (call_list_ofS ok.calm) hg (T.no _ (by decide)) PyProof.Rows.boot_list (.of ha fun F0 σ H F v e0 S r => ⟨x, by rw [show v = .str (toStr x) from r], hx, fun l hl => po_listO e0 S (signs_vs x) q l hl⟩) (by decide) (by decide) he
theorem evp_tuple1 (T : Bis Y.X.mg) (hg : Gl Y.X "tuple") (ha : EvP Y s a A) (hA : DL Y s A xs) (he : starEach [a] Y.X.env = (false, eval a Y.X.env) :: starEach [] Y.X.env := by rfl) : EvP Y s (.Call (.Name "tuple" p) [a] [] pos) (pu (PySem.W.Tup.mk xs)) :=
  evp_T1 call_tuple_of hg (T.no _ (by decide)) PyProof.Rows.boot_tuple ha (fun F0 σ H F v e0 S r => by
    obtain ⟨q, zs, h1, h2, h3⟩ := hA σ H F v S r
    exact ⟨q, zs, by rw [h1], .inl ⟨h2, fun l hl => ⟨upd F l (.tup zs), e0.trans (Ext.grow (S.free hl)), ⟨l, zs, rfl, .of upd_same, h3.mono (Ext.grow (S.free hl))⟩, S.newF hl rfl⟩⟩⟩) (by decide) (by decide) he
theorem evp_tupleH {xs : Tup α} (T : Bis Y.X.mg) (hg : Gl Y.X "tuple") (ha : EvP Y s a (pu xs)) (he : starEach [a] Y.X.env = (false, eval a Y.X.env) :: starEach [] Y.X.env := by rfl) : EvP Y s (.Call (.Name "tuple" p) [a] [] pos) (pu xs) :=
  evp_T1 call_tuple_of hg (T.no _ (by decide)) PyProof.Rows.boot_tuple ha (fun F0 σ H F v e0 S ⟨q, zs, h1, h2, h3⟩ => ⟨q, zs, by rw [h1], .inr ⟨sqT_ext h2 S.ext, F, e0, ⟨q, zs, rfl, h2, h3⟩, S⟩⟩) (by decide) (by decide) he
/-! xs + ys -/
theorem op_catF {X : Cx} : OpR X (binaryOp .Add) (fun x y H Q => ∃ p q xs ys, x = .ref p ∧ y = .ref q ∧ SqL X.K H p xs ∧ SqL X.K H q ys ∧ xs.length + ys.length ≤ sizeLine ∧ ∀ p, H p = none → Q (.ref p) (upd H p (.lst (xs ++ ys)))) := by
  intro pins s σ H x y v u Q I rx ry ⟨p, p2, zs, zs2, e, e2, hq, hq2, hs, q⟩
  subst e e2
  obtain ⟨its, rv, hl, hlen⟩ := I.list hq
  obtain ⟨its2, rv2, hl2, hlen2⟩ := I.list hq2
  obtain ⟨⟨cls, dd, data, sl⟩, ho, hc, n, hd⟩ := hl.isList
  obtain ⟨⟨cls2, dd2, data2, sl2⟩, ho2, hc2, n2, hd2⟩ := hl2.isList
  simp only at hc hd hc2 hd2
  subst hc hd hc2 hd2
  cases rx
  cases ry
  have e : its.toArray ++ its2.toArray = (its ++ its2).toArray := by simp
  have h1 : zs.length = its.length := Paired.length rv
  have h2 : zs2.length = its2.length := Paired.length rv2
  refine concat_meets ⟨_, ho, rfl⟩ ⟨_, ho2, rfl⟩ noFill_list_add seq_list_add PySem.F.slot_list_add PySem.F.entry_list_add (PySem.F.args_list_add_2 _ _) (PyProof.Rows.list_addW p p2 its.toArray its2.toArray n n2 dd dd2 sl sl2 (by simp only [List.size_toArray]; omega)) ⟨ho, ho2, ?_⟩
  rw [e]
  exact ⟨.ref _, _, I.lnew (t' := s.toks) (rv.append rv2) (by rw [List.length_append]; omega), rfl, q _ I.fresh⟩
theorem evp_cat (ha : EvP Y s a A) (hA : DL Y s A xs) (hb : EvP Y s b B) (hB : DL Y s B ys) (hs : xs.length + ys.length ≤ sizeLine) : EvP Y s (.BinOp a .Add b pos) (pu (xs ++ ys)) :=
  evp2 (pe_op op_catF pe_we pe_we) ha hb fun F0 σ H F v u e0 S r1 r2 => by
    obtain ⟨p, zs, h1, h2, h3⟩ := hA σ H F v S r1
    obtain ⟨q, ws, g1, g2, g3⟩ := hB σ H F u S r2
    have l1 : zs.length = xs.length := Paired.length h3
    have l2 : ws.length = ys.length := Paired.length g3
    exact ⟨p, q, zs, ws, h1, g1, h2, g2, by omega, fun l hl => pp_list e0 S (prd_app h3 g3) l hl⟩
theorem evp_catS {x y : List Nat} (ha : EvP Y s a (pu x)) (hb : EvP Y s b (pu y)) (hs : x.length + y.length ≤ sizeLine) : EvP Y s (.BinOp a .Add b pos) (pu (x ++ y)) :=
  evp2 (pe_op op_add_str pe_we pe_we) ha hb fun F0 σ H F v u e0 S r1 r2 => ⟨toStr x, toStr y, r1, r2, by rw [toStr_len, toStr_len]; exact hs, F, e0, by rw [toStr_app]; rfl, S⟩
/-! places of lists, owned or not -/
theorem evp_ixA {i : Int} {x : α} (hs : PlainIx b) (ha : EvP Y s a A) (hA : DL Y s A xs) (hb : EvP Y s b (pu i)) (hx : atI xs i = some x) : EvP Y s (.Subscript a b pos) (pu x) :=
  evp2 (pe_ix ix_list pe_we pe_we hs) ha hb fun F0 σ H F v u e0 S rv ru => by
    obtain ⟨p, vs, h1, h2, h3⟩ := hA σ H F v S rv
    obtain ⟨w, hw, rw'⟩ := atI_of h3 hx
    exact ⟨p, vs, i, w, h1, ru, h2, hw, F, e0, rw', S⟩
/-! slices -/
def cutD {γ : Type} (xs : List γ) (lo hi : Option Int) : List γ := (xs.drop (HT.sIx xs.length 0 lo)).take (HT.sIx xs.length xs.length hi - HT.sIx xs.length 0 lo)
/-- a part of a slice, quietly -/
def EvO (Y : DX) (s : DSt) (e : Option Expr) (i : Option Int) : Prop := ∀ F0 σ H F, Ext F0 F → Sta Y s σ H F → ∀ (pins : List (Addr × Obj)) (s1 : Shared), Inv Y.X pins σ H s1 →
  wpAny (model Y.X.prog Y.X.w) Y.X.A (evalPart e Y.X.env) (fun u s' => ∃ o H', Inv Y.X pins σ H' s' ∧ IsPart u o ∧ o = i ∧ ∃ F', Ext F0 F' ∧ Sta Y s σ H' F') Y.X.xe s1
theorem evo_no : EvO Y s none none := fun F0 σ H F e0 S pins s1 I => (po_none).run pins s1 σ H _ I ⟨rfl, F, e0, S⟩
theorem evo_at {i : Int} (h : EvP Y s e (pu i)) : EvO Y s (some e) (some i) := fun F0 σ H F e0 S pins s1 I => (po_some pe_we).run pins s1 σ H _ I ((h F0 σ H F e0 S).mono fun v H' ⟨F', e1, r, S'⟩ => ⟨i, r, rfl, F', e1, S'⟩)
def WO (X : Cx) (e : Option Expr) (σ : St) (H : Hp) (Q : Option Int → Hp → Prop) : Prop := ∀ (pins : List (Addr × Obj)) (s1 : Shared), Inv X pins σ H s1 →
  wpAny (model X.prog X.w) X.A (evalPart e X.env) (fun u s' => ∃ o H', Inv X pins σ H' s' ∧ IsPart u o ∧ Q o H') X.xe s1
theorem po_wo {X : Cx} {e : Option Expr} : PO X e (WO X e) := ⟨fun pins s _ _ _ I h => h pins s I⟩
theorem evp_sl {r : V → Option Int → Option Int → Hp → VK → Prop} {lo hi : Option Expr} {i j : Option Int} {p2 : Pos} (hr : SlR Y.X r) (ha : EvP Y s a A) (hl : EvO Y s lo i) (hh : EvO Y s hi j)
    (h : ∀ F0 σ H F v, Ext F0 F → Sta Y s σ H F → A.rep Y.X.K F v → r v i j H (Pp Y s σ F0 B)) : EvP Y s (.Subscript a (.Slice lo hi none p2) pos) B := fun F0 σ H F e0 S => by
  refine .of (pe_slice hr pe_we po_wo po_wo) ?_
  refine (ha F σ H F (.refl _) S).mono fun v H1 ⟨F1, e1, r1, S1⟩ => ?_
  intro pins s1 I
  refine thn (hl F1 σ H1 F1 (.refl _) S1 pins s1 I) fun u s2 ⟨o, H2, I2, p2, eo, F2, e2, S2⟩ => ⟨o, H2, I2, p2, ?_⟩
  subst eo
  intro pins' s1' I'
  refine thn (hh F2 σ H2 F2 (.refl _) S2 pins' s1' I') fun u' s3 ⟨o', H3, I3, p3, eo', F3, e3, S3⟩ => ⟨o', H3, I3, p3, ?_⟩
  subst eo'
  exact h F0 σ H3 F3 v (((e0.trans e1).trans e2).trans e3) S3 (A.mono r1 (e2.trans e3))
theorem toStr_cut (x : List Nat) (i j : Option Int) : cutS (toStr x) i j = toStr (cutD x i j) := by
  unfold cutS cutD
  rw [toStr_cps, toStr_len]
  rfl
theorem evp_slS {x : List Nat} {lo hi : Option Expr} {i j : Option Int} {p2 : Pos} (ha : EvP Y s a (pu x)) (hz : x.length ≤ sizeLine) (hl : EvO Y s lo i) (hh : EvO Y s hi j) : EvP Y s (.Subscript a (.Slice lo hi none p2) pos) (pu (cutD x i j)) :=
  evp_sl sl_str ha hl hh fun F0 σ H F v e0 S r => ⟨toStr x, r, by rw [toStr_len]; exact hz, F, e0, by rw [toStr_cut]; rfl, S⟩
theorem cut_vs {K : Frag} {F : Hp} {vs : List V} {xs : List α} (h : Vs K F vs xs) (i j : Option Int) : Vs K F (cutV vs i j) (cutD xs i j) := by
  unfold cutV cutD
  rw [show vs.length = xs.length from Paired.length h]
  exact prd_take (prd_drop h _) _
theorem evp_slL {lo hi : Option Expr} {i j : Option Int} {p2 : Pos} (ha : EvP Y s a A) (hA : DL Y s A xs) (hl : EvO Y s lo i) (hh : EvO Y s hi j) : EvP Y s (.Subscript a (.Slice lo hi none p2) pos) (pu (cutD xs i j)) :=
  evp_sl sl_list ha hl hh fun F0 σ H F v e0 S r => by
    obtain ⟨q, zs, h1, h2, h3⟩ := hA σ H F v S r
    exact ⟨q, zs, h1, h2, fun l hl => pp_list e0 S (cut_vs h3 i j) l hl⟩
theorem cutV_all {vs : List V} {i j : Option Int} (h : HT.sIx vs.length 0 i = 0 ∧ HT.sIx vs.length vs.length j = vs.length) : cutV vs i j = vs := by
  unfold cutV
  rw [h.1, h.2]
  simp
theorem evp_slH {xs : Tup α} {lo hi : Option Expr} {i j : Option Int} {p2 : Pos} (ha : EvP Y s a (pu xs)) (hl : EvO Y s lo i) (hh : EvO Y s hi j) : EvP Y s (.Subscript a (.Slice lo hi none p2) pos) (pu (PySem.W.Tup.mk (cutD xs.items i j))) :=
  evp_sl sl_tupA ha hl hh fun F0 σ H F v e0 S ⟨q, zs, h1, h2, h3⟩ => ⟨q, zs, h1, sqT_ext h2 S.ext, fun k => ⟨F, e0, ⟨q, zs, rfl, h2, by have := cut_vs h3 i j; rw [cutV_all k] at this; exact this⟩, S⟩,
    fun _ l hl => ⟨upd F l (.tup (cutV zs i j)), e0.trans (Ext.grow (S.free hl)), ⟨l, _, rfl, .of upd_same, (cut_vs h3 i j).mono (Ext.grow (S.free hl))⟩, S.newF hl rfl⟩⟩
end
/-! ### methods of lists -/
theorem tyV_list {K : Frag} {H : Hp} {p : Addr} {xs : List V} (h : SqL K H p xs) : tyV K "list" (.ref p) H := .inl ⟨rfl, xs, h⟩
/-- o.m(e), quietly -/
theorem evp_m1 {T id : String} {name : Str} {A B C : Pv} {r : V → List V → Hp → VK → Prop} (pa : PlainAttrs T) (slot : Slot T name id) (hty : typeOf (.builtin id) = pure (.type "method_descriptor")) (hm : MtR Y.X id r) (ho : EvP Y s o A) (he : EvP Y s e B)
    (ht : ∀ σ H F v, Sta Y s σ H F → A.rep Y.X.K F v → tyV Y.X.K T v H) (h : ∀ F0 σ H F v u, Ext F0 F → Sta Y s σ H F → A.rep Y.X.K F v → B.rep Y.X.K F u → r v [u] H (Pp Y s σ F0 C))
    (hbase : attributeBase o name Y.X.env (eval o Y.X.env) = eval o Y.X.env)
    (hfew : ((backTo pos (starEach [e] Y.X.env)).all (fun x => !x.1) && (backToKw pos (keywordEach [] Y.X.env)).all (fun x => x.1.isSome)
      && decide (([e] : List Expr).length + ([] : List Keyword).length + (if ([] : List Keyword).isEmpty then 0 else 1) < 30)) = true)
    (hline : (apos.endLine == pos.line) = true) (hs : starEach [e] Y.X.env = (false, eval e Y.X.env) :: starEach [] Y.X.env) : EvP Y s (.Call (.Attribute o name apos) [e] [] pos) C := fun F0 σ H F e0 S => by
  refine .of (pe_bm pa slot hty hm pe_we (pa_cons pe_we pa_nil hs) hbase hfew hline hs (by rfl)) ?_
  refine (ho F σ H F (.refl _) S).mono fun v H1 ⟨F1, e1, r1, S1⟩ => ⟨ht _ _ _ _ S1 r1, ?_⟩
  refine (he F1 σ H1 F1 (.refl _) S1).mono fun u H2 ⟨F2, e2, r2, S2⟩ => ?_
  exact h F0 σ H2 F2 v u ((e0.trans e1).trans e2) S2 (A.mono r1 e2) r2
theorem evp_m0 {T id : String} {name : Str} {A C : Pv} {r : V → List V → Hp → VK → Prop} (pa : PlainAttrs T) (slot : Slot T name id) (hty : typeOf (.builtin id) = pure (.type "method_descriptor")) (hm : MtR Y.X id r) (ho : EvP Y s o A)
    (ht : ∀ σ H F v, Sta Y s σ H F → A.rep Y.X.K F v → tyV Y.X.K T v H) (h : ∀ F0 σ H F v, Ext F0 F → Sta Y s σ H F → A.rep Y.X.K F v → r v [] H (Pp Y s σ F0 C))
    (hbase : attributeBase o name Y.X.env (eval o Y.X.env) = eval o Y.X.env) (hline : (apos.endLine == pos.line) = true) : EvP Y s (.Call (.Attribute o name apos) [] [] pos) C := fun F0 σ H F e0 S => by
  refine .of (pe_bm0 pa slot hty hm pe_we hbase hline) ?_
  refine (ho F0 σ H F e0 S).mono fun v H1 ⟨F1, e1, r1, S1⟩ => ⟨ht _ _ _ _ S1 r1, ?_⟩
  exact h F0 σ H1 F1 v e1 S1 r1
end
end Sp
set_option maxHeartbeats 4000000
/-! Sp: methods of lists and texts; sources; dicts. -/
namespace Sp
open PySem L2
open PySem.W (Datum DatumOrd SomeDatum)
section
variable {Y : DX} {s : DSt} {e a b c d o : Expr} {es : List Expr} {pos p apos : Pos} {Q : Pv → DSt → Prop}
/-- what must be seen of the text of o.m(e) -/
structure Mx1 (X : Cx) (o : Expr) (m : Str) (apos : Pos) (e : Expr) (pos : Pos) : Prop where
  base : attributeBase o m X.env (eval o X.env) = eval o X.env
  few : ((backTo pos (starEach [e] X.env)).all (fun x => !x.1) && (backToKw pos (keywordEach [] X.env)).all (fun x => x.1.isSome)
      && decide (([e] : List Expr).length + ([] : List Keyword).length + (if ([] : List Keyword).isEmpty then 0 else 1) < 30)) = true
  line : (apos.endLine == pos.line) = true
  star : starEach [e] X.env = (false, eval e X.env) :: starEach [] X.env
structure Mx0 (X : Cx) (o : Expr) (m : Str) (apos : Pos) (pos : Pos) : Prop where
  base : attributeBase o m X.env (eval o X.env) = eval o X.env
  line : (apos.endLine == pos.line) = true
section
variable {α : Type} [DecidableEq α] [Enc α] [Datum α] [Dat α] {A B : Pv} {x : α} {xs ys : List α}
theorem DL.ty {A : Pv} {xs : List α} (h : DL Y s A xs) : ∀ σ H F v, Sta Y s σ H F → A.rep Y.X.K F v → tyV Y.X.K "list" v H := fun σ H F v S r => by
  obtain ⟨q, zs, h1, h2, h3⟩ := h σ H F v S r
  subst h1
  exact tyV_list h2
theorem DL.rd {A : Pv} {xs : List α} (h : DL Y s A xs) {σ : St} {H F : Hp} {v : V} (S : Sta Y s σ H F) (r : A.rep Y.X.K F v) : LRd Y.X.K H v xs := by
  obtain ⟨q, zs, h1, h2, h3⟩ := h σ H F v S r
  exact ⟨q, zs, h1, h2, h3.mono S.ext⟩
theorem evp_count (ok : YOk Y) (ho : EvP Y s o A) (hA : DL Y s A xs) (he : EvP Y s e (pu x)) (m : Mx1 Y.X o "count" apos e pos) (hd : Datum.depth α ≤ 60 := by decide) : EvP Y s (.Call (.Attribute o "count" apos) [e] [] pos) (pu (cnt xs x : Int)) :=
  evp_m1 PySem.F.plainAttrs_list PySem.F.slot_list_count PySem.F.type_list_count (mt_countT (α := α) ok.room.units hd) ho he hA.ty (fun F0 σ H F v u e0 S r1 r2 => ⟨x, xs, u, rfl, Enc.mono (α := α) r2 S.ext, hA.rd S r1, F, e0, rfl, S⟩) m.base m.few m.line m.star
theorem evp_index (ok : YOk Y) (ho : EvP Y s o A) (hA : DL Y s A xs) (he : EvP Y s e (pu x)) (hm : x ∈ xs) (m : Mx1 Y.X o "index" apos e pos) (hd : Datum.depth α ≤ 60 := by decide) : EvP Y s (.Call (.Attribute o "index" apos) [e] [] pos) (pu (idx xs x : Int)) :=
  evp_m1 PySem.F.plainAttrs_list PySem.F.slot_list_index PySem.F.type_list_index (mt_indexT (α := α) ok.room.units hd) ho he hA.ty (fun F0 σ H F v u e0 S r1 r2 => ⟨x, xs, u, rfl, Enc.mono (α := α) r2 S.ext, hA.rd S r1, hm, F, e0, rfl, S⟩) m.base m.few m.line m.star
/-- an owned list's methods -/
theorem ev_m1O {T id : String} {name : Str} {B : Pv} {r : V → List V → Hp → VK → Prop} (pa : PlainAttrs T) (slot : Slot T name id) (hty : typeOf (.builtin id) = pure (.type "method_descriptor")) (hm : MtR Y.X id r) (ho : EvP Y s o A) (he : EvP Y s e B)
    (ht : ∀ σ H F v, Sta Y s σ H F → A.rep Y.X.K F v → tyV Y.X.K T v H) (h : ∀ F0 σ H F v u, Ext F0 F → Sta Y s σ H F → A.rep Y.X.K F v → B.rep Y.X.K F u → r v [u] H (Po Y σ F0 Q))
    (m : Mx1 Y.X o name apos e pos) : Ev Y s (.Call (.Attribute o name apos) [e] [] pos) Q := fun F0 σ H F e0 S => by
  refine .of (pe_bm pa slot hty hm pe_we (pa_cons pe_we pa_nil m.star) m.base m.few m.line m.star (by rfl)) ?_
  refine (ho F σ H F (.refl _) S).mono fun v H1 ⟨F1, e1, r1, S1⟩ => ⟨ht _ _ _ _ S1 r1, ?_⟩
  refine (he F1 σ H1 F1 (.refl _) S1).mono fun u H2 ⟨F2, e2, r2, S2⟩ => ?_
  exact h F0 σ H2 F2 v u ((e0.trans e1).trans e2) S2 (A.mono r1 e2) r2
/-- rules of H as rules of F -/
theorem mt_removeF {X : Cx} (hu : X.A.units + 64 < cLine) (hd : Datum.depth α ≤ 60) : MtR X "list.remove" (fun y vs H Q => ∃ (F : Hp) (a : α) (xs : List α) (x : V) (p : Addr) (zs : List V), vs = [x] ∧ y = .ref p ∧ Enc.rep X.K H x a ∧ H p = some (.lst zs) ∧ Vs X.K F zs xs ∧ Ext F H ∧ a ∈ xs ∧
    ∀ zs', Vs X.K F zs' (xs.erase a) → Q .non (upd H p (.lst zs'))) := by
  intro pins s σ H y vs u us Q I ry rxs ⟨F, a, xs, x, p, zs, ev, e, ha, hp, hz, ex, hm, q⟩
  subst e ev
  obtain ⟨ux, rfl, rx⟩ := rxs.one
  obtain ⟨z, its, n, rv, hl, eo⟩ := I.lstM hp
  cases ry
  obtain ⟨j, h1, h2, h3⟩ := erase_place hm
  refine PySem.W.remove_list_datum (vs := its.toArray) ⟨_, eo, rfl, n, rfl⟩ (vs_holds I (hz.mono ex) rv) (enc_holds I ha rx) (by omega) h1 h2 (by rw [List.size_toArray]; omega) ?_
  have hj : j < xs.length := (List.getElem?_eq_some_iff.mp h1).1
  have hls : xs.length = zs.length := (Paired.length hz).symm
  refine ⟨.non, upd H p (.lst (zs.eraseIdx j)), I.lset (its' := its.eraseIdx j) (t' := s.toks) hp eo ?_ (rv.eraseIdx j) ?_, rfl, q _ ?_⟩
  · rw [List.eraseIdxIfInBounds_toArray]
  · rw [List.length_eraseIdx]
    split <;> omega
  · rw [h3]
    exact prd_erase hz j
theorem not_codeL {o : HO} {vs : List V} (h : o = .lst vs) : ∀ c q, o ≠ LamX.CodeO c q := fun c q z => by rw [h] at z; cases z
theorem not_codeD {o : HO} {vs : List (Key × V)} (h : o = .dK vs) : ∀ c q, o ≠ LamX.CodeO c q := fun c q z => by rw [h] at z; cases z
theorem ev_remove {q : Addr} (ok : YOk Y) (i : Nat) (hi : s.gs[i]? = some (q, lstc xs)) (ho : EvP Y s o (raw (.ref q))) (he : EvP Y s e (pu x)) (hx : x ∈ xs) (m : Mx1 Y.X o "remove" apos e pos) (k : Q (pu ()) ⟨s.ρ, s.gs.set i (q, lstc (eras xs x))⟩) (hd : Datum.depth α ≤ 60 := by decide) :
    Ev Y s (.Call (.Attribute o "remove" apos) [e] [] pos) Q :=
  ev_m1O PySem.F.plainAttrs_list PySem.F.slot_list_remove PySem.F.type_list_remove (mt_removeF (α := α) ok.room.units hd) ho he (DL.own (α := α) i hi).ty (fun F0 σ H F v u e0 S r1 r2 => by
    obtain ⟨hF, oo, hoo, _, vs, eo, rv⟩ := S.cell hi
    subst eo
    exact ⟨F, x, xs, u, q, vs, rfl, r1, Enc.mono (α := α) r2 S.ext, hoo, rv, S.ext, hx, fun zs' hz' => ⟨pu (), _, F, e0, rfl, S.write (c' := lstc (xs.erase x)) hi hoo (not_codeL rfl) rfl ⟨zs', rfl, hz'⟩, k⟩⟩) m
end
section
variable {α : Type} [Enc α] {A B : Pv} {x : α} {xs ys : List α}
theorem ev_append {q : Addr} (i : Nat) (hi : s.gs[i]? = some (q, lstc xs)) (ho : EvP Y s o (raw (.ref q))) (he : EvP Y s e (pu x)) (hz : xs.length < sizeLine) (m : Mx1 Y.X o "append" apos e pos) (k : Q (pu ()) ⟨s.ρ, s.gs.set i (q, lstc (xs ++ [x]))⟩) :
    Ev Y s (.Call (.Attribute o "append" apos) [e] [] pos) Q :=
  ev_m1O PySem.F.plainAttrs_list PySem.F.slot_list_append PySem.F.type_list_append mt_append ho he (fun σ H F v S r => by
    obtain ⟨p, vs, h1, h2, h3⟩ := DL.own (α := α) i hi σ H F v S r
    subst h1
    exact tyV_list h2) (fun F0 σ H F v u e0 S r1 r2 => by
    obtain ⟨hF, oo, hoo, _, vs, eo, rv⟩ := S.cell hi
    subst eo
    exact ⟨q, vs, u, r1, rfl, hoo, by rw [show vs.length = xs.length from Paired.length rv]; exact hz, pu (), _, F, e0, rfl, S.write (c' := lstc (xs ++ [x])) hi hoo (not_codeL rfl) rfl ⟨_, rfl, rv.snoc r2⟩, k⟩) m
end
/-! texts -/
theorem tyV_str {K : Frag} {H : Hp} {x : List Nat} {v : V} (h : (pu x).rep K H v) : tyV K "str" v H := by
  have h' : v = .str (toStr x) := h
  subst h'
  rfl
end
end Sp
set_option maxHeartbeats 4000000
/-! Sp: sorted texts and dicts; dicts; sources; texts' methods. -/
namespace Sp
open PySem L2
open PySem.W (Datum DatumOrd SomeDatum)
/-- data that stand by themselves -/
class FlatV (α : Type) [Enc α] where
  z : α → V
  rep : ∀ {K : Frag} {F : Hp} (a : α), Enc.rep K F (z a) a
instance : FlatV Int := ⟨V.int, fun _ => rfl⟩
instance : FlatV (List Nat) := ⟨fun x => V.str (toStr x), fun _ => rfl⟩
instance : FlatV Bool := ⟨V.bl, fun _ => rfl⟩
theorem flat_vs {α : Type} [Enc α] [FlatV α] {K : Frag} {F : Hp} : ∀ xs : List α, Vs K F (xs.map FlatV.z) xs
  | [] => .nil
  | a :: r => .cons (FlatV.rep a) (flat_vs r)
section
variable {X : Cx} {α : Type} [DecidableEq α] [Enc α] [DatumOrd α] [Dat α] [Srtb α] [FlatV α]
theorem each_flat : ∀ {us : List Value} {bs : List α}, Vals (bs.map FlatV.z) us → PySem.W.EachIs (fun v b => RelV (FlatV.z b) v) us bs
  | [], [], _ => .nil
  | _ :: _, [], h => by cases h
  | [], _ :: _, h => by cases h
  | _ :: _, _ :: _, h => by
    cases h with
    | cons r t => exact .cons r (each_flat t)
theorem flat_each : ∀ {us : List Value} {bs : List α}, PySem.W.EachIs (fun v b => RelV (FlatV.z b) v) us bs → Vals (bs.map FlatV.z) us
  | _, _, .nil => .nil
  | _, _, .cons r t => .cons r (flat_each t)
class FlatR (α : Type) [DecidableEq α] [Enc α] [FlatV α] [Datum α] : Prop where
  rd : ∀ {h : Heap} {v : Value} (a : α), RelV (FlatV.z a) v → Reads h v (Datum.toD a) []
instance : FlatR Int := ⟨fun a r => by obtain ⟨t, e⟩ := r; subst e; exact Reads.int a t⟩
instance : FlatR (List Nat) := ⟨fun a r => by obtain ⟨t, e⟩ := r; subst e; exact Reads.str (toStr a) t⟩
theorem sorted_flat [FlatR α] {pins : List (Addr × Obj)} {s : Shared} {σ : St} {H : Hp} {Q : VK} {src : Value} {bs : List α} (I : Inv X pins σ H s) (hu : X.A.units + 64 < cLine) (hd : Datum.depth α ≤ 60) (hL : bs.length ≤ sizeLine)
    (hc : ∀ R : List Value → Shared → Prop, (∀ h' tk us, (∀ b o, s.heap.get? b = some o → h'.get? b = some o) → Vals (bs.map FlatV.z) us → R us { s with heap := h', toks := tk }) → wpAny (model X.prog X.w) X.A.in1 (collect src) R X.xe s)
    (q : ∀ p, H p = none → Q (.ref p) (upd H p (.lst ((srt bs).map FlatV.z)))) : wpAny (model X.prog X.w) X.A (call (.builtin "sorted") [src]) (EP X pins σ Q) X.xe s := by
  refine Calls.call_function_entry PyProof.Rows.kind_sorted PyProof.Rows.plain_sorted PyProof.Rows.entry_sorted (PyProof.Rows.args_sorted1 _) ?_
  unfold Builtin.«sorted»
  refine wpAny_bind (m := checkCount "sorted" 1 1 _) (wpAny_pure ?_)
  refine wpAny_bind (hc _ fun h' tk us hk hv => ?_)
  have hl : us.length = bs.length := by have := hv.length; rw [List.length_map] at this; exact this.symm
  have I1 : Inv X pins σ H { s with heap := h', toks := tk } := I.kept hk
  refine wpAny_bind (wpAny_newList ?_ (by rw [hl]; exact hL))
  have hoL : (h'.push (PyProof.Rows.seqObj "list" us.toArray 0)).get? h'.objs.size = some (PyProof.Rows.seqObj "list" us.toArray 0) := Heap.get?_push_size _ rfl
  show wpAny _ _ _ _ _ { s with heap := h'.push (PyProof.Rows.seqObj "list" us.toArray 0), toks := tk }
  refine wpAny_bind (wpAny_holding (PySem.W.list_sort_data (enc := Datum.toD) (s := { s with heap := h'.push (PyProof.Rows.seqObj "list" us.toArray 0), toks := tk }) hoL (each_flat hv)
    ((each_flat hv).mono fun v b r => ⟨[], FlatR.rd b r, by simp⟩) (sort_alike bs) (sort_able bs) hL (fun b _ => by have := Datum.depth_le b; show X.A.units + 1 + 1 + _ < _; omega) fun out h1 h2 => ?_))
  rw [srt_eq] at h2
  obtain ⟨e', he'⟩ := PyProof.Rows.sortedHeap_at (vs := us) (out := out.toArray) hoL
  have h3 := flat_each h2
  have hlen : ((srt bs).map FlatV.z).length ≤ sizeLine := by rw [h3.length, h1]; exact hL
  refine wpAny_pure ⟨_, rfl, .ref h'.objs.size, upd H h'.objs.size (.lst ((srt bs).map FlatV.z)), I1.laid (t' := tk) (fun b u e => ?_) (Nat.le_refl _)
    (show ObjOk X.prog X.w _ _ _ (.lst ((srt bs).map FlatV.z)) from ⟨hlen, out, e', h3, he'⟩), rfl, q _ (I1.hok.fresh (Nat.le_refl _))⟩
  have hb : b < h'.objs.size := Heap.lt_size e
  rw [PyProof.Rows.sortedHeap_old (Nat.ne_of_lt hb) (by rw [PyProof.Rows.size_push']; exact Nat.lt_succ_of_lt hb)]
  exact Heap.get?_push_of_some _ e
end
theorem vals_signs {x : List Nat} {acc : Array Value} (hi : ItemsOf (SignAt (toStr x)) acc (toStr x).cps.size) : Vals ((x.map fun c => [c]).map FlatV.z) acc.toList := by
  have hsz : acc.toList.length = x.length := by
    have := hi.1
    simpa [toStr] using this
  refine prd_of (by rw [List.length_map, List.length_map]; omega) fun i a b ha hb => ?_
  rw [List.map_map, List.getElem?_map] at ha
  cases q1 : x[i]? with
  | none => rw [q1] at ha; cases ha
  | some c =>
    rw [q1] at ha
    cases ha
    obtain ⟨c', u, h8, h9⟩ := hi.2 i b (by simpa using hb)
    have : x[i]? = some c' := by simpa [toStr] using h8
    rw [q1] at this
    cases this
    exact ⟨u, h9⟩
theorem cr_sortedTxt {X : Cx} (hc : X.calm = true) (hu : X.A.units + 64 < cLine) : CallR X (.builtin "sorted") (fun vs H Q => ∃ x : List Nat, vs = [.str (toStr x)] ∧ x.length ≤ sizeLine ∧ ∀ p, H p = none → Q (.ref p) (upd H p (.lst ((srt (x.map fun c => [c])).map FlatV.z)))) := by
  intro pins s σ H vs us Q I r ⟨x, ev, hx, q⟩
  subst ev
  obtain ⟨u, rfl, ru⟩ := vals1 r
  obtain ⟨t, rfl⟩ := ru
  refine sorted_flat (bs := x.map fun c => [c]) I hu (by decide) (by rw [List.length_map]; exact hx) (fun R k => ?_) q
  refine wpAny_collect_str (A := X.A.in1) (I.ok.hd hc) (toStr x) t (fun s' acc hk h1 h2 h3 hi => ?_) (by simpa [toStr] using hx)
  obtain ⟨hp, g, d, tk, os⟩ := s'
  simp only at hk h1 h2 h3
  subst h1 h2 h3
  exact k hp tk _ hk (vals_signs hi)
/-! ### dicts by data -/
section
variable {κ ν : Type} [DecidableEq κ]
/-- what stands at k -/
def dval (d : List (κ × ν)) (k : κ) : Option ν := (d.find? fun kv => decide (kv.1 = k)).map (·.2)
/-- in its place, or at the end -/
def dput (d : List (κ × ν)) (k : κ) (v : ν) : List (κ × ν) := if (d.any fun kv => decide (kv.1 = k)) = true then d.map (fun kv => if kv.1 = k then (kv.1, v) else kv) else d ++ [(k, v)]
def ddrop (d : List (κ × ν)) (k : κ) : List (κ × ν) := d.filter fun kv => decide (kv.1 ≠ k)
def dmerge (d more : List (κ × ν)) : List (κ × ν) := more.foldl (fun acc kv => dput acc kv.1 kv.2) d
end
section
variable {κ ν : Type} [DecidableEq κ] [Kk κ] [Enc ν] {K : Frag} {F : Hp}
theorem key_iff {a b : κ} : Kk.key a = Kk.key b ↔ a = b := ⟨Kk.inj, fun h => by rw [h]⟩
theorem kvs_val {zs : List (Key × V)} {d : List (κ × ν)} (h : KVs K F zs d) (k : κ) : (dval d k = none ∧ valV zs (Kk.key k) = none) ∨ ∃ v x, dval d k = some x ∧ valV zs (Kk.key k) = some v ∧ Enc.rep K F v x := by
  induction h with
  | nil => exact .inl ⟨rfl, rfl⟩
  | @cons p q zs d r t ih =>
    by_cases e : q.1 = k
    · refine .inr ⟨p.2, q.2, ?_, ?_, r.2⟩
      · simp [dval, List.find?_cons, e]
      · exact valV_pos (by rw [r.1, e])
    · have e' : ¬ p.1 = Kk.key k := fun z => e (Kk.inj (r.1.symm.trans z))
      rw [valV_neg e']
      have : dval (q :: d) k = dval d k := by simp [dval, List.find?_cons, e]
      rw [this]
      exact ih
theorem kvs_any {zs : List (Key × V)} {d : List (κ × ν)} (h : KVs K F zs d) (k : κ) : (zs.any fun kv => decide (kv.1 = Kk.key k)) = d.any fun kv => decide (kv.1 = k) := by
  induction h with
  | nil => rfl
  | @cons p q zs d r t ih =>
    rw [List.any_cons, List.any_cons, ih]
    congr 1
    rw [r.1]
    exact decide_eq_decide.mpr key_iff
theorem kvs_put {zs : List (Key × V)} {d : List (κ × ν)} (h : KVs K F zs d) {k : κ} {v : V} {x : ν} (r : Enc.rep K F v x) : KVs K F (putK zs (Kk.key k) v) (dput d k x) := by
  unfold putK dput
  rw [kvs_any h]
  by_cases e : (d.any fun kv => decide (kv.1 = k)) = true
  · rw [if_pos e, if_pos e]
    refine prd_map h fun a b q => ?_
    by_cases z : b.1 = k
    · rw [if_pos z, if_pos (by rw [q.1, z])]
      exact ⟨q.1, r⟩
    · rw [if_neg z, if_neg (fun y => z (Kk.inj (q.1.symm.trans y)))]
      exact q
  · rw [if_neg e, if_neg e]
    exact prd_app h (.cons ⟨rfl, r⟩ .nil)
theorem kvs_merge {ws : List (Key × V)} {e : List (κ × ν)} (k : KVs K F ws e) : ∀ {zs : List (Key × V)} {d : List (κ × ν)}, KVs K F zs d → KVs K F (mergeK zs ws) (dmerge d e) := by
  unfold mergeK dmerge
  induction k with
  | nil => exact fun h => h
  | @cons p q ws e r t ih =>
    intro zs d h
    rw [List.foldl_cons, List.foldl_cons]
    refine ih ?_
    rw [r.1]
    exact kvs_put h r.2
theorem kvs_drop {zs : List (Key × V)} {d : List (κ × ν)} (h : KVs K F zs d) (k : κ) : KVs K F (dropK zs (Kk.key k)) (ddrop d k) := by
  unfold dropK ddrop
  induction h with
  | nil => exact .nil
  | @cons p q zs d r t ih =>
    by_cases z : q.1 = k
    · have z' : p.1 = Kk.key k := by rw [r.1, z]
      rw [List.filter_cons_of_neg (p := fun kv : κ × ν => decide (kv.1 ≠ k)) (by simp [z]), List.filter_cons_of_neg (p := fun kv : Key × V => decide (kv.1 ≠ Kk.key k)) (by simp [z'])]
      exact ih
    · have z' : ¬ p.1 = Kk.key k := fun y => z (Kk.inj (r.1.symm.trans y))
      rw [List.filter_cons_of_pos (p := fun kv : κ × ν => decide (kv.1 ≠ k)) (by simp [z]), List.filter_cons_of_pos (p := fun kv : Key × V => decide (kv.1 ≠ Kk.key k)) (by simp [z'])]
      exact .cons r ih
end
/-- a key's value -/
class KkV (κ : Type) [Kk κ] [Enc κ] : Prop where
  rep : ∀ {K : Frag} {F : Hp} (k : κ), Enc.rep K F (kV (Kk.key k)) k
  of : ∀ {K : Frag} {F : Hp} {v : V} {k : κ}, Enc.rep K F v k → v = kV (Kk.key k)
instance : KkV Int := ⟨fun _ => rfl, fun h => h⟩
instance : KkV (List Nat) := ⟨fun _ => rfl, fun h => h⟩
section
variable {Y : DX} {s : DSt} {e a b c d o : Expr} {es : List Expr} {pos p apos : Pos} {Q : Pv → DSt → Prop}
variable {κ ν : Type} [DecidableEq κ] [Kk κ] [Enc κ] [KkV κ] [Enc ν] {A B : Pv} {m : List (κ × ν)} {k : κ} {x : ν}
/-- A reads as a dict just now, its values frozen -/
def DF (Y : DX) (s : DSt) {κ ν : Type} [Kk κ] [Enc ν] (A : Pv) (d : List (κ × ν)) : Prop := ∀ σ H F v, Sta Y s σ H F → A.rep Y.X.K F v → ∃ p kvs, v = .ref p ∧ Rd H p (.dK kvs) ∧ KVs Y.X.K F kvs d
theorem DF.pu {d : Dct κ ν} : DF Y s (pu d) d.kvs := fun σ H F v S ⟨p, od, kvs, e, hp, r⟩ => ⟨p, kvs, e, .inr ⟨od, S.ext _ _ hp⟩, r⟩
theorem DF.own {d : List (κ × ν)} {p : Addr} (i : Nat) (h : s.gs[i]? = some (p, dctc d)) : DF Y s (raw (.ref p)) d := fun σ H F v S r => by
  obtain ⟨_, o, ho, _, vs, eo, rv⟩ := S.cell h
  subst eo
  exact ⟨p, vs, r, .inl ho, rv⟩
/-- d[k] -/
theorem evp_dget (ok : YOk Y) (ha : EvP Y s a A) (hA : DF Y s A m) (hb : EvP Y s b (pu k)) (hx : dval m k = some x) (hs : NoSl b) : EvP Y s (.Subscript a b pos) (pu x) := fun F0 σ H F e0 S => by
  refine .of (pe_dget (by have := ok.room.units; omega) pe_we pe_we hs) ?_
  refine (ha F σ H F (.refl _) S).mono fun v H1 ⟨F1, e1, r1, S1⟩ => ?_
  refine (hb F1 σ H1 F1 (.refl _) S1).mono fun u H2 ⟨F2, e2, r2, S2⟩ => ?_
  obtain ⟨q, zs, ev, hr, hz⟩ := hA σ H2 F2 v S2 (A.mono r1 e2)
  rcases kvs_val hz k with ⟨h1, _⟩ | ⟨w, y, h1, h2, h3⟩
  · rw [hx] at h1; cases h1
  · rw [hx] at h1
    cases h1
    exact ⟨q, w, ev, .inl ⟨zs, Kk.key k, hr, KkV.of r2, h2.symm⟩, F2, (e0.trans e1).trans e2, h3, S2⟩
/-- d.get(k, y) -/
theorem evp_dget2 {f : Expr} {y : ν} (ok : YOk Y) (ho : EvP Y s o A) (hA : DF Y s A m) (he : EvP Y s e (pu k)) (hf : EvP Y s f (pu y)) (M : M2 Y.X o "get" apos e f pos) : EvP Y s (.Call (.Attribute o "get" apos) [e, f] [] pos) (pu ((dval m k).getD y)) := fun F0 σ H F e0 S => by
  refine .of (pe_dget2 (by have := ok.room.units; omega) pe_we pe_we pe_we M) ?_
  refine (ho F σ H F (.refl _) S).mono fun v H1 ⟨F1, e1, r1, S1⟩ => ?_
  obtain ⟨q, zs, ev, hr, hz⟩ := hA σ H1 F1 v S1 r1
  refine ⟨q, ev, .inl ⟨zs, hr⟩, ?_⟩
  refine (he F1 σ H1 F1 (.refl _) S1).mono fun u H2 ⟨F2, e2, r2, S2⟩ => ?_
  refine (hf F2 σ H2 F2 (.refl _) S2).mono fun w H3 ⟨F3, e3, r3, S3⟩ => ?_
  obtain ⟨q', zs', ev', hr', hz'⟩ := hA σ H3 F3 v S3 (A.mono r1 (e2.trans e3))
  have eq : q' = q := by rw [ev] at ev'; cases ev'; rfl
  subst eq
  refine ⟨valV zs' (Kk.key k), .inl ⟨zs', Kk.key k, hr', KkV.of r2, rfl⟩, F3, ((e0.trans e1).trans e2).trans e3, ?_, S3⟩
  rcases kvs_val hz' k with ⟨h1, h2⟩ | ⟨w', y', h1, h2, h3⟩
  · rw [h1, h2]; exact r3
  · rw [h1, h2]; exact h3
theorem evp_dget1 (ok : YOk Y) (ho : EvP Y s o A) (hA : DF Y s A m) (he : EvP Y s e (pu k)) (M : M1 Y.X o "get" apos e pos) : EvP Y s (.Call (.Attribute o "get" apos) [e] [] pos) (pu (dval m k)) := fun F0 σ H F e0 S => by
  refine .of (pe_dget1 (by have := ok.room.units; omega) pe_we pe_we M) ?_
  refine (ho F σ H F (.refl _) S).mono fun v H1 ⟨F1, e1, r1, S1⟩ => ?_
  obtain ⟨q, zs, ev, hr, hz⟩ := hA σ H1 F1 v S1 r1
  refine ⟨q, ev, .inl ⟨zs, hr⟩, ?_⟩
  refine (he F1 σ H1 F1 (.refl _) S1).mono fun u H2 ⟨F2, e2, r2, S2⟩ => ?_
  obtain ⟨q', zs', ev', hr', hz'⟩ := hA σ H2 F2 v S2 (A.mono r1 e2)
  have eq : q' = q := by rw [ev] at ev'; cases ev'; rfl
  subst eq
  refine ⟨valV zs' (Kk.key k), .inl ⟨zs', Kk.key k, hr', KkV.of r2, rfl⟩, F2, (e0.trans e1).trans e2, ?_, S2⟩
  rcases kvs_val hz' k with ⟨h1, h2⟩ | ⟨w', y', h1, h2, h3⟩
  · rw [h1, h2]; rfl
  · rw [h1, h2]; exact h3
/-- k in d -/
def dhas (m : List (κ × ν)) (k : κ) : Bool := (dval m k).isSome
theorem cmp_inD (ok : YOk Y) (ha : EvP Y s a (pu k)) (hb : EvP Y s b B) (hB : DF Y s B m) : CmpP Y s .In a b (dhas m k) := fun F0 σ H F e0 S => by
  refine .of (pc_din (by have := ok.room.units; omega) pe_we pe_we) ?_
  refine (ha F σ H F (.refl _) S).mono fun u H1 ⟨F1, e1, r1, S1⟩ => ?_
  refine (hb F1 σ H1 F1 (.refl _) S1).mono fun v H2 ⟨F2, e2, r2, S2⟩ => ?_
  obtain ⟨q, zs, ev, hr, hz⟩ := hB σ H2 F2 v S2 r2
  refine ⟨q, valV zs (Kk.key k), ev, .inl ⟨zs, Kk.key k, hr, KkV.of r1, rfl⟩, _, s, F2, rfl, (e0.trans e1).trans e2, S2, ?_, rfl⟩
  unfold dhas
  rcases kvs_val hz k with ⟨h1, h2⟩ | ⟨w', y', h1, h2, h3⟩ <;> rw [h1, h2] <;> rfl
theorem cmp_ninD (ok : YOk Y) (ha : EvP Y s a (pu k)) (hb : EvP Y s b B) (hB : DF Y s B m) : CmpP Y s .NotIn a b (!dhas m k) := fun F0 σ H F e0 S => by
  refine .of (pc_dnotin (by have := ok.room.units; omega) pe_we pe_we) ?_
  refine (ha F σ H F (.refl _) S).mono fun u H1 ⟨F1, e1, r1, S1⟩ => ?_
  refine (hb F1 σ H1 F1 (.refl _) S1).mono fun v H2 ⟨F2, e2, r2, S2⟩ => ?_
  obtain ⟨q, zs, ev, hr, hz⟩ := hB σ H2 F2 v S2 r2
  refine ⟨q, valV zs (Kk.key k), ev, .inl ⟨zs, Kk.key k, hr, KkV.of r1, rfl⟩, _, s, F2, rfl, (e0.trans e1).trans e2, S2, ?_, rfl⟩
  unfold dhas
  rcases kvs_val hz k with ⟨h1, h2⟩ | ⟨w', y', h1, h2, h3⟩ <;> rw [h1, h2] <;> rfl
/-- {} owned, frozen -/
theorem ev_dnew {κ ν : Type} [Kk κ] [Enc ν] (q : ∀ p, Q (raw (.ref p)) ⟨s.ρ, (p, dctc ([] : List (κ × ν))) :: s.gs⟩) : Ev Y s (.Dict [] [] pos) Q := fun F0 σ H F e0 S =>
  .of pe_dnewK fun p hp => ⟨raw (.ref p), _, F, e0, rfl, S.newO (c := dctc ([] : List (κ × ν))) hp rfl ⟨[], rfl, .nil⟩, q p⟩
/-- a new dict, locked at once and frozen -/
theorem pp_dict {σ : St} {F0 H F : Hp} {zs : List (Key × V)} (e0 : Ext F0 F) (S : Sta Y s σ H F) (r : KVs Y.X.K F zs m) (q : Addr) (hq : H q = none) (od : Obj) : Pp Y s σ F0 (pu (Dct.mk m)) (.ref q) (upd H q (.frz od (.dK zs))) :=
  ⟨upd F q (.frz od (.dK zs)), e0.trans (Ext.grow (S.free hq)), ⟨q, od, zs, rfl, upd_same, r.mono (Ext.grow (S.free hq))⟩, S.newF hq rfl⟩
theorem pp_lock {σ : St} {F0 H F : Hp} {zs : List (Key × V)} (e0 : Ext F0 F) (S : Sta Y s σ H F) (r : KVs Y.X.K F zs m) (q : Addr) (hq : H q = none) :
    ∃ d u, (upd H q (.dK zs)) d = some u ∧ Mut (some u) ∧ ∀ od, Pp Y s σ F0 (pu (Dct.mk m)) (.ref q) (upd (upd H q (.dK zs)) d (.frz od u)) :=
  ⟨q, .dK zs, upd_same, trivial, fun od => by rw [upd_upd]; exact pp_dict e0 S r q hq od⟩
theorem evp_dnew {κ ν : Type} [Kk κ] [Enc ν] : EvP Y s (.Dict [] [] pos) (pu (Dct.mk ([] : List (κ × ν)))) := fun F0 σ H F e0 S =>
  .lockAfter (.of pe_dnewK fun q hq => ⟨q, .dK [], upd_same, trivial, fun od => by
    rw [upd_upd]
    exact ⟨upd F q (.frz od (.dK [])), e0.trans (Ext.grow (S.free hq)), ⟨q, od, [], rfl, upd_same, .nil⟩, S.newF hq rfl⟩⟩)
end
end Sp
set_option maxHeartbeats 4000000
/-! Sp: dict statements, dict(xs), sources, texts' methods. -/
namespace Sp
open PySem L2
open PySem.W (Datum DatumOrd SomeDatum)
section
variable {Y : DX} {s : DSt} {e a b c d o : Expr} {es : List Expr} {pos p apos : Pos} {Q : Pv → DSt → Prop} {D : DE}
section
variable {κ ν : Type} [DecidableEq κ] [Kk κ] [Enc κ] [KkV κ] [Enc ν] {A B : Pv} {m : List (κ × ν)} {k : κ} {x : ν}
/-- d[k] = x, d owned -/
theorem w1_dput {q : Addr} {p2 : Pos} (ok : YOk Y) (i : Nat) (hz : m.length < sizeLine)
    (hv : Ev Y s e fun X s1 => X = pu x ∧ s1.gs[i]? = some (q, dctc m) ∧ EvP Y s1 a (raw (.ref q)) ∧ EvP Y s1 b (pu k) ∧ D.nx ⟨s1.ρ, s1.gs.set i (q, dctc (dput m k x))⟩)
    (hs : swapsWith e (some (.Subscript a b p2)) pos.line Y.X.env = pure false := by rfl) : W1 Y s (.Assign [.Subscript a b p2] e pos) D := fun F0 σ H F e0 S => by
  refine .of (ps_dput (by have := ok.room.units; omega) pe_we pe_we pe_we hs) ?_
  refine (hv F σ H F (.refl _) S).mono fun v H1 ⟨X, s1, F1, e1, r1, S1, ex, hi, ha, hb, k1⟩ => ?_
  subst ex
  refine (ha F1 σ H1 F1 (.refl _) S1).mono fun u H2 ⟨F2, e2, r2, S2⟩ => ?_
  refine (hb F2 σ H2 F2 (.refl _) S2).mono fun w H3 ⟨F3, e3, r3, S3⟩ => ?_
  obtain ⟨hF, oo, hoo, _, zs, eo, rv⟩ := S3.cell hi
  subst eo
  refine ⟨q, upd H3 q (.dK (putK zs (Kk.key k) v)), r2, .inl ⟨zs, Kk.key k, hoo, KkV.of r3, by rw [show zs.length = m.length from Paired.length rv]; exact hz, rfl⟩, _, F3, ((e0.trans e1).trans e2).trans e3, ?_, k1⟩
  exact S3.write (c' := dctc (dput m k x)) hi hoo (not_codeD rfl) rfl ⟨_, rfl, kvs_put rv (Enc.mono (α := ν) r1 (e2.trans e3))⟩
/-- an owned dict is locked and frozen: the name i stands for it -/
theorem ws_freezeD {q : Addr} {sts : List Stmt} (i j : Nat) (hi : s.ρ[i]? = some (some (raw (.ref q)))) (hj : s.gs[j]? = some (q, dctc m)) (h : Ws Y ⟨s.ρ.set i (some (pu (Dct.mk m))), s.gs.eraseIdx j⟩ sts D) : Ws Y s sts D := fun F0 σ H F e0 S => by
  obtain ⟨hF, oo, hoo, _, zs, eo, rv⟩ := S.cell hj
  subst eo
  intro pins s1 I
  obtain ⟨od, J⟩ := I.lock hoo trivial
  have S1 := S.write (o' := .frz od (.dK zs)) (c' := ⟨fun _ _ o => o = .frz od (.dK zs), fun h _ => h⟩) hj hoo (not_codeD rfl) rfl rfl
  have hl : j < s.gs.length := (List.getElem?_eq_some_iff.mp hj).1
  have S2 := S1.freeze (i := j) (p := q) (List.getElem?_set_self hl) upd_same
  obtain ⟨v, hv, rv'⟩ := S.rep.get hi
  have rv2 : v = .ref q := rv'
  subst rv2
  have S3 := S2.set (A := pu (Dct.mk m)) (v := .ref q) ⟨q, od, zs, rfl, upd_same, rv.mono (Ext.grow hF)⟩ i
  have eσ : σ.set i (some (V.ref q)) = σ := by
    apply List.ext_getElem?
    intro t
    by_cases z : i = t
    · subst z
      rw [List.getElem?_set_self (List.getElem?_eq_some_iff.mp hv).1, hv]
    · rw [List.getElem?_set_ne z]
  rw [eσ] at S3
  have eg : (s.gs.set j (q, (⟨fun _ _ o => o = .frz od (.dK zs), fun h _ => h⟩ : Cell))).eraseIdx j = s.gs.eraseIdx j := by
    rw [List.eraseIdx_set_eq]
  have S4 : Sta Y ⟨s.ρ.set i (some (pu (Dct.mk m))), s.gs.eraseIdx j⟩ σ (upd H q (.frz od (.dK zs))) (upd F q (.frz od (.dK zs))) := by
    rw [← eg]; exact S3
  exact h F0 σ _ _ (e0.trans (Ext.grow hF)) S4 pins s1 J
end
/-- an owned list is frozen -/
theorem ws_freezeL {α : Type} [Enc α] {xs : List α} {q : Addr} {sts : List Stmt} (i j : Nat) (hi : s.ρ[i]? = some (some (raw (.ref q)))) (hj : s.gs[j]? = some (q, lstc xs)) (h : Ws Y ⟨s.ρ.set i (some (pu xs)), s.gs.eraseIdx j⟩ sts D) : Ws Y s sts D := fun F0 σ H F e0 S => by
  obtain ⟨hF, oo, hoo, _, zs, eo, rv⟩ := S.cell hj
  subst eo
  have S2 := S.freeze hj hoo
  obtain ⟨v, hv, rv'⟩ := S.rep.get hi
  have rv2 : v = .ref q := rv'
  subst rv2
  have S3 := S2.set (A := pu xs) (v := .ref q) ⟨q, zs, rfl, .of upd_same, rv.mono (Ext.grow hF)⟩ i
  have eσ : σ.set i (some (V.ref q)) = σ := by
    apply List.ext_getElem?
    intro t
    by_cases z : i = t
    · subst z
      rw [List.getElem?_set_self (List.getElem?_eq_some_iff.mp hv).1, hv]
    · rw [List.getElem?_set_ne z]
  rw [eσ] at S3
  exact h F0 σ _ _ (e0.trans (Ext.grow hF)) S3
/-- an owned list that is returned -/
theorem ev_frL {α : Type} [Enc α] {xs : List α} {q : Addr} (j : Nat) (h : EvP Y s e (raw (.ref q))) (hj : s.gs[j]? = some (q, lstc xs)) (k : Q (pu xs) ⟨s.ρ, s.gs.eraseIdx j⟩) : Ev Y s e Q := fun F0 σ H F e0 S => (h F0 σ H F e0 S).mono fun v H1 ⟨F1, e1, r1, S1⟩ => by
  obtain ⟨hF, oo, hoo, _, zs, eo, rv⟩ := S1.cell hj
  subst eo
  have r2 : v = .ref q := r1
  subst r2
  exact ⟨pu xs, _, _, e1.trans (Ext.grow hF), ⟨q, zs, rfl, .of upd_same, rv.mono (Ext.grow hF)⟩, S1.freeze hj hoo, k⟩
/-! ### dict(xs), sorted(d), list(d), len(d) -/
section
variable {κ ν : Type} [DecidableEq κ] [Kk κ] [Enc κ] [KkV κ] [Enc ν] {A B : Pv} {m : List (κ × ν)} {k : κ} {x : ν}
theorem pairs_kvs {K : Frag} {F : Hp} : ∀ {vs : List V} {xs : List (κ × ν)}, Vs K F vs xs → ∃ (ps : List Addr) (kvs : List (Key × V)), vs = ps.map V.ref ∧ Paired (fun p kv => SqT K F p [kV kv.1, kv.2]) ps kvs ∧ KVs K F kvs xs
  | _, _, .nil => ⟨[], [], rfl, .nil, .nil⟩
  | _, _, .cons ⟨p, a, b, e, h, ra, rb⟩ t => by
    obtain ⟨ps, kvs, h1, h2, h3⟩ := pairs_kvs t
    subst e h1
    have ea := KkV.of ra
    subst ea
    exact ⟨p :: ps, (_, b) :: kvs, rfl, .cons h h2, .cons ⟨rfl, rb⟩ h3⟩
theorem evp_dict {xs : List (κ × ν)} (ok : YOk Y) (T : Bis Y.X.mg) (hg : Gl Y.X "dict") (ha : EvP Y s a A) (hA : DL Y s A xs) (he : starEach [a] Y.X.env = (false, eval a Y.X.env) :: starEach [] Y.X.env := by rfl) : EvP Y s (.Call (.Name "dict" p) [a] [] pos) (pu (Dct.mk (dmerge [] xs))) := fun F0 σ H F e0 S => by
  refine .lockAfter (.of (pe_callTy (call_dictP ok.calm) hg (T.no _ (by decide)) PyProof.Rows.boot_dict (pa_cons pe_we pa_nil he) (by decide) (by decide) he (by rfl)) ?_)
  refine (ha F0 σ H F e0 S).mono fun v H1 ⟨F1, e1, r1, S1⟩ => ?_
  obtain ⟨q, zs, h1, h2, h3⟩ := hA σ H1 F1 v S1 r1
  obtain ⟨ps, kvs, g1, g2, g3⟩ := pairs_kvs h3
  subst g1
  exact ⟨q, ps, kvs, by rw [h1], h2, Paired.mapP g2 fun _ _ z => sqT_ext z S1.ext, fun l hl => pp_lock e1 S1 (kvs_merge g3 .nil) l hl⟩
theorem ev_dictO {xs : List (κ × ν)} (ok : YOk Y) (T : Bis Y.X.mg) (hg : Gl Y.X "dict") (ha : EvP Y s a A) (hA : DL Y s A xs) (q : ∀ p, Q (raw (.ref p)) ⟨s.ρ, (p, dctc (dmerge [] xs)) :: s.gs⟩) (he : starEach [a] Y.X.env = (false, eval a Y.X.env) :: starEach [] Y.X.env := by rfl) : Ev Y s (.Call (.Name "dict" p) [a] [] pos) Q := fun F0 σ H F e0 S => by
  refine .of (pe_callTy (call_dictP ok.calm) hg (T.no _ (by decide)) PyProof.Rows.boot_dict (pa_cons pe_we pa_nil he) (by decide) (by decide) he (by rfl)) ?_
  refine (ha F0 σ H F e0 S).mono fun v H1 ⟨F1, e1, r1, S1⟩ => ?_
  obtain ⟨q', zs, h1, h2, h3⟩ := hA σ H1 F1 v S1 r1
  obtain ⟨ps, kvs, g1, g2, g3⟩ := pairs_kvs h3
  subst g1
  exact ⟨q', ps, kvs, by rw [h1], h2, Paired.mapP g2 fun _ _ z => sqT_ext z S1.ext, fun l hl => ⟨raw (.ref l), _, F1, e1, rfl, S1.newO (c := dctc (dmerge [] xs)) hl rfl ⟨_, rfl, kvs_merge g3 .nil⟩, q l⟩⟩
/-- dict(d): a copy -/
theorem evp_dictD (ok : YOk Y) (T : Bis Y.X.mg) (hg : Gl Y.X "dict") (ha : EvP Y s a A) (hA : DF Y s A m) (he : starEach [a] Y.X.env = (false, eval a Y.X.env) :: starEach [] Y.X.env := by rfl) : EvP Y s (.Call (.Name "dict" p) [a] [] pos) (pu (Dct.mk m)) := fun F0 σ H F e0 S => by
  refine .lockAfter (.of (pe_callTy call_dictD hg (T.no _ (by decide)) PyProof.Rows.boot_dict (pa_cons pe_we pa_nil he) (by decide) (by decide) he (by rfl)) ?_)
  refine (ha F0 σ H F e0 S).mono fun v H1 ⟨F1, e1, r1, S1⟩ => ?_
  obtain ⟨q, zs, h1, h2, h3⟩ := hA σ H1 F1 v S1 r1
  exact ⟨q, zs, by rw [h1], h2, fun l hl => pp_lock e1 S1 h3 l hl⟩
theorem ev_dictDO (ok : YOk Y) (T : Bis Y.X.mg) (hg : Gl Y.X "dict") (ha : EvP Y s a A) (hA : DF Y s A m) (q : ∀ p, Q (raw (.ref p)) ⟨s.ρ, (p, dctc m) :: s.gs⟩) (he : starEach [a] Y.X.env = (false, eval a Y.X.env) :: starEach [] Y.X.env := by rfl) : Ev Y s (.Call (.Name "dict" p) [a] [] pos) Q := fun F0 σ H F e0 S => by
  refine .of (pe_callTy call_dictD hg (T.no _ (by decide)) PyProof.Rows.boot_dict (pa_cons pe_we pa_nil he) (by decide) (by decide) he (by rfl)) ?_
  refine (ha F0 σ H F e0 S).mono fun v H1 ⟨F1, e1, r1, S1⟩ => ?_
  obtain ⟨q', zs, h1, h2, h3⟩ := hA σ H1 F1 v S1 r1
  exact ⟨q', zs, by rw [h1], h2, fun l hl => ⟨raw (.ref l), _, F1, e1, rfl, S1.newO (c := dctc m) hl rfl ⟨_, rfl, h3⟩, q l⟩⟩
theorem keys_vs {K : Frag} {F F' : Hp} : ∀ {zs : List (Key × V)} {m : List (κ × ν)}, KVs K F zs m → Vs K F' (zs.map fun kv => kV kv.1) (m.map (·.1))
  | _, _, .nil => .nil
  | _, _, .cons (a := p) (b := q) r t => .cons (by have e := KkV.rep (K := K) (F := F') q.1; rw [← r.1] at e; exact e) (keys_vs t)
theorem evp_listD (ok : YOk Y) (T : Bis Y.X.mg) (hg : Gl Y.X "list") (ha : EvP Y s a A) (hA : DF Y s A m) (he : starEach [a] Y.X.env = (false, eval a Y.X.env) :: starEach [] Y.X.env := by rfl) : EvP Y s (.Call (.Name "list" p) [a] [] pos) (pu (m.map (·.1))) :=
  evp_T1 (call_listD ok.calm) hg (T.no _ (by decide)) PyProof.Rows.boot_list ha (fun F0 σ H F v e0 S r => by
    obtain ⟨q, zs, h1, h2, h3⟩ := hA σ H F v S r
    exact ⟨q, zs, by rw [h1], h2, fun l hl => pp_list e0 S (keys_vs h3) l hl⟩) (by decide) (by decide) he
theorem keys_at2 {P : Program} {w : World} {kvs : List (Key × V)} {vs : List (Key × Value)} {acc : Array Value} (rel : KV kvs vs) (hi : ItemsOf (fun i v => ∃ k x, vs[i]? = some (k, x) ∧ (mixKind P w).is k v = true) acc vs.length) : Vals (kvs.map fun p => kV p.1) acc.toList := by
  have h := keys_at (us := acc.toList) (vs := vs) (by rw [Array.length_toList]; exact hi.1) fun j v hv => by
    obtain ⟨k, x, h1, h2⟩ := hi.2 j v (by simpa using hv)
    exact ⟨k, x, h1, h2⟩
  have e : vs.map (fun p => kV p.1) = kvs.map fun p => kV p.1 := by
    have h1 : vs.map (fun p => kV p.1) = (vs.map (·.1)).map kV := by rw [List.map_map]; rfl
    have h2 : kvs.map (fun p => kV p.1) = (kvs.map (·.1)).map kV := by rw [List.map_map]; rfl
    rw [h1, h2, rel.keys]
  rw [e] at h
  exact h
theorem cr_sortedD {X : Cx} [DatumOrd κ] [Dat κ] [Srtb κ] [FlatV κ] [FlatR κ] (hz : ∀ k : κ, FlatV.z k = kV (Kk.key k)) (hc : X.calm = true) (hu : X.A.units + 64 < cLine) (hd : Datum.depth κ ≤ 60) : CallR X (.builtin "sorted") (fun vs H Q => ∃ (q : Addr) (zs : List (Key × V)) (ks : List κ), vs = [.ref q] ∧ Rd H q (.dK zs) ∧ zs.map (·.1) = ks.map Kk.key ∧ ∀ p, H p = none → Q (.ref p) (upd H p (.lst ((srt ks).map FlatV.z)))) := by
  intro pins s σ H vs us Q I r ⟨q, zs, ks, ev, hr, hk, k⟩
  subst ev
  obtain ⟨u, rfl, ru⟩ := vals1 r
  cases ru
  obtain ⟨hl, lo, ws, rel, dd⟩ := dk_rd I.hok hr
  obtain ⟨ep, hat⟩ := dd.dictAt
  have hln : ks.length = zs.length := by have := congrArg List.length hk; simpa using this.symm
  have hwl : zs.length = ws.length := rel.length
  refine sorted_flat (bs := ks) I hu hd (by omega) (fun R kk => ?_) k
  refine PySem.W.kdu_collect (A := X.A.in1) (PySem.W.kdl_dict (knd := mixKind X.prog X.w) (kvs := ws) (ep := ep) lo) (I.ok.hd hc) hat (by omega) fun h' tk acc hk2 hacc => kk h' tk _ hk2 ?_
  have h9 := keys_at2 rel hacc
  have e9 : zs.map (fun p => kV p.1) = ks.map FlatV.z := by
    have h1 : zs.map (fun p => kV p.1) = (zs.map (·.1)).map kV := by rw [List.map_map]; rfl
    rw [h1, hk, List.map_map]
    exact List.map_congr_left fun k _ => (hz k).symm
  rw [e9] at h9
  exact h9
theorem keys_key {K : Frag} {F : Hp} : ∀ {zs : List (Key × V)} {m : List (κ × ν)}, KVs K F zs m → zs.map (·.1) = (m.map (·.1)).map Kk.key
  | _, _, .nil => rfl
  | _, _, .cons r t => by rw [List.map_cons, List.map_cons, List.map_cons, keys_key t, r.1]
theorem evp_sortedD [DatumOrd κ] [Dat κ] [Srtb κ] [FlatV κ] [FlatR κ] (ok : YOk Y) (T : Bis Y.X.mg) (hg : Gl Y.X "sorted") (ha : EvP Y s a A) (hA : DF Y s A m) (hz : ∀ k : κ, FlatV.z k = kV (Kk.key k) := by intro _; rfl) (hd : Datum.depth κ ≤ 60 := by decide)
    (he : starEach [a] Y.X.env = (false, eval a Y.X.env) :: starEach [] Y.X.env := by rfl) : EvP Y s (.Call (.Name "sorted" p) [a] [] pos) (pu (srt (m.map (·.1)))) :=
  evp_B1 (cr_sortedD (κ := κ) hz ok.calm ok.room.units hd) hg (T.no _ (by decide)) PyProof.Rows.boot_sorted ha (fun F0 σ H F v e0 S r => by
    obtain ⟨q, zs, h1, h2, h3⟩ := hA σ H F v S r
    exact ⟨q, zs, m.map (·.1), by rw [h1], h2, keys_key h3, fun l hl => pp_list e0 S (flat_vs _) l hl⟩) (by decide) (by decide) he
end
theorem evp_sortedS {x : List Nat} (ok : YOk Y) (T : Bis Y.X.mg) (hg : Gl Y.X "sorted") (ha : EvP Y s a (pu x)) (hx : x.length ≤ sizeLine) (he : starEach [a] Y.X.env = (false, eval a Y.X.env) :: starEach [] Y.X.env := by rfl) : EvP Y s (.Call (.Name "sorted" p) [a] [] pos) (pu (srt (x.map fun c => [c]))) :=
  evp_B1 (cr_sortedTxt ok.calm ok.room.units) hg (T.no _ (by decide)) PyProof.Rows.boot_sorted ha (fun F0 σ H F v e0 S r => ⟨x, by rw [show v = .str (toStr x) from r], hx, fun l hl => pp_list e0 S (flat_vs _) l hl⟩) (by decide) (by decide) he
/-! ### texts -/
theorem joinT_cons (a x y : List Nat) (r : List (List Nat)) : joinT a ((x ++ a ++ y) :: r) = x ++ a ++ joinT a (y :: r) := by
  cases r with
  | nil => rfl
  | cons z r => simp only [joinT, List.append_assoc]
theorem glue_fold (a : List Nat) : ∀ (r : List (List Nat)) (x : List Nat), (r.map toStr).foldl (fun acc p => acc ++ (toStr a).cps ++ p.cps) (toStr x).cps = (toStr (joinT a (x :: r))).cps
  | [], x => rfl
  | y :: r, x => by
    have e : (toStr x).cps ++ (toStr a).cps ++ (toStr y).cps = (toStr (x ++ a ++ y)).cps := by simp [toStr]
    rw [List.map_cons, List.foldl_cons, e, glue_fold a r, joinT_cons]
    rfl
theorem toStr_join' (a : List Nat) (xs : List (List Nat)) : Txt.join (toStr a) (xs.map toStr) = toStr (joinT a xs) := by
  unfold Txt.join Builtin.Str.glued
  cases xs with
  | nil => rfl
  | cons x r =>
    have h := glue_fold a r x
    simp only [List.map_cons, List.drop_succ_cons, List.drop_zero, List.headD_cons]
    rw [h]
theorem txts_map {K : Frag} {H : Hp} {vs : List V} {xs : List (List Nat)} (h : Vs K H vs xs) : vs = (xs.map toStr).map V.str := vs_txts h
def lenSum (xs : List (List Nat)) : Nat := (xs.map List.length).sum
theorem evp_join {A : Pv} {x : List Nat} {xs : List (List Nat)} (ho : EvP Y s o (pu x)) (he : EvP Y s e A) (hA : DL Y s A xs) (hz : lenSum xs + xs.length * x.length ≤ 16777216) (M : Mx1 Y.X o "join" apos e pos) : EvP Y s (.Call (.Attribute o "join" apos) [e] [] pos) (pu (joinT x xs)) :=
  evp_m1 PySem.F.plainAttrs_str PySem.F.slot_str_join PySem.F.type_str_join mt_join ho he (fun σ H F v S r => tyV_str r) (fun F0 σ H F v u e0 S r1 r2 => by
    obtain ⟨q, zs, h1, h2, h3⟩ := hA σ H F u S r2
    rw [txts_map h3] at h2
    refine ⟨toStr x, q, xs.map toStr, r1, by rw [h1], .inl h2, ?_, F, e0, by rw [toStr_join']; rfl, S⟩
    have e1 : (xs.map toStr).map (·.length) = xs.map List.length := by rw [List.map_map]; exact List.map_congr_left fun y _ => toStr_len y
    rw [e1, List.length_map, toStr_len]
    exact hz) M.base M.few M.line M.star
end
/-! ### sources -/
section
variable {Y : DX} {s : DSt} {e a b c d o tg : Expr} {es elts : List Expr} {pos p apos cpos tpos : Pos} {kk : Nat}
theorem it_range1 {n : Int} (T : Bis Y.X.mg) (hg : Gl Y.X "range") (ha : EvP Y s a (pu n)) (h1 : -(2 ^ 62) ≤ n) (h2 : n < 2 ^ 62) (hs : starEach [a] Y.X.env = [(false, eval a Y.X.env)] := by rfl) : EvIt Y s tg (.Call (.Name "range" p) [a] [] pos) ((List.range n.toNat).map fun i : Nat => (i : Int)) :=
  ⟨_, pi_range1 hg (T.no _ (by decide)) (pa_cons pe_we pa_nil hs) hs, fun F0 σ H F R e0 S k => (ha F0 σ H F e0 S).mono fun v H' ⟨F', e1, r, S'⟩ =>
    ⟨n, by rw [show v = .int n from r], h1, h2, k _ _ F' e1 S' fun i H2 F2 e2 e3 => ⟨fun x hx => by
      rw [List.getElem?_map] at hx
      cases q : (List.range n.toNat)[i]? with
      | none => rw [q] at hx; cases hx
      | some j =>
        rw [q] at hx
        cases hx
        obtain ⟨h5, h6⟩ := List.getElem?_eq_some_iff.mp q
        rw [List.getElem_range] at h6
        subst h6
        rw [List.length_range] at h5
        refine ⟨h5, fun v H3 ⟨eh, hv⟩ => .inl ⟨eh, ?_⟩⟩
        rw [hv]
        show V.int (0 + (i : Int)) = V.int i
        rw [Int.zero_add], fun hl => by
      show n.toNat ≤ i
      simpa using hl⟩⟩⟩
theorem it_range2 {n m : Int} (T : Bis Y.X.mg) (hg : Gl Y.X "range") (ha : EvP Y s a (pu n)) (hb : EvP Y s b (pu m)) (h1 : -(2 ^ 62) ≤ n) (h2 : n < 2 ^ 62) (h3 : -(2 ^ 62) ≤ m) (h4 : m < 2 ^ 62)
    (hs : starEach [a, b] Y.X.env = [(false, eval a Y.X.env), (false, eval b Y.X.env)] := by rfl) (hs2 : starEach [b] Y.X.env = [(false, eval b Y.X.env)] := by rfl) : EvIt Y s tg (.Call (.Name "range" p) [a, b] [] pos) ((List.range (m - n).toNat).map fun i : Nat => n + (i : Int)) :=
  ⟨_, pi_range2 hg (T.no _ (by decide)) (pa_cons pe_we (pa_cons pe_we pa_nil hs2) (by rw [hs, hs2])) hs hs2, fun F0 σ H F R e0 S k => (ha F σ H F (.refl _) S).mono fun v H' ⟨F', e1, r, S'⟩ => (hb F' σ H' F' (.refl _) S').mono fun w H2 ⟨F2, e2, r2, S2⟩ =>
    ⟨n, m, by rw [show v = .int n from r, show w = .int m from r2], ⟨h1, h2, h3, h4⟩, k _ _ F2 ((e0.trans e1).trans e2) S2 fun i H2 F2 e2 e3 => ⟨fun x hx => by
      rw [List.getElem?_map] at hx
      cases q : (List.range (m - n).toNat)[i]? with
      | none => rw [q] at hx; cases hx
      | some j =>
        rw [q] at hx
        cases hx
        obtain ⟨h5, h6⟩ := List.getElem?_eq_some_iff.mp q
        rw [List.getElem_range] at h6
        subst h6
        rw [List.length_range] at h5
        exact ⟨h5, fun v H3 ⟨eh, hv⟩ => .inl ⟨eh, by rw [hv]; rfl⟩⟩, fun hl => by
      show (m - n).toNat ≤ i
      simpa using hl⟩⟩⟩
/-- items with their places -/
def enumD {α : Type} (xs : List α) : List (Int × α) := xs.mapIdx fun i x => ((i : Int), x)
theorem it_enum {α : Type} [Enc α] {xs : List α} (T : Bis Y.X.mg) (hg : Gl Y.X "enumerate") (ha : EvP Y s a (pu xs)) (hs : starEach [a] Y.X.env = [(false, eval a Y.X.env)] := by rfl) : EvIt Y s (.Tuple elts kk tpos) (.Call (.Name "enumerate" p) [a] [] pos) (enumD xs) :=
  ⟨_, pi_enum hg (T.no _ (by decide)) (pa_cons pe_we pa_nil hs) hs, fun F0 σ H F R e0 S k => (ha F0 σ H F e0 S).mono fun v H' ⟨F', e1, ⟨p, vs, ev, hq, rv⟩, S'⟩ =>
    ⟨p, vs, by rw [ev], sqL_ext hq S'.ext, k _ _ F' e1 S' fun i H2 F2 e2 e3 => ⟨fun x hx => by
      have hq2 := sqL_ext (sqL_ext hq e2) e3
      unfold enumD at hx
      rw [List.getElem?_mapIdx] at hx
      cases q : xs[i]? with
      | none => rw [q] at hx; cases hx
      | some y =>
        rw [q] at hx
        cases hx
        obtain ⟨w, hw, rw'⟩ := prd_get rv q
        refine ⟨⟨vs, w, hq2, hw⟩, fun v H3 ⟨t, x, ev, ht, eh, hv⟩ => .inr ⟨t, _, ht, eh, ev, fun F3 e4 hs3 => ?_⟩⟩
        have := hv vs hq2
        rw [hw] at this
        cases this
        exact ⟨t, _, _, ev, hs3, rfl, Enc.mono rw' (e2.trans e4)⟩, fun hl => ⟨vs, sqL_ext (sqL_ext hq e2) e3, by
      have := Paired.length rv
      unfold enumD at hl
      rw [List.length_mapIdx] at hl
      omega⟩⟩⟩⟩
section
variable {κ ν : Type} [Kk κ] [Enc κ] [KkV κ] [Enc ν] {m : Dct κ ν}
theorem it_keys (ha : EvP Y s a (pu m)) : EvIt Y s tg a (m.kvs.map (·.1)) :=
  ⟨_, pi_keys pe_we, fun F0 σ H F R e0 S k => (ha F0 σ H F e0 S).mono fun v H' ⟨F', e1, ⟨q, od, zs, ev, hq, rv⟩, S'⟩ =>
    ⟨q, od, ev, .inl ⟨zs, S'.ext _ _ hq, k _ _ F' e1 S' fun i H2 F2 e2 e3 => ⟨fun x hx => by
      rw [List.getElem?_map] at hx
      cases z : m.kvs[i]? with
      | none => rw [z] at hx; cases hx
      | some y =>
        rw [z] at hx
        cases hx
        obtain ⟨w, hw, r1, r2⟩ := prd_get rv z
        refine ⟨⟨e3 _ _ (e2 _ _ hq), (List.getElem?_eq_some_iff.mp hw).1⟩, fun v H3 ⟨eh, k', v', hk, hv⟩ => .inl ⟨eh, ?_⟩⟩
        rw [hw] at hk
        cases hk
        rw [hv]
        have e := KkV.rep (K := Y.X.K) (F := F2) y.1
        rw [← r1] at e
        exact e, fun hl => ⟨e3 _ _ (e2 _ _ hq), by have := Paired.length rv; rw [List.length_map] at hl; omega⟩⟩⟩⟩⟩
theorem it_values (ha : EvP Y s a (pu m)) (hbase : attributeBase a "values" Y.X.env (eval a Y.X.env) = eval a Y.X.env := by rfl) (hline : (apos.endLine == cpos.line) = true := by rfl) : EvIt Y s tg (.Call (.Attribute a "values" apos) [] [] cpos) (m.kvs.map (·.2)) :=
  ⟨_, pi_values pe_we hbase hline, fun F0 σ H F R e0 S k => (ha F0 σ H F e0 S).mono fun v H' ⟨F', e1, ⟨q, od, zs, ev, hq, rv⟩, S'⟩ =>
    ⟨q, od, zs, ev, S'.ext _ _ hq, k _ _ F' e1 S' fun i H2 F2 e2 e3 => ⟨fun x hx => by
      rw [List.getElem?_map] at hx
      cases z : m.kvs[i]? with
      | none => rw [z] at hx; cases hx
      | some y =>
        rw [z] at hx
        cases hx
        obtain ⟨w, hw, r1, r2⟩ := prd_get rv z
        refine ⟨⟨e3 _ _ (e2 _ _ hq), (List.getElem?_eq_some_iff.mp hw).1⟩, fun v H3 ⟨eh, k', hk⟩ => .inl ⟨eh, ?_⟩⟩
        rw [hw] at hk
        cases hk
        exact Enc.mono r2 e2, fun hl => ⟨e3 _ _ (e2 _ _ hq), by have := Paired.length rv; rw [List.length_map] at hl; omega⟩⟩⟩⟩
theorem it_items (ha : EvP Y s a (pu m)) (hbase : attributeBase a "items" Y.X.env (eval a Y.X.env) = eval a Y.X.env := by rfl) (hline : (apos.endLine == cpos.line) = true := by rfl) : EvIt Y s (.Tuple elts kk tpos) (.Call (.Attribute a "items" apos) [] [] cpos) m.kvs :=
  ⟨_, pi_items pe_we hbase hline, fun F0 σ H F R e0 S k => (ha F0 σ H F e0 S).mono fun v H' ⟨F', e1, ⟨q, od, zs, ev, hq, rv⟩, S'⟩ =>
    ⟨q, od, zs, ev, S'.ext _ _ hq, k _ _ F' e1 S' fun i H2 F2 e2 e3 => ⟨fun y z => by
        obtain ⟨w, hw, r1, r2⟩ := prd_get rv z
        refine ⟨⟨e3 _ _ (e2 _ _ hq), (List.getElem?_eq_some_iff.mp hw).1⟩, fun v H3 ⟨t, k', v', hk, hv, ht, eh⟩ => .inr ⟨t, _, ht, eh, hv, fun F3 e4 hs3 => ?_⟩⟩
        rw [hw] at hk
        cases hk
        have e := KkV.rep (K := Y.X.K) (F := F3) y.1
        rw [← r1] at e
        exact ⟨t, _, _, hv, hs3, e, Enc.mono r2 (e2.trans e4)⟩, fun hl => ⟨e3 _ _ (e2 _ _ hq), by have := Paired.length rv; omega⟩⟩⟩⟩
end
end
end Sp
set_option maxHeartbeats 4000000
/-! Sp: own classes: fields, methods, making. -/
namespace Sp
open PySem L2
open PySem.W (Datum DatumOrd SomeDatum)
abbrev Flds := List (Str × Pv)
abbrev FR (K : Frag) (F : Hp) : List (Str × V) → Flds → Prop := Paired fun p q => p.1 = q.1 ∧ q.2.rep K F p.2
theorem FR.mono {K : Frag} {F F' : Hp} {vs : List (Str × V)} {fs : Flds} (h : FR K F vs fs) (e : Ext F F') : FR K F' vs fs := Paired.mapP h fun _ q r => ⟨r.1, q.2.mono r.2 e⟩
/-- an instance of C with these fields, for good -/
def insP (C : Addr) (fs : Flds) : Pv := ⟨fun K F v => ∃ a dx vs, v = .ref a ∧ F a = some (.ins C dx vs) ∧ FR K F vs fs, fun ⟨a, dx, vs, h1, h2, h3⟩ e => ⟨a, dx, vs, h1, e _ _ h2, h3.mono e⟩⟩
/-- an owned instance -/
def insc (C : Addr) (fs : Flds) : Cell := ⟨fun K F o => ∃ dx vs, o = .ins C dx vs ∧ FR K F vs fs, fun ⟨dx, vs, h1, h2⟩ e => ⟨dx, vs, h1, h2.mono e⟩⟩
def fput (f : Str) (A : Pv) : Flds → Flds
  | [] => [(f, A)]
  | (g, B) :: r => if g = f then (g, A) :: r else (g, B) :: fput f A r
theorem fr_put {K : Frag} {F : Hp} {f : Str} {v : V} {A : Pv} {vs : List (Str × V)} {fs : Flds} (h : FR K F vs fs) (r : A.rep K F v) : FR K F (putF f v vs) (fput f A fs) := by
  induction h with
  | nil => exact .cons ⟨rfl, r⟩ .nil
  | @cons p q vs fs r1 t ih =>
    obtain ⟨g, x⟩ := p
    obtain ⟨g', B⟩ := q
    have e : g = g' := r1.1
    subst e
    unfold putF fput
    by_cases z : g = f
    · rw [if_pos z, if_pos z]
      exact .cons ⟨rfl, r⟩ t
    · rw [if_neg z, if_neg z]
      exact .cons r1 ih
theorem fr_look {K : Frag} {F : Hp} {f : Str} {A : Pv} {vs : List (Str × V)} {fs : Flds} (h : FR K F vs fs) (l : fs.lookup f = some A) : ∃ v, vs.lookup f = some v ∧ A.rep K F v := by
  induction h with
  | nil => cases l
  | @cons p q vs fs r1 t ih =>
    obtain ⟨g, x⟩ := p
    obtain ⟨g', B⟩ := q
    have e : g = g' := r1.1
    subst e
    rw [List.lookup_cons] at l ⊢
    cases z : f == g with
    | true => rw [z] at l; cases l; exact ⟨x, rfl, r1.2⟩
    | false => rw [z] at l; exact ih l
theorem fr_no {K : Frag} {F : Hp} {f : Str} {vs : List (Str × V)} {fs : Flds} (h : FR K F vs fs) (l : fs.lookup f = none) : vs.lookup f = none := by
  induction h with
  | nil => rfl
  | @cons p q vs fs r1 t ih =>
    obtain ⟨g, x⟩ := p
    obtain ⟨g', B⟩ := q
    have e : g = g' := r1.1
    subst e
    rw [List.lookup_cons] at l ⊢
    cases z : f == g with
    | true => rw [z] at l; cases l
    | false => rw [z] at l; exact ih l
theorem not_codeI {o : HO} {C dx : Addr} {vs : List (Str × V)} (h : o = .ins C dx vs) : ∀ c q, o ≠ LamX.CodeO c q := fun c q z => by rw [h] at z; cases z
section
variable {Y : DX} {s : DSt} {e a b c d o : Expr} {es : List Expr} {pos p apos : Pos} {Q : Pv → DSt → Prop} {D : DE} {C : Addr} {fs : Flds} {f : Str} {A : Pv}
/-- o stands for an instance just now -/
def IA (Y : DX) (s : DSt) (A : Pv) (C : Addr) (fs : Flds) : Prop := ∀ σ H F v, Sta Y s σ H F → A.rep Y.X.K F v → ∃ a dx vs, v = .ref a ∧ H a = some (.ins C dx vs) ∧ FR Y.X.K F vs fs
theorem IA.pu : IA Y s (insP C fs) C fs := fun σ H F v S ⟨a, dx, vs, h1, h2, h3⟩ => ⟨a, dx, vs, h1, S.ext _ _ h2, h3⟩
theorem IA.own {q : Addr} (i : Nat) (h : s.gs[i]? = some (q, insc C fs)) : IA Y s (raw (.ref q)) C fs := fun σ H F v S r => by
  obtain ⟨_, o, ho, _, dx, vs, eo, rv⟩ := S.cell h
  subst eo
  exact ⟨q, dx, vs, r, ho, rv⟩
/-- o.f -/
theorem evp_fld {B : Pv} (c : Cls Y.X.K C) (n : NoAttr Y.X.K C f) (ho : EvP Y s o B) (hB : IA Y s B C fs) (l : fs.lookup f = some A) (hb : attributeBase o f Y.X.env (eval o Y.X.env) = eval o Y.X.env := by rfl) : EvP Y s (.Attribute o f pos) A := fun F0 σ H F e0 S => by
  refine .of (pe_fld pe_we hb) ((ho F0 σ H F e0 S).mono fun v H1 ⟨F1, e1, r1, S1⟩ => ?_)
  obtain ⟨a, dx, vs, ev, ha, rf⟩ := hB σ H1 F1 v S1 r1
  obtain ⟨w, l2, rw'⟩ := fr_look rf l
  exact ⟨a, C, dx, vs, w, ev, ha, c, n, l2, F1, e1, rw', S1⟩
/-- o.f = e, o owned -/
theorem w1_fld {q : Addr} {p2 : Pos} (i : Nat) (c : Cls Y.X.K C) (n : NoAttr Y.X.K C f) (hl : fs.length < 1000)
    (hv : Ev Y s e fun X s1 => s1.gs[i]? = some (q, insc C fs) ∧ EvP Y s1 o (raw (.ref q)) ∧ D.nx ⟨s1.ρ, s1.gs.set i (q, insc C (fput f X fs))⟩)
    (hs : swapsWith e (some (.Attribute o f p2)) pos.line Y.X.env = pure false := by rfl) : W1 Y s (.Assign [.Attribute o f p2] e pos) D := fun F0 σ H F e0 S => by
  refine .of (ps_fld pe_we pe_we hs) ?_
  refine (hv F σ H F (.refl _) S).mono fun v H1 ⟨X, s1, F1, e1, r1, S1, hi, ho, k1⟩ => ?_
  refine (ho F1 σ H1 F1 (.refl _) S1).mono fun u H2 ⟨F2, e2, r2, S2⟩ => ?_
  obtain ⟨hF, oo, hoo, _, dx, vs, eo, rv⟩ := S2.cell hi
  subst eo
  exact ⟨q, C, dx, vs, r2, hoo, c, n, by rw [show vs.length = fs.length from Paired.length rv]; exact hl, _, F2, (e0.trans e1).trans e2, S2.write (c' := insc C (fput f X fs)) hi hoo (not_codeI rfl) rfl ⟨dx, _, rfl, fr_put rv (X.mono r1 e2)⟩, k1⟩
/-! ### methods -/
/-- a method of the text, as its callers know it -/
structure Mt (P : Program) (w : World) (K : Frag) (mg : Str → Option Value) (base : Heap) (T : Tb) (k : Nat) (C : Addr) (m : Str) (ps : List Str) (d : DSp) : Prop where
  ex : ∃ (f : Addr) (fd : FuncData), FnOk P w K mg base (L2.CX P w) k f fd ps (toSp K T ps.length d) ∧ Meth K C m f ∧ Binds K fd ps []
  mono : DMono d
section
variable {X : Cx} {CX : CXT} {k : Nat} {ff : Addr} {fd : FuncData} {ps : List Str} {sp : Sp} {E : St → XK} {m : Str} {ta : TE} {t : TA}
def tMethS (C : Addr) (m : Str) (sp : Sp) (E : St → XK) (ta : TE) (t : TA) : TE := fun σ H Q => ta σ H fun x H1 => ∃ a dx fs, x = .ref a ∧ H1 a = some (.ins C dx fs) ∧ fs.lookup m = none ∧ t σ H1 fun vs H2 => sp (x :: vs) H2 Q (E σ)
theorem pe_methS {pl : Sem Bool} (he : PE X o ta) (c : Cls X.K C) (hm : Meth X.K C m ff) (F : FnOk X.prog X.w X.K X.mg X.base CX k ff fd ps sp) (hr : Room k X.A) (hb : Binds X.K fd ps []) (hx : ∀ σ, PassesAt CX X σ (E σ)) (ha : PA X (e :: es) t)
    (hst : starEach (e :: es) X.env = (false, eval e X.env) :: starEach es X.env) (hpl : (backTo pos (starEach es X.env)).any (·.1) = false)
    (ht : eval (.Call (.Attribute o m apos) (e :: es) [] pos) X.env = (do
      let ov ← eval o X.env
      standAt apos.atName
      let (f, first) ← holding [ov] (getMethod ov m pl)
      callWith pos f first (backTo pos (starEach (e :: es) X.env)) (backToKw pos (keywordEach [] X.env)))) :
    PE X (.Call (.Attribute o m apos) (e :: es) [] pos) (tMethS C m sp E ta t) := by
  refine ⟨fun pins s σ H Q I h => ?_⟩
  refine PySem.W.methodCall_KW (pl := pl) (thn (he.run pins s σ H _ I h) fun u s1 ⟨x, H1, I1, rx, a, dx, fs, ex, ea, l, q⟩ => ?_) ht
  subst ex
  obtain rfl : u = Value.ref a := rx
  refine getmeth_ok I1 ea c hm l ?_
  refine PySem.W.callWith_K (first := [.ref a]) (h₀ := X.base) I.ok.mod.kin hm.kp (thn (ha.run pos pins s1 σ H1 _ I1 q) fun us s2 ⟨vs, H2, I2, r, q2⟩ => ⟨I2.kIn, ?_⟩) hst hpl
  exact run_fnS (us := .ref a :: us) (vs := .ref a :: vs) F hr hb (hx σ) I2 (.cons rfl r) q2
theorem pe_methS0 {pl : Sem Bool} (he : PE X o ta) (c : Cls X.K C) (hm : Meth X.K C m ff) (F : FnOk X.prog X.w X.K X.mg X.base CX k ff fd ps sp) (hr : Room k X.A) (hb : Binds X.K fd ps []) (hx : ∀ σ, PassesAt CX X σ (E σ))
    (ht : eval (.Call (.Attribute o m apos) [] [] pos) X.env = (do
      let ov ← eval o X.env
      standAt apos.atName
      let (f, first) ← holding [ov] (getMethod ov m pl)
      callWith pos f first (backTo pos (starEach [] X.env)) (backToKw pos (keywordEach [] X.env)))) :
    PE X (.Call (.Attribute o m apos) [] [] pos) (tMethS C m sp E ta tNil) := by
  refine ⟨fun pins s σ H Q I h => ?_⟩
  refine PySem.W.methodCall_KW (pl := pl) (thn (he.run pins s σ H _ I h) fun u s1 ⟨x, H1, I1, rx, a, dx, fs, ex, ea, l, q⟩ => ?_) ht
  subst ex
  obtain rfl : u = Value.ref a := rx
  refine getmeth_ok I1 ea c hm l ?_
  exact PySem.W.callWith_K0 (first := [.ref a]) I1.kIn hm.kp (run_fnS (us := [.ref a]) (vs := [.ref a]) F hr hb (hx σ) I1 (.cons rfl .nil) q)
end
theorem ev_meth {B : Pv} {m : Str} {ps : List Str} {dd : DSp} {j : Nat} {pl : Sem Bool} (G : Mt Y.X.prog Y.X.w Y.X.K Y.X.mg Y.X.base Y.T j C m ps dd) (c : Cls Y.X.K C) (ok : YOk Y) (hj : j ≤ Y.k) (ho : EvP Y s o B) (hB : IA Y s B C fs) (hf : fs.lookup m = none)
    (h : Evs Y s (e :: es) fun As s1 => As.length + 1 = ps.length ∧ ∃ gs1 gs2, s1.gs.Perm (gs1 ++ gs2) ∧ dd (B :: As) gs1 (fun A gs' => Q A ⟨s1.ρ, gs' ++ gs2⟩) (fun e gs' => Y.ex e ⟨s1.ρ, gs' ++ gs2⟩))
    (hst : starEach (e :: es) Y.X.env = (false, eval e Y.X.env) :: starEach es Y.X.env := by rfl) (hpl : (backTo pos (starEach es Y.X.env)).any (·.1) = false := by rfl)
    (ht : eval (.Call (.Attribute o m apos) (e :: es) [] pos) Y.X.env = (do
      let ov ← eval o Y.X.env
      standAt apos.atName
      let (f, first) ← holding [ov] (getMethod ov m pl)
      callWith pos f first (backTo pos (starEach (e :: es) Y.X.env)) (backToKw pos (keywordEach [] Y.X.env))) := by rfl) : Ev Y s (.Call (.Attribute o m apos) (e :: es) [] pos) Q := fun F0 σ H F e0 S => by
  obtain ⟨⟨f, fd, F1, hm, hb⟩, mono⟩ := G
  refine .of (pe_methS (E := L2.WE (wxOf Y)) pe_we c hm F1 (ok.room.mono hj) hb (fun σ => passAt ok.tk σ) pa_wa hst hpl ht) ?_
  refine (ho F σ H F (.refl _) S).mono fun v H1 ⟨F1, e1, r1, S1⟩ => ?_
  obtain ⟨a, dx, vs, ev, ha, rf⟩ := hB σ H1 F1 v S1 r1
  refine ⟨a, dx, vs, ev, ha, fr_no rf hf, ?_⟩
  refine (h F1 σ H1 F1 (.refl _) S1).mono fun us H2 ⟨As, s2, F2, e2, r2, S2, hl, gs1, gs2, hp, q⟩ => ?_
  exact sp_call ((e0.trans e1).trans e2) S2 (.cons (B.mono r1 e2) r2) (by rw [List.length_cons]; exact hl) hp q (mono (B :: As) gs1)
theorem ev_meth0 {B : Pv} {m : Str} {ps : List Str} {dd : DSp} {j : Nat} {pl : Sem Bool} (G : Mt Y.X.prog Y.X.w Y.X.K Y.X.mg Y.X.base Y.T j C m ps dd) (c : Cls Y.X.K C) (ok : YOk Y) (hj : j ≤ Y.k) (ho : EvP Y s o B) (hB : IA Y s B C fs) (hf : fs.lookup m = none)
    (h : 1 = ps.length ∧ ∃ gs1 gs2, s.gs.Perm (gs1 ++ gs2) ∧ dd [B] gs1 (fun A gs' => Q A ⟨s.ρ, gs' ++ gs2⟩) (fun e gs' => Y.ex e ⟨s.ρ, gs' ++ gs2⟩))
    (ht : eval (.Call (.Attribute o m apos) [] [] pos) Y.X.env = (do
      let ov ← eval o Y.X.env
      standAt apos.atName
      let (f, first) ← holding [ov] (getMethod ov m pl)
      callWith pos f first (backTo pos (starEach [] Y.X.env)) (backToKw pos (keywordEach [] Y.X.env))) := by rfl) : Ev Y s (.Call (.Attribute o m apos) [] [] pos) Q := fun F0 σ H F e0 S => by
  obtain ⟨⟨f, fd, F1, hm, hb⟩, mono⟩ := G
  obtain ⟨hl, gs1, gs2, hp, q⟩ := h
  refine .of (pe_methS0 (E := L2.WE (wxOf Y)) pe_we c hm F1 (ok.room.mono hj) hb (fun σ => passAt ok.tk σ) ht) ?_
  refine (ho F σ H F (.refl _) S).mono fun v H1 ⟨F1, e1, r1, S1⟩ => ?_
  obtain ⟨a, dx, vs, ev, ha, rf⟩ := hB σ H1 F1 v S1 r1
  exact ⟨a, dx, vs, ev, ha, fr_no rf hf, sp_call (e0.trans e1) S1 (.cons r1 .nil) hl hp q (mono [B] gs1)⟩
/-! ### making -/
structure Mkr (P : Program) (w : World) (K : Frag) (mg : Str → Option Value) (base : Heap) (T : Tb) (k : Nat) (x : Str) (C : Addr) (ps : List Str) (d : DSp) : Prop where
  ex : ∃ (f : Addr) (fd : FuncData), FnOk P w K mg base (L2.CX P w) k f fd ps (toSp K T ps.length d) ∧ Mk K C f ∧ Binds K fd ps []
  g : mg x = some (.ref C)
  mono : DMono d
theorem run_makeS {X : Cx} {CX : CXT} {k : Nat} {ff : Addr} {fd : FuncData} {ps : List Str} {sp : Sp} {E : XK} {pins : List (Addr × Obj)} {σ : St} {H : Hp} {s : Shared} {Q : VK} {us : List Value} {vs : List V} (M : Mk X.K C ff) (F : FnOk X.prog X.w X.K X.mg X.base CX k ff fd ps sp) (hr : Room (k + 1) X.A) (hb : Binds X.K fd ps [])
    (hx : PassesAt CX X σ E) (I : Inv X pins σ H s) (r : Vals vs us)
    (h : ∀ x dx, H x = none → H dx = none → dx ≠ x → sp (.ref x :: vs) (upd (upd H dx (.own x)) x (.ins C dx [])) (fun v H2 => v = .non ∧ Q (.ref x) H2) E) :
    wpAny (model X.prog X.w) X.A (call (.ref C) us) (EP X pins σ Q) X.xe s := by
  have hq := h (s.heap.objs.size + 1) s.heap.objs.size (I.hok.fresh (Nat.le_succ _)) (I.hok.fresh (Nat.le_refl _)) (Nat.ne_of_lt (Nat.lt_succ_self _))
  have I2 := Inv.made (C := C) I
  have r2 : Vals (V.ref (s.heap.objs.size + 1) :: vs) (Value.ref (s.heap.objs.size + 1) :: us) := .cons rfl r
  have hl : (Value.ref (s.heap.objs.size + 1) :: us).length = ps.length := by
    have e := r2.length
    rw [F.len _ _ _ _ hq] at e
    exact e.symm
  have b := hb _ (Value.ref (s.heap.objs.size + 1) :: us) I2.kIn (by rw [List.append_nil]; exact hl)
  rw [List.append_nil] at b
  refine wpAny_call (make_map (f := ff) I.kIn M.makes M.init (beq_iff_eq.mp M.fn) (codeAny_mono (F.run _ X.stack _ _ ⟨Value.ref (s.heap.objs.size + 1) :: us, []⟩ (Value.ref (s.heap.objs.size + 1) :: us) _ _ E (hr.make C us [])
    (I2.env0.make C us []) b r2 hq) fun r s' hq' => ?_))
  cases r with
  | error e => exact hx pins _ _ e s' I2 hq'
  | ok fl =>
    cases fl with
    | ret u =>
      obtain ⟨v, H', I3, rv, ev, q3⟩ := I2.after hq'
      subst ev
      exact ⟨rv, ⟨V.ref (s.heap.objs.size + 1), H', I3, rfl, q3⟩⟩
    | next => exact False.elim hq'
    | brk => exact False.elim hq'
    | cont => exact False.elim hq'
def tMakeS (C : Addr) (sp : Sp) (E : St → XK) (t : TA) : TE := fun σ H Q => t σ H fun vs H1 => ∀ x dx, H1 x = none → H1 dx = none → dx ≠ x → sp (.ref x :: vs) (upd (upd H1 dx (.own x)) x (.ins C dx [])) (fun v H2 => v = .non ∧ Q (.ref x) H2) (E σ)
theorem pe_makeS {X : Cx} {CX : CXT} {k : Nat} {ff : Addr} {fd : FuncData} {ps : List Str} {sp : Sp} {E : St → XK} {x : Str} {t : TA} (M : Mk X.K C ff) (F : FnOk X.prog X.w X.K X.mg X.base CX k ff fd ps sp) (hr : Room (k + 1) X.A) (hg : Gl X x) (hm : X.mg x = some (.ref C)) (hb : Binds X.K fd ps []) (hx : ∀ σ, PassesAt CX X σ (E σ))
    (ha : PA X (e :: es) t) (hdb : (x == ("__debug__" : Str)) = false) (he : starEach (e :: es) X.env = (false, eval e X.env) :: starEach es X.env) (hpl : (backTo pos (starEach es X.env)).any (·.1) = false) :
    PE X (.Call (.Name x p) (e :: es) [] pos) (tMakeS C sp E t) := by
  refine ⟨fun pins s σ H Q I h => ?_⟩
  refine wpAny_Call_Name_kw (ld_glob I hg hm ?_ hdb)
  refine PySem.W.callWith_K (h₀ := X.base) I.ok.mod.kin M.kp (thn (ha.run pos pins s σ H _ I h) fun us s1 ⟨vs, H1, I1, r, q⟩ => ⟨I1.kIn, ?_⟩) he hpl
  exact run_makeS M F hr hb (hx σ) I1 r q
theorem ev_make {x : Str} {ps : List Str} {dd : DSp} {j : Nat} (G : Mkr Y.X.prog Y.X.w Y.X.K Y.X.mg Y.X.base Y.T j x C ps dd) (ok : YOk Y) (hj : j + 1 ≤ Y.k) (hg : Gl Y.X x)
    (h : Evs Y s (e :: es) fun As s1 => As.length + 1 = ps.length ∧ ∀ q, ∃ gs1 gs2, s1.gs.Perm (gs1 ++ gs2) ∧ dd (raw (.ref q) :: As) ((q, insc C []) :: gs1)
      (fun A gs' => A = pu () ∧ ∃ fs gs3, gs' = (q, insc C fs) :: gs3 ∧ Q (insP C fs) ⟨s1.ρ, gs3 ++ gs2⟩) (fun e gs' => ∀ n, Y.ex e ⟨s1.ρ, (gs' ++ gs2).drop n⟩))
    (hdb : (x == ("__debug__" : Str)) = false := by decide) (he : starEach (e :: es) Y.X.env = (false, eval e Y.X.env) :: starEach es Y.X.env := by rfl) (hpl : (backTo pos (starEach es Y.X.env)).any (·.1) = false := by rfl) : Ev Y s (.Call (.Name x p) (e :: es) [] pos) Q := fun F0 σ H F e0 S => by
  obtain ⟨⟨f, fd, F1, M, hb⟩, hm, mono⟩ := G
  refine .of (pe_makeS (E := L2.WE (wxOf Y)) M F1 (ok.room.mono hj) hg hm hb (fun σ => passAt ok.tk σ) pa_wa hdb he hpl) ?_
  refine (h F0 σ H F e0 S).mono fun us H1 ⟨As, s1, F1, e1, r1, S1, hl, k⟩ => ?_
  intro q dx hq hdx hne
  obtain ⟨gs1, gs2, hp, hd⟩ := k q
  have S2 := S1.newF (o := .own q) hdx rfl
  have hq2 : (upd H1 dx (.own q)) q = none := by rw [upd_ne (Ne.symm hne)]; exact hq
  have S3 := S2.newO (o := .ins C dx []) (c := insc C []) hq2 rfl ⟨dx, [], rfl, .nil⟩
  have hp3 : ((q, insc C []) :: s1.gs).Perm (((q, insc C []) :: gs1) ++ gs2) := hp.cons _
  have e2 : Ext F1 (upd F1 dx (.own q)) := Ext.grow (S1.free hdx)
  have sp := sp_call (Q := fun A s' => A = pu () ∧ ∃ fs gs3, s'.gs = (q, insc C fs) :: gs3 ∧ s'.ρ = s1.ρ ∧ Q (insP C fs) ⟨s1.ρ, gs3⟩) (As := raw (.ref q) :: As) (n := ps.length) (d := dd) (F0 := F0) (e1.trans e2) S3 (.cons rfl (r1.mono e2)) (by rw [List.length_cons]; exact hl) hp3
    (mono _ _ _ _ _ _ (fun A g ⟨ea, fs, gs3, eg, q2⟩ => ⟨ea, fs, gs3 ++ gs2, by rw [eg]; rfl, rfl, q2⟩) (fun e g q2 => by have := q2 0; simpa using this) hd) (mono _ _)
  obtain ⟨hlen, As', gs', F', rr, G', d'⟩ := sp
  refine ⟨hlen, As', gs', F', rr, G', mono _ _ _ _ _ _ (fun A g q3 v H' F'' ra G2 st => ?_) (fun e g q3 => q3) d'⟩
  obtain ⟨B, s4, F4, e4, r4, S4, eb, fs, gs3, eg, eρ, q4⟩ := q3 v H' F'' ra G2 st
  have hc : s4.gs[0]? = some (q, insc C fs) := by rw [eg]; rfl
  obtain ⟨hF, oo, hoo, _, dx2, vs, eo, rv⟩ := S4.cell hc
  subst eo
  have S5 := S4.freeze hc hoo
  have eg5 : s4.gs.eraseIdx 0 = gs3 := by rw [eg]; rfl
  rw [eg5, eρ] at S5
  subst eb
  exact ⟨r4, insP C fs, _, _, e4.trans (Ext.grow hF), ⟨q, dx2, vs, rfl, upd_same, rv.mono (Ext.grow hF)⟩, S5, q4⟩
end
end Sp
set_option maxHeartbeats 4000000
/-! Sp: a lambda told by a def that tries it; what its errors are told as. -/
namespace Sp
open PySem L2
open PySem.W (Datum DatumOrd SomeDatum)
/-- the clauses: class, text -/
abbrev Cls_ := List (Addr × Txt)
/-- what an error of class C is told as -/
def Tell (K : Frag) : Cls_ → Addr → Txt → Prop
  | [], _, _ => False
  | (c, x) :: r, C, t => ∃ b, PySem.W.exmOne K (.ref C) (.ref c) = some b ∧ (b = true → t = x) ∧ (b = false → Tell K r C t)
/-- .. by heaps -/
def Chn (K : Frag) : Cls_ → Value → Hp → VK → Prop
  | [], _, _, _ => False
  | (c, x) :: r, cls, H, Q => ∃ b, PySem.W.exmOne K cls (.ref c) = some b ∧ (b = true → Q (.str (toStr x)) H) ∧ (b = false → Chn K r cls H Q)
theorem tell_chn {K : Frag} {H : Hp} {Q : VK} {C : Addr} {t : Txt} : ∀ {l : Cls_}, Tell K l C t → Q (.str (toStr t)) H → Chn K l (.ref C) H Q
  | [], h, _ => h.elim
  | (c, x) :: r, ⟨b, h1, h2, h3⟩, q => ⟨b, h1, fun e => by rw [← h2 e]; exact q, fun e => tell_chn (h3 e) q⟩
/-- what the telling def makes of the lambda's reading -/
def TTm (K : Frag) (l : Cls_) : (XK → Hp → VK → Prop) → Hp → VK → Prop := fun tl H Q => tl (fun cls _ H' => Chn K l cls H' Q) H Q
/-- the except clauses of the telling def's text -/
inductive HdT (K : Frag) (mg : Str → Option Value) (sg : Scope) : List ExceptHandler → Cls_ → Prop
  | nil : HdT K mg sg [] []
  | cons {e m : Str} {c : Addr} {x : Txt} {j : Nat} {p4 p5 p6 p7 : Pos} {hds : List ExceptHandler} {l : Cls_} : sg.names.lookup e = some .globalImplicit → mg e = some (.ref c) → (e == ("__debug__" : Str)) = false → toStr x = m → HdT K mg sg hds l →
      HdT K mg sg (.ExceptHandler (some (.Name e p4)) none [.Return (some (.Constant (.str m) j p5)) p6] p7 :: hds) ((c, x) :: l)
section
variable {X : Cx}
/-- a clause's suite -/
def tsR (x : Str) : Addr → Value → Option Addr → TS := fun _ _ _ D σ H => D.rt (.str x) H
theorem hds_ok {Z : Cx} {sg : Scope} {hds : List ExceptHandler} {l : Cls_} (h : HdT Z.K Z.mg sg hds l) (hz : Z.env.scope = sg) : HdsOk Z hds (l.map fun cx => (Value.ref cx.1, tsR (toStr cx.2))) := by
  induction h with
  | nil => exact .nil
  | cons h1 h2 h3 h4 _ ih =>
    subst h4
    refine .cons ⟨?_, h3, .inl h2⟩ (fun a oe cls d pn _ _ => ?_) ih
    · show Z.env.scope.names.lookup _ = _
      rw [hz]
      exact h1
    · exact ⟨fun pins s σ H D I q => (pss_one (ps_ret pe_str)).run pins s σ H D I q⟩
theorem many_chn {K : Frag} {D : Ends} {σ : St} {H : Hp} {cls : Value} {d : Option Addr} : ∀ {l : Cls_}, Chn K l cls H D.rt → wMany K (fun _ _ _ _ => False) D (l.map fun cx => (Value.ref cx.1, tsR (toStr cx.2))) cls d σ H
  | [], h => h
  | (c, x) :: r, ⟨b, h1, h2, h3⟩ => ⟨b, h1, fun e a _ => h2 e, fun e => many_chn (h3 e)⟩
theorem told_many {Ng : List Str} {x a q : Str} {sg : Scope} {g : Addr} {cdg : Value} {p1 p2 p3 p8 : Pos} {h0 : ExceptHandler} {hds : List ExceptHandler} {l : Cls_} (hh : HdT X.K X.mg sg (h0 :: hds) l) (hN : ∀ f : Addr, (L2.start Ng [V.ref f])[0]? = some (some (V.ref f))) :
    LamX.GivesTo X Ng x sg g cdg [.Try [.Return (some (.Call (.Name a p1) [] [] p2)) p3] (h0 :: hds) [] [] p8] a q (TTm X.K l) := by
  intro f c' s H Q tl act hc h
  refine ⟨_, pss_one (ps_try_many (X := (cxOf C8.CX0 X.prog X.w X.K X.mg X.base Ng x sg g cdg X.A X.stack s H C8.E0).nox)
    (tb := fun W D σ H => ∃ Ech : XK, (∀ cls d σ' H', Ech cls d H' → W cls d σ' H') ∧ σ[0]? = some (some (.ref f)) ∧ H c' = some (LamX.CodeO c' q) ∧ tl Ech H D.rt)
    rfl rfl LamX.takes0 (fun W pn xe tk _ => ?_) (hds_ok hh rfl)), ?_⟩
  · exact ⟨fun pins s' σ H' D I ⟨Ech, hW, h1, h2, h3⟩ => (pss_one (ps_ret (pos := p3) (act W pn xe Ech p1 p2 tk hW))).run pins s' σ H' D I ⟨h1, h2, h3⟩⟩
  · exact ⟨fun cls _ H' => Chn X.K l cls H' Q, fun cls d σ' H' z => many_chn (D := { nx := fun _ H' => Q .non H', rt := Q }) z, hN f, hc, h⟩
end
/-- the telling def, as law functions know it -/
structure Told (X : Cx) (x : Str) (l : Cls_) : Prop where
  ex : ∃ (a : Str) (g : Addr) (pg : Arguments) (bg : List Stmt) (sg : Scope) (dV kV doc pm cdv ct oc : Value) (an od : Option Addr) (osl : Array (Option Value)) (Ng : List Str),
    X.mg x = some (.ref g) ∧ PySem.W.keepIn X.K (.ref g) = true ∧ X.K.lookup g = some ⟨oc, od, .func (PySem.W.fnOf x x pg bg sg dV kV doc pm an cdv ct), osl⟩ ∧ PySem.W.codeIn X.K cdv x = true ∧
    L2.Binds X.K (PySem.W.fnOf x x pg bg sg dV kV doc pm an cdv ct) [a] [] ∧ FnScope Ng [a] sg ∧ Ng[0]? = some a ∧ Vis sg a ∧ (a == ("__debug__" : Str)) = false ∧ (a == ("__classdict__" : Str)) = false ∧
    ∀ q, LamX.GivesTo X Ng x sg g cdv bg a q (TTm X.K l)
/-- the def's own code object and table -/
structure Tbl (X : Cx) (T : Tb) (q : Str) : Prop where
  ex : ∃ c P, LamX.TabB X.base X.mg c P ∧ X.env.code = .ref c ∧ (P, q) ∈ T ∧ ∀ p ∈ T, p.1 = P → p.2 = q
/-- the lambda's body by data -/
abbrev lamY (Y : DX) (k : Nat) (A : Around) (outer : List Env) (s1 : Shared) (Hc : Hp) (E : XK) (scope : Scope) (f c' : Addr) (H F : Hp) (gs : Gs) (ex : Exc → DSt → Prop) : DX :=
  ⟨LamX.lamCx Y.X A outer s1 Hc E scope f c', Y.T, k, H, F, ads gs, ex⟩
section
variable {Y : DX} {s : DSt} {e : Expr} {pos p lpos : Pos} {Q : Pv → DSt → Prop}
theorem ev_told {x : Str} {l : Cls_} {params : Arguments} {body : Expr} {scope : Scope} {k : Nat} (G : Told Y.X x l) (tb : Tbl Y.X Y.T (Y.X.env.qual ++ "<lambda>")) (ok : YOk Y) (hk : k + 2 ≤ Y.k) (hg : Gl Y.X x) (L : LamX.LamS Y.X.env.scope scope)
    (h : ∀ (A : Around) (outer : List Env) (s1 : Shared) (Hc : Hp) (E : XK) (f c' : Addr) (H F : Hp), let Y' := lamY Y k A outer s1 Hc E scope f c' H F s.gs fun e s' => ∃ t, Tell Y.X.K l e.C t ∧ Q (pu t) ⟨s.ρ, s'.gs⟩
      YOk Y' → Ev Y' s body fun A s' => Q A ⟨s.ρ, s'.gs⟩)
    (hdef : defaultsOf params Y.X.env = ([], []) := by rfl) (hbind : ∀ (q : Str) (cl : List (Str × Addr)) (pm cv ctv : Value), bindArgs (PySem.W.kla_fn "<lambda>" q params body scope cl pm cv ctv) ⟨[], []⟩ = pure [] := by intros; rfl)
    (hdb : (x == ("__debug__" : Str)) = false := by decide) : Ev Y s (.Call (.Name x p) [.Lambda params body scope lpos] [] pos) Q := fun F0 σ H F e0 S => by
  obtain ⟨a, g, pg, bg, sg, dV, kV, doc, pm, cdv, ct, oc, an, od, osl, Ng, g1, g2, g3, g4, g5, g6, g7, g8, g9, g10, g11⟩ := G.ex
  obtain ⟨c, P, b1, b2, b3, b4⟩ := tb.ex
  refine .of (LamX.pe_lamcall (k := k) (t := fun E σ H1 Q1 => ∀ (A : Around) (outer : List Env) (s1 : Shared) (Hc : Hp) (f c' : Addr), Room k (A.deeper (LamX.lamEnv Y.X scope s1.heap.objs.size f c')) → WE (LamX.lamCx Y.X A outer s1 Hc E scope f c') body σ H1 Q1)
    hg g1 g2 g3 g4 g5 g6 g7 g8 (g11 _) b1 b2 b3 b4 (ok.room.mono hk) L hdef hbind (fun A outer s1 Hc E f c' hr => ⟨fun pins s2 σ2 H2 Q2 I q => q A outer s1 Hc f c' hr pins s2 I⟩) hdb g9 g10) ⟨S.tb, fun H1 eN t1 => ?_⟩
  have S1 := S.extN eN t1
  show ∀ (A : Around) (outer : List Env) (s1 : Shared) (Hc : Hp) (f c' : Addr), Room k (A.deeper (LamX.lamEnv Y.X scope s1.heap.objs.size f c')) → WE (LamX.lamCx Y.X A outer s1 Hc _ scope f c') body σ H1 _
  intro A outer s1 Hc f c' hr
  have back : ∀ {s' : DSt} {σ' : St} {H' F' : Hp}, Sta (lamY Y k A outer s1 Hc (fun cls _ H' => Chn Y.X.K l cls H' (Po Y σ F0 Q)) scope f c' H1 F s.gs fun e s' => ∃ t, Tell Y.X.K l e.C t ∧ Q (pu t) ⟨s.ρ, s'.gs⟩) s' σ' H' F' → Sta Y ⟨s.ρ, s'.gs⟩ σ H' F' := fun {s' σ' H' F'} S' => by
    have := S1.called (gs1 := s.gs) (gs2 := []) (gs1' := s'.gs) (by rw [List.append_nil]) S'.stg S'.st
    rwa [List.append_nil] at this
  have tk0 : Takes (LamX.lamCx Y.X A outer s1 Hc (fun cls _ H' => Chn Y.X.K l cls H' (Po Y σ F0 Q)) scope f c') (fun cls d _ H' => Chn Y.X.K l cls H' (Po Y σ F0 Q)) := takes_of rfl rfl rfl rfl
  have ok' : YOk (lamY Y k A outer s1 Hc (fun cls _ H' => Chn Y.X.K l cls H' (Po Y σ F0 Q)) scope f c' H1 F s.gs fun e s' => ∃ t, Tell Y.X.K l e.C t ∧ Q (pu t) ⟨s.ρ, s'.gs⟩) :=
    ⟨rfl, ok.nd, hr, passes_of rfl, tk0.imp fun cls d σ' H' ⟨e, s', F', S', er, t, ht, q⟩ => by
      obtain ⟨ec, _⟩ := er
      subst ec
      refine tell_chn ht ⟨pu t, ⟨s.ρ, s'.gs⟩, F', e0.trans S'.st.ff, rfl, back S', q⟩⟩
  refine (h A outer s1 Hc _ f c' H1 F ok' F σ H1 F (.refl _) ⟨S1.ext, S1.ntb, S1.rep, S1.own, S1.nd, S1.tb, Step.refl⟩).mono fun v H' ⟨A', s', F', e1, r, S', q⟩ => ?_
  exact ⟨A', ⟨s.ρ, s'.gs⟩, F', e0.trans e1, r, back S', q⟩
end
end Sp
set_option maxHeartbeats 4000000
/-! Sp: generator expressions walked by any, all, sum. -/
namespace Sp
open PySem L2
open PySem.W (Datum DatumOrd SomeDatum)
/-- the generator's own names and what it captures -/
structure GenOk (N : List Str) (sc scope : Scope) (vs : List Nat) : Prop where
  kind : scope.kind = .function
  co : scope.isCoroutine = false
  nocell : ∀ y ∈ scope.names, y.2 ≠ .cell
  dot : scope.names.lookup (".0" : Str) = some NameKind.local
  free : ∀ y ∈ scope.names, y.2 = .free → sc.names.lookup y.1 = some .cell ∨ sc.names.lookup y.1 = some .free
  own : ∀ (i : Nat) (y : Str), N[i]? = some y → scope.names.lookup y = some NameKind.local → i ∈ vs
def genOkB (N : List Str) (sc scope : Scope) (vs : List Nat) : Bool :=
  decide (scope.kind = .function) && !scope.isCoroutine && (scope.names.all fun y => !decide (y.2 = .cell) && (!decide (y.2 = .free) || decide (sc.names.lookup y.1 = some .cell) || decide (sc.names.lookup y.1 = some .free))) &&
    decide (scope.names.lookup (".0" : Str) = some NameKind.local) && (List.range N.length).all fun i => decide (i ∈ vs) || !decide (scope.names.lookup (N.getD i "") = some NameKind.local)
theorem genOk_by {N : List Str} {sc scope : Scope} {vs : List Nat} (h : genOkB N sc scope vs = true) : GenOk N sc scope vs := by
  unfold genOkB at h
  simp only [Bool.and_eq_true, Bool.or_eq_true, Bool.not_eq_true', decide_eq_true_eq, decide_eq_false_iff_not, List.all_eq_true] at h
  obtain ⟨⟨⟨⟨h1, h2⟩, h3⟩, h4⟩, h5⟩ := h
  refine ⟨h1, h2, fun y hy => (h3 y hy).1, h4, fun y hy e => ?_, fun i y hi hl => ?_⟩
  · rcases (h3 y hy).2 with (z | z) | z
    · exact absurd e z
    · exact .inl z
    · exact .inr z
  · obtain ⟨hl', e⟩ := List.getElem?_eq_some_iff.mp hi
    rcases h5 i (List.mem_range.mpr hl') with z | z
    · exact z
    · exact absurd (by rw [List.getD_eq_getElem?_getD, hi]; exact hl) z
/-- the generator's frame: made at s, H; its iterator's objects fp -/
def genCx (X : Cx) (A : Around) (env : Env) (s : Shared) (H : Hp) (fp : List Addr) : Cx where
  prog := X.prog
  w := X.w
  K := X.K
  mg := X.mg
  base := X.base
  A := A
  N := X.N
  s_0 := s
  H_0 := H
  env := env
  outer := X.stack
  stack := env :: X.stack
  ex := fp
  fn := fun _ => false
  calm := true
  pn := []
  xe := fun _ _ => False
section
variable {X : Cx} {pins : List (Addr × Obj)} {σ : St} {H : Hp} {s : Shared}
theorem gen_start {A : Around} {scope : Scope} {vs : List Nat} {code : Value} {fp : List Addr} {h' : Heap} {g' : Array GenState} {tk : Nat} {m0 : Str → Option Value} (I : Inv X pins σ H s) (G : GenOk X.N X.env.scope scope vs) (hA : A.frames = some (genEnv scope (cloFrom X.env.cells scope.names []) s.heap.objs.size code builtinsNs X.env :: X.stack)) (hd : A.handled = none)
    (hfp : ∀ b ∈ fp, FpOk X pins H b ∧ b < s.heap.objs.size) (hn : h'.Ns s.heap.objs.size m0) (kp : ∀ b o, s.heap.get? b = some o → h'.get? b = some o) (hg : PyProof.Rows.AllBare g') :
    Inv (genCx X A (genEnv scope (cloFrom X.env.cells scope.names []) s.heap.objs.size code builtinsNs X.env) s H fp) [] (L2.wipe σ vs) H { s with heap := h', gens := g', toks := tk } := by
  have hfree : ∀ y ∈ scope.names, y.2 = .free → ∃ c, X.env.cells.lookup y.1 = some c := fun y hy e => by
    rcases G.free y hy e with k | k
    · exact I.ok.has _ (.inl k)
    · exact I.ok.has _ (.inr k)
  have cm : ∀ {y c}, (cloFrom X.env.cells scope.names []).lookup y = some c → X.env.cells.lookup y = some c := fun {y c} e => by
    rcases cloFrom_mem (PySem.mem_of_lookup e) with hm | ⟨h1, h2⟩
    · cases hm
    · obtain ⟨c1, hc⟩ := hfree _ h1 rfl
      have hc' : X.env.cells.lookup y = some c1 := hc
      rw [hc', show c = c1 by rw [h2, hc] <;> rfl]
  have look : ∀ {y}, scope.names.lookup y = some .free → ∃ c, (cloFrom X.env.cells scope.names []).lookup y = some c := fun {y} hl =>
    mem_lookup (cloFrom_has (cells := X.env.cells) (acc := []) (PySem.mem_of_lookup hl))
  have isc : ∀ {c : Addr} {v : Option Value}, s.heap.IsCell c v → h'.IsCell c v := fun {c v} ⟨o, ho, hd⟩ => ⟨o, kp _ _ ho, hd⟩
  refine ⟨⟨I.ok.mod, G.kind, I.ok.glob, rfl, Nat.le_refl _, fun y z c e1 e2 => I.ok.inj y z c (cm e1) (cm e2), fun y hy => ?_, fun y c z _ => ?_, fun _ => hd, hA, .inr ⟨rfl, rfl⟩, fun b hb => ⟨?_, fun y c e z => ?_⟩, I.bs, Nat.le_trans I.ok.bsz I.sz, fun b o e hb => ?_, fun b hb z => ?_, I.stack, I.stkFree⟩,
    rfl, hg, Un.kept kp, ⟨m0, hn, fun i y v e1 e2 e3 => ?_⟩, fun y c e => ?_, I.hok.fresh (Nat.le_refl _), fun y c e => I.freeC y c (cm e), fun q hq => absurd (show q ∈ ([] : List (Addr × Obj)) ++ [] from hq) (by simp), I.hok.kept kp, by rw [wipe_length]; exact I.len⟩
  · have hy : scope.names.lookup y = some .cell ∨ scope.names.lookup y = some .free := hy
    rcases hy with hy | hy
    · exact absurd rfl (G.nocell _ (PySem.mem_of_lookup hy))
    · exact look hy
  · have z : false = true := z
    cases z
  · exact Nat.ne_of_lt (hfp b hb).2
  · exact (hfp b hb).1.2.2.2.2.1 y c (cm e) z
  · obtain ⟨_, _, _, q, _⟩ := (hfp b hb).1
    rcases q with q | q
    · exact I.ok.noex b o e q
    · exact absurd (Nat.lt_of_lt_of_le (Heap.lt_size e) (Nat.le_trans I.ok.bsz q)) (Nat.lt_irrefl _)
  · rcases List.mem_cons.mp (I.stkSub b z) with q | q
    · exact (hfp b hb).1.2.1 q
    · exact (hfp b hb).1.2.2.1 q
  · have e3 : Vis scope y := e3
    obtain ⟨w1, w2⟩ := wipe_some e2
    rcases e3 with k | k | k
    · exact absurd (G.own i y e1 k) w2
    · exact absurd rfl (G.nocell _ (PySem.mem_of_lookup k))
    · obtain ⟨m, hn', hl⟩ := I.loc
      have hvis : Vis X.env.scope y := (G.free _ (PySem.mem_of_lookup k) rfl).elim (fun k => .inr (.inl k)) (fun k => .inr (.inr k))
      obtain ⟨w', r, q⟩ := hl i y v e1 w1 hvis
      obtain ⟨c2, h2⟩ := look k
      refine ⟨w', r, .inr ⟨.inr k, c2, h2, ?_⟩⟩
      rcases q with ⟨k', _⟩ | ⟨_, c3, e', z⟩
      · have k' : X.env.scope.names.lookup y = some .local := k'
        rcases G.free _ (PySem.mem_of_lookup k) rfl with k2 | k2 <;> rw [show X.env.scope.names.lookup y = _ from k2] at k' <;> cases k'
      · rw [cm h2] at e'
        cases e'
        exact isc z
  · obtain ⟨w', z⟩ := I.cell y c (cm e)
    exact ⟨w', isc z⟩
end
/-! ### the turns -/
structure GCx where
  A : Around
  C : Addr
  code : Value
  s : Shared
  H : Hp
  fp : List Addr
abbrev genE (Y : DX) (scope : Scope) (z : GCx) : Env := genEnv scope (cloFrom Y.X.env.cells scope.names []) z.C z.code builtinsNs Y.X.env
abbrev genX (Y : DX) (scope : Scope) (z : GCx) : Cx := genCx Y.X z.A (genE Y scope z) z.s z.H z.fp
abbrev genY (Y : DX) (k : Nat) (scope : Scope) (z : GCx) : DX := ⟨genX Y scope z, Y.T, k, Y.H0, Y.F0, Y.S0, fun _ _ => False⟩
section
variable {Y : DX} {k : Nat} {scope : Scope} {z : GCx} {s : DSt} {σ : St} {H F : Hp}
theorem Sta.gen (S : Sta Y s σ H F) : Sta (genY Y k scope z) s σ H F := ⟨S.ext, S.ntb, S.rep, S.own, S.nd, S.tb, S.st⟩
theorem Sta.ungen (S : Sta (genY Y k scope z) s σ H F) : Sta Y s σ H F := ⟨S.ext, S.ntb, S.rep, S.own, S.nd, S.tb, S.st⟩
theorem YOk.gen (ok : YOk Y) (hr : Room k z.A) : YOk (genY Y k scope z) :=
  ⟨rfl, ok.nd, hr, PassesOwn.never, fun _ _ ⟨_, _, _, _, _, _, _, _, _, _, _, _, _, _, _, _, _, _, _, _, _, q⟩ => q.elim⟩
/-- a value's shape from its data -/
class FlatE (α : Type) [Enc α] [FlatV α] : Prop where
  of : ∀ {K : Frag} {F : Hp} {v : V} {a : α}, Enc.rep K F v a → v = FlatV.z a
instance : FlatE Int := ⟨fun h => h⟩
instance : FlatE Bool := ⟨fun h => h⟩
/-- quiet turns of a generator -/
structure GTurns {β γ : Type} [Enc β] [Enc γ] (Y : DX) (k : Nat) (s : DSt) (scope : Scope) (vs : List Nat) (tg elt : Expr) (ifs : List Expr) (g : TG) (ws : List Nat) (f : β → Rho → Rho) (items : List β) (c : β → Bool) (h : β → γ) : Prop where
  tg : ∀ z, TgOk (genY Y k scope z) tg g ws f
  sub : ∀ j ∈ ws, j ∈ vs
  test : ∀ z, YOk (genY Y k scope z) → ∀ x ∈ items, Ets (genY Y k scope z) ⟨f x (wipeR s.ρ vs), s.gs⟩ ifs fun b s2 => b = c x ∧ s2 = ⟨f x (wipeR s.ρ vs), s.gs⟩
  elt : ∀ z, YOk (genY Y k scope z) → ∀ x ∈ items, c x = true → EvP (genY Y k scope z) ⟨f x (wipeR s.ρ vs), s.gs⟩ elt (pu (h x))
/-- the maker's data, seen from the generator's frame -/
def GE (Y : DX) (scope : Scope) (z : GCx) (vs : List Nat) (s : DSt) (σ : St) (F : Hp) (S : List Addr) (s1 : Shared) : Prop :=
  ∃ H' F', Inv (genX Y scope z) [] (L2.wipe σ vs) H' s1 ∧ (∀ b ∈ S, H' b = none) ∧ Ext F F' ∧ Sta Y s σ H' F'
/-- ahead of turn i; S: objects that the walker may change -/
def GT (Y : DX) (scope : Scope) (z : GCx) (vs : List Nat) (s : DSt) (σ : St) (F : Hp) (tn : Nat → Heap → Prop) (S : List Addr) (i : Nat) (s1 : Shared) : Prop :=
  ∃ H' F', Inv (genX Y scope z) [] (L2.wipe σ vs) H' s1 ∧ tn i s1.heap ∧ (∀ b ∈ z.fp, H' b = none) ∧ (∀ b ∈ S, H' b = none) ∧ (∀ b ∈ S, ∃ o, s1.heap.get? b = some o ∧ ∀ v, o.data ≠ .cell v) ∧ Ext F F' ∧ Sta Y s σ H' F'
/-- what may happen while the generator sleeps -/
def Aw (S : List Addr) (s s' : Shared) : Prop :=
  s'.os = s.os ∧ PyProof.Rows.AllBare s'.gens ∧ (∀ b o, b ∉ S → s.heap.get? b = some o → s'.heap.get? b = some o) ∧ ∀ b ∈ S, ∃ o, s'.heap.get? b = some o ∧ ∀ v, o.data ≠ .cell v
/-- b is apart from the generator -/
structure Ap (Y : DX) (scope : Scope) (z : GCx) (S : Addr) : Prop where
  big : z.s.heap.objs.size ≤ S
  loc : S ≠ z.C
  cell : ∀ x c, (cloFrom Y.X.env.cells scope.names []).lookup x = some c → c ≠ S
  fp : S ∉ z.fp
  fs : S ∉ frs Y.X.stack
theorem Ap.fpOk {S : Addr} {H' : Hp} (a : Ap Y scope z S) (h : H' S = none) : FpOk (genX Y scope z) [] H' S :=
  ⟨h, a.loc, a.fs, .inr a.big, a.cell, fun p hp => absurd (show p ∈ ([] : List (Addr × Obj)) ++ [] from hp) (by simp)⟩
theorem GE.aw {vs : List Nat} {S : List Addr} {s1 s2 : Shared} {H' : Hp} (a : ∀ b ∈ S, Ap Y scope z b) (hS : ∀ b ∈ S, H' b = none) (I : Inv (genX Y scope z) [] (L2.wipe σ vs) H' s1) (w : Aw S s1 s2) : Inv (genX Y scope z) [] (L2.wipe σ vs) H' s2 := by
  obtain ⟨w1, w2, w3, w4⟩ := w
  obtain ⟨hh, g, d, t, o⟩ := s2
  have ho : o = s1.os := w1
  subst ho
  have nS : ∀ b u, H' b = some u → b ∉ S := fun b u e q => by rw [hS b q] at e; cases e
  refine I.step (g' := g) (t' := t) (d' := d) (ch := S) (fun b hb => ?_) (fun b ob _ _ hc q _ => w3 b ob hc q) (fun b ob _ _ hc q _ => ⟨ob.slots, w3 b ob hc q⟩) (fun _ _ _ _ n => n) (fun b ob hc q => ⟨ob, w3 b ob hc q⟩)
    (fun _ _ q => q) (fun _ _ _ q => q) (fun b ps q => ⟨#[], by rw [q]; simp⟩) (fun m hm => ?_) (fun b u q => ?_) w2
  · have ab := a b hb
    exact ⟨.inr ab.big, ab.loc, ab.cell, fun p hp => absurd (show p ∈ ([] : List (Addr × Obj)) ++ [] from hp) (by simp)⟩
  · obtain ⟨ob, es, ep, hob, r⟩ := hm
    exact ⟨ob, es, ep, w3 _ ob (fun q => (a _ q).loc rfl) hob, r⟩
  · refine (I.hok b u q).stay (fun c v hc y => w3 c v ?_ y) (fun _ y => y) fun _ _ y => y
    rcases hc with y | y
    · rw [y]; exact nS b u q
    · exact nS c _ y
theorem GT.aw {vs : List Nat} {tn : Nat → Heap → Prop} {S : List Addr} {i : Nat} {s1 s2 : Shared} {tg : Expr} {J : It} {it : Addr} (T : Turn Y.X.prog Y.X.w Y.X.K tg J z.fp it tn) (a : ∀ b ∈ S, Ap Y scope z b) (h : GT Y scope z vs s σ F tn S i s1) (w : Aw S s1 s2) : GT Y scope z vs s σ F tn S i s2 := by
  obtain ⟨H', F', I, t1, n1, hS, _, e1, S1⟩ := h
  exact ⟨H', F', GE.aw a hS I w, T.keep i _ _ t1 fun b hb o e => w.2.2.1 b o (fun q => (a b q).fp hb) e, n1, hS, w.2.2.2, e1, S1⟩
theorem GT.ge {vs : List Nat} {tn : Nat → Heap → Prop} {S : List Addr} {i : Nat} {s1 : Shared} (h : GT Y scope z vs s σ F tn S i s1) : GE Y scope z vs s σ F S s1 := by
  obtain ⟨H', F', I, _, _, hS, _, e1, S1⟩ := h
  exact ⟨H', F', I, hS, e1, S1⟩
end
/-- the protocol of the sleeps: ys what is handed out, n how many are left -/
def GP {γ : Type} [Enc γ] [FlatV γ] (Y : DX) (scope : Scope) (z : GCx) (vs : List Nat) (s : DSt) (σ : St) (F : Hp) (S : List Addr) (ys : List γ) : Protocol := fun n s0 v s1 kap =>
  ∃ y, ys[ys.length - 1 - n]? = some y ∧ RelV (FlatV.z y) v ∧ GE Y scope z vs s σ F S s1 ∧ (∀ b ∈ S, ∀ o, s0.heap.get? b = some o → s1.heap.get? b = some o) ∧ ∀ s2, Aw S s1 s2 → kap (.send .none) s2
section
variable {Y : DX} {k : Nat} {scope : Scope} {z : GCx} {s : DSt} {σ : St} {H F : Hp} {β γ : Type} [Enc β] [Enc γ] [FlatV γ] [FlatE γ]
theorem drop_at {α : Type} {l : List α} {i : Nat} {x : α} (h : l[i]? = some x) : l.drop i = x :: l.drop (i + 1) := by
  obtain ⟨hl, e⟩ := List.getElem?_eq_some_iff.mp h
  rw [List.drop_eq_getElem_cons hl, e]
theorem rest_at {items : List β} {c : β → Bool} {h : β → γ} {i : Nat} {x : β} (hx : items[i]? = some x) (hc : c x = true) :
    ((items.filter c).map h)[((items.filter c).map h).length - 1 - ((items.drop (i + 1)).filter c).length]? = some (h x) := by
  have e : items.filter c = (items.take i).filter c ++ x :: (items.drop (i + 1)).filter c := by
    rw [← List.filter_cons_of_pos hc, ← drop_at hx, ← List.filter_append, List.take_append_drop]
  rw [e, List.map_append, List.length_append, List.map_cons, List.length_cons, List.length_map, List.length_map]
  have : ((items.take i).filter c).length + (((items.drop (i + 1)).filter c).length + 1) - 1 - ((items.drop (i + 1)).filter c).length = ((items.take i).filter c).length := by omega
  rw [this, List.getElem?_append_right (by rw [List.length_map]; exact Nat.le_refl _), List.length_map, Nat.sub_self]
  rfl
theorem seg_gen {A : Around} {vs ws : List Nat} {tg elt iter : Expr} {ifs : List Expr} {g : TG} {f : β → Rho → Rho} {items : List β} {c : β → Bool} {h : β → γ} {tn : Nat → Heap → Prop} {S : List Addr} {it : Addr} {J : It} {gpos : Pos} {F0 : Hp} (L : GTurns Y k s scope vs tg elt ifs g ws f items c h) (ok : YOk (genY Y k scope z)) (hco : scope.isCoroutine = false)
    (T : Turn Y.X.prog Y.X.w Y.X.K tg J z.fp it tn) (a : ∀ b ∈ S, Ap Y scope z b) (K1 : ItOk Y.X.K J F items) (hA : A.over (.compLoop (.GeneratorExp elt [⟨tg, iter, ifs, 0⟩] scope gpos) 0 (.ref it) .none (genE Y scope z)) [] = z.A) :
    ∀ (m i : Nat) (s₀ s1 : Shared), items.length - i = m → i ≤ items.length → GT Y scope z vs s σ F tn S i s1 → (∀ b ∈ S, ∀ o, s₀.heap.get? b = some o → s1.heap.get? b = some o) →
      Seg (model Y.X.prog Y.X.w) A (fun n s0 r s2 => r = .ok .next ∧ (n = 0 ∧ GE Y scope z vs s σ F S s2 ∧ ∀ b ∈ S, ∀ o, s0.heap.get? b = some o → s2.heap.get? b = some o)) (GP Y scope z vs s σ F S ((items.filter c).map h)) (((items.drop i).filter c).length) s₀
        (.compLoop (.GeneratorExp elt [⟨tg, iter, ifs, 0⟩] scope gpos) 0 (.ref it) .none (genE Y scope z))
        ((model Y.X.prog Y.X.w).den (.compLoop (.GeneratorExp elt [⟨tg, iter, ifs, 0⟩] scope gpos) 0 (.ref it) .none (genE Y scope z))) [] s1 := by
  intro m
  induction m with
  | zero =>
    intro i s₀ s1 hk hi gt hsk
    have hin : i = items.length := by omega
    subst hin
    obtain ⟨H', F', I, t1, n1, hS, oS, e1, S1⟩ := gt
    show Seg _ A _ _ _ s₀ _ ((compTurn (.GeneratorExp elt [⟨tg, iter, ifs, 0⟩] scope gpos) 0 (.ref it) .none (genE Y scope z)).onRaise (leaving (genE Y scope z))) [] s1
    rw [compTurn_gen, Sem.onRaise_eq_wrap]
    refine seg_bind_wrap (wpAny_standAt ?_)
    refine seg_bind_wrap ?_
    rw [hA]
    have fk : ∀ b ∈ z.fp, FpOk (genX Y scope z) [] H' b := fun b hb => ⟨n1 b hb, (I.ok.exf b hb).1, I.ok.exfs b hb, .inl hb, fun x c e => (I.ok.exf b hb).2 x c e, fun p hp => absurd (show p ∈ ([] : List (Addr × Obj)) ++ [] from hp) (by simp)⟩
    have I0 := I.pinned (fp := S) (fun b hb => (a b hb).fpOk (hS b hb)) oS
    have fk0 : ∀ b ∈ z.fp, FpOk (genX Y scope z) ([] ++ pinsAt S s1.heap) H' b := fun b hb => ⟨n1 b hb, (fk b hb).2.1, (fk b hb).2.2.1, (fk b hb).2.2.2.1, (fk b hb).2.2.2.2.1, fun p hp e => (a b (e ▸ (of_pinsAt (fp := S) (h := s1.heap) (p := p) (by simpa using (show p ∈ ([] : List (Addr × Obj)) ++ ([] ++ pinsAt S s1.heap) from hp))).1)).fp hb⟩
    refine wpAny_mono (T.done (genX Y scope z) rfl rfl rfl rfl _ _ s1 _ H' (fun _ _ => False) I0 fk0 t1 ((K1 _ H' F' e1 S1.ext).2 (Nat.le_refl _))) (fun r s2 ⟨hr, I2⟩ => ?_) fun _ _ e => e.elim
    subst hr
    rw [List.drop_length]
    exact seg_end (.ok .next) ⟨rfl, rfl, ⟨H', F', I2.unpinned (pins := []), hS, e1, S1⟩, fun b hb o e => (I2.pin (b, o) (List.mem_append_right _ (List.mem_append_right _ (mem_pinsAt hb (hsk b hb o e))))).1⟩
  | succ m ih =>
    intro i s₀ s1 hk hi gt hsk
    have hlt : i < items.length := by omega
    obtain ⟨x, hx⟩ : ∃ x, items[i]? = some x := ⟨_, List.getElem?_eq_getElem hlt⟩
    have hmem := List.mem_of_getElem? hx
    obtain ⟨H', F', I, t1, n1, hS, oS, e1, S1⟩ := gt
    show Seg _ A _ _ _ s₀ _ ((compTurn (.GeneratorExp elt [⟨tg, iter, ifs, 0⟩] scope gpos) 0 (.ref it) .none (genE Y scope z)).onRaise (leaving (genE Y scope z))) [] s1
    rw [compTurn_gen, Sem.onRaise_eq_wrap]
    refine seg_bind_wrap (wpAny_standAt ?_)
    refine seg_bind_wrap ?_
    rw [hA]
    have I0 := I.pinned (fp := S) (fun b hb => (a b hb).fpOk (hS b hb)) oS
    have stat : ∀ {pn : List (Addr × Obj)} {σ' : St} {H2 : Hp} {s2 : Shared}, Inv (genX Y scope z) pn σ' H2 s2 → (∀ q ∈ pn, q.1 ∈ S) → (∀ b ∈ z.fp, H2 b = none) → ∀ b ∈ z.fp, FpOk (genX Y scope z) pn H2 b := fun {pn σ' H2 s2} I' hp hn b hb =>
      ⟨hn b hb, (I'.ok.exf b hb).1, I'.ok.exfs b hb, .inl hb, fun x c e => (I'.ok.exf b hb).2 x c e, fun q hq e => (a b (e ▸ hp q hq)).fp hb⟩
    have pS : ∀ q ∈ ([] : List (Addr × Obj)) ++ pinsAt S s1.heap, q.1 ∈ S := fun q hq => (of_pinsAt (by simpa using hq)).1
    refine wpAny_mono (T.item (genX Y scope z) rfl rfl rfl rfl i _ s1 _ H' (fun _ _ => False) I0 (stat I0 pS n1) t1 ((K1 i H' F' e1 S1.ext).1 x hx).1) (fun r s2 ⟨u, hr, h2⟩ => ?_) fun _ _ e => e.elim
    subst hr
    refine seg_bind_wrap ?_
    rw [hA]
    refine wpAny_mono h2 (fun _ s3 ⟨v, H3, I3, r3, y3, t3, n3⟩ => ?_) fun _ _ e => e.elim
    obtain ⟨F3, e3, S3, rx⟩ := K1.yld e1 S1 hx y3
    have I3' := I3.pinned (stat I3 pS n3) (T.obj _ _ t3)
    refine seg_bind_wrap ?_
    rw [hA]
    refine wpAny_mono ((L.tg z).1.run _ s3 _ H3 v u _ I3' r3 ((L.tg z).2 (L2.wipe σ vs) H3 F3 v x ⟨wipeR s.ρ vs, s.gs⟩ (fun σ4 H4 => Sta (genY Y k scope z) ⟨f x (wipeR s.ρ vs), s.gs⟩ σ4 H4 F3 ∧ Only ws (L2.wipe σ vs) σ4) ((S3.wipe vs).gen) rx fun σ4 S4 o4 => ⟨S4, o4⟩)) (fun _ s4 ⟨σ4, H4, I4, S4, o4⟩ => ?_) fun _ _ e => e.elim
    have hl4 : (L2.wipe σ vs).length = σ4.length := o4.1.symm
    have wk : ∀ (j : Nat) (w : V), (L2.wipe σ vs)[j]? = some (some w) → σ4[j]? = some (some w) := fun j w e => by
      rw [o4.2 j fun hj => (wipe_some e).2 (L.sub j hj)]
      exact e
    have fin : ∀ {s5 : Shared} {H5 F5 : Hp}, Inv (genX Y scope z) (([] ++ pinsAt S s1.heap) ++ pinsAt z.fp s3.heap) σ4 H5 s5 → Ext F3 F5 → Sta (genY Y k scope z) ⟨f x (wipeR s.ρ vs), s.gs⟩ σ4 H5 F5 → GT Y scope z vs s σ F tn S (i + 1) s5 ∧ ∀ b ∈ S, ∀ o, s1.heap.get? b = some o → s5.heap.get? b = some o := fun {s5 H5 F5} I5 e5 S5 => by
      have pf : ∀ b ∈ z.fp, ∀ o, s3.heap.get? b = some o → s5.heap.get? b = some o ∧ H5 b = none := fun b hb o e =>
        let q := I5.pin (b, o) (List.mem_append_right _ (List.mem_append_right _ (mem_pinsAt hb e)))
        ⟨q.1, q.2.1⟩
      have qS : ∀ b ∈ S, ∀ o, s1.heap.get? b = some o → s5.heap.get? b = some o ∧ H5 b = none := fun b hb o e =>
        let q := I5.pin (b, o) (List.mem_append_right _ (List.mem_append_left _ (List.mem_append_right _ (mem_pinsAt hb e))))
        ⟨q.1, q.2.1⟩
      refine ⟨⟨H5, F5, ((I5.unpinned (pins := [] ++ pinsAt S s1.heap)).unpinned (pins := [])).weak hl4 wk, T.keep _ _ _ t3 fun b hb o e => (pf b hb o e).1, fun b hb => ?_, fun b hb => let ⟨o, e, _⟩ := oS b hb; (qS b hb o e).2, fun b hb => let ⟨o, e, hc⟩ := oS b hb; ⟨o, (qS b hb o e).1, hc⟩, (e1.trans e3).trans e5, ?_⟩, fun b hb o e => (qS b hb o e).1⟩
      · obtain ⟨o, e, _⟩ := T.obj _ _ t3 b hb
        exact (pf b hb o e).2
      · exact S3.names (s' := ⟨f x (wipeR s.ρ vs), s.gs⟩) S5.ungen e5
    refine seg_bind_wrap ?_
    rw [hA]
    refine wpAny_mono (L.test z ok x hmem F3 σ4 H4 F3 (.refl _) S4 _ s4 I4) (fun b s5 ⟨H5, I5, s5', F5, e5, S5, eb, es⟩ => ?_) fun _ _ e => e.elim
    subst eb es
    cases hc : c x with
    | false =>
      rw [drop_at hx, List.filter_cons_of_neg (by simp [hc])]
      simp only [Bool.false_eq_true, if_false]
      exact seg_again rfl (ih (i + 1) s₀ _ (by omega) hlt (fin I5 e5 S5).1 fun b hb o e => (fin I5 e5 S5).2 b hb o (hsk b hb o e))
    | true =>
      rw [drop_at hx, List.filter_cons_of_pos hc, List.length_cons]
      simp only [if_true]
      have hy : ∀ v, yieldOut (genE Y scope z) v = yieldValue v := fun v => by
        have : (genE Y scope z).scope.isCoroutine = false := hco
        simp only [yieldOut, this, Bool.false_eq_true, if_false]
      simp only [hy]
      rw [Sem.bind_eq_wrap', Sem.bind_eq_wrap', Sem.wrap_wrap, Sem.wrap_wrap]
      refine seg_wrap ?_
      rw [hA]
      refine wpAny_mono (L.elt z ok x hmem hc F5 σ4 H5 F5 (.refl _) S5 _ s5 I5) (fun w s6 ⟨v6, H6, I6, r6, F6, e6, rv6, S6⟩ => ?_) fun _ _ e => e.elim
      obtain ⟨gt6, kp6⟩ := fin I6 (e5.trans e6) S6
      have ev : v6 = FlatV.z (h x) := FlatE.of (α := γ) rv6
      subst ev
      refine seg_at (seg_yield rfl rfl rfl ⟨h x, rest_at hx hc, r6, gt6.ge, fun b hb o e => kp6 b hb o (hsk b hb o e), fun s7 w7 => ?_⟩)
      exact seg_again rfl (ih (i + 1) s7 s7 (by omega) hlt (gt6.aw T a w7) fun _ _ _ e => e)
end
end Sp
set_option maxHeartbeats 4000000
/-! Sp: the walkers of generator expressions. -/
namespace Sp
open PySem L2
open PySem.W (Datum DatumOrd SomeDatum)
/-- a walk that is known by what holds ahead of each item -/
structure SW (prog : Program) (w : World) (A : Around) (a : Addr) (S : List Addr) (n : Nat) (St : Nat → Shared → Prop) (P : Nat → Value → Prop) (D : Shared → Prop) : Prop where
  item : ∀ (i : Nat) (s : Shared) (Q : Option Value → Shared → Prop) (E : Value → Shared → Prop), i < n → St i s → (∀ v s', P i v → St (i + 1) s' → (∀ b ∈ S, ∀ o, s.heap.get? b = some o → s'.heap.get? b = some o) → Q (some v) s') → wpAny (model prog w) A (pyNext (.ref a)) Q E s
  done : ∀ (s : Shared) (Q : Option Value → Shared → Prop) (E : Value → Shared → Prop), St n s → (∀ s', D s' → Q none s') → wpAny (model prog w) A (pyNext (.ref a)) Q E s
  out : ∀ i s, St i s → D s
section
variable {prog : Program} {w : World} {A : Around} {a : Addr} {S : List Addr} {St : Nat → Shared → Prop} {D : Shared → Prop} {R : Result → Shared → Prop}
theorem drop_item {α : Type} {l : List α} {i : Nat} {x : α} (h : l[i]? = some x) : l.drop i = x :: l.drop (i + 1) := drop_at h
theorem any_go {ys : List Bool} (W : SW prog w A.in1 a S ys.length St (fun i v => ∃ y, ys[i]? = some y ∧ v = .bool y) D) : ∀ (k i : Nat) (s : Shared), ys.length - i = k → i ≤ ys.length → St i s →
    (∀ s', D s' → R (.ok (.ret (.bool ((ys.drop i).any id)))) s') → codeAny (model prog w) A (.builtin "any.loop" ⟨[.ref a], []⟩) R s := by
  intro k
  induction k with
  | zero =>
    intro i s hk hi hst hR
    obtain rfl : i = ys.length := by omega
    refine codeAny_builtin F.entry_any_loop ?_
    rw [Around.under_plainId F.plain_any_loop _]
    show wpAny _ A.in1 (pyNext (.ref a) >>= _) _ _ s
    refine wpAny_bind (W.done s _ _ hst fun s' hm => wpAny_bind (wpAny_rule (wpAny_pure ?_)))
    have := hR s' hm
    rw [List.drop_length] at this
    exact this
  | succ k ih =>
    intro i s hk hi hst hR
    have hlt : i < ys.length := by omega
    refine codeAny_builtin F.entry_any_loop ?_
    rw [Around.under_plainId F.plain_any_loop _]
    show wpAny _ A.in1 (pyNext (.ref a) >>= _) _ _ s
    refine wpAny_bind (W.item i s _ _ hlt hst fun v s' ⟨y, hy, ev⟩ hst' _ => ?_)
    subst ev
    rw [drop_item hy, List.any_cons] at hR
    refine wpAny_bind (wpAny_holding (wpAny_truthy_bool (wpAny_bind (wpAny_letGo ?_))))
    cases y with
    | false =>
      simp only [Bool.false_eq_true, if_false]
      exact wpAny_pure ⟨plainId_quiet F.plain_any_loop _, ih (i + 1) _ (by omega) hlt hst' hR⟩
    | true =>
      simp only [if_true]
      exact wpAny_bind (wpAny_rule (wpAny_pure (hR s' (W.out _ _ hst'))))
theorem all_go {ys : List Bool} (W : SW prog w A.in1 a S ys.length St (fun i v => ∃ y, ys[i]? = some y ∧ v = .bool y) D) : ∀ (k i : Nat) (s : Shared), ys.length - i = k → i ≤ ys.length → St i s →
    (∀ s', D s' → R (.ok (.ret (.bool ((ys.drop i).all id)))) s') → codeAny (model prog w) A (.builtin "all.loop" ⟨[.ref a], []⟩) R s := by
  intro k
  induction k with
  | zero =>
    intro i s hk hi hst hR
    obtain rfl : i = ys.length := by omega
    refine codeAny_builtin F.entry_all_loop ?_
    rw [Around.under_plainId F.plain_all_loop _]
    show wpAny _ A.in1 (pyNext (.ref a) >>= _) _ _ s
    refine wpAny_bind (W.done s _ _ hst fun s' hm => wpAny_bind (wpAny_rule (wpAny_pure ?_)))
    have := hR s' hm
    rw [List.drop_length] at this
    exact this
  | succ k ih =>
    intro i s hk hi hst hR
    have hlt : i < ys.length := by omega
    refine codeAny_builtin F.entry_all_loop ?_
    rw [Around.under_plainId F.plain_all_loop _]
    show wpAny _ A.in1 (pyNext (.ref a) >>= _) _ _ s
    refine wpAny_bind (W.item i s _ _ hlt hst fun v s' ⟨y, hy, ev⟩ hst' _ => ?_)
    subst ev
    rw [drop_item hy, List.all_cons] at hR
    refine wpAny_bind (wpAny_holding (wpAny_truthy_bool (wpAny_bind (wpAny_letGo ?_))))
    cases y with
    | true =>
      simp only [if_true]
      exact wpAny_pure ⟨plainId_quiet F.plain_all_loop _, ih (i + 1) _ (by omega) hlt hst' hR⟩
    | false =>
      simp only [Bool.false_eq_true, if_false]
      exact wpAny_bind (wpAny_rule (wpAny_pure (hR s' (W.out _ _ hst'))))
end
/-! ### the generator as such a walk -/
theorem bare_set {s : Shared} {g : Nat} {x : GenState} (h : PyProof.Rows.AllBare s.gens) (hb : x.bare = true) : PyProof.Rows.AllBare (s.setGen g x).gens := fun y hy => by
  have hy' : y ∈ s.gens.setIfInBounds g x := hy
  rcases Array.mem_or_eq_of_mem_setIfInBounds hy' with q | q
  · exact h y q
  · rw [q]; exact hb
section
variable {Y : DX} {scope : Scope} {z : GCx} {s : DSt} {σ : St} {F : Hp} {vs : List Nat} {γ : Type} [Enc γ] [FlatV γ]
theorem GE.same {S : List Addr} {s1 s2 : Shared} (h : GE Y scope z vs s σ F S s1) (w : Aw [] s1 s2) : GE Y scope z vs s σ F S s2 := by
  obtain ⟨H', F', I, hS, e, S⟩ := h
  exact ⟨H', F', GE.aw (S := []) (fun _ hb => absurd hb (by simp)) (fun _ hb => absurd hb (by simp)) I w, hS, e, S⟩
theorem GE.awS {S : List Addr} {s1 s2 : Shared} (a : ∀ b ∈ S, Ap Y scope z b) (h : GE Y scope z vs s σ F S s1) (w : Aw S s1 s2) : GE Y scope z vs s σ F S s2 := by
  obtain ⟨H', F', I, hS, e, S⟩ := h
  exact ⟨H', F', GE.aw a hS I w, hS, e, S⟩
theorem Aw.trans {S : List Addr} {s1 s2 s3 : Shared} (a : Aw S s1 s2) (b : Aw S s2 s3) : Aw S s1 s3 := ⟨b.1.trans a.1, b.2.1, fun c o h e => b.2.2.1 c o h (a.2.2.1 c o h e), b.2.2.2⟩
theorem GE.bare {S : List Addr} {s1 : Shared} (h : GE Y scope z vs s σ F S s1) : PyProof.Rows.AllBare s1.gens := by
  obtain ⟨H', F', I, _⟩ := h
  exact I.bare
/-- the generator a, number g, at its i-th item -/
def GSt (Y : DX) (scope : Scope) (z : GCx) (vs : List Nat) (s : DSt) (σ : St) (F : Hp) (S : List Addr) (ys : List γ) (A : Around) (a : Addr) (g : Nat) (i : Nat) (s1 : Shared) : Prop :=
  ∃ gs, s1.heap.IsGen a g ∧ s1.gens[g]? = some gs ∧ GE Y scope z vs s σ F S s1 ∧ (∀ b ∈ S, ∃ o, s1.heap.get? b = some o ∧ ∀ v, o.data ≠ .cell v) ∧
    ∀ s2, Aw S s1 s2 → gs.Goes (model Y.X.prog Y.X.w) A (fun n s0 r s2 => r = .ok .next ∧ (n = 0 ∧ GE Y scope z vs s σ F S s2 ∧ ∀ b ∈ S, ∀ o, s0.heap.get? b = some o → s2.heap.get? b = some o)) (GP Y scope z vs s σ F S ys) (ys.length - i) (.send .none) s2
theorem gen_sw {ys : List γ} {S : List Addr} {A : Around} {a : Addr} {g : Nat} (ha : a ∈ S) (hh : A.handled = none) (hroom : A.depth < recursionLimit) :
    SW Y.X.prog Y.X.w A a S ys.length (GSt Y scope z vs s σ F S ys A.in1 a g) (fun i v => ∃ y, ys[i]? = some y ∧ RelV (FlatV.z y) v) (GE Y scope z vs s σ F S) where
  item := fun i s1 Q E hi ⟨gs, hg, hgs, ge, ob, go⟩ hQ => by
    obtain ⟨m, hm⟩ : ∃ m, ys.length - i = m + 1 := ⟨ys.length - i - 1, by omega⟩
    rw [hm] at go
    have hlt : g < s1.gens.size := by
      rcases Nat.lt_or_ge g s1.gens.size with h | h
      · exact h
      · rw [Array.getElem?_eq_none h] at hgs; cases hgs
    obtain ⟨H', F', I, _, e1, S1⟩ := id ge
    refine GenW.wpAny_gsz (n := g + 1) hlt ?_
    refine wpAny_pyNext_genexpQ (P := fun n s0 s2 => n = 0 ∧ GE Y scope z vs s σ F S s2 ∧ ∀ b ∈ S, ∀ o, s0.heap.get? b = some o → s2.heap.get? b = some o) hh I.nolimit hroom hg hgs (go _ ⟨rfl, bare_set I.bare rfl, fun _ _ _ e => e, ob⟩) (fun v s2 gs' hb ⟨y, hy, rv, ge2, kp, kap⟩ hsz => ?_) (fun s2 hp => absurd hp.1 (Nat.succ_ne_zero m))
    have hsz2 : g < s2.gens.size := by
      have h9 : g + 1 ≤ (s2.setGen g gs').gens.size := hsz
      rw [GenW.setGen_size] at h9
      exact h9
    have hi2 : ys.length - 1 - (m + 1 - 1) = i := by omega
    rw [hi2] at hy
    have hgs2 : (s2.setGen g gs').gens[g]? = some gs' := setGen_self (gs := s2.gens[g]) (Array.getElem?_eq_getElem hsz2)
    refine hQ v _ ⟨y, hy, rv⟩ ⟨gs', let ⟨o, nm, qn, ho, r⟩ := hg; ⟨o, nm, qn, kp a ha o ho, r⟩, hgs2, ge2.same ⟨rfl, bare_set ge2.bare hb, fun _ _ _ e => e, fun _ h => absurd h (by simp)⟩, fun b hb => let ⟨o, e, hc⟩ := ob b hb; ⟨o, kp b hb o e, hc⟩, fun s3 w3 => ?_⟩ fun b hb o e => kp b hb o e
    have e9 : ys.length - (i + 1) = m := by omega
    rw [e9]
    exact kap s3 w3
  done := fun s1 Q E ⟨gs, hg, hgs, ge, ob, go⟩ hQ => by
    rw [Nat.sub_self] at go
    obtain ⟨H', F', I, _, e1, S1⟩ := id ge
    refine wpAny_pyNext_genexpQ (P := fun n s0 s2 => n = 0 ∧ GE Y scope z vs s σ F S s2 ∧ ∀ b ∈ S, ∀ o, s0.heap.get? b = some o → s2.heap.get? b = some o) hh I.nolimit hroom hg hgs (go _ ⟨rfl, bare_set I.bare rfl, fun _ _ _ e => e, ob⟩) (fun v s2 gs' hb ⟨y, hy, rv, ge2, kp, kap⟩ => ?_) (fun s2 ⟨_, ge2, kp⟩ h' hk => ?_)
    · exact False.elim (kap s2 ⟨rfl, ge2.bare, fun _ _ _ e => e, fun b hb => let ⟨o, e, hc⟩ := ob b hb; ⟨o, kp b hb o e, hc⟩⟩)
    · exact hQ _ (ge2.same ⟨rfl, bare_set ge2.bare rfl, fun b o _ e => hk b o e, fun _ h => absurd h (by simp)⟩)
  out := fun i s1 ⟨gs, hg, hgs, ge, ob, go⟩ => ge
theorem GSt.aw {ys : List γ} {S : List Addr} {A : Around} {a : Addr} {g i : Nat} {s1 s2 : Shared} (ap : ∀ b ∈ S, Ap Y scope z b) (h : GSt Y scope z vs s σ F S ys A a g i s1) (w : Aw S s1 s2) (hg : s2.gens = s1.gens) (ha : ∀ o, s1.heap.get? a = some o → s2.heap.get? a = some o) : GSt Y scope z vs s σ F S ys A a g i s2 := by
  obtain ⟨gs, h1, h2, h3, h4, h5⟩ := h
  obtain ⟨o, nm, qn, ho, r⟩ := h1
  exact ⟨gs, ⟨o, nm, qn, ha o ho, r⟩, by rw [hg]; exact h2, h3.awS ap w, w.2.2.2, fun s3 w3 => h5 s3 (w.trans w3)⟩
end
end Sp
set_option maxHeartbeats 4000000
/-! Sp: generator expressions made; any(..), all(..). -/
namespace Sp
open PySem L2
open PySem.W (Datum DatumOrd SomeDatum)
section
variable {Y : DX} {k : Nat} {scope : Scope} {z : GCx} {s : DSt} {σ : St} {H F : Hp} {β γ : Type} [Enc β] [Enc γ] [FlatV γ] [FlatE γ]
theorem seg_start {A : Around} {vs ws : List Nat} {tg elt iter : Expr} {ifs : List Expr} {g : TG} {f : β → Rho → Rho} {items : List β} {c : β → Bool} {h : β → γ} {tn : Nat → Heap → Prop} {S : List Addr} {it : Addr} {J : It} {gpos : Pos} (L : GTurns Y k s scope vs tg elt ifs g ws f items c h) (ok : YOk (genY Y k scope z)) (hco : scope.isCoroutine = false)
    (T : Turn Y.X.prog Y.X.w Y.X.K tg J z.fp it tn) (a : ∀ b ∈ S, Ap Y scope z b) (K1 : ItOk Y.X.K J F items) (hA : A.over (.compLoop (.GeneratorExp elt [⟨tg, iter, ifs, 0⟩] scope gpos) 0 (.ref it) .none (genE Y scope z)) [] = z.A)
    (s₀ s1 : Shared) (gt : GT Y scope z vs s σ F tn S 0 s1) (hsk : ∀ b ∈ S, ∀ o, s₀.heap.get? b = some o → s1.heap.get? b = some o) :
    Seg (model Y.X.prog Y.X.w) A (fun n s0 r s2 => r = .ok .next ∧ (n = 0 ∧ GE Y scope z vs s σ F S s2 ∧ ∀ b ∈ S, ∀ o, s0.heap.get? b = some o → s2.heap.get? b = some o)) (GP Y scope z vs s σ F S ((items.filter c).map h)) ((items.filter c).map h).length s₀
      (.compStart (.GeneratorExp elt [⟨tg, iter, ifs, 0⟩] scope gpos) 0 (.ref it) .none (genE Y scope z))
      ((model Y.X.prog Y.X.w).den (.compStart (.GeneratorExp elt [⟨tg, iter, ifs, 0⟩] scope gpos) 0 (.ref it) .none (genE Y scope z))) [] s1 := by
  have loop := seg_gen (iter := iter) (gpos := gpos) (F0 := F) L ok hco T a K1 hA items.length 0 s₀ s1 (by omega) (Nat.zero_le _) gt hsk
  rw [List.drop_zero] at loop
  rw [List.length_map]
  obtain ⟨H', F', I, t1, _⟩ := gt
  show Seg _ A _ _ _ s₀ _ ((compStart (.GeneratorExp elt [⟨tg, iter, ifs, 0⟩] scope gpos) 0 (.ref it) .none (genE Y scope z)).onRaise (leaving (genE Y scope z))) [] s1
  unfold compStart
  rw [Sem.onRaise_eq_wrap]
  show Seg _ A _ _ _ s₀ _ ((ask >>= _).wrap _ _ _ _) [] s1
  refine seg_bind_wrap (wpAny_askSetting ?_)
  split
  · exact seg_again rfl loop
  · refine seg_bind_wrap (wpAny_rule ?_)
    show Seg _ A _ _ _ s₀ _ ((standAt iter.pos >>= _).wrap _ _ _ _) [] s1
    exact seg_bind_wrap (wpAny_standAt (seg_bind_wrap (T.self _ 0 s1 _ _ t1 (seg_again rfl loop))))
end
/-- the table has grown -/
theorem tabs_grow {T : Tb} {H : Hp} {P c' : Addr} {q : Str} {ps : Array Value} {pos : Pos} (t : TbOk T H) (hP : H P = some (.tbl ps)) (hC : H c' = none) (ht : TriplesOk ps.toList) (hu : ∀ p ∈ T, p.1 = P → p.2 = q) :
    LamX.ExtN H (upd (upd H P (.tbl (ps ++ #[rawInt pos.line, rawInt pos.col, .ref c']))) c' (LamX.CodeO c' q)) ∧ TbOk T (upd (upd H P (.tbl (ps ++ #[rawInt pos.line, rawInt pos.col, .ref c']))) c' (LamX.CodeO c' q)) := by
  have nP : P ≠ c' := ne_of_none hP hC
  have ex : LamX.ExtN H (upd (upd H P (.tbl (ps ++ #[rawInt pos.line, rawInt pos.col, .ref c']))) c' (LamX.CodeO c' q)) := fun b o e n => by
    have n1 : b ≠ c' := ne_of_none e hC
    have n2 : b ≠ P := fun x => n ps (by rw [x, hP] at e; exact (Option.some.inj e).symm)
    rw [upd_ne n1, upd_ne n2]
    exact e
  have el : (ps ++ #[rawInt pos.line, rawInt pos.col, .ref c']).toList = ps.toList ++ [rawInt pos.line, rawInt pos.col, .ref c'] := by simp
  refine ⟨ex, fun p hp => ?_⟩
  obtain ⟨ps', a1, a2, a3⟩ := t p hp
  by_cases hb : p.1 = P
  · have hq := hu p hp hb
    rw [hb, hP] at a1
    cases a1
    refine ⟨_, by rw [hb, upd_ne nP, upd_same], by rw [el]; exact PySem.TriplesOk_snoc _ _ _ _ ht, fun p' cv hcv => ?_⟩
    rw [el] at hcv
    rcases LamX.among_app _ ht hcv with y | y
    · obtain ⟨c0, e1, e2⟩ := a3 p' cv y
      exact ⟨c0, e1, ex _ _ e2 LamX.codeO_ne⟩
    · exact ⟨c', y, by rw [hq, upd_same]⟩
  · refine ⟨ps', by rw [upd_ne (ne_of_none a1 hC), upd_ne hb]; exact a1, a2, fun p' cv hcv => ?_⟩
    obtain ⟨c0, e1, e2⟩ := a3 p' cv hcv
    exact ⟨c0, e1, ex _ _ e2 LamX.codeO_ne⟩
/-- a generator is made and ready: a its object -/
structure Made {γ : Type} [Enc γ] [FlatV γ] (Y : DX) (scope : Scope) (vs : List Nat) (s : DSt) (σ : St) (F0 : Hp) (pins : List (Addr × Obj)) (ys : List γ) (a : Addr) (s5 : Shared) : Prop where
  go : ∃ (z : GCx) (F : Hp) (g : Nat), Ext F0 F ∧ Inv Y.X pins σ z.H z.s ∧ (∀ b ∈ z.fp, (b ∈ Y.X.ex ∨ Y.X.s_0.heap.objs.size ≤ b) ∧ b ≠ Y.X.env.locals ∧ (∀ x c, Y.X.env.cells.lookup x = some c → c ≠ b) ∧ ∀ p ∈ Y.X.pn ++ pins, p.1 ≠ b) ∧
    s5.heap.IsGen a g ∧ ∀ (S : List Addr) (s6 : Shared), a ∈ S → (∀ b ∈ S, b = a ∨ s5.heap.objs.size ≤ b) → s6.os = s5.os → s6.gens = s5.gens → (∀ b o, s5.heap.get? b = some o → s6.heap.get? b = some o) → (∀ b ∈ S, ∃ o, s6.heap.get? b = some o ∧ ∀ v, o.data ≠ .cell v) →
      (∀ b ∈ S, Ap Y scope z b) ∧ GSt Y scope z vs s σ F S ys Y.X.A.in1.in1 a g 0 s6
section
variable {Y : DX} {k : Nat} {scope : Scope} {s : DSt} {σ : St} {β γ : Type} [Enc β] [Enc γ] [FlatV γ] [FlatE γ]
theorem gen_made {vs ws : List Nat} {tg elt iter : Expr} {ifs : List Expr} {g : TG} {f : β → Rho → Rho} {items : List β} {c : β → Bool} {h : β → γ} {gpos : Pos} {pins : List (Addr × Obj)} {F0 H F : Hp} {s0 : Shared} {Q : Value → Shared → Prop} (ok : YOk Y) (hk : k + 2 ≤ Y.k) (hi : EvIt Y s tg iter items) (G : GenOk Y.X.N Y.X.env.scope scope vs) (tb : Tbl Y.X Y.T (Y.X.env.qual ++ "<genexpr>"))
    (L : GTurns Y k s scope vs tg elt ifs g ws f items c h) (hs : ∀ x, genFold iter Y.X.env x = pure x) (e0 : Ext F0 F) (S : Sta Y s σ H F) (I : Inv Y.X pins σ H s0)
    (hQ : ∀ a s5, Made Y scope vs s σ F0 pins ((items.filter c).map h) a s5 → Q (.ref a) s5) :
    wpAny (model Y.X.prog Y.X.w) Y.X.A (eval (.GeneratorExp elt [⟨tg, iter, ifs, 0⟩] scope gpos) Y.X.env) Q Y.X.xe s0 := by
  obtain ⟨wi, hp, hw⟩ := hi
  obtain ⟨cd, P, TB, hcode, hmT, hu⟩ := tb.ex
  have hfree : ∀ y ∈ scope.names, y.2 = .free → ∃ c, Y.X.env.cells.lookup y.1 = some c := fun y hy e => (G.free y hy e).elim (fun q => I.ok.has _ (.inl q)) fun q => I.ok.has _ (.inr q)
  refine wpAny_GeneratorExp_make G.co (closure_ok hfree) G.nocell G.dot G.kind ok.room.depth ?_ hs
  refine wpAny_mono (hp.run pins s0 σ H (fun J H' => ∃ F', Ext F0 F' ∧ Sta Y s σ H' F' ∧ ItOk Y.X.K J F' items) I (hw F0 σ H F _ e0 S fun J H' F' e1 S1 K1 => ⟨F', e1, S1, K1⟩)) (fun xv s1 h1 => wpAny_mono h1 (fun itv s2 ⟨it, fp, tn, J, H2, ei, I2, T, t2, f2, F2, e2, S2, K2⟩ => ?_) fun _ _ e => e) fun _ _ e => e
  subst ei
  refine ⟨I2.nolimit, ?_⟩
  obtain ⟨ps, hP, ht, hcv⟩ := S2.tb _ hmT
  have hP' : s2.heap.get? P = some { cls := .none, data := .fields ps } := I2.hok P _ hP
  have bP : s2.heap.BuiltinsAt Y.X.mg P := TB.bm.keeps I2.bk
  -- behind the code object: the maker's data, the heap grown but for the table
  have cont : ∀ (code : Value) (s3 : Shared) (H3 : Hp), Inv Y.X pins σ H3 s3 → Sta Y s σ H3 F2 → (∀ b o, b ≠ P → s2.heap.get? b = some o → s3.heap.get? b = some o) → (∀ b, H2 b = none → b < s2.heap.objs.size → H3 b = none) →
      wpAny (model Y.X.prog Y.X.w) Y.X.A (builtinsFor Y.X.env.globals Y.X.env.builtins) (fun bi s₄ => ∀ h', h'.Ns s₄.heap.objs.size (fun y => if y = ".0" then some (.ref it) else none) → Heap.SameBut s₄.heap.objs.size (s₄.heap.push { cls := .type "frame", data := .dict #[] }) h' →
          Q (.ref h'.objs.size) { s₄ with
            gens := s₄.gens.push (.fresh (.compStart (.GeneratorExp elt [⟨tg, iter, ifs, 0⟩] scope gpos) 0 (.ref it) .none (genEnv scope (cloFrom Y.X.env.cells scope.names []) s₄.heap.objs.size code bi Y.X.env))),
            toks := s₄.toks + 1 + 1 + 1,
            heap := h'.push { cls := .type "generator", data := .fields #[.int s₄.gens.size 0, .str "<genexpr>" (s₄.toks + 1), .str (Y.X.env.qual ++ "<genexpr>") (s₄.toks + 1 + 1)] } }) Y.X.xe s3 := by
    intro code s3 H3 I3 S3 kp3 fr3
    obtain ⟨bm, ob, b1, b2, b3, b4, b5, b6, b7, b8⟩ := TB.bm
    refine wpAny_builtinsFor (m := Y.X.mg) (by rw [I3.ok.glob]; exact I3.mod.glob.keeps I3.bk) b1 b2 (I3.bk _ _ b5) b6 b7 b8 ?_
    intro h' hn hs'
    have hsz : h'.objs.size = s3.heap.objs.size + 1 := by rw [hs'.1, Heap.size_push]
    have kp4 : ∀ b o, s3.heap.get? b = some o → h'.get? b = some o := fun b o e => hs'.extBut b o (Nat.ne_of_lt (Heap.lt_size e)) (Heap.get?_push_of_some _ e)
    have sz2 : ∀ b ∈ fp, b < s2.heap.objs.size := fun b hb => by
      obtain ⟨o, e, _⟩ := T.obj _ _ t2 b hb
      exact Heap.lt_size e
    have fpP : ∀ b ∈ fp, b ≠ P := fun b hb q => by
      have := (f2 b hb).1
      rw [q, hP] at this; cases this
    have sz3 : ∀ b ∈ fp, b < s3.heap.objs.size := fun b hb => by
      obtain ⟨o, e, _⟩ := T.obj _ _ t2 b hb
      exact Heap.lt_size (kp3 b o (fpP b hb) e)
    have f3 : ∀ b ∈ fp, FpOk Y.X pins H3 b ∧ b < s3.heap.objs.size := fun b hb => ⟨⟨fr3 b (f2 b hb).1 (sz2 b hb), (f2 b hb).2⟩, sz3 b hb⟩
    generalize hz : (⟨(Y.X.A.in1.in1).over (.compLoop (.GeneratorExp elt [⟨tg, iter, ifs, 0⟩] scope gpos) 0 (.ref it) .none (genEnv scope (cloFrom Y.X.env.cells scope.names []) s3.heap.objs.size code builtinsNs Y.X.env)) [], s3.heap.objs.size, code, s3, H3, fp⟩ : GCx) = z
    have zA : (Y.X.A.in1.in1).over (.compLoop (.GeneratorExp elt [⟨tg, iter, ifs, 0⟩] scope gpos) 0 (.ref it) .none (genE Y scope z)) [] = z.A := by rw [← hz]
    have hr : Room k z.A := by
      have r := ok.room.mono hk
      rw [← hz]
      have h1 : Y.X.A.depth + 3 * (k + 2) + 5 < recursionLimit := r.dp
      have h2 : Y.X.A.units + 16 * (k + 2) + 200 < cLine := r.un
      have h3 : Y.X.A.depth + 1 + 3 * k + 5 < recursionLimit := by omega
      have h4 : Y.X.A.units + 1 + 1 + 3 + 16 * k + 200 < cLine := by omega
      exact ⟨r.hd, h3, h4⟩
    have fr : z.A.frames = some (genE Y scope z :: Y.X.stack) := by
      rw [← hz]
      show pushEnvs [_] (pushEnvs [] Y.X.A.frames) = _
      rw [I3.ok.frames]
      rfl
    have I5 : Inv (genX Y scope z) [] (L2.wipe σ vs) H3 { s3 with
            gens := s3.gens.push (.fresh (.compStart (.GeneratorExp elt [⟨tg, iter, ifs, 0⟩] scope gpos) 0 (.ref it) .none (genE Y scope z))),
            toks := s3.toks + 1 + 1 + 1,
            heap := h'.push { cls := .type "generator", data := .fields #[.int s3.gens.size 0, .str "<genexpr>" (s3.toks + 1), .str (Y.X.env.qual ++ "<genexpr>") (s3.toks + 1 + 1)] } } := by
      subst hz
      exact gen_start (A := _) (m0 := fun y => if y = ".0" then some (.ref it) else none) I3 G fr hr.hd f3 (hn.push _) (fun b o e => Heap.get?_push_of_some _ (kp4 b o e)) (I3.bare.push rfl)
    have hzs : z.s = s3 := by rw [← hz]
    have hzH : z.H = H3 := by rw [← hz]
    have hzf : z.fp = fp := by rw [← hz]
    have hzC : z.C = s3.heap.objs.size := by rw [← hz]
    have ea : genEnv scope (cloFrom Y.X.env.cells scope.names []) s3.heap.objs.size code builtinsNs Y.X.env = genE Y scope z := by rw [← hz]
    rw [ea]
    have T' : Turn Y.X.prog Y.X.w Y.X.K tg J z.fp it tn := by rw [hzf]; exact T
    have ge : s3.heap.objs.size ≤ h'.objs.size := by omega
    have ap : ∀ b : Addr, h'.objs.size ≤ b → Ap Y scope z b := fun b hb => by
      have hb' : h'.objs.size ≤ (b : Nat) := hb
      have ge2 : s3.heap.objs.size ≤ b := Nat.le_trans ge hb
      refine ⟨by rw [hzs]; exact ge2, fun q => by
        rw [hzC] at q
        exact Nat.ne_of_gt (Nat.lt_of_lt_of_le (by rw [hsz]; exact Nat.lt_succ_self _) hb) q, fun x c e q => ?_, fun q => ?_, fun q => ?_⟩
      · have : Y.X.env.cells.lookup x = some c := by
          rcases cloFrom_mem (PySem.mem_of_lookup e) with hm | ⟨h1, h2⟩
          · cases hm
          · obtain ⟨c1, hc⟩ := hfree _ h1 rfl
            have hc' : Y.X.env.cells.lookup x = some c1 := hc
            rw [hc', show c = c1 by rw [h2, hc] <;> rfl]
        obtain ⟨v, hv⟩ := I3.cell x c this
        have h9 : c < s3.heap.objs.size := hv.lt
        rw [q] at h9
        exact absurd (Nat.lt_of_lt_of_le h9 ge2) (Nat.lt_irrefl _)
      · rw [hzf] at q
        exact absurd (Nat.lt_of_lt_of_le (sz3 _ q) ge2) (Nat.lt_irrefl _)
      · rcases List.mem_cons.mp (I3.stkSub _ q) with q | q
        · have := I3.lt
          rw [← q] at this
          exact absurd (Nat.lt_of_lt_of_le this ge2) (Nat.lt_irrefl _)
        · exact I3.nofs ge2 q
    refine hQ _ _ ⟨z, F2, s3.gens.size, e2, by rw [hzs, hzH]; exact I3, fun b hb => ?_, ⟨_, _, _, Heap.get?_push_size _ rfl, rfl, rfl, rfl⟩, fun S s6 ha hS o6 g6 k6 b6 => ?_⟩
    · rw [hzf] at hb
      obtain ⟨_, f5, _, f6, f7, f8⟩ := (f3 b hb).1
      exact ⟨f6, f5, f7, f8⟩
    have hSb : ∀ b ∈ S, h'.objs.size ≤ b := fun b hb => by
      rcases hS b hb with q | q
      · rw [q]; exact Nat.le_refl _
      · have q' : h'.objs.size + 1 ≤ (b : Nat) := by
          have := q
          rw [Heap.size_push] at this
          exact this
        exact Nat.le_trans (Nat.le_succ _) q'
    have aw : Aw [] { s3 with
            gens := s3.gens.push (.fresh (.compStart (.GeneratorExp elt [⟨tg, iter, ifs, 0⟩] scope gpos) 0 (.ref it) .none (genE Y scope z))),
            toks := s3.toks + 1 + 1 + 1,
            heap := h'.push { cls := .type "generator", data := .fields #[.int s3.gens.size 0, .str "<genexpr>" (s3.toks + 1), .str (Y.X.env.qual ++ "<genexpr>") (s3.toks + 1 + 1)] } } s6 := ⟨o6, by rw [g6]; exact I5.bare, fun b o _ e => k6 b o e, fun _ h => absurd h (by simp)⟩
    have I6 := GE.aw (S := []) (fun _ hb => absurd hb (by simp)) (fun _ hb => absurd hb (by simp)) I5 aw
    have gt : GT Y scope z vs s σ F2 tn S 0 s6 :=
      ⟨H3, F2, I6, T.keep 0 _ _ t2 fun b hb o e => k6 b o (Heap.get?_push_of_some _ (kp4 b o (kp3 b o (fpP b hb) e))), fun b hb => (f3 b (by rw [← hzf]; exact hb)).1.1, fun b hb => I3.hok.fresh (Nat.le_trans ge (hSb b hb)), b6, .refl _, S3⟩
    refine ⟨fun b hb => ap b (hSb b hb), .fresh (.compStart (.GeneratorExp elt [⟨tg, iter, ifs, 0⟩] scope gpos) 0 (.ref it) .none (genE Y scope z)), ⟨_, _, _, k6 _ _ (Heap.get?_push_size _ rfl), rfl, rfl, rfl⟩, by rw [g6]; exact Array.getElem?_push_size .., gt.ge, b6, fun s7 w7 => ⟨rfl, ?_⟩⟩
    exact seg_start (gpos := gpos) L (ok.gen hr) G.co T' (fun b hb => ap b (hSb b hb)) K2 zA s7 s7 (gt.aw T' (fun b hb => ap b (hSb b hb)) w7) fun _ _ _ e => e
  cases hf : codeAmong gpos ps.toList with
  | none =>
    refine wpAny_genexprCodeX hcode ((TB.code.keeps I2.bk).code hP' ht) ((TB.code.keeps I2.bk).tab hP') hf fun c' h' tk hx hge hlt hco' hrec htab' _ => ?_
    obtain ⟨c2, oc, ws, t, e2, hoc, hd, hv⟩ := hrec
    cases e2
    have nC : H2 c' = none := I2.hok.fresh hge
    have I3 := LamX.inv_table (t' := tk) (more := #[rawInt gpos.line, rawInt gpos.col, .ref c']) (h' := h') (q := Y.X.env.qual ++ "<genexpr>") I2 hP (fun b o hb e => hx b o hb e) htab'.2 hge ⟨oc, ws, t, hoc, hd, hv⟩
    obtain ⟨eN, t3⟩ := tabs_grow (pos := gpos) S2.tb hP nC ht hu
    refine cont _ _ _ I3 (S2.extN eN t3) (fun b o hb e => hx b o hb e) fun b hb hl => ?_
    have n1 : b ≠ c' := Nat.ne_of_lt (Nat.lt_of_lt_of_le hl hge)
    have n2 : b ≠ P := fun q => by rw [q, hP] at hb; cases hb
    rw [upd_ne n1, upd_ne n2]
    exact hb
  | some cv =>
    refine wpAny_genexprCode_hit hcode ((TB.code.keeps I2.bk).code hP' ht) hf ?_
    exact cont cv s2 H2 I2 S2 (fun _ _ _ e => e) fun b hb _ => hb
/-- behind the walk: the maker's data again -/
theorem made_back {vs : List Nat} {F0 F : Hp} {pins : List (Addr × Obj)} {z : GCx} {s6 : Shared} (e0 : Ext F0 F) (I : Inv Y.X pins σ z.H z.s) (hf : ∀ b ∈ z.fp, (b ∈ Y.X.ex ∨ Y.X.s_0.heap.objs.size ≤ b) ∧ b ≠ Y.X.env.locals ∧ (∀ x c, Y.X.env.cells.lookup x = some c → c ≠ b) ∧ ∀ p ∈ Y.X.pn ++ pins, p.1 ≠ b)
    {S : List Addr} (g : GE Y scope z vs s σ F S s6) : ∃ H' F', Inv Y.X pins σ H' s6 ∧ Ext F0 F' ∧ Sta Y s σ H' F' := by
  obtain ⟨H', F', I6, _, e6, S6⟩ := g
  exact ⟨H', F', I.call' (ch := z.fp) I6.os I6.base I6.hok I6.bare hf, e0.trans e6, S6⟩
section
variable {Q : Pv → DSt → Prop} {vs ws : List Nat} {tg elt iter : Expr} {ifs : List Expr} {g : TG} {f : β → Rho → Rho} {items : List β} {c : β → Bool} {gpos pos p : Pos}
theorem ys_bool {h : β → Bool} {i : Nat} {v : Value} (w : ∃ y, ((items.filter c).map h)[i]? = some y ∧ RelV (FlatV.z y) v) : ∃ y, ((items.filter c).map h)[i]? = some y ∧ v = .bool y := by
  obtain ⟨y, h1, h2⟩ := w
  exact ⟨y, h1, h2⟩
theorem SW.imp {prog : Program} {w : World} {A : Around} {a : Addr} {S : List Addr} {n : Nat} {St : Nat → Shared → Prop} {P P' : Nat → Value → Prop} {D : Shared → Prop} (W : SW prog w A a S n St P D) (h : ∀ i v, P i v → P' i v) : SW prog w A a S n St P' D :=
  ⟨fun i s Q E hi st k => W.item i s Q E hi st fun v s' hp st' kp => k v s' (h i v hp) st' kp, W.done, W.out⟩
/-- any(e for tg in iter if ..) -/
theorem evp_any {h : β → Bool} (ok : YOk Y) (B : Bis Y.X.mg) (hg : Gl Y.X "any") (hk : k + 2 ≤ Y.k) (hi : EvIt Y s tg iter items) (G : GenOk Y.X.N Y.X.env.scope scope vs) (tb : Tbl Y.X Y.T (Y.X.env.qual ++ "<genexpr>"))
    (L : GTurns Y k s scope vs tg elt ifs g ws f items c h) (hs : ∀ x, genFold iter Y.X.env x = pure x := by intro _; rfl)
    (he : starEach [.GeneratorExp elt [⟨tg, iter, ifs, 0⟩] scope gpos] Y.X.env = (false, eval (.GeneratorExp elt [⟨tg, iter, ifs, 0⟩] scope gpos) Y.X.env) :: starEach [] Y.X.env := by rfl) :
    EvP Y s (.Call (.Name "any" p) [.GeneratorExp elt [⟨tg, iter, ifs, 0⟩] scope gpos] [] pos) (pu (((items.filter c).map h).any id)) := fun F0 σ H F e0 S => by
  intro pins s0 I
  refine wpAny_Call_Name_kw (ld_blt I hg (B.no _ (by decide)) (show bootBuiltins "any" = some (.builtin "any") by decide +kernel) ?_)
  refine PyProof.Rows.callWith_builtin1 ?_ he (by rfl)
  rw [he]
  show wpAny _ _ (spliced ((false, eval (.GeneratorExp elt [⟨tg, iter, ifs, 0⟩] scope gpos) Y.X.env) :: backTo pos (starEach [] Y.X.env))) _ _ s0
  refine Calls.spliced_cons (gen_made ok hk hi G tb L hs e0 S I fun a s5 M => ?_)
  obtain ⟨z, F2, gn, e2, I3, hf, hgn, st⟩ := M.go
  obtain ⟨oa, _, _, hoa, _, hda, _⟩ := id hgn
  obtain ⟨_, st⟩ := st [a] s5 (List.mem_singleton.mpr rfl) (fun b hb => .inl (List.mem_singleton.mp hb)) rfl rfl (fun _ _ e => e) (fun b hb => by rw [List.mem_singleton.mp hb]; exact ⟨oa, hoa, fun v q => by rw [hda] at q; cases q⟩)
  refine Calls.spliced_nil ?_
  refine call_function_tree PySem.F.kind_any PySem.F.plain_any PySem.F.entry_any (PySem.F.args_any1 _) ?_
  unfold Builtin.«any»
  refine wpAny_bind (m := oneArg "any" _) (wpAny_pure ?_)
  refine wpAny_bind (wpAny_pyIter_gen hgn ?_)
  refine wpAny_pure ⟨plainId_quiet PySem.F.plain_any_loop _, any_go ((gen_sw (A := Y.X.A.in1) (List.mem_singleton.mpr rfl) ok.room.hd ok.room.depth).imp fun i v => ys_bool) _ 0 s5 rfl (Nat.zero_le _) st fun s6 g6 => ?_⟩
  obtain ⟨H', F', I6, e6, S6⟩ := made_back e2 I3 hf g6
  exact ⟨.bl _, H', I6, by rw [List.drop_zero]; rfl, F', e6, rfl, S6⟩
theorem evp_all {h : β → Bool} (ok : YOk Y) (B : Bis Y.X.mg) (hg : Gl Y.X "all") (hk : k + 2 ≤ Y.k) (hi : EvIt Y s tg iter items) (G : GenOk Y.X.N Y.X.env.scope scope vs) (tb : Tbl Y.X Y.T (Y.X.env.qual ++ "<genexpr>"))
    (L : GTurns Y k s scope vs tg elt ifs g ws f items c h) (hs : ∀ x, genFold iter Y.X.env x = pure x := by intro _; rfl)
    (he : starEach [.GeneratorExp elt [⟨tg, iter, ifs, 0⟩] scope gpos] Y.X.env = (false, eval (.GeneratorExp elt [⟨tg, iter, ifs, 0⟩] scope gpos) Y.X.env) :: starEach [] Y.X.env := by rfl) :
    EvP Y s (.Call (.Name "all" p) [.GeneratorExp elt [⟨tg, iter, ifs, 0⟩] scope gpos] [] pos) (pu (((items.filter c).map h).all id)) := fun F0 σ H F e0 S => by
  intro pins s0 I
  refine wpAny_Call_Name_kw (ld_blt I hg (B.no _ (by decide)) (show bootBuiltins "all" = some (.builtin "all") by decide +kernel) ?_)
  refine PyProof.Rows.callWith_builtin1 ?_ he (by rfl)
  rw [he]
  show wpAny _ _ (spliced ((false, eval (.GeneratorExp elt [⟨tg, iter, ifs, 0⟩] scope gpos) Y.X.env) :: backTo pos (starEach [] Y.X.env))) _ _ s0
  refine Calls.spliced_cons (gen_made ok hk hi G tb L hs e0 S I fun a s5 M => ?_)
  obtain ⟨z, F2, gn, e2, I3, hf, hgn, st⟩ := M.go
  obtain ⟨oa, _, _, hoa, _, hda, _⟩ := id hgn
  obtain ⟨_, st⟩ := st [a] s5 (List.mem_singleton.mpr rfl) (fun b hb => .inl (List.mem_singleton.mp hb)) rfl rfl (fun _ _ e => e) (fun b hb => by rw [List.mem_singleton.mp hb]; exact ⟨oa, hoa, fun v q => by rw [hda] at q; cases q⟩)
  refine Calls.spliced_nil ?_
  refine call_function_tree PySem.F.kind_all PySem.F.plain_all PySem.F.entry_all (PySem.F.args_all1 _) ?_
  unfold Builtin.«all»
  refine wpAny_bind (m := oneArg "all" _) (wpAny_pure ?_)
  refine wpAny_bind (wpAny_pyIter_gen hgn ?_)
  refine wpAny_pure ⟨plainId_quiet PySem.F.plain_all_loop _, all_go ((gen_sw (A := Y.X.A.in1) (List.mem_singleton.mpr rfl) ok.room.hd ok.room.depth).imp fun i v => ys_bool) _ 0 s5 rfl (Nat.zero_le _) st fun s6 g6 => ?_⟩
  obtain ⟨H', F', I6, e6, S6⟩ := made_back e2 I3 hf g6
  exact ⟨.bl _, H', I6, by rw [List.drop_zero]; rfl, F', e6, rfl, S6⟩
end
end
end Sp
set_option maxHeartbeats 4000000
/-! Sp: sum(..) over a generator expression. -/
namespace Sp
open PySem L2
open PySem.W (Datum DatumOrd SomeDatum)
/-- all partial sums are small -/
def SumOk (ys : List Int) : Prop := ∀ j : Nat, j < ys.length → InLong (ys.getD j 0) ∧ InLong ((ys.take (j + 1)).sum)
theorem sumOk_small {ys : List Int} (hx : ∀ x ∈ ys, -(2 ^ 40) ≤ x ∧ x ≤ 2 ^ 40) (hn : ys.length ≤ 2 ^ 20) : SumOk ys := PyProof.Rows.sumFits_small hx hn
section
variable {prog : Program} {w : World} {A : Around} {a T0 : Addr} {S : List Addr} {St : Nat → Shared → Prop} {D : Shared → Prop} {R : Result → Shared → Prop}
theorem sum_go {ys : List Int} (hT : T0 ∈ S) (W : SW prog w A.in1 a S ys.length St (fun i v => ∃ y, ys[i]? = some y ∧ RelV (V.int y) v) D) (hfit : SumOk ys)
    (up : ∀ i s x c tk, St i s → s.heap.get? T0 = some { cls := .type "list", dict := none, data := .seq x c, slots := #[] } → ∀ f, St i { s with heap := s.heap.update T0 (Obj.mapSeq f), toks := tk }) :
    ∀ (k i : Nat) (s : Shared) (tot : Int) (tA : Tok) (c : Nat), tot = (ys.take i).sum → ys.length - i = k → i ≤ ys.length → St i s → s.heap.get? T0 = some { cls := .type "list", dict := none, data := .seq #[.int tot tA] c, slots := #[] } →
    (∀ s' t', D s' → R (.ok (.ret (.int ys.sum t'))) s') → codeAny (model prog w) A (.builtin "sum.loop" ⟨[.ref a, .ref T0, rawInt 0, rawInt 0], []⟩) R s := by
  intro k
  induction k with
  | zero =>
    intro i s tot tA c htot hk hi hst hS hR
    subst htot
    obtain rfl : i = ys.length := by omega
    rw [List.take_length] at hS
    refine codeAny_builtin F.entry_sum_loop ?_
    rw [Around.under_plainId F.plain_sum_loop _]
    show wpAny _ A.in1 (seqItems? (.ref T0) >>= _) _ _ s
    refine wpAny_bind (wpAny_seqItems hS rfl ?_)
    show wpAny _ A.in1 (tryCatch (pyNext (.ref a)) _ >>= _) _ _ s
    exact wpAny_bind (wpAny_tryCatch (W.done s _ _ hst fun s' hm => wpAny_pure (hR s' tA hm)))
  | succ k ih =>
    intro i s tot tA c htot hk hi hst hS hR
    subst htot
    have hlt : i < ys.length := by omega
    refine codeAny_builtin F.entry_sum_loop ?_
    rw [Around.under_plainId F.plain_sum_loop _]
    show wpAny _ A.in1 (seqItems? (.ref T0) >>= _) _ _ s
    refine wpAny_bind (wpAny_seqItems hS rfl ?_)
    show wpAny _ A.in1 (tryCatch (pyNext (.ref a)) _ >>= _) _ _ s
    refine wpAny_bind (wpAny_tryCatch (W.item i s _ _ hlt hst fun v s' ⟨y, hy, t, ev⟩ hst' kp => ?_))
    subst ev
    have hS' := kp T0 hT _ hS
    obtain ⟨⟨f1, f2⟩, f3, f4⟩ := hfit i hlt
    have e1 : ys.getD i 0 = y := by rw [List.getD_eq_getElem?_getD, hy]; rfl
    have e2 : (ys.take (i + 1)).sum = (ys.take i).sum + y := by rw [List.take_add_one, hy, Option.toList_some, List.sum_append]; simp
    rw [e1] at f1 f2
    rw [e2] at f3 f4
    have hc : ((decide (-(2 ^ 63) ≤ y) && decide (y < 2 ^ 63)) && (decide (-(2 ^ 63) ≤ (ys.take i).sum + y) && decide ((ys.take i).sum + y < 2 ^ 63))) = true := by
      simp only [Bool.and_eq_true, decide_eq_true_eq]
      exact ⟨⟨f1, f2⟩, f3, f4⟩
    show wpAny _ A.in1 (if (_ : Bool) = true then (mkInt ((ys.take i).sum + y) >>= _) else _) _ _ _
    split
    · refine wpAny_bind (wpAny_mkInt ?_)
      show wpAny _ A.in1 (updateSeq T0 (fun _ => #[.int ((ys.take i).sum + y) s'.toks]) >>= _) _ _ _
      refine wpAny_bind (wpAny_updateSeq hS' rfl (wpAny_pure ⟨plainId_quiet F.plain_sum_loop _, ih (i + 1) _ _ s'.toks _ e2.symm (by omega) hlt (up _ s' _ _ _ hst' hS' _) (Heap.get?_update_self _ hS' rfl) hR⟩))
    · rename_i hneg
      exact absurd hc hneg
end
section
variable {Y : DX} {k : Nat} {scope : Scope} {s : DSt} {σ : St} {β : Type} [Enc β]
variable {vs ws : List Nat} {tg elt iter : Expr} {ifs : List Expr} {g : TG} {f : β → Rho → Rho} {items : List β} {c : β → Bool} {gpos pos p : Pos}
/-- sum(e for tg in iter if ..) -/
theorem evp_sumG {h : β → Int} (ok : YOk Y) (B : Bis Y.X.mg) (hg : Gl Y.X "sum") (hk : k + 2 ≤ Y.k) (hi : EvIt Y s tg iter items) (G : GenOk Y.X.N Y.X.env.scope scope vs) (tb : Tbl Y.X Y.T (Y.X.env.qual ++ "<genexpr>"))
    (L : GTurns Y k s scope vs tg elt ifs g ws f items c h) (hfit : SumOk ((items.filter c).map h)) (hs : ∀ x, genFold iter Y.X.env x = pure x := by intro _; rfl)
    (he : starEach [.GeneratorExp elt [⟨tg, iter, ifs, 0⟩] scope gpos] Y.X.env = (false, eval (.GeneratorExp elt [⟨tg, iter, ifs, 0⟩] scope gpos) Y.X.env) :: starEach [] Y.X.env := by rfl) :
    EvP Y s (.Call (.Name "sum" p) [.GeneratorExp elt [⟨tg, iter, ifs, 0⟩] scope gpos] [] pos) (pu ((items.filter c).map h).sum) := fun F0 σ H F e0 S => by
  intro pins s0 I
  refine wpAny_Call_Name_kw (ld_blt I hg (B.no _ (by decide)) PyProof.Rows.boot_sum ?_)
  refine PyProof.Rows.callWith_builtin1 ?_ he (by rfl)
  rw [he]
  show wpAny _ _ (spliced ((false, eval (.GeneratorExp elt [⟨tg, iter, ifs, 0⟩] scope gpos) Y.X.env) :: backTo pos (starEach [] Y.X.env))) _ _ s0
  refine Calls.spliced_cons (gen_made ok hk hi G tb L hs e0 S I fun a s5 M => ?_)
  obtain ⟨z, F2, gn, e2, I3, hf, hgn, st⟩ := M.go
  obtain ⟨oa, _, _, hoa, _, hda, _⟩ := id hgn
  refine Calls.spliced_nil ?_
  refine call_function_tree PySem.F.kind_sum PySem.F.plain_sum PySem.F.entry_sum (PySem.F.args_sum1 _) ?_
  unfold Builtin.«sum»
  simp only [List.length_cons, List.length_nil]
  rw [if_neg (by decide)]
  refine wpAny_bind (wpAny_of_eq (show Builtin.Builtins.bindParams "sum" ["start"] 0 { } = pure [none] from rfl) ?_)
  refine wpAny_bind (wpAny_pyIter_gen hgn ?_)
  refine wpAny_bind (wpAny_mkInt (wpAny_bind (wpAny_pure ?_)))
  simp only [List.forIn_cons, List.forIn_nil]
  refine wpAny_bind (wpAny_bind (wpAny_bind (wpAny_isInstance (T := "int") (b := false) (typeIs_int _ _ _) PySem.F.sub_int_str ?_)))
  simp only [Bool.false_eq_true, if_false]
  refine wpAny_pure (wpAny_bind (wpAny_bind (wpAny_isInstance (T := "int") (b := false) (typeIs_int _ _ _) PySem.F.sub_int_bytes ?_)))
  simp only [Bool.false_eq_true, if_false]
  refine wpAny_pure (wpAny_bind (wpAny_bind (wpAny_isInstance (T := "int") (b := false) (typeIs_int _ _ _) PySem.F.sub_int_bytearray ?_)))
  simp only [Bool.false_eq_true, if_false]
  refine wpAny_pure (wpAny_pure (wpAny_bind (wpAny_newObj_type ?_)))
  generalize hs6 : ({ s5 with toks := s5.toks + 1, heap := s5.heap.push { cls := .type "list", data := .seq #[.int 0 s5.toks] } } : Shared) = s6
  have kp6 : ∀ b o, s5.heap.get? b = some o → s6.heap.get? b = some o := fun b o e => by rw [← hs6]; exact Heap.get?_push_of_some _ e
  have hT6 : s6.heap.get? s5.heap.objs.size = some { cls := .type "list", data := .seq #[.int 0 s5.toks] } := by rw [← hs6]; exact Heap.get?_push_size _ rfl
  have hal : a < s5.heap.objs.size := Heap.lt_size hoa
  obtain ⟨ap, st6⟩ := st [a, s5.heap.objs.size] s6 (by simp) (fun b hb => by
    rcases List.mem_cons.mp hb with q | q
    · exact .inl q
    · exact .inr (by rw [List.mem_singleton.mp q]; exact Nat.le_refl _)) (by rw [← hs6]) (by rw [← hs6]) kp6 (fun b hb => by
    rcases List.mem_cons.mp hb with q | q
    · exact ⟨oa, by rw [q]; exact kp6 _ _ hoa, fun v q => by rw [hda] at q; cases q⟩
    · exact ⟨_, by rw [List.mem_singleton.mp q]; exact hT6, fun v q => by cases q⟩)
  refine wpAny_pure ⟨plainId_quiet PySem.F.plain_sum_loop _, sum_go (A := Y.X.A) (T0 := s5.heap.objs.size) (S := [a, s5.heap.objs.size]) (by simp) ((gen_sw (A := Y.X.A.in1) (by simp) ok.room.hd ok.room.depth)) hfit (fun i s7 x c7 tk st7 h7 f => ?_) _ 0 s6 0 s5.toks 0 (by simp) rfl (Nat.zero_le _) st6 hT6 fun s8 t8 g8 => ?_⟩
  · obtain ⟨gs, q1, q2, q3, q4, q5⟩ := id st7
    refine st7.aw ap ⟨rfl, q3.bare, fun b o hb e => ?_, fun b hb => ?_⟩ rfl fun o e => ?_
    · exact (Heap.get?_update_other _ _ (fun q => hb (by rw [← q]; simp))).trans e
    · by_cases q : b = s5.heap.objs.size
      · rw [q]
        exact ⟨_, Heap.get?_update_self _ h7 rfl, fun v q => by cases q⟩
      · obtain ⟨o, e, hc⟩ := q4 b hb
        exact ⟨o, (Heap.get?_update_other _ _ (Ne.symm q)).trans e, hc⟩
    · exact (Heap.get?_update_other _ _ (Nat.ne_of_gt hal)).trans e
  · obtain ⟨H', F', I6, e6, S6⟩ := made_back e2 I3 hf g8
    exact ⟨.int _, H', I6, ⟨_, rfl⟩, F', e6, rfl, S6⟩
end
end Sp
set_option maxHeartbeats 4000000
/-! Sp: a law's defs by the head's facts, the law's end. -/
namespace Sp
open PySem L2
abbrev TQ := List (He.Defn × Str)
def tbOf (K : Frag) (tq : TQ) : Tb := tq.map fun p => ((He.cT K p.1).2, p.2)
/-- what a law's defs lean on -/
structure LK (w : World) (K : Frag) (mg : Str → Option Value) (base : Heap) (fa : List He.Fa) (fn : List He.DefD) (tq : TQ) : Prop where
  d : He.SaysD fa fn K
  X : K.In base
  G : base.Ns mainGlobals mg
  tb : ∀ p ∈ tq, LamX.TabB base mg (He.cT K p.1).1 (He.cT K p.1).2
  nd : (tq.map fun p => (He.cT K p.1).2).Nodup
section
variable {P : Program} {w : World} {K : Frag} {mg : Str → Option Value} {base : Heap} {fa : List He.Fa} {fn : List He.DefD} {tq : TQ}
/-- a def's function object -/
structure Fd (K : Frag) (d : He.DefD) (ps : List Str) (fd : FuncData) : Prop where
  F : FunD K d.name d.qual d.params d.body d.scope [] [] (He.fAd K d.at_) fd
  b : Binds K fd ps []
theorem nd_map {α β : Type} {f : α → β} : ∀ {l : List α}, (l.map f).Nodup → ∀ {a b : α}, a ∈ l → b ∈ l → f a = f b → a = b
  | [], _, _, _, h, _, _ => by cases h
  | x :: l, n, a, b, ha, hb, e => by
    rw [List.map_cons, List.nodup_cons] at n
    rcases List.mem_cons.mp ha with ha' | ha'
    · rcases List.mem_cons.mp hb with hb' | hb'
      · rw [ha', hb']
      · rw [ha'] at e
        exact absurd (by rw [e]; exact List.mem_map_of_mem hb') n.1
    · rcases List.mem_cons.mp hb with hb' | hb'
      · rw [hb'] at e
        exact absurd (by rw [← e]; exact List.mem_map_of_mem ha') n.1
      · exact nd_map n.2 ha' hb' e
/-- a def keeps its promise -/
theorem df_ok {k : Nat} {N ps : List Str} {d : He.DefD} {fd : FuncData} (L : LK w K mg base fa fn tq) (F1 : Fd K d ps fd) (S : FnScope N ps d.scope) (dd : DSp) (hl : ∀ As gs R E, dd As gs R E → As.length = ps.length)
    (body : ∀ (cdv : Value) (A : Around) (outer : List Env) (s : Shared) (H F : Hp) (gs : Gs) (E : XK) (ex : Exc → DSt → Prop) (As : List Pv) (R : Pv → Gs → Prop) (X : Exc → Gs → Prop), dd As gs R X → (∀ e s', (∃ n, X e (s'.gs.drop n)) → ex e s') →
      (∀ q, (d.at_, q) ∈ tq → Tbl (bodyY P w K mg base (tbOf K tq) k N d.qual d.scope (He.fAd K d.at_) cdv A outer s H F gs E ex).X (tbOf K tq) q) →
      YOk (bodyY P w K mg base (tbOf K tq) k N d.qual d.scope (He.fAd K d.at_) cdv A outer s H F gs E ex) →
      Ws (bodyY P w K mg base (tbOf K tq) k N d.qual d.scope (He.fAd K d.at_) cdv A outer s H F gs E ex) ⟨As.map some ++ List.replicate (N.length - ps.length) none, gs⟩ d.body { nx := fun s' => ∃ n, R (pu ()) (s'.gs.drop n), rt := fun A s' => ∃ n, R A (s'.gs.drop n) }) :
    FnOk P w K mg base (L2.CX P w) (k + 1) (He.fAd K d.at_) fd ps (toSp K (tbOf K tq) ps.length dd) := by
  obtain ⟨oc, od, dV, kV, doc, pm, an, cdv, ct, osl, rfl, lk, hcd, _, _⟩ := F1.F.ex
  obtain ⟨c, rfl⟩ := He.codeIn_ref hcd
  have ec : He.codeOf K d.at_ = c := He.codeOf_eq lk rfl
  refine fn_of lk hcd S (fun vs H Q E h => h.1) fun A outer s H vs Q E hr h => ?_
  obtain ⟨hn, As, gs, F, r, G, hd⟩ := h
  have hAl := hl _ _ _ _ hd
  let Y : DX := bodyY P w K mg base (tbOf K tq) k N d.qual d.scope (He.fAd K d.at_) (.ref c) A outer s H F gs E (fun e s' => ∀ cls dd H' F', ExcRep e cls dd H' → Stg K (tbOf K tq) s'.gs H' F' → Step H F (ads gs) H' F' (ads s'.gs) → E cls dd H')
  have tk0 : Takes Y.X (fun cls d _ H => E cls d H) := takes_of rfl rfl rfl rfl
  have ok : YOk Y := ⟨rfl, S.nd, hr, passes_of rfl, tk0.imp fun c d' σ H' ⟨e, s', F', St, er, q⟩ => q c d' H' F' er St.stg St.st⟩
  have tbl : ∀ q, (d.at_, q) ∈ tq → Tbl Y.X (tbOf K tq) q := fun q hq => by
    have h1 := L.tb _ hq
    have e1 : (He.cT K d.at_).1 = c := ec
    refine ⟨c, (He.cT K d.at_).2, by rw [← e1]; exact h1, rfl, List.mem_map.mpr ⟨_, hq, rfl⟩, fun p hp e => ?_⟩
    obtain ⟨z, hz, ez⟩ := List.mem_map.mp hp
    subst ez
    have := nd_map L.nd hz hq e
    rw [this]
  have b := body (.ref c) A outer s H F gs E _ As _ _ hd (fun e s' ⟨n, q⟩ cls dd H' F' r G' t' => q cls dd H' F' r (G'.drop n) (t'.sub (ads_drop n))) tbl ok
  refine ⟨_, pss_ws, ?_⟩
  have S0 : Sta Y ⟨As.map some ++ List.replicate (N.length - ps.length) none, gs⟩ (L2.start N vs) H F := by
    refine ⟨G.ext, G.ntb, ?_, G.own, G.nd, G.tb, Step.refl⟩
    unfold L2.start
    rw [hn]
    exact reps_start r _
  refine (b F (L2.start N vs) H F (.refl _) S0).mono (fun σ' H' ⟨s', F', e1, S', q⟩ => ?_) (fun v H' ⟨A', s', σ', F', e1, r', S', q⟩ => ?_) (fun σ' H' ⟨s', F', e1, S', q⟩ => q.elim) (fun σ' H' ⟨s', F', e1, S', q⟩ => q.elim)
  · obtain ⟨n, q⟩ := q
    exact q .non H' F' rfl (S'.stg.drop n) (S'.st.sub (ads_drop n))
  · obtain ⟨n, q⟩ := q
    exact q v H' F' r' (S'.stg.drop n) (S'.st.sub (ads_drop n))
theorem LK.fd (c : He.SaysD fa fn K) (i : Nat) {d : He.DefD} (ps : List Str) (h : fn[i]? = some d := by rfl)
    (hb : ∀ (kV doc pm : Value) (an : Option Addr) (cdv ct : Value) (us : List Value), us.length = ps.length → bindArgs (PySem.W.fnOf d.name d.qual d.params d.body d.scope .none kV doc pm an cdv ct) ⟨us, []⟩ = pure (ps.zip us)) (h0 : ∀ K, d.dvs K = [] := by intro _; rfl) (h1 : ∀ K, d.kws K = [] := by intro _; rfl) : ∃ fd, Fd K d ps fd := by
  obtain ⟨fd, F⟩ := c.def_ i h
  rw [h0, h1] at F
  exact ⟨fd, F, F.bindsN hb⟩
theorem LK.df {k : Nat} {x : Str} {d : He.DefD} {ps : List Str} {fd : FuncData} {dd : DSp} (L : LK w K mg base fa fn tq) (F1 : Fd K d ps fd) (h : FnOk P w K mg base (L2.CX P w) k (He.fAd K d.at_) fd ps (toSp K (tbOf K tq) ps.length dd)) (m : DMono dd) (i : Nat) (hi : fa[i]? = some (.glo x) := by rfl) (hx : d.at_ = (x, none) := by rfl) : Df P w K mg base (tbOf K tq) k x ps dd := by
  have g := He.glo_ok L.X L.G (L.d.fact i hi)
  have e : He.fAd K d.at_ = He.ga K x := by rw [hx]; rfl
  exact ⟨⟨_, fd, h, by rw [e]; exact g, F1.F.kp, F1.b⟩, m⟩
theorem LK.mt {k : Nat} {x m : Str} {d : He.DefD} {ps : List Str} {fd : FuncData} {dd : DSp} (L : LK w K mg base fa fn tq) (F1 : Fd K d ps fd) (h : FnOk P w K mg base (L2.CX P w) k (He.fAd K d.at_) fd ps (toSp K (tbOf K tq) ps.length dd)) (mo : DMono dd) (i : Nat) (hi : fa[i]? = some (.meth x m) := by rfl) (hx : d.at_ = (x, some m) := by rfl) : Mt P w K mg base (tbOf K tq) k (He.ga K x) m ps dd := by
  have g := He.meth_ok (L.d.fact i hi)
  have e : He.fAd K d.at_ = He.ma K (He.ga K x) m := by rw [hx]; rfl
  exact ⟨⟨_, fd, h, by rw [e]; exact g, F1.b⟩, mo⟩
theorem LK.mkr {k : Nat} {x : Str} {d : He.DefD} {ps : List Str} {fd : FuncData} {dd : DSp} (L : LK w K mg base fa fn tq) (F1 : Fd K d ps fd) (h : FnOk P w K mg base (L2.CX P w) k (He.fAd K d.at_) fd ps (toSp K (tbOf K tq) ps.length dd)) (mo : DMono dd) (i j : Nat) (hi : fa[i]? = some (.mkr x) := by rfl) (hj : fa[j]? = some (.glo x) := by rfl) (hx : d.at_ = (x, some ("__init__" : Str)) := by rfl) : Mkr P w K mg base (tbOf K tq) k x (He.ga K x) ps dd := by
  have g := He.mkr_ok (L.d.fact i hi)
  have e : He.fAd K d.at_ = He.ma K (He.ga K x) "__init__" := by rw [hx]; rfl
  exact ⟨⟨_, fd, h, by rw [e]; exact g, F1.b⟩, He.glo_ok L.X L.G (L.d.fact j hj), mo⟩
theorem LK.err {x : Str} (L : LK w K mg base fa fn tq) (i j : Nat) (hi : fa[i]? = some (.exc x) := by rfl) (hj : fa[j]? = some (.glo x) := by rfl) : ErrC K mg x (He.ga K x) := by
  obtain ⟨h1, h2, h3, h4⟩ := He.exc_ok (L.d.fact i hi)
  exact ⟨He.glo_ok L.X L.G (L.d.fact j hj), h1, h2, h3, h4⟩
/-- a heap without its tables -/
def noTb (H : Hp) : Hp := fun b => match H b with
  | some o => (match isTbl o with
    | true => none
    | false => some o)
  | none => none
theorem noTb_some {H : Hp} {b : Addr} {o : HO} (h : noTb H b = some o) : H b = some o ∧ isTbl o = false := by
  unfold noTb at h
  cases q : H b with
  | none => rw [q] at h; cases h
  | some u =>
    rw [q] at h
    cases t : isTbl u with
    | true =>
      simp only [t] at h
      cases h
    | false =>
      simp only [t] at h
      cases h
      exact ⟨rfl, t⟩
theorem noTb_of {H : Hp} {b : Addr} {o : HO} (h : H b = some o) (t : isTbl o = false) : noTb H b = some o := by
  unfold noTb
  rw [h]
  simp only [t]
/-- the law's end -/
theorem law_end {l : PySem.W.OpenLaw} {n k : Nat} {h : Heap} {x : Str} {fA : Addr} {ts : List He.Tab} {ex : Frag → Bool} {d : He.DefD} {fd : FuncData} {dd : DSp}
    (KX : K.In h) (c : He.SaysX fa fn ts (tq.map (·.1)) ex w h K) (nd : (tq.map fun p => (He.cT K p.1).2).Nodup)
    (F1 : Fd K d [x] fd) (hf : He.fAd K d.at_ = fA) (hb : ∀ (kV doc pm : Value) (an : Option Addr) (cdv ct : Value) (us : List Value), us.length = [x].length → bindArgs (PySem.W.fnOf d.name d.qual d.params d.body d.scope .none kV doc pm an cdv ct) ⟨us, []⟩ = pure ([x].zip us))
    (m : DMono dd) (hd : ∀ ns : List Int, ns.length ≤ n → (∀ z ∈ ns, Builtin.Int.intBits z ≤ 1048576) → dd [pu ns] [] (fun A _ => A = pu true) fun _ _ => False)
    (F : ∀ base : Heap, LK w K mg base fa fn tq → FnOk l.prog w K mg base (L2.CX l.prog w) k (He.fAd K d.at_) fd [x] (toSp K (tbOf K tq) 1 dd)) :
    LamX.LawAtS l w K (L2.CX l.prog w) k n x mg fA h := by
  subst hf
  refine ⟨fd, (tq.map (·.1)).map (He.cT K), _, fun p hp => ?_, fun p hp => ?_, fun p hp => ?_, fun s u => ?_, fun H a ns hl hbits hT hS => ?_, fun base KB GB TB => F base ⟨c.t.d, KB, GB, fun p hp => TB _ ?_, nd⟩⟩
  · obtain ⟨q, hq, e⟩ := List.mem_map.mp hp
    subst e
    exact c.empty q hq
  · obtain ⟨q, hq, e⟩ := List.mem_map.mp hp
    subst e
    exact c.out q hq
  · obtain ⟨q, hq, e⟩ := List.mem_map.mp hp
    subst e
    exact PySem.W.codeHd_of_K KX (c.hd q hq)
  · exact F1.F.bindsA hb s [u] rfl
  · refine ⟨rfl, [pu ns], [], noTb H, .cons ?_ .nil, ⟨fun b o e => (noTb_some e).1, fun b o e => (noTb_some e).2, fun p hp => (by cases hp), .nil, fun p hp => ?_⟩, ?_⟩
    · refine ⟨a, ns.map V.int, rfl, ?_, ?_⟩
      · rcases hS with hS | q
        · rcases hS with q | ⟨o, q⟩
          · exact .inl (.inl (noTb_of q rfl))
          · exact .inl (.inr ⟨o, noTb_of q rfl⟩)
        · exact .inr q
      · show Paired _ _ _
        clear hd hl hbits hS
        induction ns with
        | nil => exact .nil
        | cons z ns ih => exact .cons rfl ih
    · obtain ⟨q, hq, e⟩ := List.mem_map.mp hp
      subst e
      exact LamX.TabS.nil (hT (He.cT K q.1) (List.mem_map.mpr ⟨q.1, List.mem_map.mpr ⟨q, hq, rfl⟩, rfl⟩))
    · exact m _ _ _ _ _ _ (fun A g e v H' F' r _ _ => by subst e; exact r) (fun e g z => z.elim) (hd ns hl hbits)
  · exact List.mem_map.mpr ⟨p.1, List.mem_map.mpr ⟨p, hp, rfl⟩, rfl⟩
end
end Sp
set_option maxHeartbeats 4000000
/-! Sp: an owned list's places, int(..), chains of comparisons. -/
namespace Sp
open PySem L2
section
variable {Y : DX} {s : DSt} {e a b c d o : Expr} {es : List Expr} {pos p apos : Pos} {Q : Pv → DSt → Prop} {D : DE} {A B : Pv}
/-- x[i] = e, x an owned list -/
theorem w1_lput {α : Type} [Enc α] {q : Addr} {p2 : Pos} (i : Nat)
    (hv : Ev Y s e fun X s1 => ∃ (x : α) (xs : List α) (k : Int) (j : Nat), X = pu x ∧ s1.gs[i]? = some (q, lstc xs) ∧ EvP Y s1 a (raw (.ref q)) ∧ EvP Y s1 b (pu k) ∧ ixN xs.length k = some j ∧ D.nx ⟨s1.ρ, s1.gs.set i (q, lstc (xs.set j x))⟩)
    (hs : swapsWithSole [Expr.Subscript a b p2] e pos.line Y.X.env = pure false := by rfl) (hw : swappedStores [Expr.Subscript a b p2] e Y.X.env = pure none := by rfl) (h1 : (assignEach [Expr.Subscript a b p2] Y.X.env).map (·.2) = [assign (Expr.Subscript a b p2) Y.X.env] := by rfl)
    (ha : ∀ v, assign (.Subscript a b p2) Y.X.env v = (do
      let ov ← holding [v] (eval a Y.X.env)
      let iv ← holding [v, ov] (eval b Y.X.env)
      standAt p2
      holding [v, ov, iv] (setItem ov iv v)
      release [v, ov, iv] []) := by intro _; rfl) : W1 Y s (.Assign [.Subscript a b p2] e pos) D := fun F0 σ H F e0 S => by
  refine .of (ps_asg pe_we (pg_sub pe_we pe_we set_list ha) hs hw h1) ?_
  refine (hv F σ H F (.refl _) S).mono fun v H1 ⟨X, s1, F1, e1, r1, S1, x, xs, k, j, ex, hi, ho, hb, hj, k1⟩ => ?_
  subst ex
  refine (ho F1 σ H1 F1 (.refl _) S1).mono fun u H2 ⟨F2, e2, r2, S2⟩ => ?_
  refine (hb F2 σ H2 F2 (.refl _) S2).mono fun w H3 ⟨F3, e3, r3, S3⟩ => ?_
  obtain ⟨hF, oo, hoo, _, zs, eo, rv⟩ := S3.cell hi
  subst eo
  refine ⟨q, zs, k, j, r2, r3, hoo, by rw [show zs.length = xs.length from Paired.length rv]; exact hj, _, F3, ((e0.trans e1).trans e2).trans e3, ?_, k1⟩
  exact S3.write (c' := lstc (xs.set j x)) hi hoo (not_codeL rfl) rfl ⟨_, rfl, prd_set rv (Enc.mono (α := α) r1 (e2.trans e3)) j⟩
/-- int(i), int(b) -/
theorem evp_int1 {i : Int} (T : Bis Y.X.mg) (hg : Gl Y.X "int") (ha : EvP Y s a (pu i)) (he : starEach [a] Y.X.env = (false, eval a Y.X.env) :: starEach [] Y.X.env := by rfl) : EvP Y s (.Call (.Name "int" p) [a] [] pos) (pu i) :=
  evp_T1 call_int1 hg (T.no _ (by decide)) PySem.Pv.boot_int ha (fun F0 σ H F v e0 S h1 => .inl ⟨i, by cases h1; rfl, F, e0, rfl, S⟩) (by decide) (by decide) he
theorem evp_intB {x : Bool} (T : Bis Y.X.mg) (hg : Gl Y.X "int") (ha : EvP Y s a (pu x)) (he : starEach [a] Y.X.env = (false, eval a Y.X.env) :: starEach [] Y.X.env := by rfl) : EvP Y s (.Call (.Name "int" p) [a] [] pos) (pu (if x = true then (1 : Int) else 0)) :=
  evp_T1 call_int1 hg (T.no _ (by decide)) PySem.Pv.boot_int ha (fun F0 σ H F v e0 S h1 => .inr ⟨x, by cases h1; rfl, F, e0, rfl, S⟩) (by decide) (by decide) he
/-- a < b < c, ints -/
theorem etp_ltlt {i j k : Int} (ha : EvP Y s a (pu i)) (hb : EvP Y s b (pu j)) (hc : EvP Y s c (pu k)) (hm : lastMarks [.Lt, .Lt] [b, c] = false := by with_unfolding_all rfl) : EtP Y s (.Compare a [.Lt, .Lt] [b, c] pos) (decide (i < j) && decide (j < k)) := fun F0 σ H F e0 S => by
  refine .of (pt_chain op_lt op_lt pe_we pe_we pe_we hm) ?_
  refine (ha F0 σ H F e0 S).mono fun v H1 ⟨F1, e1, r1, S1⟩ => ?_
  refine (hb F1 σ H1 F1 (.refl _) S1).mono fun u H2 ⟨F2, e2, r2, S2⟩ => ?_
  refine ⟨i, j, r1, r2, _, rfl, ?_⟩
  by_cases h : i < j
  · rw [if_pos (decide_eq_true h)]
    refine (hc F2 σ H2 F2 (.refl _) S2).mono fun w H3 ⟨F3, e3, r3, S3⟩ => ?_
    exact ⟨j, k, r2, r3, _, rfl, by simp [h], F3, ((e1.trans e2).trans e3), S3⟩
  · rw [if_neg (by simpa using h)]
    exact ⟨false, rfl, by simp [h], F2, e1.trans e2, S2⟩
/-- the owned cells in another order -/
theorem ev_perm (h : Ev Y s e fun A s' => ∃ gs', s'.gs.Perm gs' ∧ Q A ⟨s'.ρ, gs'⟩) : Ev Y s e Q := fun F0 σ H F e0 S => (h F0 σ H F e0 S).mono fun v H1 ⟨A, s1, F1, e1, r1, S1, gs', hp, q⟩ => ⟨A, _, F1, e1, r1, S1.perm hp, q⟩
theorem ws_perm {sts : List Stmt} {gs' : Gs} (hp : s.gs.Perm gs') (h : Ws Y ⟨s.ρ, gs'⟩ sts D) : Ws Y s sts D := fun F0 σ H F e0 S => h F0 σ H F e0 (S.perm hp)
/-- cells forgotten -/
theorem ws_drop {sts : List Stmt} (n : Nat) (h : Ws Y ⟨s.ρ, s.gs.eraseIdx n⟩ sts D) : Ws Y s sts D := fun F0 σ H F e0 S => h F0 σ H F e0 (S.drop n)
end
end Sp
set_option maxHeartbeats 4000000
/-! Sp: sources that change the state. -/
namespace Sp
open PySem L2
section
variable {Y : DX} {s : DSt} {e a b c d o tg iter elt : Expr} {es ifs : List Expr} {pos p apos : Pos} {Q : Pv → DSt → Prop} {D : DE} {A B : Pv} {scope : Scope} {own : List (Str × Nat)}
variable {α β : Type} [Enc α] [Enc β]
def EvItE (Y : DX) (s : DSt) (tg iter : Expr) {β : Type} [Enc β] (G : List β → DSt → Prop) : Prop :=
  ∃ wi, PI Y.X tg iter wi ∧ ∀ F0 σ H F (R : It → Hp → Prop), Ext F0 F → Sta Y s σ H F → (∀ J H' F' items s', Ext F0 F' → Sta Y s' σ H' F' → ItOk Y.X.K J F' items → G items s' → R J H') → wi σ H R
theorem EvIt.toE {items : List β} (h : EvIt Y s tg iter items) : EvItE Y s tg iter (fun is s' => is = items ∧ s' = s) := by
  obtain ⟨wi, h1, h2⟩ := h
  exact ⟨wi, h1, fun F0 σ H F R e0 S k => h2 F0 σ H F R e0 S fun J H' F' e1 S1 K1 => k J H' F' items s e1 S1 K1 ⟨rfl, rfl⟩⟩
theorem it_listE {G : List α → DSt → Prop} (h : Ev Y s iter fun A s' => ∃ xs : List α, A = pu xs ∧ G xs s') : EvItE Y s tg iter G :=
  ⟨_, pi_list pe_we, fun F0 σ H F R e0 S k => (h F0 σ H F e0 S).mono fun v H' ⟨A, s', F', e1, r, S', xs, ea, q⟩ => by
    subst ea
    obtain ⟨p, vs, ev, hq, rv⟩ := r
    exact ⟨p, ev, ⟨vs, sqL_ext hq S'.ext⟩, k _ _ F' xs s' e1 S' (fun i H2 F2 e2 e3 => ⟨fun x hx => by
      have hq2 := sqL_ext (sqL_ext hq e2) e3
      obtain ⟨w, hw, rw'⟩ := prd_get rv hx
      exact ⟨⟨vs, w, hq2, hw⟩, fun v H3 ⟨eh, hv⟩ => .inl ⟨eh, by
        have := hv vs hq2
        rw [hw] at this
        cases this
        exact Enc.mono rw' e2⟩⟩, fun hl => ⟨vs, sqL_ext (sqL_ext hq e2) e3, by rw [rv.length]; exact hl⟩⟩) q⟩⟩
theorem it_range1E {G : List Int → DSt → Prop} (T : Bis Y.X.mg) (hg : Gl Y.X "range") (ha : Ev Y s a fun A s' => ∃ n : Int, A = pu n ∧ -(2 ^ 62) ≤ n ∧ n < 2 ^ 62 ∧ G ((List.range n.toNat).map fun i : Nat => (i : Int)) s') (hs : starEach [a] Y.X.env = [(false, eval a Y.X.env)] := by rfl) : EvItE Y s tg (.Call (.Name "range" p) [a] [] pos) G :=
  ⟨_, pi_range1 hg (T.no _ (by decide)) (pa_cons pe_we pa_nil hs) hs, fun F0 σ H F R e0 S k => (ha F0 σ H F e0 S).mono fun v H' ⟨A, s', F', e1, r, S', n, ea, h1, h2, q⟩ => by
    subst ea
    refine ⟨n, by rw [show v = .int n from r], h1, h2, k _ _ F' _ s' e1 S' (fun i H2 F2 e2 e3 => ⟨fun x hx => ?_, fun hl => ?_⟩) q⟩
    · rw [List.getElem?_map] at hx
      cases q : (List.range n.toNat)[i]? with
      | none => rw [q] at hx; cases hx
      | some j =>
        rw [q] at hx
        cases hx
        obtain ⟨h5, h6⟩ := List.getElem?_eq_some_iff.mp q
        rw [List.getElem_range] at h6
        subst h6
        rw [List.length_range] at h5
        refine ⟨h5, fun v H3 ⟨eh, hv⟩ => .inl ⟨eh, ?_⟩⟩
        rw [hv]
        show V.int (0 + (i : Int)) = V.int i
        rw [Int.zero_add]
    · show n.toNat ≤ i
      simpa using hl⟩
theorem w1_forE {body : List Stmt} {g : TG} {ws : List Nat} {f : β → Rho → Rho} {G : List β → DSt → Prop} (ok : YOk Y) (hi : EvItE Y s tg iter G) (hg : TgOk Y tg g ws f)
    (h : ∀ items s', G items s' → ∃ Iv : Nat → DSt → Prop, Iv 0 s' ∧ (∀ i x s2, items[i]? = some x → Iv i s2 → Ws Y ⟨f x s2.ρ, s2.gs⟩ body { D with nx := Iv (i + 1), ct := Iv (i + 1), bk := D.nx }) ∧ ∀ s2, Iv items.length s2 → D.nx s2)
    (hs : ∀ x, foldedSetIterable iter Y.X.env x = pure x := by intro _; rfl) : W1 Y s (.For tg iter body [] pos) D := fun F0 σ H F e0 S => by
  obtain ⟨wi, hp, hw⟩ := hi
  refine .of (ps_for ok.pass ok.calm hp hg.1 pss_ws hs) ?_
  refine hw F0 σ H F _ e0 S fun J H1 F1 items s' e1 S1 K1 q => ?_
  obtain ⟨Iv, h0, hstep, hd⟩ := h items s' q
  refine ⟨fun i m σ H => m = items.length - i ∧ i ≤ items.length ∧ ∃ s2 F2, Ext F1 F2 ∧ Sta Y s2 σ H F2 ∧ Iv i s2, ⟨items.length, rfl, Nat.zero_le _, s', F1, .refl _, S1, h0⟩, ?_⟩
  rintro i m σ2 H2 ⟨rfl, hi, s2, F2, e2, S2, iv⟩
  by_cases hlt : i < items.length
  · have hx : items[i]? = some items[i] := List.getElem?_eq_getElem hlt
    refine .inr ⟨((K1 i H2 F2 e2 S2.ext).1 _ hx).1, fun σ' H' => ∃ s3 F3, Ext F1 F3 ∧ Sta Y s3 σ' H' F3 ∧ Iv (i + 1) s3, fun σ' H' ⟨s3, F3, e3, S3, iv3⟩ => ⟨items.length - (i + 1), by omega, rfl, hlt, s3, F3, e3, S3, iv3⟩, fun v H3 y => ?_⟩
    obtain ⟨F3, e3, S3, r3⟩ := K1.yld e2 S2 hx y
    refine hg.2 σ2 H3 F3 v _ s2 _ S3 r3 fun σ4 S4 _ => ?_
    have e9 := (e1.trans e2).trans e3
    exact (hstep i _ s2 hx iv F3 σ4 H3 F3 (.refl _) S4).mono (fun σ' H' ⟨s5, F5, e5, S5, q⟩ => ⟨s5, F5, (e2.trans e3).trans e5, S5, q⟩) (fun v H' q => q.mono e9 fun _ _ h => h)
      (fun σ' H' q => q.mono e9 fun _ h => h) (fun σ' H' ⟨s5, F5, e5, S5, q⟩ => ⟨s5, F5, (e2.trans e3).trans e5, S5, q⟩)
  · have e : i = items.length := by omega
    subst e
    exact .inl ⟨(K1 _ H2 F2 e2 S2.ext).2 (Nat.le_refl _), s2, F2, e1.trans e2, S2, hd s2 iv⟩
/-- what a comprehension over such a source gives -/
def LcG (Y : DX) (scope : Scope) (vs : List Nat) (tg elt : Expr) (ifs : List Expr) (g : TG) (ws : List Nat) (f : β → Rho → Rho) (G : List β → DSt → Prop) {α : Type} [Enc α] (R : List α → DSt → Prop) : Prop :=
  ∀ items s', G items s' → ∃ Iv : Nat → List α → Gs → Prop, LcTurns Y s' scope vs tg elt ifs g ws f items Iv ∧ Iv 0 [] s'.gs ∧ ∀ ys gs, Iv items.length ys gs → R ys ⟨s'.ρ, gs⟩
theorem ev_lcE {g : TG} {ws : List Nat} {f : β → Rho → Rho} {G : List β → DSt → Prop} (ok : YOk Y) (hi : EvItE Y s tg iter G) (bk : BlkOk Y.X.N Y.X.env.scope scope own) (tg0 : ∀ z, TgOk (blkY Y scope z) tg g ws f) (h : LcG Y scope (own.map (·.2)) tg elt ifs g ws f G (α := α) fun ys s' => Q (pu ys) s')
    (hs : ∀ x, foldedSetIterable iter Y.X.env x = pure x := by intro _; rfl) : Ev Y s (.ListComp elt [⟨tg, iter, ifs, 0⟩] scope pos) Q := fun F0 σ H F e0 S => by
  obtain ⟨wi, hp, hw⟩ := hi
  have P := pe_lc (pos := pos) (tt := fun σ H Q => ∀ z, WTs (blkX Y.X scope z) ifs σ H Q) (te := fun σ H Q => ∀ z, WE (blkX Y.X scope z) elt σ H Q) ok.calm ok.nd hp bk (fun s H C cl fp => (tg0 ⟨s, H, C, cl, fp⟩).1) (fun s H C cl fp => ⟨fun pins s' σ H' Q I h => h ⟨s, H, C, cl, fp⟩ pins s' I⟩) (fun s H C cl fp => ⟨fun pins s' σ H' Q I h => h ⟨s, H, C, cl, fp⟩ pins s' I⟩) hs
  refine .of P (hw F0 σ H F _ e0 S fun J H1 F1 items s' e1 S1 K1 q => ?_)
  obtain ⟨Iv, L, h0, hQ⟩ := h items s' q
  have t := tlc_ok (own := own) (wi := fun _ _ R => R J H1) (F0 := F1) (σ := σ) (H := H1) (Qf := Po Y σ F0 Q) (fun R k => k J H1 F1 (.refl _) S1 K1) L h0 fun D H' F' ys gs e2 S2 iv => by
    obtain ⟨hF, o, ho, hot, vs, ev, rv⟩ := S2.cell (i := 0) (p := D) (c := lstc ys) rfl
    subst ev
    have S3 := S2.freeze (i := 0) (p := D) (c := lstc ys) rfl ho
    exact ⟨pu ys, ⟨s'.ρ, gs⟩, upd F' D (.lst vs), (e1.trans e2).trans (Ext.grow hF), ⟨D, vs, rfl, .of upd_same, rv.mono (Ext.grow hF)⟩, S3, hQ ys gs iv⟩
  exact t
/-- a comprehension by its turns -/
theorem ev_lcT {g : TG} {ws : List Nat} {f : β → Rho → Rho} {items : List β} (own : List (Str × Nat)) (ok : YOk Y) (hi : EvIt Y s tg iter items) (bk : BlkOk Y.X.N Y.X.env.scope scope own) (tg0 : ∀ z, TgOk (blkY Y scope z) tg g ws f) (Iv : Nat → List α → Gs → Prop) (h0 : Iv 0 [] s.gs)
    (small : ∀ i ys gs, Iv i ys gs → i < items.length → ys.length < sizeLine)
    (step : ∀ z i x ys gs D, items[i]? = some x → Iv i ys gs → Ets (blkY Y scope z) ⟨f x (wipeR s.ρ (own.map (·.2))), (D, lstc ys) :: gs⟩ ifs fun b s2 =>
      if b = true then ∀ z', Ev (blkY Y scope z') s2 elt fun A s3 => ∃ y gs3, A = pu y ∧ s3.gs = (D, lstc ys) :: gs3 ∧ Iv (i + 1) (ys ++ [y]) gs3 else ∃ gs2, s2.gs = (D, lstc ys) :: gs2 ∧ Iv (i + 1) ys gs2)
    (hQ : ∀ ys gs, Iv items.length ys gs → Q (pu ys) ⟨s.ρ, gs⟩) (sub : ∀ j ∈ ws, j ∈ own.map (·.2) := by decide) (hs : ∀ x, foldedSetIterable iter Y.X.env x = pure x := by intro _; rfl) : Ev Y s (.ListComp elt [⟨tg, iter, ifs, 0⟩] scope pos) Q :=
  ev_lc ok hi bk Iv ⟨tg0, sub, small, step⟩ h0 hQ hs
/-- a quiet comprehension -/
theorem evp_lc {g : TG} {ws : List Nat} {f : β → Rho → Rho} {items : List β} (own : List (Str × Nat)) (c : β → Bool) (h : β → α) (ok : YOk Y) (hi : EvIt Y s tg iter items) (bk : BlkOk Y.X.N Y.X.env.scope scope own) (tg0 : ∀ z, TgOk (blkY Y scope z) tg g ws f) (small : items.length ≤ sizeLine)
    (ht : ∀ z x D ys, x ∈ items → Ets (blkY Y scope z) ⟨f x (wipeR s.ρ (own.map (·.2))), (D, lstc (α := α) ys) :: s.gs⟩ ifs fun b s2 => b = c x ∧ s2 = ⟨f x (wipeR s.ρ (own.map (·.2))), (D, lstc ys) :: s.gs⟩)
    (he : ∀ z x D ys, x ∈ items → c x = true → EvP (blkY Y scope z) ⟨f x (wipeR s.ρ (own.map (·.2))), (D, lstc (α := α) ys) :: s.gs⟩ elt (pu (h x)))
    (sub : ∀ j ∈ ws, j ∈ own.map (·.2) := by decide) (hs : ∀ x, foldedSetIterable iter Y.X.env x = pure x := by intro _; rfl) : EvP Y s (.ListComp elt [⟨tg, iter, ifs, 0⟩] scope pos) (pu ((items.filter c).map h)) :=
  .of (ev_lc ok hi bk _ (lc_quiet c h tg0 sub small ht he) ⟨by simp, rfl⟩ (fun ys gs ⟨e1, e2⟩ => ⟨by rw [e1, List.take_length], by rw [e2]⟩) hs)
/-- .. with no test -/
theorem evp_lc0 {g : TG} {ws : List Nat} {f : β → Rho → Rho} {items : List β} (own : List (Str × Nat)) (h : β → α) (ok : YOk Y) (hi : EvIt Y s tg iter items) (bk : BlkOk Y.X.N Y.X.env.scope scope own) (tg0 : ∀ z, TgOk (blkY Y scope z) tg g ws f) (small : items.length ≤ sizeLine)
    (he : ∀ z x D ys, x ∈ items → EvP (blkY Y scope z) ⟨f x (wipeR s.ρ (own.map (·.2))), (D, lstc (α := α) ys) :: s.gs⟩ elt (pu (h x)))
    (sub : ∀ j ∈ ws, j ∈ own.map (·.2) := by decide) (hs : ∀ x, foldedSetIterable iter Y.X.env x = pure x := by intro _; rfl) : EvP Y s (.ListComp elt [⟨tg, iter, [], 0⟩] scope pos) (pu (items.map h)) :=
  (evp_lc own (fun _ => true) h ok hi bk tg0 small (fun z x D ys _ => ets_nil ⟨rfl, rfl⟩) (fun z x D ys hx _ => he z x D ys hx) sub hs).to (by rw [List.filter_eq_self.mpr (fun _ _ => rfl)])
end
end Sp
set_option maxHeartbeats 4000000
/-! Sp: a joined list that is made by a changing expression; the telling def by the head's facts; references as data; blocks by a check. -/
namespace Sp
open PySem L2
/-- a reference, as data -/
structure Rf where
  a : Addr
instance : Enc Rf := ⟨fun _ _ v r => v = .ref r.a, fun h _ => h⟩
theorem pu_rf {q : Addr} : pu (Rf.mk q) = raw (.ref q) := rfl
def blkB (N : List Str) (sc scope : Scope) (own : List (Str × Nat)) : Bool :=
  decide (scope.kind = .function) && scope.names.all (fun y => decide (scope.names.lookup y.1 = some y.2)) && own.all (fun p => decide (N[p.2]? = some p.1)) &&
    scope.names.all (fun y => !decide (y.2 = .free) || (decide (sc.names.lookup y.1 = some .cell) || decide (sc.names.lookup y.1 = some .free))) &&
    scope.names.all (fun y => !(decide (y.2 = .local) || decide (y.2 = .cell)) || (decide (y.1 ∈ own.map (·.1)) || decide (y.1 ∉ N)))
theorem blk_by {N : List Str} {sc scope : Scope} {own : List (Str × Nat)} (h : blkB N sc scope own = true) : BlkOk N sc scope own := by
  unfold blkB at h
  simp only [Bool.and_eq_true] at h
  obtain ⟨⟨⟨⟨h1, h2⟩, h3⟩, h4⟩, h5⟩ := h
  refine ⟨of_decide_eq_true h1, fun y hy => of_decide_eq_true (List.all_eq_true.mp h2 y hy), fun p hp => of_decide_eq_true (List.all_eq_true.mp h3 p hp), fun y hy e => ?_, fun y hy e => ?_⟩
  · have := List.all_eq_true.mp h4 y hy
    simpa [e] using this
  · have := List.all_eq_true.mp h5 y hy
    rcases e with e | e <;> simpa [e] using this
/-- a text by its literal -/
def tx (s : Str) : Txt := s.cps.toList
theorem toStr_tx (s : Str) : toStr (tx s) = s := toStr_of s
section
variable {Y : DX} {s : DSt} {e a b c d o : Expr} {es : List Expr} {pos p apos : Pos} {Q : Pv → DSt → Prop} {D : DE}
/-- an owned list's place by a constant -/
theorem evp_own {α : Type} [Enc α] {xs : List α} {n : Int} {x : α} {y : Str} {jj : Nat} {q : Addr} {p1 p2 p3 : Pos} (i g : Nat) (hN : Y.X.N[i]? = some y) (hρ : s.ρ[i]? = some (some (raw (.ref q)))) (hg : s.gs[g]? = some (q, lstc xs)) (hx : atI xs n = some x) (hv : Vis Y.X.env.scope y := by first | exact .inl rfl | exact .inr (.inl rfl) | exact .inr (.inr rfl))
    (hd : (y == ("__debug__" : Str)) = false := by decide) (hcd : (y == ("__classdict__" : Str)) = false := by decide) : EvP Y s (.Subscript (.Name y p1) (.Constant (.int n) jj p2) p3) (pu x) :=
  evp_ixA (fun _ _ => rfl) (evp_var i hN hv hρ hd hcd) (DL.own g hg) evp_int hx
/-- a name's value -/
theorem evp_v {A : Pv} {x : Str} (i : Nat) (hN : Y.X.N[i]? = some x) (hA : s.ρ[i]? = some (some A)) (hv : Vis Y.X.env.scope x := by first | exact .inl rfl | exact .inr (.inl rfl) | exact .inr (.inr rfl)) (hd : (x == ("__debug__" : Str)) = false := by decide) (hcd : (x == ("__classdict__" : Str)) = false := by decide) :
    EvP Y s (.Name x pos) A := evp_var i hN hv hA hd hcd
theorem w1_sv {x : Str} {p2 : Pos} (i : Nat) (ok : YOk Y) (hi : Y.X.N[i]? = some x) (h : Ev Y s e fun A s' => D.nx ⟨s'.ρ.set i (some A), s'.gs⟩)
    (hx : Loc Y.X.env.scope x := by first | exact .inl rfl | exact .inr rfl) (hs : swapsWith e (some (.Name x p2)) pos.line Y.X.env = pure false := by rfl) (hf : Y.X.fn x = true ∨ Y.X.env.scope.names.lookup x = some .local := by first | exact .inl rfl | exact .inr rfl) : W1 Y s (.Assign [.Name x p2] e pos) D := w1_set i ok hi hx h hs hf
theorem evp_tx {x : Str} {j : Nat} : EvP Y s (.Constant (.str x) j pos) (pu (tx x)) := evp_str (tx x) (toStr_tx x)
/-- o.m(e), e changing -/
theorem ev_m1E {T id : String} {name : Str} {A : Pv} {r : V → List V → Hp → VK → Prop} (pa : PlainAttrs T) (slot : Slot T name id) (hty : typeOf (.builtin id) = pure (.type "method_descriptor")) (hm : MtR Y.X id r) (ho : EvP Y s o A)
    (ht : ∀ σ H F v, Sta Y s σ H F → A.rep Y.X.K F v → tyV Y.X.K T v H)
    (he : Ev Y s e fun B s1 => ∀ F0 σ H F v u, Ext F0 F → Sta Y s1 σ H F → A.rep Y.X.K F v → B.rep Y.X.K F u → r v [u] H (Po Y σ F0 Q))
    (hbase : attributeBase o name Y.X.env (eval o Y.X.env) = eval o Y.X.env)
    (hfew : ((backTo pos (starEach [e] Y.X.env)).all (fun x => !x.1) && (backToKw pos (keywordEach [] Y.X.env)).all (fun x => x.1.isSome)
      && decide (([e] : List Expr).length + ([] : List Keyword).length + (if ([] : List Keyword).isEmpty then 0 else 1) < 30)) = true)
    (hline : (apos.endLine == pos.line) = true) (hs : starEach [e] Y.X.env = (false, eval e Y.X.env) :: starEach [] Y.X.env) : Ev Y s (.Call (.Attribute o name apos) [e] [] pos) Q := fun F0 σ H F e0 S => by
  refine .of (pe_bm pa slot hty hm pe_we (pa_cons pe_we pa_nil hs) hbase hfew hline hs (by rfl)) ?_
  refine (ho F σ H F (.refl _) S).mono fun v H1 ⟨F1, e1, r1, S1⟩ => ⟨ht _ _ _ _ S1 r1, ?_⟩
  refine (he F1 σ H1 F1 (.refl _) S1).mono fun u H2 ⟨B, s2, F2, e2, r2, S2, h⟩ => ?_
  exact h F0 σ H2 F2 v u ((e0.trans e1).trans e2) S2 (A.mono r1 e2) r2
theorem ev_join {x : List Nat} (ho : EvP Y s o (pu x)) (he : Ev Y s e fun A s1 => ∃ xs : List (List Nat), DL Y s1 A xs ∧ lenSum xs + xs.length * x.length ≤ 16777216 ∧ Q (pu (joinT x xs)) s1) (M : Mx1 Y.X o "join" apos e pos) : Ev Y s (.Call (.Attribute o "join" apos) [e] [] pos) Q :=
  ev_m1E PySem.F.plainAttrs_str PySem.F.slot_str_join PySem.F.type_str_join mt_join ho (fun σ H F v S r => tyV_str r) (he.mono fun A s1 ⟨xs, hA, hz, q⟩ F0 σ H F v u e0 S r1 r2 => by
    obtain ⟨p, zs, h1, h2, h3⟩ := hA σ H F u S r2
    rw [txts_map h3] at h2
    refine ⟨toStr x, p, xs.map toStr, r1, by rw [h1], .inl h2, ?_, _, s1, F, e0, by rw [toStr_join']; rfl, S, q⟩
    have e1 : (xs.map toStr).map (·.length) = xs.map List.length := by rw [List.map_map]; exact List.map_congr_left fun y _ => toStr_len y
    rw [e1, List.length_map, toStr_len]
    exact hz) M.base M.few M.line M.star
end
theorem Tell.no {K : Frag} {c C : Addr} {x t : Txt} {l : Cls_} (h : PySem.W.exmOne K (.ref C) (.ref c) = some false) (r : Tell K l C t) : Tell K ((c, x) :: l) C t := ⟨false, h, (fun e => by cases e), fun _ => r⟩
theorem Tell.yes {K : Frag} {c C : Addr} {x : Txt} {l : Cls_} (h : PySem.W.exmOne K (.ref C) (.ref c) = some true) : Tell K ((c, x) :: l) C x := ⟨true, h, (fun _ => rfl), fun e => by cases e⟩
/-- the telling def -/
theorem told_of {X : Cx} {d : He.DefD} {fd : FuncData} {x a : Str} {Ng : List Str} {l : Cls_} {p1 p2 p3 p8 : Pos} {h0 : ExceptHandler} {hds : List ExceptHandler} (F1 : Fd X.K d [a] fd) (hg : X.mg x = some (.ref (He.fAd X.K d.at_))) (hn : d.name = x) (hq : d.qual = x) (S : FnScope Ng [a] d.scope)
    (hb : d.body = [.Try [.Return (some (.Call (.Name a p1) [] [] p2)) p3] (h0 :: hds) [] [] p8]) (hh : HdT X.K X.mg d.scope (h0 :: hds) l) (h1 : Ng[0]? = some a) (hv : Vis d.scope a) (h2 : (a == ("__debug__" : Str)) = false) (h3 : (a == ("__classdict__" : Str)) = false)
    (h4 : ∀ f : Addr, (L2.start Ng [V.ref f])[0]? = some (some (V.ref f))) : Told X x l := by
  obtain ⟨oc, od, dV, kV, doc, pm, an, cdv, ct, osl, e, lk, hcd, _, _⟩ := F1.F.ex
  obtain ⟨b⟩ : Nonempty (PLift True) := ⟨⟨trivial⟩⟩
  have hbn := F1.b
  subst hn
  subst e
  rw [hq] at lk hcd hbn
  rw [hb] at lk hbn
  exact ⟨a, _, _, _, d.scope, dV, kV, doc, pm, cdv, ct, oc, an, od, osl, Ng, hg, F1.F.kp, lk, hcd, hbn, S, h1, hv, h2, h3, fun q => told_many hh h4⟩
end Sp
set_option maxHeartbeats 4000000
/-! Sp: generator expressions by their turns, told out. -/
namespace Sp
open PySem L2
/-- a target, told out: names by their places, pairs -/
structure TgD (β : Type) where
  g : Frag → TG
  ws : List Nat
  f : β → Rho → Rho
abbrev TgD.n {α : Type} [Enc α] (i : Nat) : TgD α := ⟨fun _ => gName i, [i], fun v ρ => ρ.set i (some (pu v))⟩
abbrev TgD.p {α β : Type} (a : TgD α) (b : TgD β) : TgD (α × β) := ⟨fun K => gTup K 2 (gCons (a.g K) (gCons (b.g K) gNil)), a.ws ++ b.ws, fun v ρ => b.f v.2 (a.f v.1 ρ)⟩
section
variable {Y : DX} {s : DSt} {k : Nat} {scope : Scope} {tg elt iter : Expr} {ifs : List Expr} {β γ : Type} [Enc β] {items : List β} {c : β → Bool} {gpos p pos : Pos}
theorem evp_anyT {h : β → Bool} (t : TgD β) (k : Nat) (vs : List Nat) (ok : YOk Y) (B : Bis Y.X.mg) (hg : Gl Y.X "any") (hk : k + 2 ≤ Y.k) (hi : EvIt Y s tg iter items) (G : GenOk Y.X.N Y.X.env.scope scope vs) (tb : Tbl Y.X Y.T (Y.X.env.qual ++ "<genexpr>")) (tg0 : ∀ z, TgOk (genY Y k scope z) tg (t.g Y.X.K) t.ws t.f)
    (e0 : ∀ z, YOk (genY Y k scope z) → ∀ x ∈ items, EvP (genY Y k scope z) ⟨t.f x (wipeR s.ρ vs), s.gs⟩ elt (pu (h x))) (sub : ∀ j ∈ t.ws, j ∈ vs := by decide) (hs : ∀ x, genFold iter Y.X.env x = pure x := by intro _; rfl)
    (he : starEach [.GeneratorExp elt [⟨tg, iter, [], 0⟩] scope gpos] Y.X.env = (false, eval (.GeneratorExp elt [⟨tg, iter, [], 0⟩] scope gpos) Y.X.env) :: starEach [] Y.X.env := by rfl) :
    EvP Y s (.Call (.Name "any" p) [.GeneratorExp elt [⟨tg, iter, [], 0⟩] scope gpos] [] pos) (pu (items.any h)) :=
  (evp_any (c := fun _ => true) ok B hg hk hi G tb ⟨tg0, sub, fun z o x hx => ets_nil ⟨rfl, rfl⟩, fun z o x hx _ => e0 z o x hx⟩ hs he).to (by
    rw [List.filter_eq_self.mpr (fun _ _ => rfl)]
    simp [List.any_map])
theorem evp_allT {h : β → Bool} (t : TgD β) (k : Nat) (vs : List Nat) (ok : YOk Y) (B : Bis Y.X.mg) (hg : Gl Y.X "all") (hk : k + 2 ≤ Y.k) (hi : EvIt Y s tg iter items) (G : GenOk Y.X.N Y.X.env.scope scope vs) (tb : Tbl Y.X Y.T (Y.X.env.qual ++ "<genexpr>")) (tg0 : ∀ z, TgOk (genY Y k scope z) tg (t.g Y.X.K) t.ws t.f)
    (e0 : ∀ z, YOk (genY Y k scope z) → ∀ x ∈ items, EvP (genY Y k scope z) ⟨t.f x (wipeR s.ρ vs), s.gs⟩ elt (pu (h x))) (sub : ∀ j ∈ t.ws, j ∈ vs := by decide) (hs : ∀ x, genFold iter Y.X.env x = pure x := by intro _; rfl)
    (he : starEach [.GeneratorExp elt [⟨tg, iter, [], 0⟩] scope gpos] Y.X.env = (false, eval (.GeneratorExp elt [⟨tg, iter, [], 0⟩] scope gpos) Y.X.env) :: starEach [] Y.X.env := by rfl) :
    EvP Y s (.Call (.Name "all" p) [.GeneratorExp elt [⟨tg, iter, [], 0⟩] scope gpos] [] pos) (pu (items.all h)) :=
  (evp_all (c := fun _ => true) ok B hg hk hi G tb ⟨tg0, sub, fun z o x hx => ets_nil ⟨rfl, rfl⟩, fun z o x hx _ => e0 z o x hx⟩ hs he).to (by
    rw [List.filter_eq_self.mpr (fun _ _ => rfl)]
    simp [List.all_map])
theorem evp_sumT {h : β → Int} (t : TgD β) (k : Nat) (vs : List Nat) (ok : YOk Y) (B : Bis Y.X.mg) (hg : Gl Y.X "sum") (hk : k + 2 ≤ Y.k) (hi : EvIt Y s tg iter items) (G : GenOk Y.X.N Y.X.env.scope scope vs) (tb : Tbl Y.X Y.T (Y.X.env.qual ++ "<genexpr>")) (tg0 : ∀ z, TgOk (genY Y k scope z) tg (t.g Y.X.K) t.ws t.f)
    (e0 : ∀ z, YOk (genY Y k scope z) → ∀ x ∈ items, EvP (genY Y k scope z) ⟨t.f x (wipeR s.ρ vs), s.gs⟩ elt (pu (h x))) (hfit : SumOk (items.map h)) (sub : ∀ j ∈ t.ws, j ∈ vs := by decide) (hs : ∀ x, genFold iter Y.X.env x = pure x := by intro _; rfl)
    (he : starEach [.GeneratorExp elt [⟨tg, iter, [], 0⟩] scope gpos] Y.X.env = (false, eval (.GeneratorExp elt [⟨tg, iter, [], 0⟩] scope gpos) Y.X.env) :: starEach [] Y.X.env := by rfl) :
    EvP Y s (.Call (.Name "sum" p) [.GeneratorExp elt [⟨tg, iter, [], 0⟩] scope gpos] [] pos) (pu (items.map h).sum) :=
  (evp_sumG (c := fun _ => true) ok B hg hk hi G tb ⟨tg0, sub, fun z o x hx => ets_nil ⟨rfl, rfl⟩, fun z o x hx _ => e0 z o x hx⟩ (by rw [List.filter_eq_self.mpr (fun _ _ => rfl)]; exact hfit) hs he).to (by
    rw [List.filter_eq_self.mpr (fun _ _ => rfl)])
/-- tuple(a pair) -/
theorem evp_tupleP {α β : Type} [Enc α] [Enc β] {a : Expr} {x : α × β} (T : Bis Y.X.mg) (hg : Gl Y.X "tuple") (ha : EvP Y s a (pu x)) (he : starEach [a] Y.X.env = (false, eval a Y.X.env) :: starEach [] Y.X.env := by rfl) : EvP Y s (.Call (.Name "tuple" p) [a] [] pos) (pu x) :=
  evp_T1 call_tuple_of hg (T.no _ (by decide)) PyProof.Rows.boot_tuple ha (fun F0 σ H F v e0 S ⟨q, z1, z2, h1, h2, h3, h4⟩ => ⟨q, _, by rw [h1], .inr ⟨sqT_ext h2 S.ext, F, e0, ⟨q, z1, z2, rfl, h2, h3, h4⟩, S⟩⟩) (by decide) (by decide) he
theorem tg_nm {x : Str} (nd : Y.X.N.Nodup) (i : Nat) (hi : Y.X.N[i]? = some x) (hx : Loc Y.X.env.scope x := by first | exact .inl rfl | exact .inr rfl) (hf : Y.X.fn x = true ∨ Y.X.env.scope.names.lookup x = some .local := by first | exact .inl rfl | exact .inr rfl) {α : Type} [Enc α] {pos : Pos} :
    TgOk Y (.Name x pos) (gName i) [i] (fun (v : α) ρ => ρ.set i (some (pu v))) := tg_name nd i hi hx hf
theorem tg_gen {x : Str} (ok : YOk Y) (z : GCx) (i : Nat) (hi : Y.X.N[i]? = some x) (hx : Loc (genY Y k scope z).X.env.scope x := by first | exact .inl rfl | exact .inr rfl) (hf : (genY Y k scope z).X.fn x = true ∨ (genY Y k scope z).X.env.scope.names.lookup x = some .local := by first | exact .inl rfl | exact .inr rfl) {α : Type} [Enc α] {pos : Pos} :
    TgOk (genY Y k scope z) (.Name x pos) (gName i) [i] (fun (v : α) ρ => ρ.set i (some (pu v))) := tg_name (Y := genY Y k scope z) ok.nd i hi hx hf
theorem tg_blk {x : Str} (ok : YOk Y) (z : BCx) (i : Nat) (hi : Y.X.N[i]? = some x) (hx : Loc (blkY Y scope z).X.env.scope x := by first | exact .inl rfl | exact .inr rfl) (hf : (blkY Y scope z).X.fn x = true ∨ (blkY Y scope z).X.env.scope.names.lookup x = some .local := by first | exact .inl rfl | exact .inr rfl) {α : Type} [Enc α] {pos : Pos} :
    TgOk (blkY Y scope z) (.Name x pos) (gName i) [i] (fun (v : α) ρ => ρ.set i (some (pu v))) := tg_name (Y := blkY Y scope z) ok.nd i hi hx hf
theorem evp_lcD {α : Type} [Enc α] (t : TgD β) (own : List (Str × Nat)) (c : β → Bool) (h : β → α) (ok : YOk Y) (hi : EvIt Y s tg iter items) (bk : BlkOk Y.X.N Y.X.env.scope scope own) (tg0 : ∀ z, TgOk (blkY Y scope z) tg (t.g Y.X.K) t.ws t.f) (small : items.length ≤ sizeLine)
    (ht : ∀ z x D ys, x ∈ items → Ets (blkY Y scope z) ⟨t.f x (wipeR s.ρ (own.map (·.2))), (D, lstc (α := α) ys) :: s.gs⟩ ifs fun b s2 => b = c x ∧ s2 = ⟨t.f x (wipeR s.ρ (own.map (·.2))), (D, lstc ys) :: s.gs⟩)
    (he : ∀ z x D ys, x ∈ items → c x = true → EvP (blkY Y scope z) ⟨t.f x (wipeR s.ρ (own.map (·.2))), (D, lstc (α := α) ys) :: s.gs⟩ elt (pu (h x)))
    (sub : ∀ j ∈ t.ws, j ∈ own.map (·.2) := by decide) (hs : ∀ x, foldedSetIterable iter Y.X.env x = pure x := by intro _; rfl) : EvP Y s (.ListComp elt [⟨tg, iter, ifs, 0⟩] scope pos) (pu ((items.filter c).map h)) := evp_lc own c h ok hi bk tg0 small ht he sub hs
theorem evp_lc0D {α : Type} [Enc α] (t : TgD β) (own : List (Str × Nat)) (h : β → α) (ok : YOk Y) (hi : EvIt Y s tg iter items) (bk : BlkOk Y.X.N Y.X.env.scope scope own) (tg0 : ∀ z, TgOk (blkY Y scope z) tg (t.g Y.X.K) t.ws t.f) (small : items.length ≤ sizeLine)
    (he : ∀ z x D ys, x ∈ items → EvP (blkY Y scope z) ⟨t.f x (wipeR s.ρ (own.map (·.2))), (D, lstc (α := α) ys) :: s.gs⟩ elt (pu (h x)))
    (sub : ∀ j ∈ t.ws, j ∈ own.map (·.2) := by decide) (hs : ∀ x, foldedSetIterable iter Y.X.env x = pure x := by intro _; rfl) : EvP Y s (.ListComp elt [⟨tg, iter, [], 0⟩] scope pos) (pu (items.map h)) := evp_lc0 own h ok hi bk tg0 small he sub hs
theorem gen_calm (z : GCx) : (genY Y k scope z).X.calm = true := rfl
end
end Sp
set_option maxHeartbeats 4000000
/-! Sp: tuple(d.items()). -/
namespace Sp
open PySem PySem.Spec PyProof.Rows L2
open AutoSeq1 (wpAny_loadPart')
theorem meetsIn_tuple_items {prog : Program} {w : World} {κ : Type} [DecidableEq κ] (knd : PySem.KeyKind prog w κ) (r d : Addr) (kvs : List (κ × Value)) (ep : Nat) (hn : kvs.length ≤ sizeLine) :
    MeetsIn prog w (Builtin.«tuple.__new__» ⟨[.type "tuple", .ref r], []⟩)
      (fun A R s => A.handled = none ∧ s.heap.IsItemsView r d ∧ s.heap.DictAt knd d kvs ep ∧ ∀ (h' : Heap) (tk : Nat) (as : List Addr), (∀ b o, s.heap.get? b = some o → h'.get? b = some o) → as.length = kvs.length → PySem.W.KdxG knd kvs s.heap.objs.size h' as →
        R (.ok (.ret (.ref h'.objs.size))) { s with heap := h'.push { cls := .type "tuple", data := .seq (as.map Value.ref).toArray }, toks := tk }) :=
  .of_wp fun A R s h => by
    obtain ⟨hh, hv, hm, h⟩ := h
    have hsub := sub_tuple_self
    have hinit := init_tuple_lookup
    have hmh := madeHere_tuple
    have hT : s.TypeIs (.ref r) "dict_items" := by
      obtain ⟨o, ho, hc, _⟩ := hv
      exact ⟨o, ho, hc⟩
    have hh1 : A.in1.handled = none := hh
    obtain ⟨hp, g, dr, tk0, os⟩ := s
    wp_walk using wpAny_typeOf hT, PySem.W.kdx_collect (knd := knd) hh1 hv hm hn
    intro h' tk as hk hl hG
    show wpAny _ _ (Builtin.Tuple.tupleExact (as.map Value.ref).toArray >>= fun v => ret v) _ _ _
    unfold Builtin.Tuple.tupleExact
    refine wpAny_bind (wpAny_newObj_type ?_ (show (as.map Value.ref).toArray.size ≤ sizeLine by simp only [List.size_toArray, List.length_map]; omega))
    exact wpAny_pure ⟨_, rfl, h h' tk as hk hl hG⟩
section
variable {X : Cx} {e : Expr} {te : TE} {p apos cpos pos : Pos}
theorem items_laidT {pins : List (Addr × Obj)} {σ : L2.St} {H : Hp} {s : Shared} {h' : Heap} {tk : Nat} {kvs : List (Key × V)} {vs : List (Key × Value)} {as : List Addr} (I : Inv X pins σ H s) (hz : kvs.length ≤ sizeLine) (kv : KV kvs vs)
    (hk : ∀ b o, s.heap.get? b = some o → h'.get? b = some o) (hl : as.length = vs.length) (hG : PySem.W.KdxG (mixKind X.prog X.w) vs s.heap.objs.size h' as) (hab : ∀ b ∈ as, b < h'.objs.size) (hsz : s.heap.objs.size ≤ h'.objs.size) :
    ∃ H' : Hp, (∀ b o, H b = some o → H' b = some o) ∧ H h'.objs.size = none ∧ (∀ t ∈ as, H t = none) ∧ h'.objs.size ∉ as ∧ H' h'.objs.size = some (.tup (as.map V.ref)) ∧ Paired (fun (t : Addr) (q : Key × V) => H' t = some (.tup [kV q.1, q.2])) as kvs ∧
      Inv X pins σ H' { s with heap := h'.push { cls := .type "tuple", data := .seq (as.map Value.ref).toArray }, toks := tk } := by
  have lk : kvs.length = vs.length := Paired.length kv
  have hSn : h'.objs.size ∉ as := fun z => Nat.lt_irrefl _ (hab _ z)
  have nd : as.Nodup := List.Pairwise.imp (fun {a b} (h : a < b) => Nat.ne_of_lt h) hG.rise
  have new : ∀ t ∈ as, H t = none := fun t ht => I.hok.fresh (Nat.le_of_lt (hG.above t ht))
  have newS : H h'.objs.size = none := I.hok.fresh hsz
  have atP := LiI.putT_at as kvs (upd H h'.objs.size (.tup (as.map V.ref))) (by omega) nd
  have off : ∀ b, b ∉ as → b ≠ h'.objs.size → LiI.putT (upd H h'.objs.size (.tup (as.map V.ref))) as kvs b = H b := fun b h1 h2 => by rw [LiI.putT_off as kvs _ h1, upd_ne h2]
  have low : ∀ b o, s.heap.get? b = some o → b ∉ as ∧ b ≠ h'.objs.size := fun b o e => ⟨fun z => absurd (Heap.lt_size e) (Nat.not_lt.mpr (Nat.le_of_lt (hG.above b z))), Nat.ne_of_lt (Nat.lt_of_lt_of_le (Heap.lt_size e) hsz)⟩
  have kp : ∀ b u, H b = some u → (LiI.putT (upd H h'.objs.size (.tup (as.map V.ref))) as kvs) b = some u := fun b u e => by
    rw [off b (fun z => by rw [new b z] at e; cases e) (fun z => by rw [z, newS] at e; cases e)]
    exact e
  have eS : LiI.putT (upd H h'.objs.size (.tup (as.map V.ref))) as kvs h'.objs.size = some (.tup (as.map V.ref)) := by rw [LiI.putT_off as kvs _ hSn, upd_same]
  have hk2 : ∀ b o, s.heap.get? b = some o → (h'.push { cls := .type "tuple", data := .seq (as.map Value.ref).toArray }).get? b = some o := fun b o q => Heap.get?_push_of_some _ (hk b o q)
  refine ⟨LiI.putT (upd H h'.objs.size (.tup (as.map V.ref))) as kvs, kp, newS, new, hSn, eS, atP, ?_⟩
  refine I.call' (ch := []) rfl ⟨fun b o q _ _ _ => hk2 b o q, fun b o q _ _ _ => ⟨o.slots, hk2 b o q⟩, fun b o q n _ => ?_, fun b o q _ => ⟨o, hk2 b o q⟩, fun b xs q => kp b _ q, fun b o u q => kp b _ q, fun b ps q => ⟨#[], by rw [kp b _ q]; simp⟩⟩ (fun b u q => ?_) I.bare fun b z => by simp at z
  · obtain ⟨z1, z2⟩ := low b o q
    rw [off b z1 z2]
    exact n
  · by_cases hb : b ∈ as
    · obtain ⟨j, pk, e1, e2, e3⟩ := LiI.paired_ix atP hb
      rw [e3] at q
      cases q
      obtain ⟨key, k, x, f1, f2, f3⟩ := hG.pairs j b e1
      obtain ⟨qv, g1, g2, g3⟩ := LiI.paired_get kv e2
      rw [f1] at g1
      cases g1
      have rk : RelV (kV pk.1) key := by
        rw [g2]
        exact relV_key (show keyIs k key = true from f2)
      exact ⟨by show 2 ≤ sizeLine; decide, [key, x], .cons rk (.cons g3 .nil), ⟨_, Heap.get?_push_of_some _ f3, rfl, _, rfl⟩⟩
    · by_cases hb2 : b = h'.objs.size
      · rw [hb2] at q ⊢
        rw [eS] at q
        cases q
        exact ⟨by rw [List.length_map]; omega, as.map Value.ref, LiI.vals_refs as, ⟨_, Heap.get?_push_size _ rfl, rfl, _, rfl⟩⟩
      · rw [off b hb hb2] at q
        exact (I.hok b u q).stay (fun d v _ y => hk2 d v y) (fun d y => kp d _ y) fun d xs y => kp d _ y
def rItemsT : V → Hp → VK → Prop := fun x H Q => ∃ (d : Addr) (kvs : List (Key × V)), x = .ref d ∧ Rd H d (.dK kvs) ∧
  ∀ (H' : Hp) (p : Addr) (ts : List Addr), (∀ b o, H b = some o → H' b = some o) → H p = none → (∀ t ∈ ts, H t = none) → p ∉ ts → H' p = some (.tup (ts.map V.ref)) → Paired (fun (t : Addr) (q : Key × V) => H' t = some (.tup [kV q.1, q.2])) ts kvs → Q (.ref p) H'
theorem pe_tupleItems (hc : X.calm = true) (he : PE X e te) (hg : Gl X "tuple") (hm : X.mg "tuple" = none) (hbase : attributeBase e "items" X.env (eval e X.env) = eval e X.env := by rfl) (hline : (apos.endLine == cpos.line) = true := by rfl)
    (hs : starEach [.Call (.Attribute e "items" apos) [] [] cpos] X.env = (false, eval (.Call (.Attribute e "items" apos) [] [] cpos) X.env) :: starEach [] X.env := by rfl) :
    PE X (.Call (.Name "tuple" p) [.Call (.Attribute e "items" apos) [] [] cpos] [] pos) (fun σ H Q => te σ H fun x H1 => rItemsT x H1 Q) := by
  refine ⟨fun pins s σ H Q I hq => ?_⟩
  refine wpAny_Call_Name_kw (ld_blt I hg hm PyProof.Rows.boot_tuple ?_)
  refine PyProof.Rows.callWith_type1 ?_ hs rfl
  rw [hs]
  show wpAny _ _ (spliced ((false, eval (.Call (.Attribute e "items" apos) [] [] cpos) X.env) :: backTo pos (starEach [] X.env))) _ _ s
  refine Calls.spliced_cons ?_
  refine wpAny_Call_method (T := "dict") (id := "dict.items") hbase rfl hline F.plainAttrs_dict F.slot_dict_items F.type_dict_items (thn (he.run pins s σ H _ I hq) fun u s1 ⟨x, H1, I1, rx, d, kvs, ex, hd, q⟩ => ?_)
  subst ex
  obtain rfl : u = Value.ref d := rx
  obtain ⟨hz, hs0, vs, kv, hdo⟩ := dk_rd I1.hok hd
  obtain ⟨ep, hat⟩ := hdo.dictAt
  have lk : kvs.length = vs.length := Paired.length kv
  have I2 : Inv X pins σ H1 { s1 with heap := s1.heap.push { cls := .type "dict_items", data := .fields #[.ref d] } } := I1.kept (t' := s1.toks) fun b ob q => Heap.get?_push_of_some _ q
  refine ⟨hdo.typeIs, hdo.mapOf.noDict, ?_⟩
  show wpAny _ _ (callWith cpos (.builtin "dict.items") [.ref d] [] []) _ X.xe s1
  refine method_meetsIn F.slot_dict_items F.entry_dict_items rfl (PySem.evalArgs_none ⟨rfl, hdo.typeIs, F.args_dict_items_1 _, _, meets_dict_items (mixKind X.prog X.w) d hs0, ⟨vs, hdo⟩, ?_⟩)
  refine Calls.spliced_nil ?_
  refine callType_newIn F.called_tuple (by decide) (F.typeCall_tuple_1 _) (F.newCall_tuple_1 _) (fun obj => F.args_object_init_2 obj _) F.entry_tuple_new (meetsIn_tuple_items (mixKind X.prog X.w) _ d vs ep (by omega))
    ⟨I1.ok.hd hc, ⟨_, Heap.get?_push_size _ rfl, rfl, rfl⟩, hat.push _, fun h' tk as hk hl hG => ⟨⟨_, Heap.get?_push_size _ rfl, rfl⟩, ?_⟩⟩
  have hlast := Heap.lt_size (hk s1.heap.objs.size _ (Heap.get?_push_size _ rfl))
  have hab : ∀ b ∈ as, b < h'.objs.size := fun b hb => by
    obtain ⟨j, hj, e⟩ := List.mem_iff_getElem.mp hb
    obtain ⟨key, k, x, f1, f2, f3⟩ := hG.pairs j b (by rw [List.getElem?_eq_getElem hj, e])
    exact Heap.lt_size f3
  obtain ⟨H', k1, k2, k3, k4, k5, k6, J⟩ := items_laidT (tk := tk) I2 hz kv hk hl hG hab (by
    show (s1.heap.objs.push _).size ≤ _
    rw [Array.size_push]
    exact hlast)
  exact ⟨.ref _, H', J, rfl, q H' _ as k1 k2 k3 k4 k5 k6⟩
/-- several new objects at once -/
theorem Sta.growAll {Y : DX} {s : DSt} {σ : L2.St} {H F H' : Hp} (S : Sta Y s σ H F) (e : ∀ b o, H b = some o → H' b = some o) (l : List Addr) (new : ∀ a ∈ l, H a = none ∧ ∃ o, H' a = some o ∧ isTbl o = false) :
    Sta Y s σ H' (fun b => if b ∈ l then H' b else F b) ∧ Ext F (fun b => if b ∈ l then H' b else F b) := by
  have hF : ∀ a ∈ l, F a = none := fun a ha => S.ext.free (new a ha).1
  have eF : Ext F (fun b => if b ∈ l then H' b else F b) := fun a o h => by
    show (if a ∈ l then H' a else F a) = some o
    rw [if_neg (fun z => by rw [hF a z] at h; cases h)]
    exact h
  refine ⟨⟨fun a o h => ?_, fun a u h => ?_, S.rep.mono eF, fun q hq => ?_, S.nd, fun p hp => (S.tb p hp).ext e, ⟨S.st.ff.trans eF, fun a u h1 h2 h3 => e _ _ (S.st.fr a u h1 h2 h3), fun a h => ?_⟩⟩, eF⟩
  · have h' : (if a ∈ l then H' a else F a) = some o := h
    by_cases z : a ∈ l
    · rw [if_pos z] at h'; exact h'
    · rw [if_neg z] at h'; exact e _ _ (S.ext _ _ h')
  · have h' : (if a ∈ l then H' a else F a) = some u := h
    by_cases z : a ∈ l
    · rw [if_pos z] at h'
      obtain ⟨_, o, ho, ht⟩ := new a z
      rw [ho] at h'; cases h'; exact ht
    · rw [if_neg z] at h'; exact S.ntb _ _ h'
  · obtain ⟨h1, u, h2, h3, h4⟩ := S.own q hq
    have ne : q.1 ∉ l := fun z => by rw [(new _ z).1] at h2; cases h2
    refine ⟨?_, u, e _ _ h2, h3, q.2.mono h4 eF⟩
    show (if q.1 ∈ l then H' q.1 else F q.1) = none
    rw [if_neg ne]
    exact h1
  · by_cases z : a ∈ l
    · exact .inr (S.st.was (.of (new a z).1))
    · refine S.st.nw a (h.elim (fun h => .inl ?_) .inr)
      have h' : (if a ∈ l then H' a else F a) ≠ none := h
      rw [if_neg z] at h'
      exact h'
/-- tuple(d.items()) -/
theorem evp_tupleI {κ ν : Type} [DecidableEq κ] [Kk κ] [Enc κ] [KkV κ] [Enc ν] {Y : DX} {s : DSt} {A : Pv} {m : List (κ × ν)} (ok : YOk Y) (T : Bis Y.X.mg) (hg : Gl Y.X "tuple") (ho : EvP Y s e A) (hA : DF Y s A m) (hbase : attributeBase e "items" Y.X.env (eval e Y.X.env) = eval e Y.X.env := by rfl) (hline : (apos.endLine == cpos.line) = true := by rfl)
    (hs : starEach [.Call (.Attribute e "items" apos) [] [] cpos] Y.X.env = (false, eval (.Call (.Attribute e "items" apos) [] [] cpos) Y.X.env) :: starEach [] Y.X.env := by rfl) :
    EvP Y s (.Call (.Name "tuple" p) [.Call (.Attribute e "items" apos) [] [] cpos] [] pos) (pu (PySem.W.Tup.mk m)) := fun F0 σ H F e0 S => by
  refine .of (pe_tupleItems ok.calm pe_we hg (T.no _ (by decide)) hbase hline hs) ?_
  refine (ho F0 σ H F e0 S).mono fun v H1 ⟨F1, e1, r1, S1⟩ => ?_
  obtain ⟨d, kvs, ev, hd, rk⟩ := hA σ H1 F1 v S1 r1
  refine ⟨d, kvs, ev, hd, fun H' p ts k1 k2 k3 k4 k5 k6 => ?_⟩
  have at6 : ∀ t ∈ ts, ∃ q : Key × V, H' t = some (.tup [kV q.1, q.2]) := fun t ht => by
    obtain ⟨j, q, _, _, e3⟩ := LiI.paired_ix k6 ht
    exact ⟨q, e3⟩
  obtain ⟨S2, eF⟩ := S1.growAll k1 (p :: ts) fun a ha => by
    rcases List.mem_cons.mp ha with h | h
    · subst h
      exact ⟨k2, _, k5, rfl⟩
    · obtain ⟨q, hq⟩ := at6 a h
      exact ⟨k3 a h, _, hq, rfl⟩
  refine ⟨_, e1.trans eF, ⟨p, ts.map V.ref, rfl, .of (by
    show (if p ∈ p :: ts then H' p else F1 p) = _
    rw [if_pos List.mem_cons_self]
    exact k5), ?_⟩, S2⟩
  have key : ∀ (ts' : List Addr) (kvs' : List (Key × V)) (m' : List (κ × ν)), (∀ t ∈ ts', t ∈ ts) → Paired (fun (t : Addr) (q : Key × V) => H' t = some (.tup [kV q.1, q.2])) ts' kvs' → KVs Y.X.K F1 kvs' m' → Vs Y.X.K (fun b => if b ∈ p :: ts then H' b else F1 b) (ts'.map V.ref) m' := by
    intro ts' kvs' m' hsub h1
    induction h1 generalizing m' with
    | nil =>
      intro h2
      cases h2
      exact .nil
    | @cons t0 q0 l1 l2 a _ ih =>
      intro h2
      cases h2 with
      | cons b r =>
        refine .cons ⟨t0, kV q0.1, q0.2, rfl, .of ?_, ?_, Enc.mono b.2 eF⟩ (ih _ (fun t ht => hsub t (List.mem_cons_of_mem _ ht)) r)
        · show (if _ ∈ p :: ts then _ else _) = _
          rw [if_pos (List.mem_cons_of_mem _ (hsub _ List.mem_cons_self))]
          exact a
        · rw [b.1]
          exact KkV.rep _
  exact key ts kvs m (fun _ h => h) k6 rk
end
end Sp
set_option maxHeartbeats 4000000
/-! Sp: texts' methods. -/
namespace Sp
open PySem L2
section
variable {Y : DX} {s : DSt} {e a b c d o : Expr} {es : List Expr} {pos p apos : Pos} {Q : Pv → DSt → Prop} {D : DE}
/-- how often a sign stands in a text -/
def cntS (x : List Nat) (c : Nat) : Nat := x.countP fun y => decide (y = c)
theorem count_sign (x : List Nat) (c : Nat) : Txt.count (toStr x) (toStr [c]) = (cntS x c : Int) := by
  have h := PyProof.Rows.count_cnt (toStr x) c
  rw [toStr_cps] at h
  refine h.trans ?_
  clear h
  unfold cntS
  induction x with
  | nil => exact PyProof.Rows.cnt_nil _
  | cons a x ih =>
    rw [PyProof.Rows.cnt_cons, ih, List.countP_cons]
    by_cases e : a = c
    · subst e; simp; omega
    · simp [e, Ne.symm e]
theorem evp_cntS {x : List Nat} {k : Nat} (ho : EvP Y s o (pu x)) (he : EvP Y s e (pu [k])) (m : Mx1 Y.X o "count" apos e pos) : EvP Y s (.Call (.Attribute o "count" apos) [e] [] pos) (pu (cntS x k : Int)) :=
  evp_m1 PySem.F.plainAttrs_str PySem.F.slot_str_count PySem.F.type_str_count mt_count ho he (fun σ H F v S r => tyV_str r) (fun F0 σ H F v u e0 S r1 r2 => ⟨toStr x, toStr [k], r1, by rw [show u = V.str (toStr [k]) from r2], F, e0, by rw [count_sign]; rfl, S⟩) m.base m.few m.line m.star
end
end Sp
set_option maxHeartbeats 4000000
/-! Sp: x = a quiet comprehension on one line. -/
namespace Sp
open PySem L2
section
variable {Y : DX} {s : DSt} {tg elt iter : Expr} {ifs : List Expr} {pos spos py : Pos} {scope : Scope} {α β : Type} [Enc α] [Enc β] {items : List β} {D : DE}
theorem w1_lcD {y : Str} (i : Nat) (t : TgD β) (own : List (Str × Nat)) (c : β → Bool) (h : β → α) (ok : YOk Y) (hy : Y.X.N[i]? = some y) (hi : EvIt Y s tg iter items) (bk : BlkOk Y.X.N Y.X.env.scope scope own) (tg0 : ∀ z, TgOk (blkY Y scope z) tg (t.g Y.X.K) t.ws t.f) (small : items.length ≤ sizeLine)
    (ht : ∀ z x D ys, x ∈ items → Ets (blkY Y scope z) ⟨t.f x (wipeR s.ρ (own.map (·.2))), (D, lstc (α := α) ys) :: s.gs⟩ ifs fun b s2 => b = c x ∧ s2 = ⟨t.f x (wipeR s.ρ (own.map (·.2))), (D, lstc ys) :: s.gs⟩)
    (he : ∀ z x D ys, x ∈ items → c x = true → EvP (blkY Y scope z) ⟨t.f x (wipeR s.ρ (own.map (·.2))), (D, lstc (α := α) ys) :: s.gs⟩ elt (pu (h x)))
    (hQ : D.nx ⟨s.ρ.set i (some (pu ((items.filter c).map h))), s.gs⟩)
    (hyl : Y.X.env.scope.names.lookup y = some .local := by rfl) (hsw : swapsWith (.ListComp elt [⟨tg, iter, ifs, 0⟩] scope pos) (some (.Name y py)) spos.line Y.X.env = pure true := by rfl) (sub : ∀ j ∈ t.ws, j ∈ own.map (·.2) := by decide) (hs : ∀ x, foldedSetIterable iter Y.X.env x = pure x := by intro _; rfl) :
    W1 Y s (.Assign [.Name y py] (.ListComp elt [⟨tg, iter, ifs, 0⟩] scope pos) spos) D :=
  w1_setLc ok hy hyl hsw hi bk _ (lc_quiet c h tg0 sub small ht he) ⟨by simp, rfl⟩ (fun ys gs ⟨e1, e2⟩ => by rw [e1, e2, List.take_length]; exact hQ) hs
end
end Sp
set_option maxHeartbeats 4000000
/-! Sp: enumerate(text). -/
namespace Sp
open PySem PySem.Spec PyProof.Rows L2
/-- a text's signs with their places -/
def IteS (x : Str) : It :=
  ⟨fun i _ => i < x.cps.size, fun i H v H' => ∃ T c, v = .ref T ∧ H T = none ∧ H' = upd H T (.tup [.int (i : Nat), .str ⟨#[c]⟩]) ∧ x.cps[i]? = some c, fun i _ => x.cps.size ≤ i⟩
theorem draws_str {prog : Program} {w : World} {A : Around} (hh : A.handled = none) (it : Addr) (x : Str) (t : Tok) :
    Draws prog w A it [it] x.cps.size (fun i v => ∃ c u, x.cps[i]? = some c ∧ v = .str ⟨#[c]⟩ u) (fun i h => h.IsStrIter it (strIterType x) x t i) := by
  unfold strIterType
  split
  · exact Draws.strAscii hh it x t
  · exact Draws.strWide hh it x t
theorem turn_enumS {P : Program} {w : World} {K : PySem.W.Frag} {elts : List Expr} {kk : Nat} {tpos : Pos} (x : Str) (t : Tok) (e it : Addr) :
    Turn P w K (.Tuple elts kk tpos) (IteS x) [e, it] e (fun i h => (∃ old, IsEnum h e it ((i : Nat) : Int) old) ∧ h.IsStrIter it (strIterType x) x t i ∧ e ≠ it ∧ i ≤ x.cps.size) where
  mem := by simp
  obj := fun i h st b hb => by
    obtain ⟨⟨old, he⟩, ⟨o, ho, hc, hd⟩, _⟩ := st
    have e' : b = e ∨ b = it := by simpa using hb
    rcases e' with z | z
    · rw [z]; exact ⟨_, he, fun v q => nomatch q⟩
    · rw [z]; exact ⟨o, ho, fun v q => by rw [hd] at q; cases q⟩
  keep := fun i h h' st k => let ⟨⟨old, he⟩, ⟨o, ho, r⟩, hne⟩ := st; ⟨⟨old, k e (by simp) _ he⟩, ⟨o, k it (by simp) o ho, r⟩, hne⟩
  item := by
    intro X hP hw hK hc i pins s σ H E I hf st hg
    subst hP hw hK
    obtain ⟨⟨old, he⟩, hit, hne, hle⟩ := st
    have hel : e < s.heap.objs.size := Heap.lt_size he
    have hil : it < s.heap.objs.size := by obtain ⟨_, q, _⟩ := hit; exact Heap.lt_size q
    refine wpAny_pyNext_enum_itemD (draws_str (show X.A.in1.handled = none from I.ok.hd hc) it x t) he hit hg hne (by simpa using hne) fun v h' tk pv ho hit' hT hsz hk => ?_
    obtain ⟨c, u, hcx, rfl⟩ := pv
    refine ⟨_, rfl, wpAny_letOwnedTupleGo_enum (s := { s with heap := h', toks := tk + 1 }) ho fun h'' he' sb => ?_⟩
    have hT2 : h''.get? s.heap.objs.size = some { cls := .type "tuple", data := .seq #[.int i tk, .str ⟨#[c]⟩ u] } := (sb.2 _ (Nat.ne_of_gt hel)).trans hT
    have new : ObjOk X.prog X.w (upd H s.heap.objs.size (.tup [.int (i : Nat), .str ⟨#[c]⟩])) h'' s.heap.objs.size (.tup [.int (i : Nat), .str ⟨#[c]⟩]) :=
      ⟨by show 2 ≤ sizeLine; decide, [.int i tk, .str ⟨#[c]⟩ u], .cons ⟨_, rfl⟩ (.cons ⟨_, rfl⟩ .nil), ⟨_, hT2, rfl, _, rfl⟩⟩
    have I1 : Inv X pins σ (upd H s.heap.objs.size (.tup [.int (i : Nat), .str ⟨#[c]⟩])) { s with heap := h'', toks := tk + 1 } :=
      I.turnedNew (ch := [e, it]) (fun b ob hb q => (sb.2 b (fun z => hb (by simp [z]))).trans (hk b ob (fun z => hb (by simp [z])) (fun z => hb (by simp [z])) q)) hf (Nat.le_refl _) new
    refine ⟨.ref s.heap.objs.size, _, I1, rfl, ⟨_, c, rfl, I.hok.fresh (Nat.le_refl _), rfl, hcx⟩, ⟨⟨.str ⟨#[c]⟩ u, ?_⟩, ?_, hne, hg⟩, fun b hb => ?_⟩
    · have e1 : ((i + 1 : Nat) : Int) = (i : Int) + 1 := by omega
      rw [e1]; exact he'
    · obtain ⟨o, ho2, r⟩ := hit'
      exact ⟨o, (sb.2 it (Ne.symm hne)).trans ho2, r⟩
    · have hb' : b < s.heap.objs.size := by
        have e' : b = e ∨ b = it := by simpa using hb
        rcases e' with z | z
        · rw [z]; exact hel
        · rw [z]; exact hil
      rw [upd_ne (Nat.ne_of_lt hb')]
      exact (hf b hb).1
  done := by
    intro X hP hw hK hc i pins s σ H E I hf st hg
    subst hP hw hK
    obtain ⟨⟨old, he⟩, hit, hne, hle⟩ := st
    obtain ⟨f0, f1, f2, f3, f4, f5⟩ := hf it (by simp)
    have hl : i = x.cps.size := Nat.le_antisymm hle hg
    subst hl
    exact wpAny_pyNext_enum_endD (draws_str (show X.A.in1.handled = none from I.ok.hd hc) it x t) he hit fun h' eb => ⟨rfl, I.turned (t' := s.toks) (fun b o hb q => eb b o hb q) f0 f1 f3 f4 f5⟩
  self := fun A i s Q E st h => let ⟨⟨_, he⟩, _⟩ := st; wpAny_pyIter_enum he h
theorem pi_enumS {X : Cx} {e : Expr} {ta : TA} {p pos tpos : Pos} {elts : List Expr} {kk : Nat} (hg : Gl X "enumerate") (hm : X.mg "enumerate" = none) (ha : PA X [e] ta) (hs : starEach [e] X.env = [(false, eval e X.env)] := by rfl) :
    PI X (.Tuple elts kk tpos) (.Call (.Name "enumerate" p) [e] [] pos) (fun σ H R => ta σ H fun vs H1 => ∃ x, vs = [.str x] ∧ R (IteS x) H1) := by
  refine ⟨fun pins s σ H R I h => ?_⟩
  refine Call_ (ld_blt I hg hm boot_enumerate (PyProof.Rows.callWith_type1 (thn (ha.run pos pins s σ H _ I h) fun us s1 ⟨vs, H1, I1, r1, q1⟩ => ?_) hs rfl))
  obtain ⟨x, ex, q⟩ := q1
  subst ex
  cases r1 with
  | cons r rr =>
    cases rr
    obtain ⟨t, rfl⟩ := r
    refine call_enumerate_str fun h' he hit hsz hk => wpAny_pyIter_enum he ?_
    have I2 : Inv X pins σ H1 { s1 with heap := h' } := I1.kept (t' := s1.toks) hk
    refine ⟨s1.heap.objs.size + 1, [s1.heap.objs.size + 1, s1.heap.objs.size], _, _, H1, rfl, I2, turn_enumS x t (s1.heap.objs.size + 1) s1.heap.objs.size, ⟨⟨.none, he⟩, hit, Nat.succ_ne_self _, Nat.zero_le _⟩, fun b hb => ?_, q⟩
    have e' : b = s1.heap.objs.size + 1 ∨ b = s1.heap.objs.size := by simpa using hb
    have hle : s1.heap.objs.size ≤ b := by
      rcases e' with z | z
      · rw [z]; exact Nat.le_add_right _ _
      · rw [z]; exact Nat.le_refl _
    exact I1.fpOk hle (I1.hok.fresh hle)
theorem it_enumS {Y : DX} {s : DSt} {a : Expr} {elts : List Expr} {kk : Nat} {p pos tpos : Pos} {x : List Nat} (T : Bis Y.X.mg) (hg : Gl Y.X "enumerate") (ha : EvP Y s a (pu x)) (hs : starEach [a] Y.X.env = [(false, eval a Y.X.env)] := by rfl) : EvIt Y s (.Tuple elts kk tpos) (.Call (.Name "enumerate" p) [a] [] pos) (enumD (x.map fun c => [c])) :=
  ⟨_, pi_enumS hg (T.no _ (by decide)) (pa_cons pe_we pa_nil hs) hs, fun F0 σ H F R e0 S k => (ha F0 σ H F e0 S).mono fun v H' ⟨F', e1, ev, S'⟩ =>
    ⟨toStr x, by rw [show v = V.str (toStr x) from ev], k _ _ F' e1 S' fun i H2 F2 e2 e3 => ⟨fun y hy => by
      unfold enumD at hy
      rw [List.getElem?_mapIdx, List.getElem?_map] at hy
      cases q : x[i]? with
      | none => rw [q] at hy; cases hy
      | some c =>
        rw [q] at hy
        cases hy
        have hl : i < (toStr x).cps.size := by
          have := (List.getElem?_eq_some_iff.mp q).1
          simpa [toStr] using this
        refine ⟨hl, fun v H3 ⟨t, c', ev, ht, eh, hc⟩ => .inr ⟨t, _, ht, eh, ev, fun F3 e4 hs3 => ?_⟩⟩
        have e9 : c' = c := by
          have : x[i]? = some c' := by simpa [toStr] using hc
          rw [q] at this
          cases this
          rfl
        subst e9
        exact ⟨t, _, _, ev, hs3, rfl, rfl⟩, fun hl => by
      show (toStr x).cps.size ≤ i
      unfold enumD at hl
      simpa [toStr] using hl⟩⟩⟩
end Sp
set_option maxHeartbeats 4000000
/-! Sp: expressions run to what is wanted of their data. -/
namespace Sp
open PySem L2
open PySem.W (Datum DatumOrd SomeDatum)
/-! tests of the text's shape, decided by the outermost sign alone -/
def noStar : Expr → Bool
  | .Starred .. => false
  | _ => true
def noSup : Expr → Bool
  | .Call (.Name ..) .. => false
  | _ => true
theorem star_c {e : Expr} {es : List Expr} {env : Env} (h : noStar e = true) : starEach (e :: es) env = (false, eval e env) :: starEach es env := by
  cases e <;> first | rfl | cases h
theorem star_1 {e : Expr} {env : Env} (h : noStar e = true) : starEach [e] env = [(false, eval e env)] := star_c h
theorem star_2 {a b : Expr} {env : Env} (h : noStar a = true) (h2 : noStar b = true) : starEach [a, b] env = [(false, eval a env), (false, eval b env)] := by rw [star_c h, star_c h2]; rfl
theorem star_any {pos : Pos} {env : Env} : ∀ {es : List Expr}, es.all noStar = true → (backTo pos (starEach es env)).any (·.1) = false
  | [], _ => rfl
  | e :: es, h => by
    rw [List.all_cons, Bool.and_eq_true] at h
    rw [star_c h.1]
    show (false || (backTo pos (starEach es env)).any (·.1)) = false
    rw [star_any h.2]; rfl
theorem ab_ok {o : Expr} {m : Str} {env : Env} {x : Sem Value} (h : noSup o = true) : attributeBase o m env x = x := by
  cases o with
  | Call f es ks p => cases f <;> first | rfl | cases h
  | _ => rfl
theorem few_1 {e : Expr} {pos : Pos} {env : Env} (h : noStar e = true) : ((backTo pos (starEach [e] env)).all (fun x => !x.1) && (backToKw pos (keywordEach [] env)).all (fun x => x.1.isSome)
      && decide (([e] : List Expr).length + ([] : List Keyword).length + (if ([] : List Keyword).isEmpty then 0 else 1) < 30)) = true := by rw [star_1 h]; rfl
theorem mx1 {X : Cx} {o : Expr} {m : Str} {apos : Pos} {e : Expr} {pos : Pos} (h1 : noSup o = true) (h2 : noStar e = true) (h3 : (apos.endLine == pos.line) = true) : Mx1 X o m apos e pos := ⟨ab_ok h1, few_1 h2, h3, star_1 h2⟩
theorem mx0 {X : Cx} {o : Expr} {m : Str} {apos : Pos} {pos : Pos} (h1 : noSup o = true) (h3 : (apos.endLine == pos.line) = true) : Mx0 X o m apos pos := ⟨ab_ok h1, h3⟩
/-! member words with the instance of the general rule -/
def inL {α : Type} [DecidableEq α] (x : α) (xs : List α) : Bool := decide (x ∈ xs)
def niL {α : Type} [DecidableEq α] (x : α) (xs : List α) : Bool := decide (x ∉ xs)
def erL {α : Type} [DecidableEq α] (xs : List α) (x : α) : List α := xs.erase x
theorem inL_iff {α : Type} [DecidableEq α] {x : α} {xs : List α} : (inL x xs = true) = (x ∈ xs) := by simp [inL]
theorem inL_no {α : Type} [DecidableEq α] {x : α} {xs : List α} : (inL x xs = false) = ¬ x ∈ xs := by simp [inL]
theorem niL_iff {α : Type} [DecidableEq α] {x : α} {xs : List α} : (niL x xs = true) = ¬ x ∈ xs := by simp [niL]
theorem niL_no {α : Type} [DecidableEq α] {x : α} {xs : List α} : (niL x xs = false) = (x ∈ xs) := by simp [niL]
/-- the state stays; W k: the data found are k -/
def EvC (Y : DX) (s : DSt) (e : Expr) {α : Type} [Enc α] (W : (α → Prop) → Prop) : Prop := ∀ k : α → Prop, W k → Ev Y s e fun A s' => ∃ x, A = pu x ∧ s' = s ∧ k x
/-- read as a list -/
def EvL (Y : DX) (s : DSt) (e : Expr) {α : Type} [Enc α] (W : (List α → Prop) → Prop) : Prop := ∀ k : List α → Prop, W k → Ev Y s e fun A s' => ∃ xs, DL Y s A xs ∧ s' = s ∧ k xs
/-- read as a dict -/
def EvD (Y : DX) (s : DSt) (e : Expr) {κ ν : Type} [Kk κ] [Enc ν] (W : (List (κ × ν) → Prop) → Prop) : Prop := ∀ k : List (κ × ν) → Prop, W k → Ev Y s e fun A s' => ∃ m, DF Y s A m ∧ s' = s ∧ k m
/-- a test -/
def EvT (Y : DX) (s : DSt) (c : Expr) (W : (Bool → Prop) → Prop) : Prop := ∀ k : Bool → Prop, W k → Et Y s c fun b s' => s' = s ∧ k b
/-- a test in and, or -/
def EvW (Y : DX) (s : DSt) (c : Expr) (W : (Bool → Prop) → Prop) : Prop := ∀ k : Bool → Prop, W k → Ew Y s c fun b s' => s' = s ∧ k b
/-- an operator's sides -/
def EvK (Y : DX) (s : DSt) (op : CmpOp) (a b : Expr) (W : (Bool → Prop) → Prop) : Prop := ∀ k : Bool → Prop, W k → Cmp Y s op a b fun c s' => s' = s ∧ k c
section
variable {Y : DX} {s : DSt} {e a b c d o : Expr} {es : List Expr} {pos p apos : Pos} {α β γ : Type} [Enc α] [Enc β] [Enc γ]
theorem EvC.pp {W : (α → Prop) → Prop} {x : α} (h : EvC Y s e W) (w : W (fun y => y = x)) : EvP Y s e (pu x) :=
  .of ((h _ w).mono fun A s' ⟨y, ea, es, ey⟩ => ⟨by rw [ea, ey], es⟩)
theorem EvT.pp {W : (Bool → Prop) → Prop} {x : Bool} (h : EvT Y s e W) (w : W (fun y => y = x)) : EtP Y s e x :=
  .of ((h _ w).mono fun b s' ⟨es, ey⟩ => ⟨ey, es⟩)
/-- to wish for all of it -/
theorem EvC.q {W : (α → Prop) → Prop} {k : α → Prop} {Q : Pv → DSt → Prop} (h : EvC Y s e W) (w : W k) (q : ∀ x, k x → Q (pu x) s) : Ev Y s e Q :=
  (h k w).mono fun A s' ⟨x, ea, es, kx⟩ => by subst ea es; exact q x kx
theorem EvL.q {W : (List α → Prop) → Prop} {k : List α → Prop} {Q : Pv → DSt → Prop} (h : EvL Y s e W) (w : W k) (q : ∀ A xs, DL Y s A xs → k xs → Q A s) : Ev Y s e Q :=
  (h k w).mono fun A s' ⟨x, ea, es, kx⟩ => by subst es; exact q A x ea kx
theorem EvD.q {κ ν : Type} [Kk κ] [Enc ν] {W : (List (κ × ν) → Prop) → Prop} {k : List (κ × ν) → Prop} {Q : Pv → DSt → Prop} (h : EvD Y s e W) (w : W k) (q : ∀ A m, DF Y s A m → k m → Q A s) : Ev Y s e Q :=
  (h k w).mono fun A s' ⟨x, ea, es, kx⟩ => by subst es; exact q A x ea kx
theorem EvT.q {W : (Bool → Prop) → Prop} {k : Bool → Prop} {Q : Bool → DSt → Prop} (h : EvT Y s e W) (w : W k) (q : ∀ x, k x → Q x s) : Et Y s e Q :=
  (h k w).mono fun b s' ⟨es, kx⟩ => by subst es; exact q b kx
theorem EvK.q {op : CmpOp} {W : (Bool → Prop) → Prop} {k : Bool → Prop} {Q : Bool → DSt → Prop} (h : EvK Y s op a b W) (w : W k) (q : ∀ x, k x → Q x s) : Cmp Y s op a b Q :=
  (h k w).mono fun b s' ⟨es, kx⟩ => by subst es; exact q b kx
/-! leaves -/
theorem c_of {x : α} (h : EvP Y s e (pu x)) : EvC Y s e fun k => k x := fun k w => .of h ⟨x, rfl, rfl, w⟩
theorem c_v {x : Str} {y : α} (i : Nat) (hN : Y.X.N[i]? = some x) (hA : s.ρ[i]? = some (some (pu y))) (hv : Vis Y.X.env.scope x := by first | exact .inl rfl | exact .inr (.inl rfl) | exact .inr (.inr rfl)) (hd : (x == ("__debug__" : Str)) = false := by decide) (hcd : (x == ("__classdict__" : Str)) = false := by decide) :
    EvC Y s (.Name x pos) fun k => k y := c_of (evp_v i hN hA hv hd hcd)
theorem c_int {i : Int} {j : Nat} : EvC Y s (.Constant (.int i) j pos) fun k => k i := c_of evp_int
theorem c_bl {i : Bool} {j : Nat} : EvC Y s (.Constant (.bool i) j pos) fun k => k i := c_of evp_bl
theorem c_tx {x : Str} {j : Nat} : EvC Y s (.Constant (.str x) j pos) fun k => k (tx x) := c_of evp_tx
theorem c_none {j : Nat} : EvC Y s (.Constant .none j pos) fun k => k (Option.none : Option α) := c_of evp_none
theorem c_unit {j : Nat} : EvC Y s (.Constant .none j pos) fun k => k () := c_of evp_non
theorem c_l {W : (List α → Prop) → Prop} (h : EvC Y s e W) : EvL Y s e W := fun k w => h.q w fun x kx => ⟨x, .pu, rfl, kx⟩
theorem c_d {κ ν : Type} [DecidableEq κ] [Kk κ] [Enc κ] [KkV κ] [Enc ν] {W : (Dct κ ν → Prop) → Prop} (h : EvC Y s e W) : EvD Y s e fun k => W fun m => k m.kvs := fun k w => h.q w fun x kx => ⟨x.kvs, .pu, rfl, kx⟩
theorem l_own {x : Str} {xs : List α} {q : Addr} (i g : Nat) (hN : Y.X.N[i]? = some x) (hρ : s.ρ[i]? = some (some (raw (.ref q)))) (hg : s.gs[g]? = some (q, lstc xs)) (hv : Vis Y.X.env.scope x := by first | exact .inl rfl | exact .inr (.inl rfl) | exact .inr (.inr rfl)) (hd : (x == ("__debug__" : Str)) = false := by decide) (hcd : (x == ("__classdict__" : Str)) = false := by decide) :
    EvL Y s (.Name x pos) fun k => k xs := fun k w => .of (evp_v i hN hρ hv hd hcd) ⟨xs, DL.own g hg, rfl, w⟩
theorem d_own {κ ν : Type} [DecidableEq κ] [Kk κ] [Enc κ] [KkV κ] [Enc ν] {x : Str} {m : List (κ × ν)} {q : Addr} (i g : Nat) (hN : Y.X.N[i]? = some x) (hρ : s.ρ[i]? = some (some (raw (.ref q)))) (hg : s.gs[g]? = some (q, dctc m)) (hv : Vis Y.X.env.scope x := by first | exact .inl rfl | exact .inr (.inl rfl) | exact .inr (.inr rfl)) (hd : (x == ("__debug__" : Str)) = false := by decide) (hcd : (x == ("__classdict__" : Str)) = false := by decide) :
    EvD Y s (.Name x pos) fun k => k m := fun k w => .of (evp_v i hN hρ hv hd hcd) ⟨m, DF.own g hg, rfl, w⟩
theorem c_inl {W : (α → Prop) → Prop} (h : EvC Y s e W) : EvC Y s e fun k => W fun x => k (Sum.inl x : α ⊕ β) := fun k w => h.q w fun x kx => ⟨Sum.inl x, rfl, rfl, kx⟩
theorem c_inr {W : (β → Prop) → Prop} (h : EvC Y s e W) : EvC Y s e fun k => W fun x => k (Sum.inr x : α ⊕ β) := fun k w => h.q w fun x kx => ⟨Sum.inr x, rfl, rfl, kx⟩
theorem c_some {W : (α → Prop) → Prop} (h : EvC Y s e W) : EvC Y s e fun k => W fun x => k (Option.some x) := fun k w => h.q w fun x kx => ⟨Option.some x, rfl, rfl, kx⟩
/-! ints -/
section
variable {Wa Wb Wc : (Int → Prop) → Prop}
theorem c_add (ha : EvC Y s a Wa) (hb : EvC Y s b Wb) : EvC Y s (.BinOp a .Add b pos) fun k => Wa fun i => Wb fun j => k (i + j) := fun k w =>
  ev_ints0 (f := fun i j => i + j) (pe_op op_add pe_we pe_we) (fun _ _ _ _ => rfl) (ha.q w fun i w => ⟨i, rfl, hb.q w fun j w => ⟨j, rfl, _, rfl, rfl, w⟩⟩)
theorem c_sub (ha : EvC Y s a Wa) (hb : EvC Y s b Wb) : EvC Y s (.BinOp a .Sub b pos) fun k => Wa fun i => Wb fun j => k (i - j) := fun k w =>
  ev_ints0 (f := fun i j => i - j) (pe_op op_sub pe_we pe_we) (fun _ _ _ _ => rfl) (ha.q w fun i w => ⟨i, rfl, hb.q w fun j w => ⟨j, rfl, _, rfl, rfl, w⟩⟩)
theorem c_mul (ha : EvC Y s a Wa) (hb : EvC Y s b Wb) : EvC Y s (.BinOp a .Mult b pos) fun k => Wa fun i => Wb fun j => CMul i j ∧ k (i * j) := fun k w =>
  ev_ints (f := fun i j => i * j) (pe_op op_mul pe_we pe_we) (fun _ _ _ _ => rfl) (ha.q w fun i w => ⟨i, rfl, hb.q w fun j ⟨w1, w⟩ => ⟨j, rfl, w1, _, rfl, rfl, w⟩⟩)
theorem c_mod (ha : EvC Y s a Wa) (hb : EvC Y s b Wb) : EvC Y s (.BinOp a .Mod b pos) fun k => Wa fun i => Wb fun j => 0 < j ∧ k (i % j) := fun k w =>
  ev_ints (C := fun _ j => 0 < j) (f := fun i j => i % j) (pe_op op_mod pe_we pe_we) (fun _ _ _ _ => rfl) (ha.q w fun i w => ⟨i, rfl, hb.q w fun j ⟨w1, w⟩ => ⟨j, rfl, w1, _, rfl, rfl, w⟩⟩)
theorem c_fdiv (ha : EvC Y s a Wa) (hb : EvC Y s b Wb) : EvC Y s (.BinOp a .FloorDiv b pos) fun k => Wa fun i => Wb fun j => CDiv i j ∧ k (i / j) := fun k w =>
  ev_ints (f := fun i j => i / j) (pe_op op_fdiv pe_we pe_we) (fun _ _ _ _ => rfl) (ha.q w fun i w => ⟨i, rfl, hb.q w fun j ⟨w1, w⟩ => ⟨j, rfl, w1, _, rfl, rfl, w⟩⟩)
theorem c_pow (ha : EvC Y s a Wa) (hb : EvC Y s b Wb) : EvC Y s (.BinOp a .Pow b pos) fun k => Wa fun i => Wb fun j => CPow i j ∧ k (i ^ j.toNat) := fun k w =>
  ev_ints (f := fun i j => i ^ j.toNat) (pe_op op_pow pe_we pe_we) (fun _ _ _ _ => rfl) (ha.q w fun i w => ⟨i, rfl, hb.q w fun j ⟨w1, w⟩ => ⟨j, rfl, w1, _, rfl, rfl, w⟩⟩)
theorem c_neg (ha : EvC Y s a Wa) : EvC Y s (.UnaryOp .USub a pos) fun k => Wa fun i => k (-i) := fun k w =>
  ev1 (r := fun v H Q => rU (fun i => .int (-i)) v H Q) (pe_un un_neg pe_we) (ha.q w fun i w F0 σ H F v e0 S r => ⟨i, r, pu (-i), s, F, e0, rfl, S, _, rfl, rfl, w⟩)
/-! comparisons -/
theorem k_lt (ha : EvC Y s a Wa) (hb : EvC Y s b Wb) : EvK Y s .Lt a b fun k => Wa fun i => Wb fun j => k (decide (i < j)) := fun k w =>
  cmp_of op_lt (ha.q w fun i w => hb.q w fun j w => ⟨_, ⟨rfl, w⟩, fun σ H F v u Q S r1 r2 q => ⟨i, j, r1, r2, q⟩⟩)
theorem k_le (ha : EvC Y s a Wa) (hb : EvC Y s b Wb) : EvK Y s .LtE a b fun k => Wa fun i => Wb fun j => k (decide (i ≤ j)) := fun k w =>
  cmp_of op_le (ha.q w fun i w => hb.q w fun j w => ⟨_, ⟨rfl, w⟩, fun σ H F v u Q S r1 r2 q => ⟨i, j, r1, r2, q⟩⟩)
theorem k_gt (ha : EvC Y s a Wa) (hb : EvC Y s b Wb) : EvK Y s .Gt a b fun k => Wa fun i => Wb fun j => k (decide (j < i)) := fun k w =>
  cmp_of op_gt (ha.q w fun i w => hb.q w fun j w => ⟨_, ⟨rfl, w⟩, fun σ H F v u Q S r1 r2 q => ⟨i, j, r1, r2, q⟩⟩)
theorem k_ge (ha : EvC Y s a Wa) (hb : EvC Y s b Wb) : EvK Y s .GtE a b fun k => Wa fun i => Wb fun j => k (decide (j ≤ i)) := fun k w =>
  cmp_of op_ge (ha.q w fun i w => hb.q w fun j w => ⟨_, ⟨rfl, w⟩, fun σ H F v u Q S r1 r2 q => ⟨i, j, r1, r2, q⟩⟩)
end
section
variable {δ : Type} [DecidableEq δ] [Enc δ] [Datum δ] [Dat δ] {Wa Wb : (δ → Prop) → Prop}
theorem k_eq (ok : YOk Y) (ha : EvC Y s a Wa) (hb : EvC Y s b Wb) (hd : Datum.depth δ ≤ 60 := by decide) : EvK Y s .Eq a b fun k => Wa fun i => Wb fun j => k (decide (i = j)) := fun k w =>
  cmp_of (op_eqT (α := δ) ok.room.units hd) (ha.q w fun i w => hb.q w fun j w => ⟨_, ⟨rfl, w⟩, fun σ H F v u Q S r1 r2 q => ⟨i, j, DA.pu σ H F v S r1, DA.pu σ H F u S r2, q⟩⟩)
theorem k_ne (ok : YOk Y) (ha : EvC Y s a Wa) (hb : EvC Y s b Wb) (hd : Datum.depth δ ≤ 60 := by decide) : EvK Y s .NotEq a b fun k => Wa fun i => Wb fun j => k (decide (i ≠ j)) := fun k w =>
  cmp_of (op_neT (α := δ) ok.room.units hd) (ha.q w fun i w => hb.q w fun j w => ⟨_, ⟨rfl, w⟩, fun σ H F v u Q S r1 r2 q => ⟨i, j, DA.pu σ H F v S r1, DA.pu σ H F u S r2, q⟩⟩)
theorem k_eqL {Wa Wb : (List δ → Prop) → Prop} (ok : YOk Y) (ha : EvL Y s a Wa) (hb : EvL Y s b Wb) (hd : Datum.depth (List δ) ≤ 60 := by decide) : EvK Y s .Eq a b fun k => Wa fun i => Wb fun j => k (decide (i = j)) := fun k w =>
  cmp_of (op_eqT (α := List δ) ok.room.units hd) (ha.q w fun A i hA w => hb.q w fun B j hB w => ⟨_, ⟨rfl, w⟩, fun σ H F v u Q S r1 r2 q => ⟨i, j, hA.da σ H F v S r1, hB.da σ H F u S r2, q⟩⟩)
theorem k_neL {Wa Wb : (List δ → Prop) → Prop} (ok : YOk Y) (ha : EvL Y s a Wa) (hb : EvL Y s b Wb) (hd : Datum.depth (List δ) ≤ 60 := by decide) : EvK Y s .NotEq a b fun k => Wa fun i => Wb fun j => k (decide (i ≠ j)) := fun k w =>
  cmp_of (op_neT (α := List δ) ok.room.units hd) (ha.q w fun A i hA w => hb.q w fun B j hB w => ⟨_, ⟨rfl, w⟩, fun σ H F v u Q S r1 r2 q => ⟨i, j, hA.da σ H F v S r1, hB.da σ H F u S r2, q⟩⟩)
theorem k_in {Wb : (List δ → Prop) → Prop} (ok : YOk Y) (ha : EvC Y s a Wa) (hb : EvL Y s b Wb) (hd : Datum.depth δ ≤ 60 := by decide) : EvK Y s .In a b fun k => Wa fun x => Wb fun xs => k (inL x xs) := fun k w =>
  cmp_of (op_inT (α := δ) ok.room.units hd) (ha.q w fun i w => hb.q w fun B j hB w => ⟨_, ⟨rfl, w⟩, fun σ H F v u Q S r1 r2 q => ⟨i, j, DA.pu σ H F v S r1, hB.da σ H F u S r2, q⟩⟩)
theorem k_nin {Wb : (List δ → Prop) → Prop} (ok : YOk Y) (ha : EvC Y s a Wa) (hb : EvL Y s b Wb) (hd : Datum.depth δ ≤ 60 := by decide) : EvK Y s .NotIn a b fun k => Wa fun x => Wb fun xs => k (niL x xs) := fun k w =>
  cmp_of (op_ninT (α := δ) ok.room.units hd) (ha.q w fun i w => hb.q w fun B j hB w => ⟨_, ⟨rfl, w⟩, fun σ H F v u Q S r1 r2 q => ⟨i, j, DA.pu σ H F v S r1, hB.da σ H F u S r2, q⟩⟩)
theorem k_inH {Wb : (Tup δ → Prop) → Prop} (ok : YOk Y) (ha : EvC Y s a Wa) (hb : EvC Y s b Wb) (hd : Datum.depth δ ≤ 60 := by decide) : EvK Y s .In a b fun k => Wa fun x => Wb fun xs => k (inL x xs.items) := fun k w =>
  cmp_of (op_inH (α := δ) ok.room.units hd) (ha.q w fun i w => hb.q w fun j w => ⟨_, ⟨rfl, w⟩, fun σ H F v u Q S r1 r2 q => ⟨i, j, DA.pu σ H F v S r1, Enc.mono (α := Tup δ) r2 S.ext, q⟩⟩)
theorem k_ninH {Wb : (Tup δ → Prop) → Prop} (ok : YOk Y) (ha : EvC Y s a Wa) (hb : EvC Y s b Wb) (hd : Datum.depth δ ≤ 60 := by decide) : EvK Y s .NotIn a b fun k => Wa fun x => Wb fun xs => k (niL x xs.items) := fun k w =>
  cmp_of (op_ninH (α := δ) ok.room.units hd) (ha.q w fun i w => hb.q w fun j w => ⟨_, ⟨rfl, w⟩, fun σ H F v u Q S r1 r2 q => ⟨i, j, DA.pu σ H F v S r1, Enc.mono (α := Tup δ) r2 S.ext, q⟩⟩)
end
section
variable {δ : Type} [DecidableEq δ] [Enc δ] [DatumOrd δ] [Dat δ] {Wa Wb : (δ → Prop) → Prop}
theorem k_ltD (ok : YOk Y) (ha : EvC Y s a Wa) (hb : EvC Y s b Wb) (hd : Datum.depth δ ≤ 60 := by decide) : EvK Y s .Lt a b fun k => Wa fun x => Wb fun y => k (DatumOrd.lt x y) := fun k w =>
  cmp_of (op_ltD (α := δ) ok.room.units hd) (ha.q w fun i w => hb.q w fun j w => ⟨_, ⟨rfl, w⟩, fun σ H F v u Q S r1 r2 q => ⟨i, j, DA.pu σ H F v S r1, DA.pu σ H F u S r2, q⟩⟩)
theorem k_gtD (ok : YOk Y) (ha : EvC Y s a Wa) (hb : EvC Y s b Wb) (hd : Datum.depth δ ≤ 60 := by decide) : EvK Y s .Gt a b fun k => Wa fun x => Wb fun y => k (DatumOrd.lt y x) := fun k w =>
  cmp_of (op_gtD (α := δ) ok.room.units hd) (ha.q w fun i w => hb.q w fun j w => ⟨_, ⟨rfl, w⟩, fun σ H F v u Q S r1 r2 q => ⟨i, j, DA.pu σ H F v S r1, DA.pu σ H F u S r2, q⟩⟩)
theorem k_leD (ok : YOk Y) (ha : EvC Y s a Wa) (hb : EvC Y s b Wb) (hd : Datum.depth δ ≤ 60 := by decide) : EvK Y s .LtE a b fun k => Wa fun x => Wb fun y => k (!DatumOrd.lt y x) := fun k w =>
  cmp_of (op_leD (α := δ) ok.room.units hd) (ha.q w fun i w => hb.q w fun j w => ⟨_, ⟨rfl, w⟩, fun σ H F v u Q S r1 r2 q => ⟨i, j, DA.pu σ H F v S r1, DA.pu σ H F u S r2, q⟩⟩)
theorem k_geD (ok : YOk Y) (ha : EvC Y s a Wa) (hb : EvC Y s b Wb) (hd : Datum.depth δ ≤ 60 := by decide) : EvK Y s .GtE a b fun k => Wa fun x => Wb fun y => k (!DatumOrd.lt x y) := fun k w =>
  cmp_of (op_geD (α := δ) ok.room.units hd) (ha.q w fun i w => hb.q w fun j w => ⟨_, ⟨rfl, w⟩, fun σ H F v u Q S r1 r2 q => ⟨i, j, DA.pu σ H F v S r1, DA.pu σ H F u S r2, q⟩⟩)
end
section
variable {Wa Wb : (List Nat → Prop) → Prop}
theorem k_inS (ha : EvC Y s a Wa) (hb : EvC Y s b Wb) : EvK Y s .In a b fun k => Wa fun x => Wb fun y => k (tin x y) := fun k w =>
  cmp_of op_in_str (ha.q w fun x w => hb.q w fun y w => ⟨_, ⟨rfl, w⟩, fun σ H F v u Q S r1 r2 q => ⟨toStr x, toStr y, r1, r2, by rw [toStr_len]; exact q⟩⟩)
theorem k_ninS (ha : EvC Y s a Wa) (hb : EvC Y s b Wb) : EvK Y s .NotIn a b fun k => Wa fun x => Wb fun y => k (!tin x y) := fun k w =>
  cmp_of op_notin_str (ha.q w fun x w => hb.q w fun y w => ⟨_, ⟨rfl, w⟩, fun σ H F v u Q S r1 r2 q => ⟨toStr x, toStr y, r1, r2, by rw [toStr_len]; exact q⟩⟩)
end
section
variable [NoN α] {W : (Option α → Prop) → Prop} {j : Nat}
theorem k_isN (ha : EvC Y s a W) : EvK Y s .Is a (.Constant .none j p) fun k => W fun x => k x.isNone := fun k w =>
  cmp_of op_isN (ha.q w fun x w => .of evp_non ⟨_, ⟨rfl, w⟩, fun σ H F v u Q S r1 r2 q => ⟨r2, by rw [optNone (α := α) r1]; exact q⟩⟩)
theorem k_notN (ha : EvC Y s a W) : EvK Y s .IsNot a (.Constant .none j p) fun k => W fun x => k x.isSome := fun k w =>
  cmp_of op_notN (ha.q w fun x w => .of evp_non ⟨_, ⟨rfl, w⟩, fun σ H F v u Q S r1 r2 q => ⟨r2, by
    rw [optNone (α := α) r1]
    cases x <;> exact q⟩⟩)
end
section
variable {κ ν : Type} [DecidableEq κ] [Kk κ] [Enc κ] [KkV κ] [Enc ν] {Wa : (κ → Prop) → Prop} {Wb : (List (κ × ν) → Prop) → Prop}
theorem k_inD (ok : YOk Y) (ha : EvC Y s a Wa) (hb : EvD Y s b Wb) : EvK Y s .In a b fun k => Wa fun x => Wb fun m => k (dhas m x) := fun kk w F0 σ H F e0 S => by
  refine .of (pc_din (by have := ok.room.units; omega) pe_we pe_we) ?_
  refine ((ha _ w) F0 σ H F e0 S).mono fun u H1 ⟨_, _, F1, e1, r1, S1, k, ea, es, w⟩ => ?_
  subst ea es
  refine ((hb _ w) F1 σ H1 F1 (.refl _) S1).mono fun v H2 ⟨B, _, F2, e2, r2, S2, m, hB, es, w⟩ => ?_
  subst es
  obtain ⟨q, zs, ev, hr, hz⟩ := hB σ H2 F2 v S2 r2
  refine ⟨q, valV zs (Kk.key k), ev, .inl ⟨zs, Kk.key k, hr, KkV.of r1, rfl⟩, _, _, F2, rfl, e1.trans e2, S2, rfl, ?_⟩
  unfold dhas at w
  rcases kvs_val hz k with ⟨h1, h2⟩ | ⟨w', y', h1, h2, h3⟩ <;> rw [h1] at w <;> rw [h2] <;> exact w
theorem k_ninD (ok : YOk Y) (ha : EvC Y s a Wa) (hb : EvD Y s b Wb) : EvK Y s .NotIn a b fun k => Wa fun x => Wb fun m => k (!dhas m x) := fun kk w F0 σ H F e0 S => by
  refine .of (pc_dnotin (by have := ok.room.units; omega) pe_we pe_we) ?_
  refine ((ha _ w) F0 σ H F e0 S).mono fun u H1 ⟨_, _, F1, e1, r1, S1, k, ea, es, w⟩ => ?_
  subst ea es
  refine ((hb _ w) F1 σ H1 F1 (.refl _) S1).mono fun v H2 ⟨B, _, F2, e2, r2, S2, m, hB, es, w⟩ => ?_
  subst es
  obtain ⟨q, zs, ev, hr, hz⟩ := hB σ H2 F2 v S2 r2
  refine ⟨q, valV zs (Kk.key k), ev, .inl ⟨zs, Kk.key k, hr, KkV.of r1, rfl⟩, _, _, F2, rfl, e1.trans e2, S2, rfl, ?_⟩
  unfold dhas at w
  rcases kvs_val hz k with ⟨h1, h2⟩ | ⟨w', y', h1, h2, h3⟩ <;> rw [h1] at w <;> rw [h2] <;> exact w
end
theorem c_k {op : CmpOp} {W : (Bool → Prop) → Prop} (h : EvK Y s op a b W) (h1 : behindInMarks op b = false := by first | exact nobehind _ (by decide) (by decide) | rfl) : EvC Y s (.Compare a [op] [b] pos) W := fun k w =>
  ev_cmp (h.q w fun x kx => ⟨x, rfl, rfl, kx⟩) h1
theorem t_k {op : CmpOp} {W : (Bool → Prop) → Prop} (h : EvK Y s op a b W) (h1 : behindInMarks op b = false := by first | exact nobehind _ (by decide) (by decide) | rfl) : EvT Y s (.Compare a [op] [b] pos) W := fun k w =>
  et_cmp (h.q w fun x kx => ⟨rfl, kx⟩) h1
/-! truth -/
theorem t_v {W : (Bool → Prop) → Prop} (he : ∀ whole, isTrue e Y.X.env whole = (do let v ← whole; standAt e.pos; holding [v] (truthy v))) (h : EvC Y s e W) : EvT Y s e W := fun k w =>
  et_val he (h.q w fun x kx => ⟨x, rfl, rfl, kx⟩)
theorem t_not {W : (Bool → Prop) → Prop} (h : EvT Y s a W) : EvT Y s (.UnaryOp .Not a pos) fun k => W fun x => k (!x) := fun k w =>
  et_not (h.q w fun x kx => ⟨rfl, kx⟩)
theorem c_not {W : (Bool → Prop) → Prop} (h : EvC Y s a W) : EvC Y s (.UnaryOp .Not a pos) fun k => W fun x => k (!x) := fun k w =>
  ev1 (r := fun v H Q => ∃ c, v = .bl c ∧ Q (.bl (!c)) H) (pe_not pe_we) (h.q w fun x kx F0 σ H F v e0 S r => ⟨x, r, _, _, F, e0, rfl, S, _, rfl, rfl, kx⟩)
theorem t_w {W : (Bool → Prop) → Prop} (h : EvW Y s a W) : EvT Y s a W := fun k w => et_w (h k w)
theorem w_and1 {W : (Bool → Prop) → Prop} (h : EvT Y s a W) : EvW Y s (.BoolOp .And [a] pos) W := fun k w => ew_and1 (h k w)
theorem w_or1 {W : (Bool → Prop) → Prop} (h : EvT Y s a W) : EvW Y s (.BoolOp .Or [a] pos) W := fun k w => ew_or1 (h k w)
/-- both ways told -/
theorem w_and {W V : (Bool → Prop) → Prop} {r : List Expr} (h : EvT Y s a W) (hr : EvW Y s (.BoolOp .And (b :: r) pos) V) : EvW Y s (.BoolOp .And (a :: b :: r) pos) fun k => W fun x => (x = true → V k) ∧ (x = false → k false) := fun k w =>
  ew_and (h.q w fun x kx => by
    cases x with
    | true => exact hr k (kx.1 rfl)
    | false => exact ⟨rfl, kx.2 rfl⟩)
theorem w_or {W V : (Bool → Prop) → Prop} {r : List Expr} (h : EvT Y s a W) (hr : EvW Y s (.BoolOp .Or (b :: r) pos) V) : EvW Y s (.BoolOp .Or (a :: b :: r) pos) fun k => W fun x => (x = true → k true) ∧ (x = false → V k) := fun k w =>
  ew_or (h.q w fun x kx => by
    cases x with
    | false => exact hr k (kx.2 rfl)
    | true => exact ⟨rfl, kx.1 rfl⟩)
/-- the second a plain datum -/
theorem w_andP {W V : (Bool → Prop) → Prop} {r : List Expr} {y : Bool} (h : EvT Y s a W) (hr : EvW Y s (.BoolOp .And (b :: r) pos) V) : EvW Y s (.BoolOp .And (a :: b :: r) pos) fun k => W fun x => (x = true → V fun z => z = y) ∧ k (x && y) := fun k w =>
  ew_and (h.q w fun x kx => by
    cases x with
    | true => exact (hr _ (kx.1 rfl)).to fun z s' ⟨e1, e2⟩ => ⟨e1, by rw [e2]; exact kx.2⟩
    | false => exact ⟨rfl, kx.2⟩)
theorem w_orP {W V : (Bool → Prop) → Prop} {r : List Expr} {y : Bool} (h : EvT Y s a W) (hr : EvW Y s (.BoolOp .Or (b :: r) pos) V) : EvW Y s (.BoolOp .Or (a :: b :: r) pos) fun k => W fun x => (x = false → V fun z => z = y) ∧ k (x || y) := fun k w =>
  ew_or (h.q w fun x kx => by
    cases x with
    | false => exact (hr _ (kx.1 rfl)).to fun z s' ⟨e1, e2⟩ => ⟨e1, by rw [e2]; exact kx.2⟩
    | true => exact ⟨rfl, kx.2⟩)
/-- and, or as values of truth -/
theorem c_b1 {op : BoolOp} {W : (Bool → Prop) → Prop} (h : EvC Y s a W) : EvC Y s (.BoolOp op [a] pos) W := fun k w F0 σ H F e0 S => .of (pe_one pe_we) (h k w F0 σ H F e0 S)
theorem Po.ext {σ : St} {F0 F1 : Hp} {Q : Pv → DSt → Prop} {v : V} {H : Hp} (h : Po Y σ F1 Q v H) (e : Ext F0 F1) : Po Y σ F0 Q v H := by
  obtain ⟨A, s', F', e1, r, S', q⟩ := h
  exact ⟨A, s', F', e.trans e1, r, S', q⟩
theorem c_and {W V : (Bool → Prop) → Prop} {r : List Expr} (h : EvC Y s a W) (hr : EvC Y s (.BoolOp .And (b :: r) pos) V) : EvC Y s (.BoolOp .And (a :: b :: r) pos) fun k => W fun x => (x = true → V k) ∧ (x = false → k false) := fun k w F0 σ H F e0 S => by
  refine .of (pe_and pe_we pe_we) ((h _ w F0 σ H F e0 S).mono fun v H1 ⟨_, _, F1, e1, r1, S1, x, ea, es, kx⟩ => ?_)
  subst ea es
  refine ⟨x, r1, ?_⟩
  cases x with
  | true => exact ((hr k (kx.1 rfl)) F1 σ H1 F1 (.refl _) S1).mono fun c H2 z => Po.ext z e1
  | false => exact ⟨_, _, F1, e1, rfl, S1, false, rfl, rfl, kx.2 rfl⟩
theorem c_or {W V : (Bool → Prop) → Prop} {r : List Expr} (h : EvC Y s a W) (hr : EvC Y s (.BoolOp .Or (b :: r) pos) V) : EvC Y s (.BoolOp .Or (a :: b :: r) pos) fun k => W fun x => (x = true → k true) ∧ (x = false → V k) := fun k w F0 σ H F e0 S => by
  refine .of (pe_or pe_we pe_we) ((h _ w F0 σ H F e0 S).mono fun v H1 ⟨_, _, F1, e1, r1, S1, x, ea, es, kx⟩ => ?_)
  subst ea es
  refine ⟨x, r1, ?_⟩
  cases x with
  | false => exact ((hr k (kx.2 rfl)) F1 σ H1 F1 (.refl _) S1).mono fun c H2 z => Po.ext z e1
  | true => exact ⟨_, _, F1, e1, rfl, S1, true, rfl, rfl, kx.1 rfl⟩
theorem c_andP {W V : (Bool → Prop) → Prop} {r : List Expr} {y : Bool} (h : EvC Y s a W) (hr : EvC Y s (.BoolOp .And (b :: r) pos) V) : EvC Y s (.BoolOp .And (a :: b :: r) pos) fun k => W fun x => (x = true → V fun z => z = y) ∧ k (x && y) := fun k w F0 σ H F e0 S => by
  refine .of (pe_and pe_we pe_we) ((h _ w F0 σ H F e0 S).mono fun v H1 ⟨_, _, F1, e1, r1, S1, x, ea, es, kx⟩ => ?_)
  subst ea es
  refine ⟨x, r1, ?_⟩
  cases x with
  | true => exact ((hr _ (kx.1 rfl)) F1 σ H1 F1 (.refl _) S1).mono fun c H2 ⟨_, _, F2, e2, r2, S2, z, ea, es, ez⟩ => ⟨_, _, F2, e1.trans e2, r2, S2, z, ea, es, by rw [ez]; exact kx.2⟩
  | false => exact ⟨_, _, F1, e1, rfl, S1, false, rfl, rfl, kx.2⟩
theorem c_orP {W V : (Bool → Prop) → Prop} {r : List Expr} {y : Bool} (h : EvC Y s a W) (hr : EvC Y s (.BoolOp .Or (b :: r) pos) V) : EvC Y s (.BoolOp .Or (a :: b :: r) pos) fun k => W fun x => (x = false → V fun z => z = y) ∧ k (x || y) := fun k w F0 σ H F e0 S => by
  refine .of (pe_or pe_we pe_we) ((h _ w F0 σ H F e0 S).mono fun v H1 ⟨_, _, F1, e1, r1, S1, x, ea, es, kx⟩ => ?_)
  subst ea es
  refine ⟨x, r1, ?_⟩
  cases x with
  | false => exact ((hr _ (kx.1 rfl)) F1 σ H1 F1 (.refl _) S1).mono fun c H2 ⟨_, _, F2, e2, r2, S2, z, ea, es, ez⟩ => ⟨_, _, F2, e1.trans e2, r2, S2, z, ea, es, by rw [ez]; exact kx.2⟩
  | true => exact ⟨_, _, F1, e1, rfl, S1, true, rfl, rfl, kx.2⟩
/-- a if c else b -/
theorem c_if {W : (Bool → Prop) → Prop} {Wa Wb : (α → Prop) → Prop} (h : EvT Y s c W) (ha : EvC Y s a Wa) (hb : EvC Y s b Wb) : EvC Y s (.IfExp c a b pos) fun k => W fun x => (x = true → Wa k) ∧ (x = false → Wb k) := fun k w =>
  ev_if (h.q w fun x kx => by
    cases x with
    | true => exact ha k (kx.1 rfl)
    | false => exact hb k (kx.2 rfl))
theorem c_ifP {W : (Bool → Prop) → Prop} {Wa Wb : (α → Prop) → Prop} {u w : α} (h : EvT Y s c W) (ha : EvC Y s a Wa) (hb : EvC Y s b Wb) : EvC Y s (.IfExp c a b pos) fun k => W fun x => (x = true → Wa fun z => z = u) ∧ (x = false → Wb fun z => z = w) ∧ k (if x = true then u else w) := fun k w =>
  ev_if (h.q w fun x kx => by
    cases x with
    | true => exact (ha _ (kx.1 rfl)).mono fun A s' ⟨z, e1, e2, e3⟩ => ⟨z, e1, e2, by rw [e3]; exact kx.2.2⟩
    | false => exact (hb _ (kx.2.1 rfl)).mono fun A s' ⟨z, e1, e2, e3⟩ => ⟨z, e1, e2, by rw [e3]; exact kx.2.2⟩)
end
end Sp
set_option maxHeartbeats 4000000
/-! Sp: displays, lengths, places, slices, methods of texts and lists, to what is wanted. -/
namespace Sp
open PySem L2
open PySem.W (Datum DatumOrd SomeDatum)
/-! plain words -/
instance : Inhabited (Tup α) := ⟨⟨[]⟩⟩
instance [Inhabited α] [Inhabited β] [Inhabited γ] : Inhabited (T3 α β γ) := ⟨⟨default, default, default⟩⟩
instance [Inhabited α] [Inhabited β] [Inhabited γ] [Inhabited δ] : Inhabited (T4 α β γ δ) := ⟨⟨default, default, default, default⟩⟩
instance : Inhabited (Dct κ ν) := ⟨⟨[]⟩⟩
/-- a place that is there -/
def inR (n : Nat) (i : Int) : Prop := -(n : Int) ≤ i ∧ i < n
/-- the place i of n, from either end -/
def plc (n : Nat) (i : Int) : Nat := (if 0 ≤ i then i else i + n).toNat
def ixD {α : Type} [Inhabited α] (xs : List α) (i : Int) : α := xs.getD (plc xs.length i) default
def ixS (x : Txt) (i : Int) : Txt := [x.getD (plc x.length i) 0]
theorem ixN_plc {n : Nat} {i : Int} (h : inR n i) : ixN n i = some (plc n i) ∧ plc n i < n := by
  unfold inR at h
  unfold ixN plc
  by_cases h0 : 0 ≤ i
  · rw [if_pos h0, if_pos h.2, if_pos h0]
    exact ⟨rfl, by omega⟩
  · rw [if_neg h0, if_pos h.1, if_neg h0]
    exact ⟨rfl, by omega⟩
theorem at_ix {α : Type} [Inhabited α] {xs : List α} {i : Int} (h : inR xs.length i) : atI xs i = some (ixD xs i) := by
  obtain ⟨e, l⟩ := ixN_plc h
  unfold atI ixD
  rw [e]
  show xs[plc xs.length i]? = _
  rw [List.getElem?_eq_getElem l, List.getD_eq_getElem?_getD, List.getElem?_eq_getElem l]
  rfl
theorem at_ixS {x : Txt} {i : Int} (h : inR x.length i) : atI x i = some (x.getD (plc x.length i) 0) := by
  obtain ⟨e, l⟩ := ixN_plc h
  unfold atI
  rw [e]
  show x[plc x.length i]? = _
  rw [List.getElem?_eq_getElem l, List.getD_eq_getElem?_getD, List.getElem?_eq_getElem l]
  rfl
/-- what stands at k -/
def dgt {κ ν : Type} [DecidableEq κ] [Inhabited ν] (m : List (κ × ν)) (k : κ) : ν := (dval m k).getD default
/-! items of displays, arguments -/
def EvS (Y : DX) (s : DSt) (es : List Expr) {α : Type} [Enc α] (W : (List α → Prop) → Prop) : Prop := ∀ k : List α → Prop, W k → Evs Y s es fun As s' => ∃ xs : List α, As = xs.map pu ∧ xs.length = es.length ∧ s' = s ∧ k xs
/-- arguments of several types -/
class Ags (τ : Type) where
  pvs : τ → List Pv
instance : Ags Unit := ⟨fun _ => []⟩
instance {α τ : Type} [Enc α] [Ags τ] : Ags (α × τ) := ⟨fun t => pu t.1 :: Ags.pvs t.2⟩
def EvA (Y : DX) (s : DSt) (es : List Expr) {τ : Type} [Ags τ] (W : (τ → Prop) → Prop) : Prop := ∀ k : τ → Prop, W k → Evs Y s es fun As s' => ∃ t : τ, As = Ags.pvs t ∧ s' = s ∧ k t
section
variable {Y : DX} {s : DSt} {e a b c d o : Expr} {es : List Expr} {pos p apos : Pos} {α β γ δ : Type} [Enc α] [Enc β] [Enc γ] [Enc δ]
theorem s_nil : EvS Y s [] (α := α) fun k => k [] := fun k w => evs_nil ⟨[], rfl, rfl, rfl, w⟩
theorem s_cons {W : (α → Prop) → Prop} {V : (List α → Prop) → Prop} (h : EvC Y s e W) (hs : EvS Y s es V) (he : starEach (e :: es) Y.X.env = (false, eval e Y.X.env) :: starEach es Y.X.env := by exact star_c rfl) : EvS Y s (e :: es) fun k => W fun x => V fun xs => k (x :: xs) := fun k w =>
  evs_cons (h.q w fun x w => (hs _ w).mono fun As s' ⟨xs, e1, e2, e3, w⟩ => ⟨x :: xs, by rw [e1]; rfl, by simp [e2], e3, w⟩) he
theorem a_nil : EvA Y s [] (τ := Unit) fun k => k () := fun k w => evs_nil ⟨(), rfl, rfl, w⟩
theorem a_cons {τ : Type} [Ags τ] {W : (α → Prop) → Prop} {V : (τ → Prop) → Prop} (h : EvC Y s e W) (hs : EvA Y s es V) (he : starEach (e :: es) Y.X.env = (false, eval e Y.X.env) :: starEach es Y.X.env := by exact star_c rfl) : EvA Y s (e :: es) (τ := α × τ) fun k => W fun x => V fun t => k (x, t) := fun k w =>
  evs_cons (h.q w fun x w => (hs _ w).mono fun As s' ⟨t, e1, e3, w⟩ => ⟨(x, t), by rw [e1]; rfl, e3, w⟩) he
theorem c_list {W : (List α → Prop) → Prop} (h : EvS Y s es W) (hl : es.length ≤ sizeLine := by show _ ≤ sizeLine; decide) : EvC Y s (.List es pos) W := fun k w =>
  ev_list ((h k w).mono fun As s' ⟨xs, e1, e2, e3, w⟩ => ⟨xs, e1, by omega, xs, rfl, e3, w⟩)
theorem c_tupH {W : (List α → Prop) → Prop} {kk : Nat} (h : EvS Y s es W) (hl : es.length ≤ sizeLine := by show _ ≤ sizeLine; decide) : EvC Y s (.Tuple es kk pos) fun k => W fun xs => k (PySem.W.Tup.mk xs) := fun k w =>
  ev_tupH ((h _ w).mono fun As s' ⟨xs, e1, e2, e3, w⟩ => ⟨xs, e1, by omega, PySem.W.Tup.mk xs, rfl, e3, w⟩)
theorem c_tup2 {W : (α × β × Unit → Prop) → Prop} {kk : Nat} (h : EvA Y s es W) : EvC Y s (.Tuple es kk pos) fun k => W fun t => k (t.1, t.2.1) := fun k w =>
  ev_tup2 ((h _ w).mono fun As s' ⟨t, e1, e3, w⟩ => ⟨t.1, t.2.1, e1, _, rfl, e3, w⟩)
theorem c_tup3 {W : (α × β × γ × Unit → Prop) → Prop} {kk : Nat} (h : EvA Y s es W) : EvC Y s (.Tuple es kk pos) fun k => W fun t => k (PySem.W.T3.mk t.1 t.2.1 t.2.2.1) := fun k w =>
  ev_tup3 ((h _ w).mono fun As s' ⟨t, e1, e3, w⟩ => ⟨t.1, t.2.1, t.2.2.1, e1, _, rfl, e3, w⟩)
/-! len -/
theorem c_lenL {W : (List α → Prop) → Prop} (T : Bis Y.X.mg) (hg : Gl Y.X "len") (ha : EvL Y s a W) (he : starEach [a] Y.X.env = (false, eval a Y.X.env) :: starEach [] Y.X.env := by exact star_c rfl) : EvC Y s (.Call (.Name "len" p) [a] [] pos) fun k => W fun xs => k (xs.length : Int) := fun k w =>
  ev_B1 call_len hg (T.no _ (by decide)) boot_len (ha.q w fun A xs hA w F0 σ H F v e0 S r => by
    obtain ⟨q, vs, h1, h2, h3⟩ := hA σ H F v S r
    exact ⟨v, vs.length, rfl, by subst h1; exact .inl ⟨vs, h2, rfl⟩, pu (xs.length : Int), s, F, e0, by rw [Paired.length h3]; rfl, S, _, rfl, rfl, w⟩) (by decide) (by decide) he
theorem c_lenH {W : (Tup α → Prop) → Prop} (T : Bis Y.X.mg) (hg : Gl Y.X "len") (ha : EvC Y s a W) (he : starEach [a] Y.X.env = (false, eval a Y.X.env) :: starEach [] Y.X.env := by exact star_c rfl) : EvC Y s (.Call (.Name "len" p) [a] [] pos) fun k => W fun xs => k (xs.items.length : Int) := fun k w =>
  ev_B1 call_len_seq hg (T.no _ (by decide)) boot_len (ha.q w fun xs w F0 σ H F v e0 S r => by
    obtain ⟨q, vs, h1, h2, h3⟩ := r
    exact ⟨q, vs, by rw [h1], .inr (sqT_ext h2 S.ext), pu (xs.items.length : Int), s, F, e0, by rw [Paired.length h3]; rfl, S, _, rfl, rfl, w⟩) (by decide) (by decide) he
theorem c_lenS {W : (List Nat → Prop) → Prop} (T : Bis Y.X.mg) (hg : Gl Y.X "len") (ha : EvC Y s a W) (he : starEach [a] Y.X.env = (false, eval a Y.X.env) :: starEach [] Y.X.env := by exact star_c rfl) : EvC Y s (.Call (.Name "len" p) [a] [] pos) fun k => W fun x => x.length ≤ sizeLine ∧ k (x.length : Int) := fun k w =>
  ev_B1 call_len_str hg (T.no _ (by decide)) boot_len (ha.q w fun x w F0 σ H F v e0 S r => by
    exact ⟨toStr x, by rw [show v = V.str (toStr x) from r], by rw [toStr_len]; exact w.1, pu (x.length : Int), s, F, e0, by rw [toStr_len]; rfl, S, _, rfl, rfl, w.2⟩) (by decide) (by decide) he
theorem call_lenF {X : Cx} : CallR X (.builtin "len") (fun xs H Q => ∃ a kvs, xs = [V.ref a] ∧ Rd H a (.dK kvs) ∧ Q (.int kvs.length) H) := by
  intro pins s σ H xs us Q I r h
  obtain ⟨a, kvs, rfl, ha, q⟩ := h
  obtain ⟨u, rfl, ru⟩ := vals1 r
  cases ru
  exact d_len I ha fun t s' I' => ⟨.int kvs.length, H, I', ⟨t, rfl⟩, q⟩
theorem c_lenD {κ ν : Type} [DecidableEq κ] [Kk κ] [Enc κ] [KkV κ] [Enc ν] {W : (List (κ × ν) → Prop) → Prop} (T : Bis Y.X.mg) (hg : Gl Y.X "len") (ha : EvD Y s a W) (he : starEach [a] Y.X.env = (false, eval a Y.X.env) :: starEach [] Y.X.env := by exact star_c rfl) : EvC Y s (.Call (.Name "len" p) [a] [] pos) fun k => W fun m => k (m.length : Int) := fun k w =>
  ev_B1 call_lenF hg (T.no _ (by decide)) boot_len (ha.q w fun A m hA w F0 σ H F v e0 S r => by
    obtain ⟨q, kvs, h1, h2, h3⟩ := hA σ H F v S r
    exact ⟨q, kvs, by rw [h1], h2, pu (m.length : Int), s, F, e0, by rw [Paired.length h3]; rfl, S, _, rfl, rfl, w⟩) (by decide) (by decide) he
/-! places -/
section
variable {Wi : (Int → Prop) → Prop}
theorem c_ixL [Inhabited α] {W : (List α → Prop) → Prop} (ha : EvL Y s a W) (hb : EvC Y s b Wi) (hs : PlainIx b := by intro _ _; rfl) : EvC Y s (.Subscript a b pos) fun k => W fun xs => Wi fun i => inR xs.length i ∧ k (ixD xs i) := fun k w =>
  ev2 (pe_ix ix_list pe_we pe_we hs) (ha.q w fun A xs hA w => hb.q w fun i w F0 σ H F v u e0 S rv ru => by
    obtain ⟨p, vs, h1, h2, h3⟩ := hA σ H F v S rv
    obtain ⟨y, hy, ry⟩ := atI_of h3 (at_ix w.1)
    exact ⟨p, vs, i, y, h1, ru, h2, hy, pu (ixD xs i), s, F, e0, ry, S, _, rfl, rfl, w.2⟩)
theorem c_ixH [Inhabited α] {W : (Tup α → Prop) → Prop} (ha : EvC Y s a W) (hb : EvC Y s b Wi) (hs : PlainIx b := by intro _ _; rfl) : EvC Y s (.Subscript a b pos) fun k => W fun xs => Wi fun i => inR xs.items.length i ∧ k (ixD xs.items i) := fun k w =>
  ev2 (pe_ix ix_tup pe_we pe_we hs) (ha.q w fun xs w => hb.q w fun i w F0 σ H F v u e0 S rv ru => by
    obtain ⟨p, vs, h1, h2, h3⟩ := rv
    obtain ⟨y, hy, ry⟩ := atI_of h3 (at_ix w.1)
    exact ⟨p, vs, i, y, h1, ru, sqT_ext h2 S.ext, hy, pu (ixD xs.items i), s, F, e0, ry, S, _, rfl, rfl, w.2⟩)
theorem c_ixS {W : (List Nat → Prop) → Prop} (ha : EvC Y s a W) (hb : EvC Y s b Wi) (hs : PlainIx b := by intro _ _; rfl) : EvC Y s (.Subscript a b pos) fun k => W fun x => Wi fun i => x.length ≤ sizeLine ∧ inR x.length i ∧ k (ixS x i) := fun k w =>
  ev2 (pe_ix ix_str pe_we pe_we hs) (ha.q w fun x w => hb.q w fun i w F0 σ H F v u e0 S rv ru =>
    ⟨toStr x, i, _, rv, ru, by rw [toStr_len]; exact w.1, by rw [toStr_cps]; exact at_ixS w.2.1, pu (ixS x i), s, F, e0, rfl, S, _, rfl, rfl, w.2.2⟩)
/-- tuples' places by constants -/
theorem c_fst {W : (α × β → Prop) → Prop} {j : Nat} {p2 : Pos} (ha : EvC Y s a W) (hs : PlainIx (.Constant (.int 0) j p2) := by intro _ _; rfl) : EvC Y s (.Subscript a (.Constant (.int 0) j p2) pos) fun k => W fun x => k x.1 := fun k w =>
  ev_fst hs (ha.q w fun x w => ⟨x, rfl, x.1, rfl, rfl, w⟩)
theorem c_snd {W : (α × β → Prop) → Prop} {j : Nat} {p2 : Pos} (ha : EvC Y s a W) (hs : PlainIx (.Constant (.int 1) j p2) := by intro _ _; rfl) : EvC Y s (.Subscript a (.Constant (.int 1) j p2) pos) fun k => W fun x => k x.2 := fun k w =>
  ev_snd hs (ha.q w fun x w => ⟨x, rfl, x.2, rfl, rfl, w⟩)
theorem c_t3a {W : (T3 α β γ → Prop) → Prop} {j : Nat} {p2 : Pos} (ha : EvC Y s a W) (hs : PlainIx (.Constant (.int 0) j p2) := by intro _ _; rfl) : EvC Y s (.Subscript a (.Constant (.int 0) j p2) pos) fun k => W fun x => k x.a := fun k w =>
  ev2 (pe_ix ix_tup pe_we pe_we hs) (ha.q w fun x w => .of evp_int fun F0 σ H F v u e0 S rv ru => by
    obtain ⟨p, z1, z2, z3, h1, h2, h3, h4, h5⟩ := rv
    exact ⟨p, [z1, z2, z3], 0, z1, h1, ru, sqT_ext h2 S.ext, rfl, pu x.a, s, F, e0, h3, S, _, rfl, rfl, w⟩)
theorem c_t3b {W : (T3 α β γ → Prop) → Prop} {j : Nat} {p2 : Pos} (ha : EvC Y s a W) (hs : PlainIx (.Constant (.int 1) j p2) := by intro _ _; rfl) : EvC Y s (.Subscript a (.Constant (.int 1) j p2) pos) fun k => W fun x => k x.b := fun k w =>
  ev2 (pe_ix ix_tup pe_we pe_we hs) (ha.q w fun x w => .of evp_int fun F0 σ H F v u e0 S rv ru => by
    obtain ⟨p, z1, z2, z3, h1, h2, h3, h4, h5⟩ := rv
    exact ⟨p, [z1, z2, z3], 1, z2, h1, ru, sqT_ext h2 S.ext, rfl, pu x.b, s, F, e0, h4, S, _, rfl, rfl, w⟩)
theorem c_t3c {W : (T3 α β γ → Prop) → Prop} {j : Nat} {p2 : Pos} (ha : EvC Y s a W) (hs : PlainIx (.Constant (.int 2) j p2) := by intro _ _; rfl) : EvC Y s (.Subscript a (.Constant (.int 2) j p2) pos) fun k => W fun x => k x.c := fun k w =>
  ev2 (pe_ix ix_tup pe_we pe_we hs) (ha.q w fun x w => .of evp_int fun F0 σ H F v u e0 S rv ru => by
    obtain ⟨p, z1, z2, z3, h1, h2, h3, h4, h5⟩ := rv
    exact ⟨p, [z1, z2, z3], 2, z3, h1, ru, sqT_ext h2 S.ext, rfl, pu x.c, s, F, e0, h5, S, _, rfl, rfl, w⟩)
end
/-! slices -/
def EvOC (Y : DX) (s : DSt) (e : Option Expr) (W : (Option Int → Prop) → Prop) : Prop := ∀ k : Option Int → Prop, W k → ∀ F0 σ H F, Ext F0 F → Sta Y s σ H F →
  WO Y.X e σ H fun o H' => ∃ F', Ext F0 F' ∧ Sta Y s σ H' F' ∧ k o
theorem o_no : EvOC Y s none fun k => k none := fun k w F0 σ H F e0 S pins s1 I => (po_none).run pins s1 σ H _ I ⟨F, e0, S, w⟩
theorem o_at {W : (Int → Prop) → Prop} (h : EvC Y s e W) : EvOC Y s (some e) fun k => W fun i => k (some i) := fun k w F0 σ H F e0 S pins s1 I =>
  (po_some pe_we).run pins s1 σ H _ I (((h _ w) F0 σ H F e0 S).mono fun v H' ⟨_, _, F', e1, r, S', i, ea, es, w⟩ => by subst ea es; exact ⟨i, r, F', e1, S', w⟩)
theorem ev_slC {Q : Pv → DSt → Prop} {r : V → Option Int → Option Int → Hp → VK → Prop} {lo hi : Option Expr} {p2 : Pos} {Wl Wh : (Option Int → Prop) → Prop} (hr : SlR Y.X r) (hl : EvOC Y s lo Wl) (hh : EvOC Y s hi Wh)
    (h : Ev Y s a fun A s1 => s1 = s ∧ ∃ K : Option Int → Option Int → Prop, (Wl fun i => Wh fun j => K i j) ∧ ∀ i j, K i j → ∀ F0 σ H F v, Ext F0 F → Sta Y s σ H F → A.rep Y.X.K F v → r v i j H (Po Y σ F0 Q)) : Ev Y s (.Subscript a (.Slice lo hi none p2) pos) Q := fun F0 σ H F e0 S => by
  refine .of (pe_slice hr pe_we po_wo po_wo) ?_
  refine (h F σ H F (.refl _) S).mono fun v H1 ⟨A, s1, F1, e1, r1, S1, es, K, w, q⟩ => ?_
  subst es
  intro pins sh I
  refine thn (hl _ w F1 σ H1 F1 (.refl _) S1 pins sh I) fun u s2 ⟨o, H2, I2, p2, F2, e2, S2, w⟩ => ⟨o, H2, I2, p2, ?_⟩
  intro pins' s1' I'
  refine thn (hh _ w F2 σ H2 F2 (.refl _) S2 pins' s1' I') fun u' s3 ⟨o', H3, I3, p3, F3, e3, S3, w⟩ => ⟨o', H3, I3, p3, ?_⟩
  exact q _ _ w F0 σ H3 F3 v (((e0.trans e1).trans e2).trans e3) S3 (A.mono r1 (e2.trans e3))
section
variable {lo hi : Option Expr} {p2 : Pos} {Wl Wh : (Option Int → Prop) → Prop}
theorem c_slS {W : (List Nat → Prop) → Prop} (ha : EvC Y s a W) (hl : EvOC Y s lo Wl) (hh : EvOC Y s hi Wh) : EvC Y s (.Subscript a (.Slice lo hi none p2) pos) fun k => W fun x => Wl fun i => Wh fun j => x.length ≤ sizeLine ∧ k (cutD x i j) := fun k w =>
  ev_slC sl_str hl hh (ha.q w fun x w => ⟨rfl, _, w, fun i j w F0 σ H F v e0 S r => ⟨toStr x, r, by rw [toStr_len]; exact w.1, pu (cutD x i j), s, F, e0, by rw [toStr_cut]; rfl, S, _, rfl, rfl, w.2⟩⟩)
theorem po_listC {σ : St} {F0 : Hp} {H F : Hp} {vs : List V} {xs : List α} {k : List α → Prop} (e0 : Ext F0 F) (S : Sta Y s σ H F) (r : Vs Y.X.K F vs xs) (w : k xs) : ∀ p, H p = none → Po Y σ F0 (fun A s' => ∃ x, A = pu x ∧ s' = s ∧ k x) (.ref p) (upd H p (.lst vs)) :=
  po_list e0 S r ⟨xs, rfl, rfl, w⟩
theorem c_slL {W : (List α → Prop) → Prop} (ha : EvL Y s a W) (hl : EvOC Y s lo Wl) (hh : EvOC Y s hi Wh) : EvC Y s (.Subscript a (.Slice lo hi none p2) pos) fun k => W fun x => Wl fun i => Wh fun j => k (cutD x i j) := fun k w =>
  ev_slC sl_list hl hh (ha.q w fun A x hA w => ⟨rfl, _, w, fun i j w F0 σ H F v e0 S r => by
    obtain ⟨q, zs, h1, h2, h3⟩ := hA σ H F v S r
    exact ⟨q, zs, h1, h2, fun l hl => po_listC e0 S (cut_vs h3 i j) w l hl⟩⟩)
theorem c_slH {W : (Tup α → Prop) → Prop} (ha : EvC Y s a W) (hl : EvOC Y s lo Wl) (hh : EvOC Y s hi Wh) : EvC Y s (.Subscript a (.Slice lo hi none p2) pos) fun k => W fun x => Wl fun i => Wh fun j => k (PySem.W.Tup.mk (cutD x.items i j)) := fun k w =>
  ev_slC sl_tupA hl hh (ha.q w fun x w => ⟨rfl, _, w, fun i j w F0 σ H F v e0 S ⟨q, zs, h1, h2, h3⟩ => ⟨q, zs, h1, sqT_ext h2 S.ext, fun kk => ⟨pu (PySem.W.Tup.mk (cutD x.items i j)), s, F, e0, ⟨q, zs, rfl, h2, by have := cut_vs h3 i j; rw [cutV_all kk] at this; exact this⟩, S, _, rfl, rfl, w⟩,
    fun _ l hl => ⟨pu (PySem.W.Tup.mk (cutD x.items i j)), s, upd F l (.tup (cutV zs i j)), e0.trans (Ext.grow (S.free hl)), ⟨l, _, rfl, .of upd_same, (cut_vs h3 i j).mono (Ext.grow (S.free hl))⟩, S.newF hl rfl, _, rfl, rfl, w⟩⟩⟩)
end
/-! + and * of texts, lists, tuples -/
theorem c_catS {Wa Wb : (List Nat → Prop) → Prop} (ha : EvC Y s a Wa) (hb : EvC Y s b Wb) : EvC Y s (.BinOp a .Add b pos) fun k => Wa fun x => Wb fun y => x.length + y.length ≤ sizeLine ∧ k (x ++ y) := fun k w =>
  ev2 (pe_op op_add_str pe_we pe_we) (ha.q w fun x w => hb.q w fun y w F0 σ H F v u e0 S r1 r2 => ⟨toStr x, toStr y, r1, r2, by rw [toStr_len, toStr_len]; exact w.1, pu (x ++ y), s, F, e0, by rw [toStr_app]; rfl, S, _, rfl, rfl, w.2⟩)
theorem c_catL {Wa Wb : (List α → Prop) → Prop} (ha : EvL Y s a Wa) (hb : EvL Y s b Wb) : EvC Y s (.BinOp a .Add b pos) fun k => Wa fun x => Wb fun y => x.length + y.length ≤ sizeLine ∧ k (x ++ y) := fun k w =>
  ev2 (pe_op op_catF pe_we pe_we) (ha.q w fun A x hA w => hb.q w fun B y hB w F0 σ H F v u e0 S r1 r2 => by
    obtain ⟨p, zs, h1, h2, h3⟩ := hA σ H F v S r1
    obtain ⟨q, ws, g1, g2, g3⟩ := hB σ H F u S r2
    have l1 : zs.length = x.length := Paired.length h3
    have l2 : ws.length = y.length := Paired.length g3
    exact ⟨p, q, zs, ws, h1, g1, h2, g2, by omega, fun l hl => po_listC e0 S (prd_app h3 g3) w.2 l hl⟩)
theorem c_catH {Wa Wb : (Tup α → Prop) → Prop} (ha : EvC Y s a Wa) (hb : EvC Y s b Wb) : EvC Y s (.BinOp a .Add b pos) fun k => Wa fun x => Wb fun y => x.items.length + y.items.length ≤ sizeLine ∧ k (PySem.W.Tup.mk (x.items ++ y.items)) := fun k w =>
  ev2 (pe_op op_catA pe_we pe_we) (ha.q w fun x w => hb.q w fun y w F0 σ H F v u e0 S ⟨p, zs, h1, h2, h3⟩ ⟨q, ws, g1, g2, g3⟩ => by
    have l1 : zs.length = x.items.length := Paired.length h3
    have l2 : ws.length = y.items.length := Paired.length g3
    refine ⟨p, q, zs, ws, h1, g1, sqT_ext h2 S.ext, sqT_ext g2 S.ext, by omega, fun e => ?_, fun _ e => ?_, fun _ _ l hl => ?_⟩
    · have : x.items = [] := List.eq_nil_of_length_eq_zero (by rw [← l1, e]; rfl)
      exact ⟨pu (PySem.W.Tup.mk (x.items ++ y.items)), s, F, e0, ⟨q, ws, rfl, g2, by rw [this]; exact g3⟩, S, _, rfl, rfl, w.2⟩
    · have : y.items = [] := List.eq_nil_of_length_eq_zero (by rw [← l2, e]; rfl)
      exact ⟨pu (PySem.W.Tup.mk (x.items ++ y.items)), s, F, e0, ⟨p, zs, rfl, h2, by rw [this, List.append_nil]; exact h3⟩, S, _, rfl, rfl, w.2⟩
    · exact ⟨pu (PySem.W.Tup.mk (x.items ++ y.items)), s, upd F l (.tup (zs ++ ws)), e0.trans (Ext.grow (S.free hl)), ⟨l, _, rfl, .of upd_same, Vs.mono (α := α) (prd_app h3 g3) (Ext.grow (S.free hl))⟩, S.newF hl rfl, _, rfl, rfl, w.2⟩)
/-- a text so often -/
def repS (x : Txt) (n : Int) : Txt := (List.replicate n.toNat x).flatten
theorem repS_cps (x : Txt) (m : Nat) : (List.replicate m (toStr x).cps).foldl (· ++ ·) #[] = (List.replicate m x).flatten.toArray := by
  have h : ∀ (l : List (Array Nat)) (acc : Array Nat), l.foldl (· ++ ·) acc = acc ++ (l.map Array.toList).flatten.toArray := by
    intro l
    induction l with
    | nil => intro acc; simp
    | cons y l ih => intro acc; rw [List.foldl_cons, ih]; cases y; simp
  rw [h]
  simp [toStr]
theorem op_mulS {X : Cx} : OpR X (binaryOp .Mult) (fun x y H Q => ∃ (z : List Nat) (n : Int), x = .str (toStr z) ∧ y = .int n ∧ -(2 ^ 63) ≤ n ∧ z.length * n.toNat ≤ 16777216 ∧ n ≤ 16777216 ∧ Q (.str (toStr (repS z n))) H) := by
  intro pins s σ H x y v u Q I rx ry h
  obtain ⟨z, n, rfl, rfl, h1, h2, h3, q⟩ := h
  obtain ⟨t, rfl⟩ := rx
  obtain ⟨t', rfl⟩ := ry
  have zl : (toStr z).length = z.length := toStr_len z
  refine P.mul_str ?_ (fun g1 g2 => ?_) (fun g1 g2 => ?_) ?_
  · have : ¬ n ≥ 2 ^ 63 := by omega
    have : ¬ n < -(2 ^ 63 : Int) := by omega
    simp only [Bool.or_eq_false_iff, decide_eq_false_iff_not]
    exact ⟨by omega, by omega⟩
  · have hz : (z.length : Int) ≤ 16777216 := by
      have : 1 ≤ n.toNat := by omega
      have : z.length * 1 ≤ z.length * n.toNat := Nat.mul_le_mul_left _ this
      omega
    rw [zl]
    have : (16777216 : Int) ≤ (2 ^ 63 - 1) / n := by
      rw [Int.le_ediv_iff_mul_le (by omega)]
      omega
    omega
  · rw [zl]
    unfold Builtin.Str.tooLong
    rw [sizeLine_eq]
    exact decide_eq_false (by omega)
  · by_cases g : n < 1
    · rw [if_pos g]
      refine ⟨by decide, ?_⟩
      have e : repS z n = [] := by
        unfold repS
        rw [show n.toNat = 0 by omega]
        rfl
      rw [e] at q
      exact ⟨.str (toStr []), H, I.tok _, ⟨_, rfl⟩, q⟩
    · rw [if_neg g]
      by_cases g2 : (n == 1 || (toStr z).length == 0) = true
      · rw [if_pos g2]
        have e : repS z n = z := by
          unfold repS
          simp only [Bool.or_eq_true, beq_iff_eq] at g2
          rcases g2 with g2 | g2
          · rw [g2]; simp
          · rw [zl] at g2
            have : z = [] := List.eq_nil_of_length_eq_zero g2
            subst this
            simp
        rw [e] at q
        exact ⟨.str (toStr z), H, I, ⟨_, rfl⟩, q⟩
      · rw [if_neg g2]
        refine ⟨?_, ?_⟩
        · show (_ : Nat) ≤ _
          rw [repS_cps]
          have e2 : (List.replicate n.toNat z).flatten.length = n.toNat * z.length := by simp
          show (List.replicate n.toNat z).flatten.length ≤ sizeLine
          rw [e2, sizeLine_eq, Nat.mul_comm]
          exact h2
        · exact ⟨.str (toStr (repS z n)), H, I.tok _, ⟨_, by rw [repS_cps]; rfl⟩, q⟩
theorem c_mulS {Wa : (List Nat → Prop) → Prop} {Wb : (Int → Prop) → Prop} (ha : EvC Y s a Wa) (hb : EvC Y s b Wb) : EvC Y s (.BinOp a .Mult b pos) fun k => Wa fun x => Wb fun n => (-(2 ^ 63) ≤ n ∧ x.length * n.toNat ≤ 16777216 ∧ n ≤ 16777216) ∧ k (repS x n) := fun k w =>
  ev2 (pe_op op_mulS pe_we pe_we) (ha.q w fun x w => hb.q w fun n w F0 σ H F v u e0 S r1 r2 => ⟨x, n, r1, r2, w.1.1, w.1.2.1, w.1.2.2, pu (repS x n), s, F, e0, rfl, S, _, rfl, rfl, w.2⟩)
theorem vs_rep {K : Frag} {F : Hp} {vs : List V} {xs : List α} (h : Vs K F vs xs) : ∀ n : Nat, Vs K F (List.replicate n vs).flatten (List.replicate n xs).flatten
  | 0 => .nil
  | n + 1 => by
    rw [List.replicate_succ, List.replicate_succ, List.flatten_cons, List.flatten_cons]
    exact prd_app h (vs_rep h n)
/-- [..] * n -/
theorem c_repL {W : (List α → Prop) → Prop} {Wb : (Int → Prop) → Prop} {p2 : Pos} (h : EvS Y s es W) (hb : ∀ p xs, EvC Y ⟨s.ρ, (p, lstc (α := α) xs) :: s.gs⟩ b Wb) (hl : es.length ≤ sizeLine := by show _ ≤ sizeLine; decide) : EvC Y s (.BinOp (.List es p2) .Mult b pos) fun k => W fun xs => Wb fun n => (-(2 ^ 63) ≤ n ∧ n < 2 ^ 63 ∧ xs.length * n.toNat ≤ sizeLine) ∧ k (List.replicate n.toNat xs).flatten := fun k w =>
  ev2 (pe_op op_rep pe_we pe_we) (ev_listO ((h _ w).mono fun As s' ⟨xs, e1, e2, e3, w⟩ => ⟨xs, e1, by omega, fun p => by
    subst e3
    exact (hb p xs _ w).mono fun B s2 ⟨n, eb, es, w⟩ F0 σ H F v u e0 S r1 r2 => by
      subst eb es
      obtain ⟨hF, o, ho, _, vs, eo, rv⟩ := S.cell (i := 0) (p := p) (c := lstc xs) rfl
      subst eo
      have hl : vs.length = xs.length := Paired.length rv
      refine ⟨p, n, vs, r1, r2, ho, w.1.1, w.1.2.1, by rw [hl]; exact w.1.2.2, fun q hq => ?_⟩
      exact po_listC e0 (S.drop 0) (vs_rep rv _) w.2 q hq⟩))
end
end Sp
set_option maxHeartbeats 4000000
/-! Sp: methods of builtin values, calls of built-ins, to what is wanted. -/
namespace Sp
open PySem L2
open PySem.W (Datum DatumOrd SomeDatum)
section
variable {Y : DX} {s : DSt} {e a b c d o f : Expr} {es : List Expr} {pos p apos : Pos} {α β γ δ : Type} [Enc α] [Enc β] [Enc γ] [Enc δ]
/-! methods -/
theorem ev_m1C {T id : String} {name : Str} {Q : Pv → DSt → Prop} {r : V → List V → Hp → VK → Prop} (pa : PlainAttrs T) (slot : Slot T name id) (hty : typeOf (.builtin id) = pure (.type "method_descriptor")) (hm : MtR Y.X id r)
    (h : Ev Y s o fun A s1 => (∀ σ H F v, Sta Y s1 σ H F → A.rep Y.X.K F v → tyV Y.X.K T v H) ∧ Ev Y s1 e fun B s2 => ∀ F0 σ H F v u, Ext F0 F → Sta Y s2 σ H F → A.rep Y.X.K F v → B.rep Y.X.K F u → r v [u] H (Po Y σ F0 Q))
    (m : Mx1 Y.X o name apos e pos) : Ev Y s (.Call (.Attribute o name apos) [e] [] pos) Q := fun F0 σ H F e0 S => by
  refine .of (pe_bm pa slot hty hm pe_we (pa_cons pe_we pa_nil m.star) m.base m.few m.line m.star (by rfl)) ?_
  refine (h F σ H F (.refl _) S).mono fun v H1 ⟨A, s1, F1, e1, r1, S1, ht, q⟩ => ⟨ht _ _ _ _ S1 r1, ?_⟩
  refine (q F1 σ H1 F1 (.refl _) S1).mono fun u H2 ⟨B, s2, F2, e2, r2, S2, q⟩ => ?_
  exact q F0 σ H2 F2 v u ((e0.trans e1).trans e2) S2 (A.mono r1 e2) r2
theorem ev_m0C {T id : String} {name : Str} {Q : Pv → DSt → Prop} {r : V → List V → Hp → VK → Prop} (pa : PlainAttrs T) (slot : Slot T name id) (hty : typeOf (.builtin id) = pure (.type "method_descriptor")) (hm : MtR Y.X id r)
    (h : Ev Y s o fun A s1 => (∀ σ H F v, Sta Y s1 σ H F → A.rep Y.X.K F v → tyV Y.X.K T v H) ∧ ∀ F0 σ H F v, Ext F0 F → Sta Y s1 σ H F → A.rep Y.X.K F v → r v [] H (Po Y σ F0 Q))
    (m : Mx0 Y.X o name apos pos) : Ev Y s (.Call (.Attribute o name apos) [] [] pos) Q := fun F0 σ H F e0 S => by
  refine .of (pe_bm0 pa slot hty hm pe_we m.base m.line) ?_
  refine (h F σ H F (.refl _) S).mono fun v H1 ⟨A, s1, F1, e1, r1, S1, ht, q⟩ => ⟨ht _ _ _ _ S1 r1, ?_⟩
  exact q F0 σ H1 F1 v (e0.trans e1) S1 r1
structure Mx2 (X : Cx) (o : Expr) (m : Str) (apos : Pos) (e f : Expr) (pos : Pos) : Prop where
  base : attributeBase o m X.env (eval o X.env) = eval o X.env
  few : ((backTo pos (starEach [e, f] X.env)).all (fun x => !x.1) && (backToKw pos (keywordEach [] X.env)).all (fun x => x.1.isSome)
      && decide (([e, f] : List Expr).length + ([] : List Keyword).length + (if ([] : List Keyword).isEmpty then 0 else 1) < 30)) = true
  line : (apos.endLine == pos.line) = true
  star : starEach [e, f] X.env = (false, eval e X.env) :: starEach [f] X.env
  star2 : starEach [f] X.env = (false, eval f X.env) :: starEach [] X.env
theorem ev_m2C {T id : String} {name : Str} {Q : Pv → DSt → Prop} {r : V → List V → Hp → VK → Prop} (pa : PlainAttrs T) (slot : Slot T name id) (hty : typeOf (.builtin id) = pure (.type "method_descriptor")) (hm : MtR Y.X id r)
    (h : Ev Y s o fun A s1 => (∀ σ H F v, Sta Y s1 σ H F → A.rep Y.X.K F v → tyV Y.X.K T v H) ∧ Ev Y s1 e fun B s2 => Ev Y s2 f fun C s3 => ∀ F0 σ H F v u w, Ext F0 F → Sta Y s3 σ H F → A.rep Y.X.K F v → B.rep Y.X.K F u → C.rep Y.X.K F w → r v [u, w] H (Po Y σ F0 Q))
    (m : Mx2 Y.X o name apos e f pos) : Ev Y s (.Call (.Attribute o name apos) [e, f] [] pos) Q := fun F0 σ H F e0 S => by
  refine .of (pe_bm pa slot hty hm pe_we (pa_cons pe_we (pa_cons pe_we pa_nil m.star2) m.star) m.base m.few m.line m.star (by rw [m.star2]; rfl)) ?_
  refine (h F σ H F (.refl _) S).mono fun v H1 ⟨A, s1, F1, e1, r1, S1, ht, q⟩ => ⟨ht _ _ _ _ S1 r1, ?_⟩
  refine (q F1 σ H1 F1 (.refl _) S1).mono fun u H2 ⟨B, s2, F2, e2, r2, S2, q⟩ => ?_
  refine (q F2 σ H2 F2 (.refl _) S2).mono fun w H3 ⟨C, s3, F3, e3, r3, S3, q⟩ => ?_
  exact q F0 σ H3 F3 v u w (((e0.trans e1).trans e2).trans e3) S3 (A.mono r1 (e2.trans e3)) (B.mono r2 e3) r3
/-! texts -/
section
variable {Wo We Wf : (List Nat → Prop) → Prop} {Wi : (Int → Prop) → Prop}
theorem ty_txt {x : List Nat} : ∀ σ H F v, Sta Y s σ H F → (pu x).rep Y.X.K F v → tyV Y.X.K "str" v H := fun σ H F v S r => tyV_str r
def upT (x : Txt) : Txt := tx (Txt.upper (toStr x))
def loT (x : Txt) : Txt := tx (Txt.lower (toStr x))
def stripT (x : Txt) : Txt := tx (Txt.strip (toStr x))
def cntT (x y : Txt) : Int := Txt.count (toStr x) (toStr y)
def startT (x y : Txt) : Bool := Txt.startswith (toStr x) (toStr y)
def startT3 (x y : Txt) (i : Int) : Bool := Txt.startswith3 (toStr x) (toStr y) i
def endT (x y : Txt) : Bool := Txt.endswith (toStr x) (toStr y)
def rfindT (x y : Txt) : Int := Txt.rfind (toStr x) (toStr y)
def splitT (x y : Txt) : List Txt := (Txt.split (toStr x) (toStr y)).map tx
def partT (x y : Txt) : T3 Txt Txt Txt := let z := Txt.partition (toStr x) (toStr y); ⟨tx z.1, tx z.2.1, tx z.2.2⟩
/-- the first place of y in x -/
def idxT (x y : Txt) : Int := ((Builtin.Str.occurrences (toStr x) (toStr y) 0 x.length 1).headD 0 : Nat)
theorem c_upper (ho : EvC Y s o Wo) (m : Mx0 Y.X o "upper" apos pos := by exact mx0 rfl rfl) : EvC Y s (.Call (.Attribute o "upper" apos) [] [] pos) fun k => Wo fun x => x.length ≤ 5592405 ∧ k (upT x) := fun k w =>
  ev_m0C PySem.F.plainAttrs_str PySem.F.slot_str_upper PySem.F.type_str_upper mt_upper (ho.q w fun x w => ⟨ty_txt, fun F0 σ H F v e0 S r => ⟨toStr x, r, rfl, by rw [toStr_len]; exact w.1, pu (upT x), s, F, e0, (by show V.str _ = V.str _; unfold upT; rw [toStr_tx]), S, _, rfl, rfl, w.2⟩⟩) m
theorem c_lower (ho : EvC Y s o Wo) (m : Mx0 Y.X o "lower" apos pos := by exact mx0 rfl rfl) : EvC Y s (.Call (.Attribute o "lower" apos) [] [] pos) fun k => Wo fun x => x.length ≤ 5592405 ∧ k (loT x) := fun k w =>
  ev_m0C PySem.F.plainAttrs_str PySem.F.slot_str_lower PySem.F.type_str_lower mt_lower (ho.q w fun x w => ⟨ty_txt, fun F0 σ H F v e0 S r => ⟨toStr x, r, rfl, by rw [toStr_len]; exact w.1, pu (loT x), s, F, e0, (by show V.str _ = V.str _; unfold loT; rw [toStr_tx]), S, _, rfl, rfl, w.2⟩⟩) m
theorem c_strip (ho : EvC Y s o Wo) (m : Mx0 Y.X o "strip" apos pos := by exact mx0 rfl rfl) : EvC Y s (.Call (.Attribute o "strip" apos) [] [] pos) fun k => Wo fun x => x.length ≤ sizeLine ∧ k (stripT x) := fun k w =>
  ev_m0C PySem.F.plainAttrs_str PySem.F.slot_str_strip PySem.F.type_str_strip mt_strip (ho.q w fun x w => ⟨ty_txt, fun F0 σ H F v e0 S r => ⟨toStr x, r, rfl, by rw [toStr_len]; exact w.1, pu (stripT x), s, F, e0, (by show V.str _ = V.str _; unfold stripT; rw [toStr_tx]), S, _, rfl, rfl, w.2⟩⟩) m
theorem c_cntS (ho : EvC Y s o Wo) (he : EvC Y s e We) (m : Mx1 Y.X o "count" apos e pos := by exact mx1 rfl rfl rfl) : EvC Y s (.Call (.Attribute o "count" apos) [e] [] pos) fun k => Wo fun x => We fun y => k (cntT x y) := fun k w =>
  ev_m1C PySem.F.plainAttrs_str PySem.F.slot_str_count PySem.F.type_str_count mt_count (ho.q w fun x w => ⟨ty_txt, he.q w fun y w F0 σ H F v u e0 S r r2 => ⟨toStr x, toStr y, r, by rw [show u = V.str (toStr y) from r2], pu (cntT x y), s, F, e0, rfl, S, _, rfl, rfl, w⟩⟩) m
theorem c_start (ho : EvC Y s o Wo) (he : EvC Y s e We) (m : Mx1 Y.X o "startswith" apos e pos := by exact mx1 rfl rfl rfl) : EvC Y s (.Call (.Attribute o "startswith" apos) [e] [] pos) fun k => Wo fun x => We fun y => k (startT x y) := fun k w =>
  ev_m1C PySem.F.plainAttrs_str PySem.F.slot_str_startswith PySem.F.type_str_startswith mt_startswith (ho.q w fun x w => ⟨ty_txt, he.q w fun y w F0 σ H F v u e0 S r r2 => ⟨toStr x, toStr y, r, by rw [show u = V.str (toStr y) from r2], pu (startT x y), s, F, e0, rfl, S, _, rfl, rfl, w⟩⟩) m
theorem c_end (ho : EvC Y s o Wo) (he : EvC Y s e We) (m : Mx1 Y.X o "endswith" apos e pos := by exact mx1 rfl rfl rfl) : EvC Y s (.Call (.Attribute o "endswith" apos) [e] [] pos) fun k => Wo fun x => We fun y => k (endT x y) := fun k w =>
  ev_m1C PySem.F.plainAttrs_str PySem.F.slot_str_endswith PySem.F.type_str_endswith mt_endswith (ho.q w fun x w => ⟨ty_txt, he.q w fun y w F0 σ H F v u e0 S r r2 => ⟨toStr x, toStr y, r, by rw [show u = V.str (toStr y) from r2], pu (endT x y), s, F, e0, rfl, S, _, rfl, rfl, w⟩⟩) m
theorem c_rfind (ho : EvC Y s o Wo) (he : EvC Y s e We) (m : Mx1 Y.X o "rfind" apos e pos := by exact mx1 rfl rfl rfl) : EvC Y s (.Call (.Attribute o "rfind" apos) [e] [] pos) fun k => Wo fun x => We fun y => k (rfindT x y) := fun k w =>
  ev_m1C PySem.F.plainAttrs_str PySem.F.slot_str_rfind PySem.F.type_str_rfind mt_rfind (ho.q w fun x w => ⟨ty_txt, he.q w fun y w F0 σ H F v u e0 S r r2 => ⟨toStr x, toStr y, r, by rw [show u = V.str (toStr y) from r2], pu (rfindT x y), s, F, e0, rfl, S, _, rfl, rfl, w⟩⟩) m
theorem c_idxS (ho : EvC Y s o Wo) (he : EvC Y s e We) (m : Mx1 Y.X o "index" apos e pos := by exact mx1 rfl rfl rfl) : EvC Y s (.Call (.Attribute o "index" apos) [e] [] pos) fun k => Wo fun x => We fun y => tin y x = true ∧ k (idxT x y) := fun k w =>
  ev_m1C PySem.F.plainAttrs_str PySem.F.slot_str_index PySem.F.type_str_index mt_sindex (ho.q w fun x w => ⟨ty_txt, he.q w fun y w F0 σ H F v u e0 S r r2 => by
    obtain ⟨h1, w⟩ := w
    unfold tin at h1
    unfold idxT at w
    cases ho : Builtin.Str.occurrences (toStr x) (toStr y) 0 x.length 1 with
    | nil => rw [ho] at h1; cases h1
    | cons i rest =>
      rw [ho] at w
      exact ⟨toStr x, toStr y, i, rest, r, by rw [show u = V.str (toStr y) from r2], by rw [toStr_len]; exact ho, pu ((i : Nat) : Int), s, F, e0, rfl, S, _, rfl, rfl, w⟩⟩) m
theorem txts_back (ys : List Str) : ys.map V.str = ((ys.map tx).map toStr).map V.str := by
  rw [List.map_map, List.map_map]
  exact List.map_congr_left fun y _ => by show V.str y = V.str (toStr (tx y)); rw [toStr_tx]
theorem vs_strs {K : Frag} {F : Hp} : ∀ ys : List Str, Vs K F (ys.map V.str) (ys.map tx)
  | [] => .nil
  | y :: r => .cons (by show V.str y = V.str (toStr (tx y)); rw [toStr_tx]) (vs_strs r)
theorem c_split (ho : EvC Y s o Wo) (he : EvC Y s e We) (m : Mx1 Y.X o "split" apos e pos := by exact mx1 rfl rfl rfl) : EvC Y s (.Call (.Attribute o "split" apos) [e] [] pos) fun k => Wo fun x => We fun y => (y ≠ [] ∧ x.length + 2 ≤ sizeLine) ∧ k (splitT x y) := fun k w =>
  ev_m1C PySem.F.plainAttrs_str PySem.F.slot_str_split PySem.F.type_str_split mt_split (ho.q w fun x w => ⟨ty_txt, he.q w fun y w F0 σ H F v u e0 S r r2 => ⟨toStr x, toStr y, r, by rw [show u = V.str (toStr y) from r2], by
    rw [toStr_len]
    cases y with
    | nil => exact absurd rfl w.1.1
    | cons c y => rfl, by rw [toStr_len]; exact w.1.2, fun l hl => po_listC e0 S (vs_strs _) w.2 l hl⟩⟩) m
theorem c_part (ho : EvC Y s o Wo) (he : EvC Y s e We) (m : Mx1 Y.X o "partition" apos e pos := by exact mx1 rfl rfl rfl) : EvC Y s (.Call (.Attribute o "partition" apos) [e] [] pos) fun k => Wo fun x => We fun y => (y ≠ [] ∧ x.length ≤ sizeLine) ∧ k (partT x y) := fun k w =>
  ev_m1C PySem.F.plainAttrs_str PySem.F.slot_str_partition PySem.F.type_str_partition mt_partition (ho.q w fun x w => ⟨ty_txt, he.q w fun y w F0 σ H F v u e0 S r r2 => ⟨toStr x, toStr y, r, by rw [show u = V.str (toStr y) from r2], by
    rw [toStr_len]
    cases y with
    | nil => exact absurd rfl w.1.1
    | cons c y => rfl, by rw [toStr_len]; exact w.1.2, fun l hl => po_tup (A := pu (partT x y)) e0 S (fun F' p e' hs => ⟨p, _, _, _, rfl, hs, (by show V.str _ = V.str (toStr (tx _)); rw [toStr_tx]), (by show V.str _ = V.str (toStr (tx _)); rw [toStr_tx]), (by show V.str _ = V.str (toStr (tx _)); rw [toStr_tx])⟩) ⟨_, rfl, rfl, w.2⟩ l hl⟩⟩) m
theorem c_join {Wl : (List (List Nat) → Prop) → Prop} (ho : EvC Y s o Wo) (he : EvL Y s e Wl) (m : Mx1 Y.X o "join" apos e pos := by exact mx1 rfl rfl rfl) : EvC Y s (.Call (.Attribute o "join" apos) [e] [] pos) fun k => Wo fun x => Wl fun xs => lenSum xs + xs.length * x.length ≤ 16777216 ∧ k (joinT x xs) := fun k w =>
  ev_m1C PySem.F.plainAttrs_str PySem.F.slot_str_join PySem.F.type_str_join mt_join (ho.q w fun x w => ⟨ty_txt, he.q w fun B xs hB w F0 σ H F v u e0 S r r2 => by
    obtain ⟨q, zs, h1, h2, h3⟩ := hB σ H F u S r2
    rw [txts_map h3] at h2
    refine ⟨toStr x, q, xs.map toStr, r, by rw [h1], .inl h2, ?_, pu (joinT x xs), s, F, e0, by rw [toStr_join']; rfl, S, _, rfl, rfl, w.2⟩
    have e1 : (xs.map toStr).map (·.length) = xs.map List.length := by rw [List.map_map]; exact List.map_congr_left fun y _ => toStr_len y
    rw [e1, List.length_map, toStr_len]
    exact w.1⟩) m
theorem c_start3 (ho : EvC Y s o Wo) (he : EvC Y s e We) (hf : EvC Y s f Wi) (m : Mx2 Y.X o "startswith" apos e f pos := by exact ⟨rfl, rfl, rfl, rfl, rfl⟩) : EvC Y s (.Call (.Attribute o "startswith" apos) [e, f] [] pos) fun k => Wo fun x => We fun y => Wi fun i => k (startT3 x y i) := fun k w =>
  ev_m2C PySem.F.plainAttrs_str PySem.F.slot_str_startswith PySem.F.type_str_startswith mt_startswith3 (ho.q w fun x w => ⟨ty_txt, he.q w fun y w => hf.q w fun i w F0 σ H F v u z e0 S r r2 r3 => ⟨toStr x, toStr y, i, r, by rw [show u = V.str (toStr y) from r2, show z = V.int i from r3], pu (startT3 x y i), s, F, e0, rfl, S, _, rfl, rfl, w⟩⟩) m
end
/-! lists -/
section
variable {δ : Type} [DecidableEq δ] [Enc δ] [Datum δ] [Dat δ] {Wo : (List δ → Prop) → Prop} {We : (δ → Prop) → Prop}
theorem c_cntL (ok : YOk Y) (ho : EvL Y s o Wo) (he : EvC Y s e We) (m : Mx1 Y.X o "count" apos e pos := by exact mx1 rfl rfl rfl) (hd : Datum.depth δ ≤ 60 := by decide) : EvC Y s (.Call (.Attribute o "count" apos) [e] [] pos) fun k => Wo fun xs => We fun x => k (cnt xs x : Int) := fun k w =>
  ev_m1C PySem.F.plainAttrs_list PySem.F.slot_list_count PySem.F.type_list_count (mt_countT (α := δ) ok.room.units hd) (ho.q w fun A xs hA w => ⟨hA.ty, he.q w fun x w F0 σ H F v u e0 S r1 r2 => ⟨x, xs, u, rfl, Enc.mono (α := δ) r2 S.ext, hA.rd S r1, pu (cnt xs x : Int), s, F, e0, rfl, S, _, rfl, rfl, w⟩⟩) m
theorem c_idxL (ok : YOk Y) (ho : EvL Y s o Wo) (he : EvC Y s e We) (m : Mx1 Y.X o "index" apos e pos := by exact mx1 rfl rfl rfl) (hd : Datum.depth δ ≤ 60 := by decide) : EvC Y s (.Call (.Attribute o "index" apos) [e] [] pos) fun k => Wo fun xs => We fun x => x ∈ xs ∧ k (idx xs x : Int) := fun k w =>
  ev_m1C PySem.F.plainAttrs_list PySem.F.slot_list_index PySem.F.type_list_index (mt_indexT (α := δ) ok.room.units hd) (ho.q w fun A xs hA w => ⟨hA.ty, he.q w fun x w F0 σ H F v u e0 S r1 r2 => ⟨x, xs, u, rfl, Enc.mono (α := δ) r2 S.ext, hA.rd S r1, w.1, pu (idx xs x : Int), s, F, e0, rfl, S, _, rfl, rfl, w.2⟩⟩) m
end
/-! dicts -/
section
variable {κ ν : Type} [DecidableEq κ] [Kk κ] [Enc κ] [KkV κ] [Enc ν] {Wd : (List (κ × ν) → Prop) → Prop} {Wk : (κ → Prop) → Prop} {Wv : (ν → Prop) → Prop}
theorem c_dget [Inhabited ν] (ok : YOk Y) (ha : EvD Y s a Wd) (hb : EvC Y s b Wk) (hs : NoSl b := by intro _ _; rfl) : EvC Y s (.Subscript a b pos) fun k => Wd fun m => Wk fun x => dhas m x = true ∧ k (dgt m x) := fun k w F0 σ H F e0 S => by
  refine .of (pe_dget (by have := ok.room.units; omega) pe_we pe_we hs) ?_
  refine (ha _ w F σ H F (.refl _) S).mono fun v H1 ⟨A, _, F1, e1, r1, S1, m, hA, es, w⟩ => ?_
  subst es
  refine (hb _ w F1 σ H1 F1 (.refl _) S1).mono fun u H2 ⟨_, _, F2, e2, r2, S2, x, ex, es, w⟩ => ?_
  subst ex es
  obtain ⟨q, zs, ev, hr, hz⟩ := hA σ H2 F2 v S2 (A.mono r1 e2)
  obtain ⟨w1, w2⟩ := w
  unfold dhas at w1
  unfold dgt at w2
  rcases kvs_val hz x with ⟨h1, _⟩ | ⟨z, y, h1, h2, h3⟩
  · rw [h1] at w1; cases w1
  · rw [h1] at w2
    exact ⟨q, z, ev, .inl ⟨zs, Kk.key x, hr, KkV.of r2, h2.symm⟩, pu y, _, F2, (e0.trans e1).trans e2, h3, S2, _, rfl, rfl, w2⟩
theorem c_dget2 (ok : YOk Y) (ho : EvD Y s o Wd) (he : EvC Y s e Wk) (hf : EvC Y s f Wv) (M : M2 Y.X o "get" apos e f pos := by exact ⟨rfl, rfl, rfl, rfl⟩) : EvC Y s (.Call (.Attribute o "get" apos) [e, f] [] pos) fun k => Wd fun m => Wk fun x => Wv fun y => k ((dval m x).getD y) := fun k w F0 σ H F e0 S => by
  refine .of (pe_dget2 (by have := ok.room.units; omega) pe_we pe_we pe_we M) ?_
  refine (ho _ w F σ H F (.refl _) S).mono fun v H1 ⟨A, _, F1, e1, r1, S1, m, hA, es, w⟩ => ?_
  subst es
  obtain ⟨q, zs, ev, hr, hz⟩ := hA σ H1 F1 v S1 r1
  refine ⟨q, ev, .inl ⟨zs, hr⟩, ?_⟩
  refine (he _ w F1 σ H1 F1 (.refl _) S1).mono fun u H2 ⟨_, _, F2, e2, r2, S2, x, ex, es, w⟩ => ?_
  subst ex es
  refine (hf _ w F2 σ H2 F2 (.refl _) S2).mono fun z H3 ⟨_, _, F3, e3, r3, S3, y, ey, es, w⟩ => ?_
  subst ey es
  obtain ⟨q', zs', ev', hr', hz'⟩ := hA σ H3 F3 v S3 (A.mono r1 (e2.trans e3))
  have eq : q' = q := by rw [ev] at ev'; cases ev'; rfl
  subst eq
  refine ⟨valV zs' (Kk.key x), .inl ⟨zs', Kk.key x, hr', KkV.of r2, rfl⟩, pu ((dval m x).getD y), _, F3, ((e0.trans e1).trans e2).trans e3, ?_, S3, _, rfl, rfl, w⟩
  rcases kvs_val hz' x with ⟨h1, h2⟩ | ⟨w', y', h1, h2, h3⟩
  · rw [h1, h2]; exact r3
  · rw [h1, h2]; exact h3
theorem c_dget1 (ok : YOk Y) (ho : EvD Y s o Wd) (he : EvC Y s e Wk) (M : M1 Y.X o "get" apos e pos := by exact ⟨rfl, rfl, rfl, rfl⟩) : EvC Y s (.Call (.Attribute o "get" apos) [e] [] pos) fun k => Wd fun m => Wk fun x => k (dval m x) := fun k w F0 σ H F e0 S => by
  refine .of (pe_dget1 (by have := ok.room.units; omega) pe_we pe_we M) ?_
  refine (ho _ w F σ H F (.refl _) S).mono fun v H1 ⟨A, _, F1, e1, r1, S1, m, hA, es, w⟩ => ?_
  subst es
  obtain ⟨q, zs, ev, hr, hz⟩ := hA σ H1 F1 v S1 r1
  refine ⟨q, ev, .inl ⟨zs, hr⟩, ?_⟩
  refine (he _ w F1 σ H1 F1 (.refl _) S1).mono fun u H2 ⟨_, _, F2, e2, r2, S2, x, ex, es, w⟩ => ?_
  subst ex es
  obtain ⟨q', zs', ev', hr', hz'⟩ := hA σ H2 F2 v S2 (A.mono r1 e2)
  have eq : q' = q := by rw [ev] at ev'; cases ev'; rfl
  subst eq
  refine ⟨valV zs' (Kk.key x), .inl ⟨zs', Kk.key x, hr', KkV.of r2, rfl⟩, pu (dval m x), _, F2, (e0.trans e1).trans e2, ?_, S2, _, rfl, rfl, w⟩
  rcases kvs_val hz' x with ⟨h1, h2⟩ | ⟨w', y', h1, h2, h3⟩
  · rw [h1, h2]; rfl
  · rw [h1, h2]; exact h3
theorem c_dnew {κ ν : Type} [DecidableEq κ] [Kk κ] [Enc κ] [KkV κ] [Enc ν] : EvC Y s (.Dict [] [] pos) fun k => k (Dct.mk ([] : List (κ × ν))) := c_of evp_dnew
end
end
end Sp
set_option maxHeartbeats 4000000
/-! Sp: calls of built-ins; sources of walks. -/
namespace Sp
open PySem L2
open PySem.W (Datum DatumOrd SomeDatum)
/-- the least, the greatest of a list that isn't empty -/
def minL {α : Type} [DecidableEq α] [DatumOrd α] [Inhabited α] : List α → α
  | [] => default
  | x :: r => PySem.W.minOf x r
def maxL {α : Type} [DecidableEq α] [DatumOrd α] [Inhabited α] : List α → α
  | [] => default
  | x :: r => PySem.W.maxOf x r
section
variable {Y : DX} {s : DSt} {e a b c d o f : Expr} {es : List Expr} {pos p apos : Pos} {α β γ δ : Type} [Enc α] [Enc β] [Enc γ] [Enc δ]
theorem ev_T1C {x : Str} {T : String} {Q : Pv → DSt → Prop} {r : List V → Hp → VK → Prop} (hc : CallR Y.X (.type T) r) (hg : Gl Y.X x) (hm : Y.X.mg x = none) (hv : bootBuiltins x = some (.type T))
    (h : Ev Y s a fun A s1 => ∀ F0 σ H F v, Ext F0 F → Sta Y s1 σ H F → A.rep Y.X.K F v → r [v] H (Po Y σ F0 Q)) (hn : x ≠ "__name__" := by decide) (hdb : (x == ("__debug__" : Str)) = false := by decide)
    (he : starEach [a] Y.X.env = (false, eval a Y.X.env) :: starEach [] Y.X.env := by exact star_c rfl) : Ev Y s (.Call (.Name x p) [a] [] pos) Q := ev_T1 hc hg hm hv h hn hdb he
section
variable {Wi Wj : (Int → Prop) → Prop} {Wb : (Bool → Prop) → Prop} {Wt : (List Nat → Prop) → Prop}
theorem c_sum {W : (List Int → Prop) → Prop} (ok : YOk Y) (T : Bis Y.X.mg) (hg : Gl Y.X "sum") (ha : EvL Y s a W) (he : starEach [a] Y.X.env = (false, eval a Y.X.env) :: starEach [] Y.X.env := by exact star_c rfl) : EvC Y s (.Call (.Name "sum" p) [a] [] pos) fun k => W fun ns => k ns.sum := fun k w =>
  ev_B1 (cr_sumT ok.calm) hg (T.no _ (by decide)) PyProof.Rows.boot_sum (ha.q w fun A ns hA w F0 σ H F v e0 S r => ⟨v, ns, rfl, hA.da σ H F v S r, pu ns.sum, s, F, e0, rfl, S, _, rfl, rfl, w⟩) (by decide) (by decide) he
theorem c_abs (T : Bis Y.X.mg) (hg : Gl Y.X "abs") (ha : EvC Y s a Wi) (he : starEach [a] Y.X.env = (false, eval a Y.X.env) :: starEach [] Y.X.env := by exact star_c rfl) : EvC Y s (.Call (.Name "abs" p) [a] [] pos) fun k => Wi fun i => k (if i < 0 then -i else i) := fun k w =>
  ev_B1 call_abs hg (T.no _ (by decide)) PyProof.Rows.boot_abs (ha.q w fun i w F0 σ H F v e0 S r => ⟨i, by rw [show v = .int i from r], pu (if i < 0 then -i else i), s, F, e0, rfl, S, _, rfl, rfl, w⟩) (by decide) (by decide) he
theorem c_int1 (T : Bis Y.X.mg) (hg : Gl Y.X "int") (ha : EvC Y s a Wi) (he : starEach [a] Y.X.env = (false, eval a Y.X.env) :: starEach [] Y.X.env := by exact star_c rfl) : EvC Y s (.Call (.Name "int" p) [a] [] pos) fun k => Wi fun i => k i := fun k w =>
  ev_T1 call_int1 hg (T.no _ (by decide)) PySem.Pv.boot_int (ha.q w fun i w F0 σ H F v e0 S h1 => .inl ⟨i, by cases h1; rfl, pu i, s, F, e0, rfl, S, _, rfl, rfl, w⟩) (by decide) (by decide) he
theorem c_intB (T : Bis Y.X.mg) (hg : Gl Y.X "int") (ha : EvC Y s a Wb) (he : starEach [a] Y.X.env = (false, eval a Y.X.env) :: starEach [] Y.X.env := by exact star_c rfl) : EvC Y s (.Call (.Name "int" p) [a] [] pos) fun k => Wb fun x => k (if x = true then (1 : Int) else 0) := fun k w =>
  ev_T1 call_int1 hg (T.no _ (by decide)) PySem.Pv.boot_int (ha.q w fun x w F0 σ H F v e0 S h1 => .inr ⟨x, by cases h1; rfl, pu (if x = true then (1 : Int) else 0), s, F, e0, rfl, S, _, rfl, rfl, w⟩) (by decide) (by decide) he
/-- int(text) -/
def intT (x : Txt) : Int := (PySem.intText? (toStr x)).getD 0
theorem c_intS (T : Bis Y.X.mg) (hg : Gl Y.X "int") (ha : EvC Y s a Wt) (he : starEach [a] Y.X.env = (false, eval a Y.X.env) :: starEach [] Y.X.env := by exact star_c rfl) : EvC Y s (.Call (.Name "int" p) [a] [] pos) fun k => Wt fun x => ((PySem.intText? (toStr x)).isSome = true ∧ x.length ≤ 640) ∧ k (intT x) := fun k w =>
  ev_T1 call_int_str hg (T.no _ (by decide)) PySem.Pv.boot_int (ha.q w fun x w F0 σ H F v e0 S h1 => by
    obtain ⟨⟨w1, w2⟩, w3⟩ := w
    unfold intT at w3
    cases hi : PySem.intText? (toStr x) with
    | none => rw [hi] at w1; cases w1
    | some n =>
      rw [hi] at w3
      exact ⟨toStr x, n, by cases h1; rfl, hi, by rw [toStr_len]; exact w2, pu n, s, F, e0, rfl, S, _, rfl, rfl, w3⟩) (by decide) (by decide) he
/-- str(n) -/
def strI (n : Int) : Txt := tx (toString n)
theorem c_strI (T : Bis Y.X.mg) (hg : Gl Y.X "str") (ha : EvC Y s a Wi) (he : starEach [a] Y.X.env = (false, eval a Y.X.env) :: starEach [] Y.X.env := by exact star_c rfl) : EvC Y s (.Call (.Name "str" p) [a] [] pos) fun k => Wi fun n => n.natAbs.log2 < 1920 ∧ k (strI n) := fun k w =>
  ev_T1 call_str_int hg (T.no _ (by decide)) PySem.Pv.boot_str (ha.q w fun n w F0 σ H F v e0 S h1 => ⟨n, by cases h1; rfl, w.1, pu (strI n), s, F, e0, (by show V.str _ = V.str (toStr (tx _)); rw [toStr_tx]), S, _, rfl, rfl, w.2⟩) (by decide) (by decide) he
theorem c_min2 (ok : YOk Y) (T : Bis Y.X.mg) (hg : Gl Y.X "min") (ha : EvC Y s a Wi) (hb : EvC Y s b Wj)
    (he : starEach [a, b] Y.X.env = (false, eval a Y.X.env) :: starEach [b] Y.X.env := by exact star_c rfl) (he2 : starEach [b] Y.X.env = (false, eval b Y.X.env) :: starEach [] Y.X.env := by exact star_c rfl) (hpl : (backTo pos (starEach [b] Y.X.env)).any (·.1) = false := by exact star_any rfl) :
    EvC Y s (.Call (.Name "min" p) [a, b] [] pos) fun k => Wi fun i => Wj fun j => k (min i j) := fun k w =>
  ev_B2 (call_min2 ok.calm) hg (T.no _ (by decide)) PyProof.Rows.boot_min (ha.q w fun i w => hb.q w fun j w F0 σ H F v u e0 S r r2 => ⟨i, j, by rw [show v = .int i from r, show u = .int j from r2], pu (min i j), s, F, e0, (by
    show V.int (if j < i then j else i) = V.int (min i j)
    rw [Int.min_def]
    split <;> split <;> first | rfl | (exfalso; omega)), S, _, rfl, rfl, w⟩) (by decide) (by decide) he he2 hpl
theorem c_max2 (ok : YOk Y) (T : Bis Y.X.mg) (hg : Gl Y.X "max") (ha : EvC Y s a Wi) (hb : EvC Y s b Wj)
    (he : starEach [a, b] Y.X.env = (false, eval a Y.X.env) :: starEach [b] Y.X.env := by exact star_c rfl) (he2 : starEach [b] Y.X.env = (false, eval b Y.X.env) :: starEach [] Y.X.env := by exact star_c rfl) (hpl : (backTo pos (starEach [b] Y.X.env)).any (·.1) = false := by exact star_any rfl) :
    EvC Y s (.Call (.Name "max" p) [a, b] [] pos) fun k => Wi fun i => Wj fun j => k (max i j) := fun k w =>
  ev_B2 (call_max2 ok.calm) hg (T.no _ (by decide)) PyProof.Rows.boot_max (ha.q w fun i w => hb.q w fun j w F0 σ H F v u e0 S r r2 => ⟨i, j, by rw [show v = .int i from r, show u = .int j from r2], pu (max i j), s, F, e0, (by
    show V.int (if j > i then j else i) = V.int (max i j)
    rw [Int.max_def]
    split <;> split <;> first | rfl | (congr 1; omega)), S, _, rfl, rfl, w⟩) (by decide) (by decide) he he2 hpl
end
section
variable {δ : Type} [DecidableEq δ] [Enc δ] [DatumOrd δ] [Dat δ] {W : (List δ → Prop) → Prop}
theorem c_sorted [Srtb δ] (ok : YOk Y) (T : Bis Y.X.mg) (hg : Gl Y.X "sorted") (ha : EvL Y s a W) (hd : Datum.depth δ ≤ 60 := by decide) (he : starEach [a] Y.X.env = (false, eval a Y.X.env) :: starEach [] Y.X.env := by exact star_c rfl) :
    EvC Y s (.Call (.Name "sorted" p) [a] [] pos) fun k => W fun xs => k (srt xs) := fun k w =>
  ev_B1 (cr_sortedF (α := δ) ok.room.units hd) hg (T.no _ (by decide)) PyProof.Rows.boot_sorted (ha.q w fun A xs hA w F0 σ H F v e0 S r => by
    obtain ⟨q, zs, h1, h2, h3⟩ := hA σ H F v S r
    exact ⟨F, v, q, zs, xs, rfl, h1, h2, h3, S.ext, fun q' zs' hq' r' => po_listC e0 S r' w q' hq'⟩) (by decide) (by decide) he
theorem c_min [Inhabited δ] (ok : YOk Y) (T : Bis Y.X.mg) (hg : Gl Y.X "min") (ha : EvL Y s a W) (hd : Datum.depth δ ≤ 60 := by decide) (he : starEach [a] Y.X.env = (false, eval a Y.X.env) :: starEach [] Y.X.env := by exact star_c rfl) :
    EvC Y s (.Call (.Name "min" p) [a] [] pos) fun k => W fun xs => xs ≠ [] ∧ k (minL xs) := fun k w =>
  ev_B1 (cr_minF (α := δ) ok.calm ok.room.units hd) hg (T.no _ (by decide)) PyProof.Rows.boot_min (ha.q w fun A xs hA w F0 σ H F v e0 S r => by
    obtain ⟨q, zs, h1, h2, h3⟩ := hA σ H F v S r
    obtain ⟨w1, w2⟩ := w
    cases xs with
    | nil => exact absurd rfl w1
    | cons x xs => exact ⟨F, v, q, zs, x, xs, rfl, h1, h2, h3, S.ext, fun z r' => ⟨pu (PySem.W.minOf x xs), s, F, e0, r', S, _, rfl, rfl, w2⟩⟩) (by decide) (by decide) he
theorem c_max [Inhabited δ] (ok : YOk Y) (T : Bis Y.X.mg) (hg : Gl Y.X "max") (ha : EvL Y s a W) (hd : Datum.depth δ ≤ 60 := by decide) (he : starEach [a] Y.X.env = (false, eval a Y.X.env) :: starEach [] Y.X.env := by exact star_c rfl) :
    EvC Y s (.Call (.Name "max" p) [a] [] pos) fun k => W fun xs => xs ≠ [] ∧ k (maxL xs) := fun k w =>
  ev_B1 (cr_maxF (α := δ) ok.calm ok.room.units hd) hg (T.no _ (by decide)) PyProof.Rows.boot_max (ha.q w fun A xs hA w F0 σ H F v e0 S r => by
    obtain ⟨q, zs, h1, h2, h3⟩ := hA σ H F v S r
    obtain ⟨w1, w2⟩ := w
    cases xs with
    | nil => exact absurd rfl w1
    | cons x xs => exact ⟨F, v, q, zs, x, xs, rfl, h1, h2, h3, S.ext, fun z r' => ⟨pu (PySem.W.maxOf x xs), s, F, e0, r', S, _, rfl, rfl, w2⟩⟩) (by decide) (by decide) he
end
theorem c_sortedS {W : (List Nat → Prop) → Prop} (ok : YOk Y) (T : Bis Y.X.mg) (hg : Gl Y.X "sorted") (ha : EvC Y s a W) (he : starEach [a] Y.X.env = (false, eval a Y.X.env) :: starEach [] Y.X.env := by exact star_c rfl) : EvC Y s (.Call (.Name "sorted" p) [a] [] pos) fun k => W fun x => x.length ≤ sizeLine ∧ k (srt (x.map fun c => [c])) := fun k w =>
  ev_B1 (cr_sortedTxt ok.calm ok.room.units) hg (T.no _ (by decide)) PyProof.Rows.boot_sorted (ha.q w fun x w F0 σ H F v e0 S r => ⟨x, by rw [show v = .str (toStr x) from r], w.1, fun l hl => po_listC e0 S (flat_vs _) w.2 l hl⟩) (by decide) (by decide) he
section
variable {κ ν : Type} [DecidableEq κ] [Kk κ] [Enc κ] [KkV κ] [Enc ν] {W : (List (κ × ν) → Prop) → Prop}
theorem c_sortedD [DatumOrd κ] [Dat κ] [Srtb κ] [FlatV κ] [FlatR κ] (ok : YOk Y) (T : Bis Y.X.mg) (hg : Gl Y.X "sorted") (ha : EvD Y s a W) (hz : ∀ k : κ, FlatV.z k = kV (Kk.key k) := by intro _; rfl) (hd : Datum.depth κ ≤ 60 := by decide)
    (he : starEach [a] Y.X.env = (false, eval a Y.X.env) :: starEach [] Y.X.env := by exact star_c rfl) : EvC Y s (.Call (.Name "sorted" p) [a] [] pos) fun k => W fun m => k (srt (m.map (·.1))) := fun k w =>
  ev_B1 (cr_sortedD (κ := κ) hz ok.calm ok.room.units hd) hg (T.no _ (by decide)) PyProof.Rows.boot_sorted (ha.q w fun A m hA w F0 σ H F v e0 S r => by
    obtain ⟨q, zs, h1, h2, h3⟩ := hA σ H F v S r
    exact ⟨q, zs, m.map (·.1), by rw [h1], h2, keys_key h3, fun l hl => po_listC e0 S (flat_vs _) w l hl⟩) (by decide) (by decide) he
theorem c_listD (ok : YOk Y) (T : Bis Y.X.mg) (hg : Gl Y.X "list") (ha : EvD Y s a W) (he : starEach [a] Y.X.env = (false, eval a Y.X.env) :: starEach [] Y.X.env := by exact star_c rfl) : EvC Y s (.Call (.Name "list" p) [a] [] pos) fun k => W fun m => k (m.map (·.1)) := fun k w =>
  ev_T1 (call_listD ok.calm) hg (T.no _ (by decide)) PyProof.Rows.boot_list (ha.q w fun A m hA w F0 σ H F v e0 S r => by
    obtain ⟨q, zs, h1, h2, h3⟩ := hA σ H F v S r
    exact ⟨q, zs, by rw [h1], h2, fun l hl => po_listC e0 S (keys_vs h3) w l hl⟩) (by decide) (by decide) he
theorem po_lock {σ : St} {F0 H F : Hp} {zs : List (Key × V)} {m : List (κ × ν)} {k : Dct κ ν → Prop} (e0 : Ext F0 F) (S : Sta Y s σ H F) (r : KVs Y.X.K F zs m) (w : k (Dct.mk m)) (q : Addr) (hq : H q = none) :
    ∃ d u, (upd H q (.dK zs)) d = some u ∧ Mut (some u) ∧ ∀ od, Po Y σ F0 (fun A s' => ∃ x, A = pu x ∧ s' = s ∧ k x) (.ref q) (upd (upd H q (.dK zs)) d (.frz od u)) :=
  ⟨q, .dK zs, upd_same, trivial, fun od => by
    rw [upd_upd]
    obtain ⟨F', e1, r', S'⟩ := pp_dict (Y := Y) e0 S r q hq od
    exact ⟨_, s, F', e1, r', S', _, rfl, rfl, w⟩⟩
theorem c_dictL {W : (List (κ × ν) → Prop) → Prop} (ok : YOk Y) (T : Bis Y.X.mg) (hg : Gl Y.X "dict") (ha : EvL Y s a W) (he : starEach [a] Y.X.env = (false, eval a Y.X.env) :: starEach [] Y.X.env := by exact star_c rfl) : EvC Y s (.Call (.Name "dict" p) [a] [] pos) fun k => W fun xs => k (Dct.mk (dmerge [] xs)) := fun k w F0 σ H F e0 S => by
  refine .lockAfter (.of (pe_callTy (call_dictP ok.calm) hg (T.no _ (by decide)) PyProof.Rows.boot_dict (pa_cons pe_we pa_nil he) (by decide) (by decide) he (by rfl)) ?_)
  refine (ha _ w F0 σ H F e0 S).mono fun v H1 ⟨A, _, F1, e1, r1, S1, xs, hA, es, w⟩ => ?_
  subst es
  obtain ⟨q, zs, h1, h2, h3⟩ := hA σ H1 F1 v S1 r1
  obtain ⟨ps, kvs, g1, g2, g3⟩ := pairs_kvs h3
  subst g1
  exact ⟨q, ps, kvs, by rw [h1], h2, Paired.mapP g2 fun _ _ z => sqT_ext z S1.ext, fun l hl => po_lock e1 S1 (kvs_merge g3 .nil) w l hl⟩
theorem c_dictD (ok : YOk Y) (T : Bis Y.X.mg) (hg : Gl Y.X "dict") (ha : EvD Y s a W) (he : starEach [a] Y.X.env = (false, eval a Y.X.env) :: starEach [] Y.X.env := by exact star_c rfl) : EvC Y s (.Call (.Name "dict" p) [a] [] pos) fun k => W fun m => k (Dct.mk m) := fun k w F0 σ H F e0 S => by
  refine .lockAfter (.of (pe_callTy call_dictD hg (T.no _ (by decide)) PyProof.Rows.boot_dict (pa_cons pe_we pa_nil he) (by decide) (by decide) he (by rfl)) ?_)
  refine (ha _ w F0 σ H F e0 S).mono fun v H1 ⟨A, _, F1, e1, r1, S1, m, hA, es, w⟩ => ?_
  subst es
  obtain ⟨q, zs, h1, h2, h3⟩ := hA σ H1 F1 v S1 r1
  exact ⟨q, zs, by rw [h1], h2, fun l hl => po_lock e1 S1 h3 w l hl⟩
end
/-! list(x), tuple(x) -/
theorem c_listL {W : (List α → Prop) → Prop} (T : Bis Y.X.mg) (hg : Gl Y.X "list") (ha : EvL Y s a W) (he : starEach [a] Y.X.env = (false, eval a Y.X.env) :: starEach [] Y.X.env := by exact star_c rfl) : EvC Y s (.Call (.Name "list" p) [a] [] pos) fun k => W fun xs => k xs := fun k w =>
  ev_T1 call_list_of hg (T.no _ (by decide)) PyProof.Rows.boot_list (ha.q w fun A xs hA w F0 σ H F v e0 S r => by
    obtain ⟨q, zs, h1, h2, h3⟩ := hA σ H F v S r
    exact ⟨q, zs, by rw [h1], .inl h2, fun l hl => po_listC e0 S h3 w l hl⟩) (by decide) (by decide) he
theorem c_listH {W : (Tup α → Prop) → Prop} (T : Bis Y.X.mg) (hg : Gl Y.X "list") (ha : EvC Y s a W) (he : starEach [a] Y.X.env = (false, eval a Y.X.env) :: starEach [] Y.X.env := by exact star_c rfl) : EvC Y s (.Call (.Name "list" p) [a] [] pos) fun k => W fun xs => k xs.items := fun k w =>
  ev_T1 call_list_of hg (T.no _ (by decide)) PyProof.Rows.boot_list (ha.q w fun xs w F0 σ H F v e0 S ⟨q, zs, h1, h2, h3⟩ => ⟨q, zs, by rw [h1], .inr (sqT_ext h2 S.ext), fun l hl => po_listC e0 S h3 w l hl⟩) (by decide) (by decide) he
theorem c_listS {W : (List Nat → Prop) → Prop} (ok : YOk Y) (T : Bis Y.X.mg) (hg : Gl Y.X "list") (ha : EvC Y s a W) (he : starEach [a] Y.X.env = (false, eval a Y.X.env) :: starEach [] Y.X.env := by exact star_c rfl) : EvC Y s (.Call (.Name "list" p) [a] [] pos) fun k => W fun x => x.length ≤ sizeLine ∧ k (x.map fun c => [c]) := fun k w =>
  ev_T1 (call_list_ofS ok.calm) hg (T.no _ (by decide)) PyProof.Rows.boot_list (ha.q w fun x w F0 σ H F v e0 S r => ⟨x, by rw [show v = .str (toStr x) from r], w.1, fun l hl => po_listC e0 S (signs_vs x) w.2 l hl⟩) (by decide) (by decide) he
theorem c_tupL {W : (List α → Prop) → Prop} (T : Bis Y.X.mg) (hg : Gl Y.X "tuple") (ha : EvL Y s a W) (he : starEach [a] Y.X.env = (false, eval a Y.X.env) :: starEach [] Y.X.env := by exact star_c rfl) : EvC Y s (.Call (.Name "tuple" p) [a] [] pos) fun k => W fun xs => k (PySem.W.Tup.mk xs) := fun k w =>
  ev_T1 call_tuple_of hg (T.no _ (by decide)) PyProof.Rows.boot_tuple (ha.q w fun A xs hA w F0 σ H F v e0 S r => by
    obtain ⟨q, zs, h1, h2, h3⟩ := hA σ H F v S r
    exact ⟨q, zs, by rw [h1], .inl ⟨h2, fun l hl => ⟨pu (PySem.W.Tup.mk xs), s, upd F l (.tup zs), e0.trans (Ext.grow (S.free hl)), ⟨l, zs, rfl, .of upd_same, h3.mono (Ext.grow (S.free hl))⟩, S.newF hl rfl, _, rfl, rfl, w⟩⟩⟩) (by decide) (by decide) he
theorem c_tupT {W : (Tup α → Prop) → Prop} (T : Bis Y.X.mg) (hg : Gl Y.X "tuple") (ha : EvC Y s a W) (he : starEach [a] Y.X.env = (false, eval a Y.X.env) :: starEach [] Y.X.env := by exact star_c rfl) : EvC Y s (.Call (.Name "tuple" p) [a] [] pos) fun k => W fun xs => k xs := fun k w =>
  ev_T1 call_tuple_of hg (T.no _ (by decide)) PyProof.Rows.boot_tuple (ha.q w fun xs w F0 σ H F v e0 S ⟨q, zs, h1, h2, h3⟩ => ⟨q, zs, by rw [h1], .inr ⟨sqT_ext h2 S.ext, pu xs, s, F, e0, ⟨q, zs, rfl, h2, h3⟩, S, _, rfl, rfl, w⟩⟩) (by decide) (by decide) he
theorem c_tupP {W : (α × β → Prop) → Prop} (T : Bis Y.X.mg) (hg : Gl Y.X "tuple") (ha : EvC Y s a W) (he : starEach [a] Y.X.env = (false, eval a Y.X.env) :: starEach [] Y.X.env := by exact star_c rfl) : EvC Y s (.Call (.Name "tuple" p) [a] [] pos) fun k => W fun x => k x := fun k w =>
  ev_T1 call_tuple_of hg (T.no _ (by decide)) PyProof.Rows.boot_tuple (ha.q w fun x w F0 σ H F v e0 S ⟨q, z1, z2, h1, h2, h3, h4⟩ => ⟨q, _, by rw [h1], .inr ⟨sqT_ext h2 S.ext, pu x, s, F, e0, ⟨q, z1, z2, rfl, h2, h3, h4⟩, S, _, rfl, rfl, w⟩⟩) (by decide) (by decide) he
end
end Sp
set_option maxHeartbeats 4000000
/-! Sp: sources of walks, to what is wanted of their items. -/
namespace Sp
open PySem L2
open PySem.W (Datum DatumOrd SomeDatum)
/-- the state stays; W k: the items are k -/
def ItC (Y : DX) (s : DSt) (tg iter : Expr) {β : Type} [Enc β] (W : (List β → Prop) → Prop) : Prop := ∀ k : List β → Prop, W k → EvItE Y s tg iter fun items s' => s' = s ∧ k items
section
variable {Y : DX} {s : DSt} {e a b c d o tg : Expr} {es elts : List Expr} {pos p apos cpos tpos : Pos} {kk : Nat} {α β γ : Type} [Enc α] [Enc β] [Enc γ] {κ ν : Type} [Kk κ] [Enc κ] [KkV κ] [Enc ν]
theorem i_list {tg iter : Expr} {WW : (List α → Prop) → Prop} (ha : EvC Y s iter WW) : ItC Y s tg iter fun kk => WW fun xs => kk xs := fun kk ww =>
  ⟨_, pi_list pe_we, fun F0 σ H F R e0 S k => (ha _ ww F0 σ H F e0 S).mono fun v H' ⟨_, _, F', e1, rr, S', xs, ea, es, ww⟩ => by
    subst ea es
    obtain ⟨p, vs, ev, hq, rv⟩ := rr
    exact ⟨p, ev, ⟨vs, sqL_ext hq S'.ext⟩, k _ _ F' _ _ e1 S' (fun i H2 F2 e2 e3 => ⟨fun x hx => by
      have hq2 := sqL_ext (sqL_ext hq e2) e3
      obtain ⟨w, hw, rw'⟩ := prd_get rv hx
      exact ⟨⟨vs, w, hq2, hw⟩, fun v H3 ⟨eh, hv⟩ => .inl ⟨eh, by
        have := hv vs hq2
        rw [hw] at this
        cases this
        exact Enc.mono rw' e2⟩⟩, fun hl => ⟨vs, sqL_ext (sqL_ext hq e2) e3, by rw [rv.length]; exact hl⟩⟩) ⟨rfl, ww⟩⟩⟩
theorem i_tup {tg iter : Expr} {WW : (Tup α → Prop) → Prop} (ha : EvC Y s iter WW) : ItC Y s tg iter fun kk => WW fun xs => kk xs.items := fun kk ww =>
  ⟨_, pi_tup pe_we, fun F0 σ H F R e0 S k => (ha _ ww F0 σ H F e0 S).mono fun v H' ⟨_, _, F', e1, rr, S', xs, ea, es, ww⟩ => by
    subst ea es
    obtain ⟨p, vs, ev, hq, rv⟩ := rr
    exact ⟨p, ev, ⟨vs, sqT_ext hq S'.ext⟩, k _ _ F' _ _ e1 S' (fun i H2 F2 e2 e3 => ⟨fun x hx => by
      have hq2 := sqT_ext (sqT_ext hq e2) e3
      obtain ⟨w, hw, rw'⟩ := prd_get rv hx
      exact ⟨⟨vs, w, hq2, hw⟩, fun v H3 ⟨eh, hv⟩ => .inl ⟨eh, by
        have := hv vs hq2
        rw [hw] at this
        cases this
        exact Enc.mono rw' e2⟩⟩, fun hl => ⟨vs, sqT_ext (sqT_ext hq e2) e3, by rw [rv.length]; exact hl⟩⟩) ⟨rfl, ww⟩⟩⟩
theorem i_txt {tg iter : Expr} {WW : (List Nat → Prop) → Prop} (ha : EvC Y s iter WW) : ItC Y s tg iter fun kk => WW fun x => kk (x.map fun c => [c]) := fun kk ww =>
  ⟨_, pi_str pe_we, fun F0 σ H F R e0 S k => (ha _ ww F0 σ H F e0 S).mono fun v H' ⟨_, _, F', e1, rr, S', x, ea, es, ww⟩ => by
    subst ea es
    have ev := rr
    exact ⟨toStr x, ev, k _ _ F' _ _ e1 S' (fun i H2 F2 e2 e3 => ⟨fun y hy => by
      rw [List.getElem?_map] at hy
      cases q : x[i]? with
      | none => rw [q] at hy; cases hy
      | some c =>
        rw [q] at hy
        cases hy
        have hl : i < (toStr x).cps.size := by
          have := (List.getElem?_eq_some_iff.mp q).1
          simpa [toStr] using this
        refine ⟨hl, fun v H3 ⟨eh, c', hc, hv⟩ => .inl ⟨eh, ?_⟩⟩
        have e9 : c' = c := by
          have : x[i]? = some c' := by simpa [toStr] using hc
          rw [q] at this
          exact (Option.some.inj this).symm
        subst e9
        exact hv, fun hl => by
      show (toStr x).cps.size ≤ i
      simpa [toStr] using hl⟩) ⟨rfl, ww⟩⟩⟩
theorem i_range1 (_ok : YOk Y) (T : Bis Y.X.mg) (hg : Gl Y.X "range") {WW : (Int → Prop) → Prop} (ha : EvC Y s a WW) (hs : starEach [a] Y.X.env = [(false, eval a Y.X.env)] := by exact star_1 rfl) : ItC Y s tg (.Call (.Name "range" p) [a] [] pos) fun kk => WW fun n => (-(2 ^ 62) ≤ n ∧ n < 2 ^ 62) ∧ kk ((List.range n.toNat).map fun i : Nat => (i : Int)) := fun kk ww =>
  ⟨_, pi_range1 hg (T.no _ (by decide)) (pa_cons pe_we pa_nil hs) hs, fun F0 σ H F R e0 S k => (ha _ ww F0 σ H F e0 S).mono fun v H' ⟨_, _, F', e1, rr, S', n, ea, es, ww⟩ => by
    subst ea es
    have r := rr
    obtain ⟨hc, ww⟩ := ww
    exact ⟨n, by rw [show v = .int n from r], hc.1, hc.2, k _ _ F' _ _ e1 S' (fun i H2 F2 e2 e3 => ⟨fun x hx => by
      rw [List.getElem?_map] at hx
      cases q : (List.range n.toNat)[i]? with
      | none => rw [q] at hx; cases hx
      | some j =>
        rw [q] at hx
        cases hx
        obtain ⟨h5, h6⟩ := List.getElem?_eq_some_iff.mp q
        rw [List.getElem_range] at h6
        subst h6
        rw [List.length_range] at h5
        refine ⟨h5, fun v H3 ⟨eh, hv⟩ => .inl ⟨eh, ?_⟩⟩
        rw [hv]
        show V.int (0 + (i : Int)) = V.int i
        rw [Int.zero_add], fun hl => by
      show n.toNat ≤ i
      simpa using hl⟩) ⟨rfl, ww⟩⟩⟩
theorem i_enum {α : Type} [Enc α] (_ok : YOk Y) (T : Bis Y.X.mg) (hg : Gl Y.X "enumerate") {WW : (List α → Prop) → Prop} (ha : EvC Y s a WW) (hs : starEach [a] Y.X.env = [(false, eval a Y.X.env)] := by exact star_1 rfl) : ItC Y s (.Tuple elts kk tpos) (.Call (.Name "enumerate" p) [a] [] pos) fun kk => WW fun xs => kk (enumD xs) := fun kk ww =>
  ⟨_, pi_enum hg (T.no _ (by decide)) (pa_cons pe_we pa_nil hs) hs, fun F0 σ H F R e0 S k => (ha _ ww F0 σ H F e0 S).mono fun v H' ⟨_, _, F', e1, rr, S', xs, ea, es, ww⟩ => by
    subst ea es
    obtain ⟨p, vs, ev, hq, rv⟩ := rr
    exact ⟨p, vs, by rw [ev], sqL_ext hq S'.ext, k _ _ F' _ _ e1 S' (fun i H2 F2 e2 e3 => ⟨fun x hx => by
      have hq2 := sqL_ext (sqL_ext hq e2) e3
      unfold enumD at hx
      rw [List.getElem?_mapIdx] at hx
      cases q : xs[i]? with
      | none => rw [q] at hx; cases hx
      | some y =>
        rw [q] at hx
        cases hx
        obtain ⟨w, hw, rw'⟩ := prd_get rv q
        refine ⟨⟨vs, w, hq2, hw⟩, fun v H3 ⟨t, x, ev, ht, eh, hv⟩ => .inr ⟨t, _, ht, eh, ev, fun F3 e4 hs3 => ?_⟩⟩
        have := hv vs hq2
        rw [hw] at this
        cases this
        exact ⟨t, _, _, ev, hs3, rfl, Enc.mono rw' (e2.trans e4)⟩, fun hl => ⟨vs, sqL_ext (sqL_ext hq e2) e3, by
      have := Paired.length rv
      unfold enumD at hl
      rw [List.length_mapIdx] at hl
      omega⟩⟩) ⟨rfl, ww⟩⟩⟩
theorem i_enumS {Y : DX} {s : DSt} {a : Expr} {elts : List Expr} {kk : Nat} {p pos tpos : Pos} (_ok : YOk Y) (T : Bis Y.X.mg) (hg : Gl Y.X "enumerate") {WW : (List Nat → Prop) → Prop} (ha : EvC Y s a WW) (hs : starEach [a] Y.X.env = [(false, eval a Y.X.env)] := by exact star_1 rfl) : ItC Y s (.Tuple elts kk tpos) (.Call (.Name "enumerate" p) [a] [] pos) fun kk => WW fun x => kk (enumD (x.map fun c => [c])) := fun kk ww =>
  ⟨_, pi_enumS hg (T.no _ (by decide)) (pa_cons pe_we pa_nil hs) hs, fun F0 σ H F R e0 S k => (ha _ ww F0 σ H F e0 S).mono fun v H' ⟨_, _, F', e1, rr, S', x, ea, es, ww⟩ => by
    subst ea es
    have ev := rr
    exact ⟨toStr x, by rw [show v = V.str (toStr x) from ev], k _ _ F' _ _ e1 S' (fun i H2 F2 e2 e3 => ⟨fun y hy => by
      unfold enumD at hy
      rw [List.getElem?_mapIdx, List.getElem?_map] at hy
      cases q : x[i]? with
      | none => rw [q] at hy; cases hy
      | some c =>
        rw [q] at hy
        cases hy
        have hl : i < (toStr x).cps.size := by
          have := (List.getElem?_eq_some_iff.mp q).1
          simpa [toStr] using this
        refine ⟨hl, fun v H3 ⟨t, c', ev, ht, eh, hc⟩ => .inr ⟨t, _, ht, eh, ev, fun F3 e4 hs3 => ?_⟩⟩
        have e9 : c' = c := by
          have : x[i]? = some c' := by simpa [toStr] using hc
          rw [q] at this
          cases this
          rfl
        subst e9
        exact ⟨t, _, _, ev, hs3, rfl, rfl⟩, fun hl => by
      show (toStr x).cps.size ≤ i
      unfold enumD at hl
      simpa [toStr] using hl⟩) ⟨rfl, ww⟩⟩⟩
theorem i_keys {WW : (Dct κ ν → Prop) → Prop} (ha : EvC Y s a WW) : ItC Y s tg a fun kk => WW fun m => kk (m.kvs.map (·.1)) := fun kk ww =>
  ⟨_, pi_keys pe_we, fun F0 σ H F R e0 S k => (ha _ ww F0 σ H F e0 S).mono fun v H' ⟨_, _, F', e1, rr, S', m, ea, es, ww⟩ => by
    subst ea es
    obtain ⟨q, od, zs, ev, hq, rv⟩ := rr
    exact ⟨q, od, ev, .inl ⟨zs, S'.ext _ _ hq, k _ _ F' _ _ e1 S' (fun i H2 F2 e2 e3 => ⟨fun x hx => by
      rw [List.getElem?_map] at hx
      cases z : m.kvs[i]? with
      | none => rw [z] at hx; cases hx
      | some y =>
        rw [z] at hx
        cases hx
        obtain ⟨w, hw, r1, r2⟩ := prd_get rv z
        refine ⟨⟨e3 _ _ (e2 _ _ hq), (List.getElem?_eq_some_iff.mp hw).1⟩, fun v H3 ⟨eh, k', v', hk, hv⟩ => .inl ⟨eh, ?_⟩⟩
        rw [hw] at hk
        cases hk
        rw [hv]
        have e := KkV.rep (K := Y.X.K) (F := F2) y.1
        rw [← r1] at e
        exact e, fun hl => ⟨e3 _ _ (e2 _ _ hq), by have := Paired.length rv; rw [List.length_map] at hl; omega⟩⟩) ⟨rfl, ww⟩⟩⟩⟩
theorem i_values {WW : (Dct κ ν → Prop) → Prop} (ha : EvC Y s a WW) (hbase : attributeBase a "values" Y.X.env (eval a Y.X.env) = eval a Y.X.env := by exact ab_ok rfl) (hline : (apos.endLine == cpos.line) = true := by rfl) : ItC Y s tg (.Call (.Attribute a "values" apos) [] [] cpos) fun kk => WW fun m => kk (m.kvs.map (·.2)) := fun kk ww =>
  ⟨_, pi_values pe_we hbase hline, fun F0 σ H F R e0 S k => (ha _ ww F0 σ H F e0 S).mono fun v H' ⟨_, _, F', e1, rr, S', m, ea, es, ww⟩ => by
    subst ea es
    obtain ⟨q, od, zs, ev, hq, rv⟩ := rr
    exact ⟨q, od, zs, ev, S'.ext _ _ hq, k _ _ F' _ _ e1 S' (fun i H2 F2 e2 e3 => ⟨fun x hx => by
      rw [List.getElem?_map] at hx
      cases z : m.kvs[i]? with
      | none => rw [z] at hx; cases hx
      | some y =>
        rw [z] at hx
        cases hx
        obtain ⟨w, hw, r1, r2⟩ := prd_get rv z
        refine ⟨⟨e3 _ _ (e2 _ _ hq), (List.getElem?_eq_some_iff.mp hw).1⟩, fun v H3 ⟨eh, k', hk⟩ => .inl ⟨eh, ?_⟩⟩
        rw [hw] at hk
        cases hk
        exact Enc.mono r2 e2, fun hl => ⟨e3 _ _ (e2 _ _ hq), by have := Paired.length rv; rw [List.length_map] at hl; omega⟩⟩) ⟨rfl, ww⟩⟩⟩
theorem i_items {WW : (Dct κ ν → Prop) → Prop} (ha : EvC Y s a WW) (hbase : attributeBase a "items" Y.X.env (eval a Y.X.env) = eval a Y.X.env := by exact ab_ok rfl) (hline : (apos.endLine == cpos.line) = true := by rfl) : ItC Y s (.Tuple elts kk tpos) (.Call (.Attribute a "items" apos) [] [] cpos) fun kk => WW fun m => kk m.kvs := fun kk ww =>
  ⟨_, pi_items pe_we hbase hline, fun F0 σ H F R e0 S k => (ha _ ww F0 σ H F e0 S).mono fun v H' ⟨_, _, F', e1, rr, S', m, ea, es, ww⟩ => by
    subst ea es
    obtain ⟨q, od, zs, ev, hq, rv⟩ := rr
    exact ⟨q, od, zs, ev, S'.ext _ _ hq, k _ _ F' _ _ e1 S' (fun i H2 F2 e2 e3 => ⟨fun y z => by
        obtain ⟨w, hw, r1, r2⟩ := prd_get rv z
        refine ⟨⟨e3 _ _ (e2 _ _ hq), (List.getElem?_eq_some_iff.mp hw).1⟩, fun v H3 ⟨t, k', v', hk, hv, ht, eh⟩ => .inr ⟨t, _, ht, eh, hv, fun F3 e4 hs3 => ?_⟩⟩
        rw [hw] at hk
        cases hk
        have e := KkV.rep (K := Y.X.K) (F := F3) y.1
        rw [← r1] at e
        exact ⟨t, _, _, hv, hs3, e, Enc.mono r2 (e2.trans e4)⟩, fun hl => ⟨e3 _ _ (e2 _ _ hq), by have := Paired.length rv; omega⟩⟩) ⟨rfl, ww⟩⟩⟩theorem i_range2 {Wa Wb : (Int → Prop) → Prop} (_ok : YOk Y) (T : Bis Y.X.mg) (hg : Gl Y.X "range") (ha : EvC Y s a Wa) (hb : EvC Y s b Wb)
    (hs : starEach [a, b] Y.X.env = [(false, eval a Y.X.env), (false, eval b Y.X.env)] := by rfl) (hs2 : starEach [b] Y.X.env = [(false, eval b Y.X.env)] := by exact star_1 rfl) : ItC Y s tg (.Call (.Name "range" p) [a, b] [] pos) fun kk => Wa fun n => Wb fun m => (-(2 ^ 62) ≤ n ∧ n < 2 ^ 62 ∧ -(2 ^ 62) ≤ m ∧ m < 2 ^ 62) ∧ kk ((List.range (m - n).toNat).map fun i : Nat => n + (i : Int)) := fun kk ww =>
  ⟨_, pi_range2 hg (T.no _ (by decide)) (pa_cons pe_we (pa_cons pe_we pa_nil hs2) (by rw [hs, hs2])) hs hs2, fun F0 σ H F R e0 S k => (ha _ ww F σ H F (.refl _) S).mono fun v H' ⟨_, _, F', e1, r, S', n, ea, es, ww⟩ => by
    subst ea es
    refine (hb _ ww F' σ H' F' (.refl _) S').mono fun w H2 ⟨_, _, F2, e2, r2, S2, m, eb, es, ww⟩ => ?_
    subst eb es
    obtain ⟨hc, ww⟩ := ww
    refine ⟨n, m, by rw [show v = .int n from r, show w = .int m from r2], hc, k _ _ F2 _ _ ((e0.trans e1).trans e2) S2 (fun i H2 F2 e2 e3 => ⟨fun x hx => ?_, fun hl => ?_⟩) ⟨rfl, ww⟩⟩
    · rw [List.getElem?_map] at hx
      cases q : (List.range (m - n).toNat)[i]? with
      | none => rw [q] at hx; cases hx
      | some j =>
        rw [q] at hx
        cases hx
        obtain ⟨h5, h6⟩ := List.getElem?_eq_some_iff.mp q
        rw [List.getElem_range] at h6
        subst h6
        rw [List.length_range] at h5
        exact ⟨h5, fun v H3 ⟨eh, hv⟩ => .inl ⟨eh, by rw [hv]; rfl⟩⟩
    · show (m - n).toNat ≤ i
      simpa using hl⟩
theorem i_rev {W : (List α → Prop) → Prop} (_ok : YOk Y) (T : Bis Y.X.mg) (hg : Gl Y.X "reversed") (ha : EvC Y s a W) (hs : starEach [a] Y.X.env = [(false, eval a Y.X.env)] := by exact star_1 rfl) : ItC Y s tg (.Call (.Name "reversed" p) [a] [] pos) fun kk => W fun xs => kk xs.reverse := fun kk ww =>
  ⟨_, pi_reversed hg (T.no _ (by decide)) (pa_cons pe_we pa_nil hs) hs, fun F0 σ H F R e0 S k => (ha _ ww F0 σ H F e0 S).mono fun v H' ⟨_, _, F', e1, rr, S', xs, ea, es, ww⟩ => by
    subst ea es
    obtain ⟨p, vs, ev, hq, rv⟩ := rr
    have hl : vs.length = xs.length := Paired.length rv
    exact ⟨p, vs, by rw [ev], sqL_ext hq S'.ext, k _ _ F' _ _ e1 S' (fun i H2 F2 e2 e3 => ⟨fun x hx => by
      have hq2 := sqL_ext (sqL_ext hq e2) e3
      have hi : i < xs.length := by have := (List.getElem?_eq_some_iff.mp hx).1; simpa using this
      rw [List.getElem?_reverse hi] at hx
      obtain ⟨w, hw, rw'⟩ := prd_get rv hx
      refine ⟨⟨by omega, vs, w, hq2, by rw [hl]; exact hw⟩, fun v H3 ⟨eh, hv⟩ => .inl ⟨eh, ?_⟩⟩
      have := hv vs hq2
      rw [hl, hw] at this
      cases this
      exact Enc.mono rw' e2, fun h => by show vs.length ≤ i; rw [List.length_reverse] at h; omega⟩) ⟨rfl, ww⟩⟩⟩
theorem i_zip {Wa : (List α → Prop) → Prop} {Wb : (List β → Prop) → Prop} (_ok : YOk Y) (T : Bis Y.X.mg) (hg : Gl Y.X "zip") (ha : EvC Y s a Wa) (hb : EvC Y s b Wb)
    (hs : starEach [a, b] Y.X.env = (false, eval a Y.X.env) :: starEach [b] Y.X.env := by exact star_c rfl) (hs2 : starEach [b] Y.X.env = (false, eval b Y.X.env) :: starEach [] Y.X.env := by exact star_c rfl) (hpl : (backTo pos (starEach [b] Y.X.env)).any (·.1) = false := by exact star_any rfl) : ItC Y s (.Tuple elts kk tpos) (.Call (.Name "zip" p) [a, b] [] pos) fun kk => Wa fun xs => Wb fun ys => kk (xs.zip ys) := fun kk ww =>
  ⟨_, pi_zip hg (T.no _ (by decide)) (pa_cons pe_we (pa_cons pe_we pa_nil hs2) hs) hs hpl, fun F0 σ H F R e0 S k => (ha _ ww F σ H F (.refl _) S).mono fun v H' ⟨_, _, F', e1, rr, S', xs, ea, es, ww⟩ => by
    subst ea es
    refine (hb _ ww F' σ H' F' (.refl _) S').mono fun w H2 ⟨_, _, F2, e2, rr2, S2, ys, eb, es, ww⟩ => ?_
    subst eb es
    obtain ⟨p1, vs, ev, hq, rv⟩ := rr
    obtain ⟨p2, ws, ew, hq2, rw2⟩ := rr2
    have hq := sqL_ext hq e2
    have rv := Vs.mono rv e2
    refine ⟨p1, p2, vs, ws, by rw [ev, ew], sqL_ext hq S2.ext, sqL_ext hq2 S2.ext, k _ _ F2 _ _ ((e0.trans e1).trans e2) S2 (fun i H3 F3 e3 e4 => ⟨fun x hx => ?_, fun hl => ?_⟩) ⟨rfl, ww⟩⟩
    · have g1 := sqL_ext (sqL_ext hq e3) e4
      have g2 := sqL_ext (sqL_ext hq2 e3) e4
      obtain ⟨x1, x2⟩ := x
      rw [List.getElem?_zip_eq_some] at hx
      obtain ⟨w1, h1, r1⟩ := prd_get rv hx.1
      obtain ⟨w2, h2, r2⟩ := prd_get rw2 hx.2
      refine ⟨⟨vs, ws, w1, w2, g1, g2, h1, h2⟩, fun v H4 ⟨t, y1, y2, ev, ht, eh, k1, k2⟩ => .inr ⟨t, _, ht, eh, ev, fun F4 e5 hs3 => ?_⟩⟩
      have := k1 vs g1
      rw [h1] at this
      cases this
      have := k2 ws g2
      rw [h2] at this
      cases this
      exact ⟨t, _, _, ev, hs3, Enc.mono r1 (e3.trans e5), Enc.mono r2 (e3.trans e5)⟩
    · have l1 : vs.length = xs.length := Paired.length rv
      have l2 : ws.length = ys.length := Paired.length rw2
      rw [List.length_zip] at hl
      exact ⟨vs, ws, sqL_ext (sqL_ext hq e3) e4, sqL_ext (sqL_ext hq2 e3) e4, by omega⟩⟩
end
end Sp
set_option maxHeartbeats 4000000
/-! Sp: comprehensions and generator expressions, to what is wanted. -/
namespace Sp
open PySem L2
open PySem.W (Datum DatumOrd SomeDatum)
/-- tests of a clause -/
def EvTs (Y : DX) (s : DSt) (ifs : List Expr) (W : (Bool → Prop) → Prop) : Prop := ∀ k : Bool → Prop, W k → Ets Y s ifs fun b s' => s' = s ∧ k b
/-- item by item -/
inductive Each {β α : Type} (P : β → α → Prop) : List β → List α → Prop
  | nil : Each P [] []
  | cons {x : β} {y : α} {xs : List β} {ys : List α} : P x y → Each P xs ys → Each P (x :: xs) (y :: ys)
theorem Each.snoc {β α : Type} {P : β → α → Prop} {xs : List β} {ys : List α} (h : Each P xs ys) {x : β} {y : α} (p : P x y) : Each P (xs ++ [x]) (ys ++ [y]) := by
  induction h with
  | nil => exact .cons p .nil
  | cons q _ ih => exact .cons q ih
theorem Each.len {β α : Type} {P : β → α → Prop} {xs : List β} {ys : List α} (h : Each P xs ys) : ys.length = xs.length := by
  induction h with
  | nil => rfl
  | cons q _ ih => simp [ih]
section
variable {Y : DX} {s : DSt} {tg iter elt : Expr} {ifs : List Expr} {pos spos py gpos p : Pos} {scope : Scope} {α β : Type} [Enc α] [Enc β] {W : (List β → Prop) → Prop} {D : DE} {k : Nat}
theorem ts_nil : EvTs Y s [] fun k => k true := fun k w => ets_nil ⟨rfl, w⟩
theorem ts_one {c : Expr} {V : (Bool → Prop) → Prop} (h : EvT Y s c V) : EvTs Y s [c] V := fun k w => ets_one (h k w)
theorem EvTs.pp {c : List Expr} {V : (Bool → Prop) → Prop} {x : Bool} (h : EvTs Y s c V) (w : V fun y => y = x) : Ets Y s c fun b s' => b = x ∧ s' = s := fun F0 σ H F e0 S => (h _ w F0 σ H F e0 S).mono fun b H' ⟨s', F', e1, S', q1, q2⟩ => ⟨s', F', e1, S', q2, q1⟩
variable {Wc : β → (Bool → Prop) → Prop} {We : β → (α → Prop) → Prop}
/-- a comprehension, its list wanted by W -/
structure LcW (Y : DX) (s : DSt) (scope : Scope) (own : List (Str × Nat)) (t : TgD β) (tg iter elt : Expr) (ifs : List Expr) {α : Type} [Enc α] (W : (List α → Prop) → Prop) : Prop where
  bk : BlkOk Y.X.N Y.X.env.scope scope own
  tg0 : ∀ z, TgOk (blkY Y scope z) tg (t.g Y.X.K) t.ws t.f
  hs : ∀ x, foldedSetIterable iter Y.X.env x = pure x
  run : ∀ k, W k → ∃ G, EvItE (β := β) Y s tg iter G ∧ LcG Y scope (own.map (·.2)) tg elt ifs (t.g Y.X.K) t.ws t.f G fun (ys : List α) s' => s' = s ∧ k ys
theorem c_L {t : TgD β} {own : List (Str × Nat)} {W : (List α → Prop) → Prop} (ok : YOk Y) (h : LcW Y s scope own t tg iter elt ifs W) : EvC Y s (.ListComp elt [⟨tg, iter, ifs, 0⟩] scope pos) W := fun k w => by
  obtain ⟨G, hi, L⟩ := h.run k w
  refine ev_lcE (α := α) ok hi h.bk h.tg0 (fun items s' g => ?_) h.hs
  obtain ⟨Iv, L, h0, hQ⟩ := L items s' g
  exact ⟨Iv, L, h0, fun ys gs iv => ⟨ys, rfl, hQ ys gs iv⟩⟩
/-- x = [..] on one line -/
theorem w1_asgL {t : TgD β} {own : List (Str × Nat)} {W : (List α → Prop) → Prop} {y : Str} {i : Nat} {k : List α → Prop} (ok : YOk Y) (hy : Y.X.N[i]? = some y) (h : LcW Y s scope own t tg iter elt ifs W) (w : W k) (hQ : ∀ ys, k ys → D.nx ⟨s.ρ.set i (some (pu ys)), s.gs⟩)
    (hyl : Y.X.env.scope.names.lookup y = some .local := by rfl) (hsw : swapsWith (.ListComp elt [⟨tg, iter, ifs, 0⟩] scope pos) (some (.Name y py)) spos.line Y.X.env = pure true := by rfl) : W1 Y s (.Assign [.Name y py] (.ListComp elt [⟨tg, iter, ifs, 0⟩] scope pos) spos) D := fun F0 σ H F e0 S => by
  obtain ⟨G, ⟨wi, hp, hw⟩, L⟩ := h.run k w
  have P := ps_setLc (tt := fun σ H Q => ∀ z, WTs (blkX Y.X scope z) ifs σ H Q) (te := fun σ H Q => ∀ z, WE (blkX Y.X scope z) elt σ H Q) ok.calm ok.nd hy hyl hsw hp h.bk (fun s H C cl fp => (h.tg0 ⟨s, H, C, cl, fp⟩).1) (fun s H C cl fp => ⟨fun pins s' σ H' Q I h => h ⟨s, H, C, cl, fp⟩ pins s' I⟩) (fun s H C cl fp => ⟨fun pins s' σ H' Q I h => h ⟨s, H, C, cl, fp⟩ pins s' I⟩) h.hs
  refine WP.of P ?_
  show tLc wi (t.g Y.X.K) _ _ _ σ H (fun x H1 => gName i x σ H1 (D.to Y F0).nx)
  show wi σ H _
  refine hw F0 σ H F _ e0 S fun J H1 F1 items s' e1 S1 K1 q => ?_
  obtain ⟨Iv, L, h0, hQ2⟩ := L items s' q
  have t := tlc_ok (own := own) (wi := fun _ _ R => R J H1) (F0 := F1) (σ := σ) (H := H1) (Qf := fun x H1 => gName i x σ H1 (D.to Y F0).nx) (fun R k => k J H1 F1 (.refl _) S1 K1) L h0 fun D2 H' F' ys gs e2 S2 iv => by
    obtain ⟨hF, o, ho, hot, vs, ev, rv⟩ := S2.cell (i := 0) (p := D2) (c := lstc ys) rfl
    subst ev
    have S3 := S2.freeze (i := 0) (p := D2) (c := lstc ys) rfl ho
    obtain ⟨es, kk⟩ := hQ2 ys gs iv
    have hq := hQ ys kk
    refine ⟨⟨s'.ρ.set i (some (pu ys)), gs⟩, upd F' D2 (.lst vs), (e1.trans e2).trans (Ext.grow hF), S3.set (A := pu ys) ⟨D2, vs, rfl, .of upd_same, rv.mono (Ext.grow hF)⟩ i, ?_⟩
    rw [← es] at hq
    exact hq
  exact t
/-- quiet turns -/
theorem lcg_quiet (t : TgD β) (own : List (Str × Nat)) (c : β → Bool) (h : β → α) (items : List β) (tg0 : ∀ z, TgOk (blkY Y scope z) tg (t.g Y.X.K) t.ws t.f) (small : items.length ≤ sizeLine)
    (ht : ∀ z x D ys, EvTs (blkY Y scope z) ⟨t.f x (wipeR s.ρ (own.map (·.2))), (D, lstc (α := α) ys) :: s.gs⟩ ifs (Wc x)) (he : ∀ z x D ys, EvC (blkY Y scope z) ⟨t.f x (wipeR s.ρ (own.map (·.2))), (D, lstc (α := α) ys) :: s.gs⟩ elt (We x))
    (hc : ∀ x ∈ items, Wc x fun b => b = c x) (hv : ∀ x ∈ items, c x = true → We x fun y => y = h x) (sub : ∀ j ∈ t.ws, j ∈ own.map (·.2)) :
    ∃ Iv : Nat → List α → Gs → Prop, LcTurns Y s scope (own.map (·.2)) tg elt ifs (t.g Y.X.K) t.ws t.f items Iv ∧ Iv 0 [] s.gs ∧ ∀ ys gs, Iv items.length ys gs → ys = (items.filter c).map h ∧ gs = s.gs :=
  ⟨_, lc_quiet c h tg0 sub small (fun z x D ys hx => (ht z x D ys).pp (hc x hx)) (fun z x D ys hx hcx => (he z x D ys).pp (hv x hx hcx)), ⟨by simp, rfl⟩, fun ys gs ⟨e1, e2⟩ => ⟨by rw [e1, List.take_length], e2⟩⟩
theorem l_lc (t : TgD β) (own : List (Str × Nat)) (c : β → Bool) (h : β → α) (ok : YOk Y) (hi : ItC Y s tg iter W) (bk : BlkOk Y.X.N Y.X.env.scope scope own) (tg0 : ∀ z, TgOk (blkY Y scope z) tg (t.g Y.X.K) t.ws t.f)
    (ht : ∀ z x D ys, EvTs (blkY Y scope z) ⟨t.f x (wipeR s.ρ (own.map (·.2))), (D, lstc (α := α) ys) :: s.gs⟩ ifs (Wc x)) (he : ∀ z x D ys, EvC (blkY Y scope z) ⟨t.f x (wipeR s.ρ (own.map (·.2))), (D, lstc (α := α) ys) :: s.gs⟩ elt (We x))
    (sub : ∀ j ∈ t.ws, j ∈ own.map (·.2) := by decide) (hs : ∀ x, foldedSetIterable iter Y.X.env x = pure x := by intro _; rfl) :
    LcW Y s scope own t tg iter elt ifs fun k => W fun items => items.length ≤ sizeLine ∧ (∀ x ∈ items, Wc x fun b => b = c x) ∧ (∀ x ∈ items, c x = true → We x fun y => y = h x) ∧ k ((items.filter c).map h) :=
  ⟨bk, tg0, hs, fun k w => ⟨_, hi _ w, fun items s' ⟨es, w1, w2, w3, w4⟩ => by
    subst es
    obtain ⟨Iv, L, h0, hQ⟩ := lcg_quiet (Y := Y) (s := s') t own c h items tg0 w1 ht he w2 w3 sub
    exact ⟨Iv, L, h0, fun ys gs iv => by obtain ⟨e1, e2⟩ := hQ ys gs iv; subst e1 e2; exact ⟨rfl, w4⟩⟩⟩⟩
/-- .. with no test -/
theorem l_lc0 (t : TgD β) (own : List (Str × Nat)) (h : β → α) (ok : YOk Y) (hi : ItC Y s tg iter W) (bk : BlkOk Y.X.N Y.X.env.scope scope own) (tg0 : ∀ z, TgOk (blkY Y scope z) tg (t.g Y.X.K) t.ws t.f)
    (he : ∀ z x D ys, EvC (blkY Y scope z) ⟨t.f x (wipeR s.ρ (own.map (·.2))), (D, lstc (α := α) ys) :: s.gs⟩ elt (We x))
    (sub : ∀ j ∈ t.ws, j ∈ own.map (·.2) := by decide) (hs : ∀ x, foldedSetIterable iter Y.X.env x = pure x := by intro _; rfl) :
    LcW Y s scope own t tg iter elt [] fun k => W fun items => items.length ≤ sizeLine ∧ (∀ x ∈ items, We x fun y => y = h x) ∧ k (items.map h) :=
  ⟨bk, tg0, hs, fun k w => ⟨_, hi _ w, fun items s' ⟨es, w1, w3, w4⟩ => by
    subst es
    obtain ⟨Iv, L, h0, hQ⟩ := lcg_quiet (Y := Y) (s := s') (Wc := fun _ k => k true) t own (fun _ => true) h items tg0 w1 (fun _ _ _ _ => ts_nil) he (fun _ _ => rfl) (fun x hx _ => w3 x hx) sub
    exact ⟨Iv, L, h0, fun ys gs iv => by obtain ⟨e1, e2⟩ := hQ ys gs iv; rw [List.filter_eq_self.mpr (fun _ _ => rfl)] at e1; subst e1 e2; exact ⟨rfl, w4⟩⟩⟩⟩
/-- .. the items' data to be found -/
theorem l_lcX (t : TgD β) (own : List (Str × Nat)) (ok : YOk Y) (hi : ItC Y s tg iter W) (bk : BlkOk Y.X.N Y.X.env.scope scope own) (tg0 : ∀ z, TgOk (blkY Y scope z) tg (t.g Y.X.K) t.ws t.f)
    (ht : ∀ z x D ys, EvTs (blkY Y scope z) ⟨t.f x (wipeR s.ρ (own.map (·.2))), (D, lstc (α := α) ys) :: s.gs⟩ ifs (Wc x)) (he : ∀ z x D ys, EvC (blkY Y scope z) ⟨t.f x (wipeR s.ρ (own.map (·.2))), (D, lstc (α := α) ys) :: s.gs⟩ elt (We x))
    (sub : ∀ j ∈ t.ws, j ∈ own.map (·.2) := by decide) (hs : ∀ x, foldedSetIterable iter Y.X.env x = pure x := by intro _; rfl) :
    LcW Y s scope own t tg iter elt ifs fun k => W fun items => items.length ≤ sizeLine ∧ ∃ (c : β → Bool) (h : β → α), (∀ x ∈ items, Wc x fun b => b = c x) ∧ (∀ x ∈ items, c x = true → We x fun y => y = h x) ∧ k ((items.filter c).map h) :=
  ⟨bk, tg0, hs, fun k w => ⟨_, hi _ w, fun items s' ⟨es, w1, c, h, w2, w3, w4⟩ => by
    subst es
    obtain ⟨Iv, L, h0, hQ⟩ := lcg_quiet (Y := Y) (s := s') t own c h items tg0 w1 ht he w2 w3 sub
    exact ⟨Iv, L, h0, fun ys gs iv => by obtain ⟨e1, e2⟩ := hQ ys gs iv; subst e1 e2; exact ⟨rfl, w4⟩⟩⟩⟩
theorem l_lcX0 (t : TgD β) (own : List (Str × Nat)) (ok : YOk Y) (hi : ItC Y s tg iter W) (bk : BlkOk Y.X.N Y.X.env.scope scope own) (tg0 : ∀ z, TgOk (blkY Y scope z) tg (t.g Y.X.K) t.ws t.f)
    (he : ∀ z x D ys, EvC (blkY Y scope z) ⟨t.f x (wipeR s.ρ (own.map (·.2))), (D, lstc (α := α) ys) :: s.gs⟩ elt (We x))
    (sub : ∀ j ∈ t.ws, j ∈ own.map (·.2) := by decide) (hs : ∀ x, foldedSetIterable iter Y.X.env x = pure x := by intro _; rfl) :
    LcW Y s scope own t tg iter elt [] fun k => W fun items => items.length ≤ sizeLine ∧ ∃ h : β → α, (∀ x ∈ items, We x fun y => y = h x) ∧ k (items.map h) :=
  ⟨bk, tg0, hs, fun k w => ⟨_, hi _ w, fun items s' ⟨es, w1, h, w3, w4⟩ => by
    subst es
    obtain ⟨Iv, L, h0, hQ⟩ := lcg_quiet (Y := Y) (s := s') (Wc := fun _ k => k true) t own (fun _ => true) h items tg0 w1 (fun _ _ _ _ => ts_nil) he (fun _ _ => rfl) (fun x hx _ => w3 x hx) sub
    exact ⟨Iv, L, h0, fun ys gs iv => by obtain ⟨e1, e2⟩ := hQ ys gs iv; rw [List.filter_eq_self.mpr (fun _ _ => rfl)] at e1; subst e1 e2; exact ⟨rfl, w4⟩⟩⟩⟩
/-- .. of drawn items -/
theorem l_lcN (t : TgD β) (own : List (Str × Nat)) (ok : YOk Y) (hi : ItC Y s tg iter W) (bk : BlkOk Y.X.N Y.X.env.scope scope own) (tg0 : ∀ z, TgOk (blkY Y scope z) tg (t.g Y.X.K) t.ws t.f)
    (he : ∀ z x D ys, EvC (blkY Y scope z) ⟨t.f x (wipeR s.ρ (own.map (·.2))), (D, lstc (α := α) ys) :: s.gs⟩ elt (We x))
    (sub : ∀ j ∈ t.ws, j ∈ own.map (·.2) := by decide) (hs : ∀ x, foldedSetIterable iter Y.X.env x = pure x := by intro _; rfl) :
    LcW Y s scope own t tg iter elt [] fun k => W fun items => items.length ≤ sizeLine ∧ ∃ P : β → α → Prop, (∀ x ∈ items, We x (P x)) ∧ ∀ ys, Each P items ys → k ys :=
  ⟨bk, tg0, hs, fun k w => ⟨_, hi _ w, fun items s' ⟨es, w1, P, w3, w4⟩ => by
    subst es
    refine ⟨fun i ys gs => gs = s'.gs ∧ i ≤ items.length ∧ Each P (items.take i) ys, ⟨tg0, sub, fun i ys gs ⟨_, _, h⟩ hi => ?_, fun z i x ys gs D hx ⟨eg, hi, h⟩ => ?_⟩, ⟨rfl, Nat.zero_le _, .nil⟩, fun ys gs ⟨eg, _, h⟩ => ?_⟩
    · rw [h.len, List.length_take]
      omega
    · subst eg
      refine ets_nil ?_
      rw [if_pos rfl]
      intro z'
      have hm : x ∈ items := List.mem_of_getElem? hx
      refine (he z' x D ys).q (w3 x hm) fun y py => ⟨y, s'.gs, rfl, rfl, rfl, ?_, ?_⟩
      · exact (List.getElem?_eq_some_iff.mp hx).1
      · rw [List.take_add_one, hx]
        exact h.snoc py
    · subst eg
      rw [List.take_length] at h
      exact ⟨rfl, w4 ys h⟩⟩⟩
end
end Sp
set_option maxHeartbeats 4000000
/-! Sp: calls of defs, methods, classes; the telling def; generator expressions; to what is wanted. -/
namespace Sp
open PySem L2
open PySem.W (Datum DatumOrd SomeDatum)
/-- the program's own errors -/
inductive Ex
  | BadWord | BadRule | BadCount | NoSuch | NoWay | TooLarge | BadDeed
  | BadText (row : Int)
  | BadPaper (part : Int)
deriving DecidableEq
def exK (K : Frag) : Ex → Exc
  | .BadWord => ⟨He.ga K "BadWord", none⟩
  | .BadRule => ⟨He.ga K "BadRule", none⟩
  | .BadCount => ⟨He.ga K "BadCount", none⟩
  | .NoSuch => ⟨He.ga K "NoSuch", none⟩
  | .NoWay => ⟨He.ga K "NoWay", none⟩
  | .TooLarge => ⟨He.ga K "TooLarge", none⟩
  | .BadDeed => ⟨He.ga K "BadDeed", none⟩
  | .BadText r => ⟨He.ga K "BadText", some r⟩
  | .BadPaper r => ⟨He.ga K "BadPaper", some r⟩
/-- no error -/
def NoE : Ex → Prop := fun _ => False
/-- what a def's caller needs: the end is k, an error is E -/
def Cl {ρ : Type} (w : (ρ → Prop) → (Ex → Prop) → Prop) (k : ρ → Prop) (E : Ex → Prop) : Prop := ∃ (R0 : ρ → Prop) (E0 : Ex → Prop), w R0 E0 ∧ (∀ r, R0 r → k r) ∧ ∀ e, E0 e → E e
/-- errors leave as E says, the cells that are left being G0 -/
structure YE (Y : DX) (G0 : Gs → Prop) (E : Ex → Prop) : Prop where
  ok : YOk Y
  ex : ∀ e s', (∃ n, G0 (s'.gs.drop n)) → E e → Y.ex (exK Y.X.K e) s'
theorem YE.blk {Y : DX} {G0 : Gs → Prop} {E : Ex → Prop} {scope : Scope} {z : BCx} (h : YE Y G0 E) : YE (blkY Y scope z) (fun _ => True) NoE := ⟨h.ok.blk, fun _ _ _ h => h.elim⟩
theorem YE.gen {Y : DX} {k : Nat} {scope : Scope} {z : GCx} (o : YOk (genY Y k scope z)) : YE (genY Y k scope z) (fun _ => True) NoE := ⟨o, fun _ _ _ h => h.elim⟩
/-! promises -/
/-- a def over frozen data -/
def spF {τ ρ : Type} [Ags τ] [Enc ρ] (K : Frag) (w : τ → (ρ → Prop) → (Ex → Prop) → Prop) : DSp := fun As gs R E => ∃ t, As = Ags.pvs t ∧ gs = [] ∧ ∃ R0 E0, w t R0 E0 ∧ (∀ r, R0 r → R (pu r) []) ∧ ∀ e, E0 e → E (exK K e) []
theorem spF_mono {τ ρ : Type} [Ags τ] [Enc ρ] {K : Frag} {w : τ → (ρ → Prop) → (Ex → Prop) → Prop} : DMono (spF K w) := fun As gs R R' E E' h1 h2 ⟨t, e1, e2, R0, E0, hw, hr, he⟩ => ⟨t, e1, e2, R0, E0, hw, fun r q => h1 _ _ (hr r q), fun e q => h2 _ _ (he e q)⟩
/-- .. of a def that rolls the dice: it raises nothing -/
def ClD {ρ : Type} (w : (ρ → Prop) → (Ex → Prop) → Prop) (k : ρ → Prop) : Prop := ∃ R0 : ρ → Prop, w R0 NoE ∧ ∀ r, R0 r → k r
def spD {τ ρ : Type} [Ags τ] [Enc ρ] (w : τ → (ρ → Prop) → (Ex → Prop) → Prop) : DSp := fun As gs R E => ∃ q t, As = raw (.ref q) :: Ags.pvs t ∧ gs = [(q, dicec)] ∧ ClD (w t) fun r => R (pu r) [(q, dicec)]
theorem spD_mono {τ ρ : Type} [Ags τ] [Enc ρ] {w : τ → (ρ → Prop) → (Ex → Prop) → Prop} : DMono (spD w) := fun As gs R R' E E' h1 h2 ⟨q, t, e1, e2, R0, hw, hr⟩ => ⟨q, t, e1, e2, R0, hw, fun r q => h1 _ _ (hr r q)⟩
/-- own objects as data -/
class Ob (α : Type) where
  cls : Str
  flds : α → Flds
@[reducible] def obEnc {α : Type} (o : Ob α) : Enc α := ⟨fun K F v m => (insP (He.ga K o.cls) (o.flds m)).rep K F v, fun {K F F' v a} h e => Pv.mono _ h e⟩
/-- an __init__ -/
def spI {τ ρ : Type} [Ags τ] [o : Ob ρ] (K : Frag) (w : τ → (ρ → Prop) → (Ex → Prop) → Prop) : DSp := fun As gs R E => ∃ q t, As = raw (.ref q) :: Ags.pvs t ∧ gs = [(q, insc (He.ga K o.cls) [])] ∧ ∃ R0 E0, w t R0 E0 ∧ (∀ r, R0 r → R (pu ()) [(q, insc (He.ga K o.cls) (o.flds r))]) ∧ ∀ e, E0 e → ∀ fs, E (exK K e) [(q, insc (He.ga K o.cls) fs)]
theorem spI_mono {τ ρ : Type} [Ags τ] [Ob ρ] {K : Frag} {w : τ → (ρ → Prop) → (Ex → Prop) → Prop} : DMono (spI K w) := fun As gs R R' E E' h1 h2 ⟨q, t, e1, e2, R0, E0, hw, hr, he⟩ => ⟨q, t, e1, e2, R0, E0, hw, fun r q => h1 _ _ (hr r q), fun e q fs => h2 _ _ (he e q fs)⟩
section
variable {Y : DX} {s : DSt} {e a b c o tg iter elt : Expr} {es ifs : List Expr} {pos p apos lpos gpos : Pos} {τ ρ α β : Type} [Ags τ] [Enc ρ] [Enc α] [Enc β] {G0 : Gs → Prop} {E : Ex → Prop} {V : (τ → Prop) → Prop} {w : τ → (ρ → Prop) → (Ex → Prop) → Prop} {ps : List Str} {j : Nat}
theorem c_call {x : Str} (n : Nat) (ye : YE Y G0 E) (G : Df Y.X.prog Y.X.w Y.X.K Y.X.mg Y.X.base Y.T j x ps (spF Y.X.K w)) (hj : j ≤ Y.k) (hg : Gl Y.X x) (h : EvA Y s (e :: es) V) (hl : ∀ t : τ, (Ags.pvs t).length = ps.length) (hn : G0 (s.gs.drop n))
    (hdb : (x == ("__debug__" : Str)) = false := by decide) (he : starEach (e :: es) Y.X.env = (false, eval e Y.X.env) :: starEach es Y.X.env := by exact star_c rfl) (hpl : (backTo pos (starEach es Y.X.env)).any (·.1) = false := by exact star_any rfl) : EvC Y s (.Call (.Name x p) (e :: es) [] pos) fun k => V fun t => Cl (w t) k E := fun k ww =>
  ev_call G ye.ok hj hg ((h _ ww).mono fun As s1 ⟨t, ea, es, R0, E0, w0, hr, hE⟩ => by
    subst es
    exact ⟨by rw [ea]; exact hl t, [], s1.gs, .refl _, t, ea, rfl, R0, E0, w0, fun r q => ⟨r, rfl, rfl, hr r q⟩, fun e q => ye.ex e _ ⟨n, hn⟩ (hE e q)⟩) hdb he hpl
theorem c_call0 {x : Str} {w : Unit → (ρ → Prop) → (Ex → Prop) → Prop} (n : Nat) (ye : YE Y G0 E) (G : Df Y.X.prog Y.X.w Y.X.K Y.X.mg Y.X.base Y.T j x ps (spF Y.X.K w)) (hj : j ≤ Y.k) (hg : Gl Y.X x) (hl : ps.length = 0) (hn : G0 (s.gs.drop n))
    (hdb : (x == ("__debug__" : Str)) = false := by decide) : EvC Y s (.Call (.Name x p) [] [] pos) fun k => Cl (w ()) k E := fun k ⟨R0, E0, w0, hr, hE⟩ =>
  ev_call0 G ye.ok hj hg ⟨hl, [], s.gs, .refl _, (), rfl, rfl, R0, E0, w0, fun r q => ⟨r, rfl, rfl, hr r q⟩, fun e q => ye.ex e _ ⟨n, hn⟩ (hE e q)⟩ hdb
/-- with the dice in front -/
theorem perm_front {α : Type} : ∀ {l : List α} {i : Nat} {x : α}, l[i]? = some x → l.Perm ([x] ++ l.eraseIdx i)
  | [], i, x, h => by simp at h
  | y :: l, 0, x, h => by simp at h; subst h; exact .refl _
  | y :: l, i + 1, x, h => by
    have ih := perm_front (l := l) (i := i) (x := x) (by simpa using h)
    rw [List.eraseIdx_cons_succ]
    exact (ih.cons y).trans (.swap _ _ _)
theorem c_callD {x y : Str} {q : Addr} {py : Pos} (i g : Nat) (ok : YOk Y) (G : Df Y.X.prog Y.X.w Y.X.K Y.X.mg Y.X.base Y.T j x ps (spD w)) (hj : j ≤ Y.k) (hg : Gl Y.X x) (h : EvA Y s es V) (hN : Y.X.N[i]? = some y) (hρ : s.ρ[i]? = some (some (raw (.ref q)))) (hd : s.gs[g]? = some (q, dicec)) (hl : ∀ t : τ, (Ags.pvs t).length + 1 = ps.length)
    (hv : Vis Y.X.env.scope y := by first | exact .inl rfl | exact .inr (.inl rfl) | exact .inr (.inr rfl)) (hd1 : (y == ("__debug__" : Str)) = false := by decide) (hcd : (y == ("__classdict__" : Str)) = false := by decide)
    (hdb : (x == ("__debug__" : Str)) = false := by decide) (he : starEach (.Name y py :: es) Y.X.env = (false, eval (.Name y py) Y.X.env) :: starEach es Y.X.env := by exact star_c rfl) (hpl : (backTo pos (starEach es Y.X.env)).any (·.1) = false := by exact star_any rfl) : EvC Y s (.Call (.Name x p) (.Name y py :: es) [] pos) fun k => V fun t => ClD (w t) k := fun k ww =>
  ev_perm (ev_call G ok hj hg (evs_cons (.of (evp_v i hN hρ hv hd1 hcd) ((h _ ww).mono fun As s1 ⟨t, ea, es, R0, w0, hr⟩ => by
    subst es
    exact ⟨by rw [ea, List.length_cons]; exact hl t, _, _, perm_front hd, q, t, by rw [ea], rfl, R0, w0, fun r qq => ⟨_, (perm_front hd).symm, r, rfl, rfl, hr r qq⟩⟩)) he) hdb he hpl)
/-! own objects -/
theorem ev_as {Q : Pv → DSt → Prop} (h : Ev Y s e fun A s' => ∃ B, (∀ F v, A.rep Y.X.K F v → B.rep Y.X.K F v) ∧ Q B s') : Ev Y s e Q := fun F0 σ H F e0 S => (h F0 σ H F e0 S).mono fun v H' ⟨A, s', F', e1, r, S', B, hb, q⟩ => ⟨B, s', F', e1, hb _ _ r, S', q⟩
section
variable {γ : Type} [og : Ob γ] [eg : Enc γ]
/-- γ's data stand as its own objects -/
class ObOk (γ : Type) [Ob γ] [Enc γ] : Prop where
  eq : ∀ {K F v} {m : γ}, Enc.rep K F v m ↔ (insP (He.ga K (Ob.cls γ)) (Ob.flds m)).rep K F v
theorem ia_ob [ObOk γ] {m : γ} : IA Y s (pu m) (He.ga Y.X.K (Ob.cls γ)) (Ob.flds m) := fun σ H F v S r => IA.pu σ H F v S (ObOk.eq.mp r)
/-- o.f -/
theorem c_fld [ObOk γ] {f : Str} {W : (γ → Prop) → Prop} (get : γ → α) (c : Cls Y.X.K (He.ga Y.X.K (Ob.cls γ))) (nn : NoAttr Y.X.K (He.ga Y.X.K (Ob.cls γ)) f) (ho : EvC Y s o W) (l : ∀ m : γ, (Ob.flds m).lookup f = some (pu (get m)) := by intro _; rfl) (hb : attributeBase o f Y.X.env (eval o Y.X.env) = eval o Y.X.env := by exact ab_ok rfl) : EvC Y s (.Attribute o f pos) fun k => W fun m => k (get m) := fun k w F0 σ H F e0 S => by
  refine .of (pe_fld pe_we hb) ((ho _ w F0 σ H F e0 S).mono fun v H1 ⟨_, _, F1, e1, r1, S1, m, ea, es, ww⟩ => ?_)
  subst ea es
  obtain ⟨a, dx, vs, ev, ha, rf⟩ := ia_ob σ H1 F1 v S1 r1
  obtain ⟨u, l2, ru⟩ := fr_look rf (l m)
  exact ⟨a, _, dx, vs, u, ev, ha, c, nn, l2, _, _, F1, e1, ru, S1, _, rfl, rfl, ww⟩
/-- a method of frozen data -/
theorem c_meth [ObOk γ] {m : Str} {Wo : (γ → Prop) → Prop} {w : γ × τ → (ρ → Prop) → (Ex → Prop) → Prop} {pl : Sem Bool} (n : Nat) (ye : YE Y G0 E) (G : Mt Y.X.prog Y.X.w Y.X.K Y.X.mg Y.X.base Y.T j (He.ga Y.X.K (Ob.cls γ)) m ps (spF Y.X.K w)) (c : Cls Y.X.K (He.ga Y.X.K (Ob.cls γ))) (hj : j ≤ Y.k) (ho : EvC Y s o Wo) (h : EvA Y s (e :: es) V) (hl : ∀ t : τ, (Ags.pvs t).length + 1 = ps.length) (hn : G0 (s.gs.drop n))
    (hf : ∀ x : γ, (Ob.flds x).lookup m = none := by intro _; rfl) (hst : starEach (e :: es) Y.X.env = (false, eval e Y.X.env) :: starEach es Y.X.env := by exact star_c rfl) (hpl : (backTo pos (starEach es Y.X.env)).any (·.1) = false := by exact star_any rfl)
    (ht : eval (.Call (.Attribute o m apos) (e :: es) [] pos) Y.X.env = (do
      let ov ← eval o Y.X.env
      standAt apos.atName
      let (f, first) ← holding [ov] (getMethod ov m pl)
      callWith pos f first (backTo pos (starEach (e :: es) Y.X.env)) (backToKw pos (keywordEach [] Y.X.env))) := by rfl) : EvC Y s (.Call (.Attribute o m apos) (e :: es) [] pos) fun k => Wo fun x => V fun t => Cl (w (x, t)) k E := fun k ww F0 σ H F e0 S => by
  obtain ⟨⟨f, fd, F1, hm, hb⟩, mono⟩ := G
  refine .of (pe_methS (E := L2.WE (wxOf Y)) pe_we c hm F1 (ye.ok.room.mono hj) hb (fun σ => passAt ye.ok.tk σ) pa_wa hst hpl ht) ?_
  refine (ho _ ww F σ H F (.refl _) S).mono fun v H1 ⟨_, _, F1, e1, r1, S1, x, ea, es, ww⟩ => ?_
  subst ea es
  obtain ⟨a, dx, vs, ev, ha, rf⟩ := ia_ob σ H1 F1 v S1 r1
  refine ⟨a, dx, vs, ev, ha, fr_no rf (hf x), ?_⟩
  refine (h _ ww F1 σ H1 F1 (.refl _) S1).mono fun us H2 ⟨_, _, F2, e2, r2, S2, t, ea, es, R0, E0, w0, hr, hE⟩ => ?_
  subst ea es
  refine sp_call (gs1 := []) ((e0.trans e1).trans e2) S2 (.cons ((pu x).mono r1 e2) r2) (by rw [List.length_cons]; exact hl t) (.refl _) ?_ (mono _ _)
  exact ⟨(x, t), rfl, rfl, R0, E0, w0, fun r q => ⟨r, rfl, rfl, hr r q⟩, fun e q => ye.ex e _ ⟨n, hn⟩ (hE e q)⟩
theorem c_meth0 [ObOk γ] {m : Str} {Wo : (γ → Prop) → Prop} {w : γ × Unit → (ρ → Prop) → (Ex → Prop) → Prop} {pl : Sem Bool} (n : Nat) (ye : YE Y G0 E) (G : Mt Y.X.prog Y.X.w Y.X.K Y.X.mg Y.X.base Y.T j (He.ga Y.X.K (Ob.cls γ)) m ps (spF Y.X.K w)) (c : Cls Y.X.K (He.ga Y.X.K (Ob.cls γ))) (hj : j ≤ Y.k) (ho : EvC Y s o Wo) (hl : 1 = ps.length) (hn : G0 (s.gs.drop n))
    (hf : ∀ x : γ, (Ob.flds x).lookup m = none := by intro _; rfl)
    (ht : eval (.Call (.Attribute o m apos) [] [] pos) Y.X.env = (do
      let ov ← eval o Y.X.env
      standAt apos.atName
      let (f, first) ← holding [ov] (getMethod ov m pl)
      callWith pos f first (backTo pos (starEach [] Y.X.env)) (backToKw pos (keywordEach [] Y.X.env))) := by rfl) : EvC Y s (.Call (.Attribute o m apos) [] [] pos) fun k => Wo fun x => Cl (w (x, ())) k E := fun k ww F0 σ H F e0 S => by
  obtain ⟨⟨f, fd, F1, hm, hb⟩, mono⟩ := G
  refine .of (pe_methS0 (E := L2.WE (wxOf Y)) pe_we c hm F1 (ye.ok.room.mono hj) hb (fun σ => passAt ye.ok.tk σ) ht) ?_
  refine (ho _ ww F σ H F (.refl _) S).mono fun v H1 ⟨_, _, F1, e1, r1, S1, x, ea, es, R0, E0, w0, hr, hE⟩ => ?_
  subst ea es
  obtain ⟨a, dx, vs, ev, ha, rf⟩ := ia_ob σ H1 F1 v S1 r1
  refine ⟨a, dx, vs, ev, ha, fr_no rf (hf x), sp_call (gs1 := []) (e0.trans e1) S1 (.cons r1 .nil) hl (.refl _) ?_ (mono _ _)⟩
  exact ⟨(x, ()), rfl, rfl, R0, E0, w0, fun r q => ⟨r, rfl, rfl, hr r q⟩, fun e q => ye.ex e _ ⟨n, hn⟩ (hE e q)⟩
/-- C(..), the new object frozen -/
theorem ev_makeE {x : Str} {C : Addr} {Q : Pv → DSt → Prop} {dd : DSp} (G : Mkr Y.X.prog Y.X.w Y.X.K Y.X.mg Y.X.base Y.T j x C ps dd) (ok : YOk Y) (hj : j + 1 ≤ Y.k) (hg : Gl Y.X x)
    (h : Evs Y s (e :: es) fun As s1 => As.length + 1 = ps.length ∧ ∀ q, ∃ gs1 gs2, s1.gs.Perm (gs1 ++ gs2) ∧ dd (raw (.ref q) :: As) ((q, insc C []) :: gs1)
      (fun A gs' => A = pu () ∧ ∃ fs gs3, gs' = (q, insc C fs) :: gs3 ∧ Q (insP C fs) ⟨s1.ρ, gs3 ++ gs2⟩) (fun e gs' => Y.ex e ⟨s1.ρ, gs' ++ gs2⟩))
    (hdb : (x == ("__debug__" : Str)) = false := by decide) (he : starEach (e :: es) Y.X.env = (false, eval e Y.X.env) :: starEach es Y.X.env := by exact star_c rfl) (hpl : (backTo pos (starEach es Y.X.env)).any (·.1) = false := by exact star_any rfl) : Ev Y s (.Call (.Name x p) (e :: es) [] pos) Q := fun F0 σ H F e0 S => by
  obtain ⟨⟨f, fd, F1, M, hb⟩, hm, mono⟩ := G
  refine .of (pe_makeS (E := L2.WE (wxOf Y)) M F1 (ok.room.mono hj) hg hm hb (fun σ => passAt ok.tk σ) pa_wa hdb he hpl) ?_
  refine (h F0 σ H F e0 S).mono fun us H1 ⟨As, s1, F1, e1, r1, S1, hl, k⟩ => ?_
  intro q dx hq hdx hne
  obtain ⟨gs1, gs2, hp, hd⟩ := k q
  have S2 := S1.newF (o := .own q) hdx rfl
  have hq2 : (upd H1 dx (.own q)) q = none := by rw [upd_ne (Ne.symm hne)]; exact hq
  have S3 := S2.newO (o := .ins C dx []) (c := insc C []) hq2 rfl ⟨dx, [], rfl, .nil⟩
  have hp3 : ((q, insc C []) :: s1.gs).Perm (((q, insc C []) :: gs1) ++ gs2) := hp.cons _
  have e2 : Ext F1 (upd F1 dx (.own q)) := Ext.grow (S1.free hdx)
  have sp := sp_call (Q := fun A s' => A = pu () ∧ ∃ fs gs3, s'.gs = (q, insc C fs) :: gs3 ∧ s'.ρ = s1.ρ ∧ Q (insP C fs) ⟨s1.ρ, gs3⟩) (As := raw (.ref q) :: As) (n := ps.length) (d := dd) (F0 := F0) (e1.trans e2) S3 (.cons rfl (r1.mono e2)) (by rw [List.length_cons]; exact hl) hp3
    (mono _ _ _ _ _ _ (fun A g ⟨ea, fs, gs3, eg, q2⟩ => ⟨ea, fs, gs3 ++ gs2, by rw [eg]; rfl, rfl, q2⟩) (fun e g q2 => q2) hd) (mono _ _)
  obtain ⟨hlen, As', gs', F', rr, G', d'⟩ := sp
  refine ⟨hlen, As', gs', F', rr, G', mono _ _ _ _ _ _ (fun A g q3 v H' F'' ra G2 st => ?_) (fun e g q3 => q3) d'⟩
  obtain ⟨B, s4, F4, e4, r4, S4, eb, fs, gs3, eg, eρ, q4⟩ := q3 v H' F'' ra G2 st
  have hc : s4.gs[0]? = some (q, insc C fs) := by rw [eg]; rfl
  obtain ⟨hF, oo, hoo, _, dx2, vs, eo, rv⟩ := S4.cell hc
  subst eo
  have S5 := S4.freeze hc hoo
  have eg5 : s4.gs.eraseIdx 0 = gs3 := by rw [eg]; rfl
  rw [eg5, eρ] at S5
  subst eb
  exact ⟨r4, insP C fs, _, _, e4.trans (Ext.grow hF), ⟨q, dx2, vs, rfl, upd_same, rv.mono (Ext.grow hF)⟩, S5, q4⟩
theorem c_make [ObOk γ] {x : Str} {w : τ → (γ → Prop) → (Ex → Prop) → Prop} (n : Nat) (ye : YE Y G0 E) (G : Mkr Y.X.prog Y.X.w Y.X.K Y.X.mg Y.X.base Y.T j x (He.ga Y.X.K (Ob.cls γ)) ps (spI Y.X.K w)) (hj : j + 1 ≤ Y.k) (hg : Gl Y.X x) (h : EvA Y s (e :: es) V) (hl : ∀ t : τ, (Ags.pvs t).length + 1 = ps.length) (hn : G0 (s.gs.drop n))
    (hdb : (x == ("__debug__" : Str)) = false := by decide) (he : starEach (e :: es) Y.X.env = (false, eval e Y.X.env) :: starEach es Y.X.env := by exact star_c rfl) (hpl : (backTo pos (starEach es Y.X.env)).any (·.1) = false := by exact star_any rfl) : EvC Y s (.Call (.Name x p) (e :: es) [] pos) fun k => V fun t => Cl (w t) k E := fun k ww =>
  ev_as (ev_makeE G ye.ok hj hg ((h _ ww).mono fun As s1 ⟨t, ea, es, R0, E0, w0, hr, hE⟩ => by
    subst ea es
    refine ⟨hl t, fun q => ⟨[], _, .refl _, q, t, rfl, rfl, R0, E0, w0, fun r qq => ⟨rfl, _, [], rfl, pu r, fun F v h => ObOk.eq.mpr h, r, rfl, rfl, hr r qq⟩, fun e qq fs => ye.ex e _ ⟨n + 1, ?_⟩ (hE e qq)⟩⟩
    exact hn) hdb he hpl)
end
end
end Sp
set_option maxHeartbeats 4000000
/-! Sp: the telling def; generator expressions; to what is wanted. -/
namespace Sp
open PySem L2
open PySem.W (Datum DatumOrd SomeDatum)
section
variable {Y : DX} {s : DSt} {e a b c o tg iter elt body : Expr} {es ifs : List Expr} {pos p apos lpos gpos : Pos} {α β : Type} [Enc α] [Enc β] {G0 : Gs → Prop} {E : Ex → Prop} {k : Nat} {scope : Scope}
/-- cells forgotten -/
theorem Sta.dropN {σ : St} {H F : Hp} : ∀ (n : Nat) {s : DSt}, Sta Y s σ H F → Sta Y ⟨s.ρ, s.gs.drop n⟩ σ H F
  | 0, s, S => S
  | n + 1, s, S => by
    have S1 := S.drop 0
    rw [List.eraseIdx_zero] at S1
    have S2 := Sta.dropN n S1
    rw [show s.gs.drop (n + 1) = s.gs.tail.drop n by rw [← List.drop_one, List.drop_drop, Nat.add_comm]]
    exact S2
theorem ev_dropN {Q : Pv → DSt → Prop} (h : Ev Y s e fun A s' => ∃ n, Q A ⟨s'.ρ, s'.gs.drop n⟩) : Ev Y s e Q := fun F0 σ H F e0 S => (h F0 σ H F e0 S).mono fun v H1 ⟨A, s1, F1, e1, r1, S1, n, q⟩ => ⟨A, _, F1, e1, r1, S1.dropN n, q⟩
/-- the lambda's place -/
structure LZ where
  A : Around
  outer : List Env
  s1 : Shared
  Hc : Hp
  E : XK
  f : Addr
  c' : Addr
  H : Hp
  F : Hp
  ex : Exc → DSt → Prop
abbrev lzY (Y : DX) (k : Nat) (scope : Scope) (gs : Gs) (z : LZ) : DX := lamY Y k z.A z.outer z.s1 z.Hc z.E scope z.f z.c' z.H z.F gs z.ex
/-- x(lambda: body), x the telling def; its own errors are told by tl -/
theorem c_told {x : Str} {l : Cls_} {params : Arguments} {We : (Ex → Prop) → (α → Prop) → Prop} (k : Nat) (inj : α → β) (tin : Txt → β) (tl : Ex → Option Txt) (G : Told Y.X x l) (htl : ∀ e t, tl e = some t → Tell Y.X.K l (exK Y.X.K e).C t) (tb : Tbl Y.X Y.T (Y.X.env.qual ++ "<lambda>")) (ok : YOk Y) (hk : k + 2 ≤ Y.k) (hg : Gl Y.X x) (L : LamX.LamS Y.X.env.scope scope)
    (hi : ∀ K F v (m : α), Enc.rep K F v m → Enc.rep K F v (inj m)) (ht : ∀ K F v (m : Txt), Enc.rep K F v m → Enc.rep K F v (tin m))
    (h : ∀ (z : LZ) (E : Ex → Prop), YE (lzY Y k scope s.gs z) (fun gs => gs = s.gs) E → EvC (lzY Y k scope s.gs z) s body (We E))
    (hdef : defaultsOf params Y.X.env = ([], []) := by rfl) (hbind : ∀ (q : Str) (cl : List (Str × Addr)) (pm cv ctv : Value), bindArgs (PySem.W.kla_fn "<lambda>" q params body scope cl pm cv ctv) ⟨[], []⟩ = pure [] := by intros; rfl)
    (hdb : (x == ("__debug__" : Str)) = false := by decide) : EvC Y s (.Call (.Name x p) [.Lambda params body scope lpos] [] pos) fun kk => We (fun e => ∃ t, tl e = some t ∧ kk (tin t)) fun r => kk (inj r) := fun kk w =>
  ev_as (ev_dropN (ev_told G tb ok hk hg L (fun A outer s1 Hc E0 f c' H F => by
    intro Y' ok'
    refine (h ⟨A, outer, s1, Hc, E0, f, c', H, F, _⟩ _ ⟨ok', fun e s' ⟨n, hn⟩ he => ?_⟩).q w fun r hr => ?_
    · obtain ⟨t, h1, h2⟩ := he
      exact ⟨t, htl e t h1, n, pu (tin t), fun F v r => ht _ _ _ _ r, tin t, rfl, by rw [hn], h2⟩
    · exact ⟨0, pu (inj r), fun F v q => hi _ _ _ _ q, inj r, rfl, rfl, hr⟩) hdef hbind hdb))
/-! generator expressions -/
theorem ItC.pp {W : (List β → Prop) → Prop} {items : List β} (h : ItC Y s tg iter W) (w : W fun is => is = items) : EvIt Y s tg iter items := by
  obtain ⟨wi, h1, h2⟩ := h _ w
  exact ⟨wi, h1, fun F0 σ H F R e0 S k => h2 F0 σ H F R e0 S fun J H' F' is s' e1 S1 K1 ⟨g1, g2⟩ => by subst g1 g2; exact k J H' F' e1 S1 K1⟩
section
variable {W : (List β → Prop) → Prop} {Wc : β → (Bool → Prop) → Prop}
theorem gturns {γ : Type} [Enc γ] {We : β → (γ → Prop) → Prop} (t : TgD β) (k : Nat) (vs : List Nat) (items : List β) (c : β → Bool) (h : β → γ) (tg0 : ∀ z, TgOk (genY Y k scope z) tg (t.g Y.X.K) t.ws t.f)
    (ht : ∀ z, YOk (genY Y k scope z) → ∀ x, EvTs (genY Y k scope z) ⟨t.f x (wipeR s.ρ vs), s.gs⟩ ifs (Wc x)) (he : ∀ z, YOk (genY Y k scope z) → ∀ x, EvC (genY Y k scope z) ⟨t.f x (wipeR s.ρ vs), s.gs⟩ elt (We x))
    (hc : ∀ x ∈ items, Wc x fun b => b = c x) (hv : ∀ x ∈ items, c x = true → We x fun y => y = h x) (sub : ∀ j ∈ t.ws, j ∈ vs) : GTurns Y k s scope vs tg elt ifs (t.g Y.X.K) t.ws t.f items c h :=
  ⟨tg0, sub, fun z o x hx => (ht z o x).pp (hc x hx), fun z o x hx hcx => (he z o x).pp (hv x hx hcx)⟩
theorem c_any {We : β → (Bool → Prop) → Prop} (t : TgD β) (k : Nat) (vs : List Nat) (items : List β) (c h : β → Bool) (ok : YOk Y) (B : Bis Y.X.mg) (hg : Gl Y.X "any") (hk : k + 2 ≤ Y.k) (hi : ItC Y s tg iter W) (G : GenOk Y.X.N Y.X.env.scope scope vs) (tb : Tbl Y.X Y.T (Y.X.env.qual ++ "<genexpr>")) (tg0 : ∀ z, TgOk (genY Y k scope z) tg (t.g Y.X.K) t.ws t.f)
    (ht : ∀ z, YOk (genY Y k scope z) → ∀ x, EvTs (genY Y k scope z) ⟨t.f x (wipeR s.ρ vs), s.gs⟩ ifs (Wc x)) (he : ∀ z, YOk (genY Y k scope z) → ∀ x, EvC (genY Y k scope z) ⟨t.f x (wipeR s.ρ vs), s.gs⟩ elt (We x)) (sub : ∀ j ∈ t.ws, j ∈ vs := by decide) (hs : ∀ x, genFold iter Y.X.env x = pure x := by intro _; rfl)
    (hst : starEach [.GeneratorExp elt [⟨tg, iter, ifs, 0⟩] scope gpos] Y.X.env = (false, eval (.GeneratorExp elt [⟨tg, iter, ifs, 0⟩] scope gpos) Y.X.env) :: starEach [] Y.X.env := by exact star_c rfl) :
    EvC Y s (.Call (.Name "any" p) [.GeneratorExp elt [⟨tg, iter, ifs, 0⟩] scope gpos] [] pos) fun kk => (W fun is => is = items) ∧ (∀ x ∈ items, Wc x fun b => b = c x) ∧ (∀ x ∈ items, c x = true → We x fun y => y = h x) ∧ kk ((items.filter c).any h) := fun kk ⟨w1, w2, w3, w4⟩ =>
  .of ((evp_any ok B hg hk (hi.pp w1) G tb (gturns t k vs items c h tg0 ht he w2 w3 sub) hs hst).to (by rw [List.any_map]; rfl)) ⟨_, rfl, rfl, w4⟩
theorem c_all {We : β → (Bool → Prop) → Prop} (t : TgD β) (k : Nat) (vs : List Nat) (items : List β) (c h : β → Bool) (ok : YOk Y) (B : Bis Y.X.mg) (hg : Gl Y.X "all") (hk : k + 2 ≤ Y.k) (hi : ItC Y s tg iter W) (G : GenOk Y.X.N Y.X.env.scope scope vs) (tb : Tbl Y.X Y.T (Y.X.env.qual ++ "<genexpr>")) (tg0 : ∀ z, TgOk (genY Y k scope z) tg (t.g Y.X.K) t.ws t.f)
    (ht : ∀ z, YOk (genY Y k scope z) → ∀ x, EvTs (genY Y k scope z) ⟨t.f x (wipeR s.ρ vs), s.gs⟩ ifs (Wc x)) (he : ∀ z, YOk (genY Y k scope z) → ∀ x, EvC (genY Y k scope z) ⟨t.f x (wipeR s.ρ vs), s.gs⟩ elt (We x)) (sub : ∀ j ∈ t.ws, j ∈ vs := by decide) (hs : ∀ x, genFold iter Y.X.env x = pure x := by intro _; rfl)
    (hst : starEach [.GeneratorExp elt [⟨tg, iter, ifs, 0⟩] scope gpos] Y.X.env = (false, eval (.GeneratorExp elt [⟨tg, iter, ifs, 0⟩] scope gpos) Y.X.env) :: starEach [] Y.X.env := by exact star_c rfl) :
    EvC Y s (.Call (.Name "all" p) [.GeneratorExp elt [⟨tg, iter, ifs, 0⟩] scope gpos] [] pos) fun kk => (W fun is => is = items) ∧ (∀ x ∈ items, Wc x fun b => b = c x) ∧ (∀ x ∈ items, c x = true → We x fun y => y = h x) ∧ kk ((items.filter c).all h) := fun kk ⟨w1, w2, w3, w4⟩ =>
  .of ((evp_all ok B hg hk (hi.pp w1) G tb (gturns t k vs items c h tg0 ht he w2 w3 sub) hs hst).to (by rw [List.all_map]; rfl)) ⟨_, rfl, rfl, w4⟩
theorem c_sumG {We : β → (Int → Prop) → Prop} (t : TgD β) (k : Nat) (vs : List Nat) (items : List β) (c : β → Bool) (h : β → Int) (ok : YOk Y) (B : Bis Y.X.mg) (hg : Gl Y.X "sum") (hk : k + 2 ≤ Y.k) (hi : ItC Y s tg iter W) (G : GenOk Y.X.N Y.X.env.scope scope vs) (tb : Tbl Y.X Y.T (Y.X.env.qual ++ "<genexpr>")) (tg0 : ∀ z, TgOk (genY Y k scope z) tg (t.g Y.X.K) t.ws t.f)
    (ht : ∀ z, YOk (genY Y k scope z) → ∀ x, EvTs (genY Y k scope z) ⟨t.f x (wipeR s.ρ vs), s.gs⟩ ifs (Wc x)) (he : ∀ z, YOk (genY Y k scope z) → ∀ x, EvC (genY Y k scope z) ⟨t.f x (wipeR s.ρ vs), s.gs⟩ elt (We x)) (sub : ∀ j ∈ t.ws, j ∈ vs := by decide) (hs : ∀ x, genFold iter Y.X.env x = pure x := by intro _; rfl)
    (hst : starEach [.GeneratorExp elt [⟨tg, iter, ifs, 0⟩] scope gpos] Y.X.env = (false, eval (.GeneratorExp elt [⟨tg, iter, ifs, 0⟩] scope gpos) Y.X.env) :: starEach [] Y.X.env := by exact star_c rfl) :
    EvC Y s (.Call (.Name "sum" p) [.GeneratorExp elt [⟨tg, iter, ifs, 0⟩] scope gpos] [] pos) fun kk => (W fun is => is = items) ∧ (∀ x ∈ items, Wc x fun b => b = c x) ∧ (∀ x ∈ items, c x = true → We x fun y => y = h x) ∧ SumOk ((items.filter c).map h) ∧ kk ((items.filter c).map h).sum := fun kk ⟨w1, w2, w3, w5, w4⟩ =>
  .of (evp_sumG ok B hg hk (hi.pp w1) G tb (gturns t k vs items c h tg0 ht he w2 w3 sub) w5 hs hst) ⟨_, rfl, rfl, w4⟩
end
end
end Sp
set_option maxHeartbeats 4000000
/-! Sp: new owned lists and dicts; statements; to what is wanted. -/
namespace Sp
open PySem L2
open PySem.W (Datum DatumOrd SomeDatum)
/-- a new list, owned -/
def EvN (Y : DX) (s : DSt) (e : Expr) {α : Type} [Enc α] (W : (List α → Prop) → Prop) : Prop := ∀ k : List α → Prop, W k → Ev Y s e fun A s' => ∃ p xs, A = raw (.ref p) ∧ s' = ⟨s.ρ, (p, lstc xs) :: s.gs⟩ ∧ k xs
/-- a new dict, owned -/
def EvM (Y : DX) (s : DSt) (e : Expr) {κ ν : Type} [Kk κ] [Enc ν] (W : (List (κ × ν) → Prop) → Prop) : Prop := ∀ k : List (κ × ν) → Prop, W k → Ev Y s e fun A s' => ∃ p m, A = raw (.ref p) ∧ s' = ⟨s.ρ, (p, dctc m) :: s.gs⟩ ∧ k m
/-! loops -/
/-- a for loop: what holds ahead of each turn is to be found -/
def forW {β Z : Type} (items : List β) (z0 : Z) (body : β → Z → (Z → Prop) → Prop) (rest : Z → Prop) : Prop :=
  ∃ Iv : Nat → Z → Prop, Iv 0 z0 ∧ (∀ i x z, items[i]? = some x → Iv i z → body x z (Iv (i + 1))) ∧ ∀ z, Iv items.length z → rest z
/-- .. that may be left -/
def forB {β Z : Type} (items : List β) (z0 : Z) (body : β → Z → (Z → Prop) → (Z → Prop) → Prop) (rest : Z → Prop) : Prop :=
  ∃ (Iv : Nat → Z → Prop) (J : Z → Prop), Iv 0 z0 ∧ (∀ i x z, items[i]? = some x → Iv i z → body x z (Iv (i + 1)) J) ∧ (∀ z, Iv items.length z → J z) ∧ ∀ z, J z → rest z
def whileW {Z : Type} (z0 : Z) (cond : Z → (Bool → Prop) → Prop) (body : Z → (Z → Prop) → Prop) (rest : Z → Prop) : Prop :=
  ∃ (Iv : Z → Prop) (μ : Z → Nat), Iv z0 ∧ ∀ z, Iv z → cond z fun b => (b = true → body z fun z' => Iv z' ∧ μ z' < μ z) ∧ (b = false → rest z)
section
variable {Y : DX} {s : DSt} {e a b c o tg iter elt : Expr} {es ifs : List Expr} {pos p p2 apos : Pos} {α β γ : Type} [Enc α] [Enc β] [Enc γ] {D : DE} {sts : List Stmt} {x y : Str}
/-! new lists, dicts -/
theorem n_list {W : (List α → Prop) → Prop} (h : EvS Y s es W) (hl : es.length ≤ sizeLine := by show _ ≤ sizeLine; decide) : EvN Y s (.List es pos) W := fun k w =>
  ev_listO ((h k w).mono fun As s' ⟨xs, e1, e2, e3, w⟩ => ⟨xs, e1, by omega, fun p => by subst e3; exact ⟨p, xs, rfl, rfl, w⟩⟩)
theorem po_listN {σ : St} {F0 : Hp} {H F : Hp} {vs : List V} {xs : List α} {k : List α → Prop} (e0 : Ext F0 F) (S : Sta Y s σ H F) (r : Vs Y.X.K F vs xs) (w : k xs) : ∀ p, H p = none → Po Y σ F0 (fun A s' => ∃ p xs, A = raw (.ref p) ∧ s' = ⟨s.ρ, (p, lstc xs) :: s.gs⟩ ∧ k xs) (.ref p) (upd H p (.lst vs)) :=
  po_listO e0 S r fun p => ⟨p, xs, rfl, rfl, w⟩
theorem n_listL {W : (List α → Prop) → Prop} (T : Bis Y.X.mg) (hg : Gl Y.X "list") (ha : EvL Y s a W) (he : starEach [a] Y.X.env = (false, eval a Y.X.env) :: starEach [] Y.X.env := by exact star_c rfl) : EvN Y s (.Call (.Name "list" p) [a] [] pos) W := fun k w =>
  ev_T1 call_list_of hg (T.no _ (by decide)) PyProof.Rows.boot_list (ha.q w fun A xs hA w F0 σ H F v e0 S r => by
    obtain ⟨q, zs, h1, h2, h3⟩ := hA σ H F v S r
    exact ⟨q, zs, by rw [h1], .inl h2, fun l hl => po_listN e0 S h3 w l hl⟩) (by decide) (by decide) he
theorem n_listH {W : (Tup α → Prop) → Prop} (T : Bis Y.X.mg) (hg : Gl Y.X "list") (ha : EvC Y s a W) (he : starEach [a] Y.X.env = (false, eval a Y.X.env) :: starEach [] Y.X.env := by exact star_c rfl) : EvN Y s (.Call (.Name "list" p) [a] [] pos) fun k => W fun xs => k xs.items := fun k w =>
  ev_T1 call_list_of hg (T.no _ (by decide)) PyProof.Rows.boot_list (ha.q w fun xs w F0 σ H F v e0 S ⟨q, zs, h1, h2, h3⟩ => ⟨q, zs, by rw [h1], .inr (sqT_ext h2 S.ext), fun l hl => po_listN e0 S h3 w l hl⟩) (by decide) (by decide) he
theorem n_listS {W : (List Nat → Prop) → Prop} (ok : YOk Y) (T : Bis Y.X.mg) (hg : Gl Y.X "list") (ha : EvC Y s a W) (he : starEach [a] Y.X.env = (false, eval a Y.X.env) :: starEach [] Y.X.env := by exact star_c rfl) : EvN Y s (.Call (.Name "list" p) [a] [] pos) fun k => W fun x => x.length ≤ sizeLine ∧ k (x.map fun c => [c]) := fun k w =>
  ev_T1 (call_list_ofS ok.calm) hg (T.no _ (by decide)) PyProof.Rows.boot_list (ha.q w fun x w F0 σ H F v e0 S r => ⟨x, by rw [show v = .str (toStr x) from r], w.1, fun l hl => po_listN e0 S (signs_vs x) w.2 l hl⟩) (by decide) (by decide) he
theorem n_sorted {δ : Type} [DecidableEq δ] [Enc δ] [DatumOrd δ] [Dat δ] {W : (List δ → Prop) → Prop} [Srtb δ] (ok : YOk Y) (T : Bis Y.X.mg) (hg : Gl Y.X "sorted") (ha : EvL Y s a W) (hd : Datum.depth δ ≤ 60 := by decide) (he : starEach [a] Y.X.env = (false, eval a Y.X.env) :: starEach [] Y.X.env := by exact star_c rfl) :
    EvN Y s (.Call (.Name "sorted" p) [a] [] pos) fun k => W fun xs => k (srt xs) := fun k w =>
  ev_B1 (cr_sortedF (α := δ) ok.room.units hd) hg (T.no _ (by decide)) PyProof.Rows.boot_sorted (ha.q w fun A xs hA w F0 σ H F v e0 S r => by
    obtain ⟨q, zs, h1, h2, h3⟩ := hA σ H F v S r
    exact ⟨F, v, q, zs, xs, rfl, h1, h2, h3, S.ext, fun q' zs' hq' r' => po_listN e0 S r' w q' hq'⟩) (by decide) (by decide) he
theorem n_cat {Wa Wb : (List α → Prop) → Prop} (ha : EvL Y s a Wa) (hb : EvL Y s b Wb) : EvN Y s (.BinOp a .Add b pos) fun k => Wa fun x => Wb fun y => x.length + y.length ≤ sizeLine ∧ k (x ++ y) := fun k w =>
  ev2 (pe_op op_catF pe_we pe_we) (ha.q w fun A x hA w => hb.q w fun B y hB w F0 σ H F v u e0 S r1 r2 => by
    obtain ⟨p, zs, h1, h2, h3⟩ := hA σ H F v S r1
    obtain ⟨q, ws, g1, g2, g3⟩ := hB σ H F u S r2
    have l1 : zs.length = x.length := Paired.length h3
    have l2 : ws.length = y.length := Paired.length g3
    exact ⟨p, q, zs, ws, h1, g1, h2, g2, by omega, fun l hl => po_listN e0 S (prd_app h3 g3) w.2 l hl⟩)
theorem n_rep {W : (List α → Prop) → Prop} {Wb : (Int → Prop) → Prop} {p2 : Pos} (h : EvS Y s es W) (hb : ∀ p xs, EvC Y ⟨s.ρ, (p, lstc (α := α) xs) :: s.gs⟩ b Wb) (hl : es.length ≤ sizeLine := by show _ ≤ sizeLine; decide) : EvN Y s (.BinOp (.List es p2) .Mult b pos) fun k => W fun xs => Wb fun n => (-(2 ^ 63) ≤ n ∧ n < 2 ^ 63 ∧ xs.length * n.toNat ≤ sizeLine) ∧ k (List.replicate n.toNat xs).flatten := fun k w =>
  ev2 (pe_op op_rep pe_we pe_we) (ev_listO ((h _ w).mono fun As s' ⟨xs, e1, e2, e3, w⟩ => ⟨xs, e1, by omega, fun p => by
    subst e3
    exact (hb p xs _ w).mono fun B s2 ⟨n, eb, es, w⟩ F0 σ H F v u e0 S r1 r2 => by
      subst eb es
      obtain ⟨hF, o, ho, _, vs, eo, rv⟩ := S.cell (i := 0) (p := p) (c := lstc xs) rfl
      subst eo
      have hl : vs.length = xs.length := Paired.length rv
      refine ⟨p, n, vs, r1, r2, ho, w.1.1, w.1.2.1, by rw [hl]; exact w.1.2.2, fun q hq => ?_⟩
      exact po_listN e0 (S.drop 0) (vs_rep rv _) w.2 q hq⟩))
theorem n_slL {W : (List α → Prop) → Prop} {lo hi : Option Expr} {Wl Wh : (Option Int → Prop) → Prop} (ha : EvL Y s a W) (hl : EvOC Y s lo Wl) (hh : EvOC Y s hi Wh) : EvN Y s (.Subscript a (.Slice lo hi none p2) pos) fun k => W fun x => Wl fun i => Wh fun j => k (cutD x i j) := fun k w =>
  ev_slC sl_list hl hh (ha.q w fun A x hA w => ⟨rfl, _, w, fun i j w F0 σ H F v e0 S r => by
    obtain ⟨q, zs, h1, h2, h3⟩ := hA σ H F v S r
    exact ⟨q, zs, h1, h2, fun l hl => po_listN e0 S (cut_vs h3 i j) w l hl⟩⟩)
section
variable {κ ν : Type} [DecidableEq κ] [Kk κ] [Enc κ] [KkV κ] [Enc ν]
theorem m_new : EvM Y s (.Dict [] [] pos) fun k => k ([] : List (κ × ν)) := fun k w => ev_dnew fun p => ⟨p, [], rfl, rfl, w⟩
theorem m_dictL {W : (List (κ × ν) → Prop) → Prop} (ok : YOk Y) (T : Bis Y.X.mg) (hg : Gl Y.X "dict") (ha : EvL Y s a W) (he : starEach [a] Y.X.env = (false, eval a Y.X.env) :: starEach [] Y.X.env := by exact star_c rfl) : EvM Y s (.Call (.Name "dict" p) [a] [] pos) fun k => W fun xs => k (dmerge [] xs) := fun k w F0 σ H F e0 S => by
  refine .of (pe_callTy (call_dictP ok.calm) hg (T.no _ (by decide)) PyProof.Rows.boot_dict (pa_cons pe_we pa_nil he) (by decide) (by decide) he (by rfl)) ?_
  refine (ha _ w F0 σ H F e0 S).mono fun v H1 ⟨A, _, F1, e1, r1, S1, xs, hA, es, w⟩ => ?_
  subst es
  obtain ⟨q', zs, h1, h2, h3⟩ := hA σ H1 F1 v S1 r1
  obtain ⟨ps, kvs, g1, g2, g3⟩ := pairs_kvs h3
  subst g1
  exact ⟨q', ps, kvs, by rw [h1], h2, Paired.mapP g2 fun _ _ z => sqT_ext z S1.ext, fun l hl => ⟨raw (.ref l), _, F1, e1, rfl, S1.newO (c := dctc (dmerge [] xs)) hl rfl ⟨_, rfl, kvs_merge g3 .nil⟩, l, _, rfl, rfl, w⟩⟩
theorem m_dictD {W : (List (κ × ν) → Prop) → Prop} (ok : YOk Y) (T : Bis Y.X.mg) (hg : Gl Y.X "dict") (ha : EvD Y s a W) (he : starEach [a] Y.X.env = (false, eval a Y.X.env) :: starEach [] Y.X.env := by exact star_c rfl) : EvM Y s (.Call (.Name "dict" p) [a] [] pos) fun k => W fun m => k m := fun k w F0 σ H F e0 S => by
  refine .of (pe_callTy call_dictD hg (T.no _ (by decide)) PyProof.Rows.boot_dict (pa_cons pe_we pa_nil he) (by decide) (by decide) he (by rfl)) ?_
  refine (ha _ w F0 σ H F e0 S).mono fun v H1 ⟨A, _, F1, e1, r1, S1, m, hA, es, w⟩ => ?_
  subst es
  obtain ⟨q', zs, h1, h2, h3⟩ := hA σ H1 F1 v S1 r1
  exact ⟨q', zs, by rw [h1], h2, fun l hl => ⟨raw (.ref l), _, F1, e1, rfl, S1.newO (c := dctc m) hl rfl ⟨_, rfl, h3⟩, l, _, rfl, rfl, w⟩⟩
end
/-! statements -/
section
variable {R : α → Prop} {W : (α → Prop) → Prop}
theorem s_asg (i : Nat) (ok : YOk Y) (hi : Y.X.N[i]? = some x) (he : EvC Y s e W) (next : ∀ v, R v → Ws Y ⟨s.ρ.set i (some (pu v)), s.gs⟩ sts D) (w : W R)
    (hx : Loc Y.X.env.scope x := by first | exact .inl rfl | exact .inr rfl) (hs : swapsWith e (some (.Name x p2)) pos.line Y.X.env = pure false := by rfl) (hf : Y.X.fn x = true ∨ Y.X.env.scope.names.lookup x = some .local := by first | exact .inl rfl | exact .inr rfl) : Ws Y s (.Assign [.Name x p2] e pos :: sts) D :=
  ws_cons (w1_set i ok hi hx (he.q w fun v r => next v r) hs hf)
theorem s_asgL {t : TgD β} {own : List (Str × Nat)} {R : List α → Prop} {W : (List α → Prop) → Prop} {scope : Scope} {spos : Pos} (i : Nat) (ok : YOk Y) (hi : Y.X.N[i]? = some x) (h : LcW Y s scope own t tg iter elt ifs W) (next : ∀ v, R v → Ws Y ⟨s.ρ.set i (some (pu v)), s.gs⟩ sts D) (w : W R)
    (hyl : Y.X.env.scope.names.lookup x = some .local := by rfl) (hsw : swapsWith (.ListComp elt [⟨tg, iter, ifs, 0⟩] scope pos) (some (.Name x p2)) spos.line Y.X.env = pure true := by rfl) : Ws Y s (.Assign [.Name x p2] (.ListComp elt [⟨tg, iter, ifs, 0⟩] scope pos) spos :: sts) D :=
  ws_cons (w1_asgL ok hi h w (fun ys k => next ys k) hyl hsw)
theorem s_asgN {R : List α → Prop} {W : (List α → Prop) → Prop} (i : Nat) (ok : YOk Y) (hi : Y.X.N[i]? = some x) (he : EvN Y s e W) (next : ∀ q v, R v → Ws Y ⟨s.ρ.set i (some (raw (.ref q))), (q, lstc v) :: s.gs⟩ sts D) (w : W R)
    (hx : Loc Y.X.env.scope x := by first | exact .inl rfl | exact .inr rfl) (hs : swapsWith e (some (.Name x p2)) pos.line Y.X.env = pure false := by rfl) (hf : Y.X.fn x = true ∨ Y.X.env.scope.names.lookup x = some .local := by first | exact .inl rfl | exact .inr rfl) : Ws Y s (.Assign [.Name x p2] e pos :: sts) D :=
  ws_cons (w1_set i ok hi hx ((he _ w).mono fun A s' ⟨q, xs, ea, es, r⟩ => by subst ea es; exact next q xs r) hs hf)
theorem s_asgM {κ ν : Type} [DecidableEq κ] [Kk κ] [Enc κ] [KkV κ] [Enc ν] {R : List (κ × ν) → Prop} {W : (List (κ × ν) → Prop) → Prop} (i : Nat) (ok : YOk Y) (hi : Y.X.N[i]? = some x) (he : EvM Y s e W) (next : ∀ q v, R v → Ws Y ⟨s.ρ.set i (some (raw (.ref q))), (q, dctc v) :: s.gs⟩ sts D) (w : W R)
    (hx : Loc Y.X.env.scope x := by first | exact .inl rfl | exact .inr rfl) (hs : swapsWith e (some (.Name x p2)) pos.line Y.X.env = pure false := by rfl) (hf : Y.X.fn x = true ∨ Y.X.env.scope.names.lookup x = some .local := by first | exact .inl rfl | exact .inr rfl) : Ws Y s (.Assign [.Name x p2] e pos :: sts) D :=
  ws_cons (w1_set i ok hi hx ((he _ w).mono fun A s' ⟨q, xs, ea, es, r⟩ => by subst ea es; exact next q xs r) hs hf)
/-- a, b = e, e a tuple -/
theorem s_asgT (t : TgD α) (hg : TgOk Y tg (t.g Y.X.K) t.ws t.f) (he : EvC Y s e W) (next : ∀ v, R v → Ws Y ⟨t.f v s.ρ, s.gs⟩ sts D) (w : W R)
    (hs : swapsWithSole [tg] e pos.line Y.X.env = pure false := by rfl) (hw : swappedStores [tg] e Y.X.env = pure none := by rfl) (h1 : (assignEach [tg] Y.X.env).map (·.2) = [assign tg Y.X.env] := by rfl) : Ws Y s (.Assign [tg] e pos :: sts) D :=
  ws_cons (w1_asg hg (he.q w fun v r => ⟨v, rfl, next v r⟩) hs hw h1)
/-- a, b = x, y -/
theorem s_par {px py pt pt2 : Pos} {kt k2 : Nat} {R : α → β → Prop} {Wa : (α → Prop) → Prop} {Wb : (β → Prop) → Prop} (i j : Nat) (ok : YOk Y) (hi : Y.X.N[i]? = some x) (hj : Y.X.N[j]? = some y) (ha : EvC Y s a Wa) (hb : EvC Y s b Wb) (next : ∀ u v, R u v → Ws Y ⟨(s.ρ.set i (some (pu u))).set j (some (pu v)), s.gs⟩ sts D) (w : Wa fun u => Wb fun v => R u v)
    (hij : i ≠ j := by decide) (hx : Y.X.env.scope.names.lookup x = some .local := by rfl) (hy : Y.X.env.scope.names.lookup y = some .local := by rfl) (he : starEach [a, b] Y.X.env = (false, eval a Y.X.env) :: starEach [b] Y.X.env := by exact star_c rfl) (he2 : starEach [b] Y.X.env = (false, eval b Y.X.env) :: starEach [] Y.X.env := by exact star_c rfl)
    (hw : swappedStores [.Tuple [.Name x px, .Name y py] kt pt] (.Tuple [a, b] k2 pt2) Y.X.env = pure (some [x, y]) := by rfl) (hs : swapsWithSole [.Tuple [.Name x px, .Name y py] kt pt] (.Tuple [a, b] k2 pt2) pos.line Y.X.env = pure false := by rfl) : Ws Y s (.Assign [.Tuple [.Name x px, .Name y py] kt pt] (.Tuple [a, b] k2 pt2) pos :: sts) D :=
  ws_cons (w1_par ok hi hj hij hx hy (evs_cons (ha.q w fun u w => evs_cons (hb.q w fun v w => evs_nil ⟨_, _, rfl, next u v w⟩) he2) he) hw hs)
theorem s_parM {κ ν : Type} [DecidableEq κ] [Kk κ] [Enc κ] [KkV κ] [Enc ν] {px py pt pt2 : Pos} {kt k2 : Nat} {R : α → List (κ × ν) → Prop} {Wa : (α → Prop) → Prop} {Wb : (List (κ × ν) → Prop) → Prop} (i j : Nat) (ok : YOk Y) (hi : Y.X.N[i]? = some x) (hj : Y.X.N[j]? = some y) (ha : EvC Y s a Wa) (hb : EvM Y s b Wb) (next : ∀ q u v, R u v → Ws Y ⟨(s.ρ.set i (some (pu u))).set j (some (raw (.ref q))), (q, dctc v) :: s.gs⟩ sts D) (w : Wa fun u => Wb fun v => R u v)
    (hij : i ≠ j := by decide) (hx : Y.X.env.scope.names.lookup x = some .local := by rfl) (hy : Y.X.env.scope.names.lookup y = some .local := by rfl) (he : starEach [a, b] Y.X.env = (false, eval a Y.X.env) :: starEach [b] Y.X.env := by exact star_c rfl) (he2 : starEach [b] Y.X.env = (false, eval b Y.X.env) :: starEach [] Y.X.env := by exact star_c rfl)
    (hw : swappedStores [.Tuple [.Name x px, .Name y py] kt pt] (.Tuple [a, b] k2 pt2) Y.X.env = pure (some [x, y]) := by rfl) (hs : swapsWithSole [.Tuple [.Name x px, .Name y py] kt pt] (.Tuple [a, b] k2 pt2) pos.line Y.X.env = pure false := by rfl) : Ws Y s (.Assign [.Tuple [.Name x px, .Name y py] kt pt] (.Tuple [a, b] k2 pt2) pos :: sts) D :=
  ws_cons (w1_par ok hi hj hij hx hy (evs_cons (ha.q w fun u w => evs_cons ((hb _ w).mono fun A s' ⟨q, v, ea, es, w⟩ => by subst ea es; exact evs_nil ⟨_, _, rfl, next q u v w⟩) he2) he) hw hs)
theorem s_parCN {px py pt pt2 : Pos} {kt k2 : Nat} {R : α → List β → Prop} {Wa : (α → Prop) → Prop} {Wb : (List β → Prop) → Prop} (i j : Nat) (ok : YOk Y) (hi : Y.X.N[i]? = some x) (hj : Y.X.N[j]? = some y) (ha : EvC Y s a Wa) (hb : EvN Y s b Wb) (next : ∀ q u v, R u v → Ws Y ⟨(s.ρ.set i (some (pu u))).set j (some (raw (.ref q))), (q, lstc v) :: s.gs⟩ sts D) (w : Wa fun u => Wb fun v => R u v)
    (hij : i ≠ j := by decide) (hx : Y.X.env.scope.names.lookup x = some .local := by rfl) (hy : Y.X.env.scope.names.lookup y = some .local := by rfl) (he : starEach [a, b] Y.X.env = (false, eval a Y.X.env) :: starEach [b] Y.X.env := by exact star_c rfl) (he2 : starEach [b] Y.X.env = (false, eval b Y.X.env) :: starEach [] Y.X.env := by exact star_c rfl)
    (hw : swappedStores [.Tuple [.Name x px, .Name y py] kt pt] (.Tuple [a, b] k2 pt2) Y.X.env = pure (some [x, y]) := by rfl) (hs : swapsWithSole [.Tuple [.Name x px, .Name y py] kt pt] (.Tuple [a, b] k2 pt2) pos.line Y.X.env = pure false := by rfl) : Ws Y s (.Assign [.Tuple [.Name x px, .Name y py] kt pt] (.Tuple [a, b] k2 pt2) pos :: sts) D :=
  ws_cons (w1_par ok hi hj hij hx hy (evs_cons (ha.q w fun u w => evs_cons ((hb _ w).mono fun A s' ⟨q, v, ea, es, w⟩ => by subst ea es; exact evs_nil ⟨_, _, rfl, next q u v w⟩) he2) he) hw hs)
theorem s_parNC {px py pt pt2 : Pos} {kt k2 : Nat} {R : List α → β → Prop} {Wa : (List α → Prop) → Prop} {Wb : (β → Prop) → Prop} (i j : Nat) (ok : YOk Y) (hi : Y.X.N[i]? = some x) (hj : Y.X.N[j]? = some y) (ha : EvN Y s a Wa) (hb : ∀ q u, EvC Y ⟨s.ρ, (q, lstc (α := α) u) :: s.gs⟩ b Wb) (next : ∀ q u v, R u v → Ws Y ⟨(s.ρ.set i (some (raw (.ref q)))).set j (some (pu v)), (q, lstc u) :: s.gs⟩ sts D) (w : Wa fun u => Wb fun v => R u v)
    (hij : i ≠ j := by decide) (hx : Y.X.env.scope.names.lookup x = some .local := by rfl) (hy : Y.X.env.scope.names.lookup y = some .local := by rfl) (he : starEach [a, b] Y.X.env = (false, eval a Y.X.env) :: starEach [b] Y.X.env := by exact star_c rfl) (he2 : starEach [b] Y.X.env = (false, eval b Y.X.env) :: starEach [] Y.X.env := by exact star_c rfl)
    (hw : swappedStores [.Tuple [.Name x px, .Name y py] kt pt] (.Tuple [a, b] k2 pt2) Y.X.env = pure (some [x, y]) := by rfl) (hs : swapsWithSole [.Tuple [.Name x px, .Name y py] kt pt] (.Tuple [a, b] k2 pt2) pos.line Y.X.env = pure false := by rfl) : Ws Y s (.Assign [.Tuple [.Name x px, .Name y py] kt pt] (.Tuple [a, b] k2 pt2) pos :: sts) D :=
  ws_cons (w1_par ok hi hj hij hx hy (evs_cons ((ha _ w).mono fun A s' ⟨q, u, ea, es, w⟩ => by subst ea es; exact evs_cons ((hb q u).q w fun v w => evs_nil ⟨_, _, rfl, next q u v w⟩) he2) he) hw hs)
theorem s_ret (he : EvC Y s e W) (w : W R) (q : ∀ v, R v → D.rt (pu v) s) : Ws Y s (.Return (some e) pos :: sts) D := ws_cons (w1_ret (he.q w fun v r => q v r))
theorem s_if {B C : Prop} {A1 A2 : List Stmt} {Wc : (Bool → Prop) → Prop} (hc : EvT Y s c Wc) (h1 : B → Ws Y s A1 { D with nx := fun s' => Ws Y s' sts D }) (h2 : C → Ws Y s A2 { D with nx := fun s' => Ws Y s' sts D }) (w : Wc fun t => (t = true → B) ∧ (t = false → C)) : Ws Y s (.If c A1 A2 pos :: sts) D :=
  ws_cons (w1_if (hc.q w fun t r => by
    cases t with
    | true => rw [if_pos rfl]; exact h1 (r.1 rfl)
    | false => rw [if_neg Bool.false_ne_true]; exact h2 (r.2 rfl)))
end
/-! loops -/
section
variable {Z J : Type}
theorem s_for {W : (List β → Prop) → Prop} {Body : β → Z → (Z → Prop) → Prop} {Rest : Z → Prop} {bd : List Stmt} (t : TgD β) (stf : Z → J → DSt) (z0 : Z) (j0 : J) (ok : YOk Y) (hi : ItC Y s tg iter W) (hg : TgOk Y tg (t.g Y.X.K) t.ws t.f) (h0 : s = stf z0 j0)
    (body : ∀ x z j (nx : Z → Prop), Body x z nx → Ws Y ⟨t.f x (stf z j).ρ, (stf z j).gs⟩ bd { D with nx := fun s' => ∃ z' j', s' = stf z' j' ∧ nx z', ct := fun s' => ∃ z' j', s' = stf z' j' ∧ nx z', bk := fun _ => False })
    (next : ∀ z j, Rest z → Ws Y (stf z j) sts D) (w : W fun items => forW items z0 Body Rest) (hs : ∀ x, foldedSetIterable iter Y.X.env x = pure x := by intro _; rfl) : Ws Y s (.For tg iter bd [] pos :: sts) D :=
  ws_cons (w1_forE ok (hi _ w) hg (fun items s' ⟨es, Iv, w0, w1, w2⟩ => ⟨fun i s2 => ∃ z j, s2 = stf z j ∧ Iv i z, ⟨z0, j0, by rw [es, h0], w0⟩, fun i x s2 hx ⟨z, j, e2, iv⟩ => by
    subst e2
    exact (body x z j _ (w1 i x z hx iv)).mono (fun s h => h) (fun A s h => h) (fun s h => h.elim) (fun s h => h), fun s2 ⟨z, j, e2, iv⟩ => by subst e2; exact next z j (w2 z iv)⟩) hs)
theorem s_forB {W : (List β → Prop) → Prop} {Body : β → Z → (Z → Prop) → (Z → Prop) → Prop} {Rest : Z → Prop} {bd : List Stmt} (t : TgD β) (stf : Z → J → DSt) (z0 : Z) (j0 : J) (ok : YOk Y) (hi : ItC Y s tg iter W) (hg : TgOk Y tg (t.g Y.X.K) t.ws t.f) (h0 : s = stf z0 j0)
    (body : ∀ x z j (nx bk : Z → Prop), Body x z nx bk → Ws Y ⟨t.f x (stf z j).ρ, (stf z j).gs⟩ bd { D with nx := fun s' => ∃ z' j', s' = stf z' j' ∧ nx z', ct := fun s' => ∃ z' j', s' = stf z' j' ∧ nx z', bk := fun s' => ∃ z' j', s' = stf z' j' ∧ bk z' })
    (next : ∀ z j, Rest z → Ws Y (stf z j) sts D) (w : W fun items => forB items z0 Body Rest) (hs : ∀ x, foldedSetIterable iter Y.X.env x = pure x := by intro _; rfl) : Ws Y s (.For tg iter bd [] pos :: sts) D :=
  ws_cons (w1_forE ok (hi _ w) hg (fun items s' ⟨es, Iv, Jv, w0, w1, w2, w3⟩ => ⟨fun i s2 => ∃ z j, s2 = stf z j ∧ Iv i z, ⟨z0, j0, by rw [es, h0], w0⟩, fun i x s2 hx ⟨z, j, e2, iv⟩ => by
    subst e2
    exact (body x z j _ _ (w1 i x z hx iv)).mono (fun s h => h) (fun A s h => h) (fun s ⟨z', j', e3, jv⟩ => by subst e3; exact next z' j' (w3 z' jv)) (fun s h => h), fun s2 ⟨z, j, e2, iv⟩ => by subst e2; exact next z j (w3 z (w2 z iv))⟩) hs)
theorem s_while {Cond : Z → (Bool → Prop) → Prop} {Body : Z → (Z → Prop) → Prop} {Rest : Z → Prop} {bd : List Stmt} (stf : Z → J → DSt) (z0 : Z) (j0 : J) (ok : YOk Y) (h0 : s = stf z0 j0) (hc : ∀ z j, EvT Y (stf z j) c (Cond z))
    (body : ∀ z j (nx : Z → Prop), Body z nx → Ws Y (stf z j) bd { D with nx := fun s' => ∃ z' j', s' = stf z' j' ∧ nx z', ct := fun s' => ∃ z' j', s' = stf z' j' ∧ nx z', bk := fun _ => False })
    (next : ∀ z j, Rest z → Ws Y (stf z j) sts D) (w : whileW z0 Cond Body Rest) : Ws Y s (.While c bd [] pos :: sts) D := by
  obtain ⟨Iv, μ, w0, w1⟩ := w
  refine ws_cons fun F0 σ H F e0 S => ?_
  refine .of (ps_while ok.pass pt_wt pss_ws) ⟨fun m σ H => ∃ z j F2, Ext F0 F2 ∧ Sta Y (stf z j) σ H F2 ∧ Iv z ∧ m = μ z, ⟨_, z0, j0, F, e0, h0 ▸ S, w0, rfl⟩, ?_⟩
  rintro m σ2 H2 ⟨z, j, F2, e2, S2, iv, rfl⟩
  refine (hc z j _ (w1 z iv) F0 σ2 H2 F2 e2 S2).mono fun t H3 ⟨s3, F3, e3, S3, es, q⟩ => ?_
  subst es
  cases t with
  | false => exact ⟨_, F3, e3, S3, next z j (q.2 rfl)⟩
  | true => exact ⟨fun σ' H' => ∃ z4 j4 F4, Ext F0 F4 ∧ Sta Y (stf z4 j4) σ' H' F4 ∧ Iv z4 ∧ μ z4 < μ z, fun σ' H' ⟨z4, j4, F4, e4, S4, iv4, lt⟩ => ⟨_, lt, z4, j4, F4, e4, S4, iv4, rfl⟩, (body z j _ (q.1 rfl) F0 σ2 H3 F3 e3 S3).mono (fun σ' H' ⟨s5, F5, e5, S5, z', j', e6, iv5, lt⟩ => by subst e6; exact ⟨z', j', F5, e5, S5, iv5, lt⟩) (fun v H' q => q) (fun σ' H' ⟨s5, F5, e5, S5, q⟩ => q.elim) (fun σ' H' ⟨s5, F5, e5, S5, z', j', e6, iv5, lt⟩ => by subst e6; exact ⟨z', j', F5, e5, S5, iv5, lt⟩)⟩
end
/-! changes in place -/
section
variable {α : Type} [Enc α] {W : (α → Prop) → Prop} {xs : List α} {q : Addr}
/-- a changing thing's method, its argument to be found -/
theorem ev_m1X {T id : String} {name : Str} {Q : Pv → DSt → Prop} {r : V → List V → Hp → VK → Prop} (pa : PlainAttrs T) (slot : Slot T name id) (hty : typeOf (.builtin id) = pure (.type "method_descriptor")) (hm : MtR Y.X id r) (ho : EvP Y s o (raw (.ref q)))
    (ht : ∀ σ H F, Sta Y s σ H F → tyV Y.X.K T (.ref q) H)
    (h : Ev Y s e fun B s2 => ∀ F0 σ H F u, Ext F0 F → Sta Y s2 σ H F → B.rep Y.X.K F u → r (.ref q) [u] H (Po Y σ F0 Q))
    (m : Mx1 Y.X o name apos e pos) : Ev Y s (.Call (.Attribute o name apos) [e] [] pos) Q :=
  ev_m1C pa slot hty hm (.of ho ⟨fun σ H F v S r => by rw [show v = .ref q from r]; exact ht σ H F S, h.mono fun B s2 h F0 σ H F v u e0 S r1 r2 => by rw [show v = .ref q from r1]; exact h F0 σ H F u e0 S r2⟩) m
theorem s_append (i g : Nat) (hN : Y.X.N[i]? = some x) (hρ : s.ρ[i]? = some (some (raw (.ref q)))) (hg : s.gs[g]? = some (q, lstc xs)) (he : EvC Y s e W) {R : α → Prop} (next : ∀ v, R v → Ws Y ⟨s.ρ, s.gs.set g (q, lstc (xs ++ [v]))⟩ sts D) (w : W fun v => xs.length < sizeLine ∧ R v)
    (m : Mx1 Y.X (.Name x p) "append" apos e pos := by exact mx1 rfl rfl rfl) (hv : Vis Y.X.env.scope x := by first | exact .inl rfl | exact .inr (.inl rfl) | exact .inr (.inr rfl)) (hd : (x == ("__debug__" : Str)) = false := by decide) (hcd : (x == ("__classdict__" : Str)) = false := by decide) : Ws Y s (.Expr (.Call (.Attribute (.Name x p) "append" apos) [e] [] pos) p2 :: sts) D :=
  ws_cons (w1_expr (ev_m1X PySem.F.plainAttrs_list PySem.F.slot_list_append PySem.F.type_list_append mt_append (evp_v i hN hρ hv hd hcd) (fun σ H F S => by
      obtain ⟨_, o, ho, _, vs, eo, rv⟩ := S.cell hg
      subst eo
      exact tyV_list (.of ho))
    (he.q w fun v w F0 σ H F u e0 S ru => by
      obtain ⟨hF, o, ho, _, vs, eo, rv⟩ := S.cell hg
      subst eo
      have hl : vs.length = xs.length := Paired.length rv
      refine ⟨q, vs, u, rfl, rfl, ho, by omega, pu (), _, F, e0, rfl, ?_, next v w.2⟩
      exact S.write (c' := lstc (xs ++ [v])) hg ho (not_codeL rfl) rfl ⟨_, rfl, prd_app rv (.cons ru .nil)⟩) m))
theorem s_remove {α : Type} [DecidableEq α] [Enc α] [Datum α] [Dat α] {W : (α → Prop) → Prop} {xs : List α} (i g : Nat) (ok : YOk Y) (hN : Y.X.N[i]? = some x) (hρ : s.ρ[i]? = some (some (raw (.ref q)))) (hg : s.gs[g]? = some (q, lstc xs)) (he : EvC Y s e W) {R : α → Prop} (next : ∀ v, R v → Ws Y ⟨s.ρ, s.gs.set g (q, lstc (erL xs v))⟩ sts D) (w : W fun v => v ∈ xs ∧ R v)
    (m : Mx1 Y.X (.Name x p) "remove" apos e pos := by exact mx1 rfl rfl rfl) (hdp : Datum.depth α ≤ 60 := by decide) (hv : Vis Y.X.env.scope x := by first | exact .inl rfl | exact .inr (.inl rfl) | exact .inr (.inr rfl)) (hd : (x == ("__debug__" : Str)) = false := by decide) (hcd : (x == ("__classdict__" : Str)) = false := by decide) : Ws Y s (.Expr (.Call (.Attribute (.Name x p) "remove" apos) [e] [] pos) p2 :: sts) D :=
  ws_cons (w1_expr (ev_m1X PySem.F.plainAttrs_list PySem.F.slot_list_remove PySem.F.type_list_remove (mt_removeF (α := α) ok.room.units hdp) (evp_v i hN hρ hv hd hcd) (fun σ H F S => by
      obtain ⟨_, o, ho, _, vs, eo, rv⟩ := S.cell hg
      subst eo
      exact tyV_list (.of ho))
    (he.q w fun v w F0 σ H F u e0 S ru => by
      obtain ⟨hF, o, ho, _, vs, eo, rv⟩ := S.cell hg
      subst eo
      refine ⟨F, v, xs, u, q, vs, rfl, rfl, Enc.mono (α := α) ru S.ext, ho, rv, S.ext, w.1, fun zs' rz => ⟨pu (), _, F, e0, rfl, ?_, next v w.2⟩⟩
      exact S.write (c' := lstc (xs.erase v)) hg ho (not_codeL rfl) rfl ⟨_, rfl, rz⟩) m))
/-- x[k] = e, x an owned list -/
theorem s_lput (i g : Nat) {b : Expr} {W : (α → Prop) → Prop} {Wi : (Int → Prop) → Prop} (hN : Y.X.N[i]? = some x) (hρ : s.ρ[i]? = some (some (raw (.ref q)))) (hg : s.gs[g]? = some (q, lstc xs)) (he : EvC Y s e W) (hb : EvC Y s b Wi) {R : List α → Prop} {pn ps : Pos} (next : ∀ v, R v → Ws Y ⟨s.ρ, s.gs.set g (q, lstc v)⟩ sts D) (w : W fun v => Wi fun k => inR xs.length k ∧ R (xs.set (plc xs.length k) v))
    (hv : Vis Y.X.env.scope x := by first | exact .inl rfl | exact .inr (.inl rfl) | exact .inr (.inr rfl)) (hd : (x == ("__debug__" : Str)) = false := by decide) (hcd : (x == ("__classdict__" : Str)) = false := by decide)
    (hs : swapsWithSole [Expr.Subscript (.Name x pn) b ps] e pos.line Y.X.env = pure false := by rfl) (hw : swappedStores [Expr.Subscript (.Name x pn) b ps] e Y.X.env = pure none := by rfl) (h1 : (assignEach [Expr.Subscript (.Name x pn) b ps] Y.X.env).map (·.2) = [assign (Expr.Subscript (.Name x pn) b ps) Y.X.env] := by rfl)
    (ha : ∀ v, assign (.Subscript (.Name x pn) b ps) Y.X.env v = (do
      let ov ← holding [v] (eval (.Name x pn) Y.X.env)
      let iv ← holding [v, ov] (eval b Y.X.env)
      standAt ps
      holding [v, ov, iv] (setItem ov iv v)
      release [v, ov, iv] []) := by intro _; rfl) : Ws Y s (.Assign [.Subscript (.Name x pn) b ps] e pos :: sts) D := ws_cons fun F0 σ H F e0 S => by
  refine .of (ps_asg pe_we (pg_sub pe_we pe_we set_list ha) hs hw h1) ?_
  refine (he _ w F σ H F (.refl _) S).mono fun v H1 ⟨_, _, F1, e1, r1, S1, y, ey, es, w⟩ => ?_
  subst ey es
  refine (evp_v i hN hρ hv hd hcd F1 σ H1 F1 (.refl _) S1).mono fun u H2 ⟨F2, e2, r2, S2⟩ => ?_
  refine (hb _ w F2 σ H2 F2 (.refl _) S2).mono fun z H3 ⟨_, _, F3, e3, r3, S3, k, ek, es, w⟩ => ?_
  subst ek es
  obtain ⟨hF, oo, hoo, _, zs, eo, rv⟩ := S3.cell hg
  subst eo
  refine ⟨q, zs, k, plc xs.length k, r2, r3, hoo, by rw [show zs.length = xs.length from Paired.length rv]; exact (ixN_plc w.1).1, _, F3, ((e0.trans e1).trans e2).trans e3, ?_, next _ w.2⟩
  exact S3.write (c' := lstc (xs.set (plc xs.length k) y)) hg hoo (not_codeL rfl) rfl ⟨_, rfl, prd_set rv (Enc.mono (α := α) r1 (e2.trans e3)) _⟩
/-- d[k] = e, d an owned dict -/
theorem s_dput {κ ν : Type} [DecidableEq κ] [Kk κ] [Enc κ] [KkV κ] [Enc ν] {m : List (κ × ν)} (i g : Nat) (ok : YOk Y) {b : Expr} {W : (ν → Prop) → Prop} {Wk : (κ → Prop) → Prop} (hN : Y.X.N[i]? = some x) (hρ : s.ρ[i]? = some (some (raw (.ref q)))) (hg : s.gs[g]? = some (q, dctc m)) (he : EvC Y s e W) (hb : EvC Y s b Wk) {R : List (κ × ν) → Prop} {pn ps : Pos} (next : ∀ v, R v → Ws Y ⟨s.ρ, s.gs.set g (q, dctc v)⟩ sts D) (w : W fun v => Wk fun k => m.length < sizeLine ∧ R (dput m k v))
    (hv : Vis Y.X.env.scope x := by first | exact .inl rfl | exact .inr (.inl rfl) | exact .inr (.inr rfl)) (hd : (x == ("__debug__" : Str)) = false := by decide) (hcd : (x == ("__classdict__" : Str)) = false := by decide)
    (hs : swapsWith e (some (.Subscript (.Name x pn) b ps)) pos.line Y.X.env = pure false := by rfl) : Ws Y s (.Assign [.Subscript (.Name x pn) b ps] e pos :: sts) D := ws_cons fun F0 σ H F e0 S => by
  refine .of (ps_dput (by have := ok.room.units; omega) pe_we pe_we pe_we hs) ?_
  refine (he _ w F σ H F (.refl _) S).mono fun v H1 ⟨_, _, F1, e1, r1, S1, y, ey, es, w⟩ => ?_
  subst ey es
  refine (evp_v i hN hρ hv hd hcd F1 σ H1 F1 (.refl _) S1).mono fun u H2 ⟨F2, e2, r2, S2⟩ => ?_
  refine (hb _ w F2 σ H2 F2 (.refl _) S2).mono fun z H3 ⟨_, _, F3, e3, r3, S3, k, ek, es, w⟩ => ?_
  subst ek es
  obtain ⟨hF, oo, hoo, _, zs, eo, rv⟩ := S3.cell hg
  subst eo
  refine ⟨q, upd H3 q (.dK (putK zs (Kk.key k) v)), r2, .inl ⟨zs, Kk.key k, hoo, KkV.of r3, by rw [show zs.length = m.length from Paired.length rv]; exact w.1, rfl⟩, _, F3, ((e0.trans e1).trans e2).trans e3, ?_, next _ w.2⟩
  exact S3.write (c' := dctc (dput m k y)) hg hoo (not_codeD rfl) rfl ⟨_, rfl, kvs_put rv (Enc.mono (α := ν) r1 (e2.trans e3))⟩
end
/-! x op= e -/
section
variable {W : (Int → Prop) → Prop} {R : Int → Prop} {n : Int}
theorem s_augAdd (i : Nat) (ok : YOk Y) (hi : Y.X.N[i]? = some x) (hA : s.ρ[i]? = some (some (pu n))) (he : EvC Y s e W) (next : ∀ v, R v → Ws Y ⟨s.ρ.set i (some (pu v)), s.gs⟩ sts D) (w : W fun m => R (n + m)) (hx : Loc Y.X.env.scope x := by first | exact .inl rfl | exact .inr rfl) (hf : Y.X.fn x = true ∨ Y.X.env.scope.names.lookup x = some .local := by first | exact .inl rfl | exact .inr rfl) : Ws Y s (.AugAssign (.Name x p2) .Add e pos :: sts) D :=
  ws_cons (w1_add i ok hi hx hA hf (he.q w fun m r => ⟨m, rfl, next _ r⟩))
theorem s_augSub (i : Nat) (ok : YOk Y) (hi : Y.X.N[i]? = some x) (hA : s.ρ[i]? = some (some (pu n))) (he : EvC Y s e W) (next : ∀ v, R v → Ws Y ⟨s.ρ.set i (some (pu v)), s.gs⟩ sts D) (w : W fun m => R (n - m)) (hx : Loc Y.X.env.scope x := by first | exact .inl rfl | exact .inr rfl) (hf : Y.X.fn x = true ∨ Y.X.env.scope.names.lookup x = some .local := by first | exact .inl rfl | exact .inr rfl) : Ws Y s (.AugAssign (.Name x p2) .Sub e pos :: sts) D :=
  ws_cons (w1_sub i ok hi hx hA hf (he.q w fun m r => ⟨m, rfl, next _ r⟩))
theorem s_augMul (i : Nat) (ok : YOk Y) (hi : Y.X.N[i]? = some x) (hA : s.ρ[i]? = some (some (pu n))) (he : EvC Y s e W) (next : ∀ v, R v → Ws Y ⟨s.ρ.set i (some (pu v)), s.gs⟩ sts D) (w : W fun m => CMul n m ∧ R (n * m)) (hx : Loc Y.X.env.scope x := by first | exact .inl rfl | exact .inr rfl) (hf : Y.X.fn x = true ∨ Y.X.env.scope.names.lookup x = some .local := by first | exact .inl rfl | exact .inr rfl) : Ws Y s (.AugAssign (.Name x p2) .Mult e pos :: sts) D :=
  ws_cons (w1_mul i ok hi hx hA hf (he.q w fun m r => ⟨m, rfl, r.1, next _ r.2⟩))
theorem s_augFdiv (i : Nat) (ok : YOk Y) (hi : Y.X.N[i]? = some x) (hA : s.ρ[i]? = some (some (pu n))) (he : EvC Y s e W) (next : ∀ v, R v → Ws Y ⟨s.ρ.set i (some (pu v)), s.gs⟩ sts D) (w : W fun m => CDiv n m ∧ R (n / m)) (hx : Loc Y.X.env.scope x := by first | exact .inl rfl | exact .inr rfl) (hf : Y.X.fn x = true ∨ Y.X.env.scope.names.lookup x = some .local := by first | exact .inl rfl | exact .inr rfl) : Ws Y s (.AugAssign (.Name x p2) .FloorDiv e pos :: sts) D :=
  ws_cons (w1_fdiv i ok hi hx hA hf (he.q w fun m r => ⟨m, rfl, r.1, next _ r.2⟩))
end
theorem s_augS {W : (List Nat → Prop) → Prop} {R : List Nat → Prop} {n : List Nat} (i : Nat) (ok : YOk Y) (hi : Y.X.N[i]? = some x) (hA : s.ρ[i]? = some (some (pu n))) (he : EvC Y s e W) (next : ∀ v, R v → Ws Y ⟨s.ρ.set i (some (pu v)), s.gs⟩ sts D) (w : W fun m => n.length + m.length ≤ sizeLine ∧ R (n ++ m)) (hx : Loc Y.X.env.scope x := by first | exact .inl rfl | exact .inr rfl) (hf : Y.X.fn x = true ∨ Y.X.env.scope.names.lookup x = some .local := by first | exact .inl rfl | exact .inr rfl) : Ws Y s (.AugAssign (.Name x p2) .Add e pos :: sts) D :=
  ws_cons (w1_addS i ok hi hx hA hf (he.q w fun m r => ⟨m, rfl, r.1, next _ r.2⟩))
/-! raise, self.f = e, the ends -/
theorem s_raise {C : Addr} {m : Str} {j : Nat} {p3 : Pos} {G0 : Gs → Prop} {E : Ex → Prop} (n : Nat) (ex : Ex) (ye : YE Y G0 E) (T : ErrC Y.X.K Y.X.mg x C) (hg : Gl Y.X x) (hx : exK Y.X.K ex = ⟨C, none⟩) (hn : G0 (s.gs.drop n)) (w : E ex) (hdb : (x == ("__debug__" : Str)) = false := by decide) : Ws Y s (.Raise (some (.Call (.Name x p) [.Constant (.str m) j p2] [] p3)) none pos :: sts) D :=
  ws_cons (w1_raise ye.ok T hg (hx ▸ ye.ex ex s ⟨n, hn⟩ w) hdb)
/-- self.f = e, self owned -/
theorem s_fld {C : Addr} {fs : Flds} {q : Addr} {f : Str} {W : (α → Prop) → Prop} {R : α → Prop} {pn : Pos} (i g : Nat) (c : Cls Y.X.K C) (nn : NoAttr Y.X.K C f) (hN : Y.X.N[i]? = some x) (hρ : s.ρ[i]? = some (some (raw (.ref q)))) (hg : s.gs[g]? = some (q, insc C fs)) (he : EvC Y s e W) (next : ∀ v, R v → Ws Y ⟨s.ρ, s.gs.set g (q, insc C (fput f (pu v) fs))⟩ sts D) (w : W R) (hl : fs.length < 1000 := by decide)
    (hv : Vis Y.X.env.scope x := by first | exact .inl rfl | exact .inr (.inl rfl) | exact .inr (.inr rfl)) (hd : (x == ("__debug__" : Str)) = false := by decide) (hcd : (x == ("__classdict__" : Str)) = false := by decide) (hs : swapsWith e (some (.Attribute (.Name x pn) f p2)) pos.line Y.X.env = pure false := by rfl) : Ws Y s (.Assign [.Attribute (.Name x pn) f p2] e pos :: sts) D :=
  ws_cons (w1_fld g c nn hl (he.q w fun v r => ⟨hg, evp_v i hN hρ hv hd hcd, next v r⟩) hs)
/-- o.f, o an owned instance -/
theorem c_fldO {C : Addr} {fs : Flds} {q : Addr} {f : Str} {v : α} {pn : Pos} (i g : Nat) (c : Cls Y.X.K C) (nn : NoAttr Y.X.K C f) (hN : Y.X.N[i]? = some x) (hρ : s.ρ[i]? = some (some (raw (.ref q)))) (hg : s.gs[g]? = some (q, insc C fs)) (l : fs.lookup f = some (pu v)) (hb : attributeBase (.Name x pn) f Y.X.env (eval (.Name x pn) Y.X.env) = eval (.Name x pn) Y.X.env := by exact ab_ok rfl)
    (hv : Vis Y.X.env.scope x := by first | exact .inl rfl | exact .inr (.inl rfl) | exact .inr (.inr rfl)) (hd : (x == ("__debug__" : Str)) = false := by decide) (hcd : (x == ("__classdict__" : Str)) = false := by decide) : EvC Y s (.Attribute (.Name x pn) f pos) fun k => k v :=
  c_of (evp_fld c nn (evp_v i hN hρ hv hd hcd) (IA.own g hg) l hb)
theorem s_expr {W : (α → Prop) → Prop} {R : α → Prop} (he : EvC Y s e W) (next : ∀ v, R v → Ws Y s sts D) (w : W R) (hs : swapsWith e none pos.line Y.X.env = pure false := by rfl) : Ws Y s (.Expr e pos :: sts) D :=
  ws_cons (w1_expr (he.q w fun v r => next v r) hs)
theorem s_retN (q : D.rt (pu ()) s) : Ws Y s (.Return none pos :: sts) D := ws_cons (w1_retN q)
theorem s_break (q : D.bk s) : Ws Y s (.Break pos :: sts) D := ws_cons (w1_break q)
theorem s_continue (q : D.ct s) : Ws Y s (.Continue pos :: sts) D := ws_cons (w1_continue q)
theorem s_pass (next : Ws Y s sts D) : Ws Y s (.Pass pos :: sts) D := ws_cons (w1_pass next)
end
end Sp
set_option maxHeartbeats 4000000
/-! Sp: defs' promises from their walks. -/
namespace Sp
open PySem L2
open PySem.W (Datum DatumOrd SomeDatum)
/-- a body's place -/
structure BZ where
  cdv : Value
  A : Around
  outer : List Env
  s : Shared
  H : Hp
  F : Hp
  E : XK
  ex : Exc → DSt → Prop
section
variable {P : Program} {w : World} {K : Frag} {mg : Str → Option Value} {base : Heap} {fa : List He.Fa} {fn : List He.DefD} {tq : TQ}
abbrev yB (P : Program) (w : World) (K : Frag) (mg : Str → Option Value) (base : Heap) (tq : TQ) (k : Nat) (N : List Str) (d : He.DefD) (gs : Gs) (z : BZ) : DX :=
  bodyY P w K mg base (tbOf K tq) k N d.qual d.scope (He.fAd K d.at_) z.cdv z.A z.outer z.s z.H z.F gs z.E z.ex
/-- the ends of a def: cells that are left are G; what falls off the end gives r0 -/
def retE {ρ : Type} [Enc ρ] (G : Gs → Prop) (r0 : Option ρ) (Q : ρ → Prop) : DE :=
  { nx := fun s' => (∃ n, G (s'.gs.drop n)) ∧ ∃ r, r0 = some r ∧ Q r, rt := fun A s' => (∃ n, G (s'.gs.drop n)) ∧ ∃ r, A = pu r ∧ Q r }
/-- None is told by r0 -/
def NoneIs {ρ : Type} [Enc ρ] (r0 : Option ρ) : Prop := ∀ r, r0 = some r → ∀ K F v, (pu ()).rep K F v → (pu r).rep K F v
theorem noneNo {ρ : Type} [Enc ρ] : NoneIs (none : Option ρ) := fun r h => by cases h
theorem noneUnit : NoneIs (some ()) := fun r h K F v q => by cases r; exact q
theorem noneOpt {ρ : Type} [Enc ρ] : NoneIs (some (none : Option ρ)) := fun r h K F v q => by cases h; exact q
theorem toSp_imp {T : Tb} {n : Nat} {d d' : DSp} {vs : List V} {H : Hp} {Q : VK} {E : XK} (h : toSp K T n d vs H Q E) (k : ∀ As gs R X, d As gs R X → d' As gs R X) : toSp K T n d' vs H Q E := by
  obtain ⟨h1, As, gs, F, r, G, q⟩ := h
  exact ⟨h1, As, gs, F, r, G, k _ _ _ _ q⟩
/-- returned data may be told otherwise -/
def DAs (K : Frag) (d : DSp) : DSp := fun As gs R E => d As gs (fun A gs' => ∃ B : Pv, (∀ F v, A.rep K F v → B.rep K F v) ∧ R B gs') E
theorem fnOk_as {T : Tb} {k n : Nat} {f : Addr} {fd : FuncData} {ps : List Str} {d : DSp} (m : DMono d) (h : FnOk P w K mg base (L2.CX P w) k f fd ps (toSp K T n d)) : FnOk P w K mg base (L2.CX P w) k f fd ps (toSp K T n (DAs K d)) :=
  h.imp fun vs H Q E ⟨h1, As, gs, F, r, G, q⟩ => ⟨h1, As, gs, F, r, G, m _ _ _ _ _ _ (fun A gs' ⟨B, hb, q⟩ v H' F' r' G' st => q v H' F' (hb _ _ r') G' st) (fun e gs' q => q) q⟩
section
variable {τ ρ : Type} [Ags τ] [Enc ρ]
theorem fn_F {k : Nat} {N ps : List Str} {d : He.DefD} {fd : FuncData} (r0 : Option ρ) (L : LK w K mg base fa fn tq) (F1 : Fd K d ps fd) (S : FnScope N ps d.scope) (W : τ → (ρ → Prop) → (Ex → Prop) → Prop) (n0 : NoneIs r0) (hl : ∀ t : τ, (Ags.pvs t).length = ps.length)
    (body : ∀ (z : BZ) (t : τ) (Q : ρ → Prop) (E : Ex → Prop), W t Q E → YE (yB P w K mg base tq k N d [] z) (fun gs => gs = []) E → (∀ q, (d.at_, q) ∈ tq → Tbl (yB P w K mg base tq k N d [] z).X (tbOf K tq) q) →
      Ws (yB P w K mg base tq k N d [] z) ⟨(Ags.pvs t).map some ++ List.replicate (N.length - ps.length) none, []⟩ d.body (retE (fun gs => gs = []) r0 Q)) :
    FnOk P w K mg base (L2.CX P w) (k + 1) (He.fAd K d.at_) fd ps (toSp K (tbOf K tq) ps.length (spF K W)) := by
  have h := fnOk_as (d := fun As gs R E => ∃ t, As = Ags.pvs t ∧ gs = [] ∧ ∃ R0 E0, W t R0 E0 ∧ (∀ r, R0 r → R (pu r) []) ∧ (∀ r, r0 = some r → R0 r → R (pu ()) []) ∧ ∀ e, E0 e → E (exK K e) [])
    (fun As gs R R' E E' h1 h2 ⟨t, e1, e2, R0, E0, hw, hr, hr', he⟩ => ⟨t, e1, e2, R0, E0, hw, fun r q => h1 _ _ (hr r q), fun r e q => h1 _ _ (hr' r e q), fun e q => h2 _ _ (he e q)⟩)
    (df_ok L F1 S _ (fun As gs R E ⟨t, e1, _⟩ => by rw [e1]; exact hl t) fun cdv A outer s H F gs E ex As R X hd hex tbl ok => by
      obtain ⟨t, rfl, rfl, R0, E0, hw, hr, hr', hE⟩ := hd
      refine (body ⟨cdv, A, outer, s, H, F, E, ex⟩ t R0 E0 hw ⟨ok, fun e s' ⟨n, hn⟩ he => hex _ _ ⟨n, by rw [hn]; exact hE e he⟩⟩ tbl).mono (fun s' ⟨⟨n, hn⟩, r, e, q⟩ => ⟨n, by rw [hn]; exact hr' r e q⟩) (fun A s' ⟨⟨n, hn⟩, r, e, q⟩ => ⟨n, by rw [hn, e]; exact hr r q⟩) (fun _ h => h) (fun _ h => h))
  exact h.imp fun vs H Q E q => toSp_imp q fun As gs R X ⟨t, e1, e2, R0, E0, hw, hr, he⟩ => ⟨t, e1, e2, R0, E0, hw, fun r q => ⟨_, fun _ _ h => h, hr r q⟩, fun r e q => ⟨_, n0 r e K, hr r q⟩, he⟩
theorem fn_D {k : Nat} {N ps : List Str} {d : He.DefD} {fd : FuncData} (r0 : Option ρ) (L : LK w K mg base fa fn tq) (F1 : Fd K d ps fd) (S : FnScope N ps d.scope) (W : τ → (ρ → Prop) → (Ex → Prop) → Prop) (n0 : NoneIs r0) (hl : ∀ t : τ, (Ags.pvs t).length + 1 = ps.length)
    (body : ∀ (q : Addr) (z : BZ) (t : τ) (Q : ρ → Prop), W t Q NoE → YE (yB P w K mg base tq k N d [(q, dicec)] z) (fun gs => gs = [(q, dicec)]) NoE → (∀ q', (d.at_, q') ∈ tq → Tbl (yB P w K mg base tq k N d [(q, dicec)] z).X (tbOf K tq) q') →
      Ws (yB P w K mg base tq k N d [(q, dicec)] z) ⟨(raw (.ref q) :: Ags.pvs t).map some ++ List.replicate (N.length - ps.length) none, [(q, dicec)]⟩ d.body (retE (fun gs => gs = [(q, dicec)]) r0 Q)) :
    FnOk P w K mg base (L2.CX P w) (k + 1) (He.fAd K d.at_) fd ps (toSp K (tbOf K tq) ps.length (spD W)) := by
  have h := fnOk_as (d := fun As gs R E => ∃ q t, As = raw (.ref q) :: Ags.pvs t ∧ gs = [(q, dicec)] ∧ ∃ R0, W t R0 NoE ∧ (∀ r, R0 r → R (pu r) [(q, dicec)]) ∧ (∀ r, r0 = some r → R0 r → R (pu ()) [(q, dicec)]))
    (fun As gs R R' E E' h1 h2 ⟨q, t, e1, e2, R0, hw, hr, hr'⟩ => ⟨q, t, e1, e2, R0, hw, fun r q => h1 _ _ (hr r q), fun r e q => h1 _ _ (hr' r e q)⟩)
    (df_ok L F1 S _ (fun As gs R E ⟨q, t, e1, _⟩ => by rw [e1]; exact hl t) fun cdv A outer s H F gs E ex As R X hd hex tbl ok => by
      obtain ⟨q, t, rfl, rfl, R0, hw, hr, hr'⟩ := hd
      refine (body q ⟨cdv, A, outer, s, H, F, E, ex⟩ t R0 hw ⟨ok, fun e s' _ he => he.elim⟩ tbl).mono (fun s' ⟨⟨n, hn⟩, r, e, q⟩ => ⟨n, by rw [hn]; exact hr' r e q⟩) (fun A s' ⟨⟨n, hn⟩, r, e, q⟩ => ⟨n, by rw [hn, e]; exact hr r q⟩) (fun _ h => h) (fun _ h => h))
  exact h.imp fun vs H Q E q => toSp_imp q fun As gs R X ⟨q, t, e1, e2, R0, hw, hr⟩ => ⟨q, t, e1, e2, R0, hw, fun r q => ⟨_, fun _ _ h => h, hr r q⟩, fun r e q => ⟨_, n0 r e K, hr r q⟩⟩
/-- an __init__'s ends -/
def retI (K : Frag) {ρ : Type} [o : Ob ρ] (q : Addr) (Q : ρ → Prop) : DE :=
  { nx := fun s' => ∃ r, (∃ n, s'.gs.drop n = [(q, insc (He.ga K o.cls) (o.flds r))]) ∧ Q r, rt := fun A s' => A = pu () ∧ ∃ r, (∃ n, s'.gs.drop n = [(q, insc (He.ga K o.cls) (o.flds r))]) ∧ Q r }
theorem fn_I {γ : Type} [og : Ob γ] {k : Nat} {N ps : List Str} {d : He.DefD} {fd : FuncData} (L : LK w K mg base fa fn tq) (F1 : Fd K d ps fd) (S : FnScope N ps d.scope) (W : τ → (γ → Prop) → (Ex → Prop) → Prop) (hl : ∀ t : τ, (Ags.pvs t).length + 1 = ps.length)
    (body : ∀ (q : Addr) (z : BZ) (t : τ) (Q : γ → Prop) (E : Ex → Prop), W t Q E → YE (yB P w K mg base tq k N d [(q, insc (He.ga K (Ob.cls γ)) [])] z) (fun gs => ∃ fs, gs = [(q, insc (He.ga K (Ob.cls γ)) fs)]) E → (∀ q', (d.at_, q') ∈ tq → Tbl (yB P w K mg base tq k N d [(q, insc (He.ga K (Ob.cls γ)) [])] z).X (tbOf K tq) q') →
      Ws (yB P w K mg base tq k N d [(q, insc (He.ga K (Ob.cls γ)) [])] z) ⟨(raw (.ref q) :: Ags.pvs t).map some ++ List.replicate (N.length - ps.length) none, [(q, insc (He.ga K (Ob.cls γ)) [])]⟩ d.body (retI K q Q)) :
    FnOk P w K mg base (L2.CX P w) (k + 1) (He.fAd K d.at_) fd ps (toSp K (tbOf K tq) ps.length (spI K W)) :=
  df_ok L F1 S _ (fun As gs R E ⟨q, t, e1, _⟩ => by rw [e1]; exact hl t) fun cdv A outer s H F gs E ex As R X hd hex tbl ok => by
    obtain ⟨q, t, rfl, rfl, R0, E0, hw, hr, hE⟩ := hd
    refine (body q ⟨cdv, A, outer, s, H, F, E, ex⟩ t R0 E0 hw ⟨ok, fun e s' ⟨n, fs, hn⟩ he => hex _ _ ⟨n, by rw [hn]; exact hE e he fs⟩⟩ tbl).mono (fun s' ⟨r, ⟨n, hn⟩, q⟩ => ⟨n, by rw [hn]; exact hr r q⟩) (fun A s' ⟨ea, r, ⟨n, hn⟩, q⟩ => ⟨n, by rw [hn, ea]; exact hr r q⟩) (fun _ h => h) (fun _ h => h)
end
/-! the dice -/
theorem dice_open {T : Tb} {q : Addr} {H F : Hp} (G : Stg K T [(q, dicec)] H F) : ∃ i j k : Int, Stg K T [(q, lstc [i, j, k])] H F := by
  obtain ⟨h1, o, h2, h3, i, j, k, h4⟩ := G.own (q, dicec) List.mem_cons_self
  refine ⟨i, j, k, G.ext, G.ntb, fun p hp => ?_, G.nd, G.tb⟩
  rw [List.mem_singleton.mp hp]
  exact ⟨h1, o, h2, h3, _, h4, .cons rfl (.cons rfl (.cons rfl .nil))⟩
theorem dice_close {T : Tb} {q : Addr} {H F : Hp} {i j k : Int} (G : Stg K T [(q, lstc [i, j, k])] H F) : Stg K T [(q, dicec)] H F := by
  obtain ⟨h1, o, h2, h3, vs, h4, h5⟩ := G.own (q, lstc [i, j, k]) List.mem_cons_self
  refine ⟨G.ext, G.ntb, fun p hp => ?_, G.nd, G.tb⟩
  rw [List.mem_singleton.mp hp]
  refine ⟨h1, o, h2, h3, i, j, k, ?_⟩
  rw [h4, vs_ints h5]
  rfl
def rollW (t : Int × Unit) (Q : Int → Prop) (_ : Ex → Prop) : Prop := 0 < t.1 ∧ t.1 < 1073741824 ∧ ∀ r : Int, 0 ≤ r → r < t.1 → Q r
/-- rolls with the dice told, as a promise with the dice untold -/
def dRollA : DSp := fun As gs R E => ∃ (q : Addr) (i j k many : Int), As = [raw (.ref q), pu many] ∧ gs = [(q, lstc [i, j, k])] ∧ 0 < many ∧ many < 1073741824 ∧ ∀ r i' j' k' : Int, 0 ≤ r → r < many → R (pu r) [(q, lstc [i', j', k'])]
theorem roll_D {k n : Nat} {f : Addr} {fd : FuncData} {ps : List Str} {T : Tb} (h : FnOk P w K mg base (L2.CX P w) k f fd ps (toSp K T n dRollA)) : FnOk P w K mg base (L2.CX P w) k f fd ps (toSp K T n (spD rollW)) :=
  h.imp fun vs H Q E ⟨h1, As, gs, F, r, G, q, t, e1, e2, R0, ⟨hw1, hw2, hw3⟩, hr⟩ => by
    subst e1 e2
    obtain ⟨i, j, k, G'⟩ := dice_open G
    exact ⟨h1, _, _, F, r, G', q, i, j, k, t.1, rfl, rfl, hw1, hw2, fun r i' j' k' l1 l2 v H' F' rr G2 st => hr r (hw3 r l1 l2) v H' F' rr (dice_close G2) st⟩
/-- the dice made -/
def dDiceA : DSp := fun As gs R E => ∃ c : Int, As = [pu c] ∧ gs = [] ∧ ∀ q : Addr, R (raw (.ref q)) [(q, dicec)]
def dDice0 : DSp := fun As gs R E => ∃ c : Int, As = [pu c] ∧ gs = [] ∧ ∀ (i j k : Int) (q : Addr), R (raw (.ref q)) [(q, lstc [i, j, k])]
theorem dice_D {k n : Nat} {f : Addr} {fd : FuncData} {ps : List Str} {T : Tb} (h : FnOk P w K mg base (L2.CX P w) k f fd ps (toSp K T n dDice0)) : FnOk P w K mg base (L2.CX P w) k f fd ps (toSp K T n dDiceA) :=
  h.imp fun vs H Q E ⟨h1, As, gs, F, r, G, c, e1, e2, hr⟩ => ⟨h1, _, _, F, r, G, c, e1, e2, fun i j k q v H' F' rr G2 st => hr q v H' F' rr (dice_close G2) st⟩
theorem mDiceA : DMono dDiceA := fun As gs R R' E E' h1 h2 ⟨c, e, e2, k⟩ => ⟨c, e, e2, fun q => h1 _ _ (k q)⟩
/-- the rounds: one -/
def dRoundsA : DSp := fun As gs R E => ∃ ns : List Int, As = [pu ns, pu (1 : Int)] ∧ gs = [] ∧ ∀ q : Addr, R (pu [Rf.mk q]) [(q, dicec)]
theorem mRoundsA : DMono dRoundsA := fun As gs R R' E E' h1 h2 ⟨c, e, e2, k⟩ => ⟨c, e, e2, fun q => h1 _ _ (k q)⟩
/-- a drawn word -/
def wordW (t : Txt × Int × Int × Unit) (Q : Txt → Prop) (_ : Ex → Prop) : Prop :=
  t.1 ≠ [] ∧ t.1.length ≤ 1000 ∧ 0 ≤ t.2.1 ∧ t.2.1 ≤ t.2.2.1 ∧ t.2.2.1 ≤ 1000 ∧ ∀ x : Txt, (∀ c ∈ x, c ∈ t.1) → t.2.1 ≤ (x.length : Int) → (x.length : Int) ≤ t.2.2.1 → Q x
end
end Sp
set_option maxHeartbeats 4000000
/-! Sp: joins, constants of the module, chains of comparisons, the rounds. -/
namespace Sp
open PySem L2
open PySem.W (Datum DatumOrd SomeDatum)
section
variable {Y : DX} {s : DSt} {e a b c o tg iter elt : Expr} {es ifs : List Expr} {pos p p2 apos : Pos} {α β γ : Type} [Enc α] [Enc β] [Enc γ] {D : DE} {sts : List Stmt} {x y : Str}
/-- module constants -/
theorem c_gs {z : Str} (hg : Gl Y.X x) (hm : ∃ t, Y.X.mg x = some (.str z t)) (hd : (x == ("__debug__" : Str)) = false := by decide) : EvC Y s (.Name x pos) fun k => k (tx z) := by
  obtain ⟨t, hm⟩ := hm
  exact c_of (evp_glob (v := .str z) hg hm ⟨t, rfl⟩ (fun F => by show V.str z = V.str (toStr (tx z)); rw [toStr_tx]) hd)
theorem c_gi {z : Int} (hg : Gl Y.X x) (hm : ∃ t, Y.X.mg x = some (.int z t)) (hd : (x == ("__debug__" : Str)) = false := by decide) : EvC Y s (.Name x pos) fun k => k z := by
  obtain ⟨t, hm⟩ := hm
  exact c_of (evp_glob (v := .int z) hg hm ⟨t, rfl⟩ (fun F => rfl) hd)
/-! chains -/
section
variable {o1 o2 : CmpOp} {r1 r2 : Int → Int → Bool} {Wa Wb Wc : (Int → Prop) → Prop}
theorem t_chain (h1 : OpR Y.X (compareOp o1) (fun x y H Q => ∃ i j, x = .int i ∧ y = .int j ∧ Q (.bl (r1 i j)) H)) (h2 : OpR Y.X (compareOp o2) (fun x y H Q => ∃ i j, x = .int i ∧ y = .int j ∧ Q (.bl (r2 i j)) H)) (ha : EvC Y s a Wa) (hb : EvC Y s b Wb) {v : Int} (hc : EvC Y s c Wc) (hm : lastMarks [o1, o2] [b, c] = false := by with_unfolding_all rfl) :
    EvT Y s (.Compare a [o1, o2] [b, c] pos) fun k => Wa fun i => Wb fun j => (r1 i j = true → Wc fun z => z = v) ∧ k (r1 i j && r2 j v) := fun k w F0 σ H F e0 S => by
  refine .of (pt_chain h1 h2 pe_we pe_we pe_we hm) ?_
  refine (ha _ w F0 σ H F e0 S).mono fun v H1 ⟨_, _, F1, e1, r1', S1, i, ei, es, w⟩ => ?_
  subst ei es
  refine (hb _ w F1 σ H1 F1 (.refl _) S1).mono fun u H2 ⟨_, _, F2, e2, r2', S2, j, ej, es, w⟩ => ?_
  subst ej es
  refine ⟨i, j, r1', r2', r1 i j, rfl, ?_⟩
  cases hr : r1 i j with
  | true =>
    rw [if_pos rfl]
    refine (hc _ (w.1 hr) F2 σ H2 F2 (.refl _) S2).mono fun z H3 ⟨_, _, F3, e3, r3, S3, m, em, es, ez⟩ => ?_
    subst em es ez
    refine ⟨j, m, r2', r3, r2 j m, rfl, _, F3, (e1.trans e2).trans e3, S3, rfl, ?_⟩
    have := w.2
    rw [hr] at this
    simpa using this
  | false =>
    rw [if_neg Bool.false_ne_true]
    refine ⟨false, rfl, _, F2, e1.trans e2, S2, rfl, ?_⟩
    have := w.2
    rw [hr] at this
    simpa using this
theorem c_chain (h1 : OpR Y.X (compareOp o1) (fun x y H Q => ∃ i j, x = .int i ∧ y = .int j ∧ Q (.bl (r1 i j)) H)) (h2 : OpR Y.X (compareOp o2) (fun x y H Q => ∃ i j, x = .int i ∧ y = .int j ∧ Q (.bl (r2 i j)) H)) (ha : EvC Y s a Wa) (hb : EvC Y s b Wb) {v : Int} (hc : EvC Y s c Wc) (hm : lastMarks [o1, o2] [b, c] = false := by with_unfolding_all rfl) :
    EvC Y s (.Compare a [o1, o2] [b, c] pos) fun k => Wa fun i => Wb fun j => (r1 i j = true → Wc fun z => z = v) ∧ k (r1 i j && r2 j v) := fun k w F0 σ H F e0 S => by
  refine .of (pe_chain h1 h2 pe_we pe_we pe_we hm) ?_
  refine (ha _ w F0 σ H F e0 S).mono fun v H1 ⟨_, _, F1, e1, r1', S1, i, ei, es, w⟩ => ?_
  subst ei es
  refine (hb _ w F1 σ H1 F1 (.refl _) S1).mono fun u H2 ⟨_, _, F2, e2, r2', S2, j, ej, es, w⟩ => ?_
  subst ej es
  refine ⟨i, j, r1', r2', r1 i j, rfl, ?_⟩
  cases hr : r1 i j with
  | true =>
    rw [if_pos rfl]
    refine (hc _ (w.1 hr) F2 σ H2 F2 (.refl _) S2).mono fun z H3 ⟨_, _, F3, e3, r3, S3, m, em, es, ez⟩ => ?_
    subst em es ez
    refine ⟨j, m, r2', r3, pu (r2 j m), _, F3, (e1.trans e2).trans e3, rfl, S3, _, rfl, rfl, ?_⟩
    have := w.2
    rw [hr] at this
    simpa using this
  | false =>
    rw [if_neg Bool.false_ne_true]
    refine ⟨pu false, _, F2, e1.trans e2, rfl, S2, _, rfl, rfl, ?_⟩
    have := w.2
    rw [hr] at this
    simpa using this
end
/-! a join behind an if -/
theorem s_ifJ {Z J : Type} {A1 A2 : List Stmt} {Rest : Z → Prop} {B C : (Z → Prop) → Prop} {Wc : (Bool → Prop) → Prop} (stf : Z → J → DSt) (hc : EvT Y s c Wc) (h1 : ∀ nx : Z → Prop, B nx → Ws Y s A1 { D with nx := fun s' => ∃ z j, s' = stf z j ∧ nx z }) (h2 : ∀ nx : Z → Prop, C nx → Ws Y s A2 { D with nx := fun s' => ∃ z j, s' = stf z j ∧ nx z })
    (next : ∀ z j, Rest z → Ws Y (stf z j) sts D) (w : Wc fun t => (t = true → B Rest) ∧ (t = false → C Rest)) : Ws Y s (.If c A1 A2 pos :: sts) D :=
  ws_cons (w1_if (hc.q w fun t r => by
    cases t with
    | true => rw [if_pos rfl]; exact (h1 _ (r.1 rfl)).mono (fun s' ⟨z, j, e, q⟩ => by subst e; exact next z j q) (fun _ _ h => h) (fun _ h => h) (fun _ h => h)
    | false => rw [if_neg Bool.false_ne_true]; exact (h2 _ (r.2 rfl)).mono (fun s' ⟨z, j, e, q⟩ => by subst e; exact next z j q) (fun _ _ h => h) (fun _ h => h) (fun _ h => h)))
theorem ws_dropN {n : Nat} (h : Ws Y ⟨s.ρ, s.gs.drop n⟩ sts D) : Ws Y s sts D := fun F0 σ H F e0 S => h F0 σ H F e0 (S.dropN n)
theorem ws_frL {α : Type} [Enc α] {xs : List α} {q : Addr} (i j : Nat) (hi : s.ρ[i]? = some (some (raw (.ref q)))) (hj : s.gs[j]? = some (q, lstc xs)) (h : Ws Y ⟨s.ρ.set i (some (pu xs)), s.gs.eraseIdx j⟩ sts D) : Ws Y s sts D := ws_freezeL i j hi hj h
theorem ws_frD {κ ν : Type} [DecidableEq κ] [Kk κ] [Enc κ] [KkV κ] [Enc ν] {m : List (κ × ν)} {q : Addr} (i j : Nat) (hi : s.ρ[i]? = some (some (raw (.ref q)))) (hj : s.gs[j]? = some (q, dctc m)) (h : Ws Y ⟨s.ρ.set i (some (pu (Dct.mk m))), s.gs.eraseIdx j⟩ sts D) : Ws Y s sts D := ws_freezeD i j hi hj h
/-- the one round of a law -/
theorem s_rounds {j : Nat} {ns : List Int} {ps : List Str} {bd : List Stmt} {py pp pc : Pos} {k1 : Nat} {R : Prop} (i i0 : Nat) (ok : YOk Y) (G : Df Y.X.prog Y.X.w Y.X.K Y.X.mg Y.X.base Y.T j "_law_rounds" ps dRoundsA) (hj : j ≤ Y.k) (hl : ps.length = 2) (hg : Gl Y.X "_law_rounds") (h0 : s.gs = []) (hx : TgOk Y tg (gName i) [i] (fun (v : Rf) ρ => ρ.set i (some (pu v)))) (ha : EvC Y s a fun k => k ns)
    (body : ∀ q, R → Ws Y ⟨s.ρ.set i (some (raw (.ref q))), [(q, dicec)]⟩ bd { D with nx := fun s' => Ws Y s' sts D, ct := fun s' => Ws Y s' sts D, bk := fun _ => False }) (w : R)
    (he : starEach [a, .Constant (.int 1) k1 pc] Y.X.env = (false, eval a Y.X.env) :: starEach [.Constant (.int 1) k1 pc] Y.X.env := by exact star_c rfl) (he2 : starEach [.Constant (.int 1) k1 pc] Y.X.env = (false, eval (.Constant (.int 1) k1 pc) Y.X.env) :: starEach [] Y.X.env := by exact star_c rfl) (hpl : (backTo pos (starEach [.Constant (.int 1) k1 pc] Y.X.env)).any (·.1) = false := by rfl) (hs : ∀ x, foldedSetIterable (.Call (.Name "_law_rounds" pp) [a, .Constant (.int 1) k1 pc] [] pos) Y.X.env x = pure x := by intro _; rfl) :
    Ws Y s (.For tg (.Call (.Name "_law_rounds" pp) [a, .Constant (.int 1) k1 pc] [] pos) bd [] py :: sts) D :=
  ws_cons (w1_forE ok (it_listE (α := Rf) (G := fun items s' => ∃ q, items = [Rf.mk q] ∧ s' = ⟨s.ρ, [(q, dicec)]⟩) (ev_call G ok hj hg (evs_cons (ha.q (k := fun v => v = ns) rfl fun v ev => evs_cons (.of evp_int (evs_nil (by
    subst ev
    refine ⟨hl.symm, [], s.gs, .refl _, _, rfl, rfl, fun q => ⟨[Rf.mk q], rfl, q, rfl, ?_⟩⟩
    rw [h0]
    rfl))) he2) he) (by decide) he hpl)) hx (fun items s' ⟨q, e1, e2⟩ => by
      subst e1 e2
      refine ⟨fun n s' => (n = 0 ∧ s' = ⟨s.ρ, [(q, dicec)]⟩) ∨ (n = 1 ∧ Ws Y s' sts D), .inl ⟨rfl, rfl⟩, fun i x s2 hx h => ?_, fun s2 h => ?_⟩
      · rcases h with ⟨rfl, rfl⟩ | ⟨rfl, _⟩
        · cases hx
          exact (body q w).mono (fun s' h => .inr ⟨rfl, h⟩) (fun _ _ h => h) (fun _ h => h.elim) (fun s' h => .inr ⟨rfl, h⟩)
        · cases hx
      · rcases h with ⟨h, _⟩ | ⟨_, h⟩
        · cases h
        · exact h) hs)
end
end Sp
set_option maxHeartbeats 4000000
/-! Sp: generators with no test; lists of dicts' parts; sums' sides. -/
namespace Sp
open PySem L2
open PySem.W (Datum DatumOrd SomeDatum)
/-- an if whose ways meet again -/
def ifJ {Z : Type} (b : Bool) (B C : (Z → Prop) → Prop) (rest : Z → Prop) : Prop := (b = true → B rest) ∧ (b = false → C rest)
abbrev TgD.t {α β γ : Type} (a : TgD α) (b : TgD β) (c : TgD γ) : TgD (T3 α β γ) := ⟨fun K => gTup K 3 (gCons (a.g K) (gCons (b.g K) (gCons (c.g K) gNil))), a.ws ++ (b.ws ++ c.ws), fun v ρ => c.f v.c (b.f v.b (a.f v.a ρ))⟩
def sumL {α β : Type} [Inhabited α] : α ⊕ β → α
  | .inl a => a
  | .inr _ => default
def optG {α : Type} [Inhabited α] (x : Option α) : α := x.getD default
section
variable {Y : DX} {s : DSt} {e a b c o tg iter elt body : Expr} {es ifs : List Expr} {pos p apos cpos lpos gpos : Pos} {α β : Type} [Enc α] [Enc β] {G0 : Gs → Prop} {E : Ex → Prop} {k : Nat} {scope : Scope}
theorem c_sumL [Inhabited α] {W : (α ⊕ β → Prop) → Prop} (h : EvC Y s e W) : EvC Y s e fun k => W fun x => x.isLeft = true ∧ k (sumL x) := fun k w => (h _ w).mono fun A s' ⟨x, ea, es, w1, w2⟩ => by
  cases x with
  | inl x => exact ⟨x, by rw [ea]; rfl, es, w2⟩
  | inr x => cases w1
theorem c_optG [Inhabited α] {W : (Option α → Prop) → Prop} (h : EvC Y s e W) : EvC Y s e fun k => W fun x => x.isSome = true ∧ k (optG x) := fun k w => (h _ w).mono fun A s' ⟨x, ea, es, w1, w2⟩ => by
  cases x with
  | some x => exact ⟨x, by rw [ea]; rfl, es, w2⟩
  | none => cases w1
section
variable {W : (List β → Prop) → Prop}
theorem c_any0 {We : β → (Bool → Prop) → Prop} (t : TgD β) (k : Nat) (vs : List Nat) (items : List β) (h : β → Bool) (ok : YOk Y) (B : Bis Y.X.mg) (hg : Gl Y.X "any") (hk : k + 2 ≤ Y.k) (hi : ItC Y s tg iter W) (G : GenOk Y.X.N Y.X.env.scope scope vs) (tb : Tbl Y.X Y.T (Y.X.env.qual ++ "<genexpr>")) (tg0 : ∀ z, TgOk (genY Y k scope z) tg (t.g Y.X.K) t.ws t.f)
    (he : ∀ z, YOk (genY Y k scope z) → ∀ x, EvC (genY Y k scope z) ⟨t.f x (wipeR s.ρ vs), s.gs⟩ elt (We x)) (sub : ∀ j ∈ t.ws, j ∈ vs := by decide) (hs : ∀ x, genFold iter Y.X.env x = pure x := by intro _; rfl)
    (hst : starEach [.GeneratorExp elt [⟨tg, iter, [], 0⟩] scope gpos] Y.X.env = (false, eval (.GeneratorExp elt [⟨tg, iter, [], 0⟩] scope gpos) Y.X.env) :: starEach [] Y.X.env := by exact star_c rfl) :
    EvC Y s (.Call (.Name "any" p) [.GeneratorExp elt [⟨tg, iter, [], 0⟩] scope gpos] [] pos) fun kk => (W fun is => is = items) ∧ (∀ x ∈ items, We x fun y => y = h x) ∧ kk (items.any h) := fun kk ⟨w1, w3, w4⟩ =>
  (c_any (Wc := fun _ k => k true) t k vs items (fun _ => true) h ok B hg hk hi G tb tg0 (fun _ _ _ => ts_nil) he sub hs hst) kk ⟨w1, fun _ _ => rfl, fun x hx _ => w3 x hx, by rw [List.filter_eq_self.mpr (fun _ _ => rfl)]; exact w4⟩
theorem c_all0 {We : β → (Bool → Prop) → Prop} (t : TgD β) (k : Nat) (vs : List Nat) (items : List β) (h : β → Bool) (ok : YOk Y) (B : Bis Y.X.mg) (hg : Gl Y.X "all") (hk : k + 2 ≤ Y.k) (hi : ItC Y s tg iter W) (G : GenOk Y.X.N Y.X.env.scope scope vs) (tb : Tbl Y.X Y.T (Y.X.env.qual ++ "<genexpr>")) (tg0 : ∀ z, TgOk (genY Y k scope z) tg (t.g Y.X.K) t.ws t.f)
    (he : ∀ z, YOk (genY Y k scope z) → ∀ x, EvC (genY Y k scope z) ⟨t.f x (wipeR s.ρ vs), s.gs⟩ elt (We x)) (sub : ∀ j ∈ t.ws, j ∈ vs := by decide) (hs : ∀ x, genFold iter Y.X.env x = pure x := by intro _; rfl)
    (hst : starEach [.GeneratorExp elt [⟨tg, iter, [], 0⟩] scope gpos] Y.X.env = (false, eval (.GeneratorExp elt [⟨tg, iter, [], 0⟩] scope gpos) Y.X.env) :: starEach [] Y.X.env := by exact star_c rfl) :
    EvC Y s (.Call (.Name "all" p) [.GeneratorExp elt [⟨tg, iter, [], 0⟩] scope gpos] [] pos) fun kk => (W fun is => is = items) ∧ (∀ x ∈ items, We x fun y => y = h x) ∧ kk (items.all h) := fun kk ⟨w1, w3, w4⟩ =>
  (c_all (Wc := fun _ k => k true) t k vs items (fun _ => true) h ok B hg hk hi G tb tg0 (fun _ _ _ => ts_nil) he sub hs hst) kk ⟨w1, fun _ _ => rfl, fun x hx _ => w3 x hx, by rw [List.filter_eq_self.mpr (fun _ _ => rfl)]; exact w4⟩
theorem c_sumG0 {We : β → (Int → Prop) → Prop} (t : TgD β) (k : Nat) (vs : List Nat) (items : List β) (h : β → Int) (ok : YOk Y) (B : Bis Y.X.mg) (hg : Gl Y.X "sum") (hk : k + 2 ≤ Y.k) (hi : ItC Y s tg iter W) (G : GenOk Y.X.N Y.X.env.scope scope vs) (tb : Tbl Y.X Y.T (Y.X.env.qual ++ "<genexpr>")) (tg0 : ∀ z, TgOk (genY Y k scope z) tg (t.g Y.X.K) t.ws t.f)
    (he : ∀ z, YOk (genY Y k scope z) → ∀ x, EvC (genY Y k scope z) ⟨t.f x (wipeR s.ρ vs), s.gs⟩ elt (We x)) (sub : ∀ j ∈ t.ws, j ∈ vs := by decide) (hs : ∀ x, genFold iter Y.X.env x = pure x := by intro _; rfl)
    (hst : starEach [.GeneratorExp elt [⟨tg, iter, [], 0⟩] scope gpos] Y.X.env = (false, eval (.GeneratorExp elt [⟨tg, iter, [], 0⟩] scope gpos) Y.X.env) :: starEach [] Y.X.env := by exact star_c rfl) :
    EvC Y s (.Call (.Name "sum" p) [.GeneratorExp elt [⟨tg, iter, [], 0⟩] scope gpos] [] pos) fun kk => (W fun is => is = items) ∧ (∀ x ∈ items, We x fun y => y = h x) ∧ SumOk (items.map h) ∧ kk (items.map h).sum := fun kk ⟨w1, w3, w5, w4⟩ =>
  (c_sumG (Wc := fun _ k => k true) t k vs items (fun _ => true) h ok B hg hk hi G tb tg0 (fun _ _ _ => ts_nil) he sub hs hst) kk ⟨w1, fun _ _ => rfl, fun x hx _ => w3 x hx, by rw [List.filter_eq_self.mpr (fun _ _ => rfl)]; exact ⟨w5, w4⟩⟩
end
/-- a comprehension's list, owned -/
theorem n_L {t : TgD β} {own : List (Str × Nat)} {W : (List α → Prop) → Prop} (ok : YOk Y) (h : LcW Y s scope own t tg iter elt ifs W) : EvN Y s (.ListComp elt [⟨tg, iter, ifs, 0⟩] scope pos) W := fun k w F0 σ H F e0 S => by
  obtain ⟨G, ⟨wi, hp, hw⟩, LL⟩ := h.run k w
  have P := pe_lc (pos := pos) (tt := fun σ H Q => ∀ z, WTs (blkX Y.X scope z) ifs σ H Q) (te := fun σ H Q => ∀ z, WE (blkX Y.X scope z) elt σ H Q) ok.calm ok.nd hp h.bk (fun s H C cl fp => (h.tg0 ⟨s, H, C, cl, fp⟩).1) (fun s H C cl fp => ⟨fun pins s' σ H' Q I h => h ⟨s, H, C, cl, fp⟩ pins s' I⟩) (fun s H C cl fp => ⟨fun pins s' σ H' Q I h => h ⟨s, H, C, cl, fp⟩ pins s' I⟩) h.hs
  refine .of P (hw F0 σ H F _ e0 S fun J H1 F1 items s' e1 S1 K1 q => ?_)
  obtain ⟨Iv, L, h0, hQ⟩ := LL items s' q
  have t := tlc_ok (own := own) (wi := fun _ _ R => R J H1) (F0 := F1) (σ := σ) (H := H1) (Qf := Po Y σ F0 fun A s' => ∃ p xs, A = raw (.ref p) ∧ s' = ⟨s.ρ, (p, lstc xs) :: s.gs⟩ ∧ k xs) (fun R k => k J H1 F1 (.refl _) S1 K1) L h0 fun D H' F' ys gs e2 S2 iv => by
    obtain ⟨es, kk⟩ := hQ ys gs iv
    have e3 : s'.ρ = s.ρ ∧ gs = s.gs := by rw [← es]; exact ⟨rfl, rfl⟩
    rw [e3.1, e3.2] at S2
    exact ⟨raw (.ref D), _, F', e1.trans e2, rfl, S2, D, ys, rfl, rfl, kk⟩
  exact t
/-- tuple(d.items()) -/
theorem c_tupItems {κ ν : Type} [DecidableEq κ] [Kk κ] [Enc κ] [KkV κ] [Enc ν] {W : (List (κ × ν) → Prop) → Prop} (ok : YOk Y) (T : Bis Y.X.mg) (hg : Gl Y.X "tuple") (ho : EvD Y s e W) (hbase : attributeBase e "items" Y.X.env (eval e Y.X.env) = eval e Y.X.env := by exact ab_ok rfl) (hline : (apos.endLine == cpos.line) = true := by rfl)
    (hs : starEach [.Call (.Attribute e "items" apos) [] [] cpos] Y.X.env = (false, eval (.Call (.Attribute e "items" apos) [] [] cpos) Y.X.env) :: starEach [] Y.X.env := by exact star_c rfl) :
    EvC Y s (.Call (.Name "tuple" p) [.Call (.Attribute e "items" apos) [] [] cpos] [] pos) fun k => W fun m => k (PySem.W.Tup.mk m) := fun k w F0 σ H F e0 S => by
  refine .of (pe_tupleItems ok.calm pe_we hg (T.no _ (by decide)) hbase hline hs) ?_
  refine (ho _ w F0 σ H F e0 S).mono fun v H1 ⟨A, _, F1, e1, r1, S1, m, hA, es, w⟩ => ?_
  subst es
  obtain ⟨d, kvs, ev, hd, rk⟩ := hA σ H1 F1 v S1 r1
  refine ⟨d, kvs, ev, hd, fun H' p ts k1 k2 k3 k4 k5 k6 => ?_⟩
  have at6 : ∀ t ∈ ts, ∃ q : Key × V, H' t = some (.tup [kV q.1, q.2]) := fun t ht => by
    obtain ⟨j, q, _, _, e3⟩ := LiI.paired_ix k6 ht
    exact ⟨q, e3⟩
  obtain ⟨S2, eF⟩ := S1.growAll k1 (p :: ts) fun a ha => by
    rcases List.mem_cons.mp ha with h | h
    · subst h
      exact ⟨k2, _, k5, rfl⟩
    · obtain ⟨q, hq⟩ := at6 a h
      exact ⟨k3 a h, _, hq, rfl⟩
  refine ⟨pu (PySem.W.Tup.mk m), _, _, e1.trans eF, ⟨p, ts.map V.ref, rfl, .of (by
    show (if p ∈ p :: ts then H' p else F1 p) = _
    rw [if_pos List.mem_cons_self]
    exact k5), ?_⟩, S2, _, rfl, rfl, w⟩
  have key : ∀ (ts' : List Addr) (kvs' : List (Key × V)) (m' : List (κ × ν)), (∀ t ∈ ts', t ∈ ts) → Paired (fun (t : Addr) (q : Key × V) => H' t = some (.tup [kV q.1, q.2])) ts' kvs' → KVs Y.X.K F1 kvs' m' → Vs Y.X.K (fun b => if b ∈ p :: ts then H' b else F1 b) (ts'.map V.ref) m' := by
    intro ts' kvs' m' hsub h1
    induction h1 generalizing m' with
    | nil =>
      intro h2
      cases h2
      exact .nil
    | @cons t0 q0 l1 l2 a _ ih =>
      intro h2
      cases h2 with
      | cons b r =>
        refine .cons ⟨t0, kV q0.1, q0.2, rfl, .of ?_, ?_, Enc.mono b.2 eF⟩ (ih _ (fun t ht => hsub t (List.mem_cons_of_mem _ ht)) r)
        · show (if _ ∈ p :: ts then _ else _) = _
          rw [if_pos (List.mem_cons_of_mem _ (hsub _ List.mem_cons_self))]
          exact a
        · rw [b.1]
          exact KkV.rep _
  exact key ts kvs m (fun _ h => h) k6 rk
end
end Sp
set_option maxHeartbeats 4000000
/-! Sp: new cells frozen at once, dict displays, sums of a dict's values. -/
namespace Sp
open PySem L2
open PySem.W (Datum DatumOrd SomeDatum)
section
variable {Y : DX} {s : DSt} {e a b c d o : Expr} {es : List Expr} {pos p apos cpos : Pos}
section
variable {κ ν : Type} [DecidableEq κ] [Kk κ] [Enc κ] [KkV κ] [Enc ν]
theorem c_ofM {W : (List (κ × ν) → Prop) → Prop} (h : EvM Y s e W) : EvC Y s e fun k => W fun m => k (Dct.mk m) := fun k w F0 σ H F e0 S => by
  refine .lockAfter ((h _ w F0 σ H F e0 S).mono fun v H1 ⟨A, s1, F1, e1, r1, S1, q, m, ea, es, w⟩ => ?_)
  subst ea es
  obtain ⟨hF, oo, hoo, _, zs, eo, rv⟩ := S1.cell (i := 0) (p := q) (c := dctc m) rfl
  subst eo
  obtain rfl : v = .ref q := r1
  refine ⟨q, .dK zs, hoo, trivial, fun od => ⟨pu (Dct.mk m), s, upd F1 q (.frz od (.dK zs)), e1.trans (Ext.grow hF), ⟨q, od, zs, rfl, upd_same, rv.mono (Ext.grow hF)⟩, ?_, Dct.mk m, rfl, rfl, w⟩⟩
  have T1 := S1.write (i := 0) (o' := .frz od (.dK zs)) (c' := ⟨fun _ _ o => o = .frz od (.dK zs), fun h _ => h⟩) rfl hoo (not_codeD rfl) rfl rfl
  exact T1.freeze (i := 0) (p := q) rfl upd_same
/-- pairs of a display -/
def prL : List (Option Expr) → List Expr → List (Expr × Expr)
  | some k :: ks, v :: vs => (k, v) :: prL ks vs
  | _, _ => []
def EvPr (Y : DX) (s : DSt) (ks : List (Option Expr)) (vs : List Expr) {κ ν : Type} [Kk κ] [Enc κ] [Enc ν] (W : (List (κ × ν) → Prop) → Prop) : Prop :=
  ks.length = vs.length ∧ ks.all (·.isSome) = true ∧ (∀ pos, PPs Y.X pos ks vs ((prL ks vs).map fun p => (WE Y.X p.1, WE Y.X p.2))) ∧ ∀ k : List (κ × ν) → Prop, W k → ∀ F0 σ H F, Ext F0 F → Sta Y s σ H F →
    tPairs ((prL ks vs).map fun p => (WE Y.X p.1, WE Y.X p.2)) σ H fun ps H2 => ∃ F', Ext F0 F' ∧ Sta Y s σ H2 F' ∧ ∃ (m : List (κ × ν)) (kvs : List (Key × V)), ps = kvs.map (fun kv => (kV kv.1, kv.2)) ∧ kvs.length = ks.length ∧ KVs Y.X.K F' kvs m ∧ k m
theorem tp_mono {X : Cx} : ∀ (l : List (Expr × Expr)) {σ : St} {H : Hp} {Q Q' : List (V × V) → Hp → Prop}, tPairs (l.map fun p => (WE X p.1, WE X p.2)) σ H Q → (∀ ps H', Q ps H' → Q' ps H') → tPairs (l.map fun p => (WE X p.1, WE X p.2)) σ H Q'
  | [], _, _, _, _, h, f => f _ _ h
  | (a, b) :: l, σ, H, Q, Q', h, f => by
    show WE X a σ H fun x H1 => WE X b σ H1 fun y H2 => tPairs (l.map fun p => (WE X p.1, WE X p.2)) σ H2 fun ps H3 => Q' ((x, y) :: ps) H3
    exact (show WE X a σ H fun x H1 => WE X b σ H1 fun y H2 => tPairs (l.map fun p => (WE X p.1, WE X p.2)) σ H2 fun ps H3 => Q ((x, y) :: ps) H3 from h).mono fun x H1 h1 => h1.mono fun y H2 h2 => tp_mono l h2 fun ps H' q => f _ _ q
theorem pr_nil : EvPr Y s [] [] (κ := κ) (ν := ν) fun k => k [] := ⟨rfl, rfl, fun pos => pps_nil, fun k w F0 σ H F e0 S => ⟨F, e0, S, [], [], rfl, rfl, .nil, w⟩⟩
theorem pr_cons {ke ve : Expr} {ks : List (Option Expr)} {vs : List Expr} {Wk : (κ → Prop) → Prop} {Wv : (ν → Prop) → Prop} {W : (List (κ × ν) → Prop) → Prop} (hk : EvC Y s ke Wk) (hv : EvC Y s ve Wv) (h : EvPr Y s ks vs W) :
    EvPr Y s (some ke :: ks) (ve :: vs) fun k => Wk fun x => Wv fun y => W fun m => k ((x, y) :: m) := by
  obtain ⟨h1, h2, hp, hl⟩ := h
  refine ⟨by simp [h1], by simpa using h2, fun pos => pps_cons pe_we pe_we (hp pos), fun k w F0 σ H F e0 S => ?_⟩
  show WE Y.X ke σ H fun x H1 => WE Y.X ve σ H1 fun y H2 => tPairs ((prL ks vs).map fun p => (WE Y.X p.1, WE Y.X p.2)) σ H2 fun ps H3 => _
  refine (hk _ w F0 σ H F e0 S).mono fun x H1 ⟨A, _, F1, e1, r1, S1, x', ea, es, w⟩ => ?_
  subst ea es
  refine (hv _ w F1 σ H1 F1 (.refl _) S1).mono fun y H2 ⟨B, _, F2, e2, r2, S2, y', eb, es, w⟩ => ?_
  subst eb es
  refine tp_mono _ (hl _ w F2 σ H2 F2 (.refl _) S2) fun ps H3 ⟨F3, e3, S3, m, kvs, ep, el, rk, w⟩ => ?_
  subst ep
  exact ⟨F3, (e1.trans e2).trans e3, S3, (x', y') :: m, (Kk.key x', y) :: kvs, by rw [List.map_cons, KkV.of r1], by simp [el], .cons ⟨rfl, Enc.mono (α := ν) r2 e3⟩ rk, w⟩
theorem m_disp {ks : List (Option Expr)} {vs : List Expr} {W : (List (κ × ν) → Prop) → Prop} (h : ∀ p, EvPr Y ⟨s.ρ, (p, dctc ([] : List (κ × ν))) :: s.gs⟩ ks vs W) (h0 : ks ≠ [] := by intro h; cases h) (h15 : ks.length ≤ 15 := by decide) :
    EvM Y s (.Dict ks vs pos) fun k => W fun m => k (dmerge [] m) := fun k w F0 σ H F e0 S => by
  obtain ⟨h1, h2, hp, _⟩ := h 0
  refine .of (pe_disp (hp pos) h2 h1 h0 h15) fun q hq => ?_
  have S1 := S.newO (c := dctc ([] : List (κ × ν))) hq rfl ⟨[], rfl, .nil⟩
  refine tp_mono _ ((h q).2.2.2 _ w F0 σ _ F e0 S1) fun ps H2 ⟨F2, e2, S2, m, kvs, ep, el, rk, w⟩ => ?_
  obtain ⟨hF, oo, hoo, _, zs, eo, rv⟩ := S2.cell (i := 0) (p := q) (c := dctc ([] : List (κ × ν))) rfl
  subst eo
  cases rv
  refine ⟨hoo, kvs, ep, by omega, raw (.ref q), _, F2, e2, rfl, S2.write (i := 0) (c' := dctc (dmerge [] m)) rfl hoo (not_codeD rfl) rfl ⟨_, rfl, kvs_merge rk .nil⟩, q, _, rfl, rfl, w⟩
theorem c_disp {ks : List (Option Expr)} {vs : List Expr} {W : (List (κ × ν) → Prop) → Prop} (h : ∀ p, EvPr Y ⟨s.ρ, (p, dctc ([] : List (κ × ν))) :: s.gs⟩ ks vs W) (h0 : ks ≠ [] := by intro h; cases h) (h15 : ks.length ≤ 15 := by decide) :
    EvC Y s (.Dict ks vs pos) fun k => W fun m => k (Dct.mk (dmerge [] m)) := fun k w => c_ofM (m_disp h h0 h15) k w
/-- sum(d.values()) -/
def tSumValsF (td : TE) : TE := fun σ H Q => td σ H fun x H1 => ∃ a kvs, ∃ is : List Int, x = V.ref a ∧ Rd H1 a (.dK kvs) ∧ kvs.map (·.2) = is.map V.int ∧ Q (.int is.sum) H1
theorem pe_sumVals {X : Cx} {td : TE} (hc : X.calm = true) (hg : Gl X "sum") (hm : X.mg "sum" = none) (hd : PE X o td) (hbase : attributeBase o "values" X.env (eval o X.env) = eval o X.env := by exact ab_ok rfl) (hline : (apos.endLine == cpos.line) = true := by rfl)
    (hse : starEach [Expr.Call (.Attribute o "values" apos) [] [] cpos] X.env = [(false, eval (Expr.Call (.Attribute o "values" apos) [] [] cpos) X.env)] := by exact star_1 rfl) :
    PE X (.Call (.Name "sum" p) [.Call (.Attribute o "values" apos) [] [] cpos] [] pos) (tSumValsF td) := by
  refine ⟨fun pins s σ H Q I h => ?_⟩
  refine wpAny_Call_Name_kw (ld_blt I hg hm (u := .builtin "sum") (by first | rfl | decide +kernel) ?_ (by first | decide +kernel | decide) (by first | decide +kernel | decide))
  rw [hse]
  refine PySem.callWith_builtin1 (wpAny_Call_method0_late hbase hline (thn (hd.run pins s σ H _ I h) fun v s1 ⟨x, H1, I1, r1, a, kvs, is, ex, ha, hv, q⟩ => ?_))
  subst ex
  obtain rfl : v = Value.ref a := r1
  obtain ⟨hz, hsys, vs, rel, dof⟩ := dk_rd I1.hok ha
  obtain ⟨ep, dat⟩ := dof.dictAt
  have dat' := dat
  obtain ⟨ob, es, ho, ex, hdat, hko, hpr, hnd⟩ := dat'
  refine ⟨"dict", "dict.values", F.plainAttrs_dict, F.slot_dict_values, F.type_dict_values, ⟨ob, ho, ex.1⟩, fun b e => ?_, Calls.callWith_builtin rfl (PySem.evalArgs_none ?_)⟩
  · cases e
    exact ⟨ob, ho, ex.2.1⟩
  refine call_meetsIn F.slot_dict_values ⟨ob, ho, ex.1⟩ F.entry_dict_values (F.args_dict_values_1 _) (meets_dict_values (mixKind X.prog X.w) a hsys) ⟨⟨vs, dof⟩, ?_⟩
  have k1 : ∀ b u, s1.heap.get? b = some u → (s1.heap.push { cls := .type "dict_values", data := .fields #[.ref a] }).get? b = some u := fun b u e => Heap.get?_push_of_some _ e
  have dat1 : (s1.heap.push { cls := .type "dict_values", data := .fields #[.ref a] }).DictAt (mixKind X.prog X.w) a vs ep := dat.keep k1
  have hlv : vs.length = is.length := by
    have e1 := congrArg List.length hv
    rw [List.length_map, List.length_map] at e1
    rw [← e1]
    exact (KV.length rel).symm
  have hval : ∀ (i : Nat) (v : Value), (∃ k, vs[i]? = some (k, v)) → ∃ t, v = Value.int (is.getD i 0) t := fun i v ⟨k, hk⟩ => by
    obtain ⟨x, h1, h2⟩ := KV.at' rel hk
    have e1 : (kvs.map (·.2))[i]? = some x := by rw [List.getElem?_map, h1] <;> rfl
    rw [hv, List.getElem?_map] at e1
    obtain ⟨j, hj, e2⟩ := Option.map_eq_some_iff.mp e1
    subst e2
    obtain ⟨t, e3⟩ := h2
    refine ⟨t, ?_⟩
    rw [e3, List.getD_eq_getElem?_getD, hj] <;> rfl
  have hlt : a < s1.heap.objs.size := Heap.lt_size ho
  have hsz : (s1.heap.push { cls := .type "dict_values", data := .fields #[.ref a] }).objs.size = s1.heap.objs.size + 1 := Heap.size_push _ _
  refine call_sum_walkAnyS (wpAny_pyIter_values (v := s1.heap.objs.size) (d := a) ⟨_, Heap.get?_push_size _ rfl, rfl, rfl⟩ dat1 ?_)
  refine ⟨_, _, _, _, _, _, _, fun i => is.getD i 0, rfl, (Walks.dictValues (knd := mixKind X.prog X.w) (A := X.A.in1) (I.ok.hd hc) (s1.heap.push { cls := .type "dict_values", data := .fields #[.ref a] }).objs.size a (by rw [hsz]; exact Nat.ne_of_lt (Nat.lt_succ_of_lt hlt)) vs ep).toS,
    ⟨⟨_, Heap.get?_push_size _ rfl, rfl, rfl⟩, dat1.keep fun b u e => Heap.get?_push_of_some _ e⟩, fun b hb => ?_, hval, fun s' t' hm => ?_⟩
  · show b < ((s1.heap.push _).push _).objs.size
    rw [Heap.size_push, Heap.size_push]
    rw [hsz] at hb
    rcases List.mem_cons.mp hb with e | hb
    · rw [e]
      exact Nat.lt_succ_self _
    · have e : b = a := List.mem_singleton.mp hb
      rw [e]
      exact Nat.lt_succ_of_lt (Nat.lt_succ_of_lt hlt)
  · rw [Moved.eq_with hm]
    refine ⟨.int _, H1, I1.kept (t' := s'.toks) fun b u e => hm.heap b u (fun hmem => ?_) (Heap.get?_push_of_some _ (k1 b u e)), ⟨_, rfl⟩, ?_⟩
    · have e1 : b = (s1.heap.push { cls := .type "dict_values", data := .fields #[.ref a] }).objs.size := List.mem_singleton.mp hmem
      have e2 := Heap.lt_size e
      rw [hsz] at e1
      rw [e1] at e2
      exact absurd e2 (Nat.not_lt.mpr (Nat.le_succ _))
    · rw [PyProof.Rows.preSum_getD, List.take_of_length_le (by omega)]
      exact q
end
end
end Sp
namespace HN
open PySem PySem.Spec PyProof.Rows PySem.SeqAt
section
variable {M : Model} {prog : Program} {w : World} {A : Around} {E : Value → Shared → Prop} {s : Shared} {K : PySem.W.Frag} {x C dx : Addr} {ox : Obj} {od : Option Obj} {b : Str} {u : Tok}
theorem isSame_strI {R : Bool → Shared → Prop} (h : R false s) : wpAny M A (isSame (.ref x) (.str b u)) R E s := wpAny_of_eq (rfl : isSame (.ref x) (.str b u) = pure false) h
theorem entry_strI {Q : Fin → Shared → Prop} (hq : Q (.done (.ret .notImplemented)) s) : wpAny M A (Builtin.«object.__eq__» ⟨[.ref x, .str b u], []⟩) Q E s := by
  unfold Builtin.«object.__eq__»
  repeat (first | with_reducible refine isSame_strI ?_ | wp_step)
  exact hq
theorem call_objEqS {Q : Value → Shared → Prop} (X : K.In s.heap) (I : PySem.W.InstAt s.heap x ox C od) (hm : PySem.W.mroIn K C (.type "object") = some true) (hq : Q .notImplemented s) :
    wpAny (model prog w) A (call (.builtin "object.__eq__") [.ref x, .str b u]) Q E s :=
  wpAny_call (codeAny_call_builtin F.cmp_object.eq.plain F.cmpEntry_eq (PySem.W.check_slot F.cmpKind_eq F.cmpSplit_eq (I.type.andThen (PySem.W.looks_mroIn X hm)) (F.cmpArgs_eq _ _) (entry_strI hq)))
theorem entry_strN {Q : Fin → Shared → Prop} (hu : A.units < cLine) (X : K.In s.heap) (I : PySem.W.InstAt s.heap x ox C od) (hm : PySem.W.mroIn K C (.type "object") = some true) (hs : PySem.W.findIn K (.ref C) "__eq__" = some (some (.builtin "object.__eq__"))) (hq : Q (.done (.ret .notImplemented)) s) :
    wpAny (model prog w) A (Builtin.«object.__ne__» ⟨[.ref x, .str b u], []⟩) Q E s := by
  unfold Builtin.«object.__ne__»
  repeat (first | with_reducible refine wpAny_cRoomFor hu ?_ | with_reducible refine ifBound_objEq X I hs (call_objEqS X I hm ?_) | wp_step)
  exact hq
theorem call_objNeS {Q : Value → Shared → Prop} (hu : A.units + 1 < cLine) (X : K.In s.heap) (I : PySem.W.InstAt s.heap x ox C od) (hm : PySem.W.mroIn K C (.type "object") = some true) (hs : PySem.W.findIn K (.ref C) "__eq__" = some (some (.builtin "object.__eq__"))) (hq : Q .notImplemented s) :
    wpAny (model prog w) A (call (.builtin "object.__ne__") [.ref x, .str b u]) Q E s :=
  wpAny_call (codeAny_call_builtin F.cmp_object.ne.plain F.cmpEntry_ne (PySem.W.check_slot F.cmpKind_ne F.cmpSplit_ne (I.type.andThen (PySem.W.looks_mroIn X hm)) (F.cmpArgs_ne _ _) (entry_strN (A := A.in1) hu X I hm hs hq)))
theorem ifBound_objNe {args : List Value} {Q : Option Value → Shared → Prop} (X : K.In s.heap) (I : PySem.W.InstAt s.heap x ox C od) (hs : PySem.W.findIn K (.ref C) "__ne__" = some (some (.builtin "object.__ne__")))
    (h : wpAny M A (call (.builtin "object.__ne__") (.ref x :: args)) (fun v => Q (some v)) E s) : wpAny M A (callSpecialIfBound? (.ref x) "__ne__" args) Q E s := by
  simp only [callSpecialIfBound?, bindSpecialIfBound?]
  refine wpAny_holding (wpAny_bind (wpAny_bind (wpAny_bind (I.type.here ((PySem.W.looks_findIn X hs).here ?_)))))
  refine wpAny_bind (wpAny_askSetting (wpAny_ite ?_))
  have fin : wpAny M A (call (.builtin "object.__ne__") ([.ref x] ++ args) >>= fun v => pure (some v)) Q E s := wpAny_bind (wpAny_mono h (fun v s' h' => wpAny_pure h') fun _ _ h' => h')
  split
  · exact wpAny_bind (wpAny_of_eq (F.cmp_object.ne.bind _) (wpAny_pure (by exact fin)))
  · exact wpAny_tryCatch (wpAny_bind (wpAny_of_eq (F.cmp_object.ne.bind _) (wpAny_pure (by exact fin))))
theorem sub_strI : PySem.W.subIn K (.type "str") (.ref C) = some false := by
  have e : fastBuiltinMro "str" = some [.type "str", .type "object"] := by decide +kernel
  show (fastBuiltinMro "str").map (·.contains (.ref C)) = some false
  rw [e]
  first
    | rfl
    | simp
theorem str_eq_declines_inst (l : Addr) : Meets (Builtin.«str.__eq__» ⟨[.str b u, .ref l], []⟩) (fun _ R s => s.heap.get? l = some (PySem.W.instObj C dx) ∧ R (.ok (.ret .notImplemented)) s) :=
  .of_wp fun prog w A R s h => by obtain ⟨hp, g, d, tk, os⟩ := s; obtain ⟨hl, h⟩ := h; wp_walk using wpAny_loadPart' hl, wpAny_load hl; exact ⟨_, rfl, h⟩
theorem str_ne_declines_inst (l : Addr) : Meets (Builtin.«str.__ne__» ⟨[.str b u, .ref l], []⟩) (fun _ R s => s.heap.get? l = some (PySem.W.instObj C dx) ∧ R (.ok (.ret .notImplemented)) s) :=
  .of_wp fun prog w A R s h => by obtain ⟨hp, g, d, tk, os⟩ := s; obtain ⟨hl, h⟩ := h; wp_walk using wpAny_loadPart' hl, wpAny_load hl; exact ⟨_, rfl, h⟩
end
end HN
set_option maxHeartbeats 4000000
namespace HN
open PySem PySem.Spec PyProof.Rows PySem.SeqAt
section
variable {M : Model} {prog : Program} {w : World} {A : Around} {E : Value → Shared → Prop} {s : Shared} {K : PySem.W.Frag} {x C dx : Addr} {od : Option Obj} {b : Str} {u : Tok}
/-- what a class must keep of the comparisons that it was born with -/
def cmpK (K : PySem.W.Frag) (C : Addr) : Prop := PySem.W.mroIn K C (.type "object") = some true ∧ PySem.W.findIn K (.ref C) "__eq__" = some (some (.builtin "object.__eq__")) ∧ PySem.W.findIn K (.ref C) "__ne__" = some (some (.builtin "object.__ne__"))
def cmpB (K : PySem.W.Frag) (C : Addr) : Bool := (PySem.W.mroIn K C (.type "object") == some true) && (PySem.W.findIn K (.ref C) "__eq__" == some (some (.builtin "object.__eq__"))) && (PySem.W.findIn K (.ref C) "__ne__" == some (some (.builtin "object.__ne__")))
theorem cmpB_ok {K : PySem.W.Frag} {C : Addr} (h : cmpB K C = true) : cmpK K C := by
  unfold cmpB at h
  rw [Bool.and_eq_true, Bool.and_eq_true] at h
  exact ⟨eq_of_beq h.1.1, eq_of_beq h.1.2, eq_of_beq h.2⟩
theorem rc_strI (hu : A.units + 64 < cLine) (X : K.In s.heap) (I : PySem.W.InstAt s.heap x (PySem.W.instObj C dx) C od) (c : cmpK K C) {Q : Value → Shared → Prop} (h : Q (.bool false) s) :
    wpAny (model prog w) A (richCompare .Eq (.ref x) (.str b u)) Q E s := by
  obtain ⟨hm, hs, _⟩ := c
  have one : wpAny (model prog w) A (tryCompare (.ref x) "__eq__" (.str b u)) (fun r s' => r = none ∧ s' = s) E s := by
    unfold tryCompare
    exact wpAny_bind (ifBound_objEq X I hs (call_objEqS X I hm (wpAny_pure ⟨rfl, rfl⟩)))
  have two : wpAny (model prog w) A (tryCompare (.str b u) "__eq__" (.ref x)) (fun r s' => r = none ∧ s' = s) E s :=
    wpAny_tryCompare_declines (typeIs_str s b u) F.slot_str_eq_refl (call_meets F.slot_str_eq_refl (typeIs_str s b u) F.entry_str_eq (F.args_str_eq_2 _ _) (str_eq_declines_inst (C := C) (dx := dx) x) ⟨I.at_, rfl, rfl, rfl⟩)
  simp only [richCompare, cmpInfo_Eq, oneThing_ref]
  refine wpAny_holding (wpAny_bind (wpAny_cRoomFor (by omega) ?_))
  refine wpAny_bind (I.type.here ?_)
  refine wpAny_bind (wpAny_typeOf (typeIs_str s b u) ?_)
  split
  · refine wpAny_bind ((PySem.W.looks_subIn X sub_strI).here ?_)
    simp only [Bool.false_eq_true, if_false, Bool.not_false, if_true]
    refine wpAny_bind (m := tryCompare (.ref x) _ (.str b u)) (wpAny_mono one (fun r s1 z => ?_) fun _ _ e => e)
    obtain ⟨z1, z2⟩ := z
    subst z1
    subst z2
    refine wpAny_bind (m := tryCompare (.str b u) _ (.ref x)) (wpAny_mono two (fun r s2 z => ?_) fun _ _ e => e)
    obtain ⟨z1, z2⟩ := z
    subst z1
    subst z2
    exact wpAny_bind (wpAny_rule (wpAny_bind (wpAny_of_eq (rfl : isSame (.ref x) (.str b u) = pure false) (wpAny_pure h))))
  · rename_i q
    exact absurd (by simp) q
theorem rc_strN (hu : A.units + 64 < cLine) (X : K.In s.heap) (I : PySem.W.InstAt s.heap x (PySem.W.instObj C dx) C od) (c : cmpK K C) {Q : Value → Shared → Prop} (h : Q (.bool true) s) :
    wpAny (model prog w) A (richCompare .NotEq (.ref x) (.str b u)) Q E s := by
  obtain ⟨hm, hs, hn⟩ := c
  have one : wpAny (model prog w) A (tryCompare (.ref x) "__ne__" (.str b u)) (fun r s' => r = none ∧ s' = s) E s := by
    unfold tryCompare
    exact wpAny_bind (ifBound_objNe X I hn (call_objNeS (by omega) X I hm hs (wpAny_pure ⟨rfl, rfl⟩)))
  have two : wpAny (model prog w) A (tryCompare (.str b u) "__ne__" (.ref x)) (fun r s' => r = none ∧ s' = s) E s :=
    wpAny_tryCompare_declines (typeIs_str s b u) F.slot_str_ne_refl (call_meets F.slot_str_ne_refl (typeIs_str s b u) F.entry_str_ne (F.args_str_ne_2 _ _) (str_ne_declines_inst (C := C) (dx := dx) x) ⟨I.at_, rfl, rfl, rfl⟩)
  simp only [richCompare, cmpInfo_NotEq, oneThing_ref]
  refine wpAny_holding (wpAny_bind (wpAny_cRoomFor (by omega) ?_))
  refine wpAny_bind (I.type.here ?_)
  refine wpAny_bind (wpAny_typeOf (typeIs_str s b u) ?_)
  split
  · refine wpAny_bind ((PySem.W.looks_subIn X sub_strI).here ?_)
    simp only [Bool.false_eq_true, if_false, Bool.not_false, if_true]
    refine wpAny_bind (m := tryCompare (.ref x) _ (.str b u)) (wpAny_mono one (fun r s1 z => ?_) fun _ _ e => e)
    obtain ⟨z1, z2⟩ := z
    subst z1
    subst z2
    refine wpAny_bind (m := tryCompare (.str b u) _ (.ref x)) (wpAny_mono two (fun r s2 z => ?_) fun _ _ e => e)
    obtain ⟨z1, z2⟩ := z
    subst z1
    subst z2
    exact wpAny_bind (wpAny_rule (wpAny_bind (wpAny_of_eq (rfl : isSame (.ref x) (.str b u) = pure false) (wpAny_pure h))))
  · rename_i q
    exact absurd (by simp) q
end
end HN

namespace Sp
open PySem L2
def isT {α : Type} : α ⊕ List Nat → List Nat → Bool
  | .inl _, _ => false
  | .inr z, y => decide (z = y)
section
variable {Y : DX} {s : DSt} {a b : Expr}
theorem cmp_strI {X : Cx} (hu : X.A.units + 64 < cLine) : OpR X (compareOp .Eq) (fun x y H Q => ∃ p C dx fs, ∃ t : List Nat, x = .ref p ∧ H p = some (.ins C dx fs) ∧ HN.cmpK X.K C ∧ y = .str (toStr t) ∧ Q (.bl false) H) := by
  intro pins s σ H x y v u Q I rx ry ⟨p, C, dx, fs, t, ex, hp, hc, ey, q⟩
  subst ex ey
  cases rx
  obtain ⟨tk, rfl⟩ : ∃ tk, u = .str (toStr t) tk := ry
  obtain ⟨mA, O, _⟩ := ins_get I.hok hp
  obtain ⟨od, J, _⟩ := O.look
  show wpAny _ _ (richCompare .Eq _ _) _ _ _
  refine HN.rc_strI hu I.kIn J hc ?_
  exact ⟨.bl _, H, I, rfl, q⟩
theorem cmp_strN {X : Cx} (hu : X.A.units + 64 < cLine) : OpR X (compareOp .NotEq) (fun x y H Q => ∃ p C dx fs, ∃ t : List Nat, x = .ref p ∧ H p = some (.ins C dx fs) ∧ HN.cmpK X.K C ∧ y = .str (toStr t) ∧ Q (.bl true) H) := by
  intro pins s σ H x y v u Q I rx ry ⟨p, C, dx, fs, t, ex, hp, hc, ey, q⟩
  subst ex ey
  cases rx
  obtain ⟨tk, rfl⟩ : ∃ tk, u = .str (toStr t) tk := ry
  obtain ⟨mA, O, _⟩ := ins_get I.hok hp
  obtain ⟨od, J, _⟩ := O.look
  show wpAny _ _ (richCompare .NotEq _ _) _ _ _
  refine HN.rc_strN hu I.kIn J hc ?_
  exact ⟨.bl _, H, I, rfl, q⟩
theorem opr_or {X : Cx} {op : Value → Value → Sem Value} {r1 r2 : R2} (h1 : OpR X op r1) (h2 : OpR X op r2) : OpR X op (fun x y H Q => r1 x y H Q ∨ r2 x y H Q) := by
  intro pins s σ H x y v u Q I rx ry h
  rcases h with h | h
  · exact h1 pins s σ H x y v u Q I rx ry h
  · exact h2 pins s σ H x y v u Q I rx ry h
section
variable {γ : Type} [og : Ob γ] [eg : Enc γ] [ObOk γ] {Wa : (γ ⊕ List Nat → Prop) → Prop} {Wb : (List Nat → Prop) → Prop}
theorem k_eqT (ok : YOk Y) (hc : HN.cmpK Y.X.K (He.ga Y.X.K (Ob.cls γ))) (ha : EvC Y s a Wa) (hb : EvC Y s b Wb) : EvK Y s .Eq a b fun k => Wa fun x => Wb fun y => k (isT x y) := fun k w =>
  cmp_of (opr_or (cmp_strI ok.room.units) (op_eqT (α := List Nat) ok.room.units (by decide))) (ha.q w fun i w => hb.q w fun j w => ⟨_, ⟨rfl, w⟩, fun σ H F v u Q S r1 r2 q => by
    cases i with
    | inl m =>
      obtain ⟨p, dx, vs, ev, hp, _⟩ := ia_ob σ H F v S (show (pu m).rep Y.X.K F v from r1)
      exact .inl ⟨p, _, dx, vs, j, ev, hp, hc, r2, q⟩
    | inr z => exact .inr ⟨z, j, DA.pu (α := List Nat) σ H F v S r1, DA.pu (α := List Nat) σ H F u S r2, q⟩⟩)
theorem k_neT (ok : YOk Y) (hc : HN.cmpK Y.X.K (He.ga Y.X.K (Ob.cls γ))) (ha : EvC Y s a Wa) (hb : EvC Y s b Wb) : EvK Y s .NotEq a b fun k => Wa fun x => Wb fun y => k (!isT x y) := fun k w =>
  cmp_of (opr_or (cmp_strN ok.room.units) (op_neT (α := List Nat) ok.room.units (by decide))) (ha.q w fun i w => hb.q w fun j w => ⟨_, ⟨rfl, w⟩, fun σ H F v u Q S r1 r2 q => by
    cases i with
    | inl m =>
      obtain ⟨p, dx, vs, ev, hp, _⟩ := ia_ob σ H F v S (show (pu m).rep Y.X.K F v from r1)
      exact .inl ⟨p, _, dx, vs, j, ev, hp, hc, r2, q⟩
    | inr z =>
      refine .inr ⟨z, j, DA.pu (α := List Nat) σ H F v S r1, DA.pu (α := List Nat) σ H F u S r2, ?_⟩
      have e : (!isT (α := γ) (.inr z) j) = decide (z ≠ j) := by simp [isT]
      rw [← e]; exact q⟩)
end
section
variable {e o : Expr} {p pos apos cpos p2 : Pos} {κ : Type} [DecidableEq κ] [Kk κ] [Enc κ] [KkV κ]
/-- sum(d.values()) -/
theorem c_sumV {W : (List (κ × Int) → Prop) → Prop} (ok : YOk Y) (T : Bis Y.X.mg) (hg : Gl Y.X "sum") (ho : EvD Y s o W) (hbase : attributeBase o "values" Y.X.env (eval o Y.X.env) = eval o Y.X.env := by exact ab_ok rfl) (hline : (apos.endLine == cpos.line) = true := by rfl)
    (hse : starEach [Expr.Call (.Attribute o "values" apos) [] [] cpos] Y.X.env = [(false, eval (Expr.Call (.Attribute o "values" apos) [] [] cpos) Y.X.env)] := by exact star_1 rfl) :
    EvC Y s (.Call (.Name "sum" p) [.Call (.Attribute o "values" apos) [] [] cpos] [] pos) fun k => W fun m => k (m.map (fun q => q.2)).sum := fun k w F0 σ H F e0 S => by
  refine .of (pe_sumVals ok.calm hg (T.no _ (by decide)) pe_we hbase hline hse) ?_
  refine (ho _ w F0 σ H F e0 S).mono fun v H1 ⟨A, _, F1, e1, r1, S1, m, hA, es, w⟩ => ?_
  subst es
  obtain ⟨d, kvs, ev, hd, rk⟩ := hA σ H1 F1 v S1 r1
  refine ⟨d, kvs, m.map (fun q : κ × Int => q.2), ev, hd, ?_, pu (α := Int) ((m.map (fun q : κ × Int => q.2)).sum), _, F1, e1, ?_, S1, _, rfl, rfl, w⟩
  rotate_left
  · exact rfl
  have key : ∀ {ks : List (Key × V)} {m : List (κ × Int)}, KVs Y.X.K F1 ks m → ks.map (·.2) = (m.map (·.2)).map V.int := by
    intro ks m h
    induction h with
    | nil => rfl
    | cons r _ ih => rw [List.map_cons, List.map_cons, List.map_cons, ih, show _ = V.int _ from r.2]
  exact key rk
end
end
end Sp
set_option maxHeartbeats 4000000
/-! Sp: plain words for the wishes that the walks leave. -/
namespace Sp
open PySem L2
open PySem.W (DatumOrd)
/-! calls -/
section
variable {ρ : Type} {w : (ρ → Prop) → (Ex → Prop) → Prop} {k : ρ → Prop} {E : Ex → Prop}
theorem Cl.here (h : w k E) : Cl w k E := ⟨k, E, h, fun _ r => r, fun _ r => r⟩
theorem Cl.val {r : ρ} (h : w (fun x => x = r) NoE) (q : k r) : Cl w k E := ⟨_, _, h, fun _ e => by subst e; exact q, fun _ h => h.elim⟩
theorem Cl.exc {e : Ex} (h : w (fun _ => False) (fun x => x = e)) (q : E e) : Cl w k E := ⟨_, _, h, fun _ h => h.elim, fun _ h => by subst h; exact q⟩
theorem Cl.mono {k' : ρ → Prop} {E' : Ex → Prop} (h : Cl w k E) (h1 : ∀ r, k r → k' r) (h2 : ∀ e, E e → E' e) : Cl w k' E' :=
  let ⟨R0, E0, a, b, c⟩ := h
  ⟨R0, E0, a, fun r x => h1 r (b r x), fun e x => h2 e (c e x)⟩
end
theorem ClD.here {ρ : Type} {w : (ρ → Prop) → (Ex → Prop) → Prop} {k : ρ → Prop} (h : w k NoE) : ClD w k := ⟨k, h, fun _ r => r⟩
theorem ClD.roll {n : Int} {k : Int → Prop} (h0 : 0 < n) (h1 : n < 1073741824) (h : ∀ r : Int, 0 ≤ r → r < n → k r) : ClD (rollW (n, ())) k := ⟨k, ⟨h0, h1, h⟩, fun _ r => r⟩
/-! loops -/
section
variable {β Z : Type} {items : List β} {z0 : Z} {body : β → Z → (Z → Prop) → Prop} {rest : Z → Prop}
theorem forW.inv (P : List β → Z → Prop) (h0 : P [] z0) (hs : ∀ l x r z, items = l ++ x :: r → P l z → body x z (P (l ++ [x]))) (he : ∀ z, P items z → rest z) : forW items z0 body rest :=
  ⟨fun i z => P (items.take i) z, by simpa using h0, fun i x z hx h => by
    have hlt := (List.getElem?_eq_some_iff.mp hx).1
    have e : items = items.take i ++ x :: items.drop (i + 1) := by
      have := List.take_append_drop i items
      rw [List.drop_eq_getElem_cons hlt] at this
      rw [(List.getElem?_eq_some_iff.mp hx).2] at this
      exact this.symm
    have := hs _ _ _ z e h
    have e2 : items.take (i + 1) = items.take i ++ [x] := by rw [List.take_add_one, hx]; rfl
    show body x z (fun z => P (items.take (i + 1)) z)
    rw [e2]
    exact this, fun z h => he z (by simpa using h)⟩
/-- a loop that is a fold -/
theorem forW.fold (f : Z → β → Z) (hs : ∀ l x r, items = l ++ x :: r → ∀ k : Z → Prop, k (f (l.foldl f z0) x) → body x (l.foldl f z0) k) (he : rest (items.foldl f z0)) : forW items z0 body rest :=
  forW.inv (fun l z => z = l.foldl f z0) rfl (fun l x r z e h => by
    subst h
    exact hs l x r e _ (by rw [List.foldl_append]; rfl)) (fun z h => by subst h; exact he)
end
theorem ifJ.mk {Z : Type} {b : Bool} {B C : (Z → Prop) → Prop} {rest : Z → Prop} (h1 : b = true → B rest) (h2 : b = false → C rest) : ifJ b B C rest := ⟨h1, h2⟩
/-! comprehensions of drawn items -/
section
variable {β α : Type} {P : β → α → Prop} {xs : List β} {ys : List α}
theorem Each.all {R : α → Prop} (h : Each P xs ys) (q : ∀ x ∈ xs, ∀ y, P x y → R y) : ∀ y ∈ ys, R y := by
  induction h with
  | nil => intro y hy; cases hy
  | cons p _ ih =>
    intro y hy
    rcases List.mem_cons.mp hy with rfl | hy
    · exact q _ (List.mem_cons_self ..) _ p
    · exact ih (fun x hx => q x (List.mem_cons_of_mem _ hx)) y hy
theorem Each.length {P : β → α → Prop} (h : Each P xs ys) : ys.length = xs.length := h.len
end
/-! texts -/
theorem cntT_one (x : Txt) (c : Nat) : cntT x [c] = (x.count c : Int) := by
  unfold cntT
  rw [count_sign]
  congr 1
theorem ixS_mem {x : Txt} {i : Int} (h0 : 0 ≤ i) (h1 : i < x.length) : ∃ c ∈ x, ixS x i = [c] := by
  unfold ixS plc
  rw [if_pos h0]
  have : i.toNat < x.length := by omega
  refine ⟨x[i.toNat], List.getElem_mem this, ?_⟩
  rw [List.getD_eq_getElem?_getD, List.getElem?_eq_getElem this] <;> rfl
theorem ixD_mem {α : Type} [Inhabited α] {x : List α} {i : Int} (h0 : 0 ≤ i) (h1 : i < x.length) : ixD x i ∈ x := by
  unfold ixD plc
  rw [if_pos h0]
  have : i.toNat < x.length := by omega
  rw [List.getD_eq_getElem?_getD, List.getElem?_eq_getElem this]
  exact List.getElem_mem this
theorem joinT_nil : ∀ xs : List Txt, joinT [] xs = xs.flatten
  | [] => rfl
  | [x] => by simp [joinT]
  | x :: y :: r => by
    rw [joinT, joinT_nil (y :: r)]
    simp
theorem lenSum_nil : lenSum [] = 0 := rfl
theorem lenSum_cons (x : Txt) (xs : List Txt) : lenSum (x :: xs) = x.length + lenSum xs := by simp [lenSum]
theorem lenSum_app (xs ys : List Txt) : lenSum (xs ++ ys) = lenSum xs + lenSum ys := by simp [lenSum]
theorem lenSum_perm {xs ys : List Txt} (h : xs.Perm ys) : lenSum xs = lenSum ys := (h.map _).sum_nat
theorem lenSum_flat (xs : List Txt) : lenSum xs = xs.flatten.length := by simp [lenSum, List.length_flatten]
theorem lenSum_chars (x : Txt) : lenSum (x.map fun c => [c]) = x.length := by
  induction x with
  | nil => rfl
  | cons a x ih => rw [List.map_cons, lenSum_cons, ih, List.length_cons, List.length_cons, List.length_nil]; omega
theorem flat_chars (x : Txt) : (x.map fun c => [c]).flatten = x := by
  induction x with
  | nil => rfl
  | cons a x ih => simp [ih]
/-! sorted -/
theorem srt_perm {α : Type} [DecidableEq α] [DatumOrd α] (xs : List α) : (srt xs).Perm xs := List.mergeSort_perm _ _
theorem srt_len {α : Type} [DecidableEq α] [DatumOrd α] (xs : List α) : (srt xs).length = xs.length := (srt_perm xs).length_eq
theorem srt_mem {α : Type} [DecidableEq α] [DatumOrd α] {xs : List α} {x : α} : x ∈ srt xs ↔ x ∈ xs := (srt_perm xs).mem_iff
/-- a strict order that tells any two apart -/
class Lin (α : Type) [DecidableEq α] [DatumOrd α] : Prop where
  irr : ∀ a : α, DatumOrd.lt a a = false
  tr : ∀ a b c : α, DatumOrd.lt a b = true → DatumOrd.lt b c = true → DatumOrd.lt a c = true
  tot : ∀ a b : α, DatumOrd.lt a b = false → DatumOrd.lt b a = false → a = b
instance : Lin Int := ⟨fun a => decide_eq_false (Int.lt_irrefl a), fun a b c h1 h2 => decide_eq_true (Int.lt_trans (of_decide_eq_true h1) (of_decide_eq_true h2)), fun a b h1 h2 => by
  have h1 := of_decide_eq_false h1
  have h2 := of_decide_eq_false h2
  omega⟩
instance : Lin (List Nat) := ⟨fun a => decide_eq_false (List.lt_irrefl a), fun a b c h1 h2 => decide_eq_true (List.lt_trans (of_decide_eq_true h1) (of_decide_eq_true h2)), fun a b h1 h2 =>
  List.le_antisymm (List.not_lt.mp (of_decide_eq_false h2)) (List.not_lt.mp (of_decide_eq_false h1))⟩
instance {α β : Type} [DecidableEq α] [DecidableEq β] [DatumOrd α] [DatumOrd β] [Lin α] [Lin β] : Lin (α × β) where
  irr a := by show (if a.1 = a.1 then _ else _) = false; rw [if_pos rfl]; exact Lin.irr _
  tr a b c h1 h2 := by
    have h1 : (if a.1 = b.1 then DatumOrd.lt a.2 b.2 else DatumOrd.lt a.1 b.1) = true := h1
    have h2 : (if b.1 = c.1 then DatumOrd.lt b.2 c.2 else DatumOrd.lt b.1 c.1) = true := h2
    show (if a.1 = c.1 then DatumOrd.lt a.2 c.2 else DatumOrd.lt a.1 c.1) = true
    by_cases e1 : a.1 = b.1
    · rw [if_pos e1] at h1
      by_cases e2 : b.1 = c.1
      · rw [if_pos e2] at h2; rw [if_pos (e1.trans e2)]; exact Lin.tr _ _ _ h1 h2
      · rw [if_neg e2] at h2; rw [if_neg (fun e => e2 (e1.symm.trans e)), e1]; exact h2
    · rw [if_neg e1] at h1
      by_cases e2 : b.1 = c.1
      · rw [if_neg (fun e => e1 (e.trans e2.symm)), ← e2]; exact h1
      · rw [if_neg e2] at h2
        have h3 := Lin.tr _ _ _ h1 h2
        by_cases e3 : a.1 = c.1
        · rw [e3, Lin.irr] at h3; cases h3
        · rw [if_neg e3]; exact h3
  tot a b h1 h2 := by
    have h1 : (if a.1 = b.1 then DatumOrd.lt a.2 b.2 else DatumOrd.lt a.1 b.1) = false := h1
    have h2 : (if b.1 = a.1 then DatumOrd.lt b.2 a.2 else DatumOrd.lt b.1 a.1) = false := h2
    by_cases e1 : a.1 = b.1
    · rw [if_pos e1] at h1
      rw [if_pos e1.symm] at h2
      exact Prod.ext e1 (Lin.tot _ _ h1 h2)
    · rw [if_neg e1] at h1
      rw [if_neg (Ne.symm e1)] at h2
      exact absurd (Lin.tot _ _ h1 h2) e1
section
variable {α : Type} [DecidableEq α] [DatumOrd α] [Lin α]
theorem Lin.asym {a b : α} (h : DatumOrd.lt a b = true) : DatumOrd.lt b a = false := by
  cases e : DatumOrd.lt b a with
  | false => rfl
  | true => have := Lin.tr _ _ _ h e; rw [Lin.irr] at this; cases this
theorem Lin.le_tr {a b c : α} (h1 : DatumOrd.lt b a = false) (h2 : DatumOrd.lt c b = false) : DatumOrd.lt c a = false := by
  cases e : DatumOrd.lt c a with
  | false => rfl
  | true =>
    cases e2 : DatumOrd.lt a b with
    | true => rw [Lin.tr _ _ _ e e2] at h2; cases h2
    | false => rw [Lin.tot _ _ e2 h1] at e; rw [e] at h2; cases h2
theorem srt_sorted (xs : List α) : (srt xs).Pairwise fun a b => DatumOrd.lt b a = false := by
  have h := List.pairwise_mergeSort (le := fun a b : α => !DatumOrd.lt b a) (fun a b c h1 h2 => by
    rw [Bool.not_eq_true'] at h1 h2 ⊢
    exact Lin.le_tr h1 h2) (fun a b => by
    cases e : DatumOrd.lt b a with
    | false => rfl
    | true => rw [Lin.asym e]; rfl) xs
  exact h.imp fun h => by rwa [Bool.not_eq_true'] at h
theorem sorted_eq {xs ys : List α} (h1 : xs.Pairwise fun a b => DatumOrd.lt b a = false) (h2 : ys.Pairwise fun a b => DatumOrd.lt b a = false) (p : xs.Perm ys) : xs = ys :=
  List.Perm.eq_of_pairwise (fun a b _ _ x y => Lin.tot a b y x) h1 h2 p
theorem srt_congr {xs ys : List α} (p : xs.Perm ys) : srt xs = srt ys := sorted_eq (srt_sorted _) (srt_sorted _) ((srt_perm xs).trans (p.trans (srt_perm ys).symm))
theorem srt_of {xs ys : List α} (h : ys.Pairwise fun a b => DatumOrd.lt b a = false) (p : xs.Perm ys) : srt xs = ys := sorted_eq (srt_sorted _) h ((srt_perm xs).trans p)
theorem minOf_mem : ∀ (xs : List α) (x : α), PySem.W.minOf x xs = x ∨ PySem.W.minOf x xs ∈ xs
  | [], x => .inl rfl
  | y :: xs, x => by
    show PySem.W.minOf (if DatumOrd.lt y x = true then y else x) xs = x ∨ _
    rcases minOf_mem xs (if DatumOrd.lt y x = true then y else x) with h | h
    · by_cases e : DatumOrd.lt y x = true
      · rw [if_pos e] at h; exact .inr (by show PySem.W.minOf (if DatumOrd.lt y x = true then y else x) xs ∈ _; rw [if_pos e, h]; exact List.mem_cons_self ..)
      · rw [if_neg e] at h; exact .inl (by rw [if_neg e, h])
    · exact .inr (List.mem_cons_of_mem _ h)
theorem minOf_le : ∀ (xs : List α) (x : α), DatumOrd.lt x (PySem.W.minOf x xs) = false ∧ ∀ y ∈ xs, DatumOrd.lt y (PySem.W.minOf x xs) = false
  | [], x => ⟨Lin.irr x, fun y h => by cases h⟩
  | z :: xs, x => by
    have ih := minOf_le xs (if DatumOrd.lt z x = true then z else x)
    show DatumOrd.lt x (PySem.W.minOf (if DatumOrd.lt z x = true then z else x) xs) = false ∧ _
    have e0 : PySem.W.minOf x (z :: xs) = PySem.W.minOf (if DatumOrd.lt z x = true then z else x) xs := rfl
    rw [e0]
    have hx : DatumOrd.lt x (if DatumOrd.lt z x = true then z else x) = false := by
      by_cases e : DatumOrd.lt z x = true
      · rw [if_pos e]; exact Lin.asym e
      · rw [if_neg e]; exact Lin.irr x
    have hz : DatumOrd.lt z (if DatumOrd.lt z x = true then z else x) = false := by
      by_cases e : DatumOrd.lt z x = true
      · rw [if_pos e]; exact Lin.irr z
      · rw [if_neg e]; exact Bool.eq_false_iff.mpr e
    refine ⟨Lin.le_tr ih.1 hx, fun y hy => ?_⟩
    rcases List.mem_cons.mp hy with rfl | hy
    · exact Lin.le_tr ih.1 hz
    · exact ih.2 y hy
theorem minL_mem [Inhabited α] {xs : List α} (h : xs ≠ []) : minL xs ∈ xs := by
  cases xs with
  | nil => exact absurd rfl h
  | cons x r =>
    rcases minOf_mem r x with e | e
    · show PySem.W.minOf x r ∈ _; rw [e]; exact List.mem_cons_self ..
    · exact List.mem_cons_of_mem _ e
theorem minL_le [Inhabited α] {xs : List α} {y : α} (h : y ∈ xs) : DatumOrd.lt y (minL xs) = false := by
  cases xs with
  | nil => cases h
  | cons x r =>
    rcases List.mem_cons.mp h with rfl | h
    · exact (minOf_le r _).1
    · exact (minOf_le r x).2 y h
end
theorem erL_cons {α : Type} [DecidableEq α] (a : α) (xs : List α) (x : α) : erL (a :: xs) x = if a = x then xs else a :: erL xs x := by
  unfold erL
  rw [List.erase_cons]
  by_cases e : a = x <;> simp [e]
theorem erL_nil {α : Type} [DecidableEq α] (x : α) : erL ([] : List α) x = [] := rfl
theorem snocInd {α : Type} {P : List α → Prop} (h0 : P []) (hs : ∀ l x, P l → P (l ++ [x])) (l : List α) : P l := by
  have h : ∀ m : List α, P m.reverse := fun m => by
    induction m with
    | nil => exact h0
    | cons a m ih => rw [List.reverse_cons]; exact hs _ _ ih
  have := h l.reverse
  rwa [List.reverse_reverse] at this
/-! dicts -/
section
variable {κ ν : Type} [DecidableEq κ]
theorem dval_nil (k : κ) : dval ([] : List (κ × ν)) k = none := rfl
theorem dval_cons (p : κ × ν) (d : List (κ × ν)) (k : κ) : dval (p :: d) k = if p.1 = k then some p.2 else dval d k := by
  unfold dval
  rw [List.find?_cons]
  by_cases h : p.1 = k
  · simp [h]
  · simp [h]
theorem dval_mem {d : List (κ × ν)} {k : κ} {v : ν} (h : dval d k = some v) : (k, v) ∈ d := by
  induction d with
  | nil => cases h
  | cons p d ih =>
    rw [dval_cons] at h
    by_cases e : p.1 = k
    · rw [if_pos e] at h; cases h; subst e; exact List.mem_cons_self ..
    · rw [if_neg e] at h; exact List.mem_cons_of_mem _ (ih h)
theorem dhas_iff {d : List (κ × ν)} {k : κ} : dhas d k = true ↔ k ∈ d.map (·.1) := by
  unfold dhas
  induction d with
  | nil => simp [dval_nil]
  | cons p d ih =>
    rw [dval_cons]
    by_cases e : p.1 = k
    · simp [e]
    · rw [if_neg e, ih, List.map_cons, List.mem_cons]
      constructor
      · exact .inr
      · rintro (h | h)
        · exact absurd h.symm e
        · exact h
theorem dput_new {d : List (κ × ν)} {k : κ} {v : ν} (h : k ∉ d.map (·.1)) : dput d k v = d ++ [(k, v)] := by
  unfold dput
  rw [if_neg]
  intro hh
  obtain ⟨p, hp, e⟩ := List.any_eq_true.mp hh
  exact h (of_decide_eq_true e ▸ List.mem_map_of_mem hp)
theorem dput_len {d : List (κ × ν)} {k : κ} {v : ν} : (dput d k v).length ≤ d.length + 1 := by
  unfold dput
  by_cases h : (d.any fun kv => decide (kv.1 = k)) = true
  · rw [if_pos h, List.length_map]; omega
  · rw [if_neg h]; simp
theorem dval_map (d : List (κ × ν)) (k : κ) (v : ν) (j : κ) : dval (d.map fun kv => if kv.1 = k then (kv.1, v) else kv) j = if k = j then (dval d j).map (fun _ => v) else dval d j := by
  induction d with
  | nil => simp [dval_nil]
  | cons p d ih =>
    rw [List.map_cons, dval_cons, dval_cons, ih]
    by_cases e : p.1 = k
    · simp only [e, if_true]
      by_cases ej : k = j <;> simp [ej]
    · simp only [e, if_false]
      by_cases ej : k = j
      · subst ej; simp [e]
      · simp [ej]
theorem dval_app (d e : List (κ × ν)) (j : κ) : dval (d ++ e) j = (dval d j).or (dval e j) := by
  induction d with
  | nil => simp [dval_nil]
  | cons p d ih =>
    rw [List.cons_append, dval_cons, dval_cons, ih]
    by_cases h : p.1 = j <;> simp [h]
theorem dval_none {d : List (κ × ν)} {k : κ} : dval d k = none ↔ k ∉ d.map (·.1) := by
  rw [← dhas_iff, dhas]
  cases dval d k <;> simp
theorem any_key {d : List (κ × ν)} {k : κ} : (d.any fun kv => decide (kv.1 = k)) = true ↔ k ∈ d.map (·.1) := by
  simp [List.any_eq_true]
theorem dval_put (d : List (κ × ν)) (k : κ) (v : ν) (j : κ) : dval (dput d k v) j = if k = j then some v else dval d j := by
  unfold dput
  by_cases h : (d.any fun kv => decide (kv.1 = k)) = true
  · rw [if_pos h, dval_map]
    by_cases ej : k = j
    · subst ej
      have : dval d k ≠ none := fun e => dval_none.mp e (any_key.mp h)
      cases hd : dval d k with
      | none => exact absurd hd this
      | some _ => simp
    · simp [ej]
  · rw [if_neg h, dval_app]
    have hn : dval d k = none := dval_none.mpr fun m => h (any_key.mpr m)
    by_cases ej : k = j
    · subst ej
      rw [hn]
      simp [dval_cons]
    · rw [dval_cons, if_neg ej, if_neg ej, dval_nil]
      cases dval d j <;> rfl
theorem dput_keys (d : List (κ × ν)) (k : κ) (v : ν) : (dput d k v).map (·.1) = if k ∈ d.map (·.1) then d.map (·.1) else d.map (·.1) ++ [k] := by
  unfold dput
  by_cases h : (d.any fun kv => decide (kv.1 = k)) = true
  · rw [if_pos h, if_pos (any_key.mp h), List.map_map]
    apply List.map_congr_left
    intro p _
    show (if p.1 = k then (p.1, v) else p).1 = p.1
    by_cases e : p.1 = k <;> simp [e]
  · rw [if_neg h, if_neg fun m => h (any_key.mpr m), List.map_append]
    rfl
theorem dmerge_cons (d : List (κ × ν)) (p : κ × ν) (r : List (κ × ν)) : dmerge d (p :: r) = dmerge (dput d p.1 p.2) r := rfl
theorem dmerge_new : ∀ (m d : List (κ × ν)), (d.map (·.1) ++ m.map (·.1)).Nodup → dmerge d m = d ++ m
  | [], d, _ => by simp [dmerge]
  | p :: m, d, h => by
    rw [dmerge_cons]
    have hn : p.1 ∉ d.map (·.1) := fun hm => by
      have := List.nodup_append.mp h
      exact this.2.2 _ hm _ (List.mem_cons_self ..) rfl
    rw [dput_new hn, dmerge_new m (d ++ [(p.1, p.2)]) (by simpa [List.map_append, List.append_assoc] using h)]
    simp
end
end Sp
set_option maxHeartbeats 0
namespace K19
open PySem L2 Sp
structure BagV where
  letters : (Dct Txt (Int × Int))
instance : Inhabited BagV := ⟨⟨default⟩⟩
instance : Ob BagV := ⟨"Bag", fun m => [("letters", pu m.letters)]⟩
instance : Enc BagV := obEnc inferInstance
instance : ObOk BagV := ⟨Iff.rfl⟩
def toldT : Ex → Option Txt
  | .BadWord => some (tx "word")
  | .BadRule => some (tx "rule")
  | .BadCount => some (tx "count")
  | .NoSuch => some (tx "no such")
  | .NoWay => some (tx "no way")
  | .TooLarge => some (tx "large")
  | .BadDeed => none
  | .BadText _ => some (tx "text")
  | .BadPaper _ => none
abbrev can_be_made_w1 (nx9 : ((List Txt) × Int → Prop)) (left17 : (List Txt)) (lack18 : Int) : Prop :=
  nx9 (left17, lack18)
abbrev can_be_made_w2 (x6 : Txt) (nx9 : ((List Txt) × Int → Prop)) (left10 : (List Txt)) (lack11 : Int) : Prop :=
  (ifJ ((inL x6 left10)) (fun (nx14 : (List Txt) × Int → Prop) => (x6 ∈ left10 ∧ nx14 ((erL left10 x6), lack11))) (fun (nx14 : (List Txt) × Int → Prop) => nx14 (left10, (lack11 + (1 : Int)))) (fun (z12 : (List Txt) × Int) => (can_be_made_w1 nx9 z12.1 z12.2)))
abbrev can_be_made_w3 (left21 : (List Txt)) (lack22 : Int) (Q : Bool → Prop) : Prop :=
  Q (decide (lack22 ≤ (cnt left21 (tx "?") : Int)))
abbrev can_be_made_w4 (word1 : Txt) (left3 : (List Txt)) (lack5 : Int) (Q : Bool → Prop) : Prop :=
  (forW (word1.map fun c => [c]) (left3, lack5) (fun (x6 : Txt) (z7 : (List Txt) × Int) (nx9 : (List Txt) × Int → Prop) => (can_be_made_w2 x6 nx9 z7.1 z7.2)) (fun (z19 : (List Txt) × Int) => (can_be_made_w3 z19.1 z19.2 Q)))
abbrev can_be_made_w (word1 : Txt) (letters2 : Txt) (Q : Bool → Prop) (E : Ex → Prop) : Prop :=
  (letters2.length ≤ sizeLine ∧ (can_be_made_w4 word1 (letters2.map fun c => [c]) (0 : Int) Q))
abbrev can_be_made_W (t : Txt × Txt × Unit) (Q : Bool → Prop) (E : Ex → Prop) : Prop := can_be_made_w t.1 t.2.1 Q E

abbrev Bag_init_w1 (letters1 : (Dct Txt (Int × Int))) (Q : BagV → Prop) : Prop :=
  (List.length (srt (letters1.kvs.map (·.1))) ≤ sizeLine ∧ (∀ x3 ∈ (srt (letters1.kvs.map (·.1))), (dhas letters1.kvs x3 = true ∧ (x3, (dgt letters1.kvs x3)) = (x3, (dgt letters1.kvs x3)))) ∧ Q (BagV.mk (Dct.mk (dmerge [] ((srt (letters1.kvs.map (·.1))).map (fun (x3 : Txt) => (x3, (dgt letters1.kvs x3))))))))
abbrev Bag_init_w (letters1 : (Dct Txt (Int × Int))) (Q : BagV → Prop) (E : Ex → Prop) : Prop :=
  ((letters1.kvs.map (·.2)) = (letters1.kvs.map (·.2)) ∧ (∀ x2 ∈ (letters1.kvs.map (·.2)), (((decide (x2.1 < (0 : Int))) = false → (decide (x2.2 < (0 : Int))) = (decide (x2.2 < (0 : Int)))) ∧ ((decide (x2.1 < (0 : Int))) || (decide (x2.2 < (0 : Int)))) = ((decide (x2.1 < (0 : Int))) || (decide (x2.2 < (0 : Int)))))) ∧ ((((letters1.kvs.map (·.2)).any (fun (x2 : (Int × Int)) => ((decide (x2.1 < (0 : Int))) || (decide (x2.2 < (0 : Int)))))) = true → E .BadCount) ∧ (((letters1.kvs.map (·.2)).any (fun (x2 : (Int × Int)) => ((decide (x2.1 < (0 : Int))) || (decide (x2.2 < (0 : Int)))))) = false → (Bag_init_w1 letters1 Q))))
abbrev Bag_init_W (t : (Dct Txt (Int × Int)) × Unit) (Q : BagV → Prop) (E : Ex → Prop) : Prop := Bag_init_w t.1 Q E

abbrev Bag_left_w (self1 : BagV) (Q : Int → Prop) (E : Ex → Prop) : Prop :=
  ((self1.letters.kvs.map (·.2)) = (self1.letters.kvs.map (·.2)) ∧ (∀ x2 ∈ (self1.letters.kvs.map (·.2)), x2.1 = x2.1) ∧ SumOk ((self1.letters.kvs.map (·.2)).map (fun (x2 : (Int × Int)) => x2.1)) ∧ Q ((self1.letters.kvs.map (·.2)).map (fun (x2 : (Int × Int)) => x2.1)).sum)
abbrev Bag_left_W (t : BagV × Unit) (Q : Int → Prop) (E : Ex → Prop) : Prop := Bag_left_w t.1 Q E

abbrev Bag_draw_w1 (hand2 : Txt) (x5 : (Txt × (Int × Int))) (nx8 : ((List (Txt × (Int × Int))) → Prop)) (found9 : (List (Txt × (Int × Int)))) : Prop :=
  (found9.length < sizeLine ∧ nx8 (dput found9 x5.1 ((x5.2.1 - (cntT hand2 x5.1)), x5.2.2)))
abbrev Bag_draw_w2 (found13 : (List (Txt × (Int × Int)))) (Q : BagV → Prop) (E : Ex → Prop) : Prop :=
  (Cl (Bag_init_W ((Dct.mk found13), ())) (fun (r17 : BagV) => Q r17) E)
abbrev Bag_draw_w3 (self1 : BagV) (hand2 : Txt) (found13 : (List (Txt × (Int × Int)))) (Q : BagV → Prop) (E : Ex → Prop) : Prop :=
  ((hand2.map fun c => [c]) = (hand2.map fun c => [c]) ∧ (∀ x15 ∈ (hand2.map fun c => [c]), (!dhas self1.letters.kvs x15) = (!dhas self1.letters.kvs x15)) ∧ ((((hand2.map fun c => [c]).any (fun (x15 : Txt) => (!dhas self1.letters.kvs x15))) = false → (((Dct.mk found13).kvs.map (·.2)) = ((Dct.mk found13).kvs.map (·.2)) ∧ (∀ x16 ∈ ((Dct.mk found13).kvs.map (·.2)), (decide (x16.1 < (0 : Int))) = (decide (x16.1 < (0 : Int)))) ∧ (((Dct.mk found13).kvs.map (·.2)).any (fun (x16 : (Int × Int)) => (decide (x16.1 < (0 : Int))))) = (((Dct.mk found13).kvs.map (·.2)).any (fun (x16 : (Int × Int)) => (decide (x16.1 < (0 : Int))))))) ∧ (((((hand2.map fun c => [c]).any (fun (x15 : Txt) => (!dhas self1.letters.kvs x15))) || (((Dct.mk found13).kvs.map (·.2)).any (fun (x16 : (Int × Int)) => (decide (x16.1 < (0 : Int)))))) = true → E .BadWord) ∧ ((((hand2.map fun c => [c]).any (fun (x15 : Txt) => (!dhas self1.letters.kvs x15))) || (((Dct.mk found13).kvs.map (·.2)).any (fun (x16 : (Int × Int)) => (decide (x16.1 < (0 : Int)))))) = false → (Bag_draw_w2 found13 Q E)))))
abbrev Bag_draw_w4 (self1 : BagV) (hand2 : Txt) (found3 : (List (Txt × (Int × Int)))) (Q : BagV → Prop) (E : Ex → Prop) : Prop :=
  (forW self1.letters.kvs found3 (fun (x5 : (Txt × (Int × Int))) (z6 : (List (Txt × (Int × Int)))) (nx8 : (List (Txt × (Int × Int))) → Prop) => (Bag_draw_w1 hand2 x5 nx8 z6)) (fun (z11 : (List (Txt × (Int × Int)))) => (Bag_draw_w3 self1 hand2 z11 Q E)))
abbrev Bag_draw_w (self1 : BagV) (hand2 : Txt) (Q : BagV → Prop) (E : Ex → Prop) : Prop :=
  (Bag_draw_w4 self1 hand2 ([] : List (Txt × (Int × Int))) Q E)
abbrev Bag_draw_W (t : BagV × Txt × Unit) (Q : BagV → Prop) (E : Ex → Prop) : Prop := Bag_draw_w t.1 t.2.1 Q E

abbrev Bag_points_w1 (self1 : BagV) (hand2 : Txt) (Q : Int → Prop) : Prop :=
  ((hand2.map fun c => [c]) = (hand2.map fun c => [c]) ∧ (∀ x4 ∈ (hand2.map fun c => [c]), (dhas self1.letters.kvs x4 = true ∧ (dgt self1.letters.kvs x4).2 = (dgt self1.letters.kvs x4).2)) ∧ SumOk ((hand2.map fun c => [c]).map (fun (x4 : Txt) => (dgt self1.letters.kvs x4).2)) ∧ Q ((hand2.map fun c => [c]).map (fun (x4 : Txt) => (dgt self1.letters.kvs x4).2)).sum)
abbrev Bag_points_w (self1 : BagV) (hand2 : Txt) (Q : Int → Prop) (E : Ex → Prop) : Prop :=
  ((hand2.map fun c => [c]) = (hand2.map fun c => [c]) ∧ (∀ x3 ∈ (hand2.map fun c => [c]), (!dhas self1.letters.kvs x3) = (!dhas self1.letters.kvs x3)) ∧ ((((hand2.map fun c => [c]).any (fun (x3 : Txt) => (!dhas self1.letters.kvs x3))) = true → E .BadWord) ∧ (((hand2.map fun c => [c]).any (fun (x3 : Txt) => (!dhas self1.letters.kvs x3))) = false → (Bag_points_w1 self1 hand2 Q))))
abbrev Bag_points_W (t : BagV × Txt × Unit) (Q : Int → Prop) (E : Ex → Prop) : Prop := Bag_points_w t.1 t.2.1 Q E

abbrev Bag_laid_points_w1 (self1 : BagV) (x8 : Txt) (left12 : (List Txt)) (found13 : Int) (nx16 : ((List Txt) × Int → Prop)) (v17 : Txt) : Prop :=
  nx16 ((erL left12 v17), (found13 + ((dval self1.letters.kvs x8).getD ((0 : Int), (0 : Int))).2))
abbrev Bag_laid_points_w2 (nx11 : ((List Txt) × Int → Prop)) (left19 : (List Txt)) (found20 : Int) : Prop :=
  nx11 (left19, found20)
abbrev Bag_laid_points_w3 (self1 : BagV) (x8 : Txt) (nx11 : ((List Txt) × Int → Prop)) (left12 : (List Txt)) (found13 : Int) : Prop :=
  (ifJ ((inL x8 left12)) (fun (nx16 : (List Txt) × Int → Prop) => (x8 ∈ left12 ∧ (Bag_laid_points_w1 self1 x8 left12 found13 nx16 x8))) (fun (nx16 : (List Txt) × Int → Prop) => nx16 (left12, found13)) (fun (z14 : (List Txt) × Int) => (Bag_laid_points_w2 nx11 z14.1 z14.2)))
abbrev Bag_laid_points_w4 (found24 : Int) (Q : Int → Prop) : Prop :=
  Q found24
abbrev Bag_laid_points_w5 (self1 : BagV) (word2 : Txt) (left5 : (List Txt)) (found6 : Int) (Q : Int → Prop) : Prop :=
  (forW (word2.map fun c => [c]) (left5, found6) (fun (x8 : Txt) (z9 : (List Txt) × Int) (nx11 : (List Txt) × Int → Prop) => (Bag_laid_points_w3 self1 x8 nx11 z9.1 z9.2)) (fun (z21 : (List Txt) × Int) => (Bag_laid_points_w4 z21.2 Q)))
abbrev Bag_laid_points_w6 (self1 : BagV) (word2 : Txt) (hand3 : Txt) (Q : Int → Prop) : Prop :=
  (hand3.length ≤ sizeLine ∧ (Bag_laid_points_w5 self1 word2 (hand3.map fun c => [c]) (0 : Int) Q))
abbrev Bag_laid_points_w (self1 : BagV) (word2 : Txt) (hand3 : Txt) (Q : Int → Prop) (E : Ex → Prop) : Prop :=
  (Cl (can_be_made_W (word2, hand3, ())) (fun (r4 : Bool) => (((!r4) = true → E .NoWay) ∧ ((!r4) = false → (Bag_laid_points_w6 self1 word2 hand3 Q)))) E)
abbrev Bag_laid_points_W (t : BagV × Txt × Txt × Unit) (Q : Int → Prop) (E : Ex → Prop) : Prop := Bag_laid_points_w t.1 t.2.1 t.2.2.1 Q E

abbrev Bag_best_word_w1 (rows9 : (List (Int × Txt))) (Q : (Int × Txt) → Prop) (E : Ex → Prop) : Prop :=
  (((decide (rows9 = ([] : List (Int × Txt)))) = true → E .NoWay) ∧ ((decide (rows9 = ([] : List (Int × Txt)))) = false → (rows9 ≠ [] ∧ Q (((0 : Int) - (minL rows9).1), (minL rows9).2))))
abbrev Bag_best_word_w (self1 : BagV) (hand2 : Txt) (words3 : (List Txt)) (Q : (Int × Txt) → Prop) (E : Ex → Prop) : Prop :=
  (words3.length ≤ sizeLine ∧ ∃ (c7 : Txt → Bool) (h8 : Txt → (Int × Txt)), (∀ x4 ∈ words3, (Cl (can_be_made_W (x4, hand2, ())) (fun (r5 : Bool) => r5 = c7 x4) NoE)) ∧ (∀ x4 ∈ words3, c7 x4 = true → (Cl (Bag_laid_points_W (self1, x4, hand2, ())) (fun (r6 : Int) => (((0 : Int) - r6), x4) = h8 x4) NoE)) ∧ (Bag_best_word_w1 ((words3.filter c7).map h8) Q E))
abbrev Bag_best_word_W (t : BagV × Txt × (List Txt) × Unit) (Q : (Int × Txt) → Prop) (E : Ex → Prop) : Prop := Bag_best_word_w t.1 t.2.1 t.2.2.1 Q E

abbrev Bag_spotted_w1 (nx8 : (Int × Int → Prop)) (found9 : Int) (u11 : (Txt × Int)) (points12 : Int) (times17 : Int) : Prop :=
  (((decide (u11.1 = (tx "letter"))) = true → u11.2 = u11.2) ∧ ((decide (u11.1 = (tx "letter"))) = false → (1 : Int) = (1 : Int)) ∧ (CMul points12 (if (decide (u11.1 = (tx "letter"))) = true then u11.2 else (1 : Int)) ∧ nx8 ((found9 + (points12 * (if (decide (u11.1 = (tx "letter"))) = true then u11.2 else (1 : Int)))), times17)))
abbrev Bag_spotted_w2 (nx8 : (Int × Int → Prop)) (found9 : Int) (times10 : Int) (u11 : (Txt × Int)) (points12 : Int) : Prop :=
  (ifJ (decide (u11.1 = (tx "word"))) (fun (nx15 : Int → Prop) => (CMul times10 u11.2 ∧ nx15 (times10 * u11.2))) (fun (nx15 : Int → Prop) => nx15 times10) (fun (z13 : Int) => (Bag_spotted_w1 nx8 found9 u11 points12 z13)))
abbrev Bag_spotted_w3 (self1 : BagV) (x5 : (Int × Txt)) (nx8 : (Int × Int → Prop)) (found9 : Int) (times10 : Int) (u11 : (Txt × Int)) : Prop :=
  (Bag_spotted_w2 nx8 found9 times10 u11 ((dval self1.letters.kvs x5.2).getD ((0 : Int), (0 : Int))).2)
abbrev Bag_spotted_w4 (self1 : BagV) (spots3 : (Dct Int (Txt × Int))) (x5 : (Int × Txt)) (nx8 : (Int × Int → Prop)) (found9 : Int) (times10 : Int) : Prop :=
  (Bag_spotted_w3 self1 x5 nx8 found9 times10 ((dval spots3.kvs x5.1).getD ((tx "letter"), (1 : Int))))
abbrev Bag_spotted_w5 (found21 : Int) (times22 : Int) (Q : Int → Prop) : Prop :=
  (CMul found21 times22 ∧ Q (found21 * times22))
abbrev Bag_spotted_w6 (self1 : BagV) (word2 : Txt) (spots3 : (Dct Int (Txt × Int))) (u4 : (Int × Int)) (Q : Int → Prop) : Prop :=
  (forW (enumD (word2.map fun c => [c])) (u4.1, u4.2) (fun (x5 : (Int × Txt)) (z6 : Int × Int) (nx8 : Int × Int → Prop) => (Bag_spotted_w4 self1 spots3 x5 nx8 z6.1 z6.2)) (fun (z19 : Int × Int) => (Bag_spotted_w5 z19.1 z19.2 Q)))
abbrev Bag_spotted_w (self1 : BagV) (word2 : Txt) (spots3 : (Dct Int (Txt × Int))) (Q : Int → Prop) (E : Ex → Prop) : Prop :=
  (Bag_spotted_w6 self1 word2 spots3 ((0 : Int), (1 : Int)) Q)
abbrev Bag_spotted_W (t : BagV × Txt × (Dct Int (Txt × Int)) × Unit) (Q : Int → Prop) (E : Ex → Prop) : Prop := Bag_spotted_w t.1 t.2.1 t.2.2.1 Q E

abbrev Bag_chance_to_draw_w (self1 : BagV) (letter2 : Txt) (Q : (Int × Int) → Prop) (E : Ex → Prop) : Prop :=
  (Cl (Bag_left_W (self1, ())) (fun (r3 : Int) => Q (((dval self1.letters.kvs letter2).getD ((0 : Int), (0 : Int))).1, r3)) E)
abbrev Bag_chance_to_draw_W (t : BagV × Txt × Unit) (Q : (Int × Int) → Prop) (E : Ex → Prop) : Prop := Bag_chance_to_draw_w t.1 t.2.1 Q E

abbrev Bag_key_w (self1 : BagV) (Q : (Tup (Txt × (Int × Int))) → Prop) (E : Ex → Prop) : Prop :=
  Q (PySem.W.Tup.mk self1.letters.kvs)
abbrev Bag_key_W (t : BagV × Unit) (Q : (Tup (Txt × (Int × Int))) → Prop) (E : Ex → Prop) : Prop := Bag_key_w t.1 Q E

abbrev left_behind_w1 (x6 : Txt) (nx9 : ((List Txt) → Prop)) (left10 : (List Txt)) : Prop :=
  ((((inL x6 left10)) = true → x6 = x6) ∧ (((inL x6 left10)) = false → (tx "?") = (tx "?")) ∧ ((if ((inL x6 left10)) = true then x6 else (tx "?")) ∈ left10 ∧ nx9 (erL left10 (if ((inL x6 left10)) = true then x6 else (tx "?")))))
abbrev left_behind_w2 (left14 : (List Txt)) (Q : Txt → Prop) : Prop :=
  (lenSum (srt left14) + List.length (srt left14) * List.length (tx "") ≤ 16777216 ∧ Q (joinT (tx "") (srt left14)))
abbrev left_behind_w3 (word1 : Txt) (left4 : (List Txt)) (Q : Txt → Prop) : Prop :=
  (forW (word1.map fun c => [c]) left4 (fun (x6 : Txt) (z7 : (List Txt)) (nx9 : (List Txt) → Prop) => (left_behind_w1 x6 nx9 z7)) (fun (z12 : (List Txt)) => (left_behind_w2 z12 Q)))
abbrev left_behind_w4 (word1 : Txt) (hand2 : Txt) (Q : Txt → Prop) : Prop :=
  (hand2.length ≤ sizeLine ∧ (left_behind_w3 word1 (hand2.map fun c => [c]) Q))
abbrev left_behind_w (word1 : Txt) (hand2 : Txt) (Q : Txt → Prop) (E : Ex → Prop) : Prop :=
  (Cl (can_be_made_W (word1, hand2, ())) (fun (r3 : Bool) => (((!r3) = true → E .NoWay) ∧ ((!r3) = false → (left_behind_w4 word1 hand2 Q)))) E)
abbrev left_behind_W (t : Txt × Txt × Unit) (Q : Txt → Prop) (E : Ex → Prop) : Prop := left_behind_w t.1 t.2.1 Q E

abbrev law_word_w (letters1 : Txt) (least2 : Int) (most3 : Int) (Q : Txt → Prop) (E : Ex → Prop) : Prop :=
  (ClD (rollW (((most3 - least2) + (1 : Int)), ())) fun (r4 : Int) => ((-(2 ^ 62) ≤ (least2 + r4) ∧ (least2 + r4) < 2 ^ 62) ∧ (List.length ((List.range ((least2 + r4)).toNat).map fun i : Nat => (i : Int)) ≤ sizeLine ∧ ∃ P7 : Int → Txt → Prop, (∀ x5 ∈ ((List.range ((least2 + r4)).toNat).map fun i : Nat => (i : Int)), ((letters1.length ≤ sizeLine ∧ ClD (rollW ((letters1.length : Int), ())) fun (r6 : Int) => (letters1.length ≤ sizeLine ∧ inR letters1.length r6 ∧ P7 x5 (ixS letters1 r6))))) ∧ ∀ ys8, Each P7 ((List.range ((least2 + r4)).toNat).map fun i : Nat => (i : Int)) ys8 → (lenSum ys8 + ys8.length * List.length (tx "") ≤ 16777216 ∧ Q (joinT (tx "") ys8)))))
abbrev law_word_W (t : Txt × Int × Int × Unit) (Q : Txt → Prop) (E : Ex → Prop) : Prop := law_word_w t.1 t.2.1 t.2.2.1 Q E

abbrev law_rest1_w1 (x7 : Int) (spots11 : (List (Int × (Txt × Int)))) (nx15 : ((List (Int × (Txt × Int))) → Prop)) : Prop :=
  (ClD (rollW ((2 : Int), ())) fun (r16 : Int) => (inR (List.length [(tx "letter"), (tx "word")]) r16 ∧ (ClD (rollW ((3 : Int), ())) fun (r17 : Int) => (spots11.length < sizeLine ∧ nx15 (dput spots11 x7 ((ixD [(tx "letter"), (tx "word")] r16), ((1 : Int) + r17)))))))
abbrev law_rest1_w2 (nx10 : ((List (Int × (Txt × Int))) → Prop)) (spots19 : (List (Int × (Txt × Int)))) : Prop :=
  nx10 spots19
abbrev law_rest1_w3 (x7 : Int) (nx10 : ((List (Int × (Txt × Int))) → Prop)) (spots11 : (List (Int × (Txt × Int)))) : Prop :=
  (ClD (rollW ((2 : Int), ())) fun (r12 : Int) => (ifJ (decide (r12 = (0 : Int))) (fun (nx15 : (List (Int × (Txt × Int))) → Prop) => (law_rest1_w1 x7 spots11 nx15)) (fun (nx15 : (List (Int × (Txt × Int))) → Prop) => nx15 spots11) (fun (z13 : (List (Int × (Txt × Int)))) => (law_rest1_w2 nx10 z13))))
abbrev law_rest1_w4 (nx27 : (Int × Int → Prop)) (total28 : Int) (times29 : Int) (u30 : (Txt × Int)) (worth31 : Int) : Prop :=
  (((decide (u30.1 = (tx "letter"))) = true → u30.2 = u30.2) ∧ ((decide (u30.1 = (tx "letter"))) = false → (1 : Int) = (1 : Int)) ∧ (CMul worth31 (if (decide (u30.1 = (tx "letter"))) = true then u30.2 else (1 : Int)) ∧ (((decide (u30.1 = (tx "word"))) = true → u30.2 = u30.2) ∧ ((decide (u30.1 = (tx "word"))) = false → (1 : Int) = (1 : Int)) ∧ (CMul times29 (if (decide (u30.1 = (tx "word"))) = true then u30.2 else (1 : Int)) ∧ nx27 ((total28 + (worth31 * (if (decide (u30.1 = (tx "letter"))) = true then u30.2 else (1 : Int)))), (times29 * (if (decide (u30.1 = (tx "word"))) = true then u30.2 else (1 : Int))))))))
abbrev law_rest1_w5 (letters1 : (Dct Txt (Int × Int))) (word4 : Txt) (x24 : Int) (nx27 : (Int × Int → Prop)) (total28 : Int) (times29 : Int) (u30 : (Txt × Int)) : Prop :=
  (word4.length ≤ sizeLine ∧ inR word4.length x24 ∧ (((dhas letters1.kvs (ixS word4 x24)) = true → (word4.length ≤ sizeLine ∧ inR word4.length x24 ∧ (dhas letters1.kvs (ixS word4 x24) = true ∧ (dgt letters1.kvs (ixS word4 x24)).2 = (dgt letters1.kvs (ixS word4 x24)).2))) ∧ ((dhas letters1.kvs (ixS word4 x24)) = false → (0 : Int) = (0 : Int)) ∧ (law_rest1_w4 nx27 total28 times29 u30 (if (dhas letters1.kvs (ixS word4 x24)) = true then (dgt letters1.kvs (ixS word4 x24)).2 else (0 : Int)))))
abbrev law_rest1_w6 (letters1 : (Dct Txt (Int × Int))) (word4 : Txt) (spots22 : (List (Int × (Txt × Int)))) (x24 : Int) (nx27 : (Int × Int → Prop)) (total28 : Int) (times29 : Int) : Prop :=
  (law_rest1_w5 letters1 word4 x24 nx27 total28 times29 ((dval spots22 x24).getD ((tx "letter"), (1 : Int))))
abbrev law_rest1_w7 (bag2 : BagV) (Q : Bool → Prop) : Prop :=
  (Cl (Bag_points_W (bag2, (tx "z"), ())) (fun (r49 : Int) => (((decide ((Sum.inl r49 : (Int ⊕ Txt)) ≠ (Sum.inr (tx "word") : (Int ⊕ Txt)))) = true → ((true = true → Q false) ∧ (true = false → Q true))) ∧ ((decide ((Sum.inl r49 : (Int ⊕ Txt)) ≠ (Sum.inr (tx "word") : (Int ⊕ Txt)))) = false → (Cl (Bag_chance_to_draw_W (bag2, (tx "z"), ())) (fun (r51 : (Int × Int)) => (Cl (Bag_left_W (bag2, ())) (fun (r52 : Int) => (((decide (r51 ≠ ((0 : Int), r52))) = true → Q false) ∧ ((decide (r51 ≠ ((0 : Int), r52))) = false → Q true))) NoE)) NoE)))) (fun e => ∃ t50, toldT e = some t50 ∧ (((decide ((Sum.inr t50 : (Int ⊕ Txt)) ≠ (Sum.inr (tx "word") : (Int ⊕ Txt)))) = true → ((true = true → Q false) ∧ (true = false → Q true))) ∧ ((decide ((Sum.inr t50 : (Int ⊕ Txt)) ≠ (Sum.inr (tx "word") : (Int ⊕ Txt)))) = false → (Cl (Bag_chance_to_draw_W (bag2, (tx "z"), ())) (fun (r51 : (Int × Int)) => (Cl (Bag_left_W (bag2, ())) (fun (r52 : Int) => (((decide (r51 ≠ ((0 : Int), r52))) = true → Q false) ∧ ((decide (r51 ≠ ((0 : Int), r52))) = false → Q true))) NoE)) NoE)))))
abbrev law_rest1_w8 (bag2 : BagV) (Q : Bool → Prop) : Prop :=
  (Cl (Bag_draw_W (bag2, (tx "z"), ())) (fun (r46 : BagV) => (((!isT (Sum.inl r46 : (BagV ⊕ Txt)) (tx "word")) = true → Q false) ∧ ((!isT (Sum.inl r46 : (BagV ⊕ Txt)) (tx "word")) = false → (law_rest1_w7 bag2 Q)))) (fun e => ∃ t47, toldT e = some t47 ∧ (((!isT (Sum.inr t47 : (BagV ⊕ Txt)) (tx "word")) = true → Q false) ∧ ((!isT (Sum.inr t47 : (BagV ⊕ Txt)) (tx "word")) = false → (law_rest1_w7 bag2 Q)))))
abbrev law_rest1_w9 (bag2 : BagV) (Q : Bool → Prop) : Prop :=
  (Cl (Bag_init_W ((Dct.mk (dmerge [] [((tx "a"), (((0 : Int) - (1 : Int)), (1 : Int)))])), ())) (fun (r43 : BagV) => (((!isT (Sum.inl r43 : (BagV ⊕ Txt)) (tx "count")) = true → Q false) ∧ ((!isT (Sum.inl r43 : (BagV ⊕ Txt)) (tx "count")) = false → (law_rest1_w8 bag2 Q)))) (fun e => ∃ t44, toldT e = some t44 ∧ (((!isT (Sum.inr t44 : (BagV ⊕ Txt)) (tx "count")) = true → Q false) ∧ ((!isT (Sum.inr t44 : (BagV ⊕ Txt)) (tx "count")) = false → (law_rest1_w8 bag2 Q)))))
abbrev law_rest1_w10 (letters1 : (Dct Txt (Int × Int))) (bag2 : BagV) (word4 : Txt) (spots22 : (List (Int × (Txt × Int)))) (total36 : Int) (times37 : Int) (Q : Bool → Prop) : Prop :=
  (Cl (Bag_spotted_W (bag2, word4, (Dct.mk spots22), ())) (fun (r39 : Int) => (CMul total36 times37 ∧ (((decide (r39 ≠ (total36 * times37))) = true → ((true = true → Q false) ∧ (true = false → (law_rest1_w9 bag2 Q)))) ∧ ((decide (r39 ≠ (total36 * times37))) = false → (Cl (Bag_spotted_W (bag2, word4, (Dct.mk ([] : List (Int × (Txt × Int)))), ())) (fun (r40 : Int) => (List.length (word4.map fun c => [c]) ≤ sizeLine ∧ (∀ x41 ∈ (word4.map fun c => [c]), (dhas letters1.kvs x41) = (dhas letters1.kvs x41)) ∧ (∀ x41 ∈ (word4.map fun c => [c]), (dhas letters1.kvs x41) = true → (dhas letters1.kvs x41 = true ∧ (dgt letters1.kvs x41).2 = (dgt letters1.kvs x41).2)) ∧ (((decide (r40 ≠ (((word4.map fun c => [c]).filter (fun (x41 : Txt) => (dhas letters1.kvs x41))).map (fun (x41 : Txt) => (dgt letters1.kvs x41).2)).sum)) = true → Q false) ∧ ((decide (r40 ≠ (((word4.map fun c => [c]).filter (fun (x41 : Txt) => (dhas letters1.kvs x41))).map (fun (x41 : Txt) => (dgt letters1.kvs x41).2)).sum)) = false → (law_rest1_w9 bag2 Q))))) NoE))))) NoE)
abbrev law_rest1_w11 (letters1 : (Dct Txt (Int × Int))) (bag2 : BagV) (word4 : Txt) (spots22 : (List (Int × (Txt × Int)))) (u23 : (Int × Int)) (Q : Bool → Prop) : Prop :=
  (word4.length ≤ sizeLine ∧ ((-(2 ^ 62) ≤ (word4.length : Int) ∧ (word4.length : Int) < 2 ^ 62) ∧ (forW ((List.range ((word4.length : Int)).toNat).map fun i : Nat => (i : Int)) (u23.1, u23.2) (fun (x24 : Int) (z25 : Int × Int) (nx27 : Int × Int → Prop) => (law_rest1_w6 letters1 word4 spots22 x24 nx27 z25.1 z25.2)) (fun (z34 : Int × Int) => (law_rest1_w10 letters1 bag2 word4 spots22 z34.1 z34.2 Q)))))
abbrev law_rest1_w12 (letters1 : (Dct Txt (Int × Int))) (bag2 : BagV) (word4 : Txt) (spots22 : (List (Int × (Txt × Int)))) (Q : Bool → Prop) : Prop :=
  (law_rest1_w11 letters1 bag2 word4 spots22 ((0 : Int), (1 : Int)) Q)
abbrev law_rest1_w13 (letters1 : (Dct Txt (Int × Int))) (bag2 : BagV) (word4 : Txt) (spots5 : (List (Int × (Txt × Int)))) (Q : Bool → Prop) : Prop :=
  (word4.length ≤ sizeLine ∧ ((-(2 ^ 62) ≤ (word4.length : Int) ∧ (word4.length : Int) < 2 ^ 62) ∧ (forW ((List.range ((word4.length : Int)).toNat).map fun i : Nat => (i : Int)) spots5 (fun (x7 : Int) (z8 : (List (Int × (Txt × Int)))) (nx10 : (List (Int × (Txt × Int))) → Prop) => (law_rest1_w3 x7 nx10 z8)) (fun (z20 : (List (Int × (Txt × Int)))) => (law_rest1_w12 letters1 bag2 word4 z20 Q)))))
abbrev law_rest1_w (letters1 : (Dct Txt (Int × Int))) (bag2 : BagV) (words3 : (List Txt)) (Q : Bool → Prop) (E : Ex → Prop) : Prop :=
  (inR (words3.length) (0 : Int) ∧ (law_rest1_w13 letters1 bag2 (ixD words3 (0 : Int)) ([] : List (Int × (Txt × Int))) Q))
abbrev law_rest1_W (t : (Dct Txt (Int × Int)) × BagV × (List Txt) × Unit) (Q : Bool → Prop) (E : Ex → Prop) : Prop := law_rest1_w t.1 t.2.1 t.2.2.1 Q E

abbrev law_w1 (x40 : Txt) (nx43 : ((List (Int × Txt)) → Prop)) (rows44 : (List (Int × Txt))) (fits48 : Bool) (points50 : Int) : Prop :=
  ((fits48 = true → [(((0 : Int) - points50), x40)] = [(((0 : Int) - points50), x40)]) ∧ (fits48 = false → ([] : List (Int × Txt)) = ([] : List (Int × Txt))) ∧ (rows44.length + List.length (if fits48 = true then [(((0 : Int) - points50), x40)] else ([] : List (Int × Txt))) ≤ sizeLine ∧ nx43 (rows44 ++ (if fits48 = true then [(((0 : Int) - points50), x40)] else ([] : List (Int × Txt))))))
abbrev law_w2 (u11 : (BagV × Txt)) (x40 : Txt) (nx43 : ((List (Int × Txt)) → Prop)) (rows44 : (List (Int × Txt))) (fits48 : Bool) (points50 : Int) (rest55 : Txt) (Q : Bool → Prop) : Prop :=
  (Cl (left_behind_W (x40, u11.2, ())) (fun (r56 : Txt) => ((fits48 = true → (rest55.length ≤ sizeLine ∧ (lenSum (srt (rest55.map fun c => [c])) + List.length (srt (rest55.map fun c => [c])) * List.length (tx "") ≤ 16777216 ∧ (joinT (tx "") (srt (rest55.map fun c => [c]))) = (joinT (tx "") (srt (rest55.map fun c => [c])))))) ∧ (fits48 = false → (tx "no way") = (tx "no way")) ∧ (((decide (r56 ≠ (if fits48 = true then (joinT (tx "") (srt (rest55.map fun c => [c]))) else (tx "no way")))) = true → Q false) ∧ ((decide (r56 ≠ (if fits48 = true then (joinT (tx "") (srt (rest55.map fun c => [c]))) else (tx "no way")))) = false → (law_w1 x40 nx43 rows44 fits48 points50))))) (fun e => ∃ t57, toldT e = some t57 ∧ ((fits48 = true → (rest55.length ≤ sizeLine ∧ (lenSum (srt (rest55.map fun c => [c])) + List.length (srt (rest55.map fun c => [c])) * List.length (tx "") ≤ 16777216 ∧ (joinT (tx "") (srt (rest55.map fun c => [c]))) = (joinT (tx "") (srt (rest55.map fun c => [c])))))) ∧ (fits48 = false → (tx "no way") = (tx "no way")) ∧ (((decide (t57 ≠ (if fits48 = true then (joinT (tx "") (srt (rest55.map fun c => [c]))) else (tx "no way")))) = true → Q false) ∧ ((decide (t57 ≠ (if fits48 = true then (joinT (tx "") (srt (rest55.map fun c => [c]))) else (tx "no way")))) = false → (law_w1 x40 nx43 rows44 fits48 points50))))))
abbrev law_w3 (u11 : (BagV × Txt)) (x40 : Txt) (nx43 : ((List (Int × Txt)) → Prop)) (rows44 : (List (Int × Txt))) (real46 : (Dct Txt Int)) (lack47 : Int) (fits48 : Bool) (points50 : Int) (Q : Bool → Prop) : Prop :=
  ((-(2 ^ 63) ≤ ((cntT u11.2 (tx "?")) - lack47) ∧ List.length (tx "?") * (((cntT u11.2 (tx "?")) - lack47)).toNat ≤ 16777216 ∧ ((cntT u11.2 (tx "?")) - lack47) ≤ 16777216) ∧ (List.length ((tx "abc").map fun c => [c]) ≤ sizeLine ∧ (∀ x54 ∈ ((tx "abc").map fun c => [c]), (dhas real46.kvs x54 = true ∧ ((-(2 ^ 63) ≤ ((cntT u11.2 x54) - (dgt real46.kvs x54)) ∧ x54.length * (((cntT u11.2 x54) - (dgt real46.kvs x54))).toNat ≤ 16777216 ∧ ((cntT u11.2 x54) - (dgt real46.kvs x54)) ≤ 16777216) ∧ (repS x54 ((cntT u11.2 x54) - (dgt real46.kvs x54))) = (repS x54 ((cntT u11.2 x54) - (dgt real46.kvs x54)))))) ∧ (List.length [(repS (tx "?") ((cntT u11.2 (tx "?")) - lack47))] + List.length (((tx "abc").map fun c => [c]).map (fun (x54 : Txt) => (repS x54 ((cntT u11.2 x54) - (dgt real46.kvs x54))))) ≤ sizeLine ∧ (lenSum ([(repS (tx "?") ((cntT u11.2 (tx "?")) - lack47))] ++ (((tx "abc").map fun c => [c]).map (fun (x54 : Txt) => (repS x54 ((cntT u11.2 x54) - (dgt real46.kvs x54)))))) + List.length ([(repS (tx "?") ((cntT u11.2 (tx "?")) - lack47))] ++ (((tx "abc").map fun c => [c]).map (fun (x54 : Txt) => (repS x54 ((cntT u11.2 x54) - (dgt real46.kvs x54)))))) * List.length (tx "") ≤ 16777216 ∧ (law_w2 u11 x40 nx43 rows44 fits48 points50 (joinT (tx "") ([(repS (tx "?") ((cntT u11.2 (tx "?")) - lack47))] ++ (((tx "abc").map fun c => [c]).map (fun (x54 : Txt) => (repS x54 ((cntT u11.2 x54) - (dgt real46.kvs x54))))))) Q)))))
abbrev law_w4 (u11 : (BagV × Txt)) (x40 : Txt) (nx43 : ((List (Int × Txt)) → Prop)) (rows44 : (List (Int × Txt))) (real46 : (Dct Txt Int)) (lack47 : Int) (fits48 : Bool) (points50 : Int) (Q : Bool → Prop) : Prop :=
  (Cl (Bag_laid_points_W (u11.1, x40, u11.2, ())) (fun (r51 : Int) => ((fits48 = true → (Sum.inl points50 : (Int ⊕ Txt)) = (Sum.inl points50 : (Int ⊕ Txt))) ∧ (fits48 = false → (Sum.inr (tx "no way") : (Int ⊕ Txt)) = (Sum.inr (tx "no way") : (Int ⊕ Txt))) ∧ (((decide ((Sum.inl r51 : (Int ⊕ Txt)) ≠ (if fits48 = true then (Sum.inl points50 : (Int ⊕ Txt)) else (Sum.inr (tx "no way") : (Int ⊕ Txt))))) = true → Q false) ∧ ((decide ((Sum.inl r51 : (Int ⊕ Txt)) ≠ (if fits48 = true then (Sum.inl points50 : (Int ⊕ Txt)) else (Sum.inr (tx "no way") : (Int ⊕ Txt))))) = false → (law_w3 u11 x40 nx43 rows44 real46 lack47 fits48 points50 Q))))) (fun e => ∃ t52, toldT e = some t52 ∧ ((fits48 = true → (Sum.inl points50 : (Int ⊕ Txt)) = (Sum.inl points50 : (Int ⊕ Txt))) ∧ (fits48 = false → (Sum.inr (tx "no way") : (Int ⊕ Txt)) = (Sum.inr (tx "no way") : (Int ⊕ Txt))) ∧ (((decide ((Sum.inr t52 : (Int ⊕ Txt)) ≠ (if fits48 = true then (Sum.inl points50 : (Int ⊕ Txt)) else (Sum.inr (tx "no way") : (Int ⊕ Txt))))) = true → Q false) ∧ ((decide ((Sum.inr t52 : (Int ⊕ Txt)) ≠ (if fits48 = true then (Sum.inl points50 : (Int ⊕ Txt)) else (Sum.inr (tx "no way") : (Int ⊕ Txt))))) = false → (law_w3 u11 x40 nx43 rows44 real46 lack47 fits48 points50 Q))))))
abbrev law_w5 (letters8 : (Dct Txt (Int × Int))) (u11 : (BagV × Txt)) (x40 : Txt) (nx43 : ((List (Int × Txt)) → Prop)) (rows44 : (List (Int × Txt))) (real46 : (Dct Txt Int)) (lack47 : Int) (fits48 : Bool) (Q : Bool → Prop) : Prop :=
  (List.length ((tx "abc").map fun c => [c]) ≤ sizeLine ∧ (∀ x49 ∈ ((tx "abc").map fun c => [c]), (dhas real46.kvs x49 = true ∧ (dhas letters8.kvs x49 = true ∧ (CMul (dgt real46.kvs x49) (dgt letters8.kvs x49).2 ∧ ((dgt real46.kvs x49) * (dgt letters8.kvs x49).2) = ((dgt real46.kvs x49) * (dgt letters8.kvs x49).2))))) ∧ (law_w4 u11 x40 nx43 rows44 real46 lack47 fits48 (((tx "abc").map fun c => [c]).map (fun (x49 : Txt) => ((dgt real46.kvs x49) * (dgt letters8.kvs x49).2))).sum Q))
abbrev law_w6 (letters8 : (Dct Txt (Int × Int))) (u11 : (BagV × Txt)) (x40 : Txt) (nx43 : ((List (Int × Txt)) → Prop)) (rows44 : (List (Int × Txt))) (real46 : (Dct Txt Int)) (lack47 : Int) (Q : Bool → Prop) : Prop :=
  (law_w5 letters8 u11 x40 nx43 rows44 real46 lack47 (decide (lack47 ≤ (cntT u11.2 (tx "?")))) Q)
abbrev law_w7 (letters8 : (Dct Txt (Int × Int))) (u11 : (BagV × Txt)) (x40 : Txt) (nx43 : ((List (Int × Txt)) → Prop)) (rows44 : (List (Int × Txt))) (real46 : (Dct Txt Int)) (Q : Bool → Prop) : Prop :=
  (x40.length ≤ sizeLine ∧ (law_w6 letters8 u11 x40 nx43 rows44 real46 ((x40.length : Int) - (real46.kvs.map (fun q => q.2)).sum) Q))
abbrev law_w8 (letters8 : (Dct Txt (Int × Int))) (u11 : (BagV × Txt)) (x40 : Txt) (nx43 : ((List (Int × Txt)) → Prop)) (rows44 : (List (Int × Txt))) (Q : Bool → Prop) : Prop :=
  (List.length ((tx "abcd").map fun c => [c]) ≤ sizeLine ∧ (∀ x45 ∈ ((tx "abcd").map fun c => [c]), (x45, (min (cntT x40 x45) (cntT u11.2 x45))) = (x45, (min (cntT x40 x45) (cntT u11.2 x45)))) ∧ (law_w7 letters8 u11 x40 nx43 rows44 (Dct.mk (dmerge [] (((tx "abcd").map fun c => [c]).map (fun (x45 : Txt) => (x45, (min (cntT x40 x45) (cntT u11.2 x45))))))) Q))
abbrev law_w9 (letters8 : (Dct Txt (Int × Int))) (u11 : (BagV × Txt)) (u39 : ((List Txt) × (List (Int × Txt)))) (Q : Bool → Prop) : Prop :=
  (ClD (law_rest1_W (letters8, u11.1, u39.1, ())) fun (r67 : Bool) => (((!r67) = true → Q false) ∧ ((!r67) = false → Q true)))
abbrev law_w10 (letters8 : (Dct Txt (Int × Int))) (u11 : (BagV × Txt)) (u39 : ((List Txt) × (List (Int × Txt)))) (rows62 : (List (Int × Txt))) (best65 : ((Int × Txt) ⊕ Txt)) (Q : Bool → Prop) : Prop :=
  (((decide (rows62 ≠ ([] : List (Int × Txt)))) = true → (rows62 ≠ [] ∧ (rows62 ≠ [] ∧ (Sum.inl (((0 : Int) - (minL rows62).1), (minL rows62).2) : ((Int × Txt) ⊕ Txt)) = (Sum.inl (((0 : Int) - (minL rows62).1), (minL rows62).2) : ((Int × Txt) ⊕ Txt))))) ∧ ((decide (rows62 ≠ ([] : List (Int × Txt)))) = false → (Sum.inr (tx "no way") : ((Int × Txt) ⊕ Txt)) = (Sum.inr (tx "no way") : ((Int × Txt) ⊕ Txt))) ∧ (((decide (best65 ≠ (if (decide (rows62 ≠ ([] : List (Int × Txt)))) = true then (Sum.inl (((0 : Int) - (minL rows62).1), (minL rows62).2) : ((Int × Txt) ⊕ Txt)) else (Sum.inr (tx "no way") : ((Int × Txt) ⊕ Txt))))) = true → Q false) ∧ ((decide (best65 ≠ (if (decide (rows62 ≠ ([] : List (Int × Txt)))) = true then (Sum.inl (((0 : Int) - (minL rows62).1), (minL rows62).2) : ((Int × Txt) ⊕ Txt)) else (Sum.inr (tx "no way") : ((Int × Txt) ⊕ Txt))))) = false → (law_w9 letters8 u11 u39 Q))))
abbrev law_w11 (letters8 : (Dct Txt (Int × Int))) (u11 : (BagV × Txt)) (u39 : ((List Txt) × (List (Int × Txt)))) (rows62 : (List (Int × Txt))) (Q : Bool → Prop) : Prop :=
  (Cl (Bag_best_word_W (u11.1, u11.2, u39.1, ())) (fun (r63 : (Int × Txt)) => (law_w10 letters8 u11 u39 rows62 (Sum.inl r63 : ((Int × Txt) ⊕ Txt)) Q)) (fun e => ∃ t64, toldT e = some t64 ∧ (law_w10 letters8 u11 u39 rows62 (Sum.inr t64 : ((Int × Txt) ⊕ Txt)) Q)))
abbrev law_w12 (letters8 : (Dct Txt (Int × Int))) (u11 : (BagV × Txt)) (u39 : ((List Txt) × (List (Int × Txt)))) (Q : Bool → Prop) : Prop :=
  (forW u39.1 u39.2 (fun (x40 : Txt) (z41 : (List (Int × Txt))) (nx43 : (List (Int × Txt)) → Prop) => (law_w8 letters8 u11 x40 nx43 z41 Q)) (fun (z60 : (List (Int × Txt))) => (law_w11 letters8 u11 u39 z60 Q)))
abbrev law_w13 (letters8 : (Dct Txt (Int × Int))) (u11 : (BagV × Txt)) (Q : Bool → Prop) : Prop :=
  (ClD (rollW ((6 : Int), ())) fun (r34 : Int) => ((-(2 ^ 62) ≤ ((1 : Int) + r34) ∧ ((1 : Int) + r34) < 2 ^ 62) ∧ (List.length ((List.range (((1 : Int) + r34)).toNat).map fun i : Nat => (i : Int)) ≤ sizeLine ∧ ∃ P37 : Int → Txt → Prop, (∀ x35 ∈ ((List.range (((1 : Int) + r34)).toNat).map fun i : Nat => (i : Int)), (ClD (law_word_W ((tx "abcd"), (1 : Int), (4 : Int), ())) fun (r36 : Txt) => P37 x35 r36)) ∧ ∀ ys38, Each P37 ((List.range (((1 : Int) + r34)).toNat).map fun i : Nat => (i : Int)) ys38 → (law_w12 letters8 u11 (ys38, ([] : List (Int × Txt))) Q))))
abbrev law_w14 (letters8 : (Dct Txt (Int × Int))) (u11 : (BagV × Txt)) (Q : Bool → Prop) (E : Ex → Prop) : Prop :=
  (Cl (Bag_points_W (u11.1, u11.2, ())) (fun (r31 : Int) => (List.length (u11.2.map fun c => [c]) ≤ sizeLine ∧ (∀ x32 ∈ (u11.2.map fun c => [c]), (dhas letters8.kvs x32 = true ∧ (dgt letters8.kvs x32).2 = (dgt letters8.kvs x32).2)) ∧ (((decide (r31 ≠ ((u11.2.map fun c => [c]).map (fun (x32 : Txt) => (dgt letters8.kvs x32).2)).sum)) = true → Q false) ∧ ((decide (r31 ≠ ((u11.2.map fun c => [c]).map (fun (x32 : Txt) => (dgt letters8.kvs x32).2)).sum)) = false → (law_w13 letters8 u11 Q))))) E)
abbrev law_w15 (letters8 : (Dct Txt (Int × Int))) (u11 : (BagV × Txt)) (after19 : (BagV ⊕ Txt)) (Q : Bool → Prop) (E : Ex → Prop) : Prop :=
  (((!isT after19 (tx "word")) = true → (after19.isLeft = true ∧ (Cl (Bag_left_W ((sumL after19), ())) (fun (r23 : Int) => (Cl (Bag_left_W (u11.1, ())) (fun (r24 : Int) => (u11.2.length ≤ sizeLine ∧ (((decide (r23 ≠ (r24 - (u11.2.length : Int)))) = true → ((true = true → Q false) ∧ (true = false → (law_w14 letters8 u11 Q E)))) ∧ ((decide (r23 ≠ (r24 - (u11.2.length : Int)))) = false → (List.length (letters8.kvs.map (·.1)) ≤ sizeLine ∧ ∃ (c28 : Txt → Bool) (h29 : Txt → Txt), (∀ x25 ∈ (letters8.kvs.map (·.1)), (after19.isLeft = true ∧ (Cl (Bag_chance_to_draw_W ((sumL after19), x25, ())) (fun (r26 : (Int × Int)) => (dhas letters8.kvs x25 = true ∧ (after19.isLeft = true ∧ (Cl (Bag_left_W ((sumL after19), ())) (fun (r27 : Int) => (decide (r26 ≠ (((dgt letters8.kvs x25).1 - (cntT u11.2 x25)), r27))) = c28 x25) NoE)))) NoE))) ∧ (∀ x25 ∈ (letters8.kvs.map (·.1)), c28 x25 = true → x25 = h29 x25) ∧ (((decide ((((letters8.kvs.map (·.1)).filter c28).map h29) ≠ ([] : List Txt))) = true → Q false) ∧ ((decide ((((letters8.kvs.map (·.1)).filter c28).map h29) ≠ ([] : List Txt))) = false → (law_w14 letters8 u11 Q E)))))))) E)) E))) ∧ ((!isT after19 (tx "word")) = false → ((false = true → Q false) ∧ (false = false → (law_w14 letters8 u11 Q E)))))
abbrev law_w16 (letters8 : (Dct Txt (Int × Int))) (u11 : (BagV × Txt)) (after19 : (BagV ⊕ Txt)) (short21 : (List Txt)) (Q : Bool → Prop) (E : Ex → Prop) : Prop :=
  (((decide ((isT after19 (tx "word")) ≠ (decide (short21 ≠ ([] : List Txt))))) = true → Q false) ∧ ((decide ((isT after19 (tx "word")) ≠ (decide (short21 ≠ ([] : List Txt))))) = false → (law_w15 letters8 u11 after19 Q E)))
abbrev law_w17 (letters8 : (Dct Txt (Int × Int))) (u11 : (BagV × Txt)) (after19 : (BagV ⊕ Txt)) (Q : Bool → Prop) (E : Ex → Prop) : Prop :=
  (List.length (letters8.kvs.map (·.1)) ≤ sizeLine ∧ (∀ x20 ∈ (letters8.kvs.map (·.1)), (dhas letters8.kvs x20 = true ∧ (decide ((dgt letters8.kvs x20).1 < (cntT u11.2 x20))) = (decide ((dgt letters8.kvs x20).1 < (cntT u11.2 x20))))) ∧ (∀ x20 ∈ (letters8.kvs.map (·.1)), (decide ((dgt letters8.kvs x20).1 < (cntT u11.2 x20))) = true → x20 = x20) ∧ (law_w16 letters8 u11 after19 (((letters8.kvs.map (·.1)).filter (fun (x20 : Txt) => (decide ((dgt letters8.kvs x20).1 < (cntT u11.2 x20))))).map (fun (x20 : Txt) => x20)) Q E))
abbrev law_w18 (letters8 : (Dct Txt (Int × Int))) (u11 : (BagV × Txt)) (Q : Bool → Prop) (E : Ex → Prop) : Prop :=
  (Cl (Bag_draw_W (u11.1, u11.2, ())) (fun (r17 : BagV) => (law_w17 letters8 u11 (Sum.inl r17 : (BagV ⊕ Txt)) Q E)) (fun e => ∃ t18, toldT e = some t18 ∧ (law_w17 letters8 u11 (Sum.inr t18 : (BagV ⊕ Txt)) Q E)))
abbrev law_w19 (letters8 : (Dct Txt (Int × Int))) (u11 : (BagV × Txt)) (Q : Bool → Prop) (E : Ex → Prop) : Prop :=
  (Cl (Bag_left_W (u11.1, ())) (fun (r12 : Int) => (List.length (letters8.kvs.map (·.2)) ≤ sizeLine ∧ (∀ x13 ∈ (letters8.kvs.map (·.2)), x13.1 = x13.1) ∧ (((decide (r12 ≠ ((letters8.kvs.map (·.2)).map (fun (x13 : (Int × Int)) => x13.1)).sum)) = true → ((true = true → Q false) ∧ (true = false → (law_w18 letters8 u11 Q E)))) ∧ ((decide (r12 ≠ ((letters8.kvs.map (·.2)).map (fun (x13 : (Int × Int)) => x13.1)).sum)) = false → (Cl (Bag_key_W (u11.1, ())) (fun (r14 : (Tup (Txt × (Int × Int)))) => (List.length (srt (letters8.kvs.map (·.1))) ≤ sizeLine ∧ (∀ x15 ∈ (srt (letters8.kvs.map (·.1))), (dhas letters8.kvs x15 = true ∧ (x15, (dgt letters8.kvs x15)) = (x15, (dgt letters8.kvs x15)))) ∧ (((decide (r14 ≠ (PySem.W.Tup.mk ((srt (letters8.kvs.map (·.1))).map (fun (x15 : Txt) => (x15, (dgt letters8.kvs x15))))))) = true → Q false) ∧ ((decide (r14 ≠ (PySem.W.Tup.mk ((srt (letters8.kvs.map (·.1))).map (fun (x15 : Txt) => (x15, (dgt letters8.kvs x15))))))) = false → (law_w18 letters8 u11 Q E))))) E))))) E)
abbrev law_w20 (letters8 : (Dct Txt (Int × Int))) (Q : Bool → Prop) (E : Ex → Prop) : Prop :=
  (Cl (Bag_init_W (letters8, ())) (fun (r9 : BagV) => (ClD (law_word_W ((tx "abc?"), (0 : Int), (6 : Int), ())) fun (r10 : Txt) => (law_w19 letters8 (r9, r10) Q E))) E)
abbrev law_w21 (Q : Bool → Prop) (E : Ex → Prop) : Prop :=
  (List.length ((tx "abc").map fun c => [c]) ≤ sizeLine ∧ ∃ P6 : Txt → (Txt × (Int × Int)) → Prop, (∀ x3 ∈ ((tx "abc").map fun c => [c]), (ClD (rollW ((5 : Int), ())) fun (r4 : Int) => (ClD (rollW ((9 : Int), ())) fun (r5 : Int) => P6 x3 (x3, (r4, r5))))) ∧ ∀ ys7, Each P6 ((tx "abc").map fun c => [c]) ys7 → (ys7.length + List.length [((tx "?"), ((2 : Int), (0 : Int)))] ≤ sizeLine ∧ (law_w20 (Dct.mk (dmerge [] (ys7 ++ [((tx "?"), ((2 : Int), (0 : Int)))]))) Q E)))
abbrev law_w (script1 : (List Int)) (Q : Bool → Prop) (E : Ex → Prop) : Prop :=
  (law_w21 Q E)
abbrev law_W (t : (List Int) × Unit) (Q : Bool → Prop) (E : Ex → Prop) : Prop := law_w t.1 Q E

end K19
set_option maxHeartbeats 0
namespace K19
open PySem L2 Sp
abbrev top (i : Nat) : Stmt := PySem.Challenge.pw_spellhall_k19_tiles.main.body.getD i (.Pass ⟨0, 0, 0, 0⟩)
def d_can_be_made : He.DefD := ⟨("can_be_made", none), "can_be_made", "can_be_made", defArgs (top 10), defBody (top 10), defScope (top 10), [], []⟩
def d_Bag_init : He.DefD := ⟨("Bag", some "__init__"), "__init__", "Bag.__init__", defArgs (inClass (top 12) 0), defBody (inClass (top 12) 0), defScope (inClass (top 12) 0), [], []⟩
def d_Bag_left : He.DefD := ⟨("Bag", some "left"), "left", "Bag.left", defArgs (inClass (top 12) 1), defBody (inClass (top 12) 1), defScope (inClass (top 12) 1), [], []⟩
def d_Bag_draw : He.DefD := ⟨("Bag", some "draw"), "draw", "Bag.draw", defArgs (inClass (top 12) 2), defBody (inClass (top 12) 2), defScope (inClass (top 12) 2), [], []⟩
def d_Bag_points : He.DefD := ⟨("Bag", some "points"), "points", "Bag.points", defArgs (inClass (top 12) 3), defBody (inClass (top 12) 3), defScope (inClass (top 12) 3), [], []⟩
def d_Bag_laid_points : He.DefD := ⟨("Bag", some "laid_points"), "laid_points", "Bag.laid_points", defArgs (inClass (top 12) 4), defBody (inClass (top 12) 4), defScope (inClass (top 12) 4), [], []⟩
def d_Bag_best_word : He.DefD := ⟨("Bag", some "best_word"), "best_word", "Bag.best_word", defArgs (inClass (top 12) 5), defBody (inClass (top 12) 5), defScope (inClass (top 12) 5), [], []⟩
def d_Bag_spotted : He.DefD := ⟨("Bag", some "spotted"), "spotted", "Bag.spotted", defArgs (inClass (top 12) 6), defBody (inClass (top 12) 6), defScope (inClass (top 12) 6), [], []⟩
def d_Bag_chance_to_draw : He.DefD := ⟨("Bag", some "chance_to_draw"), "chance_to_draw", "Bag.chance_to_draw", defArgs (inClass (top 12) 7), defBody (inClass (top 12) 7), defScope (inClass (top 12) 7), [], []⟩
def d_Bag_key : He.DefD := ⟨("Bag", some "key"), "key", "Bag.key", defArgs (inClass (top 12) 8), defBody (inClass (top 12) 8), defScope (inClass (top 12) 8), [], []⟩
def d_left_behind : He.DefD := ⟨("left_behind", none), "left_behind", "left_behind", defArgs (top 13), defBody (top 13), defScope (top 13), [], []⟩
def d__law_dice : He.DefD := ⟨("_law_dice", none), "_law_dice", "_law_dice", defArgs (top 15), defBody (top 15), defScope (top 15), [], []⟩
def d__law_roll : He.DefD := ⟨("_law_roll", none), "_law_roll", "_law_roll", defArgs (top 16), defBody (top 16), defScope (top 16), [], []⟩
def d__law_rounds : He.DefD := ⟨("_law_rounds", none), "_law_rounds", "_law_rounds", defArgs (top 17), defBody (top 17), defScope (top 17), [], []⟩
def d__law_told : He.DefD := ⟨("_law_told", none), "_law_told", "_law_told", defArgs (top 18), defBody (top 18), defScope (top 18), [], []⟩
def d__law_word : He.DefD := ⟨("_law_word", none), "_law_word", "_law_word", defArgs (top 19), defBody (top 19), defScope (top 19), [], []⟩
def d__law_rest1 : He.DefD := ⟨("_law_rest1", none), "_law_rest1", "_law_rest1", defArgs (top 20), defBody (top 20), defScope (top 20), [], []⟩
def d_law : He.DefD := ⟨("law", none), "law", "law", defArgs (top 21), defBody (top 21), defScope (top 21), [], []⟩
def fn : List He.DefD := [d_can_be_made, d_Bag_init, d_Bag_left, d_Bag_draw, d_Bag_points, d_Bag_laid_points, d_Bag_best_word, d_Bag_spotted, d_Bag_chance_to_draw, d_Bag_key, d_left_behind, d__law_dice, d__law_roll, d__law_rounds, d__law_told, d__law_word, d__law_rest1, d_law]
def fa0 : List He.Fa := [.glo "can_be_made", .glo "left_behind", .glo "_law_dice", .glo "_law_roll", .glo "_law_rounds", .glo "_law_told", .glo "_law_word", .glo "_law_rest1", .glo "law", .glo "Bag", .glo "SpellFault", .glo "BadWord", .glo "BadRule", .glo "BadCount", .glo "NoSuch", .glo "NoWay", .glo "TooLarge", .glo "BadText", .free "len", .free "range", .free "sorted", .free "list", .free "tuple", .free "dict", .free "int", .free "str", .free "abs", .free "min", .free "max", .free "sum"]
def fa1 : List He.Fa := [.free "any", .free "all", .free "enumerate", .free "zip", .free "reversed", .free "isinstance", .free "super", .cls "Bag", .mkr "Bag", .noat "Bag" "letters", .meth "Bag" "left", .meth "Bag" "draw", .meth "Bag" "points", .meth "Bag" "laid_points", .meth "Bag" "best_word", .meth "Bag" "spotted", .meth "Bag" "chance_to_draw", .meth "Bag" "key", .exc "SpellFault", .exc "BadWord", .exc "BadRule", .exc "BadCount", .exc "NoSuch", .exc "NoWay", .exc "TooLarge", .exm "BadWord" "BadCount" false, .exm "BadWord" "BadRule" false, .exm "BadWord" "BadWord" true, .exm "BadWord" "NoSuch" false, .exm "BadWord" "NoWay" false]
def fa2 : List He.Fa := [.exm "BadWord" "TooLarge" false, .exm "BadWord" "BadText" false, .exm "BadRule" "BadCount" false, .exm "BadRule" "BadRule" true, .exm "BadRule" "BadWord" false, .exm "BadRule" "NoSuch" false, .exm "BadRule" "NoWay" false, .exm "BadRule" "TooLarge" false, .exm "BadRule" "BadText" false, .exm "BadCount" "BadCount" true, .exm "BadCount" "BadRule" false, .exm "BadCount" "BadWord" false, .exm "BadCount" "NoSuch" false, .exm "BadCount" "NoWay" false, .exm "BadCount" "TooLarge" false, .exm "BadCount" "BadText" false, .exm "NoSuch" "BadCount" false, .exm "NoSuch" "BadRule" false, .exm "NoSuch" "BadWord" false, .exm "NoSuch" "NoSuch" true, .exm "NoSuch" "NoWay" false, .exm "NoSuch" "TooLarge" false, .exm "NoSuch" "BadText" false, .exm "NoWay" "BadCount" false, .exm "NoWay" "BadRule" false, .exm "NoWay" "BadWord" false, .exm "NoWay" "NoSuch" false, .exm "NoWay" "NoWay" true, .exm "NoWay" "TooLarge" false, .exm "NoWay" "BadText" false]
def fa3 : List He.Fa := [.exm "TooLarge" "BadCount" false, .exm "TooLarge" "BadRule" false, .exm "TooLarge" "BadWord" false, .exm "TooLarge" "NoSuch" false, .exm "TooLarge" "NoWay" false, .exm "TooLarge" "TooLarge" true, .exm "TooLarge" "BadText" false, .exm "BadText" "BadCount" false, .exm "BadText" "BadRule" false, .exm "BadText" "BadWord" false, .exm "BadText" "NoSuch" false, .exm "BadText" "NoWay" false, .exm "BadText" "TooLarge" false, .exm "BadText" "BadText" true]
def fa : List He.Fa := fa0 ++ (fa1 ++ (fa2 ++ (fa3)))
def tq : TQ := [(("Bag", some "__init__"), (("Bag.__init__" : Str) ++ ".<locals>.") ++ "<genexpr>"), (("Bag", some "left"), (("Bag.left" : Str) ++ ".<locals>.") ++ "<genexpr>"), (("Bag", some "draw"), (("Bag.draw" : Str) ++ ".<locals>.") ++ "<genexpr>"), (("Bag", some "points"), (("Bag.points" : Str) ++ ".<locals>.") ++ "<genexpr>"), (("_law_rest1", none), (("_law_rest1" : Str) ++ ".<locals>.") ++ "<lambda>"), (("law", none), (("law" : Str) ++ ".<locals>.") ++ "<lambda>")]
def names : List PySem.Str := ["SpellFault", "BadWord", "BadRule", "BadCount", "NoSuch", "NoWay", "TooLarge", "BadText", "can_be_made", "Bag", "left_behind", "_law_dice", "_law_roll", "_law_rounds", "_law_told", "_law_word", "_law_rest1"]
abbrev R : PySem.W.OpenRow := PySem.W.OpenLaw.row PySem.Challenge.rw_spellhall_k19_tiles
def cmc : List PySem.Str := ["Bag"]
def ndTab (K : PySem.W.Frag) : Bool := decide (tq.map fun p => (He.cT K p.1).2).Nodup && cmc.all fun c => HN.cmpB K (He.ga K c)
abbrev hk : PySem.W.Hook := He.hookX 5 fa fn [] (tq.map (·.1)) ndTab
def ob (s : PySem.W.SharedT) : He.AlX := He.obsX 5 fa fn [] (tq.map (·.1)) ndTab (HandSHeadRun.getT s)
theorem ob_eq (s : PySem.W.SharedT) : ob s = hk.obs s.abs := He.obsX_eq (HandSHeadRun.getT_eq s)
theorem run (w : World) : HandSHeadRun.RunEq R (PySem.W.view R.prog [21]) hk ob 4000 names w := by
  intro os
  kernel_rfl
end K19
set_option maxHeartbeats 0
namespace K19
open PySem L2 Sp
section
variable {P : Program} {w : World} {K : Frag} {mg : Str → Option Value} {base : Heap}
theorem dice_S : FnScope ["cell"] ["cell"] d__law_dice.scope := ⟨rfl, rfl, rfl, by decide +kernel, rfl, by decide +kernel, by decide +kernel⟩
theorem ok_dice (B : Bis mg) (L : LK w K mg base fa fn tq) {fd : FuncData} (F1 : Fd K d__law_dice ["cell"] fd) : FnOk P w K mg base (L2.CX P w) 1 (He.fAd K d__law_dice.at_) fd ["cell"] (toSp K (tbOf K tq) 1 dDiceA) := by
  refine dice_D (df_ok (k := 0) L F1 dice_S dDice0 (fun As gs R E ⟨_, e, _⟩ => by rw [e]; rfl) fun cdv A outer s H F gs E ex As R X hd hex tbl ok => ?_)
  obtain ⟨c, rfl, rfl, k⟩ := hd
  refine ws_cons (w1_if (.of (etp_ltlt (evp_sub evp_int evp_int) (evp_var 0 rfl (.inl rfl) rfl) evp_int) ?_))
  by_cases h : (decide ((0 : Int) - 10 < c) && decide (c < 10)) = true
  · rw [if_pos h]
    refine ws_one (w1_ret (ev_listO (α := Int) (.of (evsp_cons (evp_abs B rfl (evp_var 0 rfl (.inl rfl) rfl)) (evsp_cons evp_int (evsp_cons evp_int evsp_nil))) ⟨[_, _, _], rfl, (show 3 ≤ _ by decide), fun q => ⟨0, k _ _ _ _⟩⟩)))
  · rw [if_neg h]
    refine ws_nil ?_
    refine ws_one (w1_ret (ev_listO (α := Int) (.of (evsp_cons (evp_var 0 rfl (.inl rfl) rfl) (evsp_cons (evp_add evp_int (evp_mod (evp_int1 B rfl (evp_var 0 rfl (.inl rfl) rfl)) evp_int (by decide))) (evsp_cons (evp_intB B rfl (evp_cmp (cmp_ge (evp_var 0 rfl (.inl rfl) rfl) (evp_pow evp_int evp_int ⟨by decide, by decide, by decide⟩)))) evsp_nil))) ⟨[_, _, _], rfl, (show 3 ≤ _ by decide), fun q => ⟨0, k _ _ _ _⟩⟩)))
theorem roll_S : FnScope ["dice", "many", "found"] ["dice", "many"] d__law_roll.scope := ⟨rfl, rfl, rfl, by decide +kernel, rfl, by decide +kernel, by decide +kernel⟩
theorem ok_roll (B : Bis mg) (L : LK w K mg base fa fn tq) {fd : FuncData} (F1 : Fd K d__law_roll ["dice", "many"] fd) : FnOk P w K mg base (L2.CX P w) 1 (He.fAd K d__law_roll.at_) fd ["dice", "many"] (toSp K (tbOf K tq) 2 (spD rollW)) := by
  refine roll_D (df_ok (k := 0) L F1 roll_S dRollA (fun As gs R E ⟨_, _, _, _, _, e, _⟩ => by rw [e]; rfl) fun cdv A outer s H F gs E ex As R X hd hex tbl ok => ?_)
  obtain ⟨q, i, j, k, many, rfl, rfl, h0, h1, kk⟩ := hd
  have red : ∀ (r : Int), 0 ≤ r % many ∧ r % many < many := fun r => ⟨Int.emod_nonneg _ (by omega), Int.emod_lt_of_pos _ h0⟩
  refine ws_cons (w1_if (.of (etp_w (ewp_or (etp_cmp (cmp_eq (α := Int) ok (evp_own 0 0 rfl rfl rfl rfl) .pu evp_int .pu)) fun _ => ewp_or1 (etp_w (ewp_and (etp_cmp (cmp_eq (α := Int) ok (evp_own 0 0 rfl rfl rfl rfl) .pu evp_int .pu)) fun _ => ewp_and1 (etp_cmp (cmp_gt (evp_own 0 0 rfl rfl rfl rfl) evp_int)))))) ?_))
  by_cases h : (decide (k = 2) || (decide (k = 1) && decide (0 < i))) = true
  · rw [if_pos h]
    refine ws_cons (w1_set 2 ok rfl (.inl rfl) (.of (evp_mod (evp_int1 B rfl (evp_own 0 0 rfl rfl rfl rfl)) (evp_var 1 rfl (.inl rfl) rfl) h0) ?_))
    refine ws_cons (w1_lput (α := Int) 0 (.of (evp_fdiv (evp_own 0 0 rfl rfl rfl rfl) (evp_var 1 rfl (.inl rfl) rfl) ⟨h0, h1⟩) ⟨_, _, 0, 0, rfl, rfl, evp_var 0 rfl (.inl rfl) rfl, evp_int, rfl, ?_⟩))
    exact ws_one (w1_ret (.of (evp_var 2 rfl (.inl rfl) rfl) ⟨0, kk _ _ _ _ (red i).1 (red i).2⟩))
  · rw [if_neg h]
    refine ws_nil ?_
    refine ws_cons (w1_lput (α := Int) 0 (.of evp_int ⟨_, _, 2, 2, rfl, rfl, evp_var 0 rfl (.inl rfl) rfl, evp_int, rfl, ?_⟩))
    refine ws_cons (w1_lput (α := Int) 0 (.of (evp_mod (evp_int1 B rfl (evp_add (evp_add (evp_mul (evp_own 0 0 rfl rfl rfl rfl) evp_int (.inr (by decide))) (evp_mul (evp_own 0 0 rfl rfl rfl rfl) evp_int (.inr (by decide)))) evp_int)) evp_int (by decide)) ⟨_, _, 0, 0, rfl, rfl, evp_var 0 rfl (.inl rfl) rfl, evp_int, rfl, ?_⟩))
    refine ws_cons (w1_lput (α := Int) 0 (.of (evp_add (evp_own 0 0 rfl rfl rfl rfl) evp_int) ⟨_, _, 1, 1, rfl, rfl, evp_var 0 rfl (.inl rfl) rfl, evp_int, rfl, ?_⟩))
    exact ws_one (w1_ret (.of (evp_mod (evp_int1 B rfl (evp_add (evp_fdiv (evp_own 0 0 rfl rfl rfl rfl) evp_int ⟨by decide, by decide⟩) (evp_own 0 0 rfl rfl rfl rfl))) (evp_var 1 rfl (.inl rfl) rfl) h0) ⟨0, kk _ _ _ _ (red _).1 (red _).2⟩))
theorem cut1 : ∀ ns : List Int, (cutD ns none (some 1) = [] ∨ ∃ c, cutD ns none (some 1) = [c])
  | [] => .inl (by decide)
  | c :: r => .inr ⟨c, by
    unfold cutD HT.sIx
    simp⟩
theorem rounds_S : FnScope ["script", "most", "cells", "cell"] ["script", "most"] d__law_rounds.scope := ⟨rfl, rfl, rfl, by decide +kernel, rfl, by decide +kernel, by decide +kernel⟩
theorem ok_rounds (B : Bis mg) (L : LK w K mg base fa fn tq) {fd : FuncData} (F1 : Fd K d__law_rounds ["script", "most"] fd) (G1 : Df P w K mg base (tbOf K tq) 1 "_law_dice" ["cell"] dDiceA) : FnOk P w K mg base (L2.CX P w) 2 (He.fAd K d__law_rounds.at_) fd ["script", "most"] (toSp K (tbOf K tq) 2 dRoundsA) := by
  refine df_ok (k := 1) L F1 rounds_S dRoundsA (fun As gs R E ⟨_, e, _⟩ => by rw [e]; rfl) fun cdv A outer s H F gs E ex As R X hd hex tbl ok => ?_
  obtain ⟨ns, rfl, rfl, kk⟩ := hd
  refine ws_cons (w1_set 2 ok rfl (.inl rfl) (.of (evp_slL (evp_var 0 rfl (.inl rfl) rfl) .pu evo_no (evo_at (evp_var 1 rfl (.inl rfl) rfl))) ?_))
  refine ws_cons (w1_if (.of (etp_cmp (cmp_eq (α := List Int) ok (evp_var 2 rfl (.inl rfl) rfl) .pu (evp_list (xs := ([] : List Int)) evsp_nil) .pu)) ?_))
  have tail : ∀ c : Int, Ws (bodyY P w K mg base (tbOf K tq) 1 ["script", "most", "cells", "cell"] d__law_rounds.qual d__law_rounds.scope (He.fAd K d__law_rounds.at_) cdv A outer s H F [] E ex) ⟨[some (pu ns), some (pu (1 : Int)), some (pu [c]), none], []⟩ (d__law_rounds.body.drop 2) { nx := fun s' => ∃ n, R (pu ()) (s'.gs.drop n), rt := fun A s' => ∃ n, R A (s'.gs.drop n) } := fun c => by
    refine ws_one (w1_ret (ev_lcT (α := Rf) [("cell", 3)] ok (it_list (xs := [c]) (evp_var 2 rfl (.inl rfl) rfl)) (show BlkOk ["script", "most", "cells", "cell"] d__law_rounds.scope _ _ from blk_by (by decide +kernel)) (fun z => tg_name ok.blk.nd 3 rfl (.inl rfl))
      (fun (i : Nat) (ys : List Rf) (gs' : Gs) => (i = 0 ∧ ys = [] ∧ gs' = []) ∨ (i = 1 ∧ ∃ (q : Addr), ys = [Rf.mk q] ∧ gs' = [(q, dicec)])) (.inl ⟨rfl, rfl, rfl⟩) (fun i ys gs' h hi => ?_) (fun z i x ys gs' D hx h => ?_) ?_))
    · rcases h with ⟨_, e, _⟩ | ⟨_, q, e, _⟩ <;> subst e
      · exact (show 0 < sizeLine by decide)
      · exact (show 1 < sizeLine by decide)
    · rcases h with ⟨rfl, rfl, rfl⟩ | ⟨rfl, _⟩
      · cases hx
        refine ets_nil ?_
        rw [if_pos rfl]
        intro z'
        refine ev_perm (ev_call G1 ok.blk (show 1 ≤ 1 by decide) rfl (.of (evsp_cons (evp_var 3 rfl (.inl rfl) rfl) evsp_nil) ⟨rfl, [], _, .refl _, c, rfl, rfl, fun q => ?_⟩))
        exact ⟨_, .swap _ _ _, Rf.mk q, _, rfl, rfl, .inr ⟨rfl, q, rfl, rfl⟩⟩
      · cases hx
    · intro ys gs' h
      rcases h with ⟨h, _⟩ | ⟨_, q, rfl, rfl⟩
      · cases h
      · exact ⟨0, kk _⟩
  rcases cut1 ns with e | ⟨c, e⟩
  · rw [e]
    refine ws_one (w1_set 2 ok rfl (.inl rfl) (.of (evp_list (α := Int) (xs := [0]) (evsp_cons evp_int evsp_nil)) ?_))
    exact tail 0
  · rw [e]
    rw [if_neg (by simp)]
    exact ws_nil (tail c)
def cls (K : Frag) : Cls_ := [(He.ga K "BadCount", tx "count"), (He.ga K "BadRule", tx "rule"), (He.ga K "BadWord", tx "word"), (He.ga K "NoSuch", tx "no such"), (He.ga K "NoWay", tx "no way"), (He.ga K "TooLarge", tx "large"), (He.ga K "BadText", tx "text")]
theorem ok_told {X : Cx} (L : LK w X.K X.mg base fa fn tq) {fd : FuncData} (F1 : Fd X.K d__law_told ["what"] fd) : Told X "_law_told" (cls X.K) := by
  have g : ∀ i (x : Str), fa[i]? = some (He.Fa.glo x) → X.mg x = some (.ref (He.ga X.K x)) := fun i x h => He.glo_ok L.X L.G (L.d.fact i h)
  exact told_of (Ng := ["what"]) F1 (g 5 _ rfl) rfl rfl ⟨rfl, rfl, rfl, by decide +kernel, rfl, by decide +kernel, by decide +kernel⟩ rfl
    (.cons rfl (g 13 _ rfl) (by decide) (toStr_tx _) (.cons rfl (g 12 _ rfl) (by decide) (toStr_tx _) (.cons rfl (g 11 _ rfl) (by decide) (toStr_tx _) (.cons rfl (g 14 _ rfl) (by decide) (toStr_tx _) (.cons rfl (g 15 _ rfl) (by decide) (toStr_tx _) (.cons rfl (g 16 _ rfl) (by decide) (toStr_tx _) (.cons rfl (g 17 _ rfl) (by decide) (toStr_tx _) .nil)))))))
    rfl (.inl rfl) (by decide) (by decide) (fun f => rfl)
theorem told_tells (c : He.SaysD fa fn K) : ∀ e t, toldT e = some t → Tell K (cls K) (exK K e).C t
  | .BadWord, t, h => by cases h; exact .no (He.exm_ok (c.fact 55 rfl)) (.no (He.exm_ok (c.fact 56 rfl)) (.yes (He.exm_ok (c.fact 57 rfl))))
  | .BadRule, t, h => by cases h; exact .no (He.exm_ok (c.fact 62 rfl)) (.yes (He.exm_ok (c.fact 63 rfl)))
  | .BadCount, t, h => by cases h; exact .yes (He.exm_ok (c.fact 69 rfl))
  | .NoSuch, t, h => by cases h; exact .no (He.exm_ok (c.fact 76 rfl)) (.no (He.exm_ok (c.fact 77 rfl)) (.no (He.exm_ok (c.fact 78 rfl)) (.yes (He.exm_ok (c.fact 79 rfl)))))
  | .NoWay, t, h => by cases h; exact .no (He.exm_ok (c.fact 83 rfl)) (.no (He.exm_ok (c.fact 84 rfl)) (.no (He.exm_ok (c.fact 85 rfl)) (.no (He.exm_ok (c.fact 86 rfl)) (.yes (He.exm_ok (c.fact 87 rfl))))))
  | .TooLarge, t, h => by cases h; exact .no (He.exm_ok (c.fact 90 rfl)) (.no (He.exm_ok (c.fact 91 rfl)) (.no (He.exm_ok (c.fact 92 rfl)) (.no (He.exm_ok (c.fact 93 rfl)) (.no (He.exm_ok (c.fact 94 rfl)) (.yes (He.exm_ok (c.fact 95 rfl)))))))
  | .BadDeed, t, h => by cases h
  | .BadText _, t, h => by cases h; exact .no (He.exm_ok (c.fact 97 rfl)) (.no (He.exm_ok (c.fact 98 rfl)) (.no (He.exm_ok (c.fact 99 rfl)) (.no (He.exm_ok (c.fact 100 rfl)) (.no (He.exm_ok (c.fact 101 rfl)) (.no (He.exm_ok (c.fact 102 rfl)) (.yes (He.exm_ok (c.fact 103 rfl))))))))
  | .BadPaper _, t, h => by cases h
abbrev can_be_made_N : List Str := ["word", "letters", "left", "lack", "letter"]
theorem can_be_made_S : FnScope can_be_made_N ["word", "letters"] d_can_be_made.scope := ⟨rfl, rfl, rfl, by decide +kernel, rfl, by decide +kernel, by decide +kernel⟩
theorem ok_can_be_made (B : Bis mg) (L : LK w K mg base fa fn tq) {fd : FuncData} (F1 : Fd K d_can_be_made ["word", "letters"] fd)  : FnOk P w K mg base (L2.CX P w) 1 (He.fAd K d_can_be_made.at_) fd ["word", "letters"] (toSp K (tbOf K tq) 2 (spF K can_be_made_W)) := by
  refine fn_F (k := 0) none L F1 can_be_made_S can_be_made_W noneNo (fun _ => rfl) ?_
  intro z t Q E h ye tbl
  obtain ⟨word1, letters2, ⟨⟩⟩ := t
  refine s_asgN (R := fun (left3 : List Txt) => (can_be_made_w4 word1 left3 (0 : Int) Q)) 2 ye.ok rfl (n_listS ye.ok B rfl (c_v 1 rfl rfl)) ?_ (by exact h)
  intro q4 left3 h
  try dsimp only
  refine s_asg (R := fun (lack5 : Int) => (can_be_made_w4 word1 left3 lack5 Q)) 3 ye.ok rfl c_int ?_ (by exact h)
  intro lack5 h
  try dsimp only
  refine s_for (Z := (List Txt) × Int) (J := Option Pv) (Body := (fun (x6 : Txt) (z7 : (List Txt) × Int) (nx9 : (List Txt) × Int → Prop) => (can_be_made_w2 x6 nx9 z7.1 z7.2))) (Rest := (fun (z19 : (List Txt) × Int) => (can_be_made_w3 z19.1 z19.2 Q))) (.n 4) (fun (z7 : (List Txt) × Int) (j8 : Option Pv) => (⟨[some (pu word1), some (pu letters2), some (raw (.ref q4)), some (pu (z7.2 : Int)), j8], [(q4, lstc (z7.1))]⟩ : DSt)) (left3, lack5) none ye.ok (i_txt (c_v 0 rfl rfl)) (tg_nm ye.ok.nd 4 rfl) rfl ?_ ?_ (by exact h)
  · intro x6 z7 j8 nx9 h
    try dsimp only
    obtain ⟨left10, lack11⟩ := z7
    refine s_ifJ (Z := (List Txt) × Int) (J := Unit) (Rest := (fun (z12 : (List Txt) × Int) => (can_be_made_w1 nx9 z12.1 z12.2))) (B := fun nx14 => (x6 ∈ left10 ∧ nx14 ((erL left10 x6), lack11))) (C := fun nx14 => nx14 (left10, (lack11 + (1 : Int)))) (fun (z12 : (List Txt) × Int) (j13 : Unit) => (⟨[some (pu word1), some (pu letters2), some (raw (.ref q4)), some (pu (z12.2 : Int)), some (pu x6)], [(q4, lstc (z12.1))]⟩ : DSt)) (t_k (k_in ye.ok (c_v 4 rfl rfl) (l_own 2 0 rfl rfl rfl))) ?_ ?_ ?_ (by exact h)
    · intro nx14 h
      try dsimp only
      refine s_remove (R := fun (v15 : Txt) => nx14 ((erL left10 v15), lack11)) 2 0 ye.ok rfl rfl rfl (c_v 4 rfl rfl) ?_ (by exact h)
      intro v15 h
      try dsimp only
      exact ws_nil ⟨((erL left10 v15), lack11), (), rfl, h⟩
    · intro nx14 h
      try dsimp only
      refine s_augAdd (R := fun (lack16 : Int) => nx14 (left10, lack16)) 3 ye.ok rfl rfl c_int ?_ (by exact h)
      intro lack16 h
      try dsimp only
      exact ws_nil ⟨(left10, lack16), (), rfl, h⟩
    intro z12 j13 h
    try dsimp only
    obtain ⟨left17, lack18⟩ := z12
    exact ws_nil ⟨(left17, lack18), some (pu x6), rfl, h⟩
  intro z19 j20 h
  try dsimp only
  obtain ⟨left21, lack22⟩ := z19
  refine s_ret (R := fun (v23 : Bool) => Q v23) (c_k (k_le (c_v 3 rfl rfl) (c_cntL ye.ok (l_own 2 0 rfl rfl rfl) c_tx))) (by exact h) ?_
  intro v23 h
  try dsimp only
  exact ⟨⟨1, rfl⟩, _, rfl, h⟩

abbrev Bag_init_N : List Str := ["self", "letters", "many", "points", "letter"]
theorem Bag_init_S : FnScope Bag_init_N ["self", "letters"] d_Bag_init.scope := ⟨rfl, rfl, rfl, by decide +kernel, rfl, by decide +kernel, by decide +kernel⟩
theorem ok_Bag_init (B : Bis mg) (L : LK w K mg base fa fn tq) {fd : FuncData} (F1 : Fd K d_Bag_init ["self", "letters"] fd)  : FnOk P w K mg base (L2.CX P w) 3 (He.fAd K d_Bag_init.at_) fd ["self", "letters"] (toSp K (tbOf K tq) 2 (spI K Bag_init_W)) := by
  refine fn_I (γ := BagV) (k := 2) L F1 Bag_init_S Bag_init_W (fun _ => rfl) ?_
  intro q0 z t Q E h ye tbl
  obtain ⟨letters1, ⟨⟩⟩ := t
  refine s_if (B := E .BadCount) (C := (Bag_init_w1 letters1 Q)) (t_v (fun _ => rfl) (c_any0 (.p (.n 2) (.n 3)) 0 [2, 3] (letters1.kvs.map (·.2)) (fun (x2 : (Int × Int)) => ((decide (x2.1 < (0 : Int))) || (decide (x2.2 < (0 : Int))))) ye.ok B rfl (Nat.le_of_ble_eq_true rfl) (i_values (c_v 1 rfl rfl)) (show GenOk Bag_init_N d_Bag_init.scope _ _ from genOk_by (by decide +kernel)) (tbl _ (List.mem_of_getElem? (i := 0) rfl)) (fun z => (tg_pair (gen_calm z) (tg_gen ye.ok z 2 rfl) (tg_gen ye.ok z 3 rfl))) (fun _ o (x2 : (Int × Int)) => (c_orP (y := (decide (x2.2 < (0 : Int)))) (c_k (k_lt (c_v 2 rfl rfl) c_int)) (c_b1 (c_k (k_lt (c_v 3 rfl rfl) c_int))))))) ?_ ?_ (by exact h)
  · intro h
    exact s_raise 0 .BadCount ye (L.err 51 13) rfl rfl ⟨_, rfl⟩ (by exact h)
  intro h
  refine ws_nil ?_
  refine s_fld (R := fun (letters4 : (Dct Txt (Int × Int))) => Q (BagV.mk letters4)) 0 0 (He.cls_ok (L.d.fact 37 rfl)) (He.noat_ok (L.d.fact 39 rfl)) rfl rfl rfl (c_dictL ye.ok B rfl (c_l (c_L ye.ok (l_lc0 (.n 4) [("letter", 4)] (fun (x3 : Txt) => (x3, (dgt letters1.kvs x3))) ye.ok (i_list (c_sortedD ye.ok B rfl (c_d (c_v 1 rfl rfl)))) (show BlkOk Bag_init_N d_Bag_init.scope _ _ from blk_by (by decide +kernel)) (fun z => (tg_blk ye.ok z 4 rfl)) (fun _ (x3 : Txt) _ _ => (c_tup2 (a_cons (c_v 4 rfl rfl) (a_cons (c_tupP B rfl (c_dget ye.ok.blk (c_d (c_v 1 rfl rfl)) (c_v 4 rfl rfl))) a_nil)))))))) ?_ (by exact h)
  intro letters4 h
  try dsimp only
  exact ws_nil ⟨(BagV.mk letters4), ⟨0, rfl⟩, h⟩

abbrev Bag_left_N : List Str := ["self", "many", "points"]
theorem Bag_left_S : FnScope Bag_left_N ["self"] d_Bag_left.scope := ⟨rfl, rfl, rfl, by decide +kernel, rfl, by decide +kernel, by decide +kernel⟩
theorem ok_Bag_left (B : Bis mg) (L : LK w K mg base fa fn tq) {fd : FuncData} (F1 : Fd K d_Bag_left ["self"] fd)  : FnOk P w K mg base (L2.CX P w) 3 (He.fAd K d_Bag_left.at_) fd ["self"] (toSp K (tbOf K tq) 1 (spF K Bag_left_W)) := by
  refine fn_F (k := 2) none L F1 Bag_left_S Bag_left_W noneNo (fun _ => rfl) ?_
  intro z t Q E h ye tbl
  obtain ⟨self1, ⟨⟩⟩ := t
  refine s_ret (R := fun (v3 : Int) => Q v3) (c_sumG0 (.p (.n 1) (.n 2)) 0 [1, 2] (self1.letters.kvs.map (·.2)) (fun (x2 : (Int × Int)) => x2.1) ye.ok B rfl (Nat.le_of_ble_eq_true rfl) (i_values (c_fld BagV.letters (He.cls_ok (L.d.fact 37 rfl)) (He.noat_ok (L.d.fact 39 rfl)) (c_v 0 rfl rfl))) (show GenOk Bag_left_N d_Bag_left.scope _ _ from genOk_by (by decide +kernel)) (tbl _ (List.mem_of_getElem? (i := 1) rfl)) (fun z => (tg_pair (gen_calm z) (tg_gen ye.ok z 1 rfl) (tg_gen ye.ok z 2 rfl))) (fun _ o (x2 : (Int × Int)) => (c_v 1 rfl rfl))) (by exact h) ?_
  intro v3 h
  try dsimp only
  exact ⟨⟨0, rfl⟩, _, rfl, h⟩

abbrev Bag_draw_N : List Str := ["self", "hand", "found", "letter", "many", "points"]
theorem Bag_draw_S : FnScope Bag_draw_N ["self", "hand"] d_Bag_draw.scope := ⟨rfl, rfl, rfl, by decide +kernel, rfl, by decide +kernel, by decide +kernel⟩
theorem ok_Bag_draw (B : Bis mg) (L : LK w K mg base fa fn tq) {fd : FuncData} (F1 : Fd K d_Bag_draw ["self", "hand"] fd) (G_Bag_init : Mkr P w K mg base (tbOf K tq) 3 "Bag" (He.ga K "Bag") ["self", "letters"] (spI K Bag_init_W)) : FnOk P w K mg base (L2.CX P w) 5 (He.fAd K d_Bag_draw.at_) fd ["self", "hand"] (toSp K (tbOf K tq) 2 (spF K Bag_draw_W)) := by
  refine fn_F (k := 4) none L F1 Bag_draw_S Bag_draw_W noneNo (fun _ => rfl) ?_
  intro z t Q E h ye tbl
  obtain ⟨self1, hand2, ⟨⟩⟩ := t
  refine s_asgM (R := fun (found3 : List (Txt × (Int × Int))) => (Bag_draw_w4 self1 hand2 found3 Q E)) 2 ye.ok rfl (m_new (κ := Txt) (ν := (Int × Int))) ?_ (by exact h)
  intro q4 found3 h
  try dsimp only
  refine s_for (Z := (List (Txt × (Int × Int)))) (J := Option Pv × Option Pv × Option Pv) (Body := (fun (x5 : (Txt × (Int × Int))) (z6 : (List (Txt × (Int × Int)))) (nx8 : (List (Txt × (Int × Int))) → Prop) => (Bag_draw_w1 hand2 x5 nx8 z6))) (Rest := (fun (z11 : (List (Txt × (Int × Int)))) => (Bag_draw_w3 self1 hand2 z11 Q E))) (.p (.n 3) (.p (.n 4) (.n 5))) (fun (z6 : (List (Txt × (Int × Int)))) (j7 : Option Pv × Option Pv × Option Pv) => (⟨[some (pu self1), some (pu hand2), some (raw (.ref q4)), j7.1, j7.2.1, j7.2.2], [(q4, dctc z6)]⟩ : DSt)) found3 (none, none, none) ye.ok (i_items (c_fld BagV.letters (He.cls_ok (L.d.fact 37 rfl)) (He.noat_ok (L.d.fact 39 rfl)) (c_v 0 rfl rfl))) (tg_pair ye.ok.calm (tg_nm ye.ok.nd 3 rfl) (tg_pair ye.ok.calm (tg_nm ye.ok.nd 4 rfl) (tg_nm ye.ok.nd 5 rfl))) rfl ?_ ?_ (by exact h)
  · intro x5 found9 j7 nx8 h
    try dsimp only
    refine s_dput (R := fun (found10 : List (Txt × (Int × Int))) => nx8 found10) 2 0 ye.ok rfl rfl rfl (c_tup2 (a_cons (c_sub (c_v 4 rfl rfl) (c_cntS (c_v 1 rfl rfl) (c_v 3 rfl rfl))) (a_cons (c_v 5 rfl rfl) a_nil))) (c_v 3 rfl rfl) ?_ (by exact h)
    intro found10 h
    try dsimp only
    exact ws_nil ⟨found10, (some (pu x5.1), some (pu x5.2.1), some (pu x5.2.2)), rfl, h⟩
  intro found13 j12 h
  try dsimp only
  refine ws_frD 2 0 rfl rfl ?_
  refine s_if (B := E .BadWord) (C := (Bag_draw_w2 found13 Q E)) (t_w (w_orP (y := (((Dct.mk found13).kvs.map (·.2)).any (fun (x16 : (Int × Int)) => (decide (x16.1 < (0 : Int)))))) (t_v (fun _ => rfl) (c_any0 (.n 3) 0 [3] (hand2.map fun c => [c]) (fun (x15 : Txt) => (!dhas self1.letters.kvs x15)) ye.ok B rfl (Nat.le_of_ble_eq_true rfl) (i_txt (c_v 1 rfl rfl)) (show GenOk Bag_draw_N d_Bag_draw.scope _ _ from genOk_by (by decide +kernel)) (tbl _ (List.mem_of_getElem? (i := 2) rfl)) (fun z => (tg_gen ye.ok z 3 rfl)) (fun _ o (x15 : Txt) => (c_k (k_ninD o (c_v 3 rfl rfl) (c_d (c_fld BagV.letters (He.cls_ok (L.d.fact 37 rfl)) (He.noat_ok (L.d.fact 39 rfl)) (c_v 0 rfl rfl)))))))) (w_or1 (t_v (fun _ => rfl) (c_any0 (.p (.n 4) (.n 5)) 0 [4, 5] ((Dct.mk found13).kvs.map (·.2)) (fun (x16 : (Int × Int)) => (decide (x16.1 < (0 : Int)))) ye.ok B rfl (Nat.le_of_ble_eq_true rfl) (i_values (c_v 2 rfl rfl)) (show GenOk Bag_draw_N d_Bag_draw.scope _ _ from genOk_by (by decide +kernel)) (tbl _ (List.mem_of_getElem? (i := 2) rfl)) (fun z => (tg_pair (gen_calm z) (tg_gen ye.ok z 4 rfl) (tg_gen ye.ok z 5 rfl))) (fun _ o (x16 : (Int × Int)) => (c_k (k_lt (c_v 4 rfl rfl) c_int)))))))) ?_ ?_ (by exact h)
  · intro h
    exact s_raise 0 .BadWord ye (L.err 49 11) rfl rfl rfl (by exact h)
  intro h
  refine ws_nil ?_
  refine s_ret (R := fun (v18 : BagV) => Q v18) (c_make (γ := BagV) (w := Bag_init_W) 0 ye G_Bag_init (Nat.le_of_ble_eq_true rfl) rfl (a_cons (c_v 2 rfl rfl) a_nil) (fun _ => rfl) rfl) (by exact h) ?_
  intro v18 h
  try dsimp only
  exact ⟨⟨0, rfl⟩, _, rfl, h⟩

abbrev Bag_points_N : List Str := ["self", "hand", "letter"]
theorem Bag_points_S : FnScope Bag_points_N ["self", "hand"] d_Bag_points.scope := ⟨rfl, rfl, rfl, by decide +kernel, rfl, by decide +kernel, by decide +kernel⟩
theorem ok_Bag_points (B : Bis mg) (L : LK w K mg base fa fn tq) {fd : FuncData} (F1 : Fd K d_Bag_points ["self", "hand"] fd)  : FnOk P w K mg base (L2.CX P w) 3 (He.fAd K d_Bag_points.at_) fd ["self", "hand"] (toSp K (tbOf K tq) 2 (spF K Bag_points_W)) := by
  refine fn_F (k := 2) none L F1 Bag_points_S Bag_points_W noneNo (fun _ => rfl) ?_
  intro z t Q E h ye tbl
  obtain ⟨self1, hand2, ⟨⟩⟩ := t
  refine s_if (B := E .BadWord) (C := (Bag_points_w1 self1 hand2 Q)) (t_v (fun _ => rfl) (c_any0 (.n 2) 0 [2] (hand2.map fun c => [c]) (fun (x3 : Txt) => (!dhas self1.letters.kvs x3)) ye.ok B rfl (Nat.le_of_ble_eq_true rfl) (i_txt (c_v 1 rfl rfl)) (show GenOk Bag_points_N d_Bag_points.scope _ _ from genOk_by (by decide +kernel)) (tbl _ (List.mem_of_getElem? (i := 3) rfl)) (fun z => (tg_gen ye.ok z 2 rfl)) (fun _ o (x3 : Txt) => (c_k (k_ninD o (c_v 2 rfl rfl) (c_d (c_fld BagV.letters (He.cls_ok (L.d.fact 37 rfl)) (He.noat_ok (L.d.fact 39 rfl)) (c_v 0 rfl rfl)))))))) ?_ ?_ (by exact h)
  · intro h
    exact s_raise 0 .BadWord ye (L.err 49 11) rfl rfl rfl (by exact h)
  intro h
  refine ws_nil ?_
  refine s_ret (R := fun (v5 : Int) => Q v5) (c_sumG0 (.n 2) 0 [2] (hand2.map fun c => [c]) (fun (x4 : Txt) => (dgt self1.letters.kvs x4).2) ye.ok B rfl (Nat.le_of_ble_eq_true rfl) (i_txt (c_v 1 rfl rfl)) (show GenOk Bag_points_N d_Bag_points.scope _ _ from genOk_by (by decide +kernel)) (tbl _ (List.mem_of_getElem? (i := 3) rfl)) (fun z => (tg_gen ye.ok z 2 rfl)) (fun _ o (x4 : Txt) => (c_snd (c_dget o (c_d (c_fld BagV.letters (He.cls_ok (L.d.fact 37 rfl)) (He.noat_ok (L.d.fact 39 rfl)) (c_v 0 rfl rfl))) (c_v 2 rfl rfl))))) (by exact h) ?_
  intro v5 h
  try dsimp only
  exact ⟨⟨0, rfl⟩, _, rfl, h⟩

abbrev Bag_laid_points_N : List Str := ["self", "word", "hand", "left", "found", "letter"]
theorem Bag_laid_points_S : FnScope Bag_laid_points_N ["self", "word", "hand"] d_Bag_laid_points.scope := ⟨rfl, rfl, rfl, by decide +kernel, rfl, by decide +kernel, by decide +kernel⟩
theorem ok_Bag_laid_points (B : Bis mg) (L : LK w K mg base fa fn tq) {fd : FuncData} (F1 : Fd K d_Bag_laid_points ["self", "word", "hand"] fd) (G_can_be_made : Df P w K mg base (tbOf K tq) 1 "can_be_made" ["word", "letters"] (spF K can_be_made_W)) : FnOk P w K mg base (L2.CX P w) 2 (He.fAd K d_Bag_laid_points.at_) fd ["self", "word", "hand"] (toSp K (tbOf K tq) 3 (spF K Bag_laid_points_W)) := by
  refine fn_F (k := 1) none L F1 Bag_laid_points_S Bag_laid_points_W noneNo (fun _ => rfl) ?_
  intro z t Q E h ye tbl
  obtain ⟨self1, word2, hand3, ⟨⟩⟩ := t
  refine s_if (B := E .NoWay) (C := (Bag_laid_points_w6 self1 word2 hand3 Q)) (t_not (t_v (fun _ => rfl) (c_call (w := can_be_made_W) 0 ye G_can_be_made (Nat.le_of_ble_eq_true rfl) rfl (a_cons (c_v 1 rfl rfl) (a_cons (c_v 2 rfl rfl) a_nil)) (fun _ => rfl) rfl))) ?_ ?_ (by exact h)
  · intro h
    exact s_raise 0 .NoWay ye (L.err 53 15) rfl rfl rfl (by exact h)
  intro h
  refine ws_nil ?_
  refine s_parNC (R := fun (left5 : List Txt) (found6 : Int) => (Bag_laid_points_w5 self1 word2 left5 found6 Q)) 3 4 ye.ok rfl rfl (n_listS ye.ok B rfl (c_v 2 rfl rfl)) (fun _ _ => c_int) ?_ (by exact h)
  intro q7 left5 found6 h
  try dsimp only
  refine s_for (Z := (List Txt) × Int) (J := Option Pv) (Body := (fun (x8 : Txt) (z9 : (List Txt) × Int) (nx11 : (List Txt) × Int → Prop) => (Bag_laid_points_w3 self1 x8 nx11 z9.1 z9.2))) (Rest := (fun (z21 : (List Txt) × Int) => (Bag_laid_points_w4 z21.2 Q))) (.n 5) (fun (z9 : (List Txt) × Int) (j10 : Option Pv) => (⟨[some (pu self1), some (pu word2), some (pu hand3), some (raw (.ref q7)), some (pu (z9.2 : Int)), j10], [(q7, lstc (z9.1))]⟩ : DSt)) (left5, found6) none ye.ok (i_txt (c_v 1 rfl rfl)) (tg_nm ye.ok.nd 5 rfl) rfl ?_ ?_ (by exact h)
  · intro x8 z9 j10 nx11 h
    try dsimp only
    obtain ⟨left12, found13⟩ := z9
    refine s_ifJ (Z := (List Txt) × Int) (J := Unit) (Rest := (fun (z14 : (List Txt) × Int) => (Bag_laid_points_w2 nx11 z14.1 z14.2))) (B := fun nx16 => (x8 ∈ left12 ∧ (Bag_laid_points_w1 self1 x8 left12 found13 nx16 x8))) (C := fun nx16 => nx16 (left12, found13)) (fun (z14 : (List Txt) × Int) (j15 : Unit) => (⟨[some (pu self1), some (pu word2), some (pu hand3), some (raw (.ref q7)), some (pu (z14.2 : Int)), some (pu x8)], [(q7, lstc (z14.1))]⟩ : DSt)) (t_k (k_in ye.ok (c_v 5 rfl rfl) (l_own 3 0 rfl rfl rfl))) ?_ ?_ ?_ (by exact h)
    · intro nx16 h
      try dsimp only
      refine s_remove (R := fun (v17 : Txt) => (Bag_laid_points_w1 self1 x8 left12 found13 nx16 v17)) 3 0 ye.ok rfl rfl rfl (c_v 5 rfl rfl) ?_ (by exact h)
      intro v17 h
      try dsimp only
      refine s_augAdd (R := fun (found18 : Int) => nx16 ((erL left12 v17), found18)) 4 ye.ok rfl rfl (c_snd (c_dget2 ye.ok (c_d (c_fld BagV.letters (He.cls_ok (L.d.fact 37 rfl)) (He.noat_ok (L.d.fact 39 rfl)) (c_v 0 rfl rfl))) (c_v 5 rfl rfl) (c_tup2 (a_cons c_int (a_cons c_int a_nil))))) ?_ (by exact h)
      intro found18 h
      try dsimp only
      exact ws_nil ⟨((erL left12 v17), found18), (), rfl, h⟩
    · intro nx16 h
      try dsimp only
      exact ws_nil ⟨(left12, found13), (), rfl, h⟩
    intro z14 j15 h
    try dsimp only
    obtain ⟨left19, found20⟩ := z14
    exact ws_nil ⟨(left19, found20), some (pu x8), rfl, h⟩
  intro z21 j22 h
  try dsimp only
  obtain ⟨left23, found24⟩ := z21
  refine s_ret (R := fun (v25 : Int) => Q v25) (c_v 4 rfl rfl) (by exact h) ?_
  intro v25 h
  try dsimp only
  exact ⟨⟨1, rfl⟩, _, rfl, h⟩

abbrev Bag_best_word_N : List Str := ["self", "hand", "words", "rows", "word", "points"]
theorem Bag_best_word_S : FnScope Bag_best_word_N ["self", "hand", "words"] d_Bag_best_word.scope := ⟨rfl, rfl, rfl, by decide +kernel, rfl, by decide +kernel, by decide +kernel⟩
theorem ok_Bag_best_word (B : Bis mg) (L : LK w K mg base fa fn tq) {fd : FuncData} (F1 : Fd K d_Bag_best_word ["self", "hand", "words"] fd) (G_can_be_made : Df P w K mg base (tbOf K tq) 1 "can_be_made" ["word", "letters"] (spF K can_be_made_W)) (G_Bag_laid_points : Mt P w K mg base (tbOf K tq) 2 (He.ga K "Bag") "laid_points" ["self", "word", "hand"] (spF K Bag_laid_points_W)) : FnOk P w K mg base (L2.CX P w) 3 (He.fAd K d_Bag_best_word.at_) fd ["self", "hand", "words"] (toSp K (tbOf K tq) 3 (spF K Bag_best_word_W)) := by
  refine fn_F (k := 2) none L F1 Bag_best_word_S Bag_best_word_W noneNo (fun _ => rfl) ?_
  intro z t Q E h ye tbl
  obtain ⟨self1, hand2, words3, ⟨⟩⟩ := t
  refine s_asgL (R := fun (rows9 : (List (Int × Txt))) => (Bag_best_word_w1 rows9 Q E)) 3 ye.ok rfl (l_lcX (.n 4) [("word", 4)] ye.ok (i_list (c_v 2 rfl rfl)) (show BlkOk Bag_best_word_N d_Bag_best_word.scope _ _ from blk_by (by decide +kernel)) (fun z => (tg_blk ye.ok z 4 rfl)) (fun _ (x4 : Txt) _ _ => ts_one (t_v (fun _ => rfl) (c_call (w := can_be_made_W) 0 ye.blk G_can_be_made (Nat.le_of_ble_eq_true rfl) rfl (a_cons (c_v 4 rfl rfl) (a_cons (c_v 1 rfl rfl) a_nil)) (fun _ => rfl) trivial))) (fun _ (x4 : Txt) _ _ => (c_tup2 (a_cons (c_sub c_int (c_meth (w := Bag_laid_points_W) 0 ye.blk G_Bag_laid_points (He.cls_ok (L.d.fact 37 rfl)) (Nat.le_of_ble_eq_true rfl) (c_v 0 rfl rfl) (a_cons (c_v 4 rfl rfl) (a_cons (c_v 1 rfl rfl) a_nil)) (fun _ => rfl) trivial)) (a_cons (c_v 4 rfl rfl) a_nil))))) ?_ (by exact h)
  intro rows9 h
  try dsimp only
  refine s_if (B := E .NoWay) (C := (rows9 ≠ [] ∧ Q (((0 : Int) - (minL rows9).1), (minL rows9).2))) (t_k (k_eqL ye.ok (c_l (c_v 3 rfl rfl)) (c_l (c_list (s_nil (α := (Int × Txt))))))) ?_ ?_ (by exact h)
  · intro h
    exact s_raise 0 .NoWay ye (L.err 53 15) rfl rfl rfl (by exact h)
  intro h
  refine ws_nil ?_
  refine s_asgT (R := fun (u10 : (Int × Txt)) => Q (((0 : Int) - u10.1), u10.2)) (.p (.n 5) (.n 4)) (tg_pair ye.ok.calm (tg_nm ye.ok.nd 5 rfl) (tg_nm ye.ok.nd 4 rfl)) (c_min ye.ok B rfl (c_l (c_v 3 rfl rfl))) ?_ (by exact h)
  intro u10 h
  try dsimp only
  refine s_ret (R := fun (v11 : (Int × Txt)) => Q v11) (c_tup2 (a_cons (c_sub c_int (c_v 5 rfl rfl)) (a_cons (c_v 4 rfl rfl) a_nil))) (by exact h) ?_
  intro v11 h
  try dsimp only
  exact ⟨⟨0, rfl⟩, _, rfl, h⟩

abbrev Bag_spotted_N : List Str := ["self", "word", "spots", "found", "times", "k", "letter", "sort", "many", "points"]
theorem Bag_spotted_S : FnScope Bag_spotted_N ["self", "word", "spots"] d_Bag_spotted.scope := ⟨rfl, rfl, rfl, by decide +kernel, rfl, by decide +kernel, by decide +kernel⟩
theorem ok_Bag_spotted (B : Bis mg) (L : LK w K mg base fa fn tq) {fd : FuncData} (F1 : Fd K d_Bag_spotted ["self", "word", "spots"] fd)  : FnOk P w K mg base (L2.CX P w) 1 (He.fAd K d_Bag_spotted.at_) fd ["self", "word", "spots"] (toSp K (tbOf K tq) 3 (spF K Bag_spotted_W)) := by
  refine fn_F (k := 0) none L F1 Bag_spotted_S Bag_spotted_W noneNo (fun _ => rfl) ?_
  intro z t Q E h ye tbl
  obtain ⟨self1, word2, spots3, ⟨⟩⟩ := t
  refine s_asgT (R := fun (u4 : (Int × Int)) => (Bag_spotted_w6 self1 word2 spots3 u4 Q)) (.p (.n 3) (.n 4)) (tg_pair ye.ok.calm (tg_nm ye.ok.nd 3 rfl) (tg_nm ye.ok.nd 4 rfl)) (c_tup2 (a_cons c_int (a_cons c_int a_nil))) ?_ (by exact h)
  intro u4 h
  try dsimp only
  refine s_for (Z := Int × Int) (J := Option Pv × Option Pv × Option Pv × Option Pv × Option Pv) (Body := (fun (x5 : (Int × Txt)) (z6 : Int × Int) (nx8 : Int × Int → Prop) => (Bag_spotted_w4 self1 spots3 x5 nx8 z6.1 z6.2))) (Rest := (fun (z19 : Int × Int) => (Bag_spotted_w5 z19.1 z19.2 Q))) (.p (.n 5) (.n 6)) (fun (z6 : Int × Int) (j7 : Option Pv × Option Pv × Option Pv × Option Pv × Option Pv) => (⟨[some (pu self1), some (pu word2), some (pu spots3), some (pu (z6.1 : Int)), some (pu (z6.2 : Int)), j7.1, j7.2.1, j7.2.2.1, j7.2.2.2.1, j7.2.2.2.2], []⟩ : DSt)) (u4.1, u4.2) (none, none, none, none, none) ye.ok (i_enumS ye.ok B rfl (c_v 1 rfl rfl)) (tg_pair ye.ok.calm (tg_nm ye.ok.nd 5 rfl) (tg_nm ye.ok.nd 6 rfl)) rfl ?_ ?_ (by exact h)
  · intro x5 z6 j7 nx8 h
    try dsimp only
    obtain ⟨found9, times10⟩ := z6
    refine s_asgT (R := fun (u11 : (Txt × Int)) => (Bag_spotted_w3 self1 x5 nx8 found9 times10 u11)) (.p (.n 7) (.n 8)) (tg_pair ye.ok.calm (tg_nm ye.ok.nd 7 rfl) (tg_nm ye.ok.nd 8 rfl)) (c_dget2 ye.ok (c_d (c_v 2 rfl rfl)) (c_v 5 rfl rfl) (c_tup2 (a_cons c_tx (a_cons c_int a_nil)))) ?_ (by exact h)
    intro u11 h
    try dsimp only
    refine s_asg (R := fun (points12 : Int) => (Bag_spotted_w2 nx8 found9 times10 u11 points12)) 9 ye.ok rfl (c_snd (c_dget2 ye.ok (c_d (c_fld BagV.letters (He.cls_ok (L.d.fact 37 rfl)) (He.noat_ok (L.d.fact 39 rfl)) (c_v 0 rfl rfl))) (c_v 6 rfl rfl) (c_tup2 (a_cons c_int (a_cons c_int a_nil))))) ?_ (by exact h)
    intro points12 h
    try dsimp only
    refine s_ifJ (Z := Int) (J := Unit) (Rest := (fun (z13 : Int) => (Bag_spotted_w1 nx8 found9 u11 points12 z13))) (B := fun nx15 => (CMul times10 u11.2 ∧ nx15 (times10 * u11.2))) (C := fun nx15 => nx15 times10) (fun (z13 : Int) (j14 : Unit) => (⟨[some (pu self1), some (pu word2), some (pu spots3), some (pu found9), some (pu (z13 : Int)), some (pu x5.1), some (pu x5.2), some (pu u11.1), some (pu u11.2), some (pu points12)], []⟩ : DSt)) (t_k (k_eq ye.ok (c_v 7 rfl rfl) c_tx)) ?_ ?_ ?_ (by exact h)
    · intro nx15 h
      try dsimp only
      refine s_augMul (R := fun (times16 : Int) => nx15 times16) 4 ye.ok rfl rfl (c_v 8 rfl rfl) ?_ (by exact h)
      intro times16 h
      try dsimp only
      exact ws_nil ⟨times16, (), rfl, h⟩
    · intro nx15 h
      try dsimp only
      exact ws_nil ⟨times10, (), rfl, h⟩
    intro times17 j14 h
    try dsimp only
    refine s_augAdd (R := fun (found18 : Int) => nx8 (found18, times17)) 3 ye.ok rfl rfl (c_mul (c_v 9 rfl rfl) (c_ifP (u := u11.2) (w := (1 : Int)) (t_k (k_eq ye.ok (c_v 7 rfl rfl) c_tx)) (c_v 8 rfl rfl) c_int)) ?_ (by exact h)
    intro found18 h
    try dsimp only
    exact ws_nil ⟨(found18, times17), (some (pu x5.1), some (pu x5.2), some (pu u11.1), some (pu u11.2), some (pu points12)), rfl, h⟩
  intro z19 j20 h
  try dsimp only
  obtain ⟨found21, times22⟩ := z19
  refine s_ret (R := fun (v23 : Int) => Q v23) (c_mul (c_v 3 rfl rfl) (c_v 4 rfl rfl)) (by exact h) ?_
  intro v23 h
  try dsimp only
  exact ⟨⟨0, rfl⟩, _, rfl, h⟩

abbrev Bag_chance_to_draw_N : List Str := ["self", "letter"]
theorem Bag_chance_to_draw_S : FnScope Bag_chance_to_draw_N ["self", "letter"] d_Bag_chance_to_draw.scope := ⟨rfl, rfl, rfl, by decide +kernel, rfl, by decide +kernel, by decide +kernel⟩
theorem ok_Bag_chance_to_draw (B : Bis mg) (L : LK w K mg base fa fn tq) {fd : FuncData} (F1 : Fd K d_Bag_chance_to_draw ["self", "letter"] fd) (G_Bag_left : Mt P w K mg base (tbOf K tq) 3 (He.ga K "Bag") "left" ["self"] (spF K Bag_left_W)) : FnOk P w K mg base (L2.CX P w) 4 (He.fAd K d_Bag_chance_to_draw.at_) fd ["self", "letter"] (toSp K (tbOf K tq) 2 (spF K Bag_chance_to_draw_W)) := by
  refine fn_F (k := 3) none L F1 Bag_chance_to_draw_S Bag_chance_to_draw_W noneNo (fun _ => rfl) ?_
  intro z t Q E h ye tbl
  obtain ⟨self1, letter2, ⟨⟩⟩ := t
  refine s_ret (R := fun (v4 : (Int × Int)) => Q v4) (c_tup2 (a_cons (c_fst (c_dget2 ye.ok (c_d (c_fld BagV.letters (He.cls_ok (L.d.fact 37 rfl)) (He.noat_ok (L.d.fact 39 rfl)) (c_v 0 rfl rfl))) (c_v 1 rfl rfl) (c_tup2 (a_cons c_int (a_cons c_int a_nil))))) (a_cons (c_meth0 (w := Bag_left_W) 0 ye G_Bag_left (He.cls_ok (L.d.fact 37 rfl)) (Nat.le_of_ble_eq_true rfl) (c_v 0 rfl rfl) rfl rfl) a_nil))) (by exact h) ?_
  intro v4 h
  try dsimp only
  exact ⟨⟨0, rfl⟩, _, rfl, h⟩

abbrev Bag_key_N : List Str := ["self"]
theorem Bag_key_S : FnScope Bag_key_N ["self"] d_Bag_key.scope := ⟨rfl, rfl, rfl, by decide +kernel, rfl, by decide +kernel, by decide +kernel⟩
theorem ok_Bag_key (B : Bis mg) (L : LK w K mg base fa fn tq) {fd : FuncData} (F1 : Fd K d_Bag_key ["self"] fd)  : FnOk P w K mg base (L2.CX P w) 1 (He.fAd K d_Bag_key.at_) fd ["self"] (toSp K (tbOf K tq) 1 (spF K Bag_key_W)) := by
  refine fn_F (k := 0) none L F1 Bag_key_S Bag_key_W noneNo (fun _ => rfl) ?_
  intro z t Q E h ye tbl
  obtain ⟨self1, ⟨⟩⟩ := t
  refine s_ret (R := fun (v2 : (Tup (Txt × (Int × Int)))) => Q v2) (c_tupItems ye.ok B rfl (c_d (c_fld BagV.letters (He.cls_ok (L.d.fact 37 rfl)) (He.noat_ok (L.d.fact 39 rfl)) (c_v 0 rfl rfl)))) (by exact h) ?_
  intro v2 h
  try dsimp only
  exact ⟨⟨0, rfl⟩, _, rfl, h⟩

abbrev left_behind_N : List Str := ["word", "hand", "left", "letter"]
theorem left_behind_S : FnScope left_behind_N ["word", "hand"] d_left_behind.scope := ⟨rfl, rfl, rfl, by decide +kernel, rfl, by decide +kernel, by decide +kernel⟩
theorem ok_left_behind (B : Bis mg) (L : LK w K mg base fa fn tq) {fd : FuncData} (F1 : Fd K d_left_behind ["word", "hand"] fd) (G_can_be_made : Df P w K mg base (tbOf K tq) 1 "can_be_made" ["word", "letters"] (spF K can_be_made_W)) : FnOk P w K mg base (L2.CX P w) 2 (He.fAd K d_left_behind.at_) fd ["word", "hand"] (toSp K (tbOf K tq) 2 (spF K left_behind_W)) := by
  refine fn_F (k := 1) none L F1 left_behind_S left_behind_W noneNo (fun _ => rfl) ?_
  intro z t Q E h ye tbl
  obtain ⟨word1, hand2, ⟨⟩⟩ := t
  refine s_if (B := E .NoWay) (C := (left_behind_w4 word1 hand2 Q)) (t_not (t_v (fun _ => rfl) (c_call (w := can_be_made_W) 0 ye G_can_be_made (Nat.le_of_ble_eq_true rfl) rfl (a_cons (c_v 0 rfl rfl) (a_cons (c_v 1 rfl rfl) a_nil)) (fun _ => rfl) rfl))) ?_ ?_ (by exact h)
  · intro h
    exact s_raise 0 .NoWay ye (L.err 53 15) rfl rfl rfl (by exact h)
  intro h
  refine ws_nil ?_
  refine s_asgN (R := fun (left4 : List Txt) => (left_behind_w3 word1 left4 Q)) 2 ye.ok rfl (n_listS ye.ok B rfl (c_v 1 rfl rfl)) ?_ (by exact h)
  intro q5 left4 h
  try dsimp only
  refine s_for (Z := (List Txt)) (J := Option Pv) (Body := (fun (x6 : Txt) (z7 : (List Txt)) (nx9 : (List Txt) → Prop) => (left_behind_w1 x6 nx9 z7))) (Rest := (fun (z12 : (List Txt)) => (left_behind_w2 z12 Q))) (.n 3) (fun (z7 : (List Txt)) (j8 : Option Pv) => (⟨[some (pu word1), some (pu hand2), some (raw (.ref q5)), j8], [(q5, lstc z7)]⟩ : DSt)) left4 none ye.ok (i_txt (c_v 0 rfl rfl)) (tg_nm ye.ok.nd 3 rfl) rfl ?_ ?_ (by exact h)
  · intro x6 left10 j8 nx9 h
    try dsimp only
    refine s_remove (R := fun (v11 : Txt) => nx9 (erL left10 v11)) 2 0 ye.ok rfl rfl rfl (c_ifP (u := x6) (w := (tx "?")) (t_k (k_in ye.ok (c_v 3 rfl rfl) (l_own 2 0 rfl rfl rfl))) (c_v 3 rfl rfl) c_tx) ?_ (by exact h)
    intro v11 h
    try dsimp only
    exact ws_nil ⟨(erL left10 v11), some (pu x6), rfl, h⟩
  intro left14 j13 h
  try dsimp only
  refine s_ret (R := fun (v15 : Txt) => Q v15) (c_join c_tx (c_l (c_sorted ye.ok B rfl (l_own 2 0 rfl rfl rfl)))) (by exact h) ?_
  intro v15 h
  try dsimp only
  exact ⟨⟨1, rfl⟩, _, rfl, h⟩

abbrev law_word_N : List Str := ["dice", "letters", "least", "most", "k"]
theorem law_word_S : FnScope law_word_N ["dice", "letters", "least", "most"] d__law_word.scope := ⟨rfl, rfl, rfl, by decide +kernel, rfl, by decide +kernel, by decide +kernel⟩
theorem ok_law_word (B : Bis mg) (L : LK w K mg base fa fn tq) {fd : FuncData} (F1 : Fd K d__law_word ["dice", "letters", "least", "most"] fd) (G_law_roll : Df P w K mg base (tbOf K tq) 1 "_law_roll" ["dice", "many"] (spD rollW)) : FnOk P w K mg base (L2.CX P w) 2 (He.fAd K d__law_word.at_) fd ["dice", "letters", "least", "most"] (toSp K (tbOf K tq) 4 (spD law_word_W)) := by
  refine fn_D (k := 1) none L F1 law_word_S law_word_W noneNo (fun _ => rfl) ?_
  intro q0 z t Q h ye tbl
  obtain ⟨letters1, least2, most3, ⟨⟩⟩ := t
  refine s_ret (R := fun (v9 : Txt) => Q v9) (c_join c_tx (c_l (c_L ye.ok (l_lcN (.n 4) [("k", 4)] ye.ok (i_range1 ye.ok B rfl (c_add (c_v 2 rfl rfl) (c_callD 0 0 ye.ok G_law_roll (Nat.le_of_ble_eq_true rfl) rfl (a_cons (c_add (c_sub (c_v 3 rfl rfl) (c_v 2 rfl rfl)) c_int) a_nil) rfl rfl rfl (fun _ => rfl)))) (show BlkOk law_word_N d__law_word.scope _ _ from blk_by (by decide +kernel)) (fun z => (tg_blk ye.ok z 4 rfl)) (fun _ (x5 : Int) _ _ => (c_ixS (c_v 1 rfl rfl) (c_callD 0 1 ye.ok.blk G_law_roll (Nat.le_of_ble_eq_true rfl) rfl (a_cons (c_lenS B rfl (c_v 1 rfl rfl)) a_nil) rfl rfl rfl (fun _ => rfl)))))))) (by exact h) ?_
  intro v9 h
  try dsimp only
  exact ⟨⟨0, rfl⟩, _, rfl, h⟩

abbrev law_rest1_N : List Str := ["dice", "letters", "bag", "words", "word", "spots", "k", "total", "times", "sort", "many", "worth", "letter"]
theorem law_rest1_S : FnScope law_rest1_N ["dice", "letters", "bag", "words"] d__law_rest1.scope := ⟨rfl, rfl, rfl, by decide +kernel, rfl, by decide +kernel, by decide +kernel⟩
theorem ok_law_rest1 (B : Bis mg) (L : LK w K mg base fa fn tq) {fd : FuncData} (F1 : Fd K d__law_rest1 ["dice", "letters", "bag", "words"] fd) {fd_told : FuncData} (FD_told : Fd K d__law_told ["what"] fd_told) (CM_Bag : HN.cmpK K (He.ga K "Bag")) (G_law_roll : Df P w K mg base (tbOf K tq) 1 "_law_roll" ["dice", "many"] (spD rollW)) (G_Bag_spotted : Mt P w K mg base (tbOf K tq) 1 (He.ga K "Bag") "spotted" ["self", "word", "spots"] (spF K Bag_spotted_W)) (G_Bag_init : Mkr P w K mg base (tbOf K tq) 3 "Bag" (He.ga K "Bag") ["self", "letters"] (spI K Bag_init_W)) (G_Bag_draw : Mt P w K mg base (tbOf K tq) 5 (He.ga K "Bag") "draw" ["self", "hand"] (spF K Bag_draw_W)) (G_Bag_points : Mt P w K mg base (tbOf K tq) 3 (He.ga K "Bag") "points" ["self", "hand"] (spF K Bag_points_W)) (G_Bag_chance_to_draw : Mt P w K mg base (tbOf K tq) 4 (He.ga K "Bag") "chance_to_draw" ["self", "letter"] (spF K Bag_chance_to_draw_W)) (G_Bag_left : Mt P w K mg base (tbOf K tq) 3 (He.ga K "Bag") "left" ["self"] (spF K Bag_left_W)) : FnOk P w K mg base (L2.CX P w) 8 (He.fAd K d__law_rest1.at_) fd ["dice", "letters", "bag", "words"] (toSp K (tbOf K tq) 4 (spD law_rest1_W)) := by
  refine fn_D (k := 7) none L F1 law_rest1_S law_rest1_W noneNo (fun _ => rfl) ?_
  intro q0 z t Q h ye tbl
  obtain ⟨letters1, bag2, words3, ⟨⟩⟩ := t
  refine s_parM (R := fun (word4 : Txt) (spots5 : List (Int × (Txt × Int))) => (law_rest1_w13 letters1 bag2 word4 spots5 Q)) 4 5 ye.ok rfl rfl (c_ixL (c_l (c_v 3 rfl rfl)) c_int) (m_new (κ := Int) (ν := (Txt × Int))) ?_ (by exact h)
  intro q6 word4 spots5 h
  try dsimp only
  refine s_for (Z := (List (Int × (Txt × Int)))) (J := Option Pv) (Body := (fun (x7 : Int) (z8 : (List (Int × (Txt × Int)))) (nx10 : (List (Int × (Txt × Int))) → Prop) => (law_rest1_w3 x7 nx10 z8))) (Rest := (fun (z20 : (List (Int × (Txt × Int)))) => (law_rest1_w12 letters1 bag2 word4 z20 Q))) (.n 6) (fun (z8 : (List (Int × (Txt × Int)))) (j9 : Option Pv) => (⟨[some (raw (.ref q0)), some (pu letters1), some (pu bag2), some (pu words3), some (pu word4), some (raw (.ref q6)), j9, none, none, none, none, none, none], [(q6, dctc z8), (q0, dicec)]⟩ : DSt)) spots5 none ye.ok (i_range1 ye.ok B rfl (c_lenS B rfl (c_v 4 rfl rfl))) (tg_nm ye.ok.nd 6 rfl) rfl ?_ ?_ (by exact h)
  · intro x7 spots11 j9 nx10 h
    try dsimp only
    refine s_ifJ (Z := (List (Int × (Txt × Int)))) (J := Unit) (Rest := (fun (z13 : (List (Int × (Txt × Int)))) => (law_rest1_w2 nx10 z13))) (B := fun nx15 => (law_rest1_w1 x7 spots11 nx15)) (C := fun nx15 => nx15 spots11) (fun (z13 : (List (Int × (Txt × Int)))) (j14 : Unit) => (⟨[some (raw (.ref q0)), some (pu letters1), some (pu bag2), some (pu words3), some (pu word4), some (raw (.ref q6)), some (pu x7), none, none, none, none, none, none], [(q6, dctc z13), (q0, dicec)]⟩ : DSt)) (t_k (k_eq ye.ok (c_callD 0 1 ye.ok G_law_roll (Nat.le_of_ble_eq_true rfl) rfl (a_cons c_int a_nil) rfl rfl rfl (fun _ => rfl)) c_int)) ?_ ?_ ?_ (by exact h)
    · intro nx15 h
      try dsimp only
      refine s_dput (R := fun (spots18 : List (Int × (Txt × Int))) => nx15 spots18) 5 0 ye.ok rfl rfl rfl (c_tup2 (a_cons (c_ixL (c_l (c_list (s_cons c_tx (s_cons c_tx (s_nil))))) (c_callD 0 1 ye.ok G_law_roll (Nat.le_of_ble_eq_true rfl) rfl (a_cons c_int a_nil) rfl rfl rfl (fun _ => rfl))) (a_cons (c_add c_int (c_callD 0 1 ye.ok G_law_roll (Nat.le_of_ble_eq_true rfl) rfl (a_cons c_int a_nil) rfl rfl rfl (fun _ => rfl))) a_nil))) (c_v 6 rfl rfl) ?_ (by exact h)
      intro spots18 h
      try dsimp only
      exact ws_nil ⟨spots18, (), rfl, h⟩
    · intro nx15 h
      try dsimp only
      exact ws_nil ⟨spots11, (), rfl, h⟩
    intro spots19 j14 h
    try dsimp only
    exact ws_nil ⟨spots19, some (pu x7), rfl, h⟩
  intro spots22 j21 h
  try dsimp only
  refine s_asgT (R := fun (u23 : (Int × Int)) => (law_rest1_w11 letters1 bag2 word4 spots22 u23 Q)) (.p (.n 7) (.n 8)) (tg_pair ye.ok.calm (tg_nm ye.ok.nd 7 rfl) (tg_nm ye.ok.nd 8 rfl)) (c_tup2 (a_cons c_int (a_cons c_int a_nil))) ?_ (by exact h)
  intro u23 h
  try dsimp only
  refine s_for (Z := Int × Int) (J := Option Pv × Option Pv × Option Pv × Option Pv) (Body := (fun (x24 : Int) (z25 : Int × Int) (nx27 : Int × Int → Prop) => (law_rest1_w6 letters1 word4 spots22 x24 nx27 z25.1 z25.2))) (Rest := (fun (z34 : Int × Int) => (law_rest1_w10 letters1 bag2 word4 spots22 z34.1 z34.2 Q))) (.n 6) (fun (z25 : Int × Int) (j26 : Option Pv × Option Pv × Option Pv × Option Pv) => (⟨[some (raw (.ref q0)), some (pu letters1), some (pu bag2), some (pu words3), some (pu word4), some (raw (.ref q6)), j26.1, some (pu (z25.1 : Int)), some (pu (z25.2 : Int)), j26.2.1, j26.2.2.1, j26.2.2.2, none], [(q6, dctc spots22), (q0, dicec)]⟩ : DSt)) (u23.1, u23.2) (j21, none, none, none) ye.ok (i_range1 ye.ok B rfl (c_lenS B rfl (c_v 4 rfl rfl))) (tg_nm ye.ok.nd 6 rfl) rfl ?_ ?_ (by exact h)
  · intro x24 z25 j26 nx27 h
    try dsimp only
    obtain ⟨total28, times29⟩ := z25
    refine s_asgT (R := fun (u30 : (Txt × Int)) => (law_rest1_w5 letters1 word4 x24 nx27 total28 times29 u30)) (.p (.n 9) (.n 10)) (tg_pair ye.ok.calm (tg_nm ye.ok.nd 9 rfl) (tg_nm ye.ok.nd 10 rfl)) (c_dget2 ye.ok (d_own 5 0 rfl rfl rfl) (c_v 6 rfl rfl) (c_tup2 (a_cons c_tx (a_cons c_int a_nil)))) ?_ (by exact h)
    intro u30 h
    try dsimp only
    refine s_asg (R := fun (worth31 : Int) => (law_rest1_w4 nx27 total28 times29 u30 worth31)) 11 ye.ok rfl (c_ifP (u := (dgt letters1.kvs (ixS word4 x24)).2) (w := (0 : Int)) (t_k (k_inD ye.ok (c_ixS (c_v 4 rfl rfl) (c_v 6 rfl rfl)) (c_d (c_v 1 rfl rfl)))) (c_snd (c_dget ye.ok (c_d (c_v 1 rfl rfl)) (c_ixS (c_v 4 rfl rfl) (c_v 6 rfl rfl)))) c_int) ?_ (by exact h)
    intro worth31 h
    try dsimp only
    refine s_par (R := fun (total32 : Int) (times33 : Int) => nx27 (total32, times33)) 7 8 ye.ok rfl rfl (c_add (c_v 7 rfl rfl) (c_mul (c_v 11 rfl rfl) (c_ifP (u := u30.2) (w := (1 : Int)) (t_k (k_eq ye.ok (c_v 9 rfl rfl) c_tx)) (c_v 10 rfl rfl) c_int))) (c_mul (c_v 8 rfl rfl) (c_ifP (u := u30.2) (w := (1 : Int)) (t_k (k_eq ye.ok (c_v 9 rfl rfl) c_tx)) (c_v 10 rfl rfl) c_int)) ?_ (by exact h)
    intro total32 times33 h
    try dsimp only
    exact ws_nil ⟨(total32, times33), (some (pu x24), some (pu u30.1), some (pu u30.2), some (pu worth31)), rfl, h⟩
  intro z34 j35 h
  try dsimp only
  obtain ⟨total36, times37⟩ := z34
  refine ws_frD 5 0 rfl rfl ?_
  refine s_if (B := Q false) (C := (law_rest1_w9 bag2 Q)) (t_w (w_or (t_k (k_ne ye.ok (c_meth (w := Bag_spotted_W) 0 ye G_Bag_spotted (He.cls_ok (L.d.fact 37 rfl)) (Nat.le_of_ble_eq_true rfl) (c_v 2 rfl rfl) (a_cons (c_v 4 rfl rfl) (a_cons (c_v 5 rfl rfl) a_nil)) (fun _ => rfl) rfl) (c_mul (c_v 7 rfl rfl) (c_v 8 rfl rfl)))) (w_or1 (t_k (k_ne ye.ok (c_meth (w := Bag_spotted_W) 0 ye G_Bag_spotted (He.cls_ok (L.d.fact 37 rfl)) (Nat.le_of_ble_eq_true rfl) (c_v 2 rfl rfl) (a_cons (c_v 4 rfl rfl) (a_cons (c_dnew (κ := Int) (ν := (Txt × Int))) a_nil)) (fun _ => rfl) rfl) (c_sum ye.ok B rfl (c_l (c_L ye.ok (l_lc (.n 12) [("letter", 12)] (fun (x41 : Txt) => (dhas letters1.kvs x41)) (fun (x41 : Txt) => (dgt letters1.kvs x41).2) ye.ok (i_txt (c_v 4 rfl rfl)) (show BlkOk law_rest1_N d__law_rest1.scope _ _ from blk_by (by decide +kernel)) (fun z => (tg_blk ye.ok z 12 rfl)) (fun _ (x41 : Txt) _ _ => ts_one (t_k (k_inD ye.ok.blk (c_v 12 rfl rfl) (c_d (c_v 1 rfl rfl))))) (fun _ (x41 : Txt) _ _ => (c_snd (c_dget ye.ok.blk (c_d (c_v 1 rfl rfl)) (c_v 12 rfl rfl))))))))))))) ?_ ?_ (by exact h)
  · intro h
    refine s_ret (R := fun (v42 : Bool) => Q v42) c_bl (by exact h) ?_
    intro v42 h
    try dsimp only
    exact ⟨⟨0, rfl⟩, _, rfl, h⟩
  intro h
  refine ws_nil ?_
  refine s_if (B := Q false) (C := (law_rest1_w8 bag2 Q)) (t_k (k_neT (γ := BagV) ye.ok CM_Bag (c_told 4 (Sum.inl : BagV → (BagV ⊕ Txt)) (Sum.inr : Txt → (BagV ⊕ Txt)) toldT (ok_told L FD_told) (told_tells L.d) (tbl _ (List.mem_of_getElem? (i := 4) rfl)) ye.ok (Nat.le_of_ble_eq_true rfl) rfl (show LamX.LamS d__law_rest1.scope _ from LamX.lamS_by (by decide +kernel)) (fun _ _ _ _ h => h) (fun _ _ _ _ h => h) (fun z E_ ye' => (c_make (γ := BagV) (w := Bag_init_W) 0 ye' G_Bag_init (Nat.le_of_ble_eq_true rfl) rfl (a_cons (c_disp (fun _ => (pr_cons c_tx (c_tup2 (a_cons (c_sub c_int c_int) (a_cons c_int a_nil))) pr_nil))) a_nil) (fun _ => rfl) rfl))) c_tx)) ?_ ?_ (by exact h)
  · intro h
    refine s_ret (R := fun (v45 : Bool) => Q v45) c_bl (by exact h) ?_
    intro v45 h
    try dsimp only
    exact ⟨⟨0, rfl⟩, _, rfl, h⟩
  intro h
  refine ws_nil ?_
  refine s_if (B := Q false) (C := (law_rest1_w7 bag2 Q)) (t_k (k_neT (γ := BagV) ye.ok CM_Bag (c_told 5 (Sum.inl : BagV → (BagV ⊕ Txt)) (Sum.inr : Txt → (BagV ⊕ Txt)) toldT (ok_told L FD_told) (told_tells L.d) (tbl _ (List.mem_of_getElem? (i := 4) rfl)) ye.ok (Nat.le_of_ble_eq_true rfl) rfl (show LamX.LamS d__law_rest1.scope _ from LamX.lamS_by (by decide +kernel)) (fun _ _ _ _ h => h) (fun _ _ _ _ h => h) (fun z E_ ye' => (c_meth (w := Bag_draw_W) 0 ye' G_Bag_draw (He.cls_ok (L.d.fact 37 rfl)) (Nat.le_of_ble_eq_true rfl) (c_v 2 rfl rfl) (a_cons c_tx a_nil) (fun _ => rfl) rfl))) c_tx)) ?_ ?_ (by exact h)
  · intro h
    refine s_ret (R := fun (v48 : Bool) => Q v48) c_bl (by exact h) ?_
    intro v48 h
    try dsimp only
    exact ⟨⟨0, rfl⟩, _, rfl, h⟩
  intro h
  refine ws_nil ?_
  refine s_if (B := Q false) (C := Q true) (t_w (w_or (t_k (k_ne ye.ok (c_told 3 (Sum.inl : Int → (Int ⊕ Txt)) (Sum.inr : Txt → (Int ⊕ Txt)) toldT (ok_told L FD_told) (told_tells L.d) (tbl _ (List.mem_of_getElem? (i := 4) rfl)) ye.ok (Nat.le_of_ble_eq_true rfl) rfl (show LamX.LamS d__law_rest1.scope _ from LamX.lamS_by (by decide +kernel)) (fun _ _ _ _ h => h) (fun _ _ _ _ h => h) (fun z E_ ye' => (c_meth (w := Bag_points_W) 0 ye' G_Bag_points (He.cls_ok (L.d.fact 37 rfl)) (Nat.le_of_ble_eq_true rfl) (c_v 2 rfl rfl) (a_cons c_tx a_nil) (fun _ => rfl) rfl))) (c_inr (α := Int) (β := Txt) c_tx))) (w_or1 (t_k (k_ne ye.ok (c_meth (w := Bag_chance_to_draw_W) 0 ye G_Bag_chance_to_draw (He.cls_ok (L.d.fact 37 rfl)) (Nat.le_of_ble_eq_true rfl) (c_v 2 rfl rfl) (a_cons c_tx a_nil) (fun _ => rfl) rfl) (c_tup2 (a_cons c_int (a_cons (c_meth0 (w := Bag_left_W) 0 ye G_Bag_left (He.cls_ok (L.d.fact 37 rfl)) (Nat.le_of_ble_eq_true rfl) (c_v 2 rfl rfl) rfl rfl) a_nil)))))))) ?_ ?_ (by exact h)
  · intro h
    refine s_ret (R := fun (v53 : Bool) => Q v53) c_bl (by exact h) ?_
    intro v53 h
    try dsimp only
    exact ⟨⟨0, rfl⟩, _, rfl, h⟩
  intro h
  refine ws_nil ?_
  refine s_ret (R := fun (v54 : Bool) => Q v54) c_bl (by exact h) ?_
  intro v54 h
  try dsimp only
  exact ⟨⟨0, rfl⟩, _, rfl, h⟩

abbrev law_N : List Str := ["script", "dice", "letters", "letter", "bag", "hand", "many", "points", "after", "short", "words", "rows", "k", "word", "real", "lack", "fits", "rest", "best"]
theorem law_S : FnScope law_N ["script"] d_law.scope := ⟨rfl, rfl, rfl, by decide +kernel, rfl, by decide +kernel, by decide +kernel⟩
theorem ok_law (B : Bis mg) (L : LK w K mg base fa fn tq) {fd : FuncData} (F1 : Fd K d_law ["script"] fd) {fd_told : FuncData} (FD_told : Fd K d__law_told ["what"] fd_told) (CM_Bag : HN.cmpK K (He.ga K "Bag")) (G_law_rounds : Df P w K mg base (tbOf K tq) 2 "_law_rounds" ["script", "most"] dRoundsA) (G_law_roll : Df P w K mg base (tbOf K tq) 1 "_law_roll" ["dice", "many"] (spD rollW)) (G_Bag_init : Mkr P w K mg base (tbOf K tq) 3 "Bag" (He.ga K "Bag") ["self", "letters"] (spI K Bag_init_W)) (G_law_word : Df P w K mg base (tbOf K tq) 2 "_law_word" ["dice", "letters", "least", "most"] (spD law_word_W)) (G_Bag_left : Mt P w K mg base (tbOf K tq) 3 (He.ga K "Bag") "left" ["self"] (spF K Bag_left_W)) (G_Bag_key : Mt P w K mg base (tbOf K tq) 1 (He.ga K "Bag") "key" ["self"] (spF K Bag_key_W)) (G_Bag_draw : Mt P w K mg base (tbOf K tq) 5 (He.ga K "Bag") "draw" ["self", "hand"] (spF K Bag_draw_W)) (G_Bag_chance_to_draw : Mt P w K mg base (tbOf K tq) 4 (He.ga K "Bag") "chance_to_draw" ["self", "letter"] (spF K Bag_chance_to_draw_W)) (G_Bag_points : Mt P w K mg base (tbOf K tq) 3 (He.ga K "Bag") "points" ["self", "hand"] (spF K Bag_points_W)) (G_Bag_laid_points : Mt P w K mg base (tbOf K tq) 2 (He.ga K "Bag") "laid_points" ["self", "word", "hand"] (spF K Bag_laid_points_W)) (G_left_behind : Df P w K mg base (tbOf K tq) 2 "left_behind" ["word", "hand"] (spF K left_behind_W)) (G_Bag_best_word : Mt P w K mg base (tbOf K tq) 3 (He.ga K "Bag") "best_word" ["self", "hand", "words"] (spF K Bag_best_word_W)) (G_law_rest1 : Df P w K mg base (tbOf K tq) 8 "_law_rest1" ["dice", "letters", "bag", "words"] (spD law_rest1_W)) : FnOk P w K mg base (L2.CX P w) 9 (He.fAd K d_law.at_) fd ["script"] (toSp K (tbOf K tq) 1 (spF K law_W)) := by
  refine fn_F (k := 8) none L F1 law_S law_W noneNo (fun _ => rfl) ?_
  intro z t Q E h ye tbl
  obtain ⟨script1, ⟨⟩⟩ := t
  refine s_rounds (R := (law_w21 Q E)) 1 0 ye.ok G_law_rounds (Nat.le_of_ble_eq_true rfl) rfl rfl rfl (tg_nm ye.ok.nd 1 rfl) (c_v 0 rfl rfl) ?_ (by exact h)
  intro q2 h
  try dsimp only
  refine s_asg (R := fun (letters8 : (Dct Txt (Int × Int))) => (law_w20 letters8 Q E)) 2 ye.ok rfl (c_dictL ye.ok B rfl (c_l (c_catL (c_l (c_L ye.ok (l_lcN (.n 3) [("letter", 3)] ye.ok (i_txt c_tx) (show BlkOk law_N d_law.scope _ _ from blk_by (by decide +kernel)) (fun z => (tg_blk ye.ok z 3 rfl)) (fun _ (x3 : Txt) _ _ => (c_tup2 (a_cons (c_v 3 rfl rfl) (a_cons (c_tup2 (a_cons (c_callD 1 1 ye.ok.blk G_law_roll (Nat.le_of_ble_eq_true rfl) rfl (a_cons c_int a_nil) rfl rfl rfl (fun _ => rfl)) (a_cons (c_callD 1 1 ye.ok.blk G_law_roll (Nat.le_of_ble_eq_true rfl) rfl (a_cons c_int a_nil) rfl rfl rfl (fun _ => rfl)) a_nil))) a_nil))))))) (c_l (c_list (s_cons (c_tup2 (a_cons c_tx (a_cons (c_tup2 (a_cons c_int (a_cons c_int a_nil))) a_nil))) (s_nil))))))) ?_ (by exact h)
  intro letters8 h
  try dsimp only
  refine s_asgT (R := fun (u11 : (BagV × Txt)) => (law_w19 letters8 u11 Q E)) (.p (.n 4) (.n 5)) (tg_pair ye.ok.calm (tg_nm ye.ok.nd 4 rfl) (tg_nm ye.ok.nd 5 rfl)) (c_tup2 (a_cons (c_make (γ := BagV) (w := Bag_init_W) 1 ye G_Bag_init (Nat.le_of_ble_eq_true rfl) rfl (a_cons (c_v 2 rfl rfl) a_nil) (fun _ => rfl) rfl) (a_cons (c_callD 1 0 ye.ok G_law_word (Nat.le_of_ble_eq_true rfl) rfl (a_cons c_tx (a_cons c_int (a_cons c_int a_nil))) rfl rfl rfl (fun _ => rfl)) a_nil))) ?_ (by exact h)
  intro u11 h
  try dsimp only
  refine s_if (B := Q false) (C := (law_w18 letters8 u11 Q E)) (t_w (w_or (t_k (k_ne ye.ok (c_meth0 (w := Bag_left_W) 1 ye G_Bag_left (He.cls_ok (L.d.fact 37 rfl)) (Nat.le_of_ble_eq_true rfl) (c_v 4 rfl rfl) rfl rfl) (c_sum ye.ok B rfl (c_l (c_L ye.ok (l_lc0 (.p (.n 6) (.n 7)) [("many", 6), ("points", 7)] (fun (x13 : (Int × Int)) => x13.1) ye.ok (i_values (c_v 2 rfl rfl)) (show BlkOk law_N d_law.scope _ _ from blk_by (by decide +kernel)) (fun z => (tg_pair ye.ok.blk.calm (tg_blk ye.ok z 6 rfl) (tg_blk ye.ok z 7 rfl))) (fun _ (x13 : (Int × Int)) _ _ => (c_v 6 rfl rfl)))))))) (w_or1 (t_k (k_ne ye.ok (c_meth0 (w := Bag_key_W) 1 ye G_Bag_key (He.cls_ok (L.d.fact 37 rfl)) (Nat.le_of_ble_eq_true rfl) (c_v 4 rfl rfl) rfl rfl) (c_tupL B rfl (c_l (c_L ye.ok (l_lc0 (.n 3) [("letter", 3)] (fun (x15 : Txt) => (x15, (dgt letters8.kvs x15))) ye.ok (i_list (c_sortedD ye.ok B rfl (c_d (c_v 2 rfl rfl)))) (show BlkOk law_N d_law.scope _ _ from blk_by (by decide +kernel)) (fun z => (tg_blk ye.ok z 3 rfl)) (fun _ (x15 : Txt) _ _ => (c_tup2 (a_cons (c_v 3 rfl rfl) (a_cons (c_dget ye.ok.blk (c_d (c_v 2 rfl rfl)) (c_v 3 rfl rfl)) a_nil))))))))))))) ?_ ?_ (by exact h)
  · intro h
    refine s_ret (R := fun (v16 : Bool) => Q v16) c_bl (by exact h) ?_
    intro v16 h
    try dsimp only
    exact ⟨⟨1, rfl⟩, _, rfl, h⟩
  intro h
  refine ws_nil ?_
  refine s_asg (R := fun (after19 : (BagV ⊕ Txt)) => (law_w17 letters8 u11 after19 Q E)) 8 ye.ok rfl (c_told 5 (Sum.inl : BagV → (BagV ⊕ Txt)) (Sum.inr : Txt → (BagV ⊕ Txt)) toldT (ok_told L FD_told) (told_tells L.d) (tbl _ (List.mem_of_getElem? (i := 5) rfl)) ye.ok (Nat.le_of_ble_eq_true rfl) rfl (show LamX.LamS d_law.scope _ from LamX.lamS_by (by decide +kernel)) (fun _ _ _ _ h => h) (fun _ _ _ _ h => h) (fun z E_ ye' => (c_meth (w := Bag_draw_W) 0 ye' G_Bag_draw (He.cls_ok (L.d.fact 37 rfl)) (Nat.le_of_ble_eq_true rfl) (c_v 4 rfl rfl) (a_cons (c_v 5 rfl rfl) a_nil) (fun _ => rfl) rfl))) ?_ (by exact h)
  intro after19 h
  try dsimp only
  refine s_asgL (R := fun (short21 : (List Txt)) => (law_w16 letters8 u11 after19 short21 Q E)) 9 ye.ok rfl (l_lc (.n 3) [("letter", 3)] (fun (x20 : Txt) => (decide ((dgt letters8.kvs x20).1 < (cntT u11.2 x20)))) (fun (x20 : Txt) => x20) ye.ok (i_keys (c_v 2 rfl rfl)) (show BlkOk law_N d_law.scope _ _ from blk_by (by decide +kernel)) (fun z => (tg_blk ye.ok z 3 rfl)) (fun _ (x20 : Txt) _ _ => ts_one (t_k (k_gt (c_cntS (c_v 5 rfl rfl) (c_v 3 rfl rfl)) (c_fst (c_dget ye.ok.blk (c_d (c_v 2 rfl rfl)) (c_v 3 rfl rfl)))))) (fun _ (x20 : Txt) _ _ => (c_v 3 rfl rfl))) ?_ (by exact h)
  intro short21 h
  try dsimp only
  refine s_if (B := Q false) (C := (law_w15 letters8 u11 after19 Q E)) (t_k (k_ne ye.ok (c_k (k_eqT (γ := BagV) ye.ok CM_Bag (c_v 8 rfl rfl) c_tx)) (c_k (k_neL ye.ok (c_l (c_v 9 rfl rfl)) (c_l (c_list (s_nil (α := Txt)))))))) ?_ ?_ (by exact h)
  · intro h
    refine s_ret (R := fun (v22 : Bool) => Q v22) c_bl (by exact h) ?_
    intro v22 h
    try dsimp only
    exact ⟨⟨1, rfl⟩, _, rfl, h⟩
  intro h
  refine ws_nil ?_
  refine s_if (B := Q false) (C := (law_w14 letters8 u11 Q E)) (t_w (w_and (t_k (k_neT (γ := BagV) ye.ok CM_Bag (c_v 8 rfl rfl) c_tx)) (w_and1 (t_w (w_or (t_k (k_ne ye.ok (c_meth0 (w := Bag_left_W) 1 ye G_Bag_left (He.cls_ok (L.d.fact 37 rfl)) (Nat.le_of_ble_eq_true rfl) (c_sumL (c_v 8 rfl rfl)) rfl rfl) (c_sub (c_meth0 (w := Bag_left_W) 1 ye G_Bag_left (He.cls_ok (L.d.fact 37 rfl)) (Nat.le_of_ble_eq_true rfl) (c_v 4 rfl rfl) rfl rfl) (c_lenS B rfl (c_v 5 rfl rfl))))) (w_or1 (t_k (k_neL ye.ok (c_l (c_L ye.ok (l_lcX (.n 3) [("letter", 3)] ye.ok (i_keys (c_v 2 rfl rfl)) (show BlkOk law_N d_law.scope _ _ from blk_by (by decide +kernel)) (fun z => (tg_blk ye.ok z 3 rfl)) (fun _ (x25 : Txt) _ _ => ts_one (t_k (k_ne ye.ok.blk (c_meth (w := Bag_chance_to_draw_W) 1 ye.blk G_Bag_chance_to_draw (He.cls_ok (L.d.fact 37 rfl)) (Nat.le_of_ble_eq_true rfl) (c_sumL (c_v 8 rfl rfl)) (a_cons (c_v 3 rfl rfl) a_nil) (fun _ => rfl) trivial) (c_tup2 (a_cons (c_sub (c_fst (c_dget ye.ok.blk (c_d (c_v 2 rfl rfl)) (c_v 3 rfl rfl))) (c_cntS (c_v 5 rfl rfl) (c_v 3 rfl rfl))) (a_cons (c_meth0 (w := Bag_left_W) 1 ye.blk G_Bag_left (He.cls_ok (L.d.fact 37 rfl)) (Nat.le_of_ble_eq_true rfl) (c_sumL (c_v 8 rfl rfl)) rfl trivial) a_nil)))))) (fun _ (x25 : Txt) _ _ => (c_v 3 rfl rfl))))) (c_l (c_list (s_nil (α := Txt)))))))))))) ?_ ?_ (by exact h)
  · intro h
    refine s_ret (R := fun (v30 : Bool) => Q v30) c_bl (by exact h) ?_
    intro v30 h
    try dsimp only
    exact ⟨⟨1, rfl⟩, _, rfl, h⟩
  intro h
  refine ws_nil ?_
  refine s_if (B := Q false) (C := (law_w13 letters8 u11 Q)) (t_k (k_ne ye.ok (c_meth (w := Bag_points_W) 1 ye G_Bag_points (He.cls_ok (L.d.fact 37 rfl)) (Nat.le_of_ble_eq_true rfl) (c_v 4 rfl rfl) (a_cons (c_v 5 rfl rfl) a_nil) (fun _ => rfl) rfl) (c_sum ye.ok B rfl (c_l (c_L ye.ok (l_lc0 (.n 3) [("letter", 3)] (fun (x32 : Txt) => (dgt letters8.kvs x32).2) ye.ok (i_txt (c_v 5 rfl rfl)) (show BlkOk law_N d_law.scope _ _ from blk_by (by decide +kernel)) (fun z => (tg_blk ye.ok z 3 rfl)) (fun _ (x32 : Txt) _ _ => (c_snd (c_dget ye.ok.blk (c_d (c_v 2 rfl rfl)) (c_v 3 rfl rfl)))))))))) ?_ ?_ (by exact h)
  · intro h
    refine s_ret (R := fun (v33 : Bool) => Q v33) c_bl (by exact h) ?_
    intro v33 h
    try dsimp only
    exact ⟨⟨1, rfl⟩, _, rfl, h⟩
  intro h
  refine ws_nil ?_
  refine s_asgT (R := fun (u39 : ((List Txt) × (List (Int × Txt)))) => (law_w12 letters8 u11 u39 Q)) (.p (.n 10) (.n 11)) (tg_pair ye.ok.calm (tg_nm ye.ok.nd 10 rfl) (tg_nm ye.ok.nd 11 rfl)) (c_tup2 (a_cons (c_L ye.ok (l_lcN (.n 12) [("k", 12)] ye.ok (i_range1 ye.ok B rfl (c_add c_int (c_callD 1 0 ye.ok G_law_roll (Nat.le_of_ble_eq_true rfl) rfl (a_cons c_int a_nil) rfl rfl rfl (fun _ => rfl)))) (show BlkOk law_N d_law.scope _ _ from blk_by (by decide +kernel)) (fun z => (tg_blk ye.ok z 12 rfl)) (fun _ (x35 : Int) _ _ => (c_callD 1 1 ye.ok.blk G_law_word (Nat.le_of_ble_eq_true rfl) rfl (a_cons c_tx (a_cons c_int (a_cons c_int a_nil))) rfl rfl rfl (fun _ => rfl))))) (a_cons (c_list (s_nil (α := (Int × Txt)))) a_nil))) ?_ (by exact h)
  intro u39 h
  try dsimp only
  refine s_for (Z := (List (Int × Txt))) (J := Option Pv × Option Pv × Option Pv × Option Pv × Option Pv × Option Pv) (Body := (fun (x40 : Txt) (z41 : (List (Int × Txt))) (nx43 : (List (Int × Txt)) → Prop) => (law_w8 letters8 u11 x40 nx43 z41 Q))) (Rest := (fun (z60 : (List (Int × Txt))) => (law_w11 letters8 u11 u39 z60 Q))) (.n 13) (fun (z41 : (List (Int × Txt))) (j42 : Option Pv × Option Pv × Option Pv × Option Pv × Option Pv × Option Pv) => (⟨[some (pu script1), some (raw (.ref q2)), some (pu letters8), none, some (pu u11.1), some (pu u11.2), none, j42.1, some (pu after19), some (pu short21), some (pu u39.1), some (pu (z41 : (List (Int × Txt)))), none, j42.2.1, j42.2.2.1, j42.2.2.2.1, j42.2.2.2.2.1, j42.2.2.2.2.2, none], [(q2, dicec)]⟩ : DSt)) u39.2 (none, none, none, none, none, none) ye.ok (i_list (c_v 10 rfl rfl)) (tg_nm ye.ok.nd 13 rfl) rfl ?_ ?_ (by exact h)
  · intro x40 rows44 j42 nx43 h
    try dsimp only
    refine s_asg (R := fun (real46 : (Dct Txt Int)) => (law_w7 letters8 u11 x40 nx43 rows44 real46 Q)) 14 ye.ok rfl (c_dictL ye.ok B rfl (c_l (c_L ye.ok (l_lc0 (.n 3) [("letter", 3)] (fun (x45 : Txt) => (x45, (min (cntT x40 x45) (cntT u11.2 x45)))) ye.ok (i_txt c_tx) (show BlkOk law_N d_law.scope _ _ from blk_by (by decide +kernel)) (fun z => (tg_blk ye.ok z 3 rfl)) (fun _ (x45 : Txt) _ _ => (c_tup2 (a_cons (c_v 3 rfl rfl) (a_cons (c_min2 ye.ok.blk B rfl (c_cntS (c_v 13 rfl rfl) (c_v 3 rfl rfl)) (c_cntS (c_v 5 rfl rfl) (c_v 3 rfl rfl))) a_nil)))))))) ?_ (by exact h)
    intro real46 h
    try dsimp only
    refine s_asg (R := fun (lack47 : Int) => (law_w6 letters8 u11 x40 nx43 rows44 real46 lack47 Q)) 15 ye.ok rfl (c_sub (c_lenS B rfl (c_v 13 rfl rfl)) (c_sumV ye.ok B rfl (c_d (c_v 14 rfl rfl)))) ?_ (by exact h)
    intro lack47 h
    try dsimp only
    refine s_asg (R := fun (fits48 : Bool) => (law_w5 letters8 u11 x40 nx43 rows44 real46 lack47 fits48 Q)) 16 ye.ok rfl (c_k (k_le (c_v 15 rfl rfl) (c_cntS (c_v 5 rfl rfl) c_tx))) ?_ (by exact h)
    intro fits48 h
    try dsimp only
    refine s_asg (R := fun (points50 : Int) => (law_w4 u11 x40 nx43 rows44 real46 lack47 fits48 points50 Q)) 7 ye.ok rfl (c_sum ye.ok B rfl (c_l (c_L ye.ok (l_lc0 (.n 3) [("letter", 3)] (fun (x49 : Txt) => ((dgt real46.kvs x49) * (dgt letters8.kvs x49).2)) ye.ok (i_txt c_tx) (show BlkOk law_N d_law.scope _ _ from blk_by (by decide +kernel)) (fun z => (tg_blk ye.ok z 3 rfl)) (fun _ (x49 : Txt) _ _ => (c_mul (c_dget ye.ok.blk (c_d (c_v 14 rfl rfl)) (c_v 3 rfl rfl)) (c_snd (c_dget ye.ok.blk (c_d (c_v 2 rfl rfl)) (c_v 3 rfl rfl))))))))) ?_ (by exact h)
    intro points50 h
    try dsimp only
    refine s_if (B := Q false) (C := (law_w3 u11 x40 nx43 rows44 real46 lack47 fits48 points50 Q)) (t_k (k_ne ye.ok (c_told 2 (Sum.inl : Int → (Int ⊕ Txt)) (Sum.inr : Txt → (Int ⊕ Txt)) toldT (ok_told L FD_told) (told_tells L.d) (tbl _ (List.mem_of_getElem? (i := 5) rfl)) ye.ok (Nat.le_of_ble_eq_true rfl) rfl (show LamX.LamS d_law.scope _ from LamX.lamS_by (by decide +kernel)) (fun _ _ _ _ h => h) (fun _ _ _ _ h => h) (fun z E_ ye' => (c_meth (w := Bag_laid_points_W) 0 ye' G_Bag_laid_points (He.cls_ok (L.d.fact 37 rfl)) (Nat.le_of_ble_eq_true rfl) (c_v 4 rfl rfl) (a_cons (c_v 13 rfl rfl) (a_cons (c_v 5 rfl rfl) a_nil)) (fun _ => rfl) rfl))) (c_ifP (u := (Sum.inl points50 : (Int ⊕ Txt))) (w := (Sum.inr (tx "no way") : (Int ⊕ Txt))) (t_v (fun _ => rfl) (c_v 16 rfl rfl)) (c_inl (α := Int) (β := Txt) (c_v 7 rfl rfl)) (c_inr (α := Int) (β := Txt) c_tx)))) ?_ ?_ (by exact h)
    · intro h
      refine s_ret (R := fun (v53 : Bool) => Q v53) c_bl (by exact h) ?_
      intro v53 h
      try dsimp only
      exact ⟨⟨1, rfl⟩, _, rfl, h⟩
    intro h
    refine ws_nil ?_
    refine s_asg (R := fun (rest55 : Txt) => (law_w2 u11 x40 nx43 rows44 fits48 points50 rest55 Q)) 17 ye.ok rfl (c_join c_tx (c_l (c_catL (c_l (c_list (s_cons (c_mulS c_tx (c_sub (c_cntS (c_v 5 rfl rfl) c_tx) (c_v 15 rfl rfl))) (s_nil)))) (c_l (c_L ye.ok (l_lc0 (.n 3) [("letter", 3)] (fun (x54 : Txt) => (repS x54 ((cntT u11.2 x54) - (dgt real46.kvs x54)))) ye.ok (i_txt c_tx) (show BlkOk law_N d_law.scope _ _ from blk_by (by decide +kernel)) (fun z => (tg_blk ye.ok z 3 rfl)) (fun _ (x54 : Txt) _ _ => (c_mulS (c_v 3 rfl rfl) (c_sub (c_cntS (c_v 5 rfl rfl) (c_v 3 rfl rfl)) (c_dget ye.ok.blk (c_d (c_v 14 rfl rfl)) (c_v 3 rfl rfl))))))))))) ?_ (by exact h)
    intro rest55 h
    try dsimp only
    refine s_if (B := Q false) (C := (law_w1 x40 nx43 rows44 fits48 points50)) (t_k (k_ne ye.ok (c_told 2 id id toldT (ok_told L FD_told) (told_tells L.d) (tbl _ (List.mem_of_getElem? (i := 5) rfl)) ye.ok (Nat.le_of_ble_eq_true rfl) rfl (show LamX.LamS d_law.scope _ from LamX.lamS_by (by decide +kernel)) (fun _ _ _ _ h => h) (fun _ _ _ _ h => h) (fun z E_ ye' => (c_call (w := left_behind_W) 0 ye' G_left_behind (Nat.le_of_ble_eq_true rfl) rfl (a_cons (c_v 13 rfl rfl) (a_cons (c_v 5 rfl rfl) a_nil)) (fun _ => rfl) rfl))) (c_ifP (u := (joinT (tx "") (srt (rest55.map fun c => [c])))) (w := (tx "no way")) (t_v (fun _ => rfl) (c_v 16 rfl rfl)) (c_join c_tx (c_l (c_sortedS ye.ok B rfl (c_v 17 rfl rfl)))) c_tx))) ?_ ?_ (by exact h)
    · intro h
      refine s_ret (R := fun (v58 : Bool) => Q v58) c_bl (by exact h) ?_
      intro v58 h
      try dsimp only
      exact ⟨⟨1, rfl⟩, _, rfl, h⟩
    intro h
    refine ws_nil ?_
    refine s_asg (R := fun (rows59 : (List (Int × Txt))) => nx43 rows59) 11 ye.ok rfl (c_catL (c_l (c_v 11 rfl rfl)) (c_l (c_ifP (u := [(((0 : Int) - points50), x40)]) (w := ([] : List (Int × Txt))) (t_v (fun _ => rfl) (c_v 16 rfl rfl)) (c_list (s_cons (c_tup2 (a_cons (c_sub c_int (c_v 7 rfl rfl)) (a_cons (c_v 13 rfl rfl) a_nil))) (s_nil))) (c_list (s_nil (α := (Int × Txt))))))) ?_ (by exact h)
    intro rows59 h
    try dsimp only
    exact ws_nil ⟨rows59, (some (pu points50), some (pu x40), some (pu real46), some (pu lack47), some (pu fits48), some (pu rest55)), rfl, h⟩
  intro rows62 j61 h
  try dsimp only
  refine s_asg (R := fun (best65 : ((Int × Txt) ⊕ Txt)) => (law_w10 letters8 u11 u39 rows62 best65 Q)) 18 ye.ok rfl (c_told 3 (Sum.inl : (Int × Txt) → ((Int × Txt) ⊕ Txt)) (Sum.inr : Txt → ((Int × Txt) ⊕ Txt)) toldT (ok_told L FD_told) (told_tells L.d) (tbl _ (List.mem_of_getElem? (i := 5) rfl)) ye.ok (Nat.le_of_ble_eq_true rfl) rfl (show LamX.LamS d_law.scope _ from LamX.lamS_by (by decide +kernel)) (fun _ _ _ _ h => h) (fun _ _ _ _ h => h) (fun z E_ ye' => (c_meth (w := Bag_best_word_W) 0 ye' G_Bag_best_word (He.cls_ok (L.d.fact 37 rfl)) (Nat.le_of_ble_eq_true rfl) (c_v 4 rfl rfl) (a_cons (c_v 5 rfl rfl) (a_cons (c_v 10 rfl rfl) a_nil)) (fun _ => rfl) rfl))) ?_ (by exact h)
  intro best65 h
  try dsimp only
  refine s_if (B := Q false) (C := (law_w9 letters8 u11 u39 Q)) (t_k (k_ne ye.ok (c_v 18 rfl rfl) (c_ifP (u := (Sum.inl (((0 : Int) - (minL rows62).1), (minL rows62).2) : ((Int × Txt) ⊕ Txt))) (w := (Sum.inr (tx "no way") : ((Int × Txt) ⊕ Txt))) (t_k (k_neL ye.ok (c_l (c_v 11 rfl rfl)) (c_l (c_list (s_nil (α := (Int × Txt))))))) (c_inl (α := (Int × Txt)) (β := Txt) (c_tup2 (a_cons (c_sub c_int (c_fst (c_min ye.ok B rfl (c_l (c_v 11 rfl rfl))))) (a_cons (c_snd (c_min ye.ok B rfl (c_l (c_v 11 rfl rfl)))) a_nil)))) (c_inr (α := (Int × Txt)) (β := Txt) c_tx)))) ?_ ?_ (by exact h)
  · intro h
    refine s_ret (R := fun (v66 : Bool) => Q v66) c_bl (by exact h) ?_
    intro v66 h
    try dsimp only
    exact ⟨⟨1, rfl⟩, _, rfl, h⟩
  intro h
  refine ws_nil ?_
  refine s_if (B := Q false) (C := Q true) (t_not (t_v (fun _ => rfl) (c_callD 1 0 ye.ok G_law_rest1 (Nat.le_of_ble_eq_true rfl) rfl (a_cons (c_v 2 rfl rfl) (a_cons (c_v 4 rfl rfl) (a_cons (c_v 10 rfl rfl) a_nil))) rfl rfl rfl (fun _ => rfl)))) ?_ ?_ (by exact h)
  · intro h
    refine s_ret (R := fun (v68 : Bool) => Q v68) c_bl (by exact h) ?_
    intro v68 h
    try dsimp only
    exact ⟨⟨1, rfl⟩, _, rfl, h⟩
  intro h
  refine ws_nil ?_
  refine ws_nil ?_
  refine s_ret (R := fun (v69 : Bool) => Q v69) c_bl (by exact h) ?_
  intro v69 h
  try dsimp only
  exact ⟨⟨1, rfl⟩, _, rfl, h⟩

end
end K19
set_option maxHeartbeats 0
namespace K19
open PySem L2 Sp
theorem law_ok {P : Program} {w : World} {K : Frag} {mg : Str → Option Value} {base : Heap} (B : Bis mg) (L : LK w K mg base fa fn tq) (CM_Bag : HN.cmpK K (He.ga K "Bag")) {fd : FuncData} (F0 : Fd K d_law ["script"] fd) : FnOk P w K mg base (L2.CX P w) 9 (He.fAd K d_law.at_) fd ["script"] (toSp K (tbOf K tq) 1 (spF K law_W)) := by
  obtain ⟨fd_law_dice, FD_law_dice⟩ := Sp.LK.fd L.d 11 (d := d__law_dice) ["cell"] rfl (fun _ _ _ _ _ _ us hl => match us, hl with | [_], _ => rfl)
  have G_law_dice : Df P w K mg base (tbOf K tq) 1 "_law_dice" ["cell"] dDiceA := LK.df L FD_law_dice (ok_dice B L FD_law_dice) mDiceA 2
  obtain ⟨fd_law_roll, FD_law_roll⟩ := Sp.LK.fd L.d 12 (d := d__law_roll) ["dice", "many"] rfl (fun _ _ _ _ _ _ us hl => match us, hl with | [_, _], _ => rfl)
  have G_law_roll : Df P w K mg base (tbOf K tq) 1 "_law_roll" ["dice", "many"] (spD rollW) := LK.df L FD_law_roll (ok_roll B L FD_law_roll) spD_mono 3
  obtain ⟨fd_law_rounds, FD_law_rounds⟩ := Sp.LK.fd L.d 13 (d := d__law_rounds) ["script", "most"] rfl (fun _ _ _ _ _ _ us hl => match us, hl with | [_, _], _ => rfl)
  have G_law_rounds : Df P w K mg base (tbOf K tq) 2 "_law_rounds" ["script", "most"] dRoundsA := LK.df L FD_law_rounds (ok_rounds B L FD_law_rounds G_law_dice) mRoundsA 4
  obtain ⟨fd_law_told, FD_law_told⟩ := Sp.LK.fd L.d 14 (d := d__law_told) ["what"] rfl (fun _ _ _ _ _ _ us hl => match us, hl with | [_], _ => rfl)
  obtain ⟨fd_can_be_made, FD_can_be_made⟩ := Sp.LK.fd L.d 0 (d := d_can_be_made) ["word", "letters"] rfl (fun _ _ _ _ _ _ us hl => match us, hl with | [_, _], _ => rfl)
  have G_can_be_made : Df P w K mg base (tbOf K tq) 1 "can_be_made" ["word", "letters"] (spF K can_be_made_W) := LK.df L FD_can_be_made (ok_can_be_made B L FD_can_be_made ) spF_mono 0
  obtain ⟨fd_Bag_init, FD_Bag_init⟩ := Sp.LK.fd L.d 1 (d := d_Bag_init) ["self", "letters"] rfl (fun _ _ _ _ _ _ us hl => match us, hl with | [_, _], _ => rfl)
  have G_Bag_init : Mkr P w K mg base (tbOf K tq) 3 "Bag" (He.ga K "Bag") ["self", "letters"] (spI K Bag_init_W) := LK.mkr L FD_Bag_init (ok_Bag_init B L FD_Bag_init ) spI_mono 38 9
  obtain ⟨fd_Bag_left, FD_Bag_left⟩ := Sp.LK.fd L.d 2 (d := d_Bag_left) ["self"] rfl (fun _ _ _ _ _ _ us hl => match us, hl with | [_], _ => rfl)
  have G_Bag_left : Mt P w K mg base (tbOf K tq) 3 (He.ga K "Bag") "left" ["self"] (spF K Bag_left_W) := LK.mt L FD_Bag_left (ok_Bag_left B L FD_Bag_left ) spF_mono 40
  obtain ⟨fd_Bag_draw, FD_Bag_draw⟩ := Sp.LK.fd L.d 3 (d := d_Bag_draw) ["self", "hand"] rfl (fun _ _ _ _ _ _ us hl => match us, hl with | [_, _], _ => rfl)
  have G_Bag_draw : Mt P w K mg base (tbOf K tq) 5 (He.ga K "Bag") "draw" ["self", "hand"] (spF K Bag_draw_W) := LK.mt L FD_Bag_draw (ok_Bag_draw B L FD_Bag_draw G_Bag_init) spF_mono 41
  obtain ⟨fd_Bag_points, FD_Bag_points⟩ := Sp.LK.fd L.d 4 (d := d_Bag_points) ["self", "hand"] rfl (fun _ _ _ _ _ _ us hl => match us, hl with | [_, _], _ => rfl)
  have G_Bag_points : Mt P w K mg base (tbOf K tq) 3 (He.ga K "Bag") "points" ["self", "hand"] (spF K Bag_points_W) := LK.mt L FD_Bag_points (ok_Bag_points B L FD_Bag_points ) spF_mono 42
  obtain ⟨fd_Bag_laid_points, FD_Bag_laid_points⟩ := Sp.LK.fd L.d 5 (d := d_Bag_laid_points) ["self", "word", "hand"] rfl (fun _ _ _ _ _ _ us hl => match us, hl with | [_, _, _], _ => rfl)
  have G_Bag_laid_points : Mt P w K mg base (tbOf K tq) 2 (He.ga K "Bag") "laid_points" ["self", "word", "hand"] (spF K Bag_laid_points_W) := LK.mt L FD_Bag_laid_points (ok_Bag_laid_points B L FD_Bag_laid_points G_can_be_made) spF_mono 43
  obtain ⟨fd_Bag_best_word, FD_Bag_best_word⟩ := Sp.LK.fd L.d 6 (d := d_Bag_best_word) ["self", "hand", "words"] rfl (fun _ _ _ _ _ _ us hl => match us, hl with | [_, _, _], _ => rfl)
  have G_Bag_best_word : Mt P w K mg base (tbOf K tq) 3 (He.ga K "Bag") "best_word" ["self", "hand", "words"] (spF K Bag_best_word_W) := LK.mt L FD_Bag_best_word (ok_Bag_best_word B L FD_Bag_best_word G_can_be_made G_Bag_laid_points) spF_mono 44
  obtain ⟨fd_Bag_spotted, FD_Bag_spotted⟩ := Sp.LK.fd L.d 7 (d := d_Bag_spotted) ["self", "word", "spots"] rfl (fun _ _ _ _ _ _ us hl => match us, hl with | [_, _, _], _ => rfl)
  have G_Bag_spotted : Mt P w K mg base (tbOf K tq) 1 (He.ga K "Bag") "spotted" ["self", "word", "spots"] (spF K Bag_spotted_W) := LK.mt L FD_Bag_spotted (ok_Bag_spotted B L FD_Bag_spotted ) spF_mono 45
  obtain ⟨fd_Bag_chance_to_draw, FD_Bag_chance_to_draw⟩ := Sp.LK.fd L.d 8 (d := d_Bag_chance_to_draw) ["self", "letter"] rfl (fun _ _ _ _ _ _ us hl => match us, hl with | [_, _], _ => rfl)
  have G_Bag_chance_to_draw : Mt P w K mg base (tbOf K tq) 4 (He.ga K "Bag") "chance_to_draw" ["self", "letter"] (spF K Bag_chance_to_draw_W) := LK.mt L FD_Bag_chance_to_draw (ok_Bag_chance_to_draw B L FD_Bag_chance_to_draw G_Bag_left) spF_mono 46
  obtain ⟨fd_Bag_key, FD_Bag_key⟩ := Sp.LK.fd L.d 9 (d := d_Bag_key) ["self"] rfl (fun _ _ _ _ _ _ us hl => match us, hl with | [_], _ => rfl)
  have G_Bag_key : Mt P w K mg base (tbOf K tq) 1 (He.ga K "Bag") "key" ["self"] (spF K Bag_key_W) := LK.mt L FD_Bag_key (ok_Bag_key B L FD_Bag_key ) spF_mono 47
  obtain ⟨fd_left_behind, FD_left_behind⟩ := Sp.LK.fd L.d 10 (d := d_left_behind) ["word", "hand"] rfl (fun _ _ _ _ _ _ us hl => match us, hl with | [_, _], _ => rfl)
  have G_left_behind : Df P w K mg base (tbOf K tq) 2 "left_behind" ["word", "hand"] (spF K left_behind_W) := LK.df L FD_left_behind (ok_left_behind B L FD_left_behind G_can_be_made) spF_mono 1
  obtain ⟨fd_law_word, FD_law_word⟩ := Sp.LK.fd L.d 15 (d := d__law_word) ["dice", "letters", "least", "most"] rfl (fun _ _ _ _ _ _ us hl => match us, hl with | [_, _, _, _], _ => rfl)
  have G_law_word : Df P w K mg base (tbOf K tq) 2 "_law_word" ["dice", "letters", "least", "most"] (spD law_word_W) := LK.df L FD_law_word (ok_law_word B L FD_law_word G_law_roll) spD_mono 6
  obtain ⟨fd_law_rest1, FD_law_rest1⟩ := Sp.LK.fd L.d 16 (d := d__law_rest1) ["dice", "letters", "bag", "words"] rfl (fun _ _ _ _ _ _ us hl => match us, hl with | [_, _, _, _], _ => rfl)
  have G_law_rest1 : Df P w K mg base (tbOf K tq) 8 "_law_rest1" ["dice", "letters", "bag", "words"] (spD law_rest1_W) := LK.df L FD_law_rest1 (ok_law_rest1 B L FD_law_rest1 FD_law_told CM_Bag G_law_roll G_Bag_spotted G_Bag_init G_Bag_draw G_Bag_points G_Bag_chance_to_draw G_Bag_left) spD_mono 7
  exact ok_law B L F0 FD_law_told CM_Bag G_law_rounds G_law_roll G_Bag_init G_law_word G_Bag_left G_Bag_key G_Bag_draw G_Bag_chance_to_draw G_Bag_points G_Bag_laid_points G_left_behind G_Bag_best_word G_law_rest1
end K19
namespace K19
open PySem L2 Sp
theorem bis_of {w : World} {K : Frag} {mg : Str → Option Value} {base : Heap} (L : LK w K mg base fa fn tq) : Bis mg := by
  have g : ∀ i (x : Str), fa[i]? = some (He.Fa.free x) → mg x = none := fun i x h => He.free_ok L.X L.G (L.d.fact i h)
  refine ⟨fun x hx => ?_⟩
  simp only [List.mem_cons, List.not_mem_nil, or_false] at hx
  rcases hx with rfl | rfl | rfl | rfl | rfl | rfl | rfl | rfl | rfl | rfl | rfl | rfl | rfl | rfl | rfl | rfl | rfl | rfl | rfl
  · exact g 18 _ rfl
  · exact g 19 _ rfl
  · exact g 20 _ rfl
  · exact g 21 _ rfl
  · exact g 22 _ rfl
  · exact g 23 _ rfl
  · exact g 24 _ rfl
  · exact g 25 _ rfl
  · exact g 26 _ rfl
  · exact g 27 _ rfl
  · exact g 28 _ rfl
  · exact g 29 _ rfl
  · exact g 30 _ rfl
  · exact g 31 _ rfl
  · exact g 32 _ rfl
  · exact g 33 _ rfl
  · exact g 34 _ rfl
  · exact g 35 _ rfl
  · exact g 36 _ rfl
theorem cm_of {K : Frag} (h : ndTab K = true) (c : Str) (hc : c ∈ cmc) : HN.cmpK K (He.ga K c) := by
  unfold ndTab at h
  rw [Bool.and_eq_true] at h
  exact HN.cmpB_ok (List.all_eq_true.mp h.2 c hc)
theorem nd_of {K : Frag} (h : ndTab K = true) : (tq.map fun p => (He.cT K p.1).2).Nodup := by
  unfold ndTab at h
  rw [Bool.and_eq_true] at h
  exact of_decide_eq_true h.1
end K19
open PySem PySem.W PySem.Calls PyProof.Rows in
theorem K19.holds_of (plain : ∀ ns : List Int, ns.length ≤ 63 → (∀ z ∈ ns, Builtin.Int.intBits z ≤ 1048576) → K19.law_W (ns, ()) (fun b => b = true) Sp.NoE) : PySem.Challenge.rw_spellhall_k19_tiles.Holds := by
  w_on; o_law
  refine HandSHeadRun.head_any (r := K19.R) (q := view K19.R.prog [21]) (H := K19.hk) (ob := K19.ob) (M := 4000) (loose := K19.names) (d := HandSHeadRun.topDef K19.R.prog 21) (kwd := []) K19.ob_eq
    (by kernel_rfl) (fun s => by kernel_rfl) K19.run (by kernel_rfl) (by kernel_rfl) (by kernel_rfl) (by rfl) (by first | assumption | decide +kernel) (by decide +kernel) ⟨rfl, rfl, rfl, rfl, rfl, by decide +kernel⟩ ?hw ?hc
  case hw => w_witness2
  case hc =>
    refine LamX.walk_ofTsE (l := PySem.Challenge.rw_spellhall_k19_tiles) (n := 63) (k := 9) (x := "script") (CX := fun w => L2.CX PySem.Challenge.rw_spellhall_k19_tiles.prog w) rfl (by decide) (by kernel_rfl) ⟨rfl, by decide, by decide⟩ ?F (fun w H s e s' z => by
      obtain ⟨_, _, _, _, _, _, _, _, _, _, _, _, z⟩ := z
      exact z)
    intro w mg fA h Y G hmg0
    obtain ⟨K, KX, c⟩ := Y
    refine ⟨K, KX, ?_⟩
    have hmg : mg ("law" : PySem.Str) = some (.ref fA) := by
      have e : (HandSHeadRun.topDef K19.R.prog 21).name = ("law" : PySem.Str) := by kernel_rfl
      rw [← e]
      exact hmg0
    have hg := He.glo_ok KX G (c.t.d.fact 8 (f := .glo "law") rfl)
    have ef : He.fAd K K19.d_law.at_ = fA := by
      rw [hmg] at hg
      cases hg
      rfl
    have hb : ∀ (kV doc pm : Value) (an : Option Addr) (cdv ct : Value) (us : List Value), us.length = [("script" : PySem.Str)].length → bindArgs (PySem.W.fnOf K19.d_law.name K19.d_law.qual K19.d_law.params K19.d_law.body K19.d_law.scope .none kV doc pm an cdv ct) ⟨us, []⟩ = pure ([("script" : PySem.Str)].zip us) :=
      fun _ _ _ _ _ _ us hl => match us, hl with | [_], _ => rfl
    obtain ⟨fd, F1⟩ := Sp.LK.fd c.t.d 17 (d := K19.d_law) ["script"] rfl hb
    exact Sp.law_end (tq := K19.tq) KX c (K19.nd_of c.more) F1 ef hb Sp.spF_mono (fun ns hl hz => ⟨(ns, ()), rfl, rfl, (fun b => b = true), Sp.NoE, plain ns hl hz, fun b hb => by subst hb; rfl, fun e he => he.elim⟩) fun base L => K19.law_ok (K19.bis_of L) L (K19.cm_of c.more "Bag" (by decide)) F1
set_option maxHeartbeats 4000000
namespace K19
open PySem L2 Sp
abbrev sg (x : Txt) : List Txt := x.map fun c => [c]
theorem sg_mem {x : Txt} {c : Nat} : [c] ∈ sg x ↔ c ∈ x := by simp [sg]
theorem sg_len (x : Txt) : (sg x).length = x.length := by simp [sg]
theorem sg_cnt (x : Txt) (c : Nat) : cnt (sg x) [c] = x.count c := by
  unfold sg cnt
  rw [List.countP_map, List.count]
  congr 1
  funext y
  by_cases e : y = c <;> simp [Function.comp, e]
theorem sg_erase (x : Txt) (c : Nat) : erL (sg x) [c] = sg (x.erase c) := by
  induction x with
  | nil => rfl
  | cons a x ih =>
    show erL ([a] :: sg x) [c] = _
    rw [erL_cons, List.erase_cons]
    by_cases e : a = c
    · subst e; simp
    · rw [if_neg (by simpa using e), if_neg (by simpa using e), ih]
      rfl
/-- what is left of the hand, what is lacking -/
def cSt (z : Txt × Int) (c : Nat) : Txt × Int := if c ∈ z.1 then (z.1.erase c, z.2) else (z.1, z.2 + 1)
def cF (w h : Txt) : Txt × Int := w.foldl cSt (h, 0)
def fits (w h : Txt) : Bool := decide ((cF w h).2 ≤ ((cF w h).1.count 63 : Int))
theorem cF_snoc (l h : Txt) (c : Nat) : cF (l ++ [c]) h = cSt (cF l h) c := by unfold cF; rw [List.foldl_append]; rfl
theorem cF_cnt (h : Txt) : ∀ (l : Txt) (c : Nat), (cF l h).1.count c = h.count c - l.count c := by
  refine snocInd ?_ ?_
  · intro c; simp [cF]
  · intro l x ih c
    rw [cF_snoc]
    unfold cSt
    by_cases hx : x ∈ (cF l h).1
    · rw [if_pos hx]
      show ((cF l h).1.erase x).count c = _
      rw [List.count_erase, ih, List.count_append, List.count_singleton]
      by_cases e : x = c
      · subst e; simp; omega
      · simp [e]
    · rw [if_neg hx]
      show (cF l h).1.count c = _
      have h0 : (cF l h).1.count x = 0 := List.count_eq_zero.mpr hx
      rw [ih] at h0
      rw [ih, List.count_append, List.count_singleton]
      by_cases e : x = c
      · subst e; simp; omega
      · simp [e]
theorem cF_len (h : Txt) : ∀ l : Txt, (cF l h).2 = (l.length : Int) + (cF l h).1.length - h.length := by
  refine snocInd ?_ ?_
  · simp [cF]
  · intro l x ih
    rw [cF_snoc]
    unfold cSt
    by_cases hx : x ∈ (cF l h).1
    · rw [if_pos hx]
      show (cF l h).2 = (l ++ [x]).length + ((cF l h).1.erase x).length - h.length
      have := List.length_erase_of_mem hx
      have := List.length_pos_of_mem hx
      rw [List.length_append, List.length_singleton]
      omega
    · rw [if_neg hx]
      show (cF l h).2 + 1 = (l ++ [x]).length + (cF l h).1.length - h.length
      rw [List.length_append, List.length_singleton]
      omega
theorem cF_sub (h : Txt) : ∀ l : Txt, ∀ c ∈ (cF l h).1, c ∈ h := by
  refine snocInd ?_ ?_
  · exact fun c hc => hc
  · intro l x ih c hc
    rw [cF_snoc] at hc
    unfold cSt at hc
    by_cases hx : x ∈ (cF l h).1
    · rw [if_pos hx] at hc; exact ih c (List.mem_of_mem_erase hc)
    · rw [if_neg hx] at hc; exact ih c hc
theorem fold_sg {Z Z' : Type} (g : Z' → Z) (f : Z → Txt → Z) (f' : Z' → Nat → Z') (hf : ∀ z c, f (g z) [c] = g (f' z c)) : ∀ (l : Txt) (z : Z'), (sg l).foldl f (g z) = g (l.foldl f' z)
  | [], _ => rfl
  | c :: l, z => by show (sg l).foldl f (f (g z) [c]) = _; rw [hf]; exact fold_sg g f f' hf l _
theorem pre_sg {l r : List Txt} {x : Txt} {w : Txt} (e : sg w = l ++ x :: r) : ∃ (l' : Txt) (c : Nat) (r' : Txt), w = l' ++ c :: r' ∧ l = sg l' ∧ x = [c] ∧ r = sg r' := by
  obtain ⟨a, b, e1, e2, e3⟩ := List.map_eq_append_iff.mp e
  obtain ⟨c, r', e4, e5, e6⟩ := List.map_eq_cons_iff.mp e3
  exact ⟨a, c, r', by rw [e1, e4], e2.symm, e5.symm, e6.symm⟩
/-- loops over a text, told by its signs -/
theorem forT {Z Z' : Type} {w : Txt} {z0 : Z} {body : Txt → Z → (Z → Prop) → Prop} {rest : Z → Prop} (P : Txt → Z → Prop) (h0 : P [] z0) (hs : ∀ l c r z, w = l ++ c :: r → P l z → ∀ k : Z → Prop, (∀ z', P (l ++ [c]) z' → k z') → body [c] z k) (he : ∀ z, P w z → rest z) : forW (w.map fun c => [c]) z0 body rest := by
  refine forW.inv (fun l z => ∃ l', l = sg l' ∧ P l' z) ⟨[], rfl, h0⟩ (fun l x r z e ⟨l1, e1, hp⟩ => ?_) (fun z ⟨l', e, hp⟩ => ?_)
  · obtain ⟨l', c, r', ew, el, ex, er⟩ := pre_sg e
    have : l1 = l' := by
      have h2 : sg l1 = sg l' := e1.symm.trans el
      have h3 := congrArg List.flatten h2
      rwa [flat_chars, flat_chars] at h3
    subst this ex
    exact hs l1 c r' z ew hp _ fun z' hz => ⟨l1 ++ [c], by rw [el]; simp [sg], hz⟩
  · have h3 := congrArg List.flatten e
    rw [flat_chars, flat_chars] at h3
    subst h3
    exact he z hp
theorem txq : (tx "?" : Txt) = [63] := rfl
theorem cbm_ok {w h : Txt} {Q : Bool → Prop} {E : Ex → Prop} (hh : h.length ≤ sizeLine) (q : Q (fits w h)) : can_be_made_W (w, h, ()) Q E := by
  refine ⟨hh, ?_⟩
  refine forT (Z' := Unit) (fun l z => z = (sg (cF l h).1, (cF l h).2)) rfl (fun l c r z e hp k hk => ?_) (fun z hp => ?_)
  · subst hp
    have hk := hk _ rfl
    rw [cF_snoc] at hk
    unfold cSt at hk
    refine ifJ.mk (fun hb => ?_) (fun hb => ?_)
    · have hm : c ∈ (cF l h).1 := sg_mem.mp (by simpa [inL] using hb)
      rw [if_pos hm] at hk
      refine ⟨sg_mem.mpr hm, ?_⟩
      show k (erL (sg (cF l h).1) [c], _)
      rw [sg_erase]
      exact hk
    · have hm : ¬ c ∈ (cF l h).1 := fun hm => by
        have : inL [c] (sg (cF l h).1) = true := by rw [inL_iff]; exact sg_mem.mpr hm
        rw [this] at hb; cases hb
      rw [if_neg hm] at hk
      exact hk
  · subst hp
    show Q (decide ((cF w h).2 ≤ (cnt (sg (cF w h).1) (tx "?") : Int)))
    rw [txq, sg_cnt]
    exact q
end K19
set_option maxHeartbeats 4000000
namespace K19
open PySem L2 Sp
abbrev Lt := List (Txt × (Int × Int))
def pts (m : Lt) (c : Nat) : Int := ((dval m [c]).getD ((0 : Int), (0 : Int))).2
def ws (m : Lt) (x : Txt) : Int := (x.map (pts m)).sum
theorem ws_nil (m : Lt) : ws m [] = 0 := rfl
theorem ws_cons (m : Lt) (c : Nat) (x : Txt) : ws m (c :: x) = pts m c + ws m x := by unfold ws; rw [List.map_cons, List.sum_cons]
theorem ws_app (m : Lt) (x y : Txt) : ws m (x ++ y) = ws m x + ws m y := by
  induction x with
  | nil => rw [List.nil_append, ws_nil]; omega
  | cons a x ih => rw [List.cons_append, ws_cons, ws_cons, ih]; omega
theorem ws_erase {m : Lt} {c : Nat} : ∀ {x : Txt}, c ∈ x → ws m (x.erase c) + pts m c = ws m x
  | [], h => by cases h
  | a :: x, h => by
    rw [List.erase_cons]
    by_cases e : a = c
    · subst e; rw [if_pos (by simp), ws_cons]; omega
    · rw [if_neg (by simpa using e), ws_cons, ws_cons]
      have := ws_erase (m := m) (x := x) (c := c) ((List.mem_cons.mp h).resolve_left fun q => e q.symm)
      omega
def lp (m : Lt) (w h : Txt) : Int := ws m h - ws m (cF w h).1
theorem laid_ok {m : BagV} {w h : Txt} {Q : Int → Prop} {E : Ex → Prop} (hh : h.length ≤ sizeLine) (hf : fits w h = true) (q : Q (lp m.letters.kvs w h)) : Bag_laid_points_W (m, w, h, ()) Q E := by
  refine .val (r := true) (cbm_ok hh hf) ⟨fun e => (by cases e), fun _ => ⟨hh, ?_⟩⟩
  refine forT (Z' := Unit) (fun l z => z = (sg (cF l h).1, ws m.letters.kvs h - ws m.letters.kvs (cF l h).1)) (by simp [cF]) (fun l c r z e hp k hk => ?_) (fun z hp => ?_)
  · subst hp
    have hk := hk _ rfl
    rw [cF_snoc] at hk
    unfold cSt at hk
    refine ifJ.mk (fun hb => ?_) (fun hb => ?_)
    · have hm : c ∈ (cF l h).1 := sg_mem.mp (by simpa [inL] using hb)
      rw [if_pos hm] at hk
      refine ⟨sg_mem.mpr hm, ?_⟩
      show k (erL (sg (cF l h).1) [c], (ws m.letters.kvs h - ws m.letters.kvs (cF l h).1) + pts m.letters.kvs c)
      rw [sg_erase]
      have := ws_erase (m := m.letters.kvs) hm
      have e2 : (ws m.letters.kvs h - ws m.letters.kvs (cF l h).1) + pts m.letters.kvs c = ws m.letters.kvs h - ws m.letters.kvs ((cF l h).1.erase c) := by omega
      rw [e2]
      exact hk
    · have hm : ¬ c ∈ (cF l h).1 := fun hm => by
        have : inL [c] (sg (cF l h).1) = true := by rw [inL_iff]; exact sg_mem.mpr hm
        rw [this] at hb; cases hb
      rw [if_neg hm] at hk
      exact hk
  · subst hp
    exact q
theorem laid_no {m : BagV} {w h : Txt} {Q : Int → Prop} {E : Ex → Prop} (hh : h.length ≤ sizeLine) (hf : fits w h = false) (q : E .NoWay) : Bag_laid_points_W (m, w, h, ()) Q E :=
  .val (r := false) (cbm_ok hh hf) ⟨fun _ => q, fun e => by cases e⟩
/-! what is left behind -/
def bSt (x : Txt) (c : Nat) : Txt := x.erase (if c ∈ x then c else 63)
def beh (w h : Txt) : Txt := w.foldl bSt h
theorem beh_snoc (l h : Txt) (c : Nat) : beh (l ++ [c]) h = bSt (beh l h) c := by unfold beh; rw [List.foldl_append]; rfl
theorem lack_mono (h l : Txt) : ∀ r : Txt, (cF l h).2 ≤ (cF (l ++ r) h).2 := by
  refine snocInd ?_ ?_
  · simp
  · intro r c ih
    rw [← List.append_assoc, cF_snoc]
    unfold cSt
    by_cases e : c ∈ (cF (l ++ r) h).1
    · rw [if_pos e]; exact ih
    · rw [if_neg e]; show _ ≤ (cF (l ++ r) h).2 + 1; omega
structure Tie (l h : Txt) (x : Txt) : Prop where
  c : ∀ d, d ≠ 63 → x.count d = h.count d - l.count d
  q : (x.count 63 : Int) + (cF l h).2 = h.count 63
  s : x.length ≤ h.length
  m : ∀ d ∈ x, d ∈ h
theorem tie0 (h : Txt) : Tie [] h h := ⟨fun d _ => by simp, by simp [cF], Nat.le_refl _, fun d hd => hd⟩
theorem tie_step {l h x : Txt} {c : Nat} {r : Txt} (t : Tie l h x) (hc : c ≠ 63) (hl : (cF (l ++ c :: r) h).2 ≤ h.count 63) : (if c ∈ x then c else 63) ∈ x ∧ Tie (l ++ [c]) h (bSt x c) := by
  have hm : c ∈ x ↔ c ∈ (cF l h).1 := by
    rw [← List.count_pos_iff, ← List.count_pos_iff, t.c c hc, cF_cnt]
  have hmono := lack_mono h (l ++ [c]) r
  rw [List.append_assoc] at hmono
  have hq := t.q
  unfold bSt
  by_cases e : c ∈ x
  · rw [if_pos e]
    refine ⟨e, ⟨fun d hd => ?_, ?_, ?_, fun d hd => t.m d (List.mem_of_mem_erase hd)⟩⟩
    · rw [List.count_erase, t.c d hd, List.count_append, List.count_singleton]
      by_cases e2 : c = d
      · subst e2; simp; omega
      · simp [e2]
    · rw [cF_snoc, cSt, if_pos (hm.mp e), List.count_erase]
      simp [hc]
      exact hq
    · have := List.length_erase_le (a := c) (l := x); have := t.s; omega
  · rw [if_neg e]
    have hlk : (cF (l ++ [c]) h).2 = (cF l h).2 + 1 := by rw [cF_snoc, cSt, if_neg (fun q => e (hm.mpr q))]
    have hle : (cF (l ++ [c]) h).2 ≤ h.count 63 := Int.le_trans hmono hl
    have hpos : 0 < x.count 63 := by omega
    refine ⟨List.count_pos_iff.mp hpos, ⟨fun d hd => ?_, ?_, ?_, fun d hd => t.m d (List.mem_of_mem_erase hd)⟩⟩
    · rw [List.count_erase, t.c d hd, List.count_append, List.count_singleton]
      have h0 : x.count c = 0 := List.count_eq_zero.mpr e
      rw [t.c c hc] at h0
      by_cases e2 : c = d
      · subst e2; simp [Ne.symm hc]; omega
      · simp [e2, Ne.symm hd]
    · rw [hlk, List.count_erase]
      simp
      omega
    · have := List.length_erase_le (a := 63) (l := x); have := t.s; omega
theorem beh_tie {w h : Txt} (hw : ∀ c ∈ w, c ≠ 63) (hl : (cF w h).2 ≤ h.count 63) : Tie w h (beh w h) := by
  have key : ∀ l : Txt, ∀ r, w = l ++ r → Tie l h (beh l h) := by
    refine snocInd ?_ ?_
    · intro r _; exact tie0 h
    · intro l c ih r e
      rw [beh_snoc]
      have e2 : w = l ++ c :: r := by rw [e, List.append_assoc]; rfl
      exact (tie_step (ih _ e2) (hw c (by rw [e2]; simp)) (r := r) (by rw [← e2]; exact hl)).2
  exact key w [] (by simp)
theorem fits_le {w h : Txt} (hw : ∀ c ∈ w, c ≠ 63) : fits w h = true ↔ (cF w h).2 ≤ h.count 63 := by
  unfold fits
  rw [decide_eq_true_iff, cF_cnt]
  have : w.count 63 = 0 := List.count_eq_zero.mpr fun m => hw 63 m rfl
  rw [this]
  simp
theorem behind_ok {w h : Txt} {Q : Txt → Prop} {E : Ex → Prop} (hh : h.length ≤ 1000) (hw : ∀ c ∈ w, c ≠ 63) (hf : fits w h = true) (q : Q (joinT [] (srt (sg (beh w h))))) : left_behind_W (w, h, ()) Q E := by
  have hs : h.length ≤ sizeLine := Nat.le_trans hh (by decide)
  have hl := (fits_le hw).mp hf
  refine .val (r := true) (cbm_ok hs hf) ⟨fun e => (by cases e), fun _ => ⟨hs, ?_⟩⟩
  refine forT (Z' := Unit) (fun l z => z = sg (beh l h) ∧ ∀ r, w = l ++ r → Tie l h (beh l h)) ⟨rfl, fun r _ => tie0 h⟩ (fun l c r z e hp k hk => ?_) (fun z hp => ?_)
  · obtain ⟨hz, ht⟩ := hp
    subst hz
    have e : w = l ++ c :: r := e
    have tt := tie_step (ht _ e) (hw c (by rw [e]; simp)) (r := r) (by rw [← e]; exact hl)
    have hk := hk _ ⟨rfl, fun r2 e2 => by rw [beh_snoc]; exact tt.2⟩
    rw [beh_snoc] at hk
    have ei : (if (inL [c] (sg (beh l h))) = true then ([c] : Txt) else tx "?") = [if c ∈ beh l h then c else 63] := by
      by_cases e3 : c ∈ beh l h
      · rw [if_pos (show inL [c] (sg (beh l h)) = true by rw [inL_iff]; exact sg_mem.mpr e3), if_pos e3]
      · rw [if_neg (fun q => e3 (sg_mem.mp (by rw [inL_iff] at q; exact q))), if_neg e3]; rfl
    refine ⟨fun _ => rfl, fun _ => rfl, ?_⟩
    rw [ei]
    refine ⟨sg_mem.mpr tt.1, ?_⟩
    rw [sg_erase]
    exact hk
  · obtain ⟨hz, ht⟩ := hp
    subst hz
    have t := ht [] (by simp)
    refine ⟨?_, q⟩
    rw [lenSum_perm (srt_perm _), lenSum_chars]
    have : List.length (tx "") = 0 := rfl
    rw [this]
    have := t.s
    omega
theorem behind_no {w h : Txt} {Q : Txt → Prop} {E : Ex → Prop} (hh : h.length ≤ sizeLine) (hf : fits w h = false) (q : E .NoWay) : left_behind_W (w, h, ()) Q E :=
  .val (r := false) (cbm_ok hh hf) ⟨fun _ => q, fun e => by cases e⟩
end K19
set_option maxHeartbeats 4000000
namespace K19
open PySem L2 Sp
theorem flat_one {ls : Txt} : ∀ {ys : List Txt}, (∀ y ∈ ys, ∃ c ∈ ls, y = [c]) → lenSum ys = ys.length ∧ ys.flatten.length = ys.length ∧ ∀ c ∈ ys.flatten, c ∈ ls
  | [], _ => ⟨rfl, rfl, fun c h => by simp at h⟩
  | y :: ys, h => by
    obtain ⟨c, hc, e⟩ := h y (List.mem_cons_self ..)
    obtain ⟨h1, h2, h3⟩ := flat_one (ys := ys) fun z hz => h z (List.mem_cons_of_mem _ hz)
    subst e
    refine ⟨by rw [lenSum_cons, h1, List.length_cons, List.length_cons, List.length_nil]; omega, by rw [List.flatten_cons, List.length_append, h2, List.length_cons, List.length_cons, List.length_nil]; omega, fun d hd => ?_⟩
    rw [List.flatten_cons, List.mem_append] at hd
    rcases hd with hd | hd
    · rw [List.mem_singleton.mp hd]; exact hc
    · exact h3 d hd
theorem word_ok {ls : Txt} {lo hi : Int} {Q : Txt → Prop} {E : Ex → Prop} (h0 : 0 ≤ lo) (h1 : lo ≤ hi) (h2 : hi ≤ 1000) (hl : 0 < ls.length) (hl2 : ls.length ≤ 1000) (q : ∀ y : Txt, (∀ c ∈ y, c ∈ ls) → lo ≤ y.length → (y.length : Int) ≤ hi → Q y) : law_word_W (ls, lo, hi, ()) Q E := by
  have hs : ls.length ≤ sizeLine := Nat.le_trans hl2 (by decide)
  show law_word_w ls lo hi Q E
  refine ClD.roll (by omega) (by omega) fun r hr0 hr1 => ⟨⟨by omega, by omega⟩, ?_, fun _ y => ∃ c ∈ ls, y = [c], fun x hx => ⟨hs, ClD.roll (by omega) (by omega) fun i hi0 hi1 => ⟨hs, ⟨by omega, hi1⟩, ixS_mem hi0 hi1⟩⟩, fun ys hy => ?_⟩
  · rw [List.length_map, List.length_range]
    have : (lo + r).toNat ≤ 1000 := by omega
    exact Nat.le_trans this (by decide)
  · obtain ⟨f1, f2, f3⟩ := flat_one (ls := ls) (hy.all fun x _ y hy => hy)
    have hlen := hy.length
    rw [List.length_map, List.length_range] at hlen
    refine ⟨?_, ?_⟩
    · have : List.length (tx "") = 0 := rfl
      rw [this, f1, hlen]
      omega
    · show Q (joinT [] ys)
      rw [joinT_nil]
      refine q _ f3 ?_ ?_
      · rw [f2, hlen]; omega
      · rw [f2, hlen]; omega
/-! the bag -/
abbrev lets (p1 q1 p2 q2 p3 q3 : Int) : Lt := [([97], (p1, q1)), ([98], (p2, q2)), ([99], (p3, q3)), ([63], (2, 0))]
abbrev bagL (a1 q1 a2 q2 a3 q3 a4 : Int) : Lt := [([63], (a4, 0)), ([97], (a1, q1)), ([98], (a2, q2)), ([99], (a3, q3))]
theorem srtK : srt ([[97], [98], [99], [63]] : List Txt) = [[63], [97], [98], [99]] := srt_of (by decide) (by decide)
theorem srtK2 : srt ([[63], [97], [98], [99]] : List Txt) = [[63], [97], [98], [99]] := srt_of (by decide) (by decide)
theorem init_ok {p1 q1 p2 q2 p3 q3 : Int} {Q : BagV → Prop} {E : Ex → Prop} (h1 : 0 ≤ p1) (h2 : 0 ≤ p2) (h3 : 0 ≤ p3) (g1 : 0 ≤ q1) (g2 : 0 ≤ q2) (g3 : 0 ≤ q3) (q : Q ⟨⟨bagL p1 q1 p2 q2 p3 q3 2⟩⟩) : Bag_init_W (⟨lets p1 q1 p2 q2 p3 q3⟩, ()) Q E := by
  refine ⟨rfl, fun x _ => ⟨fun _ => rfl, rfl⟩, fun h => ?_, fun _ => ?_⟩
  · exfalso
    simp at h
    omega
  · show Bag_init_w1 _ Q
    unfold Bag_init_w1
    rw [show (lets p1 q1 p2 q2 p3 q3).map (·.1) = [[97], [98], [99], [63]] from rfl, srtK]
    refine ⟨by decide, fun x hx => ⟨?_, rfl⟩, ?_⟩
    · rw [dhas_iff]
      rw [← srt_mem, show (lets p1 q1 p2 q2 p3 q3).map (·.1) = [[97], [98], [99], [63]] from rfl, srtK]
      exact hx
    · exact q
end K19
set_option maxHeartbeats 4000000
namespace K19
open PySem L2 Sp
theorem init_ok2 {a1 q1 a2 q2 a3 q3 a4 : Int} {Q : BagV → Prop} {E : Ex → Prop} (h1 : 0 ≤ a1) (h2 : 0 ≤ a2) (h3 : 0 ≤ a3) (h4 : 0 ≤ a4) (g1 : 0 ≤ q1) (g2 : 0 ≤ q2) (g3 : 0 ≤ q3) (q : Q ⟨⟨bagL a1 q1 a2 q2 a3 q3 a4⟩⟩) : Bag_init_W (⟨bagL a1 q1 a2 q2 a3 q3 a4⟩, ()) Q E := by
  refine ⟨rfl, fun x _ => ⟨fun _ => rfl, rfl⟩, fun h => ?_, fun _ => ?_⟩
  · exfalso
    simp at h
    omega
  · show Bag_init_w1 _ Q
    unfold Bag_init_w1
    rw [show (bagL a1 q1 a2 q2 a3 q3 a4).map (·.1) = [[63], [97], [98], [99]] from rfl, srtK2]
    refine ⟨by decide, fun x hx => ⟨?_, rfl⟩, ?_⟩
    · rw [dhas_iff]
      exact hx
    · exact q
theorem left_ok {a1 q1 a2 q2 a3 q3 a4 : Int} {Q : Int → Prop} {E : Ex → Prop} (h1 : -1000 ≤ a1 ∧ a1 ≤ 1000) (h2 : -1000 ≤ a2 ∧ a2 ≤ 1000) (h3 : -1000 ≤ a3 ∧ a3 ≤ 1000) (h4 : -1000 ≤ a4 ∧ a4 ≤ 1000) (q : Q (a1 + a2 + a3 + a4)) : Bag_left_W (⟨⟨bagL a1 q1 a2 q2 a3 q3 a4⟩⟩, ()) Q E := by
  refine ⟨rfl, fun _ _ => rfl, sumOk_small (fun x hx => ?_) (by simp), ?_⟩
  · simp at hx
    rcases hx with rfl | rfl | rfl | rfl <;> constructor <;> omega
  · have e : (((bagL a1 q1 a2 q2 a3 q3 a4).map (·.2)).map fun x : Int × Int => x.1).sum = a1 + a2 + a3 + a4 := by
      simp
      omega
    rw [show (BagV.mk ⟨bagL a1 q1 a2 q2 a3 q3 a4⟩, ()).1.letters.kvs = bagL a1 q1 a2 q2 a3 q3 a4 from rfl, e]
    exact q
theorem chance_ok {a1 q1 a2 q2 a3 q3 a4 : Int} {l : Txt} {Q : Int × Int → Prop} {E : Ex → Prop} (h1 : -1000 ≤ a1 ∧ a1 ≤ 1000) (h2 : -1000 ≤ a2 ∧ a2 ≤ 1000) (h3 : -1000 ≤ a3 ∧ a3 ≤ 1000) (h4 : -1000 ≤ a4 ∧ a4 ≤ 1000) (q : Q (((dval (bagL a1 q1 a2 q2 a3 q3 a4) l).getD ((0 : Int), (0 : Int))).1, a1 + a2 + a3 + a4)) : Bag_chance_to_draw_W (⟨⟨bagL a1 q1 a2 q2 a3 q3 a4⟩⟩, l, ()) Q E :=
  .val (left_ok h1 h2 h3 h4 rfl) q
/-- a hand's letters -/
abbrev Hd (h : Txt) : Prop := ∀ c ∈ h, c = 97 ∨ c = 98 ∨ c = 99 ∨ c = 63
theorem bag_has {a1 q1 a2 q2 a3 q3 a4 : Int} {h : Txt} (hh : Hd h) : ∀ x ∈ sg h, dhas (bagL a1 q1 a2 q2 a3 q3 a4) x = true := by
  intro x hx
  obtain ⟨c, hc, e⟩ := List.mem_map.mp hx
  subst e
  rw [dhas_iff]
  rcases hh c hc with rfl | rfl | rfl | rfl <;> simp
theorem lets_has {p1 q1 p2 q2 p3 q3 : Int} {h : Txt} (hh : Hd h) : ∀ x ∈ sg h, dhas (lets p1 q1 p2 q2 p3 q3) x = true := by
  intro x hx
  obtain ⟨c, hc, e⟩ := List.mem_map.mp hx
  subst e
  rw [dhas_iff]
  rcases hh c hc with rfl | rfl | rfl | rfl <;> simp
theorem pts_bag {a1 q1 a2 q2 a3 q3 a4 p1 p2 p3 : Int} (c : Nat) : pts (bagL a1 q1 a2 q2 a3 q3 a4) c = pts (lets p1 q1 p2 q2 p3 q3) c := by
  unfold pts
  simp only [dval_cons, dval_nil]
  by_cases h1 : c = 97
  · subst h1; simp
  · by_cases h2 : c = 98
    · subst h2; simp
    · by_cases h3 : c = 99
      · subst h3; simp
      · by_cases h4 : c = 63
        · subst h4; simp
        · simp [Ne.symm h1, Ne.symm h2, Ne.symm h3, Ne.symm h4]
theorem ws_bag {a1 q1 a2 q2 a3 q3 a4 p1 p2 p3 : Int} (x : Txt) : ws (bagL a1 q1 a2 q2 a3 q3 a4) x = ws (lets p1 q1 p2 q2 p3 q3) x := by
  unfold ws
  congr 1
  exact List.map_congr_left fun c _ => pts_bag c
theorem pts_bd {p1 q1 p2 q2 p3 q3 : Int} (g1 : 0 ≤ q1 ∧ q1 < 9) (g2 : 0 ≤ q2 ∧ q2 < 9) (g3 : 0 ≤ q3 ∧ q3 < 9) (c : Nat) : 0 ≤ pts (lets p1 q1 p2 q2 p3 q3) c ∧ pts (lets p1 q1 p2 q2 p3 q3) c < 9 := by
  unfold pts
  simp only [dval_cons, dval_nil]
  by_cases h1 : c = 97
  · subst h1; simp; exact g1
  · by_cases h2 : c = 98
    · subst h2; simp; exact g2
    · by_cases h3 : c = 99
      · subst h3; simp; exact g3
      · by_cases h4 : c = 63
        · subst h4; simp
        · simp [Ne.symm h1, Ne.symm h2, Ne.symm h3, Ne.symm h4]
theorem map_pts (m : Lt) (x : Txt) : ((sg x).map fun y : Txt => (dgt m y).2) = x.map (pts m) := by
  rw [List.map_map]
  rfl
theorem points_ok {a1 q1 a2 q2 a3 q3 a4 : Int} {h : Txt} {Q : Int → Prop} {E : Ex → Prop} (g1 : 0 ≤ q1 ∧ q1 < 9) (g2 : 0 ≤ q2 ∧ q2 < 9) (g3 : 0 ≤ q3 ∧ q3 < 9) (hh : Hd h) (hl : h.length ≤ 1000) (q : Q (ws (lets a1 q1 a2 q2 a3 q3) h)) : Bag_points_W (⟨⟨bagL a1 q1 a2 q2 a3 q3 a4⟩⟩, h, ()) Q E := by
  have e1 : ((sg h).any fun x : Txt => !dhas (bagL a1 q1 a2 q2 a3 q3 a4) x) = false := by
    rw [List.any_eq_false]
    intro x hx
    rw [bag_has hh x hx]
    simp
  refine ⟨rfl, fun _ _ => rfl, fun e => ?_, fun _ => ⟨rfl, fun x hx => ⟨bag_has hh x hx, rfl⟩, ?_, ?_⟩⟩
  · rw [e1] at e; cases e
  · show SumOk ((sg h).map fun y : Txt => (dgt (bagL a1 q1 a2 q2 a3 q3 a4) y).2)
    rw [map_pts]
    refine sumOk_small (fun x hx => ?_) (by rw [List.length_map]; omega)
    obtain ⟨c, hc, e⟩ := List.mem_map.mp hx
    subst e
    rw [pts_bag (p1 := a1) (p2 := a2) (p3 := a3)]
    have := pts_bd (p1 := a1) (p2 := a2) (p3 := a3) g1 g2 g3 c
    constructor <;> omega
  · show Q ((sg h).map fun y : Txt => (dgt (bagL a1 q1 a2 q2 a3 q3 a4) y).2).sum
    rw [map_pts]
    show Q (ws (bagL a1 q1 a2 q2 a3 q3 a4) h)
    rw [ws_bag (p1 := a1) (p2 := a2) (p3 := a3)]
    exact q
theorem points_z {a1 q1 a2 q2 a3 q3 a4 : Int} {Q : Int → Prop} {E : Ex → Prop} (q : E .BadWord) : Bag_points_W (⟨⟨bagL a1 q1 a2 q2 a3 q3 a4⟩⟩, tx "z", ()) Q E :=
  ⟨rfl, fun _ _ => rfl, fun _ => q, fun e => by cases e⟩
theorem fold_len {α κ ν : Type} [DecidableEq κ] (k : α → κ) (v : α → ν) : ∀ (l : List α) (z : List (κ × ν)), (l.foldl (fun z x => dput z (k x) (v x)) z).length ≤ z.length + l.length
  | [], z => by simp
  | x :: l, z => by
    have h1 := fold_len k v l (dput z (k x) (v x))
    have h2 := dput_len (d := z) (k := k x) (v := v x)
    rw [List.foldl_cons, List.length_cons]
    omega
theorem draw_fold {a1 q1 a2 q2 a3 q3 a4 : Int} {h : Txt} {Q : BagV → Prop} {E : Ex → Prop} (q : Bag_draw_w3 ⟨⟨bagL a1 q1 a2 q2 a3 q3 a4⟩⟩ h (bagL (a1 - cntT h [97]) q1 (a2 - cntT h [98]) q2 (a3 - cntT h [99]) q3 (a4 - cntT h [63])) Q E) : Bag_draw_W (⟨⟨bagL a1 q1 a2 q2 a3 q3 a4⟩⟩, h, ()) Q E := by
  refine forW.fold (fun (z : Lt) (x : Txt × (Int × Int)) => dput z x.1 ((x.2.1 - cntT h x.1), x.2.2)) (fun l x r e k hk => ⟨?_, hk⟩) ?_
  · have h1 := fold_len (fun x : Txt × (Int × Int) => x.1) (fun x => ((x.2.1 - cntT h x.1), x.2.2)) l []
    have h2 := congrArg List.length e
    have h2 : 4 = l.length + (r.length + 1) := by rw [← List.length_cons, ← List.length_append]; exact h2
    have : (16777216 : Nat) = sizeLine := rfl
    refine Nat.lt_of_le_of_lt h1 ?_
    rw [List.length_nil]
    omega
  · exact q
theorem draw_ok {a1 q1 a2 q2 a3 q3 a4 : Int} {h : Txt} {Q : BagV → Prop} {E : Ex → Prop} (hh : Hd h) (h1 : 0 ≤ a1 - cntT h [97]) (h2 : 0 ≤ a2 - cntT h [98]) (h3 : 0 ≤ a3 - cntT h [99]) (h4 : 0 ≤ a4 - cntT h [63]) (g1 : 0 ≤ q1) (g2 : 0 ≤ q2) (g3 : 0 ≤ q3)
    (q : Q ⟨⟨bagL (a1 - cntT h [97]) q1 (a2 - cntT h [98]) q2 (a3 - cntT h [99]) q3 (a4 - cntT h [63])⟩⟩) : Bag_draw_W (⟨⟨bagL a1 q1 a2 q2 a3 q3 a4⟩⟩, h, ()) Q E := by
  have e1 : ((sg h).any fun x : Txt => !dhas (bagL a1 q1 a2 q2 a3 q3 a4) x) = false := by
    rw [List.any_eq_false]
    intro x hx
    rw [bag_has hh x hx]
    simp
  refine draw_fold ⟨rfl, fun _ _ => rfl, fun _ => ⟨rfl, fun _ _ => rfl, rfl⟩, fun e => ?_, fun _ => .here (init_ok2 h1 h2 h3 h4 g1 g2 g3 q)⟩
  exfalso
  rw [Bool.or_eq_true] at e
  rcases e with e | e
  · have e : ((sg h).any fun x : Txt => !dhas (bagL a1 q1 a2 q2 a3 q3 a4) x) = true := e
    rw [e1] at e; cases e
  · simp at e
    omega
theorem draw_no {a1 q1 a2 q2 a3 q3 a4 : Int} {h : Txt} {Q : BagV → Prop} {E : Ex → Prop} (hb : a1 - cntT h [97] < 0 ∨ a2 - cntT h [98] < 0 ∨ a3 - cntT h [99] < 0 ∨ a4 - cntT h [63] < 0) (q : E .BadWord) : Bag_draw_W (⟨⟨bagL a1 q1 a2 q2 a3 q3 a4⟩⟩, h, ()) Q E := by
  refine draw_fold ⟨rfl, fun _ _ => rfl, fun _ => ⟨rfl, fun _ _ => rfl, rfl⟩, fun _ => q, fun e => ?_⟩
  exfalso
  rw [Bool.or_eq_false_iff] at e
  have e := e.2
  simp at e
  omega
theorem draw_z {a1 q1 a2 q2 a3 q3 a4 : Int} {Q : BagV → Prop} {E : Ex → Prop} (q : E .BadWord) : Bag_draw_W (⟨⟨bagL a1 q1 a2 q2 a3 q3 a4⟩⟩, tx "z", ()) Q E := by
  refine draw_fold ⟨rfl, fun _ _ => rfl, fun _ => ⟨rfl, fun _ _ => rfl, rfl⟩, fun _ => q, fun e => ?_⟩
  rw [Bool.or_eq_false_iff] at e
  have := e.1
  cases this
end K19
set_option maxHeartbeats 4000000
namespace Sp
theorem forN {β Z : Type} {n : Nat} {h : Nat → β} {z0 : Z} {body : β → Z → (Z → Prop) → Prop} {rest : Z → Prop} (P : Nat → Z → Prop) (h0 : P 0 z0) (hs : ∀ i z, i < n → P i z → ∀ k : Z → Prop, (∀ z', P (i + 1) z' → k z') → body (h i) z k) (he : ∀ z, P n z → rest z) : forW ((List.range n).map h) z0 body rest :=
  ⟨P, h0, fun i x z hx hp => by
    rw [List.getElem?_map] at hx
    obtain ⟨j, hj, e⟩ := Option.map_eq_some_iff.mp hx
    have h1 := List.getElem?_eq_some_iff.mp hj
    obtain ⟨h2, h3⟩ := h1
    rw [List.length_range] at h2
    rw [List.getElem_range] at h3
    subst h3 e
    exact hs i z h2 hp _ fun z' q => q, fun z hp => he z (by rw [List.length_map, List.length_range] at hp; exact hp)⟩
theorem enumD_sg (w : Txt) : enumD (w.map fun c => [c]) = (List.range w.length).map fun i : Nat => ((i : Int), [w.getD i 0]) := by
  unfold enumD
  apply List.ext_getElem?
  intro i
  rw [List.getElem?_mapIdx, List.getElem?_map, List.getElem?_map]
  by_cases h : i < w.length
  · rw [List.getElem?_eq_getElem h, List.getElem?_range h]
    simp [List.getD_eq_getElem?_getD, List.getElem?_eq_getElem h]
  · rw [List.getElem?_eq_none (by omega), List.getElem?_eq_none (by rw [List.length_range]; omega)]
    rfl
theorem dput_mem {κ ν : Type} [DecidableEq κ] {d : List (κ × ν)} {k : κ} {v : ν} {p : κ × ν} (h : p ∈ dput d k v) : p.2 = v ∨ p ∈ d := by
  unfold dput at h
  by_cases e : (d.any fun kv => decide (kv.1 = k)) = true
  · rw [if_pos e] at h
    obtain ⟨q, hq, e2⟩ := List.mem_map.mp h
    by_cases e3 : q.1 = k
    · rw [if_pos e3] at e2; exact .inl (by rw [← e2])
    · rw [if_neg e3] at e2; exact .inr (by rw [← e2]; exact hq)
  · rw [if_neg e] at h
    rcases List.mem_append.mp h with h | h
    · exact .inr h
    · exact .inl (by rw [List.mem_singleton.mp h])
end Sp
namespace K19
open PySem L2 Sp
/-! the best word -/
def rows (m : Lt) (h : Txt) (words : List Txt) : List (Int × Txt) := (words.filter fun w => fits w h).map fun w => ((0 : Int) - lp m w h, w)
theorem best_ok {m : BagV} {h : Txt} {words : List Txt} {Q : Int × Txt → Prop} {E : Ex → Prop} (hh : h.length ≤ sizeLine) (hw : words.length ≤ sizeLine) (h1 : rows m.letters.kvs h words = [] → E .NoWay) (h2 : rows m.letters.kvs h words ≠ [] → Q ((0 : Int) - (minL (rows m.letters.kvs h words)).1, (minL (rows m.letters.kvs h words)).2)) : Bag_best_word_W (m, h, words, ()) Q E :=
  ⟨hw, fun w => fits w h, fun w => ((0 : Int) - lp m.letters.kvs w h, w), fun w _ => .here (cbm_ok hh rfl), fun w _ hf => .here (laid_ok hh hf rfl), fun e => h1 (of_decide_eq_true e), fun e => ⟨of_decide_eq_false e, h2 (of_decide_eq_false e)⟩⟩
/-! spots -/
abbrev Sps := List (Int × (Txt × Int))
def spt (s : Sps) (i : Nat) : Txt × Int := (dval s (i : Int)).getD ((tx "letter"), (1 : Int))
def gS (m : Lt) (s : Sps) (w : Txt) (z : Int × Int) (i : Nat) : Int × Int := (z.1 + pts m (w.getD i 0) * (if decide ((spt s i).1 = tx "letter") = true then (spt s i).2 else 1), z.2 * (if decide ((spt s i).1 = tx "word") = true then (spt s i).2 else 1))
def G (m : Lt) (s : Sps) (w : Txt) : Nat → Int × Int
  | 0 => (0, 1)
  | i + 1 => gS m s w (G m s w i) i
abbrev SpOk (s : Sps) : Prop := ∀ p ∈ s, 0 ≤ p.2.2 ∧ p.2.2 ≤ 3
theorem spt_bd {s : Sps} (h : SpOk s) (i : Nat) : 0 ≤ (spt s i).2 ∧ (spt s i).2 ≤ 3 := by
  unfold spt
  cases e : dval s (i : Int) with
  | none => exact ⟨by decide, by decide⟩
  | some v => exact h _ (dval_mem e)
abbrev PtOk (m : Lt) : Prop := ∀ c, 0 ≤ pts m c ∧ pts m c < 9
theorem mul_bd {a b : Int} (h1 : 0 ≤ a ∧ a < 9) (h2 : 0 ≤ b ∧ b ≤ 3) : 0 ≤ a * b ∧ a * b ≤ 27 := by
  have h3 : b = 0 ∨ b = 1 ∨ b = 2 ∨ b = 3 := by omega
  rcases h3 with rfl | rfl | rfl | rfl <;> constructor <;> omega
theorem gS_bd {m : Lt} {s : Sps} {w : Txt} (hm : PtOk m) (hs : SpOk s) {z : Int × Int} {i : Nat} (hz : 0 ≤ z.1 ∧ z.1 ≤ 27 * i) : 0 ≤ (gS m s w z i).1 ∧ (gS m s w z i).1 ≤ 27 * (i + 1 : Nat) := by
  have h1 := hm (w.getD i 0)
  have h2 := spt_bd hs i
  have h3 : 0 ≤ (if decide ((spt s i).1 = tx "letter") = true then (spt s i).2 else 1) ∧ (if decide ((spt s i).1 = tx "letter") = true then (spt s i).2 else 1) ≤ 3 := by
    split
    · exact h2
    · exact ⟨by decide, by decide⟩
  have h4 := mul_bd h1 h3
  show 0 ≤ z.1 + _ ∧ z.1 + _ ≤ _
  omega
theorem small_mul {a b : Int} (h : 0 ≤ a ∧ a ≤ 1000000) : CMul a b := .inl ⟨by omega, by omega⟩
theorem small_mul2 {a b : Int} (h : 0 ≤ b ∧ b ≤ 1000000) : CMul a b := .inr ⟨by omega, by omega⟩
theorem spotted_ok {m : BagV} {s : Sps} {w : Txt} {Q : Int → Prop} {E : Ex → Prop} (hm : PtOk m.letters.kvs) (hs : SpOk s) (hw : w.length ≤ 1000) (q : Q ((G m.letters.kvs s w w.length).1 * (G m.letters.kvs s w w.length).2)) : Bag_spotted_W (m, w, ⟨s⟩, ()) Q E := by
  show forW (enumD (w.map fun c => [c])) (0, 1) _ _
  rw [enumD_sg]
  refine forN (fun i z => z = G m.letters.kvs s w i ∧ 0 ≤ z.1 ∧ z.1 ≤ 27 * i) ⟨rfl, by decide, by decide⟩ (fun i z hi ⟨e, hz⟩ k hk => ?_) (fun z ⟨e, hz⟩ => ?_)
  · subst e
    have hk := hk _ ⟨rfl, gS_bd hm hs hz⟩
    have h2 := spt_bd hs i
    have h1 := hm (w.getD i 0)
    have fin : ∀ t : Int, k ((G m.letters.kvs s w i).1 + pts m.letters.kvs (w.getD i 0) * (if decide ((spt s i).1 = tx "letter") = true then (spt s i).2 else 1), t) → Bag_spotted_w1 k (G m.letters.kvs s w i).1 (spt s i) (pts m.letters.kvs (w.getD i 0)) t := fun t kt => ⟨fun _ => rfl, fun _ => rfl, small_mul ⟨h1.1, by omega⟩, kt⟩
    refine ifJ.mk (fun hb => ⟨small_mul2 (b := (spt s i).2) ⟨h2.1, by omega⟩, fin _ ?_⟩) (fun hb => fin _ ?_)
    · have e : (G m.letters.kvs s w (i + 1)) = gS m.letters.kvs s w (G m.letters.kvs s w i) i := rfl
      rw [e] at hk
      unfold gS at hk
      have hb : decide ((spt s i).1 = tx "word") = true := hb
      rw [if_pos hb] at hk
      exact hk
    · have e : (G m.letters.kvs s w (i + 1)) = gS m.letters.kvs s w (G m.letters.kvs s w i) i := rfl
      rw [e] at hk
      unfold gS at hk
      have hb : decide ((spt s i).1 = tx "word") = false := hb
      have e0 : (if decide ((spt s i).1 = tx "word") = true then (spt s i).2 else 1) = 1 := if_neg (by rw [hb]; decide)
      rw [e0, Int.mul_one] at hk
      exact hk
  · subst e
    exact ⟨small_mul ⟨hz.1, by omega⟩, q⟩
theorem G_empty (m : Lt) (w : Txt) : ∀ i, i ≤ w.length → G m [] w i = (ws m (w.take i), 1)
  | 0, _ => rfl
  | i + 1, h => by
    show gS m [] w (G m [] w i) i = _
    rw [G_empty m w i (by omega)]
    unfold gS
    have e1 : spt [] i = (tx "letter", 1) := rfl
    rw [e1, List.take_add_one, List.getElem?_eq_getElem (by omega), ws_app, List.getD_eq_getElem?_getD, List.getElem?_eq_getElem (by omega)]
    rw [if_pos (by decide), if_neg (by decide)]
    show (_, _) = (_, _)
    rw [show (some w[i]).toList = [w[i]] from rfl, ws_cons, ws_nil]
    simp
end K19
set_option maxHeartbeats 4000000
namespace K19
open PySem L2 Sp
theorem len4 : ∀ {x : Txt}, Hd x → x.length = x.count 97 + x.count 98 + x.count 99 + x.count 63
  | [], _ => rfl
  | c :: x, h => by
    have ih := len4 (x := x) fun d hd => h d (List.mem_cons_of_mem _ hd)
    have hc := h c (List.mem_cons_self ..)
    simp only [List.count_cons, List.length_cons]
    rcases hc with rfl | rfl | rfl | rfl <;> simp <;> omega
theorem ws4 {p1 q1 p2 q2 p3 q3 : Int} : ∀ {x : Txt}, Hd x → ws (lets p1 q1 p2 q2 p3 q3) x = x.count 97 * q1 + x.count 98 * q2 + x.count 99 * q3
  | [], _ => by simp [ws]
  | c :: x, h => by
    have ih := ws4 (p1 := p1) (q1 := q1) (p2 := p2) (q2 := q2) (p3 := p3) (q3 := q3) (x := x) fun d hd => h d (List.mem_cons_of_mem _ hd)
    have hc := h c (List.mem_cons_self ..)
    rw [ws_cons, ih]
    simp only [List.count_cons]
    rcases hc with rfl | rfl | rfl | rfl <;> simp [pts, dval_cons, Int.add_mul] <;> omega
theorem pts_if (m : Lt) (c : Nat) : (if (dhas m [c]) = true then (dgt m [c]).2 else (0 : Int)) = pts m c := by
  unfold dhas dgt pts
  cases dval m [c] with
  | none => rfl
  | some v => rfl
theorem ws_filter (m : Lt) : ∀ x : Txt, (((sg x).filter fun y : Txt => dhas m y).map fun y : Txt => (dgt m y).2).sum = ws m x
  | [] => rfl
  | c :: x => by
    have ih := ws_filter m x
    rw [ws_cons, ← pts_if]
    show (((([c] : Txt) :: sg x).filter fun y : Txt => dhas m y).map fun y : Txt => (dgt m y).2).sum = _
    rw [List.filter_cons]
    by_cases h : dhas m [c] = true
    · rw [if_pos h, if_pos h, List.map_cons, List.sum_cons, ih]
    · rw [if_neg h, if_neg h, ih]; omega
theorem G_bag {a1 q1 a2 q2 a3 q3 a4 p1 p2 p3 : Int} (s : Sps) (w : Txt) : ∀ i, G (bagL a1 q1 a2 q2 a3 q3 a4) s w i = G (lets p1 q1 p2 q2 p3 q3) s w i
  | 0 => rfl
  | i + 1 => by
    show gS _ s w (G _ s w i) i = gS _ s w (G _ s w i) i
    rw [G_bag (p1 := p1) (p2 := p2) (p3 := p3) s w i]
    unfold gS
    rw [pts_bag (p1 := p1) (p2 := p2) (p3 := p3)]
theorem ixS_nat (x : Txt) (i : Nat) : ixS x (i : Int) = [x.getD i 0] := by
  unfold ixS plc
  rw [if_pos (by omega)]
  rfl
section
variable {p1 q1 p2 q2 p3 q3 : Int}
structure Ok (p1 q1 p2 q2 p3 q3 : Int) : Prop where
  a1 : 0 ≤ p1 ∧ p1 < 5
  b1 : 0 ≤ q1 ∧ q1 < 9
  a2 : 0 ≤ p2 ∧ p2 < 5
  b2 : 0 ≤ q2 ∧ q2 < 9
  a3 : 0 ≤ p3 ∧ p3 < 5
  b3 : 0 ≤ q3 ∧ q3 < 9
theorem rest_w7 {Q : Bool → Prop} (o : Ok p1 q1 p2 q2 p3 q3) (q : Q true) : law_rest1_w7 ⟨⟨bagL p1 q1 p2 q2 p3 q3 2⟩⟩ Q := by
  obtain ⟨⟨a1, a1'⟩, ⟨b1, b1'⟩, ⟨a2, a2'⟩, ⟨b2, b2'⟩, ⟨a3, a3'⟩, ⟨b3, b3'⟩⟩ := o
  refine .exc (e := .BadWord) (points_z rfl) ⟨tx "word", rfl, fun h => absurd h (by decide), fun _ => ?_⟩
  refine .val (chance_ok ⟨by omega, by omega⟩ ⟨by omega, by omega⟩ ⟨by omega, by omega⟩ ⟨by omega, by omega⟩ rfl) ?_
  refine .val (left_ok ⟨by omega, by omega⟩ ⟨by omega, by omega⟩ ⟨by omega, by omega⟩ ⟨by omega, by omega⟩ rfl) ⟨fun h => ?_, fun _ => q⟩
  exact absurd rfl (of_decide_eq_true h)
theorem rest_w9 {Q : Bool → Prop} (o : Ok p1 q1 p2 q2 p3 q3) (q : Q true) : law_rest1_w9 ⟨⟨bagL p1 q1 p2 q2 p3 q3 2⟩⟩ Q := by
  refine .exc (e := .BadCount) ⟨rfl, fun x _ => ⟨fun _ => rfl, rfl⟩, fun _ => rfl, fun h => absurd h (by decide)⟩ ⟨tx "count", rfl, fun h => absurd h (by decide), fun _ => ?_⟩
  exact .exc (e := .BadWord) (draw_z rfl) ⟨tx "word", rfl, fun h => absurd h (by decide), fun _ => rest_w7 o q⟩
theorem ptOk (o : Ok p1 q1 p2 q2 p3 q3) : PtOk (lets p1 q1 p2 q2 p3 q3) := fun c => pts_bd o.b1 o.b2 o.b3 c
theorem ptOkB (o : Ok p1 q1 p2 q2 p3 q3) : PtOk (bagL p1 q1 p2 q2 p3 q3 2) := fun c => by rw [pts_bag (p1 := p1) (p2 := p2) (p3 := p3)]; exact ptOk o c
theorem rest_w10 {Q : Bool → Prop} (o : Ok p1 q1 p2 q2 p3 q3) {w : Txt} {s : Sps} (hs : SpOk s) (hw : w.length ≤ 1000) (hz : 0 ≤ (G (lets p1 q1 p2 q2 p3 q3) s w w.length).1 ∧ (G (lets p1 q1 p2 q2 p3 q3) s w w.length).1 ≤ 1000000) (q : Q true) :
    law_rest1_w10 ⟨lets p1 q1 p2 q2 p3 q3⟩ ⟨⟨bagL p1 q1 p2 q2 p3 q3 2⟩⟩ w s (G (lets p1 q1 p2 q2 p3 q3) s w w.length).1 (G (lets p1 q1 p2 q2 p3 q3) s w w.length).2 Q := by
  refine .val (spotted_ok (ptOkB o) hs hw rfl) ⟨small_mul hz, fun h => ?_, fun _ => ?_⟩
  · rw [G_bag (p1 := p1) (p2 := p2) (p3 := p3)] at h
    exact absurd rfl (of_decide_eq_true h)
  · refine .val (spotted_ok (ptOkB o) (s := []) (fun p hp => by cases hp) hw rfl) ⟨?_, fun _ _ => rfl, fun x _ h => ⟨h, rfl⟩, fun h => ?_, fun _ => rest_w9 o q⟩
    · rw [List.length_map]; exact Nat.le_trans hw (by decide)
    · rw [G_bag (p1 := p1) (p2 := p2) (p3 := p3), G_empty _ _ _ (Nat.le_refl _), ws_filter] at h
      have h := of_decide_eq_true h
      exact absurd (by rw [List.take_length]; exact Int.mul_one _) h
theorem rest1_ok {Q : Bool → Prop} {E : Ex → Prop} (o : Ok p1 q1 p2 q2 p3 q3) {words : List Txt} (h0 : words ≠ []) (hw : ∀ w ∈ words, w.length ≤ 4) (q : Q true) : law_rest1_W (⟨lets p1 q1 p2 q2 p3 q3⟩, ⟨⟨bagL p1 q1 p2 q2 p3 q3 2⟩⟩, words, ()) Q E := by
  have hpos : 0 < words.length := List.length_pos_iff.mpr h0
  have hw4 : (ixD words 0).length ≤ 4 := hw _ (ixD_mem (by decide) (by omega))
  show inR words.length 0 ∧ law_rest1_w13 _ _ (ixD words 0) [] Q
  generalize ixD words 0 = w at hw4
  have hsz : w.length ≤ sizeLine := Nat.le_trans hw4 (by decide)
  refine ⟨⟨by omega, by omega⟩, hsz, ⟨by omega, by omega⟩, ?_⟩
  refine forN (fun i z => SpOk z ∧ z.length ≤ i) ⟨fun p hp => (by cases hp), Nat.le_refl _⟩ (fun i z hi ⟨hs, hl⟩ k hk => ?_) (fun z ⟨hs, hl⟩ => ?_)
  · have hi : i < w.length := hi
    refine ClD.roll (by decide) (by decide) fun r hr0 hr1 => ifJ.mk (fun hb => ?_) (fun hb => hk _ ⟨hs, by omega⟩)
    refine ClD.roll (by decide) (by decide) fun r2 h20 h21 => ⟨⟨by show -((2 : Nat) : Int) ≤ r2; omega, by show r2 < ((2 : Nat) : Int); omega⟩, ClD.roll (by decide) (by decide) fun r3 h30 h31 => ⟨?_, hk _ ⟨fun p hp => ?_, ?_⟩⟩⟩
    · have : (16777216 : Nat) = sizeLine := rfl
      omega
    · rcases dput_mem hp with e | e
      · rw [e]; constructor <;> (show _ ≤ _) <;> omega
      · exact hs p e
    · exact Nat.le_trans dput_len (by omega)
  · refine ⟨hsz, ⟨by omega, by omega⟩, ?_⟩
    refine forN (fun i y => y = G (lets p1 q1 p2 q2 p3 q3) z w i ∧ 0 ≤ y.1 ∧ y.1 ≤ 27 * i) ⟨rfl, by decide, by decide⟩ (fun i y hi ⟨e, hy⟩ k hk => ?_) (fun y ⟨e, hy⟩ => ?_)
    · have hi : i < w.length := hi
      subst e
      have hk := hk _ ⟨rfl, gS_bd (ptOk o) hs hy⟩
      have h1 := ptOk o (w.getD i 0)
      have h2 := spt_bd hs i
      have hin : inR w.length (i : Int) := ⟨by omega, by omega⟩
      refine ⟨hsz, hin, fun hd => ⟨hsz, hin, hd, rfl⟩, fun _ => rfl, ?_⟩
      rw [ixS_nat, pts_if]
      have h3 : 0 ≤ (if decide ((spt z i).1 = tx "word") = true then (spt z i).2 else 1) ∧ (if decide ((spt z i).1 = tx "word") = true then (spt z i).2 else 1) ≤ 1000000 := by
        split
        · omega
        · exact ⟨by decide, by decide⟩
      exact ⟨fun _ => rfl, fun _ => rfl, small_mul (a := pts (lets p1 q1 p2 q2 p3 q3) (w.getD i 0)) ⟨h1.1, by omega⟩, fun _ => rfl, fun _ => rfl, small_mul2 h3, hk⟩
    · subst e
      have e : ((w.length : Int)).toNat = w.length := rfl
      rw [e] at hy ⊢
      exact rest_w10 o hs (by omega) ⟨hy.1, by omega⟩ q
end
end K19
set_option maxHeartbeats 4000000
namespace K19
open PySem L2 Sp
section
variable {p1 q1 p2 q2 p3 q3 : Int} {h w : Txt}
/-- a word's letters -/
abbrev Wd (w : Txt) : Prop := ∀ c ∈ w, c = 97 ∨ c = 98 ∨ c = 99 ∨ c = 100
abbrev mnI (w h : Txt) (c : Nat) : Int := min (w.count c : Int) (h.count c : Int)
def lackI (w h : Txt) : Int := (w.length : Int) - (mnI w h 97 + mnI w h 98 + mnI w h 99 + mnI w h 100)
theorem hd_d (hh : Hd h) : h.count 100 = 0 := List.count_eq_zero.mpr fun m => by rcases hh 100 m with e | e | e | e <;> cases e
theorem wd_q (hw : Wd w) : w.count 63 = 0 := List.count_eq_zero.mpr fun m => by rcases hw 63 m with e | e | e | e <;> cases e
theorem wd_ne (hw : Wd w) : ∀ c ∈ w, c ≠ 63 := fun c m e => by subst e; rcases hw 63 m with e | e | e | e <;> cases e
theorem cF_lack (hh : Hd h) (hw : Wd w) : (cF w h).2 = lackI w h := by
  have hz : Hd (cF w h).1 := fun c m => hh c (cF_sub h w c m)
  rw [cF_len, len4 hz, len4 hh, cF_cnt, cF_cnt, cF_cnt, cF_cnt]
  have := wd_q hw
  have := hd_d hh
  unfold lackI mnI
  omega
theorem fits_eq (hh : Hd h) (hw : Wd w) : fits w h = decide (lackI w h ≤ (h.count 63 : Int)) := by
  rw [Bool.eq_iff_iff, fits_le (wd_ne hw), cF_lack hh hw, decide_eq_true_iff]
theorem mul_split (a b c q : Int) (e : a = b + c) : a * q - b * q = c * q := by
  subst e; rw [Int.add_mul]; omega
theorem lp_eq (hh : Hd h) (hw : Wd w) : lp (lets p1 q1 p2 q2 p3 q3) w h = mnI w h 97 * q1 + mnI w h 98 * q2 + mnI w h 99 * q3 := by
  have hz : Hd (cF w h).1 := fun c m => hh c (cF_sub h w c m)
  unfold lp
  rw [ws4 hz, ws4 hh, cF_cnt, cF_cnt, cF_cnt]
  have e1 := mul_split (h.count 97) ((h.count 97 - w.count 97 : Nat) : Int) (mnI w h 97) q1 (by unfold mnI; omega)
  have e2 := mul_split (h.count 98) ((h.count 98 - w.count 98 : Nat) : Int) (mnI w h 98) q2 (by unfold mnI; omega)
  have e3 := mul_split (h.count 99) ((h.count 99 - w.count 99 : Nat) : Int) (mnI w h 99) q3 (by unfold mnI; omega)
  omega
theorem lp_bag : lp (bagL p1 q1 p2 q2 p3 q3 2) w h = lp (lets p1 q1 p2 q2 p3 q3) w h := by
  unfold lp
  rw [ws_bag (p1 := p1) (p2 := p2) (p3 := p3), ws_bag (p1 := p1) (p2 := p2) (p3 := p3)]
theorem rows_bag (words : List Txt) : rows (bagL p1 q1 p2 q2 p3 q3 2) h words = rows (lets p1 q1 p2 q2 p3 q3) h words := by
  unfold rows
  apply List.map_congr_left
  intro x _
  rw [lp_bag]
/-- the rest that the law tells -/
def restT (w h : Txt) : Txt := (repS [63] ((h.count 63 : Int) - lackI w h)) ++ (repS [97] ((h.count 97 : Int) - mnI w h 97) ++ (repS [98] ((h.count 98 : Int) - mnI w h 98) ++ repS [99] ((h.count 99 : Int) - mnI w h 99)))
theorem repS_one (c : Nat) (n : Int) : repS [c] n = List.replicate n.toNat c := by
  unfold repS
  induction n.toNat with
  | zero => rfl
  | succ k ih => rw [List.replicate_succ, List.replicate_succ, List.flatten_cons, ih]; rfl
theorem rest_perm (hh : Hd h) (hw : Wd w) (hf : fits w h = true) : (beh w h).Perm (restT w h) := by
  have t := beh_tie (wd_ne hw) ((fits_le (wd_ne hw)).mp hf)
  rw [fits_eq hh hw, decide_eq_true_iff] at hf
  have h63 := t.q
  rw [cF_lack hh hw] at h63
  rw [List.perm_iff_count]
  intro c
  unfold restT
  rw [repS_one, repS_one, repS_one, repS_one]
  simp only [List.count_append, List.count_replicate]
  by_cases e : c = 63
  · subst e
    simp
    omega
  · by_cases e1 : c = 97
    · subst e1
      have := t.c 97 (by decide)
      simp [mnI]
      omega
    · by_cases e2 : c = 98
      · subst e2
        have := t.c 98 (by decide)
        simp [mnI]
        omega
      · by_cases e3 : c = 99
        · subst e3
          have := t.c 99 (by decide)
          simp [mnI]
          omega
        · have h0 : (beh w h).count c = 0 := List.count_eq_zero.mpr fun m => by
            rcases hh c (t.m c m) with q | q | q | q
            · exact e1 q
            · exact e2 q
            · exact e3 q
            · exact e q
          rw [h0]
          simp [Ne.symm e, Ne.symm e1, Ne.symm e2, Ne.symm e3]
end
end K19
set_option maxHeartbeats 4000000
namespace K19
open PySem L2 Sp
section
variable {p1 q1 p2 q2 p3 q3 : Int} {h w : Txt} {Q : Bool → Prop}
def real (w h : Txt) : List (Txt × Int) := [([97], mnI w h 97), ([98], mnI w h 98), ([99], mnI w h 99), ([100], mnI w h 100)]
abbrev L4 (w h : Txt) : List Txt := [repS (tx "?") (cntT h (tx "?") - lackI w h)] ++ (((tx "abc").map fun c => [c]).map fun x : Txt => repS x (cntT h x - dgt (real w h) x))
theorem mn_bd (w h : Txt) (hl : w.length ≤ 4) (c : Nat) : 0 ≤ mnI w h c ∧ mnI w h c ≤ 4 := by
  have := List.count_le_length (a := c) (l := w)
  unfold mnI
  omega
theorem L4_flat (w h : Txt) : (L4 w h).flatten = restT w h := by
  show repS (tx "?") (cntT h (tx "?") - lackI w h) ++ (repS [97] (cntT h [97] - mnI w h 97) ++ (repS [98] (cntT h [98] - mnI w h 98) ++ (repS [99] (cntT h [99] - mnI w h 99) ++ []))) = _
  rw [txq, cntT_one, cntT_one, cntT_one, cntT_one, List.append_nil]
  rfl
theorem rest_len (w h : Txt) (hl : h.length ≤ 6) (hw : w.length ≤ 4) : (restT w h).length ≤ 1000 := by
  unfold restT
  rw [repS_one, repS_one, repS_one, repS_one]
  simp only [List.length_append, List.length_replicate]
  have h1 := mn_bd w h hw 97
  have h2 := mn_bd w h hw 98
  have h3 := mn_bd w h hw 99
  have h4 := mn_bd w h hw 100
  have g1 := List.count_le_length (a := 97) (l := h)
  have g2 := List.count_le_length (a := 98) (l := h)
  have g3 := List.count_le_length (a := 99) (l := h)
  have g4 := List.count_le_length (a := 63) (l := h)
  unfold lackI
  omega
theorem t_w1 {k : List (Int × Txt) → Prop} {rws : List (Int × Txt)} {f : Bool} {pt : Int} (hr : rws.length ≤ 100) (hk : k (rws ++ if f = true then [((0 : Int) - pt, w)] else [])) : law_w1 w k rws f pt := by
  refine ⟨fun _ => rfl, fun _ => rfl, ?_, hk⟩
  have : (16777216 : Nat) = sizeLine := rfl
  split
  · rw [List.length_singleton]; omega
  · rw [List.length_nil]; omega
theorem t_w2 {b : BagV} {k : List (Int × Txt) → Prop} {rws : List (Int × Txt)} {pt : Int} (hh : Hd h) (hl : h.length ≤ 6) (hw : Wd w) (hwl : w.length ≤ 4) (hr : rws.length ≤ 100) (hk : k (rws ++ if fits w h = true then [((0 : Int) - pt, w)] else [])) : law_w2 (b, h) w k rws (fits w h) pt (restT w h) Q := by
  have hrl := rest_len w h hl hwl
  have hs : (restT w h).length ≤ sizeLine := Nat.le_trans hrl (by decide)
  have hc : lenSum (srt ((restT w h).map fun c => [c])) + List.length (srt ((restT w h).map fun c => [c])) * List.length (tx "") ≤ 16777216 := by
    rw [lenSum_perm (srt_perm _), lenSum_chars]
    have : List.length (tx "") = 0 := rfl
    rw [this]
    omega
  cases hf : fits w h with
  | true =>
    rw [hf] at hk
    have e : joinT [] (srt (sg (beh w h))) = joinT (tx "") (srt ((restT w h).map fun c => [c])) := by
      rw [srt_congr ((rest_perm hh hw hf).map _)]
      rfl
    refine .val (behind_ok (h := h) (by omega) (wd_ne hw) hf rfl) ⟨fun _ => ⟨hs, hc, rfl⟩, fun h => (by cases h), fun hd => ?_, fun _ => t_w1 hr hk⟩
    have hd := of_decide_eq_true hd
    rw [if_pos rfl] at hd
    exact absurd e hd
  | false =>
    rw [hf] at hk
    refine .exc (e := .NoWay) (behind_no (Nat.le_trans hl (by decide)) hf rfl) ⟨tx "no way", rfl, fun h => (by cases h), fun _ => rfl, fun hd => ?_, fun _ => t_w1 hr hk⟩
    have hd := of_decide_eq_true hd
    rw [if_neg (by decide)] at hd
    exact absurd rfl hd
theorem abc {x : Txt} (hx : x ∈ ((tx "abc").map fun c => [c])) : x = [97] ∨ x = [98] ∨ x = [99] := by
  have hx : x ∈ ([[97], [98], [99]] : List Txt) := hx
  simpa using hx
theorem t_w3 {b : BagV} {k : List (Int × Txt) → Prop} {rws : List (Int × Txt)} {pt : Int} (hh : Hd h) (hl : h.length ≤ 6) (hw : Wd w) (hwl : w.length ≤ 4) (hr : rws.length ≤ 100) (hk : k (rws ++ if fits w h = true then [((0 : Int) - pt, w)] else [])) : law_w3 (b, h) w k rws ⟨real w h⟩ (lackI w h) (fits w h) pt Q := by
  have h1 := mn_bd w h hwl 97
  have h2 := mn_bd w h hwl 98
  have h3 := mn_bd w h hwl 99
  have h4 := mn_bd w h hwl 100
  have g1 := List.count_le_length (a := 97) (l := h)
  have g2 := List.count_le_length (a := 98) (l := h)
  have g3 := List.count_le_length (a := 99) (l := h)
  have g4 := List.count_le_length (a := 63) (l := h)
  have hlk : -16 ≤ lackI w h ∧ lackI w h ≤ 4 := by unfold lackI; omega
  have eq : cntT h (tx "?") = (h.count 63 : Int) := cntT_one h 63
  refine ⟨?_, by decide, fun x hx => ?_, (by show 1 + 3 ≤ sizeLine; decide), ?_, ?_⟩
  · show -(2 ^ 63) ≤ cntT h (tx "?") - lackI w h ∧ 1 * (cntT h (tx "?") - lackI w h).toNat ≤ 16777216 ∧ cntT h (tx "?") - lackI w h ≤ 16777216
    rw [eq]
    omega
  · rcases abc hx with rfl | rfl | rfl
    · refine ⟨rfl, ?_, rfl⟩
      show -(2 ^ 63) ≤ cntT h [97] - mnI w h 97 ∧ 1 * (cntT h [97] - mnI w h 97).toNat ≤ 16777216 ∧ cntT h [97] - mnI w h 97 ≤ 16777216
      rw [cntT_one]
      omega
    · refine ⟨rfl, ?_, rfl⟩
      show -(2 ^ 63) ≤ cntT h [98] - mnI w h 98 ∧ 1 * (cntT h [98] - mnI w h 98).toNat ≤ 16777216 ∧ cntT h [98] - mnI w h 98 ≤ 16777216
      rw [cntT_one]
      omega
    · refine ⟨rfl, ?_, rfl⟩
      show -(2 ^ 63) ≤ cntT h [99] - mnI w h 99 ∧ 1 * (cntT h [99] - mnI w h 99).toNat ≤ 16777216 ∧ cntT h [99] - mnI w h 99 ≤ 16777216
      rw [cntT_one]
      omega
  · show lenSum (L4 w h) + 4 * 0 ≤ 16777216
    rw [lenSum_flat, L4_flat]
    have := rest_len w h hl hwl
    omega
  · show law_w2 _ _ _ _ _ _ (joinT [] (L4 w h)) Q
    rw [joinT_nil, L4_flat]
    exact t_w2 hh hl hw hwl hr hk
theorem t_w8 {k : List (Int × Txt) → Prop} {rws : List (Int × Txt)} (o : Ok p1 q1 p2 q2 p3 q3) (hh : Hd h) (hl : h.length ≤ 6) (hw : Wd w) (hwl : w.length ≤ 4) (hr : rws.length ≤ 100) (hk : k (rws ++ if fits w h = true then [((0 : Int) - lp (lets p1 q1 p2 q2 p3 q3) w h, w)] else [])) : law_w8 ⟨lets p1 q1 p2 q2 p3 q3⟩ (⟨⟨bagL p1 q1 p2 q2 p3 q3 2⟩⟩, h) w k rws Q := by
  have hreal : dmerge [] (((tx "abcd").map fun c => [c]).map fun x : Txt => (x, min (cntT w x) (cntT h x))) = real w h := by
    show [(([97] : Txt), min (cntT w [97]) (cntT h [97])), ([98], min (cntT w [98]) (cntT h [98])), ([99], min (cntT w [99]) (cntT h [99])), ([100], min (cntT w [100]) (cntT h [100]))] = _
    simp only [cntT_one]
    rfl
  refine ⟨by decide, fun _ _ => rfl, ?_⟩
  show law_w7 _ _ _ _ _ (Dct.mk (dmerge [] (((tx "abcd").map fun c => [c]).map fun x : Txt => (x, min (cntT w x) (cntT h x))))) Q
  rw [hreal]
  refine ⟨Nat.le_trans hwl (by decide), ?_⟩
  have hlack : (w.length : Int) - ((real w h).map fun q => q.2).sum = lackI w h := by
    unfold lackI real
    simp
    omega
  show law_w6 _ _ _ _ _ ⟨real w h⟩ ((w.length : Int) - ((real w h).map fun q => q.2).sum) Q
  rw [hlack]
  have hfit : decide (lackI w h ≤ cntT h (tx "?")) = fits w h := by rw [fits_eq hh hw, show cntT h (tx "?") = (h.count 63 : Int) from cntT_one h 63]
  show law_w5 _ _ _ _ _ _ _ (decide (lackI w h ≤ cntT h (tx "?"))) Q
  rw [hfit]
  have hp : ((((tx "abc").map fun c => [c]).map fun x : Txt => (dgt (real w h) x) * (dgt (lets p1 q1 p2 q2 p3 q3) x).2).sum) = lp (lets p1 q1 p2 q2 p3 q3) w h := by
    rw [lp_eq hh hw]
    show mnI w h 97 * q1 + (mnI w h 98 * q2 + (mnI w h 99 * q3 + 0)) = _
    omega
  refine ⟨by decide, fun x hx => ?_, ?_⟩
  · have h1 := mn_bd w h hwl
    rcases abc hx with rfl | rfl | rfl
    · exact ⟨rfl, rfl, small_mul (a := mnI w h 97) ⟨(h1 97).1, by have := (h1 97).2; omega⟩, rfl⟩
    · exact ⟨rfl, rfl, small_mul (a := mnI w h 98) ⟨(h1 98).1, by have := (h1 98).2; omega⟩, rfl⟩
    · exact ⟨rfl, rfl, small_mul (a := mnI w h 99) ⟨(h1 99).1, by have := (h1 99).2; omega⟩, rfl⟩
  · show law_w4 _ _ _ _ _ _ _ ((((tx "abc").map fun c => [c]).map fun x : Txt => (dgt (real w h) x) * (dgt (lets p1 q1 p2 q2 p3 q3) x).2).sum) Q
    rw [hp]
    have hs : h.length ≤ sizeLine := Nat.le_trans hl (by decide)
    have w3 := t_w3 (b := ⟨⟨bagL p1 q1 p2 q2 p3 q3 2⟩⟩) (Q := Q) hh hl hw hwl hr hk
    cases hf : fits w h with
    | true =>
      rw [hf] at w3
      refine .val (laid_ok hs hf rfl) ⟨fun _ => rfl, fun h => (by cases h), fun hd => ?_, fun _ => w3⟩
      have hd := of_decide_eq_true hd
      rw [if_pos rfl] at hd
      exact absurd (congrArg Sum.inl (lp_bag (p1 := p1) (p2 := p2) (p3 := p3))) hd
    | false =>
      rw [hf] at w3
      refine .exc (e := .NoWay) (laid_no hs hf rfl) ⟨tx "no way", rfl, fun h => (by cases h), fun _ => rfl, fun hd => ?_, fun _ => w3⟩
      have hd := of_decide_eq_true hd
      rw [if_neg (by decide)] at hd
      exact absurd rfl hd
end
end K19
set_option maxHeartbeats 400000
namespace K19
open PySem L2 Sp
section
variable {p1 q1 p2 q2 p3 q3 : Int} {h : Txt} {Q : Bool → Prop} {E : Ex → Prop}
theorem abcd {c : Nat} (hc : c ∈ tx "abcd") : c = 97 ∨ c = 98 ∨ c = 99 ∨ c = 100 := by
  have hc : c ∈ ([97, 98, 99, 100] : List Nat) := hc
  simpa using hc
theorem t_w9 (o : Ok p1 q1 p2 q2 p3 q3) {words : List Txt} {rr : List (Int × Txt)} (h0 : words ≠ []) (hw : ∀ w ∈ words, Wd w ∧ w.length ≤ 4) (q : Q true) : law_w9 ⟨lets p1 q1 p2 q2 p3 q3⟩ (⟨⟨bagL p1 q1 p2 q2 p3 q3 2⟩⟩, h) (words, rr) Q :=
  ClD.here (rest1_ok o h0 (fun w m => (hw w m).2) ⟨fun e => (by cases e), fun _ => q⟩)
theorem t_w11 (o : Ok p1 q1 p2 q2 p3 q3) (hl : h.length ≤ 6) {words : List Txt} {rr : List (Int × Txt)} (h0 : words ≠ []) (hn : words.length ≤ 6) (hw : ∀ w ∈ words, Wd w ∧ w.length ≤ 4) (q : Q true) : law_w11 ⟨lets p1 q1 p2 q2 p3 q3⟩ (⟨⟨bagL p1 q1 p2 q2 p3 q3 2⟩⟩, h) (words, rr) (rows (lets p1 q1 p2 q2 p3 q3) h words) Q := by
  have hs : h.length ≤ sizeLine := Nat.le_trans hl (by decide)
  have hn' : words.length ≤ sizeLine := Nat.le_trans hn (by decide)
  have w9 := t_w9 (h := h) (rr := rr) (Q := Q) o h0 hw q
  by_cases he : rows (lets p1 q1 p2 q2 p3 q3) h words = []
  · refine .exc (e := .NoWay) (best_ok hs hn' (fun _ => rfl) (fun e => absurd (by rw [rows_bag]; exact he) e)) ⟨tx "no way", rfl, fun hd => absurd he (of_decide_eq_true hd), fun _ => rfl, fun hd => ?_, fun _ => w9⟩
    have hd := of_decide_eq_true hd
    rw [if_neg (by rw [decide_eq_true_iff]; exact fun q => q he)] at hd
    exact absurd rfl hd
  · refine .val (best_ok hs hn' (fun e => absurd (by rw [rows_bag] at e; exact e) he) (fun _ => rfl)) ⟨fun _ => ⟨he, he, rfl⟩, fun hd => rfl, fun hd => ?_, fun _ => w9⟩
    have hd := of_decide_eq_true hd
    rw [if_pos (by rw [decide_eq_true_iff]; exact he)] at hd
    exact absurd (by rw [rows_bag]) hd
theorem t_w13 (o : Ok p1 q1 p2 q2 p3 q3) (hh : Hd h) (hl : h.length ≤ 6) (q : Q true) : law_w13 ⟨lets p1 q1 p2 q2 p3 q3⟩ (⟨⟨bagL p1 q1 p2 q2 p3 q3 2⟩⟩, h) Q := by
  refine ClD.roll (by decide) (by decide) fun r hr0 hr1 => ⟨⟨by omega, by omega⟩, ?_, fun _ y => Wd y ∧ y.length ≤ 4, fun x hx => ClD.here (word_ok (by decide) (by decide) (by decide) (by decide) (by decide) fun y h1 h2 h3 => ⟨fun c hc => abcd (h1 c hc), by omega⟩), fun ys hy => ?_⟩
  · rw [List.length_map, List.length_range]
    have : (1 + r).toNat ≤ 1000 := by omega
    exact Nat.le_trans this (by decide)
  · have hw := hy.all (R := fun y => Wd y ∧ y.length ≤ 4) fun x _ y hy => hy
    have hlen := hy.length
    rw [List.length_map, List.length_range] at hlen
    have h0 : ys ≠ [] := fun e => by rw [e, List.length_nil] at hlen; omega
    have hn : ys.length ≤ 6 := by omega
    refine forW.inv (fun l z => z = rows (lets p1 q1 p2 q2 p3 q3) h l) rfl (fun l x r z e hz => ?_) (fun z hz => ?_)
    · subst hz
      have e : ys = l ++ x :: r := e
      have hx := hw x (by rw [e]; simp)
      have hll : (rows (lets p1 q1 p2 q2 p3 q3) h l).length ≤ 100 := by
        unfold rows
        rw [List.length_map]
        have h1 := List.length_filter_le (fun w => fits w h) l
        have h2 := congrArg List.length e
        rw [List.length_append] at h2
        omega
      refine t_w8 o hh hl hx.1 hx.2 hll ?_
      unfold rows
      rw [List.filter_append, List.map_append, List.filter_cons, List.filter_nil]
      split <;> rfl
    · subst hz
      exact t_w11 o hl h0 hn hw q
theorem t_w14 (o : Ok p1 q1 p2 q2 p3 q3) (hh : Hd h) (hl : h.length ≤ 6) (q : Q true) : law_w14 ⟨lets p1 q1 p2 q2 p3 q3⟩ (⟨⟨bagL p1 q1 p2 q2 p3 q3 2⟩⟩, h) Q E := by
  refine .val (points_ok (h := h) o.b1 o.b2 o.b3 hh (by omega) rfl) ⟨?_, fun x hx => ⟨lets_has hh x hx, rfl⟩, fun hd => ?_, fun _ => t_w13 o hh hl q⟩
  · rw [List.length_map]; exact Nat.le_trans hl (by decide)
  · have hd := of_decide_eq_true hd
    exact absurd (congrArg List.sum (map_pts _ h).symm) hd
theorem keys4 {x : Txt} (hx : x ∈ (lets p1 q1 p2 q2 p3 q3).map (·.1)) : x = [97] ∨ x = [98] ∨ x = [99] ∨ x = [63] := by
  have hx : x ∈ ([[97], [98], [99], [63]] : List Txt) := hx
  simpa using hx
theorem keys_has {x : Txt} (hx : x ∈ (lets p1 q1 p2 q2 p3 q3).map (·.1)) : dhas (lets p1 q1 p2 q2 p3 q3) x = true := dhas_iff.mpr hx
theorem t_w18 (o : Ok p1 q1 p2 q2 p3 q3) (hh : Hd h) (hl : h.length ≤ 6) (q : Q true) : law_w18 ⟨lets p1 q1 p2 q2 p3 q3⟩ (⟨⟨bagL p1 q1 p2 q2 p3 q3 2⟩⟩, h) Q E := by
  have w14 := t_w14 (Q := Q) (E := E) o hh hl q
  have g1 := List.count_le_length (a := 97) (l := h)
  have g2 := List.count_le_length (a := 98) (l := h)
  have g3 := List.count_le_length (a := 99) (l := h)
  have g4 := List.count_le_length (a := 63) (l := h)
  have c1 := cntT_one h 97
  have c2 := cntT_one h 98
  have c3 := cntT_one h 99
  have c4 := cntT_one h 63
  have hl4 := len4 hh
  obtain ⟨⟨a1, a1'⟩, ⟨b1, b1'⟩, ⟨a2, a2'⟩, ⟨b2, b2'⟩, ⟨a3, a3'⟩, ⟨b3, b3'⟩⟩ := o
  have hk : List.length ((lets p1 q1 p2 q2 p3 q3).map (·.1)) ≤ sizeLine := by show 4 ≤ sizeLine; decide
  have bd : ∀ c : Nat, -1000 ≤ (h.count c : Int) ∧ (h.count c : Int) ≤ 6 := fun c => by
    have := List.count_le_length (a := c) (l := h); omega
  by_cases hs : 0 ≤ p1 - cntT h [97] ∧ 0 ≤ p2 - cntT h [98] ∧ 0 ≤ p3 - cntT h [99] ∧ 0 ≤ 2 - cntT h [63]
  · obtain ⟨s1, s2, s3, s4⟩ := hs
    have hsh : ((lets p1 q1 p2 q2 p3 q3).map (·.1)).filter (fun x : Txt => decide ((dgt (lets p1 q1 p2 q2 p3 q3) x).1 < cntT h x)) = [] := by
      rw [List.filter_eq_nil_iff]
      intro x hx
      rw [decide_eq_true_iff]
      rcases keys4 hx with rfl | rfl | rfl | rfl
      · show ¬ p1 < cntT h [97]; omega
      · show ¬ p2 < cntT h [98]; omega
      · show ¬ p3 < cntT h [99]; omega
      · show ¬ (2 : Int) < cntT h [63]; omega
    refine .val (draw_ok hh s1 s2 s3 s4 b1 b2 b3 rfl) ⟨hk, fun x hx => ⟨keys_has hx, rfl⟩, fun _ _ _ => rfl, ?_⟩
    have key : ∀ sh : List Txt, sh = [] → law_w16 ⟨lets p1 q1 p2 q2 p3 q3⟩ (⟨⟨bagL p1 q1 p2 q2 p3 q3 2⟩⟩, h) (.inl ⟨⟨bagL (p1 - cntT h [97]) q1 (p2 - cntT h [98]) q2 (p3 - cntT h [99]) q3 (2 - cntT h [63])⟩⟩) sh Q E := fun sh e => ?_
    · exact key _ (by rw [List.map_eq_nil_iff]; exact hsh)
    subst e
    refine ⟨fun hd => absurd rfl (of_decide_eq_true hd), fun _ => ⟨fun _ => ⟨rfl, ?_⟩, fun e => (by cases e)⟩⟩
    have lk : ∀ {Q' : Int → Prop} {E' : Ex → Prop}, Q' ((p1 - cntT h [97]) + (p2 - cntT h [98]) + (p3 - cntT h [99]) + (2 - cntT h [63])) → Bag_left_W (⟨⟨bagL (p1 - cntT h [97]) q1 (p2 - cntT h [98]) q2 (p3 - cntT h [99]) q3 (2 - cntT h [63])⟩⟩, ()) Q' E' := fun q' => left_ok ⟨by omega, by omega⟩ ⟨by omega, by omega⟩ ⟨by omega, by omega⟩ ⟨by omega, by omega⟩ q'
    refine .val (lk rfl) (.val (left_ok ⟨by omega, by omega⟩ ⟨by omega, by omega⟩ ⟨by omega, by omega⟩ ⟨by omega, by omega⟩ rfl) ⟨Nat.le_trans hl (by decide), fun hd => ?_, fun _ => ⟨hk, fun _ => false, fun x => x, fun x hx => ⟨rfl, ?_⟩, fun _ _ e => (by cases e), fun hd => ?_, fun _ => w14⟩⟩)
    · have hd := of_decide_eq_true hd
      exact absurd (by show _ = _ - (h.length : Int); omega) hd
    · refine .val (chance_ok ⟨by omega, by omega⟩ ⟨by omega, by omega⟩ ⟨by omega, by omega⟩ ⟨by omega, by omega⟩ rfl) ⟨keys_has hx, rfl, .val (lk rfl) ?_⟩
      rcases keys4 hx with rfl | rfl | rfl | rfl <;> exact decide_eq_false fun e => e rfl
    · have hd := of_decide_eq_true hd
      exact absurd (by rw [List.filter_eq_nil_iff.mpr (fun _ _ => by simp)]; rfl) hd
  · have hno : p1 - cntT h [97] < 0 ∨ p2 - cntT h [98] < 0 ∨ p3 - cntT h [99] < 0 ∨ 2 - cntT h [63] < 0 := by omega
    have hsh : ((lets p1 q1 p2 q2 p3 q3).map (·.1)).filter (fun x : Txt => decide ((dgt (lets p1 q1 p2 q2 p3 q3) x).1 < cntT h x)) ≠ [] := by
      intro e
      rw [List.filter_eq_nil_iff] at e
      have e1 := e [97] (by show [97] ∈ ([[97], [98], [99], [63]] : List Txt); simp)
      have e2 := e [98] (by show [98] ∈ ([[97], [98], [99], [63]] : List Txt); simp)
      have e3 := e [99] (by show [99] ∈ ([[97], [98], [99], [63]] : List Txt); simp)
      have e4 := e [63] (by show [63] ∈ ([[97], [98], [99], [63]] : List Txt); simp)
      rw [decide_eq_true_iff] at e1 e2 e3 e4
      have e1 : ¬ p1 < cntT h [97] := e1
      have e2 : ¬ p2 < cntT h [98] := e2
      have e3 : ¬ p3 < cntT h [99] := e3
      have e4 : ¬ (2 : Int) < cntT h [63] := e4
      omega
    refine .exc (e := .BadWord) (draw_no hno rfl) ⟨tx "word", rfl, hk, fun x hx => ⟨keys_has hx, rfl⟩, fun _ _ _ => rfl, ?_⟩
    have key : ∀ sh : List Txt, sh ≠ [] → law_w16 ⟨lets p1 q1 p2 q2 p3 q3⟩ (⟨⟨bagL p1 q1 p2 q2 p3 q3 2⟩⟩, h) (.inr (tx "word")) sh Q E := fun sh hsh => ?_
    · exact key _ (by intro e; rw [List.map_eq_nil_iff] at e; exact hsh e)
    refine ⟨fun hd => ?_, fun _ => ⟨fun e => absurd e (by decide), fun _ => ⟨fun e => (by cases e), fun _ => w14⟩⟩⟩
    have hd := of_decide_eq_true hd
    rw [decide_eq_true hsh] at hd
    exact absurd (by decide) hd
end
theorem plain {ns : List Int} : law_W (ns, ()) (fun b => b = true) NoE := by
  refine ⟨by decide, fun x y => y.1 = x ∧ (0 ≤ y.2.1 ∧ y.2.1 < 5) ∧ (0 ≤ y.2.2 ∧ y.2.2 < 9), fun x hx => ClD.roll (by decide) (by decide) fun r hr0 hr1 => ClD.roll (by decide) (by decide) fun r2 h0 h1 => ⟨rfl, ⟨hr0, hr1⟩, ⟨h0, h1⟩⟩, fun ys hy => ?_⟩
  have hy : Each _ ([[97], [98], [99]] : List Txt) ys := hy
  cases hy with
  | @cons _ y1 _ r1 k1 hy1 =>
    have hy : Each _ ([[98], [99]] : List Txt) r1 := hy1
    cases hy with
    | @cons _ y2 _ r2 k2 hy2 =>
      have hy : Each _ ([[99]] : List Txt) r2 := hy2
      cases hy with
      | @cons _ y3 _ r3 k3 hy3 =>
        cases hy3
        obtain ⟨l1, p1, q1⟩ := y1
        obtain ⟨l2, p2, q2⟩ := y2
        obtain ⟨l3, p3, q3⟩ := y3
        obtain ⟨e1, a1, b1⟩ := k1
        obtain ⟨e2, a2, b2⟩ := k2
        obtain ⟨e3, a3, b3⟩ := k3
        have e1 : l1 = [97] := e1
        have e2 : l2 = [98] := e2
        have e3 : l3 = [99] := e3
        subst e1 e2 e3
        have o : Ok p1 q1 p2 q2 p3 q3 := ⟨a1, b1, a2, b2, a3, b3⟩
        refine ⟨by show 3 + 1 ≤ sizeLine; decide, ?_⟩
        show law_w20 ⟨lets p1 q1 p2 q2 p3 q3⟩ _ _
        refine .val (init_ok a1.1 a2.1 a3.1 b1.1 b2.1 b3.1 rfl) (ClD.here (word_ok (by decide) (by decide) (by decide) (by decide) (by decide) fun h h1 h2 h3 => ?_))
        have hh : Hd h := fun c hc => by
          have : c ∈ ([97, 98, 99, 63] : List Nat) := h1 c hc
          simpa using this
        have hl : h.length ≤ 6 := by omega
        have w18 := t_w18 (Q := fun b => b = true) (E := NoE) o hh hl rfl
        have a1 : 0 ≤ p1 ∧ p1 < 5 := a1
        have a2 : 0 ≤ p2 ∧ p2 < 5 := a2
        have a3 : 0 ≤ p3 ∧ p3 < 5 := a3
        refine .val (left_ok ⟨by omega, by omega⟩ ⟨by omega, by omega⟩ ⟨by omega, by omega⟩ ⟨by omega, by omega⟩ rfl) ⟨by show 4 ≤ sizeLine; decide, fun _ _ => rfl, fun hd => ?_, fun _ => ?_⟩
        · have hd := of_decide_eq_true hd
          exact absurd (by show _ = p1 + (p2 + (p3 + (2 + 0))); omega) hd
        · refine .val (r := PySem.W.Tup.mk (bagL p1 q1 p2 q2 p3 q3 2)) rfl ?_
          have ek : srt ((lets p1 q1 p2 q2 p3 q3).map (·.1)) = [[63], [97], [98], [99]] := srtK
          show List.length (srt ((lets p1 q1 p2 q2 p3 q3).map (·.1))) ≤ sizeLine ∧ (∀ x ∈ srt ((lets p1 q1 p2 q2 p3 q3).map (·.1)), dhas (lets p1 q1 p2 q2 p3 q3) x = true ∧ _) ∧ _
          refine ⟨by rw [ek]; decide, fun x hx => ⟨dhas_iff.mpr (srt_mem.mp hx), rfl⟩, fun hd => ?_, fun _ => w18⟩
          have hd := of_decide_eq_true hd
          exact absurd (by rw [show srt ((Dct.mk (lets p1 q1 p2 q2 p3 q3)).kvs.map (·.1)) = [[63], [97], [98], [99]] from srtK]; rfl) hd
end K19
theorem PySem.Challenge.cw_spellhall_k19_tiles_holds : PySem.Challenge.rw_spellhall_k19_tiles.Holds :=
  K19.holds_of fun ns _ _ => K19.plain
