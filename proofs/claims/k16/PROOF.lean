import PyProof.Rows.All
import Wide.All
import OpenK.AllK
import Wide.FinOn
import HandS.ForMost
import HandS.Exc
import HandS.ExcOwn
import HandS.WordsExc
import HandS.TryMany
import HandS.Lambda
import PyProof.CodeObj
import KE.DatumMore
import KE.DatumMoreOrd
import KE.DatumIndex
import KE.SortKeyHeap
import HandS.Deep
import HandS.Text
import PyProof.ListStr
import HandS.RaiseMore
import HandS.Codes
import HandS.TupAny
import HandS.Flow
import HandS.Rev
import HandS.Zip
import HandS.More
import PyProof.CollectStr
import HandS.GenBody
import HandS.AnyAll
import HandS.Keys
import PyProof.ConsumeS
import HandS.HeadHook4
import HandS.HeadWalk
import HandS.Head2
import HandS.ListItems
import PyProof.Draws
import HandS.StrMore
import HandS.Replace
import HandS.Style
import PyProof.SumAny
import PyProof.Rows.SumGenD
import PyProof.InstEq
import HandS.Sort
import HandS.RevTup
import HandS.SetKeys
import PyProof.MaxThree
import KE.GoesMore
import HandS.Conv
import HandS.DictTup
import KE.KDictKeyed
import KE.KDictList
import KE.KDictWalk
import HandS.ExcInit
import HandS.ExcField
import HandS.ExcSuper
import KE.KExcSuper
import PyProof.TupleOfSeq
import KE.KDictPairs
import KE.KDictDisplayH
import HandS.TupLen
import HandS.ReplaceLit
import PyProof.StrLawsFirst
import KE.KIntText
import KE.DataAny
import HandS.ExcCtx
import HandS.SuiteRaise
import KE.KExcIs
import HandS.ExcIs
import PyProof.ZipIter
import PyProof.EnumMake
import HandS.NoneIn
import KE.KDictCopyH
import KE.DataMinKey
import HandS.DictEq
import HandS.Small
import KE.DataCmp
import KE.KSortTup
import HandS.ListEq
import PySem.Challenge.RW_spellhall_k16_sieves
set_option Elab.async false
set_option linter.all false
set_option maxRecDepth 100000
set_option maxHeartbeats 4000000
namespace Sp
open PySem L2
structure WE (X : Cx) (e : Expr) (σ : St) (H : Hp) (Q : VK) : Prop where
  run : ∀ (pins : List (Addr × Obj)) (s : Shared), Inv X pins σ H s → wpAny (model X.prog X.w) X.A (eval e X.env) (EP X pins σ Q) X.xe s
structure WT (X : Cx) (e : Expr) (σ : St) (H : Hp) (Q : Bool → Hp → Prop) : Prop where
  run : ∀ (pins : List (Addr × Obj)) (s : Shared), Inv X pins σ H s → wpAny (model X.prog X.w) X.A (isTrue e X.env (eval e X.env)) (TP X pins σ Q) X.xe s
structure WA (X : Cx) (es : List Expr) (σ : St) (H : Hp) (Q : List V → Hp → Prop) : Prop where
  run : ∀ (pos : Pos) (pins : List (Addr × Obj)) (s : Shared), Inv X pins σ H s → wpAny (model X.prog X.w) X.A (spliced (backTo pos (starEach es X.env))) (AP X pins σ Q) X.xe s
structure WS (X : Cx) (st : List Stmt) (σ : St) (H : Hp) (D : Ends) : Prop where
  run : ∀ (pins : List (Addr × Obj)) (s : Shared), Inv X pins σ H s → wpAny (model X.prog X.w) X.A (execs st X.env) (SP X pins D) X.xe s
section
variable {X : Cx} {e : Expr} {es : List Expr} {st : List Stmt} {σ : St} {H : Hp}
theorem pe_we : PE X e (WE X e) := ⟨fun pins s _ _ _ I h => h.run pins s I⟩
theorem pt_wt : PT X e (WT X e) := ⟨fun pins s _ _ _ I h => h.run pins s I⟩
theorem pa_wa : PA X es (WA X es) := ⟨fun pos pins s _ _ _ I h => h.run pos pins s I⟩
theorem pss_ws : PSs X st (fun D σ H => WS X st σ H D) := ⟨fun pins s _ _ _ I h => h.run pins s I⟩
theorem WE.of {t : TE} {Q : VK} (p : PE X e t) (h : t σ H Q) : WE X e σ H Q := ⟨fun pins s I => p.run pins s σ H Q I h⟩
theorem WT.of {t : TT} {Q : Bool → Hp → Prop} (p : PT X e t) (h : t σ H Q) : WT X e σ H Q := ⟨fun pins s I => p.run pins s σ H Q I h⟩
theorem WA.of {t : TA} {Q : List V → Hp → Prop} (p : PA X es t) (h : t σ H Q) : WA X es σ H Q := ⟨fun pos pins s I => p.run pos pins s σ H Q I h⟩
theorem WS.of {t : TS} {D : Ends} (p : PSs X st t) (h : t D σ H) : WS X st σ H D := ⟨fun pins s I => p.run pins s σ H D I h⟩
theorem WE.mono {Q Q' : VK} (h : WE X e σ H Q) (k : ∀ v H', Q v H' → Q' v H') : WE X e σ H Q' :=
  ⟨fun pins s I => thn (h.run pins s I) fun _ _ ⟨v, H', J, r, q⟩ => ⟨v, H', J, r, k v H' q⟩⟩
theorem WT.mono {Q Q' : Bool → Hp → Prop} (h : WT X e σ H Q) (k : ∀ b H', Q b H' → Q' b H') : WT X e σ H Q' :=
  ⟨fun pins s I => thn (h.run pins s I) fun b _ ⟨H', J, q⟩ => ⟨H', J, k b H' q⟩⟩
theorem WA.mono {Q Q' : List V → Hp → Prop} (h : WA X es σ H Q) (k : ∀ v H', Q v H' → Q' v H') : WA X es σ H Q' :=
  ⟨fun pos pins s I => thn (h.run pos pins s I) fun _ _ ⟨v, H', J, r, q⟩ => ⟨v, H', J, r, k v H' q⟩⟩
theorem WS.mono {D D' : Ends} (h : WS X st σ H D) (k1 : ∀ σ' H', D.nx σ' H' → D'.nx σ' H') (k2 : ∀ v H', D.rt v H' → D'.rt v H') (k3 : ∀ σ' H', D.bk σ' H' → D'.bk σ' H') (k4 : ∀ σ' H', D.ct σ' H' → D'.ct σ' H') : WS X st σ H D' :=
  ⟨fun pins s I => thn (h.run pins s I) fun f s' q => by
    cases f with
    | next => obtain ⟨σ', H', J, q⟩ := q; exact ⟨σ', H', J, k1 _ _ q⟩
    | brk => obtain ⟨σ', H', J, q⟩ := q; exact ⟨σ', H', J, k3 _ _ q⟩
    | cont => obtain ⟨σ', H', J, q⟩ := q; exact ⟨σ', H', J, k4 _ _ q⟩
    | ret u => obtain ⟨v, σ', H', J, r, q⟩ := q; exact ⟨v, σ', H', J, r, k2 _ _ q⟩⟩
theorem WE.lock {Q : VK} {d : Addr} {u : HO} (hd : H d = some u) (mu : Mut (some u)) (h : ∀ od, WE X e σ (upd H d (.frz od u)) Q) : WE X e σ H Q := ⟨fun pins s I => by
  obtain ⟨od, J⟩ := I.lock hd mu
  exact (h od).run pins s J⟩
theorem WE.lockAfter {Q : VK} (h : WE X e σ H fun v H' => ∃ d u, H' d = some u ∧ Mut (some u) ∧ ∀ od, Q v (upd H' d (.frz od u))) : WE X e σ H Q := ⟨fun pins s I =>
  thn (h.run pins s I) fun _ _ ⟨v, H', J, r, d, u, hd, mu, q⟩ => by
    obtain ⟨od, J'⟩ := J.lock hd mu
    exact ⟨v, _, J', r, q od⟩⟩
end
def Ext (F H : Hp) : Prop := ∀ a o, F a = some o → H a = some o
theorem Ext.refl (F : Hp) : Ext F F := fun _ _ h => h
theorem Ext.trans {F G H : Hp} (a : Ext F G) (b : Ext G H) : Ext F H := fun c o h => b c o (a c o h)
structure Pv where
  rep : PySem.W.Frag → Hp → V → Prop
  mono : ∀ {K : PySem.W.Frag} {F F' : Hp} {v : V}, rep K F v → Ext F F' → rep K F' v
structure Cell where
  rep : PySem.W.Frag → Hp → HO → Prop
  mono : ∀ {K : PySem.W.Frag} {F F' : Hp} {o : HO}, rep K F o → Ext F F' → rep K F' o
abbrev Rho := List (Option Pv)
abbrev Gs := List (Addr × Cell)
structure DSt where
  ρ : Rho
  gs : Gs
def isTbl : HO → Bool
  | .tbl _ => true
  | _ => false
def isTT : HO → Bool
  | .tbl _ => true
  | .tup _ => true
  | _ => false
theorem isTT_tbl {o : HO} (h : isTT o = false) : isTbl o = false := by
  cases o <;> first | rfl | cases h
inductive RepS (K : PySem.W.Frag) (F : Hp) : St → Rho → Prop
  | nil : RepS K F [] []
  | un {o : Option V} {σ : St} {ρ : Rho} : RepS K F σ ρ → RepS K F (o :: σ) (none :: ρ)
  | ha {v : V} {A : Pv} {σ : St} {ρ : Rho} : A.rep K F v → RepS K F σ ρ → RepS K F (some v :: σ) (some A :: ρ)
theorem RepS.mono {K : PySem.W.Frag} {F F' : Hp} {σ : St} {ρ : Rho} (h : RepS K F σ ρ) (e : Ext F F') : RepS K F' σ ρ := by
  induction h with
  | nil => exact .nil
  | un _ ih => exact .un ih
  | ha r _ ih => exact .ha (Pv.mono _ r e) ih
theorem RepS.length {K : PySem.W.Frag} {F : Hp} {σ : St} {ρ : Rho} (h : RepS K F σ ρ) : σ.length = ρ.length := by
  induction h with
  | nil => rfl
  | un _ ih => simp [ih]
  | ha _ _ ih => simp [ih]
theorem RepS.get {K : PySem.W.Frag} {F : Hp} {σ : St} {ρ : Rho} (h : RepS K F σ ρ) : ∀ {i : Nat} {A : Pv}, ρ[i]? = some (some A) → ∃ v, σ[i]? = some (some v) ∧ A.rep K F v := by
  induction h with
  | nil => intro i A e; simp at e
  | un _ ih =>
    intro i A e
    cases i with
    | zero => simp at e
    | succ i => obtain ⟨v, e1, r⟩ := ih (i := i) (by simpa using e); exact ⟨v, by simpa using e1, r⟩
  | ha r _ ih =>
    intro i A e
    cases i with
    | zero => simp at e; subst e; exact ⟨_, rfl, r⟩
    | succ i => obtain ⟨v, e1, r⟩ := ih (i := i) (by simpa using e); exact ⟨v, by simpa using e1, r⟩
theorem RepS.set {K : PySem.W.Frag} {F : Hp} {σ : St} {ρ : Rho} (h : RepS K F σ ρ) {v : V} {A : Pv} (r : A.rep K F v) : ∀ (i : Nat), RepS K F (σ.set i (some v)) (ρ.set i (some A)) := by
  induction h with
  | nil => intro i; exact .nil
  | un h ih =>
    intro i
    cases i with
    | zero => exact .ha r h
    | succ i => exact .un (ih i)
  | ha q h ih =>
    intro i
    cases i with
    | zero => exact .ha r h
    | succ i => exact .ha q (ih i)
theorem RepS.forget {K : PySem.W.Frag} {F : Hp} {σ : St} {ρ : Rho} (h : RepS K F σ ρ) {o : Option V} : ∀ (i : Nat), RepS K F (σ.set i o) (ρ.set i none) := by
  induction h with
  | nil => intro i; exact .nil
  | un h ih =>
    intro i
    cases i with
    | zero => exact .un h
    | succ i => exact .un (ih i)
  | ha q h ih =>
    intro i
    cases i with
    | zero => exact .un h
    | succ i => exact .ha q (ih i)
structure Exc where
  C : Addr
  row : Option (Str × Int)
def ExcRep (e : Exc) (cls : Value) (d : Option Addr) (H : Hp) : Prop :=
  cls = .ref e.C ∧ (match e.row with
    | none => d = none
    | some r => ∃ dx, d = some dx ∧ H dx = some (.xd [(r.1, .int r.2)]))
inductive Tk where
  | plain (q : Str)
  | nest (q : Option Str)
  | own
  /-- codes at lambdas' places bear a name, other codes any -/
  | mix (ls : List (Nat × Nat)) (q : Str)
def lamAt (ls : List (Nat × Nat)) (p : Pos) : Bool := decide ((p.line, p.col) ∈ ls)
abbrev Tb := List (Addr × Tk)
def plainT (T : Tb) : List (Addr × Str) := T.filterMap fun p => match p.2 with
  | .plain q => some (p.1, q)
  | _ => none
theorem plainT_mem {T : Tb} {a : Addr} {q : Str} : (a, q) ∈ plainT T ↔ (a, Tk.plain q) ∈ T := by
  unfold plainT
  rw [List.mem_filterMap]
  constructor
  · rintro ⟨p, hp, e⟩
    obtain ⟨x, k⟩ := p
    cases k with
    | plain z => simp at e; obtain ⟨e1, e2⟩ := e; subst e1 e2; exact hp
    | nest z => simp at e
    | own => simp at e
    | mix ls z => simp at e
  · intro h
    exact ⟨_, h, rfl⟩
def CodeT (c P : Addr) (q : Option Str) : HO := .ext fun h => (∀ z, q = some z → ∃ (oc : Obj) (us : Array Value) (t : Tok), h.get? c = some oc ∧ oc.data = .fields us ∧ us[1]? = some (.str z t)) ∧ ∃ (o : Obj) (vs : Array Value) (file : Str) (tf : Tok) (flags : Int) (tg : Tok) (inF : Bool) (text : Int) (tt : Tok), h.get? c = some o ∧ o.cls = .type "code" ∧ o.data = .fields vs ∧ vs[11]? = some (.ref P) ∧ vs.getD 11 .none = .ref P ∧ vs.getD 18 .none = .str file tf ∧
  vs.getD 7 .none = .int flags tg ∧ vs.getD 9 .none = .bool inF ∧ vs.getD 10 .none = .int text tt ∧ c ≠ P
def PTab (P : Addr) : HO := .ext fun h => ∃ ps : Array Value, h.get? P = some { cls := .none, data := .fields ps } ∧ TriplesOk ps.toList ∧ ∀ pos cv, codeAmong pos ps.toList = some cv → ∃ c, cv = .ref c
def TbE (H : Hp) (a : Addr) : Tk → Prop
  | .plain q => LamX.TabS H a q
  | .nest q => ∃ ps : Array Value, H a = some (.tbl ps) ∧ TriplesOk ps.toList ∧ ∀ pos cv, codeAmong pos ps.toList = some cv → ∃ c P, cv = .ref c ∧ H c = some (CodeT c P q) ∧ H P = some (PTab P)
  | .own => ∃ P q, H a = some (CodeT a P q) ∧ H P = some (PTab P)
  | .mix ls q => ∃ ps : Array Value, H a = some (.tbl ps) ∧ TriplesOk ps.toList ∧ ∀ pos cv, codeAmong pos ps.toList = some cv → ∃ c, cv = .ref c ∧ (lamAt ls pos = true → H c = some (LamX.CodeO c q))
def TbOk (T : Tb) (H : Hp) : Prop := ∀ p ∈ T, TbE H p.1 p.2
theorem TbE.ext {H H' : Hp} {a : Addr} {k : Tk} (h : TbE H a k) (e : ∀ b o, H b = some o → H' b = some o) : TbE H' a k := by
  cases k with
  | plain q => exact LamX.TabS.ext h e
  | nest z9 =>
    obtain ⟨ps, h1, h2, h3⟩ := h
    refine ⟨ps, e _ _ h1, h2, fun pos cv hc => ?_⟩
    obtain ⟨c, P, z1, z2, z3⟩ := h3 pos cv hc
    exact ⟨c, P, z1, e _ _ z2, e _ _ z3⟩
  | own =>
    obtain ⟨P, q, z2, z3⟩ := h
    exact ⟨P, q, e _ _ z2, e _ _ z3⟩
  | mix ls q =>
    obtain ⟨ps, h1, h2, h3⟩ := h
    refine ⟨ps, e _ _ h1, h2, fun pos cv hc => ?_⟩
    obtain ⟨c, z1, z2⟩ := h3 pos cv hc
    exact ⟨c, z1, fun l => e _ _ (z2 l)⟩
theorem TbOk.ext {T : Tb} {H H' : Hp} (h : TbOk T H) (e : ∀ b o, H b = some o → H' b = some o) : TbOk T H' := fun p hp => (h p hp).ext e
theorem TbOk.tabs {T : Tb} {H : Hp} (h : TbOk T H) : LamX.Tabs (plainT T) H := fun p hp => h (p.1, .plain p.2) (plainT_mem.mp hp)
def NestS (T : Tb) (H H' : Hp) : Prop := ∀ a ps, ((∃ q, (a, Tk.nest q) ∈ T) ∨ ∃ ls q, (a, Tk.mix ls q) ∈ T) → H a = some (.tbl ps) → H' a = some (.tbl ps)
theorem TbOk.extN {T : Tb} {H H' : Hp} (h : TbOk T H) (e : LamX.ExtN H H') (t : LamX.Tabs (plainT T) H') (tn : NestS T H H') : TbOk T H' := fun p hp => by
  obtain ⟨a, k⟩ := p
  have h0 := h _ hp
  cases k with
  | plain q => exact t (a, q) (plainT_mem.mpr hp)
  | nest z9 =>
    obtain ⟨ps, h1, h2, h3⟩ := h0
    refine ⟨ps, tn _ _ (.inl ⟨_, hp⟩) h1, h2, fun pos cv hc => ?_⟩
    obtain ⟨c, P, z1, z2, z3⟩ := h3 pos cv hc
    exact ⟨c, P, z1, e _ _ z2 (fun _ z => by unfold CodeT at z; cases z), e _ _ z3 (fun _ z => by unfold PTab at z; cases z)⟩
  | own =>
    obtain ⟨P, q, z2, z3⟩ := h0
    exact ⟨P, q, e _ _ z2 (fun _ z => by unfold CodeT at z; cases z), e _ _ z3 (fun _ z => by unfold PTab at z; cases z)⟩
  | mix ls q =>
    obtain ⟨ps, h1, h2, h3⟩ := h0
    refine ⟨ps, tn _ _ (.inr ⟨_, _, hp⟩) h1, h2, fun pos cv hc => ?_⟩
    obtain ⟨c, z1, z2⟩ := h3 pos cv hc
    exact ⟨c, z1, fun l => e _ _ (z2 l) LamX.codeO_ne⟩
structure DX where
  X : Cx
  T : Tb
  k : Nat
  H0 : Hp
  F0 : Hp
  S0 : List Addr
  ex : Exc → DSt → Prop
def Fre (H : Hp) (a : Addr) : Prop := ∀ o, H a = some o → isTT o = true
structure Step (H0 F0 : Hp) (S0 : List Addr) (H F : Hp) (S : List Addr) : Prop where
  ff : Ext F0 F
  fr : ∀ a o, H0 a = some o → isTbl o = false → a ∉ S0 → H a = some o
  nw : ∀ a, (F a ≠ none ∨ a ∈ S) → F0 a ≠ none ∨ a ∈ S0 ∨ Fre H0 a
theorem Step.refl {H F : Hp} {S : List Addr} : Step H F S H F S :=
  ⟨Ext.refl _, fun _ _ h _ _ => h, fun _ h => h.elim .inl fun h => .inr (.inl h)⟩
theorem Step.was {H0 F0 H F : Hp} {S0 S : List Addr} (t : Step H0 F0 S0 H F S) {p : Addr} (hp : Fre H p) : p ∈ S0 ∨ Fre H0 p := by
  by_cases z2 : p ∈ S0
  · exact .inl z2
  · refine .inr fun o e => ?_
    cases z3 : isTT o with
    | true => rfl
    | false =>
      have := hp o (t.fr p o e (isTT_tbl z3) z2)
      rw [z3] at this
      exact this
theorem Fre.of {H : Hp} {p : Addr} (h : H p = none) : Fre H p := fun o e => by rw [h] at e; cases e
structure Sta (Y : DX) (s : DSt) (σ : St) (H F : Hp) : Prop where
  ext : Ext F H
  ntb : ∀ a o, F a = some o → isTbl o = false
  rep : RepS Y.X.K F σ s.ρ
  own : ∀ p ∈ s.gs, F p.1 = none ∧ ∃ o, H p.1 = some o ∧ isTT o = false ∧ p.2.rep Y.X.K F o
  nd : (s.gs.map (·.1)).Nodup
  tb : TbOk Y.T H
  st : Step Y.H0 Y.F0 Y.S0 H F (s.gs.map (·.1))
section
variable {Y : DX} {s : DSt} {σ : St} {H F : Hp}
theorem TbOk.new {T : Tb} {H : Hp} {p : Addr} {o : HO} (h : TbOk T H) (hp : H p = none) : TbOk T (upd H p o) := h.ext fun b u e => by rw [upd_ne (ne_of_none e hp)]; exact e
theorem TbOk.write {T : Tb} {H : Hp} {p : Addr} {o u : HO} (h : TbOk T H) (hp : H p = some o) (ho : isTbl o = false) (hc : ∀ φ, o ≠ .ext φ) : TbOk T (upd H p u) := fun q hq => by
  have kc : ∀ {b φ}, H b = some (.ext φ) → upd H p u b = some (.ext φ) := fun {b φ} e => by
    rw [upd_ne]
    · exact e
    · intro z
      rw [z, hp] at e
      exact hc _ (Option.some.inj e)
  obtain ⟨a, k⟩ := q
  have h0 := h _ hq
  cases k with
  | plain s =>
    obtain ⟨ps, h1, h2, h3⟩ := h0
    refine ⟨ps, ?_, h2, fun pos cv hcv => ?_⟩
    · rw [upd_ne]
      · exact h1
      · intro e
        rw [e, hp] at h1
        cases h1
        cases ho
    · obtain ⟨c, e1, e2⟩ := h3 pos cv hcv
      exact ⟨c, e1, kc e2⟩
  | nest z9 =>
    obtain ⟨ps, h1, h2, h3⟩ := h0
    refine ⟨ps, ?_, h2, fun pos cv hcv => ?_⟩
    · rw [upd_ne]
      · exact h1
      · intro e
        rw [e, hp] at h1
        cases h1
        cases ho
    · obtain ⟨c, P, e1, e2, e3⟩ := h3 pos cv hcv
      exact ⟨c, P, e1, kc e2, kc e3⟩
  | own =>
    obtain ⟨P, q, e2, e3⟩ := h0
    exact ⟨P, q, kc e2, kc e3⟩
  | mix ls q =>
    obtain ⟨ps, h1, h2, h3⟩ := h0
    refine ⟨ps, ?_, h2, fun pos cv hcv => ?_⟩
    · rw [upd_ne]
      · exact h1
      · intro e
        rw [e, hp] at h1
        cases h1
        cases ho
    · obtain ⟨c, e1, e2⟩ := h3 pos cv hcv
      exact ⟨c, e1, fun l => kc (e2 l)⟩
theorem Ext.new {F H : Hp} {p : Addr} {o : HO} (e : Ext F H) (hp : H p = none) : Ext F (upd H p o) := fun a u h => by
  rw [upd_ne (ne_of_none (e a u h) hp)]
  exact e a u h
theorem Ext.both {F H : Hp} {p : Addr} {o : HO} (e : Ext F H) : Ext (upd F p o) (upd H p o) := fun a u h => by
  by_cases q : a = p
  · rw [q, upd_same] at h ⊢
    exact h
  · rw [upd_ne q] at h ⊢
    exact e a u h
theorem Ext.free {F H : Hp} {p : Addr} (e : Ext F H) (hp : H p = none) : F p = none := by
  cases q : F p with
  | none => rfl
  | some o => rw [e _ _ q] at hp; cases hp
theorem Ext.grow {F : Hp} {p : Addr} {o : HO} (hp : F p = none) : Ext F (upd F p o) := fun a u h => by
  rw [upd_ne (ne_of_none h hp)]
  exact h
theorem Sta.free (S : Sta Y s σ H F) {p : Addr} (hp : H p = none) : F p = none := S.ext.free hp
theorem Sta.newF (S : Sta Y s σ H F) {p : Addr} {o : HO} (hp : H p = none) (ho : isTbl o = false) : Sta Y s σ (upd H p o) (upd F p o) := by
  have hF := S.ext.free hp
  refine ⟨S.ext.both, fun a u h => ?_, S.rep.mono (Ext.grow hF), fun q hq => ?_, S.nd, S.tb.new hp, ⟨S.st.ff.trans (Ext.grow hF), fun a u h1 h2 h3 => ?_, fun a h => ?_⟩⟩
  · by_cases q : a = p
    · rw [q, upd_same] at h; cases h; exact ho
    · rw [upd_ne q] at h; exact S.ntb a u h
  · obtain ⟨h1, u, h2, h3, h4⟩ := S.own q hq
    have ne : q.1 ≠ p := ne_of_none h2 hp
    exact ⟨by rw [upd_ne ne]; exact h1, u, by rw [upd_ne ne]; exact h2, h3, q.2.mono h4 (Ext.grow hF)⟩
  · have h := S.st.fr a u h1 h2 h3
    rw [upd_ne (ne_of_none h hp)]
    exact h
  · by_cases q : a = p
    · rw [q]; exact .inr (S.st.was (.of hp))
    · refine S.st.nw a (h.elim (fun h => .inl ?_) .inr)
      rw [upd_ne q] at h
      exact h
theorem Sta.newO (S : Sta Y s σ H F) {p : Addr} {o : HO} {c : Cell} (hp : H p = none) (ho : isTT o = false) (r : c.rep Y.X.K F o) : Sta Y ⟨s.ρ, (p, c) :: s.gs⟩ σ (upd H p o) F := by
  have hF := S.ext.free hp
  have nin : p ∉ s.gs.map (·.1) := fun hm => by
    obtain ⟨q, hq, e⟩ := List.mem_map.mp hm
    obtain ⟨_, u, h2, _⟩ := S.own q hq
    rw [e, hp] at h2; cases h2
  refine ⟨S.ext.new hp, S.ntb, S.rep, fun q hq => ?_, List.nodup_cons.mpr ⟨nin, S.nd⟩, S.tb.new hp, ⟨S.st.ff, fun a u h1 h2 h3 => ?_, fun a h => ?_⟩⟩
  · rcases List.mem_cons.mp hq with e | hq
    · subst e
      exact ⟨hF, o, upd_same, ho, r⟩
    · obtain ⟨h1, u, h2, h3, h4⟩ := S.own q hq
      exact ⟨h1, u, by rw [upd_ne (ne_of_none h2 hp)]; exact h2, h3, h4⟩
  · have h := S.st.fr a u h1 h2 h3
    rw [upd_ne (ne_of_none h hp)]
    exact h
  · rcases h with h | h
    · exact S.st.nw a (.inl h)
    · rcases List.mem_cons.mp h with h | h
      · rw [h]; exact .inr (S.st.was (.of hp))
      · exact S.st.nw a (.inr h)
theorem Sta.cell (S : Sta Y s σ H F) {i : Nat} {p : Addr} {c : Cell} (h : s.gs[i]? = some (p, c)) : F p = none ∧ ∃ o, H p = some o ∧ isTT o = false ∧ c.rep Y.X.K F o :=
  S.own (p, c) (List.mem_of_getElem? h)
theorem fst_set (gs : Gs) {i : Nat} {p : Addr} {c c' : Cell} (h : gs[i]? = some (p, c)) : (gs.set i (p, c')).map (·.1) = gs.map (·.1) := by
  rw [List.map_set]
  apply List.ext_getElem?
  intro j
  by_cases e : i = j
  · subst e
    obtain ⟨hl, e⟩ := List.getElem?_eq_some_iff.mp h
    rw [List.getElem?_set_self (by simpa using hl), List.getElem?_map, h]
    rfl
  · rw [List.getElem?_set_ne e]
theorem Sta.write (S : Sta Y s σ H F) {i : Nat} {p : Addr} {c c' : Cell} {o o' : HO} (h : s.gs[i]? = some (p, c)) (hp : H p = some o) (hc : ∀ φ, o ≠ .ext φ) (ho : isTT o' = false) (r : c'.rep Y.X.K F o') :
    Sta Y ⟨s.ρ, s.gs.set i (p, c')⟩ σ (upd H p o') F := by
  obtain ⟨hF, u, hu, hut, _⟩ := S.cell h
  rw [hp] at hu
  cases hu
  obtain ⟨hil, hie⟩ := List.getElem?_eq_some_iff.mp h
  have fs := fst_set s.gs (c' := c') h
  have hne : ∀ j q, j ≠ i → s.gs[j]? = some q → q.1 ≠ p := fun j q hj hq e => by
    obtain ⟨hjl, hje⟩ := List.getElem?_eq_some_iff.mp hq
    refine hj ((List.getElem_inj (h₀ := by simpa using hjl) (h₁ := by simpa using hil) S.nd).mp ?_)
    simp [hje, hie, e]
  refine ⟨fun a w ha => ?_, S.ntb, S.rep, fun q hq => ?_, by rw [fs]; exact S.nd, S.tb.write hp (isTT_tbl hut) hc, ?_⟩
  · have n : a ≠ p := fun e => by rw [e, hF] at ha; cases ha
    rw [upd_ne n]
    exact S.ext a w ha
  · obtain ⟨j, hj, e⟩ := List.getElem_of_mem hq
    have hjl : j < s.gs.length := by simpa using hj
    by_cases hji : j = i
    · subst hji
      rw [List.getElem_set_self] at e
      subst e
      exact ⟨hF, o', upd_same, ho, r⟩
    · rw [List.getElem_set_ne (Ne.symm hji)] at e
      have e2 : s.gs[j]? = some q := by rw [List.getElem?_eq_getElem hjl, e]
      obtain ⟨h1, w, h2, h3, h4⟩ := S.own q (List.mem_of_getElem? e2)
      exact ⟨h1, w, by rw [upd_ne (hne j q hji e2)]; exact h2, h3, h4⟩
  · show Step Y.H0 Y.F0 Y.S0 (upd H p o') F ((s.gs.set i (p, c')).map (·.1))
    rw [fs]
    have pin : p ∈ s.gs.map (·.1) := List.mem_map.mpr ⟨(p, c), List.mem_of_getElem? h, rfl⟩
    refine ⟨S.st.ff, fun a w h1 h2 h3 => ?_, S.st.nw⟩
    · have n : a ≠ p := fun e => by
        rcases S.st.nw p (.inr pin) with z | z | z
        · obtain ⟨w2, z⟩ := Option.ne_none_iff_exists'.mp z
          have := S.st.ff p w2 z
          rw [hF] at this; cases this
        · exact h3 (e ▸ z)
        · have := z w (e ▸ h1)
          have q9 := S.st.fr a w h1 h2 h3
          rw [e, hp] at q9
          cases q9
          rw [hut] at this; cases this
      rw [upd_ne n]
      exact S.st.fr a w h1 h2 h3
theorem Sta.freeze (S : Sta Y s σ H F) {i : Nat} {p : Addr} {c : Cell} {o : HO} (h : s.gs[i]? = some (p, c)) (hp : H p = some o) : Sta Y ⟨s.ρ, s.gs.eraseIdx i⟩ σ H (upd F p o) := by
  obtain ⟨hF, u, hu, hut, _⟩ := S.cell h
  rw [hp] at hu
  cases hu
  obtain ⟨hil, hie⟩ := List.getElem?_eq_some_iff.mp h
  have hgi := h
  have sub : ∀ q, q ∈ s.gs.eraseIdx i → q ∈ s.gs := fun q hq => List.mem_of_mem_eraseIdx hq
  have hne : ∀ q, q ∈ s.gs.eraseIdx i → q.1 ≠ p := fun q hq e => by
    obtain ⟨j, hj, he⟩ := List.mem_eraseIdx_iff_getElem?.mp hq
    obtain ⟨hjl, hje⟩ := List.getElem?_eq_some_iff.mp he
    refine hj ((List.getElem_inj (h₀ := by simpa using hjl) (h₁ := by simpa using hil) S.nd).mp ?_)
    simp [hje, hie, e]
  have hsl : ((s.gs.eraseIdx i).map (·.1)).Sublist (s.gs.map (·.1)) := (List.eraseIdx_sublist _ _).map _
  refine ⟨fun a w ha => ?_, fun a w ha => ?_, S.rep.mono (Ext.grow hF), fun q hq => ?_, S.nd.sublist hsl, S.tb, ⟨S.st.ff.trans (Ext.grow hF), S.st.fr, fun a h => ?_⟩⟩
  · by_cases n : a = p
    · rw [n, upd_same] at ha; cases ha; rw [n]; exact hp
    · rw [upd_ne n] at ha; exact S.ext a w ha
  · by_cases n : a = p
    · rw [n, upd_same] at ha; cases ha; exact isTT_tbl hut
    · rw [upd_ne n] at ha; exact S.ntb a w ha
  · obtain ⟨h1, w, h2, h3, h4⟩ := S.own q (sub q hq)
    exact ⟨by rw [upd_ne (hne q hq)]; exact h1, w, h2, h3, q.2.mono h4 (Ext.grow hF)⟩
  · rcases h with h | h
    · by_cases n : a = p
      · rw [n]
        exact S.st.nw p (.inr (List.mem_map.mpr ⟨(p, c), List.mem_of_getElem? hgi, rfl⟩))
      · rw [upd_ne n] at h
        exact S.st.nw a (.inl h)
    · exact S.st.nw a (.inr (hsl.subset h))
theorem Sta.drop (S : Sta Y s σ H F) (i : Nat) : Sta Y ⟨s.ρ, s.gs.eraseIdx i⟩ σ H F := by
  have hsl : ((s.gs.eraseIdx i).map (·.1)).Sublist (s.gs.map (·.1)) := (List.eraseIdx_sublist _ _).map _
  exact ⟨S.ext, S.ntb, S.rep, fun q hq => S.own q (List.mem_of_mem_eraseIdx hq), S.nd.sublist hsl, S.tb, ⟨S.st.ff, S.st.fr, fun a h => S.st.nw a (h.imp id fun h => hsl.subset h)⟩⟩
theorem Sta.perm (S : Sta Y s σ H F) {gs : Gs} (h : s.gs.Perm gs) : Sta Y ⟨s.ρ, gs⟩ σ H F :=
  ⟨S.ext, S.ntb, S.rep, fun q hq => S.own q (h.mem_iff.mpr hq), (h.map _).nodup_iff.mp S.nd, S.tb, ⟨S.st.ff, S.st.fr, fun a q => S.st.nw a (q.imp id fun q => (h.map _).mem_iff.mpr q)⟩⟩
theorem Sta.set (S : Sta Y s σ H F) {v : V} {A : Pv} (r : A.rep Y.X.K F v) (i : Nat) : Sta Y ⟨s.ρ.set i (some A), s.gs⟩ (σ.set i (some v)) H F := ⟨S.ext, S.ntb, S.rep.set r i, S.own, S.nd, S.tb, S.st⟩
theorem Sta.extT {H' : Hp} (S : Sta Y s σ H F) (e : LamX.ExtN H H') (t : TbOk Y.T H') : Sta Y s σ H' F := by
  have k : ∀ a o, H a = some o → isTbl o = false → H' a = some o := fun a o h1 h2 => e a o h1 fun ps z => by rw [z] at h2; cases h2
  exact ⟨fun a o h => k a o (S.ext a o h) (S.ntb a o h), S.ntb, S.rep, fun p hp => by
    obtain ⟨h1, o, h2, h3, h4⟩ := S.own p hp
    exact ⟨h1, o, k _ o h2 (isTT_tbl h3), h3, h4⟩, S.nd, t, ⟨S.st.ff, fun a o h1 h2 h3 => k a o (S.st.fr a o h1 h2 h3) h2, S.st.nw⟩⟩
theorem Sta.extN {H' : Hp} (S : Sta Y s σ H F) (e : LamX.ExtN H H') (t0 : LamX.Tabs (plainT Y.T) H') (tn : NestS Y.T H H') : Sta Y s σ H' F := S.extT e (S.tb.extN e t0 tn)
theorem Sta.length (S : Sta Y s σ H F) : σ.length = s.ρ.length := S.rep.length
end
end Sp
set_option maxHeartbeats 4000000
namespace Sp
open PySem L2
abbrev Frag := PySem.W.Frag
section
variable {δ ε : Type} {R : δ → ε → Prop}
theorem prd_get : ∀ {l : List δ} {m : List ε}, Paired R l m → ∀ {i : Nat} {y : ε}, m[i]? = some y → ∃ x, l[i]? = some x ∧ R x y
  | _, _, .nil, i, y, h => by simp at h
  | _, _, .cons r t, 0, y, h => by simp at h; subst h; exact ⟨_, rfl, r⟩
  | _, _, .cons r t, i + 1, y, h => by
    obtain ⟨x, h1, h2⟩ := prd_get t (i := i) (y := y) (by simpa using h)
    exact ⟨x, by simpa using h1, h2⟩
theorem prd_app {l l' : List δ} {m m' : List ε} (h : Paired R l m) (k : Paired R l' m') : Paired R (l ++ l') (m ++ m') := by
  induction h with
  | nil => exact k
  | cons r _ ih => exact .cons r ih
theorem prd_take {l : List δ} {m : List ε} (h : Paired R l m) : ∀ i : Nat, Paired R (l.take i) (m.take i) := by
  induction h with
  | nil => intro i; simp; exact .nil
  | cons r t ih =>
    intro i
    cases i with
    | zero => exact .nil
    | succ i => exact .cons r (ih i)
theorem prd_drop {l : List δ} {m : List ε} (h : Paired R l m) : ∀ i : Nat, Paired R (l.drop i) (m.drop i) := by
  induction h with
  | nil => intro i; simp; exact .nil
  | cons r t ih =>
    intro i
    cases i with
    | zero => exact .cons r t
    | succ i => exact ih i
theorem prd_set {l : List δ} {m : List ε} {x : δ} {y : ε} (h : Paired R l m) (k : R x y) : ∀ i : Nat, Paired R (l.set i x) (m.set i y) := by
  induction h with
  | nil => intro i; exact .nil
  | cons r t ih =>
    intro i
    cases i with
    | zero => exact .cons k t
    | succ i => exact .cons r (ih i)
theorem prd_map {l : List δ} {m : List ε} {ι κ : Type} {S : ι → κ → Prop} {f : δ → ι} {g : ε → κ} (h : Paired R l m) (k : ∀ a b, R a b → S (f a) (g b)) : Paired S (l.map f) (m.map g) := by
  induction h with
  | nil => exact .nil
  | cons r _ ih => exact .cons (k _ _ r) ih
end
class Enc (α : Type) where
  rep : Frag → Hp → V → α → Prop
  mono : ∀ {K : Frag} {F F' : Hp} {v : V} {a : α}, rep K F v a → Ext F F' → rep K F' v a
def pu {α : Type} [Enc α] (a : α) : Pv := ⟨fun K F v => Enc.rep K F v a, Enc.mono⟩
def raw (v : V) : Pv := ⟨fun _ _ u => u = v, fun h _ => h⟩
abbrev Txt := List Nat
def toStr (x : Txt) : Str := ⟨x.toArray⟩
theorem toStr_inj {x y : Txt} (h : toStr x = toStr y) : x = y := by
  have h2 : (⟨x.toArray⟩ : Str).cps = (⟨y.toArray⟩ : Str).cps := congrArg Str.cps h
  simpa using h2
theorem toStr_cps (x : Txt) : (toStr x).cps.toList = x := by simp [toStr]
theorem toStr_of (x : Str) : toStr x.cps.toList = x := by cases x; simp [toStr]
instance : Enc Int := ⟨fun _ _ v i => v = .int i, fun h _ => h⟩
instance : Enc Bool := ⟨fun _ _ v b => v = .bl b, fun h _ => h⟩
instance : Enc Unit := ⟨fun _ _ v _ => v = .non, fun h _ => h⟩
theorem toStr_len (x : Txt) : (toStr x).length = x.length := by simp [toStr, Str.length]
instance encTxt : Enc (List Nat) := ⟨fun _ _ v x => v = .str (toStr x), fun h _ => h⟩
instance {α : Type} [Enc α] : Enc (Option α) := ⟨fun K F v o => match o with
  | none => v = .non
  | some a => Enc.rep K F v a, fun {K F F' v a} h e => by
    cases a with
    | none => exact h
    | some a => exact Enc.mono (α := α) h e⟩
instance {α β : Type} [Enc α] [Enc β] : Enc (Sum α β) := ⟨fun K F v o => match o with
  | .inl a => Enc.rep K F v a
  | .inr b => Enc.rep K F v b, fun {K F F' v a} h e => by
    cases a with
    | inl a => exact Enc.mono (α := α) h e
    | inr a => exact Enc.mono (α := β) h e⟩
abbrev Vs {α : Type} [Enc α] (K : Frag) (F : Hp) : List V → List α → Prop := Paired fun v a => Enc.rep K F v a
theorem Vs.mono {α : Type} [Enc α] {K : Frag} {F F' : Hp} {vs : List V} {xs : List α} (h : Vs K F vs xs) (e : Ext F F') : Vs K F' vs xs := Paired.mapP h fun _ _ r => Enc.mono r e
theorem rd_ext {F F' : Hp} {a : Addr} {u : HO} (h : Rd F a u) (e : Ext F F') : Rd F' a u := h.imp (e _ _) fun ⟨o, h⟩ => ⟨o, e _ _ h⟩
theorem sqL_ext {K : Frag} {F F' : Hp} {a : Addr} {xs : List V} (h : SqL K F a xs) (e : Ext F F') : SqL K F' a xs := h.imp (rd_ext · e) id
theorem sqT_ex2 {K : Frag} {F F' : Hp} {a : Addr} {xs : List V} (h : SqT K F a xs) (e : Ext F F') : SqT K F' a xs := h.imp (rd_ext · e) id
theorem sqT_ext {K : Frag} {F F' : Hp} {a : Addr} {xs : List V} (h : F a = some (.tup xs)) (e : Ext F F') : SqT K F' a xs := .inl (.inl (e _ _ h))
instance encList {α : Type} [Enc α] : Enc (List α) := ⟨fun K F v xs => ∃ p vs, v = .ref p ∧ SqL K F p vs ∧ Vs K F vs xs,
  fun ⟨p, vs, h1, h2, h3⟩ e => ⟨p, vs, h1, sqL_ext h2 e, h3.mono e⟩⟩
abbrev Tup := PySem.W.Tup
abbrev T3 := PySem.W.T3
abbrev T4 := PySem.W.T4
instance {α : Type} [Enc α] : Enc (Tup α) := ⟨fun K F v xs => ∃ p vs, v = .ref p ∧ SqT K F p vs ∧ Vs K F vs xs.items,
  fun ⟨p, vs, h1, h2, h3⟩ e => ⟨p, vs, h1, sqT_ex2 h2 e, h3.mono e⟩⟩
instance {α β : Type} [Enc α] [Enc β] : Enc (α × β) := ⟨fun K F v x => ∃ p a b, v = .ref p ∧ F p = some (.tup [a, b]) ∧ Enc.rep K F a x.1 ∧ Enc.rep K F b x.2,
  fun ⟨p, a, b, h1, h2, h3, h4⟩ e => ⟨p, a, b, h1, e _ _ h2, Enc.mono h3 e, Enc.mono h4 e⟩⟩
instance {α β γ : Type} [Enc α] [Enc β] [Enc γ] : Enc (T3 α β γ) := ⟨fun K F v x => ∃ p a b c, v = .ref p ∧ F p = some (.tup [a, b, c]) ∧ Enc.rep K F a x.a ∧ Enc.rep K F b x.b ∧ Enc.rep K F c x.c,
  fun ⟨p, a, b, c, h1, h2, h3, h4, h5⟩ e => ⟨p, a, b, c, h1, e _ _ h2, Enc.mono h3 e, Enc.mono h4 e, Enc.mono h5 e⟩⟩
instance {α β γ δ : Type} [Enc α] [Enc β] [Enc γ] [Enc δ] : Enc (T4 α β γ δ) := ⟨fun K F v x => ∃ p a b c d, v = .ref p ∧ F p = some (.tup [a, b, c, d]) ∧ Enc.rep K F a x.a ∧ Enc.rep K F b x.b ∧ Enc.rep K F c x.c ∧ Enc.rep K F d x.d,
  fun ⟨p, a, b, c, d, h1, h2, h3, h4, h5, h6⟩ e => ⟨p, a, b, c, d, h1, e _ _ h2, Enc.mono h3 e, Enc.mono h4 e, Enc.mono h5 e, Enc.mono h6 e⟩⟩
class Kk (κ : Type) where
  key : κ → Key
  inj : ∀ {a b : κ}, key a = key b → a = b
instance : Kk Int := ⟨Sum.inl, fun h => Sum.inl.inj h⟩
instance : Kk (List Nat) := ⟨fun x => Sum.inr (toStr x), fun h => toStr_inj (Sum.inr.inj h)⟩
structure Dct (κ ν : Type) where
  kvs : List (κ × ν)
abbrev KVs {κ ν : Type} [Kk κ] [Enc ν] (K : Frag) (F : Hp) : List (Key × V) → List (κ × ν) → Prop := Paired fun p q => p.1 = Kk.key q.1 ∧ Enc.rep K F p.2 q.2
theorem KVs.mono {κ ν : Type} [Kk κ] [Enc ν] {K : Frag} {F F' : Hp} {vs : List (Key × V)} {xs : List (κ × ν)} (h : KVs K F vs xs) (e : Ext F F') : KVs K F' vs xs := Paired.mapP h fun _ _ r => ⟨r.1, Enc.mono r.2 e⟩
instance encDct {κ ν : Type} [Kk κ] [Enc ν] : Enc (Dct κ ν) := ⟨fun K F v d => ∃ p od kvs, v = .ref p ∧ F p = some (.frz od (.dK kvs)) ∧ KVs K F kvs d.kvs,
  fun ⟨p, od, kvs, h1, h2, h3⟩ e => ⟨p, od, kvs, h1, e _ _ h2, h3.mono e⟩⟩
def lstc {α : Type} [Enc α] (xs : List α) : Cell := ⟨fun K F o => ∃ vs, o = .lst vs ∧ Vs K F vs xs, fun ⟨vs, h1, h2⟩ e => ⟨vs, h1, h2.mono e⟩⟩
def dctc {κ ν : Type} [Kk κ] [Enc ν] (d : List (κ × ν)) : Cell := ⟨fun K F o => ∃ kvs, o = .dK kvs ∧ KVs K F kvs d, fun ⟨vs, h1, h2⟩ e => ⟨vs, h1, h2.mono e⟩⟩
def dicec : Cell := ⟨fun _ _ o => ∃ i j k : Int, o = .lst [.int i, .int j, .int k], fun h _ => h⟩
def Po (Y : DX) (σ : St) (F0 : Hp) (Q : Pv → DSt → Prop) : VK := fun v H' => ∃ A s' F', Ext F0 F' ∧ A.rep Y.X.K F' v ∧ Sta Y s' σ H' F' ∧ Q A s'
def Pp (Y : DX) (s : DSt) (σ : St) (F0 : Hp) (A : Pv) : VK := fun v H' => ∃ F', Ext F0 F' ∧ A.rep Y.X.K F' v ∧ Sta Y s σ H' F'
def Pt (Y : DX) (σ : St) (F0 : Hp) (Q : Bool → DSt → Prop) : Bool → Hp → Prop := fun b H' => ∃ s' F', Ext F0 F' ∧ Sta Y s' σ H' F' ∧ Q b s'
def Ev (Y : DX) (s : DSt) (e : Expr) (Q : Pv → DSt → Prop) : Prop :=
  ∀ F0 σ H F, Ext F0 F → Sta Y s σ H F → WE Y.X e σ H (Po Y σ F0 Q)
def EvP (Y : DX) (s : DSt) (e : Expr) (A : Pv) : Prop :=
  ∀ F0 σ H F, Ext F0 F → Sta Y s σ H F → WE Y.X e σ H (Pp Y s σ F0 A)
def Et (Y : DX) (s : DSt) (e : Expr) (Q : Bool → DSt → Prop) : Prop :=
  ∀ F0 σ H F, Ext F0 F → Sta Y s σ H F → WT Y.X e σ H (Pt Y σ F0 Q)
def EtP (Y : DX) (s : DSt) (e : Expr) (b : Bool) : Prop :=
  ∀ F0 σ H F, Ext F0 F → Sta Y s σ H F → WT Y.X e σ H fun b' H' => b' = b ∧ ∃ F', Ext F0 F' ∧ Sta Y s σ H' F'
section
variable {Y : DX} {s : DSt} {e a b c : Expr} {pos : Pos}
theorem Ev.of {A : Pv} {Q : Pv → DSt → Prop} (h : EvP Y s e A) (q : Q A s) : Ev Y s e Q := fun F0 σ H F e0 S => (h F0 σ H F e0 S).mono fun v H' ⟨F', e1, r, S'⟩ => ⟨A, s, F', e1, r, S', q⟩
theorem Ev.mono {Q Q' : Pv → DSt → Prop} (h : Ev Y s e Q) (k : ∀ A s', Q A s' → Q' A s') : Ev Y s e Q' := fun F0 σ H F e0 S => (h F0 σ H F e0 S).mono fun v H' ⟨A, s', F', e1, r, S', q⟩ => ⟨A, s', F', e1, r, S', k _ _ q⟩
theorem EvP.of {A : Pv} (h : Ev Y s e fun B s' => B = A ∧ s' = s) : EvP Y s e A := fun F0 σ H F e0 S => (h F0 σ H F e0 S).mono fun v H' ⟨B, s', F', e1, r, S', q1, q2⟩ => by subst q1 q2; exact ⟨F', e1, r, S'⟩
theorem Et.of {x : Bool} {Q : Bool → DSt → Prop} (h : EtP Y s e x) (q : Q x s) : Et Y s e Q := fun F0 σ H F e0 S => (h F0 σ H F e0 S).mono fun v H' ⟨e2, F', e1, S'⟩ => by subst e2; exact ⟨s, F', e1, S', q⟩
theorem Et.mono {Q Q' : Bool → DSt → Prop} (h : Et Y s e Q) (k : ∀ A s', Q A s' → Q' A s') : Et Y s e Q' := fun F0 σ H F e0 S => (h F0 σ H F e0 S).mono fun v H' ⟨s', F', e1, S', q⟩ => ⟨s', F', e1, S', k _ _ q⟩
theorem EtP.of {x : Bool} (h : Et Y s e fun y s' => y = x ∧ s' = s) : EtP Y s e x := fun F0 σ H F e0 S => (h F0 σ H F e0 S).mono fun v H' ⟨s', F', e1, S', q1, q2⟩ => by subst q1 q2; exact ⟨rfl, F', e1, S'⟩
theorem EvP.to {A B : Pv} (h : EvP Y s e A) (eq : A = B) : EvP Y s e B := eq ▸ h
theorem EtP.to {x y : Bool} (h : EtP Y s e x) (eq : x = y) : EtP Y s e y := eq ▸ h
theorem ev2 {Q : Pv → DSt → Prop} {r : R2} (P : PE Y.X e (tOp r (WE Y.X a) (WE Y.X b)))
    (h : Ev Y s a fun A s1 => Ev Y s1 b fun B s2 => ∀ F0 σ H F v u, Ext F0 F → Sta Y s2 σ H F → A.rep Y.X.K F v → B.rep Y.X.K F u → r v u H (Po Y σ F0 Q)) : Ev Y s e Q := fun F0 σ H F e0 S => by
  refine .of P ?_
  refine (h F σ H F (.refl _) S).mono fun v H1 ⟨A, s1, F1, e1, r1, S1, q1⟩ => ?_
  refine (q1 F1 σ H1 F1 (.refl _) S1).mono fun u H2 ⟨B, s2, F2, e2, r2, S2, q2⟩ => ?_
  exact q2 F0 σ H2 F2 v u ((e0.trans e1).trans e2) S2 (A.mono r1 e2) r2
theorem evp2 {A B C : Pv} {r : R2} (P : PE Y.X e (tOp r (WE Y.X a) (WE Y.X b))) (ha : EvP Y s a A) (hb : EvP Y s b B)
    (h : ∀ F0 σ H F v u, Ext F0 F → Sta Y s σ H F → A.rep Y.X.K F v → B.rep Y.X.K F u → r v u H (Pp Y s σ F0 C)) : EvP Y s e C := fun F0 σ H F e0 S => by
  refine .of P ?_
  refine (ha F σ H F (.refl _) S).mono fun v H1 ⟨F1, e1, r1, S1⟩ => ?_
  refine (hb F1 σ H1 F1 (.refl _) S1).mono fun u H2 ⟨F2, e2, r2, S2⟩ => ?_
  exact h F0 σ H2 F2 v u ((e0.trans e1).trans e2) S2 (A.mono r1 e2) r2
theorem et_val {Q : Bool → DSt → Prop} (he : ∀ whole, isTrue e Y.X.env whole = (do let v ← whole; standAt e.pos; holding [v] (truthy v))) (h : Ev Y s e fun A s' => ∃ x : Bool, A = pu x ∧ Q x s') : Et Y s e Q := fun F0 σ H F e0 S => by
  refine .of (pt_val pe_we he) ?_
  refine (h F0 σ H F e0 S).mono fun v H' ⟨A, s', F', e1, r, S', x, ea, q⟩ => ?_
  subst ea
  exact ⟨x, r, s', F', e1, S', q⟩
theorem evp_var {A : Pv} {x : Str} (i : Nat) (hN : Y.X.N[i]? = some x) (hv : Vis Y.X.env.scope x) (hA : s.ρ[i]? = some (some A)) (hd : (x == ("__debug__" : Str)) = false := by decide) (hcd : (x == ("__classdict__" : Str)) = false := by decide) :
    EvP Y s (.Name x pos) A := fun F0 σ H F e0 S => by
  obtain ⟨v, e1, r⟩ := S.rep.get hA
  exact .of (pe_var hN hv hd hcd) ⟨v, e1, F, e0, r, S⟩
theorem evp_int {i : Int} {j : Nat} : EvP Y s (.Constant (.int i) j pos) (pu i) := fun F0 σ H F e0 S => .of pe_int ⟨F, e0, rfl, S⟩
theorem evp_bl {x : Bool} {j : Nat} : EvP Y s (.Constant (.bool x) j pos) (pu x) := fun F0 σ H F e0 S => .of pe_bl ⟨F, e0, rfl, S⟩
theorem evp_non {j : Nat} : EvP Y s (.Constant .none j pos) (pu ()) := fun F0 σ H F e0 S => .of pe_non ⟨F, e0, rfl, S⟩
theorem evp_str {x : Str} (y : Txt) {j : Nat} (hy : toStr y = x) : EvP Y s (.Constant (.str x) j pos) (pu y) := fun F0 σ H F e0 S => .of pe_str ⟨F, e0, by show V.str x = V.str (toStr y); rw [hy], S⟩
theorem evp_glob {x : Str} {v : V} {u : Value} {A : Pv} (hg : Gl Y.X x) (hm : Y.X.mg x = some u) (r : RelV v u) (hA : ∀ F, A.rep Y.X.K F v) (hd : (x == ("__debug__" : Str)) = false := by decide) : EvP Y s (.Name x pos) A :=
  fun F0 σ H F e0 S => .of (pe_glob hg hm r hd) ⟨F, e0, hA F, S⟩
theorem ev_ints {Q : Pv → DSt → Prop} {α : Type} [Enc α] {C : Int → Int → Prop} {g : Int → Int → V} {f : Int → Int → α} (P : PE Y.X e (tOp (rI C g) (WE Y.X a) (WE Y.X b))) (hg : ∀ K F i j, Enc.rep K F (g i j) (f i j))
    (h : Ev Y s a fun A s1 => ∃ i : Int, A = pu i ∧ Ev Y s1 b fun B s2 => ∃ j : Int, B = pu j ∧ C i j ∧ Q (pu (f i j)) s2) : Ev Y s e Q :=
  ev2 P (h.mono fun A s1 ⟨i, ea, h1⟩ => h1.mono fun B s2 ⟨j, eb, hc, q⟩ F0 σ H F v u e0 S rv ru => by
    subst ea eb
    exact ⟨i, j, rv, ru, hc, _, s2, F, e0, hg _ _ _ _, S, q⟩)
theorem evp_ints {α : Type} [Enc α] {C : Int → Int → Prop} {g : Int → Int → V} {f : Int → Int → α} {i j : Int} (P : PE Y.X e (tOp (rI C g) (WE Y.X a) (WE Y.X b))) (hg : ∀ K F i j, Enc.rep K F (g i j) (f i j))
    (ha : EvP Y s a (pu i)) (hb : EvP Y s b (pu j)) (hc : C i j) : EvP Y s e (pu (f i j)) :=
  .of (ev_ints P hg (.of ha ⟨i, rfl, .of hb ⟨j, rfl, hc, rfl, rfl⟩⟩))
theorem ev_ints0 {Q : Pv → DSt → Prop} {α : Type} [Enc α] {g : Int → Int → V} {f : Int → Int → α} (P : PE Y.X e (tOp (rI0 g) (WE Y.X a) (WE Y.X b))) (hg : ∀ K F i j, Enc.rep K F (g i j) (f i j))
    (h : Ev Y s a fun A s1 => ∃ i : Int, A = pu i ∧ Ev Y s1 b fun B s2 => ∃ j : Int, B = pu j ∧ Q (pu (f i j)) s2) : Ev Y s e Q :=
  ev2 P (h.mono fun A s1 ⟨i, ea, h1⟩ => h1.mono fun B s2 ⟨j, eb, q⟩ F0 σ H F v u e0 S rv ru => by
    subst ea eb
    exact ⟨i, j, rv, ru, _, s2, F, e0, hg _ _ _ _, S, q⟩)
theorem evp_ints0 {α : Type} [Enc α] {g : Int → Int → V} {f : Int → Int → α} {i j : Int} (P : PE Y.X e (tOp (rI0 g) (WE Y.X a) (WE Y.X b))) (hg : ∀ K F i j, Enc.rep K F (g i j) (f i j))
    (ha : EvP Y s a (pu i)) (hb : EvP Y s b (pu j)) : EvP Y s e (pu (f i j)) :=
  .of (ev_ints0 P hg (.of ha ⟨i, rfl, .of hb ⟨j, rfl, rfl, rfl⟩⟩))
section
variable {i j : Int} {Q : Pv → DSt → Prop}
theorem evp_add (ha : EvP Y s a (pu i)) (hb : EvP Y s b (pu j)) : EvP Y s (.BinOp a .Add b pos) (pu (i + j)) := evp_ints0 (f := fun i j => i + j) (pe_op op_add pe_we pe_we) (fun _ _ _ _ => rfl) ha hb
theorem evp_sub (ha : EvP Y s a (pu i)) (hb : EvP Y s b (pu j)) : EvP Y s (.BinOp a .Sub b pos) (pu (i - j)) := evp_ints0 (f := fun i j => i - j) (pe_op op_sub pe_we pe_we) (fun _ _ _ _ => rfl) ha hb
theorem evp_mul (ha : EvP Y s a (pu i)) (hb : EvP Y s b (pu j)) (hc : CMul i j) : EvP Y s (.BinOp a .Mult b pos) (pu (i * j)) := evp_ints (f := fun i j => i * j) (pe_op op_mul pe_we pe_we) (fun _ _ _ _ => rfl) ha hb hc
theorem evp_mod (ha : EvP Y s a (pu i)) (hb : EvP Y s b (pu j)) (hc : 0 < j) : EvP Y s (.BinOp a .Mod b pos) (pu (i % j)) := evp_ints (f := fun i j => i % j) (pe_op op_mod pe_we pe_we) (fun _ _ _ _ => rfl) ha hb hc
theorem evp_fdiv (ha : EvP Y s a (pu i)) (hb : EvP Y s b (pu j)) (hc : CDiv i j) : EvP Y s (.BinOp a .FloorDiv b pos) (pu (i / j)) := evp_ints (f := fun i j => i / j) (pe_op op_fdiv pe_we pe_we) (fun _ _ _ _ => rfl) ha hb hc
theorem evp_pow (ha : EvP Y s a (pu i)) (hb : EvP Y s b (pu j)) (hc : CPow i j) : EvP Y s (.BinOp a .Pow b pos) (pu (i ^ j.toNat)) := evp_ints (f := fun i j => i ^ j.toNat) (pe_op op_pow pe_we pe_we) (fun _ _ _ _ => rfl) ha hb hc
end
end
end Sp
set_option maxHeartbeats 4000000
namespace Sp
open PySem L2
open PySem.W (Datum DatumOrd SomeDatum Holds HoldAll)
instance txtDatum : Datum (List Nat) where
  toD x := .str (toStr x)
  plain _ := rfl
  eqv a b := by
    simp only [PyData.eqv]
    rw [Bool.eq_iff_iff, beq_iff_eq, decide_eq_true_eq]
    exact ⟨toStr_inj, fun h => by rw [h]⟩
  depth := 0
  depth_le _ := Nat.le_refl _
instance txtOrd : DatumOrd (List Nat) where
  toDatum := txtDatum
  lt a b := decide (a < b)
  alike a b := DatumOrd.alike (toStr a) (toStr b)
  notNone a := DatumOrd.notNone (toStr a)
  lt_eq a b := by
    have h := DatumOrd.lt_eq (toStr a) (toStr b)
    refine h.trans ?_
    show decide ((toStr a).cps.toList < (toStr b).cps.toList) = _
    rw [toStr_cps, toStr_cps]
instance : SomeDatum (List Nat) := ⟨fun _ => by show PyData.eqv .none (.str _) = false; simp only [PyData.eqv], fun _ => by show PyData.eqv (.str _) .none = false; simp only [PyData.eqv]⟩
class Dne (α β : Type) [DecidableEq α] [DecidableEq β] [Datum α] [Datum β] : Prop where
  ne : ∀ (a : α) (b : β), PyData.eqv (Datum.toD a) (Datum.toD b) = false
  ne' : ∀ (a : α) (b : β), PyData.eqv (Datum.toD b) (Datum.toD a) = false
section
variable {α β γ δ : Type} [DecidableEq α] [Datum α] [DecidableEq β] [Datum β] [DecidableEq γ] [Datum γ] [DecidableEq δ] [Datum δ]
instance sumDatum [Dne α β] : Datum (α ⊕ β) where
  toD x := match x with
    | .inl a => Datum.toD a
    | .inr b => Datum.toD b
  plain x := by
    cases x with
    | inl a => exact Datum.plain a
    | inr b => exact Datum.plain b
  eqv x y := by
    cases x with
    | inl a =>
      cases y with
      | inl b => show PyData.eqv (Datum.toD a) (Datum.toD b) = _; rw [Datum.eqv]; simp
      | inr b => show PyData.eqv (Datum.toD a) (Datum.toD b) = _; rw [Dne.ne]; simp
    | inr a =>
      cases y with
      | inl b => show PyData.eqv (Datum.toD a) (Datum.toD b) = _; rw [Dne.ne']; simp
      | inr b => show PyData.eqv (Datum.toD a) (Datum.toD b) = _; rw [Datum.eqv]; simp
  depth := max (Datum.depth α) (Datum.depth β)
  depth_le x := by
    cases x with
    | inl a => exact Nat.le_trans (Datum.depth_le a) (Nat.le_max_left _ _)
    | inr b => exact Nat.le_trans (Datum.depth_le b) (Nat.le_max_right _ _)
instance : Dne Int (List Nat) := ⟨fun _ _ => rfl, fun _ _ => rfl⟩
instance : Dne Bool (List Nat) := ⟨fun _ _ => rfl, fun _ _ => rfl⟩
instance : Dne Unit (List Nat) := ⟨fun _ _ => rfl, fun _ _ => rfl⟩
instance : Dne (List α) (List Nat) := ⟨fun _ _ => rfl, fun _ _ => rfl⟩
instance : Dne (Tup α) (List Nat) := ⟨fun _ _ => rfl, fun _ _ => rfl⟩
instance : Dne (α × β) (List Nat) := ⟨fun _ _ => rfl, fun _ _ => rfl⟩
instance : Dne (T3 α β γ) (List Nat) := ⟨fun _ _ => rfl, fun _ _ => rfl⟩
instance : Dne (T4 α β γ δ) (List Nat) := ⟨fun _ _ => rfl, fun _ _ => rfl⟩
instance [SomeDatum α] [Dne α (List Nat)] : Dne (Option α) (List Nat) := ⟨fun a b => by cases a with
  | none => rfl
  | some a => exact Dne.ne a b, fun a b => by cases a with
  | none => rfl
  | some a => exact Dne.ne' a b⟩
end
class Dat (α : Type) [DecidableEq α] [Datum α] [Enc α] : Prop where
  dp : ∀ {K : Frag} {F : Hp} {v : V} {a : α}, Enc.rep K F v a → Dp K F v (Datum.toD a)
instance : Dat Int := ⟨fun h => by cases h; exact .int _⟩
instance : Dat Bool := ⟨fun h => by cases h; exact .bl _⟩
instance : Dat Unit := ⟨fun h => by cases h; exact .non⟩
instance datTxt : Dat (List Nat) := ⟨fun h => by cases h; exact .str _⟩
section
variable {α β γ δ : Type} [DecidableEq α] [Datum α] [Enc α] [Dat α] [DecidableEq β] [Datum β] [Enc β] [Dat β] [DecidableEq γ] [Datum γ] [Enc γ] [Dat γ] [DecidableEq δ] [Datum δ] [Enc δ] [Dat δ]
theorem dpAll {K : Frag} {F : Hp} {vs : List V} {xs : List α} (h : Vs K F vs xs) : DpAll K F vs (xs.map Datum.toD) := by
  induction h with
  | nil => exact .nil
  | cons r _ ih => exact .cons (Dat.dp r) ih
instance datList : Dat (List α) := ⟨fun ⟨p, vs, h1, h2, h3⟩ => by subst h1; exact .lst h2 (dpAll h3)⟩
instance : Dat (Tup α) := ⟨fun ⟨p, vs, h1, h2, h3⟩ => by subst h1; exact .tup h2 (dpAll h3)⟩
instance : Dat (α × β) := ⟨fun ⟨p, a, b, h1, h2, h3, h4⟩ => by subst h1; exact .tup (.of h2) (.cons (Dat.dp h3) (.cons (Dat.dp h4) .nil))⟩
instance : Dat (T3 α β γ) := ⟨fun ⟨p, a, b, c, h1, h2, h3, h4, h5⟩ => by subst h1; exact .tup (.of h2) (.cons (Dat.dp h3) (.cons (Dat.dp h4) (.cons (Dat.dp h5) .nil)))⟩
instance : Dat (T4 α β γ δ) := ⟨fun ⟨p, a, b, c, d, h1, h2, h3, h4, h5, h6⟩ => by subst h1; exact .tup (.of h2) (.cons (Dat.dp h3) (.cons (Dat.dp h4) (.cons (Dat.dp h5) (.cons (Dat.dp h6) .nil))))⟩
instance [SomeDatum α] : Dat (Option α) := ⟨fun {K F v a} h => by
  cases a with
  | none => cases h; exact .non
  | some a => exact Dat.dp (α := α) h⟩
instance datSum [Dne α β] : Dat (α ⊕ β) := ⟨fun {K F v a} h => by
  cases a with
  | inl a => exact Dat.dp (α := α) h
  | inr a => exact Dat.dp (α := β) h⟩
theorem enc_holds {X : Cx} {pins : List (Addr × Obj)} {σ : St} {H : Hp} {s : Shared} {v : V} {u : Value} {a : α} (I : Inv X pins σ H s) (r : Enc.rep X.K H v a) (rv : RelV v u) : Holds s.heap u a := Dp.reads I _ v u (Dat.dp r) rv
theorem vs_holds {X : Cx} {pins : List (Addr × Obj)} {σ : St} {H : Hp} {s : Shared} {vs : List V} {us : List Value} {xs : List α} (I : Inv X pins σ H s) (r : Vs X.K H vs xs) (rv : Vals vs us) : HoldAll s.heap us xs := Dp.readsAll I _ vs us (dpAll r) rv
end
def srt {α : Type} [DecidableEq α] [DatumOrd α] (xs : List α) : List α := xs.mergeSort fun a b => !DatumOrd.lt b a
section
variable {X : Cx} {α β : Type} [DecidableEq α] [Enc α]
def LRd (K : Frag) (H : Hp) (y : V) (xs : List α) : Prop := ∃ p zs, y = .ref p ∧ SqL K H p zs ∧ Vs K H zs xs
section
variable [Datum α] [Dat α]
theorem op_eqT (hu : X.A.units + 64 < cLine) (hd : Datum.depth α ≤ 60) : OpR X (compareOp .Eq) (fun x y H Q => ∃ a b : α, Enc.rep X.K H x a ∧ Enc.rep X.K H y b ∧ Q (.bl (decide (a = b))) H) := by
  intro pins s σ H x y v u Q I rx ry ⟨a, b, ha, hb, q⟩
  exact PySem.W.eq_datum (enc_holds I ha rx) (enc_holds I hb ry) (by omega) ⟨.bl _, H, I, rfl, q⟩
theorem op_neT (hu : X.A.units + 64 < cLine) (hd : Datum.depth α ≤ 60) : OpR X (compareOp .NotEq) (fun x y H Q => ∃ a b : α, Enc.rep X.K H x a ∧ Enc.rep X.K H y b ∧ Q (.bl (decide (a ≠ b))) H) := by
  intro pins s σ H x y v u Q I rx ry ⟨a, b, ha, hb, q⟩
  exact PySem.W.ne_datum (enc_holds I ha rx) (enc_holds I hb ry) (by omega) ⟨.bl _, H, I, rfl, q⟩
theorem op_inT (hu : X.A.units + 64 < cLine) (hd : Datum.depth α ≤ 60) : OpR X (compareOp .In) (fun x y H Q => ∃ (a : α) (xs : List α), Enc.rep X.K H x a ∧ LRd X.K H y xs ∧ Q (.bl (decide (a ∈ xs))) H) := by
  intro pins s σ H x y v u Q I rx ry ⟨a, xs, ha, ⟨p, zs, e, hq, hz⟩, q⟩
  subst e
  obtain ⟨its, rv, hl, _⟩ := I.list hq
  cases ry
  exact PySem.W.in_list_datum (vs := its.toArray) hl.isList (vs_holds I hz rv) (enc_holds I ha rx) (by omega) ⟨.bl _, H, I, rfl, q⟩
theorem op_ninT (hu : X.A.units + 64 < cLine) (hd : Datum.depth α ≤ 60) : OpR X (compareOp .NotIn) (fun x y H Q => ∃ (a : α) (xs : List α), Enc.rep X.K H x a ∧ LRd X.K H y xs ∧ Q (.bl (decide (a ∉ xs))) H) := by
  intro pins s σ H x y v u Q I rx ry ⟨a, xs, ha, ⟨p, zs, e, hq, hz⟩, q⟩
  subst e
  obtain ⟨its, rv, hl, _⟩ := I.list hq
  cases ry
  exact PySem.W.notIn_list_datum (vs := its.toArray) hl.isList (vs_holds I hz rv) (enc_holds I ha rx) (by omega) ⟨.bl _, H, I, rfl, q⟩
abbrev idx (xs : List α) (x : α) : Nat := xs.idxOf x
abbrev cnt (xs : List α) (x : α) : Nat := xs.countP fun y => decide (y = x)
theorem mt_countT (hu : X.A.units + 64 < cLine) (hd : Datum.depth α ≤ 60) : MtR X "list.count" (fun y vs H Q => ∃ (a : α) (xs : List α) (x : V), vs = [x] ∧ Enc.rep X.K H x a ∧ LRd X.K H y xs ∧ Q (.int (cnt xs a : Nat)) H) := by
  intro pins s σ H y vs u us Q I ry rxs ⟨a, xs, x, ev, ha, ⟨p, zs, e, hq, hz⟩, q⟩
  subst e ev
  obtain ⟨ux, rfl, rx⟩ := rxs.one
  obtain ⟨its, rv, hl, _⟩ := I.list hq
  cases ry
  exact PySem.W.count_list_datum (vs := its.toArray) hl.isList (vs_holds I hz rv) (enc_holds I ha rx) (by omega) ⟨.int _, H, I.tok _, ⟨_, rfl⟩, q⟩
theorem mt_indexT (hu : X.A.units + 64 < cLine) (hd : Datum.depth α ≤ 60) : MtR X "list.index" (fun y vs H Q => ∃ (a : α) (xs : List α) (x : V), vs = [x] ∧ Enc.rep X.K H x a ∧ LRd X.K H y xs ∧ a ∈ xs ∧ Q (.int (xs.idxOf a : Nat)) H) := by
  intro pins s σ H y vs u us Q I ry rxs ⟨a, xs, x, ev, ha, ⟨p, zs, e, hq, hz⟩, hm, q⟩
  subst e ev
  obtain ⟨ux, rfl, rx⟩ := rxs.one
  obtain ⟨its, rv, hl, hlen⟩ := I.list hq
  cases ry
  have hls : xs.length = zs.length := (Paired.length hz).symm
  exact PySem.W.index_list_datum (vs := its) hl.isList (vs_holds I hz rv) (enc_holds I ha rx) (by omega) (by omega) hm ⟨.int _, H, I.tok _, ⟨_, rfl⟩, q⟩
end
class Srtb (α : Type) [DecidableEq α] [Datum α] : Prop where
  kd : (∀ a : α, ∃ x r, Datum.toD a = .tuple (x :: r)) ∨ ∀ a : α, Datum.toD a ≠ .none ∧ ∀ xs, Datum.toD a ≠ .tuple xs
instance : Srtb Int := ⟨.inr fun _ => ⟨(by intro h; cases h), (by intro _ h; cases h)⟩⟩
instance : Srtb (List Nat) := ⟨.inr fun _ => ⟨(by intro h; cases h), (by intro _ h; cases h)⟩⟩
section
variable {γ ε : Type} [DecidableEq β] [DecidableEq γ] [DecidableEq ε] [Datum α] [Datum β] [Datum γ] [Datum ε]
instance : Srtb (List α) := ⟨.inr fun _ => ⟨(by intro h; cases h), (by intro _ h; cases h)⟩⟩
instance : Srtb (α × β) := ⟨.inl fun _ => ⟨_, _, rfl⟩⟩
instance : Srtb (T3 α β γ) := ⟨.inl fun _ => ⟨_, _, rfl⟩⟩
instance : Srtb (T4 α β γ ε) := ⟨.inl fun _ => ⟨_, _, rfl⟩⟩
end
section
variable [DatumOrd α] [Dat α]
theorem sort_alike (xs : List α) : PySem.W.AllAlike (xs.map Datum.toD) := fun d hd e he => by
  obtain ⟨a, _, rfl⟩ := List.mem_map.mp hd
  obtain ⟨b, _, rfl⟩ := List.mem_map.mp he
  exact DatumOrd.alike a b
theorem sort_able [Srtb α] (xs : List α) : PySem.W.Sortable (xs.map Datum.toD) := by
  rcases Srtb.kd (α := α) with k | k
  · refine .inl fun d hd => ?_
    obtain ⟨a, _, rfl⟩ := List.mem_map.mp hd
    exact k a
  · refine .inr fun d hd => ?_
    obtain ⟨a, _, rfl⟩ := List.mem_map.mp hd
    exact k a
theorem srt_eq (xs : List α) : xs.mergeSort (PySem.W.dataLe false Datum.toD) = srt xs := by
  unfold srt
  congr 1
  funext a b
  show (!PySem.W.dataLt (Datum.toD b) (Datum.toD a)) = _
  rw [DatumOrd.lt_eq]
theorem toD_inj {a b : α} (h : Datum.toD a = Datum.toD b) : a = b := by
  have h1 := Datum.eqv a b
  have h2 := Datum.eqv a a
  rw [h] at h2
  rw [h] at h1
  rw [h1] at h2
  simpa using h2
theorem holds_one {h : Heap} {v : Value} {a b : α} (x : Holds h v a) (y : Holds h v b) : a = b := by
  obtain ⟨as, r⟩ := x
  obtain ⟨bs, r2⟩ := y
  have e1 := SeqAt.readOf_plain (Datum.plain a) r
  have e2 := SeqAt.readOf_plain (Datum.plain b) r2
  exact toD_inj (e1.symm.trans e2)
end
theorem vs_ints {K : Frag} {H : Hp} : ∀ {zs : List V} {ns : List Int}, Vs K H zs ns → zs = ns.map V.int
  | _, _, .nil => rfl
  | _, _, .cons r t => by rw [List.map_cons, ← vs_ints t]; congr 1
theorem vs_txts {K : Frag} {H : Hp} : ∀ {zs : List V} {ns : List (List Nat)}, Vs K H zs ns → zs = (ns.map toStr).map V.str
  | _, _, .nil => rfl
  | _, _, .cons r t => by rw [List.map_cons, List.map_cons, ← vs_txts t]; congr 1
def joinT (a : List Nat) : List (List Nat) → List Nat
  | [] => []
  | [x] => x
  | x :: y :: r => x ++ a ++ joinT a (y :: r)
end
end Sp
set_option maxHeartbeats 4000000
namespace Sp
open PySem L2
abbrev Rvs (K : Frag) (F : Hp) : List V → List Pv → Prop := Paired fun v A => A.rep K F v
theorem Rvs.mono {K : Frag} {F F' : Hp} {vs : List V} {As : List Pv} (h : Rvs K F vs As) (e : Ext F F') : Rvs K F' vs As := Paired.mapP h fun _ _ r => Pv.mono _ r e
def Evs (Y : DX) (s : DSt) (es : List Expr) (Q : List Pv → DSt → Prop) : Prop :=
  ∀ F0 σ H F, Ext F0 F → Sta Y s σ H F → WA Y.X es σ H fun vs H' => ∃ As s' F', Ext F0 F' ∧ Rvs Y.X.K F' vs As ∧ Sta Y s' σ H' F' ∧ Q As s'
section
variable {Y : DX} {s : DSt} {e a b c : Expr} {es : List Expr} {pos : Pos} {Q : Pv → DSt → Prop}
theorem evs_nil {Q : List Pv → DSt → Prop} (h : Q [] s) : Evs Y s [] Q := fun F0 σ H F e0 S => .of pa_nil ⟨[], s, F, e0, .nil, S, h⟩
theorem evs_cons {Q : List Pv → DSt → Prop} (h : Ev Y s e fun A s1 => Evs Y s1 es fun As s2 => Q (A :: As) s2) (hs : starEach (e :: es) Y.X.env = (false, eval e Y.X.env) :: starEach es Y.X.env := by rfl) : Evs Y s (e :: es) Q := fun F0 σ H F e0 S => by
  refine .of (pa_cons pe_we pa_wa hs) ?_
  refine (h F σ H F (.refl _) S).mono fun v H1 ⟨A, s1, F1, e1, r1, S1, q1⟩ => ?_
  refine (q1 F1 σ H1 F1 (.refl _) S1).mono fun vs H2 ⟨As, s2, F2, e2, r2, S2, q2⟩ => ?_
  exact ⟨A :: As, s2, F2, (e0.trans e1).trans e2, .cons (A.mono r1 e2) r2, S2, q2⟩
def EvsP (Y : DX) (s : DSt) (es : List Expr) (As : List Pv) : Prop :=
  ∀ F0 σ H F, Ext F0 F → Sta Y s σ H F → WA Y.X es σ H fun vs H' => ∃ F', Ext F0 F' ∧ Rvs Y.X.K F' vs As ∧ Sta Y s σ H' F'
theorem Evs.of {As : List Pv} {Q : List Pv → DSt → Prop} (h : EvsP Y s es As) (q : Q As s) : Evs Y s es Q := fun F0 σ H F e0 S => (h F0 σ H F e0 S).mono fun vs H' ⟨F', e1, r, S'⟩ => ⟨As, s, F', e1, r, S', q⟩
theorem Evs.mono {Q Q' : List Pv → DSt → Prop} (h : Evs Y s es Q) (k : ∀ A s', Q A s' → Q' A s') : Evs Y s es Q' := fun F0 σ H F e0 S => (h F0 σ H F e0 S).mono fun v H' ⟨A, s', F', e1, r, S', q⟩ => ⟨A, s', F', e1, r, S', k _ _ q⟩
theorem EvsP.of {As : List Pv} (h : Evs Y s es fun Bs s' => Bs = As ∧ s' = s) : EvsP Y s es As := fun F0 σ H F e0 S => (h F0 σ H F e0 S).mono fun v H' ⟨B, s', F', e1, r, S', q1, q2⟩ => by subst q1 q2; exact ⟨F', e1, r, S'⟩
theorem evsp_nil : EvsP Y s [] [] := .of (evs_nil ⟨rfl, rfl⟩)
theorem evsp_cons {A : Pv} {As : List Pv} (h : EvP Y s e A) (k : EvsP Y s es As) (hs : starEach (e :: es) Y.X.env = (false, eval e Y.X.env) :: starEach es Y.X.env := by rfl) : EvsP Y s (e :: es) (A :: As) :=
  .of (evs_cons (.of h (.of k ⟨rfl, rfl⟩)) hs)
section
variable {α β γ : Type} [Enc α] [Enc β] [Enc γ]
theorem rvs_pu {K : Frag} {F : Hp} {vs : List V} : ∀ {xs : List α}, Rvs K F vs (xs.map pu) → Vs K F vs xs := by
  induction vs with
  | nil =>
    intro xs h
    cases xs with
    | nil => exact .nil
    | cons x xs => cases h
  | cons v vs ih =>
    intro xs h
    cases xs with
    | nil => cases h
    | cons x xs =>
      cases h with
      | cons r t => exact .cons r (ih t)
theorem Vs.length {K : Frag} {F : Hp} {vs : List V} {xs : List α} (h : Vs K F vs xs) : vs.length = xs.length := Paired.length h
theorem po_list {σ : St} {F0 : Hp} {H F : Hp} {vs : List V} {xs : List α} (e0 : Ext F0 F) (S : Sta Y s σ H F) (r : Vs Y.X.K F vs xs) (q : Q (pu xs) s) : ∀ p, H p = none → Po Y σ F0 Q (.ref p) (upd H p (.lst vs)) := fun p hp => by
  have hF := S.free hp
  exact ⟨pu xs, s, upd F p (.lst vs), e0.trans (Ext.grow hF), ⟨p, vs, rfl, .of upd_same, r.mono (Ext.grow hF)⟩, S.newF hp rfl, q⟩
theorem po_listO {σ : St} {F0 : Hp} {H F : Hp} {vs : List V} {xs : List α} (e0 : Ext F0 F) (S : Sta Y s σ H F) (r : Vs Y.X.K F vs xs) (q : ∀ p, Q (raw (.ref p)) ⟨s.ρ, (p, lstc xs) :: s.gs⟩) : ∀ p, H p = none → Po Y σ F0 Q (.ref p) (upd H p (.lst vs)) := fun p hp =>
  ⟨raw (.ref p), _, F, e0, rfl, S.newO (c := lstc xs) hp rfl ⟨vs, rfl, r⟩, q p⟩
theorem po_tup {σ : St} {F0 : Hp} {H F : Hp} {vs : List V} {A : Pv} (e0 : Ext F0 F) (S : Sta Y s σ H F) (r : ∀ F' p, Ext F F' → F' p = some (.tup vs) → A.rep Y.X.K F' (.ref p)) (q : Q A s) : ∀ p, H p = none → Po Y σ F0 Q (.ref p) (upd H p (.tup vs)) := fun p hp => by
  have hF := S.free hp
  exact ⟨A, s, upd F p (.tup vs), e0.trans (Ext.grow hF), r _ p (Ext.grow hF) upd_same, S.newF hp rfl, q⟩
theorem ev_list (h : Evs Y s es fun As s' => ∃ xs : List α, As = xs.map pu ∧ xs.length ≤ sizeLine ∧ Q (pu xs) s') : Ev Y s (.List es pos) Q := fun F0 σ H F e0 S => by
  refine .of (pe_lst pa_wa) ((h F0 σ H F e0 S).mono fun vs H1 ⟨As, s1, F1, e1, r1, S1, xs, ea, hl, q⟩ => ?_)
  subst ea
  have r := rvs_pu r1
  exact ⟨by rw [r.length]; exact hl, po_list e1 S1 r q⟩
theorem ev_listO (h : Evs Y s es fun As s' => ∃ xs : List α, As = xs.map pu ∧ xs.length ≤ sizeLine ∧ ∀ p, Q (raw (.ref p)) ⟨s'.ρ, (p, lstc xs) :: s'.gs⟩) : Ev Y s (.List es pos) Q := fun F0 σ H F e0 S => by
  refine .of (pe_lst pa_wa) ((h F0 σ H F e0 S).mono fun vs H1 ⟨As, s1, F1, e1, r1, S1, xs, ea, hl, q⟩ => ?_)
  subst ea
  have r := rvs_pu r1
  exact ⟨by rw [r.length]; exact hl, po_listO e1 S1 r q⟩
theorem evp_list {xs : List α} (h : EvsP Y s es (xs.map pu)) (hl : xs.length ≤ sizeLine := by decide) : EvP Y s (.List es pos) (pu xs) := .of (ev_list (.of h ⟨xs, rfl, hl, rfl, rfl⟩))
theorem ev_tup2 (h : Evs Y s es fun As s' => ∃ (x : α) (y : β), As = [pu x, pu y] ∧ Q (pu (x, y)) s') {k : Nat} : Ev Y s (.Tuple es k pos) Q := fun F0 σ H F e0 S => by
  refine .of (pe_tup pa_wa) ((h F0 σ H F e0 S).mono fun vs H1 ⟨As, s1, F1, e1, r1, S1, x, y, ea, q⟩ => ?_)
  subst ea
  obtain ⟨v, w, rfl, rv, rw'⟩ : ∃ v w, vs = [v, w] ∧ (pu x).rep Y.X.K F1 v ∧ (pu y).rep Y.X.K F1 w := by
    cases r1 with
    | cons p q => cases q with
      | cons p' q' => cases q'; exact ⟨_, _, rfl, p, p'⟩
  exact ⟨by show 2 ≤ sizeLine; decide, po_tup (A := pu (x, y)) e1 S1 (fun F' p e' hs => ⟨p, v, w, rfl, hs, Enc.mono rv e', Enc.mono rw' e'⟩) q⟩
theorem ev_tup3 (h : Evs Y s es fun As s' => ∃ (x : α) (y : β) (z : γ), As = [pu x, pu y, pu z] ∧ Q (pu (PySem.W.T3.mk x y z)) s') {k : Nat} : Ev Y s (.Tuple es k pos) Q := fun F0 σ H F e0 S => by
  refine .of (pe_tup pa_wa) ((h F0 σ H F e0 S).mono fun vs H1 ⟨As, s1, F1, e1, r1, S1, x, y, z, ea, q⟩ => ?_)
  subst ea
  obtain ⟨v, w, u, rfl, rv, rw', ru⟩ : ∃ v w u, vs = [v, w, u] ∧ (pu x).rep Y.X.K F1 v ∧ (pu y).rep Y.X.K F1 w ∧ (pu z).rep Y.X.K F1 u := by
    cases r1 with
    | cons p q => cases q with
      | cons p' q' => cases q' with
        | cons p2 q2 => cases q2; exact ⟨_, _, _, rfl, p, p', p2⟩
  exact ⟨by show 3 ≤ sizeLine; decide, po_tup (A := pu (PySem.W.T3.mk x y z)) e1 S1 (fun F' p e' hs => ⟨p, v, w, u, rfl, hs, Enc.mono rv e', Enc.mono rw' e', Enc.mono ru e'⟩) q⟩
theorem evp_B1 {A B : Pv} {x : Str} {p : Pos} {id : String} {r : List V → Hp → VK → Prop} (hc : CallR Y.X (.builtin id) r) (hg : Gl Y.X x) (hm : Y.X.mg x = none) (hv : bootBuiltins x = some (.builtin id)) (ha : EvP Y s a A)
    (h : ∀ F0 σ H F v, Ext F0 F → Sta Y s σ H F → A.rep Y.X.K F v → r [v] H (Pp Y s σ F0 B)) (hn : x ≠ "__name__" := by decide) (hdb : (x == ("__debug__" : Str)) = false := by decide)
    (he : starEach [a] Y.X.env = (false, eval a Y.X.env) :: starEach [] Y.X.env := by rfl) : EvP Y s (.Call (.Name x p) [a] [] pos) B := fun F0 σ H F e0 S => by
  refine .of (pe_callB hc hg hm hv (pa_cons pe_we pa_nil he) hn hdb he (by rfl)) ?_
  refine (ha F0 σ H F e0 S).mono fun v H1 ⟨F1, e1, r1, S1⟩ => ?_
  exact h F0 σ H1 F1 v e1 S1 r1
theorem ev_B1 {x : Str} {p : Pos} {id : String} {r : List V → Hp → VK → Prop} (hc : CallR Y.X (.builtin id) r) (hg : Gl Y.X x) (hm : Y.X.mg x = none) (hv : bootBuiltins x = some (.builtin id))
    (h : Ev Y s a fun A s1 => ∀ F0 σ H F v, Ext F0 F → Sta Y s1 σ H F → A.rep Y.X.K F v → r [v] H (Po Y σ F0 Q)) (hn : x ≠ "__name__" := by decide) (hdb : (x == ("__debug__" : Str)) = false := by decide)
    (he : starEach [a] Y.X.env = (false, eval a Y.X.env) :: starEach [] Y.X.env := by rfl) : Ev Y s (.Call (.Name x p) [a] [] pos) Q := fun F0 σ H F e0 S => by
  refine .of (pe_callB hc hg hm hv (pa_cons pe_we pa_nil he) hn hdb he (by rfl)) ?_
  refine (h F0 σ H F e0 S).mono fun v H1 ⟨A, s1, F1, e1, r1, S1, q⟩ => ?_
  exact q F0 σ H1 F1 v e1 S1 r1
theorem ev_T1 {x : Str} {p : Pos} {T : String} {r : List V → Hp → VK → Prop} (hc : CallR Y.X (.type T) r) (hg : Gl Y.X x) (hm : Y.X.mg x = none) (hv : bootBuiltins x = some (.type T))
    (h : Ev Y s a fun A s1 => ∀ F0 σ H F v, Ext F0 F → Sta Y s1 σ H F → A.rep Y.X.K F v → r [v] H (Po Y σ F0 Q)) (hn : x ≠ "__name__" := by decide) (hdb : (x == ("__debug__" : Str)) = false := by decide)
    (he : starEach [a] Y.X.env = (false, eval a Y.X.env) :: starEach [] Y.X.env := by rfl) : Ev Y s (.Call (.Name x p) [a] [] pos) Q := fun F0 σ H F e0 S => by
  refine .of (pe_callTy hc hg hm hv (pa_cons pe_we pa_nil he) hn hdb he (by rfl)) ?_
  refine (h F0 σ H F e0 S).mono fun v H1 ⟨A, s1, F1, e1, r1, S1, q⟩ => ?_
  exact q F0 σ H1 F1 v e1 S1 r1
structure Bis (mg : Str → Option Value) : Prop where
  no : ∀ x : Str, x ∈ (["len", "range", "sorted", "list", "tuple", "dict", "int", "str", "abs", "min", "max", "sum", "any", "all", "enumerate", "zip", "reversed", "isinstance", "super"] : List Str) → mg x = none
section
variable {p : Pos}
end
theorem atI_of {δ ε : Type} {R : δ → ε → Prop} {l : List δ} {m : List ε} (h : Paired R l m) {i : Int} {y : ε} (k : atI m i = some y) : ∃ x, atI l i = some x ∧ R x y := by
  have hl : l.length = m.length := Paired.length h
  unfold atI at k ⊢
  rw [hl]
  cases q : ixN m.length i with
  | none => rw [q] at k; cases k
  | some j =>
    rw [q] at k
    exact prd_get h k
end
end
end Sp
set_option maxHeartbeats 4000000
namespace Sp
open PySem L2
structure DE where
  nx : DSt → Prop
  rt : Pv → DSt → Prop
  bk : DSt → Prop := fun _ => False
  ct : DSt → Prop := fun _ => False
def Pst (Y : DX) (F0 : Hp) (Q : DSt → Prop) : St → Hp → Prop := fun σ H => ∃ s F, Ext F0 F ∧ Sta Y s σ H F ∧ Q s
def Prt (Y : DX) (F0 : Hp) (Q : Pv → DSt → Prop) : VK := fun v H => ∃ A s σ F, Ext F0 F ∧ A.rep Y.X.K F v ∧ Sta Y s σ H F ∧ Q A s
def DE.to (D : DE) (Y : DX) (F0 : Hp) : Ends := { nx := Pst Y F0 D.nx, rt := Prt Y F0 D.rt, bk := Pst Y F0 D.bk, ct := Pst Y F0 D.ct }
def Ws (Y : DX) (s : DSt) (sts : List Stmt) (D : DE) : Prop := ∀ F0 σ H F, Ext F0 F → Sta Y s σ H F → WS Y.X sts σ H (D.to Y F0)
structure WP (X : Cx) (st : Stmt) (σ : St) (H : Hp) (D : Ends) : Prop where
  run : ∀ (pins : List (Addr × Obj)) (s : Shared), Inv X pins σ H s → wpAny (model X.prog X.w) X.A (exec st X.env) (SP X pins D) X.xe s
def W1 (Y : DX) (s : DSt) (st : Stmt) (D : DE) : Prop := ∀ F0 σ H F, Ext F0 F → Sta Y s σ H F → WP Y.X st σ H (D.to Y F0)
def wxOf (Y : DX) : WX := fun cls d σ H => ∃ e s F, Sta Y s σ H F ∧ ExcRep e cls d H ∧ Y.ex e s
structure YOk (Y : DX) : Prop where
  calm : Y.X.calm = true
  nd : Y.X.N.Nodup
  room : Room Y.k Y.X.A
  pass : PassesOwn (model Y.X.prog Y.X.w) Y.X.A Y.X.env Y.X.xe
  tk : Takes Y.X (wxOf Y)
section
variable {Y : DX} {s : DSt} {e a b c : Expr} {es : List Expr} {pos : Pos} {D D' : DE} {st : Stmt} {sts : List Stmt}
theorem ps_wp {X : Cx} : PS X st (fun D σ H => WP X st σ H D) := ⟨fun pins s _ _ _ I h => h.run pins s I⟩
theorem WP.of {X : Cx} {σ : St} {H : Hp} {t : TS} {D : Ends} (p : PS X st t) (h : t D σ H) : WP X st σ H D := ⟨fun pins s I => p.run pins s σ H D I h⟩
theorem Pst.mono {F0 F1 : Hp} {Q Q' : DSt → Prop} {σ : St} {H : Hp} (h : Pst Y F1 Q σ H) (e : Ext F0 F1) (k : ∀ s, Q s → Q' s) : Pst Y F0 Q' σ H := by
  obtain ⟨s, F, e1, S, q⟩ := h
  exact ⟨s, F, e.trans e1, S, k s q⟩
theorem Prt.mono {F0 F1 : Hp} {Q Q' : Pv → DSt → Prop} {v : V} {H : Hp} (h : Prt Y F1 Q v H) (e : Ext F0 F1) (k : ∀ A s, Q A s → Q' A s) : Prt Y F0 Q' v H := by
  obtain ⟨A, s, σ, F, e1, r, S, q⟩ := h
  exact ⟨A, s, σ, F, e.trans e1, r, S, k A s q⟩
theorem Ws.mono (h : Ws Y s sts D) (k1 : ∀ s, D.nx s → D'.nx s) (k2 : ∀ A s, D.rt A s → D'.rt A s) (k3 : ∀ s, D.bk s → D'.bk s) (k4 : ∀ s, D.ct s → D'.ct s) : Ws Y s sts D' := fun F0 σ H F e0 S =>
  (h F0 σ H F e0 S).mono (fun _ _ q => Pst.mono q (.refl _) k1) (fun _ _ q => Prt.mono q (.refl _) k2) (fun _ _ q => Pst.mono q (.refl _) k3) (fun _ _ q => Pst.mono q (.refl _) k4)
theorem ws_nil (h : D.nx s) : Ws Y s [] D := fun F0 σ H F e0 S => .of pss_nil ⟨s, F, e0, S, h⟩
theorem ws_cons (h : W1 Y s st { D with nx := fun s' => Ws Y s' sts D }) : Ws Y s (st :: sts) D := fun F0 σ H F e0 S => by
  refine .of (pss_cons ps_wp pss_ws) ?_
  have q := h F0 σ H F e0 S
  refine ⟨fun pins s' I => ?_⟩
  refine thn (q.run pins s' I) fun f s1 z => ?_
  cases f with
  | next =>
    obtain ⟨σ', H', J, s2, F2, e2, S2, w⟩ := z
    exact ⟨σ', H', J, w F0 σ' H' F2 e2 S2⟩
  | brk => exact z
  | cont => exact z
  | ret u => exact z
theorem ws_one (h : W1 Y s st D) : Ws Y s [st] D := fun F0 σ H F e0 S => .of (pss_one ps_wp) (h F0 σ H F e0 S)
theorem w1_expr (h : Ev Y s e fun _ s' => D.nx s') (hs : swapsWith e none pos.line Y.X.env = pure false := by rfl) : W1 Y s (.Expr e pos) D := fun F0 σ H F e0 S =>
  .of (ps_expr pe_we hs) ((h F0 σ H F e0 S).mono fun v H' ⟨A, s', F', e1, r, S', q⟩ => ⟨s', F', e1, S', q⟩)
theorem w1_ret (h : Ev Y s e D.rt) : W1 Y s (.Return (some e) pos) D := fun F0 σ H F e0 S =>
  .of (ps_ret pe_we) ((h F0 σ H F e0 S).mono fun v H' ⟨A, s', F', e1, r, S', q⟩ => ⟨A, s', σ, F', e1, r, S', q⟩)
theorem w1_set {x : Str} {p2 : Pos} (i : Nat) (ok : YOk Y) (hi : Y.X.N[i]? = some x) (hx : Loc Y.X.env.scope x) (h : Ev Y s e fun A s' => D.nx ⟨s'.ρ.set i (some A), s'.gs⟩)
    (hs : swapsWith e (some (.Name x p2)) pos.line Y.X.env = pure false := by rfl) (hf : Y.X.fn x = true ∨ Y.X.env.scope.names.lookup x = some .local := by first | exact .inl rfl | exact .inr rfl) : W1 Y s (.Assign [.Name x p2] e pos) D := fun F0 σ H F e0 S =>
  .of (ps_set ok.nd hi hx pe_we hs hf) ((h F0 σ H F e0 S).mono fun v H' ⟨A, s', F', e1, r, S', q⟩ => ⟨_, F', e1, S'.set r i, q⟩)
theorem w1_if {A B : List Stmt} (h : Et Y s c fun t s' => if t = true then Ws Y s' A D else Ws Y s' B D) : W1 Y s (.If c A B pos) D := fun F0 σ H F e0 S => by
  refine .of (ps_if pt_wt pss_ws pss_ws) ((h F0 σ H F e0 S).mono fun t H' ⟨s', F', e1, S', q⟩ => ?_)
  cases t with
  | true => exact q F0 σ H' F' e1 S'
  | false => exact q F0 σ H' F' e1 S'
def Only (ws : List Nat) (σ σ' : St) : Prop := σ'.length = σ.length ∧ ∀ j, j ∉ ws → σ'[j]? = σ[j]?
theorem Only.refl {σ : St} : Only [] σ σ := ⟨rfl, fun _ _ => rfl⟩
theorem Only.set {σ : St} {i : Nat} {o : Option V} : Only [i] σ (σ.set i o) := ⟨List.length_set .., fun j hj => List.getElem?_set_ne (fun e => hj (by simp [e]))⟩
theorem Only.trans {ws vs : List Nat} {σ σ1 σ2 : St} (a : Only ws σ σ1) (b : Only vs σ1 σ2) : Only (ws ++ vs) σ σ2 :=
  ⟨b.1.trans a.1, fun j hj => (b.2 j fun h => hj (List.mem_append_right _ h)).trans (a.2 j fun h => hj (List.mem_append_left _ h))⟩
def TgOk (Y : DX) {β : Type} [Enc β] (tg : Expr) (g : TG) (ws : List Nat) (f : β → Rho → Rho) : Prop :=
  PG Y.X tg g ∧ ∀ (σ : St) (H F : Hp) (v : V) (x : β) (s : DSt) (Q : St → Hp → Prop), Sta Y s σ H F → Enc.rep Y.X.K F v x → (∀ σ', Sta Y ⟨f x s.ρ, s.gs⟩ σ' H F → Only ws σ σ' → Q σ' H) → g v σ H Q
section
variable {α β γ : Type} [Enc α] [Enc β] [Enc γ]
theorem tg_name {x : Str} (nd : Y.X.N.Nodup) (i : Nat) (hi : Y.X.N[i]? = some x) (hx : Loc Y.X.env.scope x) (hf : Y.X.fn x = true ∨ Y.X.env.scope.names.lookup x = some .local := by first | exact .inl rfl | exact .inr rfl) :
    TgOk Y (β := β) (.Name x pos) (gName i) [i] fun v ρ => ρ.set i (some (pu v)) :=
  ⟨pg_name nd hi hx hf, fun σ H F v x s Q S r k => k _ (S.set (A := pu x) r i) .set⟩
theorem tg_pair {t1 t2 : Expr} {g1 g2 : TG} {w1 w2 : List Nat} {f1 : α → Rho → Rho} {f2 : β → Rho → Rho} {k : Nat} (calm : Y.X.calm = true) (h1 : TgOk Y t1 g1 w1 f1) (h2 : TgOk Y t2 g2 w2 f2)
    (hs1 : (assignEach [t1, t2] Y.X.env).map (·.2) = assign t1 Y.X.env :: (assignEach [t2] Y.X.env).map (·.2) := by rfl) (hs2 : (assignEach [t2] Y.X.env).map (·.2) = assign t2 Y.X.env :: (assignEach [] Y.X.env).map (·.2) := by rfl)
    (hn : (assignEach [t1, t2] Y.X.env).length = 2 := by rfl) (hst : (assignEach [t1, t2] Y.X.env).findIdx? (·.1) = none := by rfl) :
    TgOk Y (β := α × β) (.Tuple [t1, t2] k pos) (gTup Y.X.K 2 (gCons g1 (gCons g2 gNil))) (w1 ++ w2) fun v ρ => f2 v.2 (f1 v.1 ρ) :=
  ⟨pg_tup calm (pgs_cons h1.1 (pgs_cons h2.1 pgs_nil hs2) hs1) hn hst, fun σ H F v x s Q S ⟨p, a, b, e, hq, ra, rb⟩ q =>
    ⟨p, [a, b], e, sqT_ext hq S.ext, rfl, a, [b], rfl, h1.2 σ H F a x.1 s _ S ra fun σ1 S1 o1 => ⟨b, [], rfl, h2.2 σ1 H F b x.2 _ _ S1 rb fun σ2 S2 o2 => ⟨rfl, q σ2 S2 (o1.trans o2)⟩⟩⟩⟩
theorem w1_asg {tg : Expr} {g : TG} {ws : List Nat} {f : β → Rho → Rho} (hg : TgOk Y tg g ws f) (h : Ev Y s e fun A s' => ∃ x : β, A = pu x ∧ D.nx ⟨f x s'.ρ, s'.gs⟩) (hs : swapsWithSole [tg] e pos.line Y.X.env = pure false := by rfl) (hw : swappedStores [tg] e Y.X.env = pure none := by rfl)
    (h1 : (assignEach [tg] Y.X.env).map (·.2) = [assign tg Y.X.env] := by rfl) : W1 Y s (.Assign [tg] e pos) D := fun F0 σ H F e0 S =>
  .of (ps_asg pe_we hg.1 hs hw h1) ((h F0 σ H F e0 S).mono fun v H' ⟨A, s', F', e1, r, S', x, ea, q⟩ => by
    subst ea
    exact hg.2 σ H' F' v x s' _ S' r fun σ' S2 _ => ⟨_, F', e1, S2, q⟩)
section
variable {x : Str} {p2 : Pos} (i : Nat) (ok : YOk Y) (hi : Y.X.N[i]? = some x) (hx : Loc Y.X.env.scope x) {n : Int} (hA : s.ρ[i]? = some (some (pu n)))
  (hf : Y.X.fn x = true ∨ Y.X.env.scope.names.lookup x = some .local)
include ok hi hx hA hf
end
def ItOk {β : Type} [Enc β] (K : Frag) (J : It) (F' : Hp) (items : List β) : Prop := ∀ i H2 F2, Ext F' F2 → Ext F2 H2 →
  (∀ x, items[i]? = some x → J.go i H2 ∧ ∀ v H3, J.yld i H2 v H3 → (H3 = H2 ∧ Enc.rep K F2 v x) ∨ ∃ p vs, H2 p = none ∧ H3 = upd H2 p (.tup vs) ∧ v = .ref p ∧ ∀ F3, Ext F2 F3 → F3 p = some (.tup vs) → Enc.rep K F3 v x) ∧ (items.length ≤ i → J.stop i H2)
def EvIt (Y : DX) (s : DSt) (tg iter : Expr) {β : Type} [Enc β] (items : List β) : Prop :=
  ∃ wi, PI Y.X tg iter wi ∧ ∀ F0 σ H F (R : It → Hp → Prop), Ext F0 F → Sta Y s σ H F → (∀ J H' F', Ext F0 F' → Sta Y s σ H' F' → ItOk Y.X.K J F' items → R J H') → wi σ H R
theorem ItOk.yld {J : It} {F' H2 F2 H3 : Hp} {items : List β} {i : Nat} {x : β} {v : V} {s2 : DSt} {σ : St} (h : ItOk Y.X.K J F' items) (e : Ext F' F2) (S : Sta Y s2 σ H2 F2) (hx : items[i]? = some x) (y : J.yld i H2 v H3) :
    ∃ F3, Ext F2 F3 ∧ Sta Y s2 σ H3 F3 ∧ Enc.rep Y.X.K F3 v x := by
  rcases ((h i H2 F2 e S.ext).1 x hx).2 v H3 y with ⟨rfl, r⟩ | ⟨p, vs, hp, rfl, ev, r⟩
  · exact ⟨F2, .refl _, S, r⟩
  · have hF := S.free hp
    exact ⟨_, Ext.grow hF, S.newF hp rfl, r _ (Ext.grow hF) upd_same⟩
theorem it_list {tg iter : Expr} {xs : List α} (h : EvP Y s iter (pu xs)) : EvIt Y s tg iter xs :=
  ⟨_, pi_list pe_we, fun F0 σ H F R e0 S k => (h F0 σ H F e0 S).mono fun v H' ⟨F', e1, ⟨p, vs, ev, hq, rv⟩, S'⟩ =>
    ⟨p, ev, ⟨vs, sqL_ext hq S'.ext⟩, k _ _ F' e1 S' fun i H2 F2 e2 e3 => ⟨fun x hx => by
      have hq2 := sqL_ext (sqL_ext hq e2) e3
      obtain ⟨w, hw, rw'⟩ := prd_get rv hx
      exact ⟨⟨vs, w, hq2, hw⟩, fun v H3 ⟨eh, hv⟩ => .inl ⟨eh, by
        have := hv vs hq2
        rw [hw] at this
        cases this
        exact Enc.mono rw' e2⟩⟩, fun hl => ⟨vs, sqL_ext (sqL_ext hq e2) e3, by rw [rv.length]; exact hl⟩⟩⟩⟩
end
end
end Sp
set_option maxHeartbeats 4000000
namespace Sp
open PySem L2
abbrev DSp := List Pv → Gs → (Pv → Gs → Prop) → (Exc → Gs → Prop) → Prop
structure Stg (K : Frag) (T : Tb) (gs : Gs) (H F : Hp) : Prop where
  ext : Ext F H
  ntb : ∀ a o, F a = some o → isTbl o = false
  own : ∀ p ∈ gs, F p.1 = none ∧ ∃ o, H p.1 = some o ∧ isTT o = false ∧ p.2.rep K F o
  nd : (gs.map (·.1)).Nodup
  tb : TbOk T H
abbrev ads (gs : Gs) : List Addr := gs.map (·.1)
theorem Sta.stg {Y : DX} {s : DSt} {σ : St} {H F : Hp} (S : Sta Y s σ H F) : Stg Y.X.K Y.T s.gs H F := ⟨S.ext, S.ntb, S.own, S.nd, S.tb⟩
def toSp (K : Frag) (T : Tb) (n : Nat) (d : DSp) : Sp := fun vs H Q E => vs.length = n ∧ ∃ As gs F, Rvs K F vs As ∧ Stg K T gs H F ∧
  d As gs (fun A gs' => ∀ v H' F', A.rep K F' v → Stg K T gs' H' F' → Step H F (ads gs) H' F' (ads gs') → Q v H')
    (fun e gs' => ∀ cls dd H' F', ExcRep e cls dd H' → Stg K T gs' H' F' → Step H F (ads gs) H' F' (ads gs') → E cls dd H')
section
variable {K : Frag} {T : Tb} {H0 F0 H F H' F' : Hp} {S0 : List Addr}
theorem Step.call {gs1 gs2 gs1' : Gs} (t : Step H0 F0 S0 H F (ads (gs1 ++ gs2))) (G : Stg K T (gs1 ++ gs2) H F) (c : Step H F (ads gs1) H' F' (ads gs1')) (G1 : Stg K T gs1' H' F') :
    Stg K T (gs1' ++ gs2) H' F' ∧ Step H0 F0 S0 H' F' (ads (gs1' ++ gs2)) := by
  have nd := G.nd
  rw [List.map_append, List.nodup_append] at nd
  have one : ∀ p ∈ gs2, p.1 ∉ ads gs1 := fun p hp hm => nd.2.2 _ hm _ (List.mem_map.mpr ⟨p, hp, rfl⟩) rfl
  have fr2 : ∀ p ∈ gs2, F' p.1 = none ∧ p.1 ∉ ads gs1' := fun p hp => by
    obtain ⟨h1, o, h2, h3, _⟩ := G.own p (List.mem_append_right _ hp)
    have no : ¬ (F' p.1 ≠ none ∨ p.1 ∈ ads gs1') := fun h => by
      rcases c.nw _ h with z | z | z
      · exact z h1
      · exact one p hp z
      · have := z o h2
        rw [h3] at this; cases this
    refine ⟨?_, fun h => no (.inr h)⟩
    cases q : F' p.1 with
    | none => rfl
    | some u => exact absurd (.inl (by rw [q]; simp)) no
  have own0 : ∀ a, a ∈ ads (gs1 ++ gs2) → F a = none := fun a ha => by
    obtain ⟨p, hp, e⟩ := List.mem_map.mp ha
    rw [← e]
    exact (G.own p hp).1
  have ap : ∀ {g g' : Gs}, ads (g ++ g') = ads g ++ ads g' := fun {g g'} => by unfold ads; exact List.map_append
  refine ⟨⟨G1.ext, G1.ntb, fun p hp => ?_, ?_, G1.tb⟩, t.ff.trans c.ff, fun a o h1 h2 h3 => ?_, fun a h => ?_⟩
  · rcases List.mem_append.mp hp with hp | hp
    · exact G1.own p hp
    · obtain ⟨h1, o, h2, h3, h4⟩ := G.own p (List.mem_append_right _ hp)
      exact ⟨(fr2 p hp).1, o, c.fr _ o h2 (isTT_tbl h3) (one p hp), h3, p.2.mono h4 c.ff⟩
  · rw [List.map_append, List.nodup_append]
    refine ⟨G1.nd, nd.2.1, fun a ha b hb e => ?_⟩
    obtain ⟨p, hp, e2⟩ := List.mem_map.mp hb
    exact (fr2 p hp).2 (by rw [e2, ← e]; exact ha)
  · have q := t.fr a o h1 h2 h3
    refine c.fr a o q h2 fun hm => ?_
    have hm2 : a ∈ ads (gs1 ++ gs2) := by rw [ap]; exact List.mem_append_left _ hm
    rcases t.nw a (.inr hm2) with z | z | z
    · obtain ⟨u, hu⟩ := Option.ne_none_iff_exists'.mp z
      have := t.ff a u hu
      rw [own0 a hm2] at this; cases this
    · exact h3 z
    · have := z o h1
      obtain ⟨p9, hp9, e9⟩ := List.mem_map.mp hm2
      obtain ⟨_, o9, g9, k9, _⟩ := G.own p9 hp9
      rw [e9, q] at g9
      cases g9
      rw [k9] at this; cases this
  · have key : F' a ≠ none ∨ a ∈ ads gs1' → F0 a ≠ none ∨ a ∈ S0 ∨ Fre H0 a := fun h => by
      rcases c.nw a h with z | z | z
      · exact t.nw a (.inl z)
      · exact t.nw a (.inr (by rw [ap]; exact List.mem_append_left _ z))
      · exact .inr (t.was z)
    rcases h with h | h
    · exact key (.inl h)
    · rw [ap] at h
      rcases List.mem_append.mp h with h | h
      · exact key (.inr h)
      · exact t.nw a (.inr (by rw [ap]; exact List.mem_append_right _ h))
end
section
variable {Y : DX} {s : DSt} {e a b c : Expr} {es : List Expr} {pos : Pos} {D D' : DE} {st : Stmt} {sts : List Stmt} {Q : Pv → DSt → Prop}
theorem Sta.called {σ : St} {H F H' F' : Hp} {gs1 gs2 gs1' : Gs} (S : Sta Y s σ H F) (hp : s.gs.Perm (gs1 ++ gs2)) (G1 : Stg Y.X.K Y.T gs1' H' F') (c : Step H F (ads gs1) H' F' (ads gs1')) : Sta Y ⟨s.ρ, gs1' ++ gs2⟩ σ H' F' := by
  have S2 := S.perm hp
  obtain ⟨G, t⟩ := Step.call S2.st S2.stg c G1
  exact ⟨G.ext, G.ntb, S.rep.mono c.ff, G.own, G.nd, G.tb, t⟩
theorem sp_call {n : Nat} {d : DSp} {σ : St} {F0 H F : Hp} {vs : List V} {As : List Pv} {gs1 gs2 : Gs} (e0 : Ext F0 F) (S : Sta Y s σ H F) (r : Rvs Y.X.K F vs As) (hn : As.length = n) (hp : s.gs.Perm (gs1 ++ gs2))
    (h : d As gs1 (fun A gs' => Q A ⟨s.ρ, gs' ++ gs2⟩) (fun e gs' => Y.ex e ⟨s.ρ, gs' ++ gs2⟩))
    (mono : ∀ (R R' : Pv → Gs → Prop) (E E' : Exc → Gs → Prop), (∀ A g, R A g → R' A g) → (∀ e g, E e g → E' e g) → d As gs1 R E → d As gs1 R' E') :
    toSp Y.X.K Y.T n d vs H (Po Y σ F0 Q) (L2.WE (wxOf Y) σ) := by
  have G := (S.perm hp).stg
  have nd := G.nd
  rw [List.map_append, List.nodup_append] at nd
  refine ⟨(Paired.length r).trans hn, As, gs1, F, r, ⟨G.ext, G.ntb, fun p hp => G.own p (List.mem_append_left _ hp), nd.1, G.tb⟩, mono _ _ _ _ (fun A g q v H' F' r' G1 c => ?_) (fun e g q cls dd H' F' r' G1 c => ?_) h⟩
  · exact ⟨A, _, F', e0.trans c.ff, r', S.called hp G1 c, q⟩
  · exact ⟨e, _, F', S.called hp G1 c, r', q⟩
def DMono (d : DSp) : Prop := ∀ As gs (R R' : Pv → Gs → Prop) (E E' : Exc → Gs → Prop), (∀ A g, R A g → R' A g) → (∀ e g, E e g → E' e g) → d As gs R E → d As gs R' E'
structure Df (P : Program) (w : World) (K : Frag) (mg : Str → Option Value) (base : Heap) (T : Tb) (k : Nat) (x : Str) (ps : List Str) (d : DSp) : Prop where
  ex : ∃ (f : Addr) (fd : FuncData), FnOk P w K mg base (L2.CX P w) k f fd ps (toSp K T ps.length d) ∧ mg x = some (.ref f) ∧ PySem.W.keepIn K (.ref f) = true ∧ Binds K fd ps []
  mono : DMono d
theorem ev_call {x : Str} {p : Pos} {ps : List Str} {d : DSp} {j : Nat} (G : Df Y.X.prog Y.X.w Y.X.K Y.X.mg Y.X.base Y.T j x ps d) (ok : YOk Y) (hj : j ≤ Y.k) (hg : Gl Y.X x)
    (h : Evs Y s (e :: es) fun As s1 => As.length = ps.length ∧ ∃ gs1 gs2, s1.gs.Perm (gs1 ++ gs2) ∧ d As gs1 (fun A gs' => Q A ⟨s1.ρ, gs' ++ gs2⟩) (fun e gs' => Y.ex e ⟨s1.ρ, gs' ++ gs2⟩))
    (hdb : (x == ("__debug__" : Str)) = false := by decide) (he : starEach (e :: es) Y.X.env = (false, eval e Y.X.env) :: starEach es Y.X.env := by rfl) (hpl : (backTo pos (starEach es Y.X.env)).any (·.1) = false := by rfl) : Ev Y s (.Call (.Name x p) (e :: es) [] pos) Q := fun F0 σ H F e0 S => by
  obtain ⟨⟨f, fd, F1, hm, hk, hb⟩, mono⟩ := G
  refine .of (pe_callS (E := L2.WE (wxOf Y)) F1 (ok.room.mono hj) hg hm hk hb (fun σ => passAt ok.tk σ) pa_wa hdb he hpl) ?_
  refine (h F0 σ H F e0 S).mono fun vs H1 ⟨As, s1, F1, e1, r1, S1, hl, gs1, gs2, hp, q⟩ => ?_
  exact sp_call e1 S1 r1 hl hp q (mono As gs1)
theorem pe_call0S {x : Str} {p : Pos} {k : Nat} {f : Addr} {fd : FuncData} {ps : List Str} {sp : Sp} {E : St → XK} {X : Cx} (F : FnOk X.prog X.w X.K X.mg X.base (L2.CX X.prog X.w) k f fd ps sp) (hr : Room k X.A) (hg : Gl X x) (hm : X.mg x = some (.ref f)) (hk : PySem.W.keepIn X.K (.ref f) = true) (hb : Binds X.K fd ps [])
    (hx : ∀ σ, PassesAt (L2.CX X.prog X.w) X σ (E σ)) (hdb : (x == ("__debug__" : Str)) = false := by decide) : PE X (.Call (.Name x p) [] [] pos) (tCallS sp E tNil) := by
  refine ⟨fun pins s σ H Q I h => ?_⟩
  refine wpAny_Call_Name_kw (ld_glob I hg hm ?_ hdb)
  exact PySem.W.callWith_K0 I.kIn hk (run_fnS (us := []) (vs := []) F hr hb (hx σ) I .nil h)
theorem ev_call0 {x : Str} {p : Pos} {ps : List Str} {d : DSp} {j : Nat} (G : Df Y.X.prog Y.X.w Y.X.K Y.X.mg Y.X.base Y.T j x ps d) (ok : YOk Y) (hj : j ≤ Y.k) (hg : Gl Y.X x)
    (h : ps.length = 0 ∧ ∃ gs1 gs2, s.gs.Perm (gs1 ++ gs2) ∧ d [] gs1 (fun A gs' => Q A ⟨s.ρ, gs' ++ gs2⟩) (fun e gs' => Y.ex e ⟨s.ρ, gs' ++ gs2⟩))
    (hdb : (x == ("__debug__" : Str)) = false := by decide) : Ev Y s (.Call (.Name x p) [] [] pos) Q := fun F0 σ H F e0 S => by
  obtain ⟨⟨f, fd, F1, hm, hk, hb⟩, mono⟩ := G
  obtain ⟨hl, gs1, gs2, hp, q⟩ := h
  refine .of (pe_call0S (E := L2.WE (wxOf Y)) F1 (ok.room.mono hj) hg hm hk hb (fun σ => passAt ok.tk σ) hdb) ?_
  exact sp_call e0 S .nil hl.symm hp q (mono [] gs1)
structure ErrC (K : Frag) (mg : Str → Option Value) (x : Str) (C : Addr) : Prop where
  g : mg x = some (.ref C)
  xi : PySem.W.excIn K C [.type "ValueError", .type "Exception", .type "BaseException", .type "object"] "ValueError.__new__" = true
  kp : PySem.W.keepIn K (.ref C) = true
  sb : PySem.W.subIn K (.ref C) (.type "BaseException") = some true
  ty : PySem.W.typeIn K (.ref C) = some (.type "type")
theorem w1_raise {x m : Str} {C : Addr} {j : Nat} {p p2 p3 : Pos} (ok : YOk Y) (T : ErrC Y.X.K Y.X.mg x C) (hg : Gl Y.X x) (h : Y.ex ⟨C, none⟩ s) (hdb : (x == ("__debug__" : Str)) = false := by decide) :
    W1 Y s (.Raise (some (.Call (.Name x p) [.Constant (.str m) j p2] [] p3)) none pos) D := fun F0 σ H F e0 S =>
  .of (ps_raise ok.calm ok.tk (pmk_own PySem.F.excBase_ValueError T.xi T.g T.kp (raises_own T.sb T.ty) hg hdb)) ⟨⟨C, none⟩, s, F, S, ⟨rfl, rfl⟩, h⟩
theorem Stg.drop {K : Frag} {T : Tb} {gs : Gs} {H F : Hp} (G : Stg K T gs H F) (n : Nat) : Stg K T (gs.drop n) H F :=
  ⟨G.ext, G.ntb, fun p hp => G.own p (List.mem_of_mem_drop hp), G.nd.sublist ((List.drop_sublist n gs).map _), G.tb⟩
theorem Step.sub {H0 F0 H F : Hp} {S0 S S' : List Addr} (t : Step H0 F0 S0 H F S) (h : ∀ a ∈ S', a ∈ S) : Step H0 F0 S0 H F S' :=
  ⟨t.ff, t.fr, fun a q => t.nw a (q.imp id (h a))⟩
theorem ads_drop {gs : Gs} (n : Nat) : ∀ a ∈ ads (gs.drop n), a ∈ ads gs := fun a h => by
  obtain ⟨p, hp, e⟩ := List.mem_map.mp h
  exact List.mem_map.mpr ⟨p, List.mem_of_mem_drop hp, e⟩
abbrev bodyY (P : Program) (w : World) (K : Frag) (mg : Str → Option Value) (base : Heap) (T : Tb) (k : Nat) (N : List Str) (qual : Str) (scope : Scope) (f : Addr) (cdv : Value) (A : Around) (outer : List Env) (s : Shared) (H F : Hp) (gs : Gs) (E : XK) (ex : Exc → DSt → Prop) : DX :=
  ⟨cxOf (L2.CX P w) P w K mg base N qual scope f cdv A outer s H E, T, k, H, F, ads gs, ex⟩
theorem reps_start {K : Frag} {F : Hp} {vs : List V} {As : List Pv} (h : Rvs K F vs As) (n : Nat) : RepS K F (vs.map some ++ List.replicate n none) (As.map some ++ List.replicate n none) := by
  induction h with
  | nil =>
    induction n with
    | zero => exact .nil
    | succ n ih => exact .un ih
  | cons r _ ih => exact .ha r ih
end
end Sp
set_option maxHeartbeats 4000000
namespace Sp
open PySem L2
structure BCx where
  s : Shared
  H : Hp
  C : Addr
  cl : List (Str × Addr)
  fp : List Addr
abbrev blkX (X : Cx) (scope : Scope) (z : BCx) : Cx := X.blk z.s z.H scope (compEnvC scope z.cl z.C X.env) z.fp
abbrev blkY (Y : DX) (scope : Scope) (z : BCx) : DX := ⟨blkX Y.X scope z, Y.T, Y.k, Y.H0, Y.F0, Y.S0, fun _ _ => False⟩
theorem Sta.blk {Y : DX} {scope : Scope} {z : BCx} {s : DSt} {σ : St} {H F : Hp} (S : Sta Y s σ H F) : Sta (blkY Y scope z) s σ H F := ⟨S.ext, S.ntb, S.rep, S.own, S.nd, S.tb, S.st⟩
theorem Sta.unblk {Y : DX} {scope : Scope} {z : BCx} {s : DSt} {σ : St} {H F : Hp} (S : Sta (blkY Y scope z) s σ H F) : Sta Y s σ H F := ⟨S.ext, S.ntb, S.rep, S.own, S.nd, S.tb, S.st⟩
theorem YOk.blk {Y : DX} {scope : Scope} {z : BCx} (ok : YOk Y) : YOk (blkY Y scope z) :=
  ⟨ok.calm, ok.nd, ok.room, PassesOwn.never, fun _ _ ⟨_, _, _, _, _, _, _, _, _, _, _, _, _, _, _, _, _, _, _, _, _, q⟩ => q.elim⟩
def wipeR (ρ : Rho) : List Nat → Rho
  | [] => ρ
  | v :: vs => (wipeR ρ vs).set v none
theorem RepS.wipe {K : Frag} {F : Hp} {σ : St} {ρ : Rho} (h : RepS K F σ ρ) : ∀ vs : List Nat, RepS K F (wipe σ vs) (wipeR ρ vs)
  | [] => h
  | v :: vs => (RepS.wipe h vs).forget v
theorem Sta.wipe {Y : DX} {s : DSt} {σ : St} {H F : Hp} (S : Sta Y s σ H F) (vs : List Nat) : Sta Y ⟨wipeR s.ρ vs, s.gs⟩ (L2.wipe σ vs) H F := ⟨S.ext, S.ntb, S.rep.wipe vs, S.own, S.nd, S.tb, S.st⟩
theorem Sta.names {Y : DX} {s s' : DSt} {σ σ' : St} {H F F0 H' : Hp} (S : Sta Y s σ H F0) (S' : Sta Y s' σ' H' F) (e : Ext F0 F) : Sta Y ⟨s.ρ, s'.gs⟩ σ H' F := ⟨S'.ext, S'.ntb, S.rep.mono e, S'.own, S'.nd, S'.tb, S'.st⟩
theorem wipe_at {σ : St} {j : Nat} : ∀ {vs : List Nat}, (L2.wipe σ vs)[j]? = if j ∈ vs ∧ j < σ.length then some none else σ[j]?
  | [] => by simp [L2.wipe]
  | v :: vs => by
    unfold L2.wipe
    by_cases h : v = j
    · subst h
      by_cases hl : v < σ.length
      · rw [List.getElem?_set_self (by rw [wipe_length]; exact hl), if_pos ⟨List.mem_cons_self, hl⟩]
      · rw [if_neg (fun q => hl q.2), List.getElem?_eq_none (by rw [List.length_set, wipe_length]; omega), List.getElem?_eq_none (by omega)]
    · rw [List.getElem?_set_ne h, wipe_at]
      have : (j ∈ v :: vs) ↔ j ∈ vs := by
        rw [List.mem_cons]
        exact ⟨fun q => q.resolve_left fun e => h e.symm, .inr⟩
      simp only [this]
theorem wipe_only {σ σ2 : St} {ws vs : List Nat} (o : Only ws (L2.wipe σ vs) σ2) (hw : ∀ j ∈ ws, j ∈ vs) : L2.wipe σ2 vs = L2.wipe σ vs := by
  have hl : σ2.length = σ.length := by rw [o.1, wipe_length]
  apply List.ext_getElem?
  intro j
  rw [wipe_at, wipe_at, hl]
  by_cases h : j ∈ vs ∧ j < σ.length
  · rw [if_pos h, if_pos h]
  · rw [if_neg h, if_neg h]
    by_cases hj : j ∈ vs
    · have : ¬ j < σ.length := fun q => h ⟨hj, q⟩
      rw [List.getElem?_eq_none (by omega), List.getElem?_eq_none (by omega)]
    · rw [o.2 j (fun q => hj (hw j q)), wipe_at, if_neg h]
structure WTs (X : Cx) (ifs : List Expr) (σ : St) (H : Hp) (Q : Bool → Hp → Prop) : Prop where
  run : ∀ (pins : List (Addr × Obj)) (s : Shared), Inv X pins σ H s →
  wpAny (model X.prog X.w) X.A (forIn ifs true fun c r => if r = true then do let ok ← isTrue c X.env (eval c X.env); pure (ForInStep.yield ok) else pure (ForInStep.yield r)) (TP X pins σ Q) X.xe s
theorem WTs.of {X : Cx} {ifs : List Expr} {t : TT} {σ : St} {H : Hp} {Q : Bool → Hp → Prop} (p : PTs X ifs t) (h : t σ H Q) : WTs X ifs σ H Q := ⟨fun pins s I => p.run pins s σ H Q I h⟩
theorem WTs.mono {X : Cx} {ifs : List Expr} {σ : St} {H : Hp} {Q Q' : Bool → Hp → Prop} (h : WTs X ifs σ H Q) (k : ∀ b H', Q b H' → Q' b H') : WTs X ifs σ H Q' :=
  ⟨fun pins s I => thn (h.run pins s I) fun b _ ⟨H', J, q⟩ => ⟨H', J, k b H' q⟩⟩
def Ets (Y : DX) (s : DSt) (ifs : List Expr) (Q : Bool → DSt → Prop) : Prop := ∀ F0 σ H F, Ext F0 F → Sta Y s σ H F → WTs Y.X ifs σ H (Pt Y σ F0 Q)
theorem ets_nil {Y : DX} {s : DSt} {Q : Bool → DSt → Prop} (h : Q true s) : Ets Y s [] Q := fun F0 σ H F e0 S => .of pts_nil ⟨s, F, e0, S, h⟩
theorem ets_one {Y : DX} {s : DSt} {c : Expr} {Q : Bool → DSt → Prop} (h : Et Y s c Q) : Ets Y s [c] Q := fun F0 σ H F e0 S => .of (pts_one pt_wt) (h F0 σ H F e0 S)
section
variable {Y : DX} {s : DSt} {elt tg iter : Expr} {ifs : List Expr} {scope : Scope} {own : List (Str × Nat)} {pos : Pos} {Q : Pv → DSt → Prop}
variable {α β : Type} [Enc α] [Enc β]
structure LcTurns (Y : DX) (s : DSt) (scope : Scope) (vs : List Nat) (tg elt : Expr) (ifs : List Expr) (g : TG) (ws : List Nat) (f : β → Rho → Rho) (items : List β) (Iv : Nat → List α → Gs → Prop) : Prop where
  tg : ∀ z, TgOk (blkY Y scope z) tg g ws f
  sub : ∀ j ∈ ws, j ∈ vs
  small : ∀ i ys gs, Iv i ys gs → i < items.length → ys.length < sizeLine
  step : ∀ z i x ys gs D, items[i]? = some x → Iv i ys gs → Ets (blkY Y scope z) ⟨f x (wipeR s.ρ vs), (D, lstc ys) :: gs⟩ ifs fun b s2 =>
    if b = true then ∀ z', Ev (blkY Y scope z') s2 elt fun A s3 => ∃ y gs3, A = pu y ∧ s3.gs = (D, lstc ys) :: gs3 ∧ Iv (i + 1) (ys ++ [y]) gs3 else ∃ gs2, s2.gs = (D, lstc ys) :: gs2 ∧ Iv (i + 1) ys gs2
theorem tlc_ok {g : TG} {ws : List Nat} {f : β → Rho → Rho} {items : List β} {Iv : Nat → List α → Gs → Prop} {wi : TI} {F0 : Hp} {σ : St} {H : Hp} {Qf : VK}
    (hw : ∀ (R : It → Hp → Prop), (∀ J H' F', Ext F0 F' → Sta Y s σ H' F' → ItOk Y.X.K J F' items → R J H') → wi σ H R) (L : LcTurns Y s scope (own.map (·.2)) tg elt ifs g ws f items Iv) (h0 : Iv 0 [] s.gs)
    (hQ : ∀ D H' F' ys gs, Ext F0 F' → Sta Y ⟨s.ρ, (D, lstc ys) :: gs⟩ σ H' F' → Iv items.length ys gs → Qf (.ref D) H') :
    tLc wi g (fun σ H Q => ∀ z, WTs (blkX Y.X scope z) ifs σ H Q) (fun σ H Q => ∀ z, WE (blkX Y.X scope z) elt σ H Q) (own.map (·.2)) σ H Qf := by
  refine hw _ fun J H1 F1 e1 S1 K1 => ?_
  intro D hD
  have S1' := S1.newO (o := .lst []) (c := lstc ([] : List α)) hD rfl ⟨[], rfl, .nil⟩
  refine ⟨fun i m H => m = items.length - i ∧ i ≤ items.length ∧ ∃ ys gs F2, Ext F1 F2 ∧ Sta Y ⟨s.ρ, (D, lstc ys) :: gs⟩ σ H F2 ∧ Iv i ys gs, ⟨items.length, rfl, Nat.zero_le _, [], s.gs, F1, .refl _, S1', h0⟩, ?_⟩
  rintro i m H2 ⟨rfl, hi, ys, gs, F2, e2, S2, iv⟩
  by_cases hlt : i < items.length
  · have hx : items[i]? = some items[i] := List.getElem?_eq_getElem hlt
    refine .inr ⟨((K1 i H2 F2 e2 S2.ext).1 _ hx).1, fun H' => ∃ ys' gs' F3, Ext F1 F3 ∧ Sta Y ⟨s.ρ, (D, lstc ys') :: gs'⟩ σ H' F3 ∧ Iv (i + 1) ys' gs', fun H' ⟨ys', gs', F3, e3, S3, iv3⟩ => ⟨items.length - (i + 1), by omega, rfl, hlt, ys', gs', F3, e3, S3, iv3⟩, fun v H3 y => ?_⟩
    obtain ⟨F3, e3, S3, r3⟩ := K1.yld e2 S2 hx y
    have e13 := e2.trans e3
    let z0 : BCx := ⟨Y.X.s_0, H, 0, [], []⟩
    refine (L.tg z0).2 (L2.wipe σ (own.map (·.2))) H3 F3 v _ ⟨wipeR s.ρ (own.map (·.2)), (D, lstc ys) :: gs⟩ _ (S3.wipe _).blk r3 fun σ4 S4 o4 => ?_
    refine ⟨wipe_only o4 L.sub, ?_⟩
    have S4' := S4.unblk
    intro z
    have st := L.step z i _ ys gs D hx iv F3 σ4 H3 F3 (.refl _) S4'.blk
    refine st.mono fun b H4 ⟨s5, F5, e5, S5, q⟩ => ?_
    cases b with
    | false =>
      obtain ⟨gs2, eg, iv5⟩ := q
      refine ⟨ys, gs2, F5, e13.trans e5, ?_, iv5⟩
      have := S3.names S5.unblk e5
      rw [eg] at this
      exact this
    | true =>
      intro z'
      refine (q z' F5 σ4 H4 F5 (.refl _) S5.unblk.blk).mono fun w H6 ⟨A, s6, F6, e6, r6, S6, y, gs3, ea, eg, iv6⟩ => ?_
      subst ea
      have S7 := S3.names S6.unblk (e5.trans e6)
      rw [eg] at S7
      obtain ⟨hF, o, ho, hot, vs, ev, rv⟩ := S7.cell (i := 0) (p := D) (c := lstc ys) rfl
      subst ev
      refine ⟨vs, ho, by rw [rv.length]; exact L.small i ys gs iv hlt, ys ++ [y], gs3, F6, (e13.trans e5).trans e6, ?_, iv6⟩
      exact S7.write (i := 0) (c' := lstc (ys ++ [y])) (o' := .lst (vs ++ [w])) rfl ho (fun φ => by intro z; cases z) rfl ⟨_, rfl, rv.snoc r6⟩
  · have e : i = items.length := by omega
    subst e
    exact .inl ⟨(K1 _ H2 F2 e2 S2.ext).2 (Nat.le_refl _), hQ D H2 F2 ys gs (e1.trans e2) S2 iv⟩
theorem ev_lc {g : TG} {ws : List Nat} {f : β → Rho → Rho} {items : List β} (ok : YOk Y) (hi : EvIt Y s tg iter items) (bk : BlkOk Y.X.N Y.X.env.scope scope own) (Iv : Nat → List α → Gs → Prop) (L : LcTurns Y s scope (own.map (·.2)) tg elt ifs g ws f items Iv) (h0 : Iv 0 [] s.gs)
    (hQ : ∀ ys gs, Iv items.length ys gs → Q (pu ys) ⟨s.ρ, gs⟩) (hs : ∀ x, foldedSetIterable iter Y.X.env x = pure x := by intro _; rfl) : Ev Y s (.ListComp elt [⟨tg, iter, ifs, 0⟩] scope pos) Q := fun F0 σ H F e0 S => by
  obtain ⟨wi, hp, hw⟩ := hi
  have P := pe_lc (pos := pos) (tt := fun σ H Q => ∀ z, WTs (blkX Y.X scope z) ifs σ H Q) (te := fun σ H Q => ∀ z, WE (blkX Y.X scope z) elt σ H Q) ok.calm ok.nd hp bk (fun s H C cl fp => (L.tg ⟨s, H, C, cl, fp⟩).1) (fun s H C cl fp => ⟨fun pins s' σ H' Q I h => (h ⟨s, H, C, cl, fp⟩).run pins s' I⟩) (fun s H C cl fp => ⟨fun pins s' σ H' Q I h => (h ⟨s, H, C, cl, fp⟩).run pins s' I⟩) hs
  refine .of P (tlc_ok (fun R k => hw F0 σ H F R e0 S k) L h0 fun D H' F' ys gs e1 S1 iv => ?_)
  obtain ⟨hF, o, ho, hot, vs, ev, rv⟩ := S1.cell (i := 0) (p := D) (c := lstc ys) rfl
  subst ev
  have S2 := S1.freeze (i := 0) (p := D) (c := lstc ys) rfl ho
  exact ⟨pu ys, ⟨s.ρ, gs⟩, upd F' D (.lst vs), e1.trans (Ext.grow hF), ⟨D, vs, rfl, .of upd_same, rv.mono (Ext.grow hF)⟩, S2, hQ ys gs iv⟩
theorem lc_quiet {vs : List Nat} {g : TG} {ws : List Nat} {f : β → Rho → Rho} {items : List β} (c : β → Bool) (h : β → α) (tg0 : ∀ z, TgOk (blkY Y scope z) tg g ws f) (sub : ∀ j ∈ ws, j ∈ vs) (small : items.length ≤ sizeLine)
    (ht : ∀ z x D ys, x ∈ items → Ets (blkY Y scope z) ⟨f x (wipeR s.ρ vs), (D, lstc (α := α) ys) :: s.gs⟩ ifs fun b s2 => b = c x ∧ s2 = ⟨f x (wipeR s.ρ vs), (D, lstc ys) :: s.gs⟩)
    (he : ∀ z x D ys, x ∈ items → c x = true → EvP (blkY Y scope z) ⟨f x (wipeR s.ρ vs), (D, lstc (α := α) ys) :: s.gs⟩ elt (pu (h x))) :
    LcTurns Y s scope vs tg elt ifs g ws f items (fun i ys gs => ys = ((items.take i).filter c).map h ∧ gs = s.gs) where
  tg := tg0
  sub := sub
  small := fun i ys gs ⟨e, _⟩ hi => by
    subst e
    rw [List.length_map]
    have h1 := List.length_filter_le c (items.take i)
    rw [List.length_take] at h1
    omega
  step := fun z i x ys gs D hx ⟨e1, e2⟩ => by
    subst e2
    have hm := List.mem_of_getElem? hx
    have et : (items.take (i + 1)) = items.take i ++ [x] := by rw [List.take_add_one, hx, Option.toList_some]
    intro F0 σ H F e0 S
    refine (ht z x D ys hm F0 σ H F e0 S).mono fun b H' ⟨s2, F2, e3, S2, q1, q2⟩ => ⟨s2, F2, e3, S2, ?_⟩
    subst q1 q2
    cases hc : c x with
    | false => exact ⟨s.gs, rfl, by rw [e1, et, List.filter_append, List.filter_cons_of_neg (by simp [hc]), List.filter_nil, List.append_nil], rfl⟩
    | true => exact fun z' => .of (he z' x D ys hm hc) ⟨h x, s.gs, rfl, rfl, by rw [e1, et, List.filter_append, List.filter_cons_of_pos hc, List.filter_nil, List.map_append]; rfl, rfl⟩
end
end Sp
set_option maxHeartbeats 4000000
namespace Sp
open PySem L2
open PySem.W (Datum DatumOrd SomeDatum)
section
variable {Y : DX} {s : DSt} {e a b c d : Expr} {es : List Expr} {pos : Pos} {Q : Pv → DSt → Prop}
def DA (Y : DX) (s : DSt) {α : Type} [Enc α] (A : Pv) (x : α) : Prop := ∀ σ H F v, Sta Y s σ H F → A.rep Y.X.K F v → Enc.rep Y.X.K H v x
theorem DA.pu {α : Type} [Enc α] {x : α} : DA Y s (pu x) x := fun σ H F v S r => Enc.mono (α := α) r S.ext
theorem DA.own {α : Type} [Enc α] {xs : List α} {p : Addr} (i : Nat) (h : s.gs[i]? = some (p, lstc xs)) : DA Y s (raw (.ref p)) xs := fun σ H F v S r => by
  obtain ⟨_, o, ho, _, vs, eo, rv⟩ := S.cell h
  subst eo
  exact ⟨p, vs, r, .of ho, rv.mono S.ext⟩
def DD (Y : DX) (s : DSt) {κ ν : Type} [Kk κ] [Enc ν] (A : Pv) (d : List (κ × ν)) : Prop := ∀ σ H F v, Sta Y s σ H F → A.rep Y.X.K F v → ∃ p kvs, v = .ref p ∧ Rd H p (.dK kvs) ∧ KVs Y.X.K H kvs d
theorem DD.pu {κ ν : Type} [Kk κ] [Enc ν] {d : Dct κ ν} : DD Y s (pu d) d.kvs := fun σ H F v S ⟨p, od, kvs, e, hp, r⟩ => ⟨p, kvs, e, .inr ⟨od, S.ext _ _ hp⟩, r.mono S.ext⟩
theorem DD.own {κ ν : Type} [Kk κ] [Enc ν] {d : List (κ × ν)} {p : Addr} (i : Nat) (h : s.gs[i]? = some (p, dctc d)) : DD Y s (raw (.ref p)) d := fun σ H F v S r => by
  obtain ⟨_, o, ho, _, vs, eo, rv⟩ := S.cell h
  subst eo
  exact ⟨p, vs, r, .inl ho, rv.mono S.ext⟩
structure WC (X : Cx) (op : CmpOp) (a b : Expr) (σ : St) (H : Hp) (Q : VK) : Prop where
  run : ∀ (pins : List (Addr × Obj)) (s : Shared), Inv X pins σ H s →
  wpAny (model X.prog X.w) X.A (eval a X.env) (fun v s₁ => wpAny (model X.prog X.w) X.A (eval b X.env) (fun u s₂ => wpAny (model X.prog X.w) X.A (compareOp op v u) (EP X pins σ Q) X.xe s₂) X.xe s₁) X.xe s
theorem pc_wc {X : Cx} {op : CmpOp} : PC X op a b (WC X op a b) := ⟨fun pins s _ _ _ I h => h.run pins s I⟩
theorem WC.of {X : Cx} {op : CmpOp} {t : TE} {σ : St} {H : Hp} {Q : VK} (p : PC X op a b t) (h : t σ H Q) : WC X op a b σ H Q := ⟨fun pins s I => p.run pins s σ H Q I h⟩
theorem pc_opr {X : Cx} {op : CmpOp} {r : R2} {ta tb : TE} (ho : OpR X (compareOp op) r) (ha : PE X a ta) (hb : PE X b tb) : PC X op a b (tOp r ta tb) := by
  refine ⟨fun pins s σ H Q I h => ?_⟩
  exact thn (ha.run pins s σ H _ I h) fun v s1 ⟨x, H1, I1, r1, q1⟩ => thn (hb.run pins s1 σ H1 _ I1 q1) fun u s2 ⟨y, H2, I2, r2, q2⟩ => ho pins s2 σ H2 x y v u Q I2 r1 r2 q2
def Cmp (Y : DX) (s : DSt) (op : CmpOp) (a b : Expr) (Q : Bool → DSt → Prop) : Prop :=
  ∀ F0 σ H F, Ext F0 F → Sta Y s σ H F → WC Y.X op a b σ H fun v H' => ∃ c s' F', v = .bl c ∧ Ext F0 F' ∧ Sta Y s' σ H' F' ∧ Q c s'
abbrev CmpP (Y : DX) (s : DSt) (op : CmpOp) (a b : Expr) (c : Bool) : Prop := Cmp Y s op a b fun c' s' => c' = c ∧ s' = s
theorem cmp_of {op : CmpOp} {r : R2} {Q : Bool → DSt → Prop} (ho : OpR Y.X (compareOp op) r)
    (h : Ev Y s a fun A s1 => Ev Y s1 b fun B s2 => ∃ c : Bool, Q c s2 ∧ ∀ σ H F v u (Q' : VK), Sta Y s2 σ H F → A.rep Y.X.K F v → B.rep Y.X.K F u → Q' (.bl c) H → r v u H Q') : Cmp Y s op a b Q := fun F0 σ H F e0 S => by
  refine .of (pc_opr ho pe_we pe_we) ?_
  refine (h F σ H F (.refl _) S).mono fun v H1 ⟨A, s1, F1, e1, r1, S1, q1⟩ => ?_
  refine (q1 F1 σ H1 F1 (.refl _) S1).mono fun u H2 ⟨B, s2, F2, e2, r2, S2, c, qc, q2⟩ => ?_
  exact q2 σ H2 F2 v u _ S2 (A.mono r1 e2) r2 ⟨c, s2, F2, rfl, (e0.trans e1).trans e2, S2, qc⟩
theorem cmpp_of {op : CmpOp} {r : R2} {A B : Pv} {c : Bool} (ho : OpR Y.X (compareOp op) r) (ha : EvP Y s a A) (hb : EvP Y s b B)
    (h : ∀ σ H F v u (Q' : VK), Sta Y s σ H F → A.rep Y.X.K F v → B.rep Y.X.K F u → Q' (.bl c) H → r v u H Q') : CmpP Y s op a b c :=
  cmp_of ho (.of ha (.of hb ⟨c, ⟨rfl, rfl⟩, h⟩))
theorem ev_cmp {op : CmpOp} (h : Cmp Y s op a b fun c s' => Q (pu c) s') (h1 : behindInMarks op b = false := by first | exact nobehind _ (by decide) (by decide) | rfl) : Ev Y s (.Compare a [op] [b] pos) Q := fun F0 σ H F e0 S => by
  refine .of (pe_cmp pc_wc h1) ?_
  refine WC.mk fun pins s1 I => ?_
  refine thn ((h F0 σ H F e0 S).run pins s1 I) fun v s2 k => thn k fun u s3 k2 => thn k2 fun w s4 ⟨x, H', J, r, c, s', F', ex, e1, S', q⟩ => ?_
  subst ex
  exact ⟨_, H', J, r, pu c, s', F', e1, rfl, S', q⟩
theorem et_cmp {op : CmpOp} {Q : Bool → DSt → Prop} (h : Cmp Y s op a b Q) (h1 : behindInMarks op b = false := by first | exact nobehind _ (by decide) (by decide) | rfl) : Et Y s (.Compare a [op] [b] pos) Q := fun F0 σ H F e0 S => by
  refine .of (pt_cmp pc_wc h1) ?_
  refine WC.mk fun pins s1 I => ?_
  refine thn ((h F0 σ H F e0 S).run pins s1 I) fun v s2 k => thn k fun u s3 k2 => thn k2 fun w s4 ⟨x, H', J, r, c, s', F', ex, e1, S', q⟩ => ?_
  exact ⟨x, H', J, r, c, ex, s', F', e1, S', q⟩
theorem evp_cmp {op : CmpOp} {x : Bool} (h : CmpP Y s op a b x) (h1 : behindInMarks op b = false := by first | exact nobehind _ (by decide) (by decide) | rfl) : EvP Y s (.Compare a [op] [b] pos) (pu x) :=
  .of (ev_cmp (fun F0 σ H F e0 S => by
    refine WC.mk fun pins s1 I => ?_
    exact thn ((h F0 σ H F e0 S).run pins s1 I) fun v s2 k => thn k fun u s3 k2 => thn k2 fun w s4 ⟨x, H', J, r, c, s', F', ex, e1, S', q1, q2⟩ => by
      subst q1 q2
      exact ⟨x, H', J, r, _, _, F', ex, e1, S', rfl, rfl⟩) h1)
theorem etp_cmp {op : CmpOp} {x : Bool} (h : CmpP Y s op a b x) (h1 : behindInMarks op b = false := by first | exact nobehind _ (by decide) (by decide) | rfl) : EtP Y s (.Compare a [op] [b] pos) x := .of (et_cmp h h1)
theorem Cmp.mono {op : CmpOp} {Q Q' : Bool → DSt → Prop} (h : Cmp Y s op a b Q) (k : ∀ c s', Q c s' → Q' c s') : Cmp Y s op a b Q' := fun F0 σ H F e0 S => ⟨fun pins s1 I =>
  thn ((h F0 σ H F e0 S).run pins s1 I) fun v s2 z => thn z fun u s3 z2 => thn z2 fun w s4 ⟨x, H', J, r, c, s', F', ex, e1, S', q⟩ => ⟨x, H', J, r, c, s', F', ex, e1, S', k _ _ q⟩⟩
section
variable {α β : Type} [DecidableEq α] [Enc α] {A B : Pv} {x y : α}
section
variable [Datum α] [Dat α]
theorem cmp_eq (ok : YOk Y) (ha : EvP Y s a A) (hA : DA Y s A x) (hb : EvP Y s b B) (hB : DA Y s B y) (hd : Datum.depth α ≤ 60 := by decide) : CmpP Y s .Eq a b (decide (x = y)) :=
  cmpp_of (op_eqT (α := α) ok.room.units hd) ha hb fun σ H F v u Q S r1 r2 q => ⟨x, y, hA σ H F v S r1, hB σ H F u S r2, q⟩
end
section
variable [DatumOrd α] [Dat α]
end
end
section
variable {i j : Int}
theorem cmp_gt (ha : EvP Y s a (pu i)) (hb : EvP Y s b (pu j)) : CmpP Y s .Gt a b (decide (j < i)) := cmpp_of op_gt ha hb fun σ H F v u Q S r1 r2 q => ⟨i, j, r1, r2, q⟩
theorem cmp_ge (ha : EvP Y s a (pu i)) (hb : EvP Y s b (pu j)) : CmpP Y s .GtE a b (decide (j ≤ i)) := cmpp_of op_ge ha hb fun σ H F v u Q S r1 r2 q => ⟨i, j, r1, r2, q⟩
end
def tin (x y : List Nat) : Bool := !(Builtin.Str.occurrences (toStr y) (toStr x) 0 y.length 1).isEmpty
class NoN (α : Type) [Enc α] : Prop where
  no : ∀ {K F} {v : V} {x : α}, Enc.rep K F v x → v ≠ .non
instance : NoN Int := ⟨fun h e => by rw [e] at h; cases h⟩
instance : NoN Bool := ⟨fun h e => by rw [e] at h; cases h⟩
instance : NoN (List Nat) := ⟨fun h e => by rw [e] at h; cases h⟩
section
variable {α β γ δ : Type} [Enc α] [Enc β] [Enc γ] [Enc δ]
instance : NoN (List α) := ⟨fun ⟨_, _, h, _⟩ e => by rw [e] at h; cases h⟩
instance : NoN (Tup α) := ⟨fun ⟨_, _, h, _⟩ e => by rw [e] at h; cases h⟩
instance : NoN (α × β) := ⟨fun ⟨_, _, _, h, _⟩ e => by rw [e] at h; cases h⟩
instance : NoN (T3 α β γ) := ⟨fun ⟨_, _, _, _, h, _⟩ e => by rw [e] at h; cases h⟩
instance : NoN (T4 α β γ δ) := ⟨fun ⟨_, _, _, _, _, h, _⟩ e => by rw [e] at h; cases h⟩
theorem optNone [NoN α] {K F} {v : V} {x : Option α} (h : Enc.rep K F v x) : decide (v = .non) = x.isNone := by
  cases x with
  | none => cases h; rfl
  | some x => exact decide_eq_false (NoN.no (α := α) h)
end
structure WTW (X : Cx) (e : Expr) (σ : St) (H : Hp) (Q : Bool → Hp → Prop) : Prop where
  run : ∀ (wh : Sem Value) (pins : List (Addr × Obj)) (s : Shared), Inv X pins σ H s → wpAny (model X.prog X.w) X.A (isTrue e X.env wh) (TP X pins σ Q) X.xe s
theorem pw_wtw {X : Cx} : PW X e (WTW X e) := ⟨fun wh pins s _ _ _ I h => h.run wh pins s I⟩
theorem WTW.of {X : Cx} {σ : St} {H : Hp} {t : TT} {Q : Bool → Hp → Prop} (p : PW X e t) (h : t σ H Q) : WTW X e σ H Q := ⟨fun wh pins s I => p.run wh pins s σ H Q I h⟩
def Ew (Y : DX) (s : DSt) (e : Expr) (Q : Bool → DSt → Prop) : Prop := ∀ F0 σ H F, Ext F0 F → Sta Y s σ H F → WTW Y.X e σ H (Pt Y σ F0 Q)
theorem et_w {Q : Bool → DSt → Prop} (h : Ew Y s e Q) : Et Y s e Q := fun F0 σ H F e0 S => .of pw_wtw.pt (h F0 σ H F e0 S)
theorem ew_and1 {Q : Bool → DSt → Prop} (h : Et Y s a Q) : Ew Y s (.BoolOp .And [a] pos) Q := fun F0 σ H F e0 S => .of (pw_and1 pt_wt) (h F0 σ H F e0 S)
theorem ew_or1 {Q : Bool → DSt → Prop} (h : Et Y s a Q) : Ew Y s (.BoolOp .Or [a] pos) Q := fun F0 σ H F e0 S => .of (pw_or1 pt_wt) (h F0 σ H F e0 S)
theorem WTW.mono {X : Cx} {σ : St} {H : Hp} {Q Q' : Bool → Hp → Prop} (h : WTW X e σ H Q) (k : ∀ b H', Q b H' → Q' b H') : WTW X e σ H Q' :=
  ⟨fun wh pins s I => thn (h.run wh pins s I) fun b _ ⟨H', J, q⟩ => ⟨H', J, k b H' q⟩⟩
theorem Pt.ext {σ : St} {F0 F1 : Hp} {Q : Bool → DSt → Prop} {c : Bool} {H : Hp} (h : Pt Y σ F1 Q c H) (e : Ext F0 F1) : Pt Y σ F0 Q c H := by
  obtain ⟨s', F', e1, S', q⟩ := h
  exact ⟨s', F', e.trans e1, S', q⟩
theorem ew_and {Q : Bool → DSt → Prop} {r : List Expr} (h : Et Y s a fun x s1 => if x = true then Ew Y s1 (.BoolOp .And (b :: r) pos) Q else Q false s1) : Ew Y s (.BoolOp .And (a :: b :: r) pos) Q := fun F0 σ H F e0 S => by
  refine .of (pw_and pt_wt pw_wtw) ((h F0 σ H F e0 S).mono fun x H1 ⟨s1, F1, e1, S1, q⟩ => ?_)
  cases x with
  | true => exact (q F1 σ H1 F1 (.refl _) S1).mono fun c H2 z => z.ext e1
  | false => exact ⟨s1, F1, e1, S1, q⟩
theorem ew_or {Q : Bool → DSt → Prop} {r : List Expr} (h : Et Y s a fun x s1 => if x = true then Q true s1 else Ew Y s1 (.BoolOp .Or (b :: r) pos) Q) : Ew Y s (.BoolOp .Or (a :: b :: r) pos) Q := fun F0 σ H F e0 S => by
  refine .of (pw_or pt_wt pw_wtw) ((h F0 σ H F e0 S).mono fun x H1 ⟨s1, F1, e1, S1, q⟩ => ?_)
  cases x with
  | false => exact (q F1 σ H1 F1 (.refl _) S1).mono fun c H2 z => z.ext e1
  | true => exact ⟨s1, F1, e1, S1, q⟩
theorem et_not {Q : Bool → DSt → Prop} (h : Et Y s a fun x s1 => Q (!x) s1) : Et Y s (.UnaryOp .Not a pos) Q := fun F0 σ H F e0 S =>
  .of (pt_not pt_wt) ((h F0 σ H F e0 S).mono fun x H1 ⟨s1, F1, e1, S1, q⟩ => ⟨s1, F1, e1, S1, q⟩)
abbrev EwP (Y : DX) (s : DSt) (e : Expr) (x : Bool) : Prop := Ew Y s e fun y s' => y = x ∧ s' = s
theorem etp_w {x : Bool} (h : EwP Y s e x) : EtP Y s e x := .of (et_w h)
theorem ewp_and1 {x : Bool} (h : EtP Y s a x) : EwP Y s (.BoolOp .And [a] pos) x := ew_and1 (.of h ⟨rfl, rfl⟩)
theorem ewp_or1 {x : Bool} (h : EtP Y s a x) : EwP Y s (.BoolOp .Or [a] pos) x := ew_or1 (.of h ⟨rfl, rfl⟩)
theorem Ew.to {Q Q' : Bool → DSt → Prop} (h : Ew Y s e Q) (k : ∀ x s', Q x s' → Q' x s') : Ew Y s e Q' := fun F0 σ H F e0 S => (h F0 σ H F e0 S).mono fun x H1 ⟨s1, F1, e1, S1, q⟩ => ⟨s1, F1, e1, S1, k _ _ q⟩
theorem ewp_and {x y : Bool} {r : List Expr} (h : EtP Y s a x) (k : x = true → EwP Y s (.BoolOp .And (b :: r) pos) y) : EwP Y s (.BoolOp .And (a :: b :: r) pos) (x && y) := ew_and (.of h (by
  cases x with
  | true => exact (k rfl).to fun z s' q => q
  | false => exact ⟨rfl, rfl⟩))
theorem ewp_or {x y : Bool} {r : List Expr} (h : EtP Y s a x) (k : x = false → EwP Y s (.BoolOp .Or (b :: r) pos) y) : EwP Y s (.BoolOp .Or (a :: b :: r) pos) (x || y) := ew_or (.of h (by
  cases x with
  | false => exact (k rfl).to fun z s' q => q
  | true => exact ⟨rfl, rfl⟩))
theorem Pp.ext {σ : St} {F0 F1 : Hp} {A : Pv} {v : V} {H : Hp} (h : Pp Y s σ F1 A v H) (e : Ext F0 F1) : Pp Y s σ F0 A v H := by
  obtain ⟨F', e1, r, S'⟩ := h
  exact ⟨F', e.trans e1, r, S'⟩
theorem ev_if (h : Et Y s c fun x s1 => if x = true then Ev Y s1 a Q else Ev Y s1 b Q) : Ev Y s (.IfExp c a b pos) Q := fun F0 σ H F e0 S => by
  refine .of (pe_ifExp pt_wt pe_we pe_we) ((h F0 σ H F e0 S).mono fun x H1 ⟨s1, F1, e1, S1, q⟩ => ?_)
  cases x with
  | true => exact q F0 σ H1 F1 e1 S1
  | false => exact q F0 σ H1 F1 e1 S1
theorem EvP.inl {α β : Type} [Enc α] [Enc β] {x : α} (h : EvP Y s e (pu x)) : EvP Y s e (pu (Sum.inl x : α ⊕ β)) := h
theorem EvP.inr {α β : Type} [Enc α] [Enc β] {x : β} (h : EvP Y s e (pu x)) : EvP Y s e (pu (Sum.inr x : α ⊕ β)) := h
theorem EvP.some {α : Type} [Enc α] {x : α} (h : EvP Y s e (pu x)) : EvP Y s e (pu (Option.some x)) := h
theorem evp_none {α : Type} [Enc α] {j : Nat} : EvP Y s (.Constant .none j pos) (pu (Option.none : Option α)) := (evp_non : EvP Y s (.Constant .none j pos) (pu ()))
end
end Sp
set_option maxHeartbeats 4000000
namespace Sp
open PySem L2
open PySem.W (Datum DatumOrd SomeDatum)
section
variable {Y : DX} {s : DSt} {e a b c d o : Expr} {es : List Expr} {pos p : Pos} {Q : Pv → DSt → Prop}
theorem evp_T1 {A B : Pv} {x : Str} {T : String} {r : List V → Hp → VK → Prop} (hc : CallR Y.X (.type T) r) (hg : Gl Y.X x) (hm : Y.X.mg x = none) (hv : bootBuiltins x = some (.type T)) (ha : EvP Y s a A)
    (h : ∀ F0 σ H F v, Ext F0 F → Sta Y s σ H F → A.rep Y.X.K F v → r [v] H (Pp Y s σ F0 B)) (hn : x ≠ "__name__" := by decide) (hdb : (x == ("__debug__" : Str)) = false := by decide)
    (he : starEach [a] Y.X.env = (false, eval a Y.X.env) :: starEach [] Y.X.env := by rfl) : EvP Y s (.Call (.Name x p) [a] [] pos) B := fun F0 σ H F e0 S => by
  refine .of (pe_callTy hc hg hm hv (pa_cons pe_we pa_nil he) hn hdb he (by rfl)) ?_
  refine (ha F0 σ H F e0 S).mono fun v H1 ⟨F1, e1, r1, S1⟩ => ?_
  exact h F0 σ H1 F1 v e1 S1 r1
theorem pp_list {α : Type} [Enc α] {σ : St} {F0 H F : Hp} {vs : List V} {xs : List α} (e0 : Ext F0 F) (S : Sta Y s σ H F) (r : Vs Y.X.K F vs xs) (q : Addr) (hq : H q = none) : Pp Y s σ F0 (pu xs) (.ref q) (upd H q (.lst vs)) :=
  ⟨upd F q (.lst vs), e0.trans (Ext.grow (S.free hq)), ⟨q, vs, rfl, .of upd_same, r.mono (Ext.grow (S.free hq))⟩, S.newF hq rfl⟩
section
variable {α : Type} [Enc α] {A B : Pv} {xs ys : List α}
theorem evp_abs {i : Int} (T : Bis Y.X.mg) (hg : Gl Y.X "abs") (ha : EvP Y s a (pu i)) (he : starEach [a] Y.X.env = (false, eval a Y.X.env) :: starEach [] Y.X.env := by rfl) : EvP Y s (.Call (.Name "abs" p) [a] [] pos) (pu (if i < 0 then -i else i)) :=
  evp_B1 call_abs hg (T.no _ (by decide)) PyProof.Rows.boot_abs ha (fun F0 σ H F v e0 S r => ⟨i, by rw [show v = .int i from r], F, e0, rfl, S⟩) (by decide) (by decide) he
end
def DL (Y : DX) (s : DSt) {α : Type} [Enc α] (A : Pv) (xs : List α) : Prop := ∀ σ H F v, Sta Y s σ H F → A.rep Y.X.K F v → ∃ p vs, v = .ref p ∧ SqL Y.X.K H p vs ∧ Vs Y.X.K F vs xs
theorem DL.pu {α : Type} [Enc α] {xs : List α} : DL Y s (pu xs) xs := fun σ H F v S ⟨p, vs, h1, h2, h3⟩ => ⟨p, vs, h1, sqL_ext h2 S.ext, h3⟩
theorem DL.own {α : Type} [Enc α] {xs : List α} {p : Addr} (i : Nat) (h : s.gs[i]? = some (p, lstc xs)) : DL Y s (raw (.ref p)) xs := fun σ H F v S r => by
  obtain ⟨_, o, ho, _, vs, eo, rv⟩ := S.cell h
  subst eo
  exact ⟨p, vs, r, .of ho, rv⟩
theorem DL.da {α : Type} [Enc α] {A : Pv} {xs : List α} (h : DL Y s A xs) : DA Y s A xs := fun σ H F v S r => by
  obtain ⟨p, vs, h1, h2, h3⟩ := h σ H F v S r
  exact ⟨p, vs, h1, h2, h3.mono S.ext⟩
end
section
variable {X : Cx} {α : Type} [DecidableEq α] [Enc α]
theorem pickF [DatumOrd α] [Dat α] {pins : List (Addr × Obj)} {σ : St} {H F : Hp} {s : Shared} {h' : Heap} {tk : Nat} {zs : List V} {its : List Value} {xs : List α} {i : Nat} {v : Value} {m : α} (I : Inv X pins σ H { s with heap := h', toks := tk }) (hz : Vs X.K F zs xs) (ex : Ext F H) (rv : Vals zs its) (hv : its[i]? = some v) (hm : PySem.W.Holds h' v m) :
    ∃ z, Enc.rep X.K F z m ∧ RelV z v := by
  have hi : i < its.length := (List.getElem?_eq_some_iff.mp hv).1
  have e1 : zs.length = its.length := Paired.length rv
  have e2 : zs.length = xs.length := Paired.length hz
  obtain ⟨z, h1, r1⟩ := prd_get hz (i := i) (y := xs[i]'(by omega)) (List.getElem?_eq_getElem _)
  obtain ⟨u, h2, r2⟩ := rv.get h1
  rw [hv] at h2
  cases h2
  have := holds_one (h := h') (enc_holds I (Enc.mono r1 ex) r2) hm
  rw [this] at r1
  exact ⟨z, r1, r2⟩
theorem cr_minF [DatumOrd α] [Dat α] (hc : X.calm = true) (hu : X.A.units + 64 < cLine) (hd : Datum.depth α ≤ 60) : CallR X (.builtin "min") (fun vs H Q => ∃ F y p zs x, ∃ xs : List α, vs = [y] ∧ y = .ref p ∧ SqL X.K H p zs ∧ Vs X.K F zs (x :: xs) ∧ Ext F H ∧ ∀ z, Enc.rep X.K F z (PySem.W.minOf x xs) → Q z H) := by
  intro pins s σ H vs us Q I r ⟨F, y, p, zs, x, xs, ev, e, hq, hz, ex, q⟩
  subst e ev
  obtain ⟨its, rv, hl, hlen⟩ := I.list hq
  obtain ⟨u, rfl, ru⟩ := vals1 r
  cases ru
  refine PySem.W.min_list_datum (vs := its.toArray) (I.ok.hd hc) hl.isList (vs_holds I (hz.mono ex) rv) (by omega) fun i v h' tk hv hm hk => ?_
  have J := I.kept (t' := tk) hk
  obtain ⟨z, r1, r2⟩ := pickF J hz ex rv (by simpa using hv) hm
  exact ⟨z, H, J, r2, q z r1⟩
end
section
variable {Y : DX} {s : DSt} {e a b c d o : Expr} {es : List Expr} {pos p apos : Pos} {Q : Pv → DSt → Prop}
section
variable {α : Type} [DecidableEq α] [Enc α] {A B : Pv} {x : α} {xs ys : List α}
end
section
variable {α β : Type} [Enc α] [Enc β] {A B : Pv} {xs ys : List α}
theorem op_catF {X : Cx} : OpR X (binaryOp .Add) (fun x y H Q => ∃ p q xs ys, x = .ref p ∧ y = .ref q ∧ SqL X.K H p xs ∧ SqL X.K H q ys ∧ xs.length + ys.length ≤ sizeLine ∧ ∀ p, H p = none → Q (.ref p) (upd H p (.lst (xs ++ ys)))) := by
  intro pins s σ H x y v u Q I rx ry ⟨p, p2, zs, zs2, e, e2, hq, hq2, hs, q⟩
  subst e e2
  obtain ⟨its, rv, hl, hlen⟩ := I.list hq
  obtain ⟨its2, rv2, hl2, hlen2⟩ := I.list hq2
  obtain ⟨⟨cls, dd, data, sl⟩, ho, hc, n, hd⟩ := hl.isList
  obtain ⟨⟨cls2, dd2, data2, sl2⟩, ho2, hc2, n2, hd2⟩ := hl2.isList
  simp only at hc hd hc2 hd2
  subst hc hd hc2 hd2
  cases rx
  cases ry
  have e : its.toArray ++ its2.toArray = (its ++ its2).toArray := by simp
  have h1 : zs.length = its.length := Paired.length rv
  have h2 : zs2.length = its2.length := Paired.length rv2
  refine concat_meets ⟨_, ho, rfl⟩ ⟨_, ho2, rfl⟩ noFill_list_add seq_list_add PySem.F.slot_list_add PySem.F.entry_list_add (PySem.F.args_list_add_2 _ _) (PyProof.Rows.list_addW p p2 its.toArray its2.toArray n n2 dd dd2 sl sl2 (by simp only [List.size_toArray]; omega)) ⟨ho, ho2, ?_⟩
  rw [e]
  exact ⟨.ref _, _, I.lnew (t' := s.toks) (rv.append rv2) (by rw [List.length_append]; omega), rfl, q _ I.fresh⟩
theorem evp_ixA {i : Int} {x : α} (hs : PlainIx b) (ha : EvP Y s a A) (hA : DL Y s A xs) (hb : EvP Y s b (pu i)) (hx : atI xs i = some x) : EvP Y s (.Subscript a b pos) (pu x) :=
  evp2 (pe_ix ix_list pe_we pe_we hs) ha hb fun F0 σ H F v u e0 S rv ru => by
    obtain ⟨p, vs, h1, h2, h3⟩ := hA σ H F v S rv
    obtain ⟨w, hw, rw'⟩ := atI_of h3 hx
    exact ⟨p, vs, i, w, h1, ru, h2, hw, F, e0, rw', S⟩
def cutD {γ : Type} (xs : List γ) (lo hi : Option Int) : List γ := (xs.drop (HT.sIx xs.length 0 lo)).take (HT.sIx xs.length xs.length hi - HT.sIx xs.length 0 lo)
def EvO (Y : DX) (s : DSt) (e : Option Expr) (i : Option Int) : Prop := ∀ F0 σ H F, Ext F0 F → Sta Y s σ H F → ∀ (pins : List (Addr × Obj)) (s1 : Shared), Inv Y.X pins σ H s1 →
  wpAny (model Y.X.prog Y.X.w) Y.X.A (evalPart e Y.X.env) (fun u s' => ∃ o H', Inv Y.X pins σ H' s' ∧ IsPart u o ∧ o = i ∧ ∃ F', Ext F0 F' ∧ Sta Y s σ H' F') Y.X.xe s1
theorem evo_no : EvO Y s none none := fun F0 σ H F e0 S pins s1 I => (po_none).run pins s1 σ H _ I ⟨rfl, F, e0, S⟩
theorem evo_at {i : Int} (h : EvP Y s e (pu i)) : EvO Y s (some e) (some i) := fun F0 σ H F e0 S pins s1 I => (po_some pe_we).run pins s1 σ H _ I ((h F0 σ H F e0 S).mono fun v H' ⟨F', e1, r, S'⟩ => ⟨i, r, rfl, F', e1, S'⟩)
structure WO (X : Cx) (e : Option Expr) (σ : St) (H : Hp) (Q : Option Int → Hp → Prop) : Prop where
  run : ∀ (pins : List (Addr × Obj)) (s1 : Shared), Inv X pins σ H s1 →
  wpAny (model X.prog X.w) X.A (evalPart e X.env) (fun u s' => ∃ o H', Inv X pins σ H' s' ∧ IsPart u o ∧ Q o H') X.xe s1
theorem po_wo {X : Cx} {e : Option Expr} : PO X e (WO X e) := ⟨fun pins s _ _ _ I h => h.run pins s I⟩
theorem evp_sl {r : V → Option Int → Option Int → Hp → VK → Prop} {lo hi : Option Expr} {i j : Option Int} {p2 : Pos} (hr : SlR Y.X r) (ha : EvP Y s a A) (hl : EvO Y s lo i) (hh : EvO Y s hi j)
    (h : ∀ F0 σ H F v, Ext F0 F → Sta Y s σ H F → A.rep Y.X.K F v → r v i j H (Pp Y s σ F0 B)) : EvP Y s (.Subscript a (.Slice lo hi none p2) pos) B := fun F0 σ H F e0 S => by
  refine .of (pe_slice hr pe_we po_wo po_wo) ?_
  refine (ha F σ H F (.refl _) S).mono fun v H1 ⟨F1, e1, r1, S1⟩ => ?_
  refine ⟨fun pins s1 I => ?_⟩
  refine thn (hl F1 σ H1 F1 (.refl _) S1 pins s1 I) fun u s2 ⟨o, H2, I2, p2, eo, F2, e2, S2⟩ => ⟨o, H2, I2, p2, ?_⟩
  subst eo
  refine ⟨fun pins' s1' I' => ?_⟩
  refine thn (hh F2 σ H2 F2 (.refl _) S2 pins' s1' I') fun u' s3 ⟨o', H3, I3, p3, eo', F3, e3, S3⟩ => ⟨o', H3, I3, p3, ?_⟩
  subst eo'
  exact h F0 σ H3 F3 v (((e0.trans e1).trans e2).trans e3) S3 (A.mono r1 (e2.trans e3))
theorem cut_vs {K : Frag} {F : Hp} {vs : List V} {xs : List α} (h : Vs K F vs xs) (i j : Option Int) : Vs K F (cutV vs i j) (cutD xs i j) := by
  unfold cutV cutD
  rw [show vs.length = xs.length from Paired.length h]
  exact prd_take (prd_drop h _) _
theorem evp_slL {lo hi : Option Expr} {i j : Option Int} {p2 : Pos} (ha : EvP Y s a A) (hA : DL Y s A xs) (hl : EvO Y s lo i) (hh : EvO Y s hi j) : EvP Y s (.Subscript a (.Slice lo hi none p2) pos) (pu (cutD xs i j)) :=
  evp_sl sl_list ha hl hh fun F0 σ H F v e0 S r => by
    obtain ⟨q, zs, h1, h2, h3⟩ := hA σ H F v S r
    exact ⟨q, zs, h1, h2, fun l hl => pp_list e0 S (cut_vs h3 i j) l hl⟩
end
theorem tyV_list {K : Frag} {H : Hp} {p : Addr} {xs : List V} (h : SqL K H p xs) : tyV K "list" (.ref p) H := .inl ⟨rfl, xs, h⟩
end
end Sp
set_option maxHeartbeats 4000000
namespace Sp
open PySem L2
open PySem.W (Datum DatumOrd SomeDatum)
section
variable {Y : DX} {s : DSt} {e a b c d o : Expr} {es : List Expr} {pos p apos : Pos} {Q : Pv → DSt → Prop}
structure Mx1 (X : Cx) (o : Expr) (m : Str) (apos : Pos) (e : Expr) (pos : Pos) : Prop where
  base : attributeBase o m X.env (eval o X.env) = eval o X.env
  few : ((backTo pos (starEach [e] X.env)).all (fun x => !x.1) && (backToKw pos (keywordEach [] X.env)).all (fun x => x.1.isSome)
      && decide (([e] : List Expr).length + ([] : List Keyword).length + (if ([] : List Keyword).isEmpty then 0 else 1) < 30)) = true
  line : (apos.endLine == pos.line) = true
  star : starEach [e] X.env = (false, eval e X.env) :: starEach [] X.env
structure Mx0 (X : Cx) (o : Expr) (m : Str) (apos : Pos) (pos : Pos) : Prop where
  base : attributeBase o m X.env (eval o X.env) = eval o X.env
  line : (apos.endLine == pos.line) = true
section
variable {α : Type} [DecidableEq α] [Enc α] [Datum α] [Dat α] {A B : Pv} {x : α} {xs ys : List α}
theorem DL.ty {A : Pv} {xs : List α} (h : DL Y s A xs) : ∀ σ H F v, Sta Y s σ H F → A.rep Y.X.K F v → tyV Y.X.K "list" v H := fun σ H F v S r => by
  obtain ⟨q, zs, h1, h2, h3⟩ := h σ H F v S r
  subst h1
  exact tyV_list h2
theorem DL.rd {A : Pv} {xs : List α} (h : DL Y s A xs) {σ : St} {H F : Hp} {v : V} (S : Sta Y s σ H F) (r : A.rep Y.X.K F v) : LRd Y.X.K H v xs := by
  obtain ⟨q, zs, h1, h2, h3⟩ := h σ H F v S r
  exact ⟨q, zs, h1, h2, h3.mono S.ext⟩
theorem not_codeL {o : HO} {vs : List V} (h : o = .lst vs) : ∀ φ, o ≠ HO.ext φ := fun φ z => by rw [h] at z; cases z
theorem not_codeD {o : HO} {vs : List (Key × V)} (h : o = .dK vs) : ∀ φ, o ≠ HO.ext φ := fun φ z => by rw [h] at z; cases z
end
section
variable {α : Type} [Enc α] {A B : Pv} {x : α} {xs ys : List α}
end
theorem tyV_str {K : Frag} {H : Hp} {x : List Nat} {v : V} (h : (pu x).rep K H v) : tyV K "str" v H := by
  have h' : v = .str (toStr x) := h
  subst h'
  rfl
end
end Sp
set_option maxHeartbeats 4000000
namespace Sp
open PySem L2
open PySem.W (Datum DatumOrd SomeDatum)
class FlatV (α : Type) [Enc α] where
  z : α → V
  rep : ∀ {K : Frag} {F : Hp} (a : α), Enc.rep K F (z a) a
instance : FlatV Int := ⟨V.int, fun _ => rfl⟩
instance : FlatV (List Nat) := ⟨fun x => V.str (toStr x), fun _ => rfl⟩
instance : FlatV Bool := ⟨V.bl, fun _ => rfl⟩
theorem flat_vs {α : Type} [Enc α] [FlatV α] {K : Frag} {F : Hp} : ∀ xs : List α, Vs K F (xs.map FlatV.z) xs
  | [] => .nil
  | a :: r => .cons (FlatV.rep a) (flat_vs r)
section
variable {X : Cx} {α : Type} [DecidableEq α] [Enc α] [DatumOrd α] [Dat α] [Srtb α] [FlatV α]
theorem each_flat : ∀ {us : List Value} {bs : List α}, Vals (bs.map FlatV.z) us → PySem.W.EachIs (fun v b => RelV (FlatV.z b) v) us bs
  | [], [], _ => .nil
  | _ :: _, [], h => by cases h
  | [], _ :: _, h => by cases h
  | _ :: _, _ :: _, h => by
    cases h with
    | cons r t => exact .cons r (each_flat t)
theorem flat_each : ∀ {us : List Value} {bs : List α}, PySem.W.EachIs (fun v b => RelV (FlatV.z b) v) us bs → Vals (bs.map FlatV.z) us
  | _, _, .nil => .nil
  | _, _, .cons r t => .cons r (flat_each t)
class FlatR (α : Type) [DecidableEq α] [Enc α] [FlatV α] [Datum α] : Prop where
  rd : ∀ {h : Heap} {v : Value} (a : α), RelV (FlatV.z a) v → Reads h v (Datum.toD a) []
instance : FlatR Int := ⟨fun a r => by obtain ⟨t, e⟩ := r; subst e; exact Reads.int a t⟩
instance : FlatR (List Nat) := ⟨fun a r => by obtain ⟨t, e⟩ := r; subst e; exact Reads.str (toStr a) t⟩
theorem sorted_flat [FlatR α] {pins : List (Addr × Obj)} {s : Shared} {σ : St} {H : Hp} {Q : VK} {src : Value} {bs : List α} (I : Inv X pins σ H s) (hu : X.A.units + 64 < cLine) (hd : Datum.depth α ≤ 60) (hL : bs.length ≤ sizeLine)
    (hc : ∀ R : List Value → Shared → Prop, (∀ h' tk us, (∀ b o, s.heap.get? b = some o → h'.get? b = some o) → Vals (bs.map FlatV.z) us → R us { s with heap := h', toks := tk }) → wpAny (model X.prog X.w) X.A.in1 (collect src) R X.xe s)
    (q : ∀ p, H p = none → Q (.ref p) (upd H p (.lst ((srt bs).map FlatV.z)))) : wpAny (model X.prog X.w) X.A (call (.builtin "sorted") [src]) (EP X pins σ Q) X.xe s := by
  refine Calls.call_function_entry PyProof.Rows.kind_sorted PyProof.Rows.plain_sorted PyProof.Rows.entry_sorted (PyProof.Rows.args_sorted1 _) ?_
  unfold Builtin.«sorted»
  refine wpAny_bind (m := checkCount "sorted" 1 1 _) (wpAny_pure ?_)
  refine wpAny_bind (hc _ fun h' tk us hk hv => ?_)
  have hl : us.length = bs.length := by have := hv.length; rw [List.length_map] at this; exact this.symm
  have I1 : Inv X pins σ H { s with heap := h', toks := tk } := I.kept hk
  refine wpAny_bind (wpAny_newList ?_ (by rw [hl]; exact hL))
  have hoL : (h'.push (PyProof.Rows.seqObj "list" us.toArray 0)).get? h'.objs.size = some (PyProof.Rows.seqObj "list" us.toArray 0) := Heap.get?_push_size _ rfl
  show wpAny _ _ _ _ _ { s with heap := h'.push (PyProof.Rows.seqObj "list" us.toArray 0), toks := tk }
  refine wpAny_bind (wpAny_holding (PySem.W.list_sort_data (enc := Datum.toD) (s := { s with heap := h'.push (PyProof.Rows.seqObj "list" us.toArray 0), toks := tk }) hoL (each_flat hv)
    ((each_flat hv).mono fun v b r => ⟨[], FlatR.rd b r, by simp⟩) (sort_alike bs) (sort_able bs) hL (fun b _ => by have := Datum.depth_le b; show X.A.units + 1 + 1 + _ < _; omega) fun out h1 h2 => ?_))
  rw [srt_eq] at h2
  obtain ⟨e', he'⟩ := PyProof.Rows.sortedHeap_at (vs := us) (out := out.toArray) hoL
  have h3 := flat_each h2
  have hlen : ((srt bs).map FlatV.z).length ≤ sizeLine := by rw [h3.length, h1]; exact hL
  refine wpAny_pure ⟨_, rfl, .ref h'.objs.size, upd H h'.objs.size (.lst ((srt bs).map FlatV.z)), I1.laid (t' := tk) (fun b u e => ?_) (Nat.le_refl _)
    (show ObjOk X.prog X.w _ _ _ (.lst ((srt bs).map FlatV.z)) from ⟨hlen, out, e', h3, he'⟩), rfl, q _ (I1.hok.fresh (Nat.le_refl _))⟩
  have hb : b < h'.objs.size := Heap.lt_size e
  rw [PyProof.Rows.sortedHeap_old (Nat.ne_of_lt hb) (by rw [PyProof.Rows.size_push']; exact Nat.lt_succ_of_lt hb)]
  exact Heap.get?_push_of_some _ e
end
section
variable {κ ν : Type} [DecidableEq κ]
def dval (d : List (κ × ν)) (k : κ) : Option ν := (d.find? fun kv => decide (kv.1 = k)).map (·.2)
def dput (d : List (κ × ν)) (k : κ) (v : ν) : List (κ × ν) := if (d.any fun kv => decide (kv.1 = k)) = true then d.map (fun kv => if kv.1 = k then (kv.1, v) else kv) else d ++ [(k, v)]
def dmerge (d more : List (κ × ν)) : List (κ × ν) := more.foldl (fun acc kv => dput acc kv.1 kv.2) d
end
section
variable {κ ν : Type} [DecidableEq κ] [Kk κ] [Enc ν] {K : Frag} {F : Hp}
theorem key_iff {a b : κ} : Kk.key a = Kk.key b ↔ a = b := ⟨Kk.inj, fun h => by rw [h]⟩
theorem kvs_val {zs : List (Key × V)} {d : List (κ × ν)} (h : KVs K F zs d) (k : κ) : (dval d k = none ∧ valV zs (Kk.key k) = none) ∨ ∃ v x, dval d k = some x ∧ valV zs (Kk.key k) = some v ∧ Enc.rep K F v x := by
  induction h with
  | nil => exact .inl ⟨rfl, rfl⟩
  | @cons p q zs d r t ih =>
    by_cases e : q.1 = k
    · refine .inr ⟨p.2, q.2, ?_, ?_, r.2⟩
      · simp [dval, List.find?_cons, e]
      · exact valV_pos (by rw [r.1, e])
    · have e' : ¬ p.1 = Kk.key k := fun z => e (Kk.inj (r.1.symm.trans z))
      rw [valV_neg e']
      have : dval (q :: d) k = dval d k := by simp [dval, List.find?_cons, e]
      rw [this]
      exact ih
theorem kvs_any {zs : List (Key × V)} {d : List (κ × ν)} (h : KVs K F zs d) (k : κ) : (zs.any fun kv => decide (kv.1 = Kk.key k)) = d.any fun kv => decide (kv.1 = k) := by
  induction h with
  | nil => rfl
  | @cons p q zs d r t ih =>
    rw [List.any_cons, List.any_cons, ih]
    congr 1
    rw [r.1]
    exact decide_eq_decide.mpr key_iff
theorem kvs_put {zs : List (Key × V)} {d : List (κ × ν)} (h : KVs K F zs d) {k : κ} {v : V} {x : ν} (r : Enc.rep K F v x) : KVs K F (putK zs (Kk.key k) v) (dput d k x) := by
  unfold putK dput
  rw [kvs_any h]
  by_cases e : (d.any fun kv => decide (kv.1 = k)) = true
  · rw [if_pos e, if_pos e]
    refine prd_map h fun a b q => ?_
    by_cases z : b.1 = k
    · rw [if_pos z, if_pos (by rw [q.1, z])]
      exact ⟨q.1, r⟩
    · rw [if_neg z, if_neg (fun y => z (Kk.inj (q.1.symm.trans y)))]
      exact q
  · rw [if_neg e, if_neg e]
    exact prd_app h (.cons ⟨rfl, r⟩ .nil)
theorem kvs_merge {ws : List (Key × V)} {e : List (κ × ν)} (k : KVs K F ws e) : ∀ {zs : List (Key × V)} {d : List (κ × ν)}, KVs K F zs d → KVs K F (mergeK zs ws) (dmerge d e) := by
  unfold mergeK dmerge
  induction k with
  | nil => exact fun h => h
  | @cons p q ws e r t ih =>
    intro zs d h
    rw [List.foldl_cons, List.foldl_cons]
    refine ih ?_
    rw [r.1]
    exact kvs_put h r.2
end
class KkV (κ : Type) [Kk κ] [Enc κ] : Prop where
  rep : ∀ {K : Frag} {F : Hp} (k : κ), Enc.rep K F (kV (Kk.key k)) k
  of : ∀ {K : Frag} {F : Hp} {v : V} {k : κ}, Enc.rep K F v k → v = kV (Kk.key k)
instance : KkV Int := ⟨fun _ => rfl, fun h => h⟩
instance : KkV (List Nat) := ⟨fun _ => rfl, fun h => h⟩
section
variable {Y : DX} {s : DSt} {e a b c d o : Expr} {es : List Expr} {pos p apos : Pos} {Q : Pv → DSt → Prop}
variable {κ ν : Type} [DecidableEq κ] [Kk κ] [Enc κ] [KkV κ] [Enc ν] {A B : Pv} {m : List (κ × ν)} {k : κ} {x : ν}
def DF (Y : DX) (s : DSt) {κ ν : Type} [Kk κ] [Enc ν] (A : Pv) (d : List (κ × ν)) : Prop := ∀ σ H F v, Sta Y s σ H F → A.rep Y.X.K F v → ∃ p kvs, v = .ref p ∧ Rd H p (.dK kvs) ∧ KVs Y.X.K F kvs d
theorem DF.pu {d : Dct κ ν} : DF Y s (pu d) d.kvs := fun σ H F v S ⟨p, od, kvs, e, hp, r⟩ => ⟨p, kvs, e, .inr ⟨od, S.ext _ _ hp⟩, r⟩
theorem DF.own {d : List (κ × ν)} {p : Addr} (i : Nat) (h : s.gs[i]? = some (p, dctc d)) : DF Y s (raw (.ref p)) d := fun σ H F v S r => by
  obtain ⟨_, o, ho, _, vs, eo, rv⟩ := S.cell h
  subst eo
  exact ⟨p, vs, r, .inl ho, rv⟩
def dhas (m : List (κ × ν)) (k : κ) : Bool := (dval m k).isSome
theorem ev_dnew {κ ν : Type} [Kk κ] [Enc ν] (q : ∀ p, Q (raw (.ref p)) ⟨s.ρ, (p, dctc ([] : List (κ × ν))) :: s.gs⟩) : Ev Y s (.Dict [] [] pos) Q := fun F0 σ H F e0 S =>
  .of pe_dnewK fun p hp => ⟨raw (.ref p), _, F, e0, rfl, S.newO (c := dctc ([] : List (κ × ν))) hp rfl ⟨[], rfl, .nil⟩, q p⟩
theorem pp_dict {σ : St} {F0 H F : Hp} {zs : List (Key × V)} (e0 : Ext F0 F) (S : Sta Y s σ H F) (r : KVs Y.X.K F zs m) (q : Addr) (hq : H q = none) (od : Obj) : Pp Y s σ F0 (pu (Dct.mk m)) (.ref q) (upd H q (.frz od (.dK zs))) :=
  ⟨upd F q (.frz od (.dK zs)), e0.trans (Ext.grow (S.free hq)), ⟨q, od, zs, rfl, upd_same, r.mono (Ext.grow (S.free hq))⟩, S.newF hq rfl⟩
theorem evp_dnew {κ ν : Type} [Kk κ] [Enc ν] : EvP Y s (.Dict [] [] pos) (pu (Dct.mk ([] : List (κ × ν)))) := fun F0 σ H F e0 S =>
  .lockAfter (.of pe_dnewK fun q hq => ⟨q, .dK [], upd_same, trivial, fun od => by
    rw [upd_upd]
    exact ⟨upd F q (.frz od (.dK [])), e0.trans (Ext.grow (S.free hq)), ⟨q, od, [], rfl, upd_same, .nil⟩, S.newF hq rfl⟩⟩)
end
end Sp
set_option maxHeartbeats 4000000
namespace Sp
open PySem L2
open PySem.W (Datum DatumOrd SomeDatum)
section
variable {Y : DX} {s : DSt} {e a b c d o : Expr} {es : List Expr} {pos p apos : Pos} {Q : Pv → DSt → Prop} {D : DE}
section
variable {κ ν : Type} [DecidableEq κ] [Kk κ] [Enc κ] [KkV κ] [Enc ν] {A B : Pv} {m : List (κ × ν)} {k : κ} {x : ν}
end
theorem ws_freezeL {α : Type} [Enc α] {xs : List α} {q : Addr} {sts : List Stmt} (i j : Nat) (hi : s.ρ[i]? = some (some (raw (.ref q)))) (hj : s.gs[j]? = some (q, lstc xs)) (h : Ws Y ⟨s.ρ.set i (some (pu xs)), s.gs.eraseIdx j⟩ sts D) : Ws Y s sts D := fun F0 σ H F e0 S => by
  obtain ⟨hF, oo, hoo, _, zs, eo, rv⟩ := S.cell hj
  subst eo
  have S2 := S.freeze hj hoo
  obtain ⟨v, hv, rv'⟩ := S.rep.get hi
  have rv2 : v = .ref q := rv'
  subst rv2
  have S3 := S2.set (A := pu xs) (v := .ref q) ⟨q, zs, rfl, .of upd_same, rv.mono (Ext.grow hF)⟩ i
  have eσ : σ.set i (some (V.ref q)) = σ := by
    apply List.ext_getElem?
    intro t
    by_cases z : i = t
    · subst z
      rw [List.getElem?_set_self (List.getElem?_eq_some_iff.mp hv).1, hv]
    · rw [List.getElem?_set_ne z]
  rw [eσ] at S3
  exact h F0 σ _ _ (e0.trans (Ext.grow hF)) S3
section
variable {κ ν : Type} [DecidableEq κ] [Kk κ] [Enc κ] [KkV κ] [Enc ν] {A B : Pv} {m : List (κ × ν)} {k : κ} {x : ν}
theorem pairs_kvs {K : Frag} {F : Hp} : ∀ {vs : List V} {xs : List (κ × ν)}, Vs K F vs xs → ∃ (ps : List Addr) (kvs : List (Key × V)), vs = ps.map V.ref ∧ Paired (fun p kv => F p = some (.tup [kV kv.1, kv.2])) ps kvs ∧ KVs K F kvs xs
  | _, _, .nil => ⟨[], [], rfl, .nil, .nil⟩
  | _, _, .cons ⟨p, a, b, e, h, ra, rb⟩ t => by
    obtain ⟨ps, kvs, h1, h2, h3⟩ := pairs_kvs t
    subst e h1
    have ea := KkV.of ra
    subst ea
    exact ⟨p :: ps, (_, b) :: kvs, rfl, .cons h h2, .cons ⟨rfl, rb⟩ h3⟩
theorem keys_at2 {P : Program} {w : World} {kvs : List (Key × V)} {vs : List (Key × Value)} {acc : Array Value} (rel : KV kvs vs) (hi : ItemsOf (fun i v => ∃ k x, vs[i]? = some (k, x) ∧ (mixKind P w).is k v = true) acc vs.length) : Vals (kvs.map fun p => kV p.1) acc.toList := by
  have h := keys_at (us := acc.toList) (vs := vs) (by rw [Array.length_toList]; exact hi.1) fun j v hv => by
    obtain ⟨k, x, h1, h2⟩ := hi.2 j v (by simpa using hv)
    exact ⟨k, x, h1, h2⟩
  have e : vs.map (fun p => kV p.1) = kvs.map fun p => kV p.1 := by
    have h1 : vs.map (fun p => kV p.1) = (vs.map (·.1)).map kV := by rw [List.map_map]; rfl
    have h2 : kvs.map (fun p => kV p.1) = (kvs.map (·.1)).map kV := by rw [List.map_map]; rfl
    rw [h1, h2, rel.keys]
  rw [e] at h
  exact h
theorem cr_sortedD {X : Cx} [DatumOrd κ] [Dat κ] [Srtb κ] [FlatV κ] [FlatR κ] (hz : ∀ k : κ, FlatV.z k = kV (Kk.key k)) (hc : X.calm = true) (hu : X.A.units + 64 < cLine) (hd : Datum.depth κ ≤ 60) : CallR X (.builtin "sorted") (fun vs H Q => ∃ (q : Addr) (zs : List (Key × V)) (ks : List κ), vs = [.ref q] ∧ Rd H q (.dK zs) ∧ zs.map (·.1) = ks.map Kk.key ∧ ∀ p, H p = none → Q (.ref p) (upd H p (.lst ((srt ks).map FlatV.z)))) := by
  intro pins s σ H vs us Q I r ⟨q, zs, ks, ev, hr, hk, k⟩
  subst ev
  obtain ⟨u, rfl, ru⟩ := vals1 r
  cases ru
  obtain ⟨hl, lo, ws, rel, dd⟩ := dk_rd I.hok hr
  obtain ⟨ep, hat⟩ := dd.dictAt
  have hln : ks.length = zs.length := by have := congrArg List.length hk; simpa using this.symm
  have hwl : zs.length = ws.length := rel.length
  refine sorted_flat (bs := ks) I hu hd (by omega) (fun R kk => ?_) k
  refine PySem.W.kdu_collect (A := X.A.in1) (PySem.W.kdl_dict (knd := mixKind X.prog X.w) (kvs := ws) (ep := ep) lo) (I.ok.hd hc) hat (by omega) fun h' tk acc hk2 hacc => kk h' tk _ hk2 ?_
  have h9 := keys_at2 rel hacc
  have e9 : zs.map (fun p => kV p.1) = ks.map FlatV.z := by
    have h1 : zs.map (fun p => kV p.1) = (zs.map (·.1)).map kV := by rw [List.map_map]; rfl
    rw [h1, hk, List.map_map]
    exact List.map_congr_left fun k _ => (hz k).symm
  rw [e9] at h9
  exact h9
theorem keys_key {K : Frag} {F : Hp} : ∀ {zs : List (Key × V)} {m : List (κ × ν)}, KVs K F zs m → zs.map (·.1) = (m.map (·.1)).map Kk.key
  | _, _, .nil => rfl
  | _, _, .cons r t => by rw [List.map_cons, List.map_cons, List.map_cons, keys_key t, r.1]
end
theorem joinT_cons (a x y : List Nat) (r : List (List Nat)) : joinT a ((x ++ a ++ y) :: r) = x ++ a ++ joinT a (y :: r) := by
  cases r with
  | nil => rfl
  | cons z r => simp only [joinT, List.append_assoc]
theorem glue_fold (a : List Nat) : ∀ (r : List (List Nat)) (x : List Nat), (r.map toStr).foldl (fun acc p => acc ++ (toStr a).cps ++ p.cps) (toStr x).cps = (toStr (joinT a (x :: r))).cps
  | [], x => rfl
  | y :: r, x => by
    have e : (toStr x).cps ++ (toStr a).cps ++ (toStr y).cps = (toStr (x ++ a ++ y)).cps := by simp [toStr]
    rw [List.map_cons, List.foldl_cons, e, glue_fold a r, joinT_cons]
    rfl
theorem toStr_join' (a : List Nat) (xs : List (List Nat)) : Txt.join (toStr a) (xs.map toStr) = toStr (joinT a xs) := by
  unfold Txt.join Builtin.Str.glued
  cases xs with
  | nil => rfl
  | cons x r =>
    have h := glue_fold a r x
    simp only [List.map_cons, List.drop_succ_cons, List.drop_zero, List.headD_cons]
    rw [h]
theorem txts_map {K : Frag} {H : Hp} {vs : List V} {xs : List (List Nat)} (h : Vs K H vs xs) : vs = (xs.map toStr).map V.str := vs_txts h
def lenSum (xs : List (List Nat)) : Nat := (xs.map List.length).sum
end
section
variable {Y : DX} {s : DSt} {e a b c d o tg : Expr} {es elts : List Expr} {pos p apos cpos tpos : Pos} {kk : Nat}
section
variable {κ ν : Type} [Kk κ] [Enc κ] [KkV κ] [Enc ν] {m : Dct κ ν}
end
end
end Sp
set_option maxHeartbeats 4000000
namespace Sp
open PySem L2
open PySem.W (Datum DatumOrd SomeDatum)
abbrev Flds := List (Str × Pv)
abbrev FR (K : Frag) (F : Hp) : List (Str × V) → Flds → Prop := Paired fun p q => p.1 = q.1 ∧ q.2.rep K F p.2
theorem FR.mono {K : Frag} {F F' : Hp} {vs : List (Str × V)} {fs : Flds} (h : FR K F vs fs) (e : Ext F F') : FR K F' vs fs := Paired.mapP h fun _ q r => ⟨r.1, q.2.mono r.2 e⟩
def insP (C : Addr) (fs : Flds) : Pv := ⟨fun K F v => ∃ a dx vs, v = .ref a ∧ F a = some (.ins C dx vs) ∧ FR K F vs fs, fun ⟨a, dx, vs, h1, h2, h3⟩ e => ⟨a, dx, vs, h1, e _ _ h2, h3.mono e⟩⟩
def insc (C : Addr) (fs : Flds) : Cell := ⟨fun K F o => ∃ dx vs, o = .ins C dx vs ∧ FR K F vs fs, fun ⟨dx, vs, h1, h2⟩ e => ⟨dx, vs, h1, h2.mono e⟩⟩
def fput (f : Str) (A : Pv) : Flds → Flds
  | [] => [(f, A)]
  | (g, B) :: r => if g = f then (g, A) :: r else (g, B) :: fput f A r
theorem fr_put {K : Frag} {F : Hp} {f : Str} {v : V} {A : Pv} {vs : List (Str × V)} {fs : Flds} (h : FR K F vs fs) (r : A.rep K F v) : FR K F (putF f v vs) (fput f A fs) := by
  induction h with
  | nil => exact .cons ⟨rfl, r⟩ .nil
  | @cons p q vs fs r1 t ih =>
    obtain ⟨g, x⟩ := p
    obtain ⟨g', B⟩ := q
    have e : g = g' := r1.1
    subst e
    unfold putF fput
    by_cases z : g = f
    · rw [if_pos z, if_pos z]
      exact .cons ⟨rfl, r⟩ t
    · rw [if_neg z, if_neg z]
      exact .cons r1 ih
theorem fr_look {K : Frag} {F : Hp} {f : Str} {A : Pv} {vs : List (Str × V)} {fs : Flds} (h : FR K F vs fs) (l : fs.lookup f = some A) : ∃ v, vs.lookup f = some v ∧ A.rep K F v := by
  induction h with
  | nil => cases l
  | @cons p q vs fs r1 t ih =>
    obtain ⟨g, x⟩ := p
    obtain ⟨g', B⟩ := q
    have e : g = g' := r1.1
    subst e
    rw [List.lookup_cons] at l ⊢
    cases z : f == g with
    | true => rw [z] at l; cases l; exact ⟨x, rfl, r1.2⟩
    | false => rw [z] at l; exact ih l
theorem fr_no {K : Frag} {F : Hp} {f : Str} {vs : List (Str × V)} {fs : Flds} (h : FR K F vs fs) (l : fs.lookup f = none) : vs.lookup f = none := by
  induction h with
  | nil => rfl
  | @cons p q vs fs r1 t ih =>
    obtain ⟨g, x⟩ := p
    obtain ⟨g', B⟩ := q
    have e : g = g' := r1.1
    subst e
    rw [List.lookup_cons] at l ⊢
    cases z : f == g with
    | true => rw [z] at l; cases l
    | false => rw [z] at l; exact ih l
theorem not_codeI {o : HO} {C dx : Addr} {vs : List (Str × V)} (h : o = .ins C dx vs) : ∀ φ, o ≠ HO.ext φ := fun φ z => by rw [h] at z; cases z
section
variable {Y : DX} {s : DSt} {e a b c d o : Expr} {es : List Expr} {pos p apos : Pos} {Q : Pv → DSt → Prop} {D : DE} {C : Addr} {fs : Flds} {f : Str} {A : Pv}
def IA (Y : DX) (s : DSt) (A : Pv) (C : Addr) (fs : Flds) : Prop := ∀ σ H F v, Sta Y s σ H F → A.rep Y.X.K F v → ∃ a dx vs, v = .ref a ∧ H a = some (.ins C dx vs) ∧ FR Y.X.K F vs fs
theorem IA.pu : IA Y s (insP C fs) C fs := fun σ H F v S ⟨a, dx, vs, h1, h2, h3⟩ => ⟨a, dx, vs, h1, S.ext _ _ h2, h3⟩
theorem IA.own {q : Addr} (i : Nat) (h : s.gs[i]? = some (q, insc C fs)) : IA Y s (raw (.ref q)) C fs := fun σ H F v S r => by
  obtain ⟨_, o, ho, _, dx, vs, eo, rv⟩ := S.cell h
  subst eo
  exact ⟨q, dx, vs, r, ho, rv⟩
theorem evp_fld {B : Pv} (c : Cls Y.X.K C) (n : NoAttr Y.X.K C f) (ho : EvP Y s o B) (hB : IA Y s B C fs) (l : fs.lookup f = some A) (hb : attributeBase o f Y.X.env (eval o Y.X.env) = eval o Y.X.env := by rfl) : EvP Y s (.Attribute o f pos) A := fun F0 σ H F e0 S => by
  refine .of (pe_fld pe_we hb) ((ho F0 σ H F e0 S).mono fun v H1 ⟨F1, e1, r1, S1⟩ => ?_)
  obtain ⟨a, dx, vs, ev, ha, rf⟩ := hB σ H1 F1 v S1 r1
  obtain ⟨w, l2, rw'⟩ := fr_look rf l
  exact ⟨a, C, dx, vs, w, ev, ha, c, n, l2, F1, e1, rw', S1⟩
theorem w1_fld {q : Addr} {p2 : Pos} (i : Nat) (c : Cls Y.X.K C) (n : NoAttr Y.X.K C f) (hl : fs.length < 1000)
    (hv : Ev Y s e fun X s1 => s1.gs[i]? = some (q, insc C fs) ∧ EvP Y s1 o (raw (.ref q)) ∧ D.nx ⟨s1.ρ, s1.gs.set i (q, insc C (fput f X fs))⟩)
    (hs : swapsWith e (some (.Attribute o f p2)) pos.line Y.X.env = pure false := by rfl) : W1 Y s (.Assign [.Attribute o f p2] e pos) D := fun F0 σ H F e0 S => by
  refine .of (ps_fld pe_we pe_we hs) ?_
  refine (hv F σ H F (.refl _) S).mono fun v H1 ⟨X, s1, F1, e1, r1, S1, hi, ho, k1⟩ => ?_
  refine (ho F1 σ H1 F1 (.refl _) S1).mono fun u H2 ⟨F2, e2, r2, S2⟩ => ?_
  obtain ⟨hF, oo, hoo, _, dx, vs, eo, rv⟩ := S2.cell hi
  subst eo
  exact ⟨q, C, dx, vs, r2, hoo, c, n, by rw [show vs.length = fs.length from Paired.length rv]; exact hl, _, F2, (e0.trans e1).trans e2, S2.write (c' := insc C (fput f X fs)) hi hoo (not_codeI rfl) rfl ⟨dx, _, rfl, fr_put rv (X.mono r1 e2)⟩, k1⟩
structure Mt (P : Program) (w : World) (K : Frag) (mg : Str → Option Value) (base : Heap) (T : Tb) (k : Nat) (C : Addr) (m : Str) (ps : List Str) (d : DSp) : Prop where
  ex : ∃ (f : Addr) (fd : FuncData), FnOk P w K mg base (L2.CX P w) k f fd ps (toSp K T ps.length d) ∧ Meth K C m f ∧ Binds K fd ps []
  mono : DMono d
section
variable {X : Cx} {CX : CXT} {k : Nat} {ff : Addr} {fd : FuncData} {ps : List Str} {sp : Sp} {E : St → XK} {m : Str} {ta : TE} {t : TA}
def tMethS (C : Addr) (m : Str) (sp : Sp) (E : St → XK) (ta : TE) (t : TA) : TE := fun σ H Q => ta σ H fun x H1 => ∃ a dx fs, x = .ref a ∧ H1 a = some (.ins C dx fs) ∧ fs.lookup m = none ∧ t σ H1 fun vs H2 => sp (x :: vs) H2 Q (E σ)
theorem pe_methS {pl : Sem Bool} (he : PE X o ta) (c : Cls X.K C) (hm : Meth X.K C m ff) (F : FnOk X.prog X.w X.K X.mg X.base CX k ff fd ps sp) (hr : Room k X.A) (hb : Binds X.K fd ps []) (hx : ∀ σ, PassesAt CX X σ (E σ)) (ha : PA X (e :: es) t)
    (hst : starEach (e :: es) X.env = (false, eval e X.env) :: starEach es X.env) (hpl : (backTo pos (starEach es X.env)).any (·.1) = false)
    (ht : eval (.Call (.Attribute o m apos) (e :: es) [] pos) X.env = (do
      let ov ← eval o X.env
      standAt apos.atName
      let (f, first) ← holding [ov] (getMethod ov m pl)
      callWith pos f first (backTo pos (starEach (e :: es) X.env)) (backToKw pos (keywordEach [] X.env)))) :
    PE X (.Call (.Attribute o m apos) (e :: es) [] pos) (tMethS C m sp E ta t) := by
  refine ⟨fun pins s σ H Q I h => ?_⟩
  refine PySem.W.methodCall_KW (pl := pl) (thn (he.run pins s σ H _ I h) fun u s1 ⟨x, H1, I1, rx, a, dx, fs, ex, ea, l, q⟩ => ?_) ht
  subst ex
  obtain rfl : u = Value.ref a := rx
  refine getmeth_ok I1 ea c hm l ?_
  refine PySem.W.callWith_K (first := [.ref a]) (h₀ := X.base) I.ok.mod.kin hm.kp (thn (ha.run pos pins s1 σ H1 _ I1 q) fun us s2 ⟨vs, H2, I2, r, q2⟩ => ⟨I2.kIn, ?_⟩) hst hpl
  exact run_fnS (us := .ref a :: us) (vs := .ref a :: vs) F hr hb (hx σ) I2 (.cons rfl r) q2
theorem pe_methS0 {pl : Sem Bool} (he : PE X o ta) (c : Cls X.K C) (hm : Meth X.K C m ff) (F : FnOk X.prog X.w X.K X.mg X.base CX k ff fd ps sp) (hr : Room k X.A) (hb : Binds X.K fd ps []) (hx : ∀ σ, PassesAt CX X σ (E σ))
    (ht : eval (.Call (.Attribute o m apos) [] [] pos) X.env = (do
      let ov ← eval o X.env
      standAt apos.atName
      let (f, first) ← holding [ov] (getMethod ov m pl)
      callWith pos f first (backTo pos (starEach [] X.env)) (backToKw pos (keywordEach [] X.env)))) :
    PE X (.Call (.Attribute o m apos) [] [] pos) (tMethS C m sp E ta tNil) := by
  refine ⟨fun pins s σ H Q I h => ?_⟩
  refine PySem.W.methodCall_KW (pl := pl) (thn (he.run pins s σ H _ I h) fun u s1 ⟨x, H1, I1, rx, a, dx, fs, ex, ea, l, q⟩ => ?_) ht
  subst ex
  obtain rfl : u = Value.ref a := rx
  refine getmeth_ok I1 ea c hm l ?_
  exact PySem.W.callWith_K0 (first := [.ref a]) I1.kIn hm.kp (run_fnS (us := [.ref a]) (vs := [.ref a]) F hr hb (hx σ) I1 (.cons rfl .nil) q)
end
structure Mkr (P : Program) (w : World) (K : Frag) (mg : Str → Option Value) (base : Heap) (T : Tb) (k : Nat) (x : Str) (C : Addr) (ps : List Str) (d : DSp) : Prop where
  ex : ∃ (f : Addr) (fd : FuncData), FnOk P w K mg base (L2.CX P w) k f fd ps (toSp K T ps.length d) ∧ Mk K C f ∧ Binds K fd ps []
  g : mg x = some (.ref C)
  mono : DMono d
theorem run_makeS {X : Cx} {CX : CXT} {k : Nat} {ff : Addr} {fd : FuncData} {ps : List Str} {sp : Sp} {E : XK} {pins : List (Addr × Obj)} {σ : St} {H : Hp} {s : Shared} {Q : VK} {us : List Value} {vs : List V} (M : Mk X.K C ff) (F : FnOk X.prog X.w X.K X.mg X.base CX k ff fd ps sp) (hr : Room (k + 1) X.A) (hb : Binds X.K fd ps [])
    (hx : PassesAt CX X σ E) (I : Inv X pins σ H s) (r : Vals vs us)
    (h : ∀ x dx, H x = none → H dx = none → dx ≠ x → sp (.ref x :: vs) (upd (upd H dx (.own x)) x (.ins C dx [])) (fun v H2 => v = .non ∧ Q (.ref x) H2) E) :
    wpAny (model X.prog X.w) X.A (call (.ref C) us) (EP X pins σ Q) X.xe s := by
  have hq := h (s.heap.objs.size + 1) s.heap.objs.size (I.hok.fresh (Nat.le_succ _)) (I.hok.fresh (Nat.le_refl _)) (Nat.ne_of_lt (Nat.lt_succ_self _))
  have I2 := Inv.made (C := C) I
  have r2 : Vals (V.ref (s.heap.objs.size + 1) :: vs) (Value.ref (s.heap.objs.size + 1) :: us) := .cons rfl r
  have hl : (Value.ref (s.heap.objs.size + 1) :: us).length = ps.length := by
    have e := r2.length
    rw [F.len _ _ _ _ hq] at e
    exact e.symm
  have b := hb _ (Value.ref (s.heap.objs.size + 1) :: us) I2.kIn (by rw [List.append_nil]; exact hl)
  rw [List.append_nil] at b
  refine wpAny_call (make_map (f := ff) I.kIn M.makes M.init (beq_iff_eq.mp M.fn) (codeAny_mono (F.run _ X.stack _ _ ⟨Value.ref (s.heap.objs.size + 1) :: us, []⟩ (Value.ref (s.heap.objs.size + 1) :: us) _ _ E (hr.make C us [])
    (I2.env0.make C us []) b r2 hq) fun r s' hq' => ?_))
  cases r with
  | error e => exact hx pins _ _ e s' I2 hq'
  | ok fl =>
    cases fl with
    | ret u =>
      obtain ⟨v, H', I3, rv, ev, q3⟩ := I2.after hq'
      subst ev
      exact ⟨rv, ⟨V.ref (s.heap.objs.size + 1), H', I3, rfl, q3⟩⟩
    | next => exact False.elim hq'
    | brk => exact False.elim hq'
    | cont => exact False.elim hq'
def tMakeS (C : Addr) (sp : Sp) (E : St → XK) (t : TA) : TE := fun σ H Q => t σ H fun vs H1 => ∀ x dx, H1 x = none → H1 dx = none → dx ≠ x → sp (.ref x :: vs) (upd (upd H1 dx (.own x)) x (.ins C dx [])) (fun v H2 => v = .non ∧ Q (.ref x) H2) (E σ)
theorem pe_makeS {X : Cx} {CX : CXT} {k : Nat} {ff : Addr} {fd : FuncData} {ps : List Str} {sp : Sp} {E : St → XK} {x : Str} {t : TA} (M : Mk X.K C ff) (F : FnOk X.prog X.w X.K X.mg X.base CX k ff fd ps sp) (hr : Room (k + 1) X.A) (hg : Gl X x) (hm : X.mg x = some (.ref C)) (hb : Binds X.K fd ps []) (hx : ∀ σ, PassesAt CX X σ (E σ))
    (ha : PA X (e :: es) t) (hdb : (x == ("__debug__" : Str)) = false) (he : starEach (e :: es) X.env = (false, eval e X.env) :: starEach es X.env) (hpl : (backTo pos (starEach es X.env)).any (·.1) = false) :
    PE X (.Call (.Name x p) (e :: es) [] pos) (tMakeS C sp E t) := by
  refine ⟨fun pins s σ H Q I h => ?_⟩
  refine wpAny_Call_Name_kw (ld_glob I hg hm ?_ hdb)
  refine PySem.W.callWith_K (h₀ := X.base) I.ok.mod.kin M.kp (thn (ha.run pos pins s σ H _ I h) fun us s1 ⟨vs, H1, I1, r, q⟩ => ⟨I1.kIn, ?_⟩) he hpl
  exact run_makeS M F hr hb (hx σ) I1 r q
end
end Sp
set_option maxHeartbeats 4000000
namespace Sp
open PySem L2
open PySem.W (Datum DatumOrd SomeDatum)
abbrev Cls_ := List (Addr × Txt)
def Tell (K : Frag) : Cls_ → Addr → Txt → Prop
  | [], _, _ => False
  | (c, x) :: r, C, t => ∃ b, PySem.W.exmOne K (.ref C) (.ref c) = some b ∧ (b = true → t = x) ∧ (b = false → Tell K r C t)
def Chn (K : Frag) : Cls_ → Value → Hp → VK → Prop
  | [], _, _, _ => False
  | (c, x) :: r, cls, H, Q => ∃ b, PySem.W.exmOne K cls (.ref c) = some b ∧ (b = true → Q (.str (toStr x)) H) ∧ (b = false → Chn K r cls H Q)
theorem tell_chn {K : Frag} {H : Hp} {Q : VK} {C : Addr} {t : Txt} : ∀ {l : Cls_}, Tell K l C t → Q (.str (toStr t)) H → Chn K l (.ref C) H Q
  | [], h, _ => h.elim
  | (c, x) :: r, ⟨b, h1, h2, h3⟩, q => ⟨b, h1, fun e => by rw [← h2 e]; exact q, fun e => tell_chn (h3 e) q⟩
def TTm (K : Frag) (l : Cls_) : (XK → Hp → VK → Prop) → Hp → VK → Prop := fun tl H Q => tl (fun cls _ H' => Chn K l cls H' Q) H Q
inductive HdT (K : Frag) (mg : Str → Option Value) (sg : Scope) : List ExceptHandler → Cls_ → Prop
  | nil : HdT K mg sg [] []
  | cons {e m : Str} {c : Addr} {x : Txt} {j : Nat} {p4 p5 p6 p7 : Pos} {hds : List ExceptHandler} {l : Cls_} : sg.names.lookup e = some .globalImplicit → mg e = some (.ref c) → (e == ("__debug__" : Str)) = false → toStr x = m → HdT K mg sg hds l →
      HdT K mg sg (.ExceptHandler (some (.Name e p4)) none [.Return (some (.Constant (.str m) j p5)) p6] p7 :: hds) ((c, x) :: l)
section
variable {X : Cx}
def tsR (x : Str) : Addr → Value → Option Addr → TS := fun _ _ _ D σ H => D.rt (.str x) H
theorem hds_ok {Z : Cx} {sg : Scope} {hds : List ExceptHandler} {l : Cls_} (h : HdT Z.K Z.mg sg hds l) (hz : Z.env.scope = sg) : HdsOk Z hds (l.map fun cx => (Value.ref cx.1, tsR (toStr cx.2))) := by
  induction h with
  | nil => exact .nil
  | cons h1 h2 h3 h4 _ ih =>
    subst h4
    refine .cons ⟨?_, h3, .inl h2⟩ (fun a oe cls d pn _ _ => ?_) ih
    · show Z.env.scope.names.lookup _ = _
      rw [hz]
      exact h1
    · exact ⟨fun pins s σ H D I q => (pss_one (ps_ret pe_str)).run pins s σ H D I q⟩
theorem many_chn {K : Frag} {D : Ends} {σ : St} {H : Hp} {cls : Value} {d : Option Addr} : ∀ {l : Cls_}, Chn K l cls H D.rt → wMany K (fun _ _ _ _ => False) D (l.map fun cx => (Value.ref cx.1, tsR (toStr cx.2))) cls d σ H
  | [], h => h
  | (c, x) :: r, ⟨b, h1, h2, h3⟩ => ⟨b, h1, fun e a _ => h2 e, fun e => many_chn (h3 e)⟩
theorem told_many {Ng : List Str} {x a q : Str} {sg : Scope} {g : Addr} {cdg : Value} {p1 p2 p3 p8 : Pos} {h0 : ExceptHandler} {hds : List ExceptHandler} {l : Cls_} (hh : HdT X.K X.mg sg (h0 :: hds) l) (hN : ∀ f : Addr, (L2.start Ng [V.ref f])[0]? = some (some (V.ref f))) :
    LamX.GivesTo X Ng x sg g cdg [.Try [.Return (some (.Call (.Name a p1) [] [] p2)) p3] (h0 :: hds) [] [] p8] a q (TTm X.K l) := by
  intro f c' s H Q tl act hc h
  refine ⟨_, pss_one (ps_try_many (X := (cxOf C8.CX0 X.prog X.w X.K X.mg X.base Ng x sg g cdg X.A X.stack s H C8.E0).nox)
    (tb := fun W D σ H => ∃ Ech : XK, (∀ cls d σ' H', Ech cls d H' → W cls d σ' H') ∧ σ[0]? = some (some (.ref f)) ∧ H c' = some (LamX.CodeO c' q) ∧ tl Ech H D.rt)
    rfl rfl LamX.takes0 (fun W pn xe tk _ => ?_) (hds_ok hh rfl)), ?_⟩
  · exact ⟨fun pins s' σ H' D I ⟨Ech, hW, h1, h2, h3⟩ => (pss_one (ps_ret (pos := p3) (act W pn xe Ech p1 p2 tk hW))).run pins s' σ H' D I ⟨h1, h2, h3⟩⟩
  · exact ⟨fun cls _ H' => Chn X.K l cls H' Q, fun cls d σ' H' z => many_chn (D := { nx := fun _ H' => Q .non H', rt := Q }) z, hN f, hc, h⟩
end
theorem among_app2 {pos p' : Pos} {c cv : Value} (l : List Value) (h : TriplesOk l) (hc : codeAmong p' (l ++ [rawInt pos.line, rawInt pos.col, c]) = some cv) : codeAmong p' l = some cv ∨ cv = c ∧ p'.line = pos.line ∧ p'.col = pos.col := by
  fun_induction TriplesOk l with
  | case1 =>
    simp only [List.nil_append, rawInt, codeAmong] at hc
    split at hc
    · rename_i q
      refine .inr ⟨(Option.some.inj hc).symm, ?_⟩
      simp only [Bool.and_eq_true, beq_iff_eq] at q
      omega
    · cases hc
  | case2 a t b u x rest ih =>
    simp only [List.cons_append, codeAmong] at hc ⊢
    split at hc
    · rename_i q
      rw [if_pos q]
      exact .inl hc
    · rename_i q
      rw [if_neg q]
      exact ih h hc
  | case3 l h1 h2 => exact h.elim
theorem mix_tb {T : Tb} {H H' : Hp} {P : Addr} {k0 : Tk} (h : TbOk T H) (hm : (P, k0) ∈ T) (hu : ∀ p ∈ T, p.1 = P → p.2 = k0) (sm : ∀ b o, H b = some o → b ≠ P → H' b = some o) (ex : LamX.ExtN H H') (hn : TbE H' P k0) : TbOk T H' := fun p hp => by
  obtain ⟨a, k⟩ := p
  by_cases hb : a = P
  · have hk : k = k0 := hu _ hp hb
    rw [hb, hk]
    exact hn
  · have h0 := h _ hp
    cases k with
    | plain q =>
      obtain ⟨qs, a1, a2, a3⟩ := h0
      refine ⟨qs, sm _ _ a1 hb, a2, fun p' cv hcv' => ?_⟩
      obtain ⟨c0, e1, e2⟩ := a3 p' cv hcv'
      exact ⟨c0, e1, ex _ _ e2 LamX.codeO_ne⟩
    | nest z9 =>
      obtain ⟨qs, a1, a2, a3⟩ := h0
      refine ⟨qs, sm _ _ a1 hb, a2, fun p' cv hcv' => ?_⟩
      obtain ⟨c0, P0, e1, e2, e3⟩ := a3 p' cv hcv'
      exact ⟨c0, P0, e1, ex _ _ e2 (fun _ z => by unfold CodeT at z; cases z), ex _ _ e3 (fun _ z => by unfold PTab at z; cases z)⟩
    | own =>
      obtain ⟨P0, q, e2, e3⟩ := h0
      exact ⟨P0, q, ex _ _ e2 (fun _ z => by unfold CodeT at z; cases z), ex _ _ e3 (fun _ z => by unfold PTab at z; cases z)⟩
    | mix ls q =>
      obtain ⟨qs, a1, a2, a3⟩ := h0
      refine ⟨qs, sm _ _ a1 hb, a2, fun p' cv hcv' => ?_⟩
      obtain ⟨c0, e1, e2⟩ := a3 p' cv hcv'
      exact ⟨c0, e1, fun l => ex _ _ (e2 l) LamX.codeO_ne⟩
section
variable {X : Cx} {pins : List (Addr × Obj)} {σ : L2.St} {H : Hp} {s : Shared}
def OthT (P : Addr) (H H1 : Hp) : Prop := ∀ b ps, b ≠ P → H b = some (.tbl ps) → H1 b = some (.tbl ps)
structure LamAt (X : Cx) (T : List (Addr × Str)) (P : Addr) (params : Arguments) (body : Expr) (scope : Scope) (H H1 : Hp) (f c' : Addr) (pm ctv : Value) (s' : Shared) : Prop where
  ext : LamX.ExtN H H1
  tabs : LamX.Tabs T H1
  oth : OthT P H H1
  obj : s'.heap.get? f = some (PySem.W.kla_obj "<lambda>" (X.env.qual ++ "<lambda>") params body scope (cloFrom X.env.cells scope.names []) pm c' ctv)
  free : H1 f = none
  nofr : f ∉ frs X.stack
  code : H1 c' = some (LamX.CodeO c' (X.env.qual ++ "<lambda>"))
theorem lam_laid {T : List (Addr × Str)} {c P : Addr} {params : Arguments} {body : Expr} {scope : Scope} {pos : Pos} {E Q : Value → Shared → Prop} (I : Inv X pins σ H s) (B : LamX.TabB X.base X.mg c P) (hcode : X.env.code = .ref c)
    (hm : (P, X.env.qual ++ "<lambda>") ∈ T) (hu : ∀ p ∈ T, p.1 = P → p.2 = X.env.qual ++ "<lambda>") (hT : LamX.Tabs T H) (hdef : defaultsOf params X.env = ([], [])) (hfree : ∀ y ∈ scope.names, y.2 = .free → ∃ c, X.env.cells.lookup y.1 = some c)
    (h : ∀ (f c' : Addr) (pm ctv : Value) (H1 : Hp) (s' : Shared), Inv X pins σ H1 s' → LamAt X T P params body scope H H1 f c' pm ctv s' → Q (.ref f) s') :
    wpAny (model X.prog X.w) X.A (eval (.Lambda params body scope pos) X.env) Q E s := by
  obtain ⟨ps, hP, ht, ha⟩ := hT _ hm
  have bP : s.heap.BuiltinsAt X.mg P := B.bm.keeps I.bk
  have oP : s.heap.get? P = some { cls := .none, data := .fields ps } := I.hok P _ hP
  have away : ∀ f : Addr, s.heap.objs.size ≤ f → f ∉ frs X.stack := fun f hf z => (List.mem_cons.mp (I.stkSub _ z)).elim
    (fun e => absurd (Nat.lt_of_lt_of_le (show f < s.heap.objs.size by rw [e]; exact I.lt) hf) (Nat.lt_irrefl _)) (fun e => I.nofs hf e)
  refine PySem.W.kla_eval hdef ?_
  cases hf : codeAmong pos ps.toList with
  | some cv =>
    obtain ⟨c', rfl, hco⟩ := ha pos cv hf
    refine PySem.W.kla_makeFunctionHit (mg := X.mg) (c := c) (P := P) (ps := ps) (closure_ok hfree) I.ok.glob (I.mod.glob.keeps I.bk) hcode (B.code.keeps I.bk) oP ht hf bP fun ctv h' tk hx hsz => ?_
    exact h _ c' _ ctv H _ (I.kept fun b o e => Heap.get?_push_of_some _ (hx b o e)) ⟨.refl H, hT, fun _ _ _ e => e, Heap.get?_push_size _ rfl, I.hok.fresh hsz, away _ hsz, hco⟩
  | none =>
    refine PySem.W.kla_makeFunction (mg := X.mg) (c := c) (P := P) (ps := ps) (closure_ok hfree) I.ok.glob (I.mod.glob.keeps I.bk) hcode (B.code.keeps I.bk) oP ht hf B.gP bP fun c' ctv h' tk hx hge hlt hrec htb => ?_
    obtain ⟨c2, oc, vs, t, e2, hoc, hd, hv⟩ := hrec
    cases e2
    have big : s.heap.objs.size ≤ h'.objs.size := Nat.le_trans hge (Nat.le_of_lt hlt)
    have nC : H c' = none := I.hok.fresh hge
    have oth : OthT P H (upd (upd H P (.tbl (ps ++ #[rawInt pos.line, rawInt pos.col, .ref c']))) c' (LamX.CodeO c' (X.env.qual ++ "<lambda>"))) := fun b qs hb e => by
      rw [upd_ne (ne_of_none e nC), upd_ne hb]; exact e
    have ex : LamX.ExtN H (upd (upd H P (.tbl (ps ++ #[rawInt pos.line, rawInt pos.col, .ref c']))) c' (LamX.CodeO c' (X.env.qual ++ "<lambda>"))) := fun b o e n => by
      have nb : b ≠ P := fun z => by rw [z, hP] at e; exact n ps (Option.some.inj e).symm
      rw [upd_ne (ne_of_none e nC), upd_ne nb]; exact e
    have J := LamX.inv_table (t' := tk) (more := #[rawInt pos.line, rawInt pos.col, .ref c']) (h' := h'.push (PySem.W.kla_obj "<lambda>" (X.env.qual ++ "<lambda>") params body scope (cloFrom X.env.cells scope.names []) ((X.mg "__name__").getD .none) c' ctv)) I hP
      (fun b o hb e => Heap.get?_push_of_some _ (hx b o hb e)) (Heap.get?_push_of_some _ htb) hge ⟨oc, vs, t, Heap.get?_push_of_some _ hoc, hd, hv⟩
    have tl : (ps ++ #[rawInt pos.line, rawInt pos.col, .ref c']).toList = ps.toList ++ [rawInt pos.line, rawInt pos.col, .ref c'] := by simp
    refine h h'.objs.size c' _ ctv _ _ J ⟨ex, fun p hp => ?_, oth, Heap.get?_push_size _ rfl, ?_, away _ big, upd_same⟩
    · have old : ∀ {qs : Array Value} {q : Str}, (∀ pos' cv, codeAmong pos' qs.toList = some cv → ∃ d, cv = .ref d ∧ H d = some (LamX.CodeO d q)) → ∀ pos' cv, codeAmong pos' qs.toList = some cv → ∃ d, cv = .ref d ∧ upd (upd H P (.tbl (ps ++ #[rawInt pos.line, rawInt pos.col, .ref c']))) c' (LamX.CodeO c' (X.env.qual ++ "<lambda>")) d = some (LamX.CodeO d q) := fun k pos' cv hcv => by
        obtain ⟨d, e1, e2⟩ := k pos' cv hcv
        exact ⟨d, e1, ex _ _ e2 LamX.codeO_ne⟩
      by_cases hb : p.1 = P
      · have hq := hu p hp hb
        rw [hq, hb]
        refine ⟨_, by rw [upd_ne (ne_of_none hP nC), upd_same], by rw [tl]; exact PySem.TriplesOk_snoc _ _ _ _ ht, fun pos' cv hcv => ?_⟩
        rw [tl] at hcv
        exact (LamX.among_app _ ht hcv).elim (fun z => old ha pos' cv z) fun z => ⟨c', z, upd_same⟩
      · obtain ⟨qs, a1, a2, a3⟩ := hT p hp
        exact ⟨qs, oth _ _ hb a1, a2, old a3⟩
    · have n2 : h'.objs.size ≠ P := Nat.ne_of_gt (Nat.lt_of_lt_of_le (Heap.lt_size oP) big)
      rw [upd_ne (Nat.ne_of_gt hlt), upd_ne n2]
      exact I.hok.fresh big
end
def tLamO (T : List (Addr × Str)) (P : Addr) (TT : (XK → Hp → VK → Prop) → Hp → VK → Prop) (t : XK → TE) : TE := fun σ H Q => LamX.Tabs T H ∧ ∀ H1, LamX.ExtN H H1 → LamX.Tabs T H1 → OthT P H H1 → TT (fun E H' Q' => t E σ H' Q') H1 Q
theorem pe_lamO {X : Cx} {T : List (Addr × Str)} {TT : (XK → Hp → VK → Prop) → Hp → VK → Prop} {x a : Str} {g c P : Addr} {k : Nat} {pg : Arguments} {bg : List Stmt} {sg : Scope} {dV kV doc pm cdv ct oc : Value} {an od : Option Addr} {osl : Array (Option Value)} {Ng : List Str}
    {params : Arguments} {body : Expr} {scope : Scope} {t : XK → TE} {p lpos pos : Pos} (hg : Gl X x) (hm : X.mg x = some (.ref g)) (hk : PySem.W.keepIn X.K (.ref g) = true) (lk : X.K.lookup g = some ⟨oc, od, .func (PySem.W.fnOf x x pg bg sg dV kV doc pm an cdv ct), osl⟩)
    (hcg : PySem.W.codeIn X.K cdv x = true) (hb : L2.Binds X.K (PySem.W.fnOf x x pg bg sg dV kV doc pm an cdv ct) [a] []) (Sg : FnScope Ng [a] sg) (hNg : Ng[0]? = some a) (hva : Vis sg a) (hG : LamX.GivesTo X Ng x sg g cdv bg a (X.env.qual ++ "<lambda>") TT)
    (B : LamX.TabB X.base X.mg c P) (hcode : X.env.code = .ref c) (hmT : (P, X.env.qual ++ "<lambda>") ∈ T) (hu : ∀ p ∈ T, p.1 = P → p.2 = X.env.qual ++ "<lambda>") (hr : Room (k + 2) X.A) (L : LamX.LamS X.env.scope scope) (hdef : defaultsOf params X.env = ([], []))
    (hbind : ∀ (q : Str) (cl : List (Str × Addr)) (pm cv ctv : Value), bindArgs (PySem.W.kla_fn "<lambda>" q params body scope cl pm cv ctv) ⟨[], []⟩ = pure [])
    (hbody : ∀ (A : Around) (outer : List Env) (s : Shared) (H : Hp) (E : XK) (f c' : Addr), Room k (A.deeper (LamX.lamEnv X scope s.heap.objs.size f c')) → PE (LamX.lamCx X A outer s H E scope f c') body (t E))
    (hdb : (x == ("__debug__" : Str)) = false) (hd : (a == ("__debug__" : Str)) = false) (hcd : (a == ("__classdict__" : Str)) = false) : PE X (.Call (.Name x p) [.Lambda params body scope lpos] [] pos) (tLamO T P TT t) := by
  refine ⟨fun pins s σ H Q I ⟨hT, h⟩ => ?_⟩
  refine wpAny_Call_Name_kw (ld_glob I hg hm (PySem.W.callWith_K (h₀ := X.base) I.ok.mod.kin hk ?_ (by rfl) (by rfl)) hdb)
  show wpAny _ _ (spliced ((false, eval (.Lambda params body scope lpos) X.env) :: backTo pos (starEach [] X.env))) _ _ s
  refine Calls.spliced_cons (lam_laid I B hcode hmT hu hT hdef (L.has I.ok) fun f c' pm' ctv H1 s' J M => Calls.spliced_nil ⟨J.kIn, ?_⟩)
  have run : codeAny (model X.prog X.w) X.A (.call (.ref g) ⟨[.ref f], []⟩) (CR C8.CX0 X.stack X.prog X.w H1 s' Q C8.E0) s' :=
    LamX.run_ofS (N := Ng) (ps := [a]) (us := [.ref f]) (vs := [.ref f]) lk hcg Sg hr J.env0 (hb s' [.ref f] J.kIn rfl) (.cons rfl .nil) rfl fun hr' => by
      obtain ⟨t', h1, h2⟩ := hG f c' s' H1 Q (fun E H' Q' => t E σ H' Q') (fun W pn xe E p1 p2 tk hW => LamX.pe_act (i := 0) J L M.obj M.free M.nofr (hbind _ _ _ _ _) tk hW hr' (fun A outer s H hr2 => hbody A outer s H E f c' hr2) hNg hva hd hcd) M.code (h H1 M.ext M.tabs M.oth)
      exact ⟨t', h1.nox, h2⟩
  refine wpAny_call (codeAny_mono run fun r s2 hq => ?_)
  match r, hq with
  | .ok (.ret u), hq => exact J.after hq
  | .ok .next, hq => exact hq.elim
  | .ok .brk, hq => exact hq.elim
  | .ok .cont, hq => exact hq.elim
  | .error e, hq => exact (show False from hq).elim
structure Told (X : Cx) (x : Str) (l : Cls_) : Prop where
  ex : ∃ (a : Str) (g : Addr) (pg : Arguments) (bg : List Stmt) (sg : Scope) (dV kV doc pm cdv ct oc : Value) (an od : Option Addr) (osl : Array (Option Value)) (Ng : List Str),
    X.mg x = some (.ref g) ∧ PySem.W.keepIn X.K (.ref g) = true ∧ X.K.lookup g = some ⟨oc, od, .func (PySem.W.fnOf x x pg bg sg dV kV doc pm an cdv ct), osl⟩ ∧ PySem.W.codeIn X.K cdv x = true ∧
    L2.Binds X.K (PySem.W.fnOf x x pg bg sg dV kV doc pm an cdv ct) [a] [] ∧ FnScope Ng [a] sg ∧ Ng[0]? = some a ∧ Vis sg a ∧ (a == ("__debug__" : Str)) = false ∧ (a == ("__classdict__" : Str)) = false ∧
    ∀ q, LamX.GivesTo X Ng x sg g cdv bg a q (TTm X.K l)
structure Tbl (X : Cx) (T : Tb) (q : Tk) : Prop where
  ex : ∃ c P, LamX.TabB X.base X.mg c P ∧ X.env.code = .ref c ∧ (P, q) ∈ T ∧ ∀ p ∈ T, p.1 = P → p.2 = q
abbrev lamY (Y : DX) (k : Nat) (A : Around) (outer : List Env) (s1 : Shared) (Hc : Hp) (E : XK) (scope : Scope) (f c' : Addr) (H F : Hp) (gs : Gs) (ex : Exc → DSt → Prop) : DX :=
  ⟨LamX.lamCx Y.X A outer s1 Hc E scope f c', Y.T, k, H, F, ads gs, ex⟩
section
variable {Y : DX} {s : DSt} {e : Expr} {pos p lpos : Pos} {Q : Pv → DSt → Prop}
theorem ev_told {x : Str} {l : Cls_} {params : Arguments} {body : Expr} {scope : Scope} {k : Nat} (G : Told Y.X x l) (tb : Tbl Y.X Y.T (.plain (Y.X.env.qual ++ "<lambda>"))) (ok : YOk Y) (hk : k + 2 ≤ Y.k) (hg : Gl Y.X x) (L : LamX.LamS Y.X.env.scope scope)
    (h : ∀ (A : Around) (outer : List Env) (s1 : Shared) (Hc : Hp) (E : XK) (f c' : Addr) (H F : Hp), let Y' := lamY Y k A outer s1 Hc E scope f c' H F s.gs fun e s' => ∃ t, Tell Y.X.K l e.C t ∧ Q (pu t) ⟨s.ρ, s'.gs⟩
      YOk Y' → Ev Y' s body fun A s' => Q A ⟨s.ρ, s'.gs⟩)
    (hdef : defaultsOf params Y.X.env = ([], []) := by rfl) (hbind : ∀ (q : Str) (cl : List (Str × Addr)) (pm cv ctv : Value), bindArgs (PySem.W.kla_fn "<lambda>" q params body scope cl pm cv ctv) ⟨[], []⟩ = pure [] := by intros; rfl)
    (hdb : (x == ("__debug__" : Str)) = false := by decide) : Ev Y s (.Call (.Name x p) [.Lambda params body scope lpos] [] pos) Q := fun F0 σ H F e0 S => by
  obtain ⟨a, g, pg, bg, sg, dV, kV, doc, pm, cdv, ct, oc, an, od, osl, Ng, g1, g2, g3, g4, g5, g6, g7, g8, g9, g10, g11⟩ := G.ex
  obtain ⟨c, P, b1, b2, b3, b4⟩ := tb.ex
  refine .of (pe_lamO (k := k) (t := fun E σ H1 Q1 => ∀ (A : Around) (outer : List Env) (s1 : Shared) (Hc : Hp) (f c' : Addr), Room k (A.deeper (LamX.lamEnv Y.X scope s1.heap.objs.size f c')) → WE (LamX.lamCx Y.X A outer s1 Hc E scope f c') body σ H1 Q1)
    hg g1 g2 g3 g4 g5 g6 g7 g8 (g11 _) b1 b2 (plainT_mem.mpr b3) (fun p hp e => by have h9 := b4 (p.1, .plain p.2) (plainT_mem.mp hp) e; injection h9) (ok.room.mono hk) L hdef hbind (fun A outer s1 Hc E f c' hr => ⟨fun pins s2 σ2 H2 Q2 I q => (q A outer s1 Hc f c' hr).run pins s2 I⟩) hdb g9 g10) ⟨S.tb.tabs, fun H1 eN t1 ot => ?_⟩
  have S1 := S.extN eN t1 fun b ps hn e => ot b ps (fun z => by rcases hn with ⟨_, hn⟩ | ⟨_, _, hn⟩ <;> (have h9 := b4 _ hn z; cases h9)) e
  show ∀ (A : Around) (outer : List Env) (s1 : Shared) (Hc : Hp) (f c' : Addr), Room k (A.deeper (LamX.lamEnv Y.X scope s1.heap.objs.size f c')) → WE (LamX.lamCx Y.X A outer s1 Hc _ scope f c') body σ H1 _
  intro A outer s1 Hc f c' hr
  have back : ∀ {s' : DSt} {σ' : St} {H' F' : Hp}, Sta (lamY Y k A outer s1 Hc (fun cls _ H' => Chn Y.X.K l cls H' (Po Y σ F0 Q)) scope f c' H1 F s.gs fun e s' => ∃ t, Tell Y.X.K l e.C t ∧ Q (pu t) ⟨s.ρ, s'.gs⟩) s' σ' H' F' → Sta Y ⟨s.ρ, s'.gs⟩ σ H' F' := fun {s' σ' H' F'} S' => by
    have := S1.called (gs1 := s.gs) (gs2 := []) (gs1' := s'.gs) (by rw [List.append_nil]) S'.stg S'.st
    rwa [List.append_nil] at this
  have tk0 : Takes (LamX.lamCx Y.X A outer s1 Hc (fun cls _ H' => Chn Y.X.K l cls H' (Po Y σ F0 Q)) scope f c') (fun cls d _ H' => Chn Y.X.K l cls H' (Po Y σ F0 Q)) := takes_of rfl rfl rfl rfl
  have ok' : YOk (lamY Y k A outer s1 Hc (fun cls _ H' => Chn Y.X.K l cls H' (Po Y σ F0 Q)) scope f c' H1 F s.gs fun e s' => ∃ t, Tell Y.X.K l e.C t ∧ Q (pu t) ⟨s.ρ, s'.gs⟩) :=
    ⟨rfl, ok.nd, hr, passes_of rfl, tk0.imp fun cls d σ' H' ⟨e, s', F', S', er, t, ht, q⟩ => by
      obtain ⟨ec, _⟩ := er
      subst ec
      refine tell_chn ht ⟨pu t, ⟨s.ρ, s'.gs⟩, F', e0.trans S'.st.ff, rfl, back S', q⟩⟩
  refine (h A outer s1 Hc _ f c' H1 F ok' F σ H1 F (.refl _) ⟨S1.ext, S1.ntb, S1.rep, S1.own, S1.nd, S1.tb, Step.refl⟩).mono fun v H' ⟨A', s', F', e1, r, S', q⟩ => ?_
  exact ⟨A', ⟨s.ρ, s'.gs⟩, F', e0.trans e1, r, back S', q⟩
end
end Sp
set_option maxHeartbeats 4000000
namespace Sp
open PySem L2
open PySem.W (Datum DatumOrd SomeDatum)
structure GenOk (N : List Str) (sc scope : Scope) (vs : List Nat) : Prop where
  kind : scope.kind = .function
  co : scope.isCoroutine = false
  nd : (scope.names.map (·.1)).Nodup
  dot : scope.names.lookup (".0" : Str) = some NameKind.local
  free : ∀ y ∈ scope.names, y.2 = .free → sc.names.lookup y.1 = some .cell ∨ sc.names.lookup y.1 = some .free
  own : ∀ (i : Nat) (y : Str), N[i]? = some y → scope.names.lookup y = some NameKind.local ∨ scope.names.lookup y = some NameKind.cell → i ∈ vs
def genOkB (N : List Str) (sc scope : Scope) (vs : List Nat) : Bool :=
  decide (scope.kind = .function) && !scope.isCoroutine && (scope.names.all fun y => !decide (y.2 = .free) || decide (sc.names.lookup y.1 = some .cell) || decide (sc.names.lookup y.1 = some .free)) &&
    decide (scope.names.lookup (".0" : Str) = some NameKind.local) && ((List.range N.length).all fun i => decide (i ∈ vs) || (!decide (scope.names.lookup (N.getD i "") = some NameKind.local) && !decide (scope.names.lookup (N.getD i "") = some NameKind.cell))) && decide (scope.names.map (·.1)).Nodup
theorem genOk_by {N : List Str} {sc scope : Scope} {vs : List Nat} (h : genOkB N sc scope vs = true) : GenOk N sc scope vs := by
  unfold genOkB at h
  simp only [Bool.and_eq_true, Bool.or_eq_true, Bool.not_eq_true', decide_eq_true_eq, decide_eq_false_iff_not, List.all_eq_true] at h
  obtain ⟨⟨⟨⟨⟨h1, h2⟩, h3⟩, h4⟩, h5⟩, h6⟩ := h
  refine ⟨h1, h2, h6, h4, fun y hy e => ?_, fun i y hi hl => ?_⟩
  · rcases h3 y hy with (z | z) | z
    · exact absurd e z
    · exact .inl z
    · exact .inr z
  · obtain ⟨hl', e⟩ := List.getElem?_eq_some_iff.mp hi
    rcases h5 i (List.mem_range.mpr hl') with z | z
    · exact z
    · rw [List.getD_eq_getElem?_getD, hi] at z
      rcases hl with hl | hl
      · exact absurd hl z.1
      · exact absurd hl z.2
theorem cellsFrom_app : ∀ (l : List (Str × NameKind)) (n : Nat) (acc : List (Str × Addr)), cellsFrom n l acc = cellsFrom n l [] ++ acc
  | [], _, _ => rfl
  | (x, k) :: r, n, acc => by
    unfold cellsFrom
    by_cases h : (k == NameKind.cell) = true
    · rw [if_pos h, if_pos h, cellsFrom_app r (n + 1) ((x, n) :: acc), cellsFrom_app r (n + 1) [(x, n)], List.append_assoc]
      rfl
    · rw [if_neg h, if_neg h]
      exact cellsFrom_app r n acc
theorem cellsFrom_mem : ∀ (l : List (Str × NameKind)) (n : Nat) {y : Str} {c : Addr}, (y, c) ∈ cellsFrom n l [] → (y, NameKind.cell) ∈ l
  | [], _, _, _, h => by cases h
  | (x, k) :: r, n, y, c, h => by
    unfold cellsFrom at h
    by_cases e : (k == NameKind.cell) = true
    · rw [if_pos e, cellsFrom_app, List.mem_append] at h
      rcases h with h | h
      · exact List.mem_cons_of_mem _ (cellsFrom_mem r (n + 1) h)
      · cases List.mem_singleton.mp h
        rw [show k = NameKind.cell from eq_of_beq e]
        exact List.mem_cons_self
    · rw [if_neg e] at h
      exact List.mem_cons_of_mem _ (cellsFrom_mem r n h)
theorem cellsFrom_has : ∀ (l : List (Str × NameKind)) (n : Nat) {y : Str}, (y, NameKind.cell) ∈ l → ∃ c, (y, c) ∈ cellsFrom n l []
  | (x, k) :: r, n, y, h => by
    unfold cellsFrom
    by_cases e : (k == NameKind.cell) = true
    · rw [if_pos e, cellsFrom_app]
      rcases List.mem_cons.mp h with h | h
      · cases h
        exact ⟨n, List.mem_append_right _ (List.mem_singleton.mpr rfl)⟩
      · obtain ⟨c, hc⟩ := cellsFrom_has r (n + 1) h
        exact ⟨c, List.mem_append_left _ hc⟩
    · rw [if_neg e]
      rcases List.mem_cons.mp h with h | h
      · cases h
        exact absurd rfl e
      · exact cellsFrom_has r n h
theorem lookup_app {α : Type} (y : Str) : ∀ (l m : List (Str × α)), (l ++ m).lookup y = (l.lookup y).or (m.lookup y)
  | [], m => by simp
  | (x, a) :: l, m => by
    rw [List.cons_append, List.lookup_cons, List.lookup_cons]
    cases y == x with
    | true => rfl
    | false => exact lookup_app y l m
theorem nd_kind : ∀ {l : List (Str × NameKind)}, (l.map (·.1)).Nodup → ∀ {y : Str} {k k' : NameKind}, (y, k) ∈ l → (y, k') ∈ l → k = k'
  | p :: l, n, y, k, k', h, h' => by
    rw [List.map_cons, List.nodup_cons] at n
    rcases List.mem_cons.mp h with h1 | h1
    · rcases List.mem_cons.mp h' with h2 | h2
      · rw [← h1] at h2; injection h2 with _ e; exact e.symm
      · exact absurd (show p.1 ∈ l.map (·.1) by rw [← h1]; exact List.mem_map.mpr ⟨(y, k'), h2, rfl⟩) n.1
    · rcases List.mem_cons.mp h' with h2 | h2
      · exact absurd (show p.1 ∈ l.map (·.1) by rw [← h2]; exact List.mem_map.mpr ⟨(y, k), h1, rfl⟩) n.1
      · exact nd_kind n.2 h1 h2
def genCx (X : Cx) (A : Around) (env : Env) (s : Shared) (H : Hp) (fp : List Addr) : Cx where
  prog := X.prog
  w := X.w
  K := X.K
  mg := X.mg
  base := X.base
  A := A
  N := X.N
  s_0 := s
  H_0 := H
  env := env
  outer := X.stack
  stack := env :: X.stack
  ex := fp
  fn := fun y => decide (env.scope.names.lookup y = some NameKind.cell)
  calm := true
  pn := []
  xe := fun _ _ => False
abbrev genCl (cells : List (Str × Addr)) (scope : Scope) (C : Addr) : List (Str × Addr) := cellsFrom (C + 1) scope.names (cloFrom cells scope.names [])
section
variable {X : Cx} {pins : List (Addr × Obj)} {σ : St} {H : Hp} {s : Shared}
theorem genCl_cases {scope : Scope} {vs : List Nat} {C : Addr} (ok : X.Ok) (G : GenOk X.N X.env.scope scope vs) {y : Str} {c : Addr} (e : (genCl X.env.cells scope C).lookup y = some c) :
    ((y, c) ∈ cellsFrom (C + 1) scope.names [] ∧ (y, NameKind.cell) ∈ scope.names) ∨ (X.env.cells.lookup y = some c ∧ (y, NameKind.free) ∈ scope.names) := by
  unfold genCl at e
  rw [cellsFrom_app, lookup_app] at e
  cases h : (cellsFrom (C + 1) scope.names []).lookup y with
  | some d =>
    rw [h] at e
    have e' : d = c := Option.some.inj e
    subst e'
    have hm := PySem.mem_of_lookup h
    exact .inl ⟨hm, cellsFrom_mem _ _ hm⟩
  | none =>
    rw [h] at e
    have e' : (cloFrom X.env.cells scope.names []).lookup y = some c := e
    rcases cloFrom_mem (PySem.mem_of_lookup e') with hm | ⟨h1, h2⟩
    · cases hm
    · have hf : ∃ c, X.env.cells.lookup y = some c := by
        rcases G.free _ h1 rfl with k | k
        · exact ok.has _ (.inl k)
        · exact ok.has _ (.inr k)
      obtain ⟨c1, hc⟩ := hf
      exact .inr ⟨by rw [hc, show c = c1 by rw [h2, hc] <;> rfl], h1⟩
theorem genCl_free {scope : Scope} {vs : List Nat} {C : Addr} (G : GenOk X.N X.env.scope scope vs) {y : Str} (hy : (y, NameKind.free) ∈ scope.names) : (genCl X.env.cells scope C).lookup y = (cloFrom X.env.cells scope.names []).lookup y := by
  unfold genCl
  rw [cellsFrom_app, lookup_app]
  cases h : (cellsFrom (C + 1) scope.names []).lookup y with
  | some d => cases nd_kind G.nd hy (cellsFrom_mem _ _ (PySem.mem_of_lookup h))
  | none => rfl
theorem gen_start {A : Around} {scope : Scope} {vs : List Nat} {code : Value} {fp : List Addr} {h' : Heap} {g' : Array GenState} {tk : Nat} {m0 : Str → Option Value} (I : Inv X pins σ H s) (G : GenOk X.N X.env.scope scope vs) (hA : A.frames = some (genEnv scope (genCl X.env.cells scope s.heap.objs.size) s.heap.objs.size code builtinsNs X.env :: X.stack)) (hd : A.handled = none)
    (hfp : ∀ b ∈ fp, FpOk X pins H b ∧ b < s.heap.objs.size) (hn : h'.Ns s.heap.objs.size m0) (ce : CellsOk h' (s.heap.objs.size + 1) (cellsFrom (s.heap.objs.size + 1) scope.names [])) (kp : ∀ b o, s.heap.get? b = some o → h'.get? b = some o) (hg : PyProof.Rows.AllBare g') :
    Inv (genCx X A (genEnv scope (genCl X.env.cells scope s.heap.objs.size) s.heap.objs.size code builtinsNs X.env) s H fp) [] (L2.wipe σ vs) H { s with heap := h', gens := g', toks := tk } := by
  have cm : ∀ {y c}, (genCl X.env.cells scope s.heap.objs.size).lookup y = some c → ((y, c) ∈ cellsFrom (s.heap.objs.size + 1) scope.names [] ∧ (y, NameKind.cell) ∈ scope.names) ∨ (X.env.cells.lookup y = some c ∧ (y, NameKind.free) ∈ scope.names) := fun {y c} e => genCl_cases I.ok G e
  have newc : ∀ {y c}, (y, c) ∈ cellsFrom (s.heap.objs.size + 1) scope.names [] → s.heap.objs.size < c := fun {y c} h => (ce.empty y c h).2
  have oldc : ∀ {y c}, X.env.cells.lookup y = some c → c < s.heap.objs.size := fun {y c} h => by
    obtain ⟨v, hv⟩ := I.cell y c h
    exact hv.lt
  have look : ∀ {y}, scope.names.lookup y = some .free → ∃ c, (genCl X.env.cells scope s.heap.objs.size).lookup y = some c := fun {y} hl => by
    have hm := PySem.mem_of_lookup hl
    rw [genCl_free G hm]
    exact mem_lookup (cloFrom_has (cells := X.env.cells) (acc := []) hm)
  have isc : ∀ {c : Addr} {v : Option Value}, s.heap.IsCell c v → h'.IsCell c v := fun {c v} ⟨o, ho, hd⟩ => ⟨o, kp _ _ ho, hd⟩
  refine ⟨⟨I.ok.mod, G.kind, I.ok.glob, rfl, Nat.le_refl _, fun y z c e1 e2 => ?_, fun y hy => ?_, fun y c z e => ?_, fun _ => hd, hA, .inr ⟨rfl, rfl⟩, fun b hb => ⟨?_, fun y c e z => ?_⟩, I.bs, Nat.le_trans I.ok.bsz I.sz, fun b o e hb => ?_, fun b hb z => ?_, I.stack, I.stkFree⟩,
    rfl, hg, Un.kept kp, ⟨m0, hn, fun i y v e1 e2 e3 => ?_⟩, fun y c e => ?_, I.hok.fresh (Nat.le_refl _), fun y c e => ?_, fun q hq => absurd (show q ∈ ([] : List (Addr × Obj)) ++ [] from hq) (by simp), I.hok.kept kp, by rw [wipe_length]; exact I.len⟩
  · rcases cm e1 with ⟨a1, _⟩ | ⟨a1, _⟩
    · rcases cm e2 with ⟨a2, _⟩ | ⟨a2, _⟩
      · exact PySem.name_of_addr ce.apart a1 a2
      · exact absurd (Nat.lt_trans (newc a1) (oldc a2)) (Nat.lt_irrefl _)
    · rcases cm e2 with ⟨a2, _⟩ | ⟨a2, _⟩
      · exact absurd (Nat.lt_trans (newc a2) (oldc a1)) (Nat.lt_irrefl _)
      · exact I.ok.inj y z c a1 a2
  · have hy : scope.names.lookup y = some .cell ∨ scope.names.lookup y = some .free := hy
    rcases hy with hy | hy
    · obtain ⟨c, hc⟩ := cellsFrom_has scope.names (s.heap.objs.size + 1) (PySem.mem_of_lookup hy)
      have hm : (y, c) ∈ genCl X.env.cells scope s.heap.objs.size := by
        unfold genCl
        rw [cellsFrom_app]
        exact List.mem_append_left _ hc
      exact mem_lookup hm
    · exact look hy
  · have z : scope.names.lookup y = some NameKind.cell := of_decide_eq_true z
    rcases cm e with ⟨a1, _⟩ | ⟨_, a2⟩
    · exact Nat.le_of_lt (newc a1)
    · cases nd_kind G.nd (PySem.mem_of_lookup z) a2
  · exact Nat.ne_of_lt (hfp b hb).2
  · rcases cm e with ⟨a1, _⟩ | ⟨a1, _⟩
    · rw [z] at a1
      exact absurd (Nat.lt_trans (newc a1) (hfp b hb).2) (Nat.lt_irrefl _)
    · exact (hfp b hb).1.2.2.2.2.1 y c a1 z
  · obtain ⟨_, _, _, q, _⟩ := (hfp b hb).1
    rcases q with q | q
    · exact I.ok.noex b o e q
    · exact absurd (Nat.lt_of_lt_of_le (Heap.lt_size e) (Nat.le_trans I.ok.bsz q)) (Nat.lt_irrefl _)
  · rcases List.mem_cons.mp (I.stkSub b z) with q | q
    · exact (hfp b hb).1.2.1 q
    · exact (hfp b hb).1.2.2.1 q
  · have e3 : Vis scope y := e3
    obtain ⟨w1, w2⟩ := wipe_some e2
    rcases e3 with k | k | k
    · exact absurd (G.own i y e1 (.inl k)) w2
    · exact absurd (G.own i y e1 (.inr k)) w2
    · obtain ⟨m, hn', hl⟩ := I.loc
      have hvis : Vis X.env.scope y := (G.free _ (PySem.mem_of_lookup k) rfl).elim (fun k => .inr (.inl k)) (fun k => .inr (.inr k))
      obtain ⟨w', r, q⟩ := hl i y v e1 w1 hvis
      obtain ⟨c2, h2⟩ := look k
      refine ⟨w', r, .inr ⟨.inr k, c2, h2, ?_⟩⟩
      rcases q with ⟨k', _⟩ | ⟨_, c3, e', z⟩
      · have k' : X.env.scope.names.lookup y = some .local := k'
        rcases G.free _ (PySem.mem_of_lookup k) rfl with k2 | k2 <;> rw [show X.env.scope.names.lookup y = _ from k2] at k' <;> cases k'
      · rcases cm h2 with ⟨_, a2⟩ | ⟨a1, _⟩
        · cases nd_kind G.nd (PySem.mem_of_lookup k) a2
        · rw [a1] at e'
          cases e'
          exact isc z
  · rcases cm e with ⟨a1, _⟩ | ⟨a1, _⟩
    · exact ⟨none, (ce.empty y c a1).1⟩
    · obtain ⟨w', z⟩ := I.cell y c a1
      exact ⟨w', isc z⟩
  · rcases cm e with ⟨a1, _⟩ | ⟨a1, _⟩
    · exact I.hok.fresh (Nat.le_of_lt (newc a1))
    · exact I.freeC y c a1
end
structure GCx where
  A : Around
  C : Addr
  code : Addr
  s : Shared
  H : Hp
  fp : List Addr
abbrev genE (Y : DX) (scope : Scope) (z : GCx) : Env := genEnv scope (genCl Y.X.env.cells scope z.C) z.C (.ref z.code) builtinsNs Y.X.env
abbrev genX (Y : DX) (scope : Scope) (z : GCx) : Cx := genCx Y.X z.A (genE Y scope z) z.s z.H z.fp
abbrev Ow := GCx → Tb
abbrev noOw : Ow := fun _ => []
abbrev ownOw : Ow := fun z => [(z.code, .own)]
abbrev genYO (Y : DX) (k : Nat) (scope : Scope) (ow : Ow) (z : GCx) : DX := ⟨genX Y scope z, ow z ++ Y.T, k, Y.H0, Y.F0, Y.S0, fun _ _ => False⟩
abbrev genY (Y : DX) (k : Nat) (scope : Scope) (z : GCx) : DX := genYO Y k scope noOw z
structure StaO (Y : DX) (ow : Ow) (z : GCx) (s : DSt) (σ : St) (H F : Hp) : Prop where
  s : Sta Y s σ H F
  o : TbOk (ow z) H
section
variable {Y : DX} {k : Nat} {scope : Scope} {ow : Ow} {z : GCx} {s : DSt} {σ : St} {H F : Hp}
theorem TbOk.app {T T' : Tb} {H : Hp} : TbOk (T ++ T') H ↔ TbOk T H ∧ TbOk T' H := by
  unfold TbOk
  exact List.forall_mem_append
theorem StaO.gen (S : StaO Y ow z s σ H F) : Sta (genYO Y k scope ow z) s σ H F := ⟨S.s.ext, S.s.ntb, S.s.rep, S.s.own, S.s.nd, TbOk.app.mpr ⟨S.o, S.s.tb⟩, S.s.st⟩
theorem Sta.ungen (S : Sta (genYO Y k scope ow z) s σ H F) : StaO Y ow z s σ H F := ⟨⟨S.ext, S.ntb, S.rep, S.own, S.nd, (TbOk.app.mp S.tb).2, S.st⟩, (TbOk.app.mp S.tb).1⟩
theorem YOk.gen (ok : YOk Y) (hr : Room k z.A) : YOk (genYO Y k scope ow z) :=
  ⟨rfl, ok.nd, hr, PassesOwn.never, fun _ _ ⟨_, _, _, _, _, _, _, _, _, _, _, _, _, _, _, _, _, _, _, _, _, q⟩ => q.elim⟩
class FlatE (α : Type) [Enc α] [FlatV α] : Prop where
  of : ∀ {K : Frag} {F : Hp} {v : V} {a : α}, Enc.rep K F v a → v = FlatV.z a
instance : FlatE Int := ⟨fun h => h⟩
instance : FlatE Bool := ⟨fun h => h⟩
structure GTurns {β γ : Type} [Enc β] [Enc γ] (Y : DX) (k : Nat) (s : DSt) (scope : Scope) (ow : Ow) (vs : List Nat) (tg elt : Expr) (ifs : List Expr) (g : TG) (ws : List Nat) (f : β → Rho → Rho) (items : List β) (c : β → Bool) (h : β → γ) : Prop where
  tg : ∀ z, TgOk (genYO Y k scope ow z) tg g ws f
  sub : ∀ j ∈ ws, j ∈ vs
  test : ∀ z, YOk (genYO Y k scope ow z) → ∀ x ∈ items, Ets (genYO Y k scope ow z) ⟨f x (wipeR s.ρ vs), s.gs⟩ ifs fun b s2 => b = c x ∧ s2 = ⟨f x (wipeR s.ρ vs), s.gs⟩
  elt : ∀ z, YOk (genYO Y k scope ow z) → ∀ x ∈ items, c x = true → EvP (genYO Y k scope ow z) ⟨f x (wipeR s.ρ vs), s.gs⟩ elt (pu (h x))
def GE (Y : DX) (scope : Scope) (ow : Ow) (z : GCx) (vs : List Nat) (s : DSt) (σ : St) (F : Hp) (S : List Addr) (s1 : Shared) : Prop :=
  ∃ H' F', Inv (genX Y scope z) [] (L2.wipe σ vs) H' s1 ∧ (∀ b ∈ S, H' b = none) ∧ Ext F F' ∧ StaO Y ow z s σ H' F'
def GT (Y : DX) (scope : Scope) (ow : Ow) (z : GCx) (vs : List Nat) (s : DSt) (σ : St) (F : Hp) (tn : Nat → Heap → Prop) (S : List Addr) (i : Nat) (s1 : Shared) : Prop :=
  ∃ H' F', Inv (genX Y scope z) [] (L2.wipe σ vs) H' s1 ∧ tn i s1.heap ∧ (∀ b ∈ z.fp, H' b = none) ∧ (∀ b ∈ S, H' b = none) ∧ (∀ b ∈ S, ∃ o, s1.heap.get? b = some o ∧ ∀ v, o.data ≠ .cell v) ∧ Ext F F' ∧ StaO Y ow z s σ H' F'
def Aw (S : List Addr) (s s' : Shared) : Prop :=
  s'.os = s.os ∧ PyProof.Rows.AllBare s'.gens ∧ (∀ b o, b ∉ S → s.heap.get? b = some o → s'.heap.get? b = some o) ∧ ∀ b ∈ S, ∃ o, s'.heap.get? b = some o ∧ ∀ v, o.data ≠ .cell v
structure Ap (Y : DX) (scope : Scope) (z : GCx) (S : Addr) : Prop where
  big : z.s.heap.objs.size ≤ S
  loc : S ≠ z.C
  cell : ∀ x c, (genCl Y.X.env.cells scope z.C).lookup x = some c → c ≠ S
  fp : S ∉ z.fp
  fs : S ∉ frs Y.X.stack
theorem Ap.fpOk {S : Addr} {H' : Hp} (a : Ap Y scope z S) (h : H' S = none) : FpOk (genX Y scope z) [] H' S :=
  ⟨h, a.loc, a.fs, .inr a.big, a.cell, fun p hp => absurd (show p ∈ ([] : List (Addr × Obj)) ++ [] from hp) (by simp)⟩
theorem GE.aw {vs : List Nat} {S : List Addr} {s1 s2 : Shared} {H' : Hp} (a : ∀ b ∈ S, Ap Y scope z b) (hS : ∀ b ∈ S, H' b = none) (I : Inv (genX Y scope z) [] (L2.wipe σ vs) H' s1) (w : Aw S s1 s2) : Inv (genX Y scope z) [] (L2.wipe σ vs) H' s2 := by
  obtain ⟨w1, w2, w3, w4⟩ := w
  obtain ⟨hh, g, d, t, o⟩ := s2
  have ho : o = s1.os := w1
  subst ho
  have nS : ∀ b u, H' b = some u → b ∉ S := fun b u e q => by rw [hS b q] at e; cases e
  refine I.step (g' := g) (t' := t) (d' := d) (ch := S) (fun b hb => ?_) (fun b ob _ _ hc q _ => w3 b ob hc q) (fun b ob _ _ hc q _ => ⟨ob.slots, w3 b ob hc q⟩) (fun _ _ _ _ n => n) (fun b ob hc q => ⟨ob, w3 b ob hc q⟩)
    (fun _ _ q => q) (fun _ _ _ q => q) (fun b ps q => ⟨#[], by rw [q]; simp⟩) (fun m hm => ?_) (fun b u q => ?_) w2
  · have ab := a b hb
    exact ⟨.inr ab.big, ab.loc, ab.cell, fun p hp => absurd (show p ∈ ([] : List (Addr × Obj)) ++ [] from hp) (by simp)⟩
  · obtain ⟨ob, es, ep, hob, r⟩ := hm
    exact ⟨ob, es, ep, w3 _ ob (fun q => (a _ q).loc rfl) hob, r⟩
  · refine (I.hok b u q).stay (fun c v hc y => w3 c v ?_ y) (fun _ y => y) fun _ _ y => y
    rcases hc with y | y
    · rw [y]; exact nS b u q
    · exact nS c _ y
theorem GT.aw {vs : List Nat} {tn : Nat → Heap → Prop} {S : List Addr} {i : Nat} {s1 s2 : Shared} {tg : Expr} {J : It} {it : Addr} (T : Turn Y.X.prog Y.X.w Y.X.K tg J z.fp it tn) (a : ∀ b ∈ S, Ap Y scope z b) (h : GT Y scope ow z vs s σ F tn S i s1) (w : Aw S s1 s2) : GT Y scope ow z vs s σ F tn S i s2 := by
  obtain ⟨H', F', I, t1, n1, hS, _, e1, S1⟩ := h
  exact ⟨H', F', GE.aw a hS I w, T.keep i _ _ t1 fun b hb o e => w.2.2.1 b o (fun q => (a b q).fp hb) e, n1, hS, w.2.2.2, e1, S1⟩
theorem GT.ge {vs : List Nat} {tn : Nat → Heap → Prop} {S : List Addr} {i : Nat} {s1 : Shared} (h : GT Y scope ow z vs s σ F tn S i s1) : GE Y scope ow z vs s σ F S s1 := by
  obtain ⟨H', F', I, _, _, hS, _, e1, S1⟩ := h
  exact ⟨H', F', I, hS, e1, S1⟩
end
def GP {γ : Type} [Enc γ] [FlatV γ] (Y : DX) (scope : Scope) (ow : Ow) (z : GCx) (vs : List Nat) (s : DSt) (σ : St) (F : Hp) (S : List Addr) (ys : List γ) : Protocol := fun n s0 v s1 kap =>
  ∃ y, ys[ys.length - 1 - n]? = some y ∧ RelV (FlatV.z y) v ∧ GE Y scope ow z vs s σ F S s1 ∧ (∀ b ∈ S, ∀ o, s0.heap.get? b = some o → s1.heap.get? b = some o) ∧ ∀ s2, Aw S s1 s2 → kap (.send .none) s2
section
variable {Y : DX} {k : Nat} {scope : Scope} {ow : Ow} {z : GCx} {s : DSt} {σ : St} {H F : Hp} {β γ : Type} [Enc β] [Enc γ] [FlatV γ] [FlatE γ]
theorem drop_at {α : Type} {l : List α} {i : Nat} {x : α} (h : l[i]? = some x) : l.drop i = x :: l.drop (i + 1) := by
  obtain ⟨hl, e⟩ := List.getElem?_eq_some_iff.mp h
  rw [List.drop_eq_getElem_cons hl, e]
theorem rest_at {items : List β} {c : β → Bool} {h : β → γ} {i : Nat} {x : β} (hx : items[i]? = some x) (hc : c x = true) :
    ((items.filter c).map h)[((items.filter c).map h).length - 1 - ((items.drop (i + 1)).filter c).length]? = some (h x) := by
  have e : items.filter c = (items.take i).filter c ++ x :: (items.drop (i + 1)).filter c := by
    rw [← List.filter_cons_of_pos hc, ← drop_at hx, ← List.filter_append, List.take_append_drop]
  rw [e, List.map_append, List.length_append, List.map_cons, List.length_cons, List.length_map, List.length_map]
  have : ((items.take i).filter c).length + (((items.drop (i + 1)).filter c).length + 1) - 1 - ((items.drop (i + 1)).filter c).length = ((items.take i).filter c).length := by omega
  rw [this, List.getElem?_append_right (by rw [List.length_map]; exact Nat.le_refl _), List.length_map, Nat.sub_self]
  rfl
theorem seg_gen {A : Around} {vs ws : List Nat} {tg elt iter : Expr} {ifs : List Expr} {g : TG} {f : β → Rho → Rho} {items : List β} {c : β → Bool} {h : β → γ} {tn : Nat → Heap → Prop} {S : List Addr} {it : Addr} {J : It} {gpos : Pos} {F0 : Hp} (L : GTurns Y k s scope ow vs tg elt ifs g ws f items c h) (ok : YOk (genYO Y k scope ow z)) (hco : scope.isCoroutine = false)
    (T : Turn Y.X.prog Y.X.w Y.X.K tg J z.fp it tn) (a : ∀ b ∈ S, Ap Y scope z b) (K1 : ItOk Y.X.K J F items) (hA : A.over (.compLoop (.GeneratorExp elt [⟨tg, iter, ifs, 0⟩] scope gpos) 0 (.ref it) .none (genE Y scope z)) [] = z.A) :
    ∀ (m i : Nat) (s₀ s1 : Shared), items.length - i = m → i ≤ items.length → GT Y scope ow z vs s σ F tn S i s1 → (∀ b ∈ S, ∀ o, s₀.heap.get? b = some o → s1.heap.get? b = some o) →
      Seg (model Y.X.prog Y.X.w) A (fun n s0 r s2 => r = .ok .next ∧ (n = 0 ∧ GE Y scope ow z vs s σ F S s2 ∧ ∀ b ∈ S, ∀ o, s0.heap.get? b = some o → s2.heap.get? b = some o)) (GP Y scope ow z vs s σ F S ((items.filter c).map h)) (((items.drop i).filter c).length) s₀
        (.compLoop (.GeneratorExp elt [⟨tg, iter, ifs, 0⟩] scope gpos) 0 (.ref it) .none (genE Y scope z))
        ((model Y.X.prog Y.X.w).den (.compLoop (.GeneratorExp elt [⟨tg, iter, ifs, 0⟩] scope gpos) 0 (.ref it) .none (genE Y scope z))) [] s1 := by
  intro m
  induction m with
  | zero =>
    intro i s₀ s1 hk hi gt hsk
    have hin : i = items.length := by omega
    subst hin
    obtain ⟨H', F', I, t1, n1, hS, oS, e1, S1⟩ := gt
    show Seg _ A _ _ _ s₀ _ ((compTurn (.GeneratorExp elt [⟨tg, iter, ifs, 0⟩] scope gpos) 0 (.ref it) .none (genE Y scope z)).onRaise (leaving (genE Y scope z))) [] s1
    rw [compTurn_gen, Sem.onRaise_eq_wrap]
    refine seg_bind_wrap (wpAny_standAt ?_)
    refine seg_bind_wrap ?_
    rw [hA]
    have fk : ∀ b ∈ z.fp, FpOk (genX Y scope z) [] H' b := fun b hb => ⟨n1 b hb, (I.ok.exf b hb).1, I.ok.exfs b hb, .inl hb, fun x c e => (I.ok.exf b hb).2 x c e, fun p hp => absurd (show p ∈ ([] : List (Addr × Obj)) ++ [] from hp) (by simp)⟩
    have I0 := I.pinned (fp := S) (fun b hb => (a b hb).fpOk (hS b hb)) oS
    have fk0 : ∀ b ∈ z.fp, FpOk (genX Y scope z) ([] ++ pinsAt S s1.heap) H' b := fun b hb => ⟨n1 b hb, (fk b hb).2.1, (fk b hb).2.2.1, (fk b hb).2.2.2.1, (fk b hb).2.2.2.2.1, fun p hp e => (a b (e ▸ (of_pinsAt (fp := S) (h := s1.heap) (p := p) (by simpa using (show p ∈ ([] : List (Addr × Obj)) ++ ([] ++ pinsAt S s1.heap) from hp))).1)).fp hb⟩
    refine wpAny_mono (T.done (genX Y scope z) rfl rfl rfl rfl _ _ s1 _ H' (fun _ _ => False) I0 fk0 t1 ((K1 _ H' F' e1 S1.s.ext).2 (Nat.le_refl _))) (fun r s2 ⟨hr, I2⟩ => ?_) fun _ _ e => e.elim
    subst hr
    rw [List.drop_length]
    exact seg_end (.ok .next) ⟨rfl, rfl, ⟨H', F', I2.unpinned (pins := []), hS, e1, S1⟩, fun b hb o e => (I2.pin (b, o) (List.mem_append_right _ (List.mem_append_right _ (mem_pinsAt hb (hsk b hb o e))))).1⟩
  | succ m ih =>
    intro i s₀ s1 hk hi gt hsk
    have hlt : i < items.length := by omega
    obtain ⟨x, hx⟩ : ∃ x, items[i]? = some x := ⟨_, List.getElem?_eq_getElem hlt⟩
    have hmem := List.mem_of_getElem? hx
    obtain ⟨H', F', I, t1, n1, hS, oS, e1, S1⟩ := gt
    show Seg _ A _ _ _ s₀ _ ((compTurn (.GeneratorExp elt [⟨tg, iter, ifs, 0⟩] scope gpos) 0 (.ref it) .none (genE Y scope z)).onRaise (leaving (genE Y scope z))) [] s1
    rw [compTurn_gen, Sem.onRaise_eq_wrap]
    refine seg_bind_wrap (wpAny_standAt ?_)
    refine seg_bind_wrap ?_
    rw [hA]
    have I0 := I.pinned (fp := S) (fun b hb => (a b hb).fpOk (hS b hb)) oS
    have stat : ∀ {pn : List (Addr × Obj)} {σ' : St} {H2 : Hp} {s2 : Shared}, Inv (genX Y scope z) pn σ' H2 s2 → (∀ q ∈ pn, q.1 ∈ S) → (∀ b ∈ z.fp, H2 b = none) → ∀ b ∈ z.fp, FpOk (genX Y scope z) pn H2 b := fun {pn σ' H2 s2} I' hp hn b hb =>
      ⟨hn b hb, (I'.ok.exf b hb).1, I'.ok.exfs b hb, .inl hb, fun x c e => (I'.ok.exf b hb).2 x c e, fun q hq e => (a b (e ▸ hp q hq)).fp hb⟩
    have pS : ∀ q ∈ ([] : List (Addr × Obj)) ++ pinsAt S s1.heap, q.1 ∈ S := fun q hq => (of_pinsAt (by simpa using hq)).1
    refine wpAny_mono (T.item (genX Y scope z) rfl rfl rfl rfl i _ s1 _ H' (fun _ _ => False) I0 (stat I0 pS n1) t1 ((K1 i H' F' e1 S1.s.ext).1 x hx).1) (fun r s2 ⟨u, hr, h2⟩ => ?_) fun _ _ e => e.elim
    subst hr
    refine seg_bind_wrap ?_
    rw [hA]
    refine wpAny_mono h2 (fun _ s3 ⟨v, H3, I3, r3, y3, t3, n3⟩ => ?_) fun _ _ e => e.elim
    obtain ⟨F3, e3, S3', rx⟩ := ItOk.yld (Y := genYO Y k scope ow z) K1 e1 S1.gen hx y3
    have S3 := S3'.ungen
    have I3' := I3.pinned (stat I3 pS n3) (T.obj _ _ t3)
    refine seg_bind_wrap ?_
    rw [hA]
    refine wpAny_mono ((L.tg z).1.run _ s3 _ H3 v u _ I3' r3 ((L.tg z).2 (L2.wipe σ vs) H3 F3 v x ⟨wipeR s.ρ vs, s.gs⟩ (fun σ4 H4 => Sta (genYO Y k scope ow z) ⟨f x (wipeR s.ρ vs), s.gs⟩ σ4 H4 F3 ∧ Only ws (L2.wipe σ vs) σ4) ((StaO.mk (S3.s.wipe vs) S3.o).gen) rx fun σ4 S4 o4 => ⟨S4, o4⟩)) (fun _ s4 ⟨σ4, H4, I4, S4, o4⟩ => ?_) fun _ _ e => e.elim
    have hl4 : (L2.wipe σ vs).length = σ4.length := o4.1.symm
    have wk : ∀ (j : Nat) (w : V), (L2.wipe σ vs)[j]? = some (some w) → σ4[j]? = some (some w) := fun j w e => by
      rw [o4.2 j fun hj => (wipe_some e).2 (L.sub j hj)]
      exact e
    have fin : ∀ {s5 : Shared} {H5 F5 : Hp}, Inv (genX Y scope z) (([] ++ pinsAt S s1.heap) ++ pinsAt z.fp s3.heap) σ4 H5 s5 → Ext F3 F5 → Sta (genYO Y k scope ow z) ⟨f x (wipeR s.ρ vs), s.gs⟩ σ4 H5 F5 → GT Y scope ow z vs s σ F tn S (i + 1) s5 ∧ ∀ b ∈ S, ∀ o, s1.heap.get? b = some o → s5.heap.get? b = some o := fun {s5 H5 F5} I5 e5 S5 => by
      have pf : ∀ b ∈ z.fp, ∀ o, s3.heap.get? b = some o → s5.heap.get? b = some o ∧ H5 b = none := fun b hb o e =>
        let q := I5.pin (b, o) (List.mem_append_right _ (List.mem_append_right _ (mem_pinsAt hb e)))
        ⟨q.1, q.2.1⟩
      have qS : ∀ b ∈ S, ∀ o, s1.heap.get? b = some o → s5.heap.get? b = some o ∧ H5 b = none := fun b hb o e =>
        let q := I5.pin (b, o) (List.mem_append_right _ (List.mem_append_left _ (List.mem_append_right _ (mem_pinsAt hb e))))
        ⟨q.1, q.2.1⟩
      refine ⟨⟨H5, F5, ((I5.unpinned (pins := [] ++ pinsAt S s1.heap)).unpinned (pins := [])).weak hl4 wk, T.keep _ _ _ t3 fun b hb o e => (pf b hb o e).1, fun b hb => ?_, fun b hb => let ⟨o, e, _⟩ := oS b hb; (qS b hb o e).2, fun b hb => let ⟨o, e, hc⟩ := oS b hb; ⟨o, (qS b hb o e).1, hc⟩, (e1.trans e3).trans e5, ?_⟩, fun b hb o e => (qS b hb o e).1⟩
      · obtain ⟨o, e, _⟩ := T.obj _ _ t3 b hb
        exact (pf b hb o e).2
      · exact ⟨S3.s.names (s' := ⟨f x (wipeR s.ρ vs), s.gs⟩) S5.ungen.s e5, S5.ungen.o⟩
    refine seg_bind_wrap ?_
    rw [hA]
    refine wpAny_mono ((L.test z ok x hmem F3 σ4 H4 F3 (.refl _) S4).run _ s4 I4) (fun b s5 ⟨H5, I5, s5', F5, e5, S5, eb, es⟩ => ?_) fun _ _ e => e.elim
    subst eb es
    cases hc : c x with
    | false =>
      rw [drop_at hx, List.filter_cons_of_neg (by simp [hc])]
      simp only [Bool.false_eq_true, if_false]
      exact seg_again rfl (ih (i + 1) s₀ _ (by omega) hlt (fin I5 e5 S5).1 fun b hb o e => (fin I5 e5 S5).2 b hb o (hsk b hb o e))
    | true =>
      rw [drop_at hx, List.filter_cons_of_pos hc, List.length_cons]
      simp only [if_true]
      have hy : ∀ v, yieldOut (genE Y scope z) v = yieldValue v := fun v => by
        have : (genE Y scope z).scope.isCoroutine = false := hco
        simp only [yieldOut, this, Bool.false_eq_true, if_false]
      simp only [hy]
      rw [Sem.bind_eq_wrap', Sem.bind_eq_wrap', Sem.wrap_wrap, Sem.wrap_wrap]
      refine seg_wrap ?_
      rw [hA]
      refine wpAny_mono ((L.elt z ok x hmem hc F5 σ4 H5 F5 (.refl _) S5).run _ s5 I5) (fun w s6 ⟨v6, H6, I6, r6, F6, e6, rv6, S6⟩ => ?_) fun _ _ e => e.elim
      obtain ⟨gt6, kp6⟩ := fin I6 (e5.trans e6) S6
      have ev : v6 = FlatV.z (h x) := FlatE.of (α := γ) rv6
      subst ev
      refine seg_at (seg_yield rfl rfl rfl ⟨h x, rest_at hx hc, r6, gt6.ge, fun b hb o e => kp6 b hb o (hsk b hb o e), fun s7 w7 => ?_⟩)
      exact seg_again rfl (ih (i + 1) s7 s7 (by omega) hlt (gt6.aw T a w7) fun _ _ _ e => e)
end
end Sp
set_option maxHeartbeats 4000000
namespace Sp
open PySem L2
open PySem.W (Datum DatumOrd SomeDatum)
structure SW (prog : Program) (w : World) (A : Around) (a : Addr) (S : List Addr) (n : Nat) (St : Nat → Shared → Prop) (P : Nat → Value → Prop) (D : Shared → Prop) : Prop where
  item : ∀ (i : Nat) (s : Shared) (Q : Option Value → Shared → Prop) (E : Value → Shared → Prop), i < n → St i s → (∀ v s', P i v → St (i + 1) s' → (∀ b ∈ S, ∀ o, s.heap.get? b = some o → s'.heap.get? b = some o) → Q (some v) s') → wpAny (model prog w) A (pyNext (.ref a)) Q E s
  done : ∀ (s : Shared) (Q : Option Value → Shared → Prop) (E : Value → Shared → Prop), St n s → (∀ s', D s' → Q none s') → wpAny (model prog w) A (pyNext (.ref a)) Q E s
  out : ∀ i s, St i s → D s
section
variable {prog : Program} {w : World} {A : Around} {a : Addr} {S : List Addr} {St : Nat → Shared → Prop} {D : Shared → Prop} {R : Result → Shared → Prop}
theorem drop_item {α : Type} {l : List α} {i : Nat} {x : α} (h : l[i]? = some x) : l.drop i = x :: l.drop (i + 1) := drop_at h
theorem any_go {ys : List Bool} (W : SW prog w A.in1 a S ys.length St (fun i v => ∃ y, ys[i]? = some y ∧ v = .bool y) D) : ∀ (k i : Nat) (s : Shared), ys.length - i = k → i ≤ ys.length → St i s →
    (∀ s', D s' → R (.ok (.ret (.bool ((ys.drop i).any id)))) s') → codeAny (model prog w) A (.builtin "any.loop" ⟨[.ref a], []⟩) R s := by
  intro k
  induction k with
  | zero =>
    intro i s hk hi hst hR
    obtain rfl : i = ys.length := by omega
    refine codeAny_builtin F.entry_any_loop ?_
    rw [Around.under_plainId F.plain_any_loop _]
    show wpAny _ A.in1 (pyNext (.ref a) >>= _) _ _ s
    refine wpAny_bind (W.done s _ _ hst fun s' hm => wpAny_bind (wpAny_rule (wpAny_pure ?_)))
    have := hR s' hm
    rw [List.drop_length] at this
    exact this
  | succ k ih =>
    intro i s hk hi hst hR
    have hlt : i < ys.length := by omega
    refine codeAny_builtin F.entry_any_loop ?_
    rw [Around.under_plainId F.plain_any_loop _]
    show wpAny _ A.in1 (pyNext (.ref a) >>= _) _ _ s
    refine wpAny_bind (W.item i s _ _ hlt hst fun v s' ⟨y, hy, ev⟩ hst' _ => ?_)
    subst ev
    rw [drop_item hy, List.any_cons] at hR
    refine wpAny_bind (wpAny_holding (wpAny_truthy_bool (wpAny_bind (wpAny_letGo ?_))))
    cases y with
    | false =>
      simp only [Bool.false_eq_true, if_false]
      exact wpAny_pure ⟨plainId_quiet F.plain_any_loop _, ih (i + 1) _ (by omega) hlt hst' hR⟩
    | true =>
      simp only [if_true]
      exact wpAny_bind (wpAny_rule (wpAny_pure (hR s' (W.out _ _ hst'))))
theorem all_go {ys : List Bool} (W : SW prog w A.in1 a S ys.length St (fun i v => ∃ y, ys[i]? = some y ∧ v = .bool y) D) : ∀ (k i : Nat) (s : Shared), ys.length - i = k → i ≤ ys.length → St i s →
    (∀ s', D s' → R (.ok (.ret (.bool ((ys.drop i).all id)))) s') → codeAny (model prog w) A (.builtin "all.loop" ⟨[.ref a], []⟩) R s := by
  intro k
  induction k with
  | zero =>
    intro i s hk hi hst hR
    obtain rfl : i = ys.length := by omega
    refine codeAny_builtin F.entry_all_loop ?_
    rw [Around.under_plainId F.plain_all_loop _]
    show wpAny _ A.in1 (pyNext (.ref a) >>= _) _ _ s
    refine wpAny_bind (W.done s _ _ hst fun s' hm => wpAny_bind (wpAny_rule (wpAny_pure ?_)))
    have := hR s' hm
    rw [List.drop_length] at this
    exact this
  | succ k ih =>
    intro i s hk hi hst hR
    have hlt : i < ys.length := by omega
    refine codeAny_builtin F.entry_all_loop ?_
    rw [Around.under_plainId F.plain_all_loop _]
    show wpAny _ A.in1 (pyNext (.ref a) >>= _) _ _ s
    refine wpAny_bind (W.item i s _ _ hlt hst fun v s' ⟨y, hy, ev⟩ hst' _ => ?_)
    subst ev
    rw [drop_item hy, List.all_cons] at hR
    refine wpAny_bind (wpAny_holding (wpAny_truthy_bool (wpAny_bind (wpAny_letGo ?_))))
    cases y with
    | true =>
      simp only [if_true]
      exact wpAny_pure ⟨plainId_quiet F.plain_all_loop _, ih (i + 1) _ (by omega) hlt hst' hR⟩
    | false =>
      simp only [Bool.false_eq_true, if_false]
      exact wpAny_bind (wpAny_rule (wpAny_pure (hR s' (W.out _ _ hst'))))
end
theorem bare_set {s : Shared} {g : Nat} {x : GenState} (h : PyProof.Rows.AllBare s.gens) (hb : x.bare = true) : PyProof.Rows.AllBare (s.setGen g x).gens := fun y hy => by
  have hy' : y ∈ s.gens.setIfInBounds g x := hy
  rcases Array.mem_or_eq_of_mem_setIfInBounds hy' with q | q
  · exact h y q
  · rw [q]; exact hb
section
variable {Y : DX} {scope : Scope} {ow : Ow} {z : GCx} {s : DSt} {σ : St} {F : Hp} {vs : List Nat} {γ : Type} [Enc γ] [FlatV γ]
theorem GE.same {S : List Addr} {s1 s2 : Shared} (h : GE Y scope ow z vs s σ F S s1) (w : Aw [] s1 s2) : GE Y scope ow z vs s σ F S s2 := by
  obtain ⟨H', F', I, hS, e, S⟩ := h
  exact ⟨H', F', GE.aw (S := []) (fun _ hb => absurd hb (by simp)) (fun _ hb => absurd hb (by simp)) I w, hS, e, S⟩
theorem GE.awS {S : List Addr} {s1 s2 : Shared} (a : ∀ b ∈ S, Ap Y scope z b) (h : GE Y scope ow z vs s σ F S s1) (w : Aw S s1 s2) : GE Y scope ow z vs s σ F S s2 := by
  obtain ⟨H', F', I, hS, e, S⟩ := h
  exact ⟨H', F', GE.aw a hS I w, hS, e, S⟩
theorem Aw.trans {S : List Addr} {s1 s2 s3 : Shared} (a : Aw S s1 s2) (b : Aw S s2 s3) : Aw S s1 s3 := ⟨b.1.trans a.1, b.2.1, fun c o h e => b.2.2.1 c o h (a.2.2.1 c o h e), b.2.2.2⟩
theorem GE.bare {S : List Addr} {s1 : Shared} (h : GE Y scope ow z vs s σ F S s1) : PyProof.Rows.AllBare s1.gens := by
  obtain ⟨H', F', I, _⟩ := h
  exact I.bare
def GSt (Y : DX) (scope : Scope) (ow : Ow) (z : GCx) (vs : List Nat) (s : DSt) (σ : St) (F : Hp) (S : List Addr) (ys : List γ) (A : Around) (a : Addr) (g : Nat) (i : Nat) (s1 : Shared) : Prop :=
  ∃ gs, s1.heap.IsGen a g ∧ s1.gens[g]? = some gs ∧ GE Y scope ow z vs s σ F S s1 ∧ (∀ b ∈ S, ∃ o, s1.heap.get? b = some o ∧ ∀ v, o.data ≠ .cell v) ∧
    ∀ s2, Aw S s1 s2 → gs.Goes (model Y.X.prog Y.X.w) A (fun n s0 r s2 => r = .ok .next ∧ (n = 0 ∧ GE Y scope ow z vs s σ F S s2 ∧ ∀ b ∈ S, ∀ o, s0.heap.get? b = some o → s2.heap.get? b = some o)) (GP Y scope ow z vs s σ F S ys) (ys.length - i) (.send .none) s2
theorem gen_sw {ys : List γ} {S : List Addr} {A : Around} {a : Addr} {g : Nat} (ha : a ∈ S) (hh : A.handled = none) (hroom : A.depth < recursionLimit) :
    SW Y.X.prog Y.X.w A a S ys.length (GSt Y scope ow z vs s σ F S ys A.in1 a g) (fun i v => ∃ y, ys[i]? = some y ∧ RelV (FlatV.z y) v) (GE Y scope ow z vs s σ F S) where
  item := fun i s1 Q E hi ⟨gs, hg, hgs, ge, ob, go⟩ hQ => by
    obtain ⟨m, hm⟩ : ∃ m, ys.length - i = m + 1 := ⟨ys.length - i - 1, by omega⟩
    rw [hm] at go
    have hlt : g < s1.gens.size := by
      rcases Nat.lt_or_ge g s1.gens.size with h | h
      · exact h
      · rw [Array.getElem?_eq_none h] at hgs; cases hgs
    obtain ⟨H', F', I, _, e1, S1⟩ := id ge
    refine GenW.wpAny_gsz (n := g + 1) hlt ?_
    refine wpAny_pyNext_genexpQ (P := fun n s0 s2 => n = 0 ∧ GE Y scope ow z vs s σ F S s2 ∧ ∀ b ∈ S, ∀ o, s0.heap.get? b = some o → s2.heap.get? b = some o) hh I.nolimit hroom hg hgs (go _ ⟨rfl, bare_set I.bare rfl, fun _ _ _ e => e, ob⟩) (fun v s2 gs' hb ⟨y, hy, rv, ge2, kp, kap⟩ hsz => ?_) (fun s2 hp => absurd hp.1 (Nat.succ_ne_zero m))
    have hsz2 : g < s2.gens.size := by
      have h9 : g + 1 ≤ (s2.setGen g gs').gens.size := hsz
      rw [GenW.setGen_size] at h9
      exact h9
    have hi2 : ys.length - 1 - (m + 1 - 1) = i := by omega
    rw [hi2] at hy
    have hgs2 : (s2.setGen g gs').gens[g]? = some gs' := setGen_self (gs := s2.gens[g]) (Array.getElem?_eq_getElem hsz2)
    refine hQ v _ ⟨y, hy, rv⟩ ⟨gs', let ⟨o, nm, qn, ho, r⟩ := hg; ⟨o, nm, qn, kp a ha o ho, r⟩, hgs2, ge2.same ⟨rfl, bare_set ge2.bare hb, fun _ _ _ e => e, fun _ h => absurd h (by simp)⟩, fun b hb => let ⟨o, e, hc⟩ := ob b hb; ⟨o, kp b hb o e, hc⟩, fun s3 w3 => ?_⟩ fun b hb o e => kp b hb o e
    have e9 : ys.length - (i + 1) = m := by omega
    rw [e9]
    exact kap s3 w3
  done := fun s1 Q E ⟨gs, hg, hgs, ge, ob, go⟩ hQ => by
    rw [Nat.sub_self] at go
    obtain ⟨H', F', I, _, e1, S1⟩ := id ge
    refine wpAny_pyNext_genexpQ (P := fun n s0 s2 => n = 0 ∧ GE Y scope ow z vs s σ F S s2 ∧ ∀ b ∈ S, ∀ o, s0.heap.get? b = some o → s2.heap.get? b = some o) hh I.nolimit hroom hg hgs (go _ ⟨rfl, bare_set I.bare rfl, fun _ _ _ e => e, ob⟩) (fun v s2 gs' hb ⟨y, hy, rv, ge2, kp, kap⟩ => ?_) (fun s2 ⟨_, ge2, kp⟩ h' hk => ?_)
    · exact False.elim (kap s2 ⟨rfl, ge2.bare, fun _ _ _ e => e, fun b hb => let ⟨o, e, hc⟩ := ob b hb; ⟨o, kp b hb o e, hc⟩⟩)
    · exact hQ _ (ge2.same ⟨rfl, bare_set ge2.bare rfl, fun b o _ e => hk b o e, fun _ h => absurd h (by simp)⟩)
  out := fun i s1 ⟨gs, hg, hgs, ge, ob, go⟩ => ge
theorem GSt.aw {ys : List γ} {S : List Addr} {A : Around} {a : Addr} {g i : Nat} {s1 s2 : Shared} (ap : ∀ b ∈ S, Ap Y scope z b) (h : GSt Y scope ow z vs s σ F S ys A a g i s1) (w : Aw S s1 s2) (hg : s2.gens = s1.gens) (ha : ∀ o, s1.heap.get? a = some o → s2.heap.get? a = some o) : GSt Y scope ow z vs s σ F S ys A a g i s2 := by
  obtain ⟨gs, h1, h2, h3, h4, h5⟩ := h
  obtain ⟨o, nm, qn, ho, r⟩ := h1
  exact ⟨gs, ⟨o, nm, qn, ha o ho, r⟩, by rw [hg]; exact h2, h3.awS ap w, w.2.2.2, fun s3 w3 => h5 s3 (w.trans w3)⟩
end
end Sp
set_option maxHeartbeats 4000000
namespace Sp
open PySem L2
open PySem.W (Datum DatumOrd SomeDatum)
section
variable {Y : DX} {k : Nat} {scope : Scope} {ow : Ow} {z : GCx} {s : DSt} {σ : St} {H F : Hp} {β γ : Type} [Enc β] [Enc γ] [FlatV γ] [FlatE γ]
theorem seg_start {A : Around} {vs ws : List Nat} {tg elt iter : Expr} {ifs : List Expr} {g : TG} {f : β → Rho → Rho} {items : List β} {c : β → Bool} {h : β → γ} {tn : Nat → Heap → Prop} {S : List Addr} {it : Addr} {J : It} {gpos : Pos} (L : GTurns Y k s scope ow vs tg elt ifs g ws f items c h) (ok : YOk (genYO Y k scope ow z)) (hco : scope.isCoroutine = false)
    (T : Turn Y.X.prog Y.X.w Y.X.K tg J z.fp it tn) (a : ∀ b ∈ S, Ap Y scope z b) (K1 : ItOk Y.X.K J F items) (hA : A.over (.compLoop (.GeneratorExp elt [⟨tg, iter, ifs, 0⟩] scope gpos) 0 (.ref it) .none (genE Y scope z)) [] = z.A)
    (s₀ s1 : Shared) (gt : GT Y scope ow z vs s σ F tn S 0 s1) (hsk : ∀ b ∈ S, ∀ o, s₀.heap.get? b = some o → s1.heap.get? b = some o) :
    Seg (model Y.X.prog Y.X.w) A (fun n s0 r s2 => r = .ok .next ∧ (n = 0 ∧ GE Y scope ow z vs s σ F S s2 ∧ ∀ b ∈ S, ∀ o, s0.heap.get? b = some o → s2.heap.get? b = some o)) (GP Y scope ow z vs s σ F S ((items.filter c).map h)) ((items.filter c).map h).length s₀
      (.compStart (.GeneratorExp elt [⟨tg, iter, ifs, 0⟩] scope gpos) 0 (.ref it) .none (genE Y scope z))
      ((model Y.X.prog Y.X.w).den (.compStart (.GeneratorExp elt [⟨tg, iter, ifs, 0⟩] scope gpos) 0 (.ref it) .none (genE Y scope z))) [] s1 := by
  have loop := seg_gen (iter := iter) (gpos := gpos) (F0 := F) L ok hco T a K1 hA items.length 0 s₀ s1 (by omega) (Nat.zero_le _) gt hsk
  rw [List.drop_zero] at loop
  rw [List.length_map]
  obtain ⟨H', F', I, t1, _⟩ := gt
  show Seg _ A _ _ _ s₀ _ ((compStart (.GeneratorExp elt [⟨tg, iter, ifs, 0⟩] scope gpos) 0 (.ref it) .none (genE Y scope z)).onRaise (leaving (genE Y scope z))) [] s1
  unfold compStart
  rw [Sem.onRaise_eq_wrap]
  show Seg _ A _ _ _ s₀ _ ((ask >>= _).wrap _ _ _ _) [] s1
  refine seg_bind_wrap (wpAny_askSetting ?_)
  split
  · exact seg_again rfl loop
  · refine seg_bind_wrap (wpAny_rule ?_)
    show Seg _ A _ _ _ s₀ _ ((standAt iter.pos >>= _).wrap _ _ _ _) [] s1
    exact seg_bind_wrap (wpAny_standAt (seg_bind_wrap (T.self _ 0 s1 _ _ t1 (seg_again rfl loop))))
end
theorem newFn_cells {M : Model} {A : Around} {E : Value → Shared → Prop} {s : Shared} {scope : Scope} {globals : Addr} {cl : List (Str × Addr)} {it : Value} {qual : Str} {code : Value} {bi : Addr} {Q : Env → Shared → Prop} (hk : scope.kind = .function) (h0 : scope.names.lookup (".0" : Str) = some NameKind.local)
    (hQ : ∀ h' : Heap, h'.Ns s.heap.objs.size (fun y => if y = ".0" then some it else none) → CellsOk h' (s.heap.objs.size + 1) (cellsFrom (s.heap.objs.size + 1) scope.names []) → (∀ b o, s.heap.get? b = some o → h'.get? b = some o) → s.heap.objs.size < h'.objs.size →
      Q { scope, locals := s.heap.objs.size, globals, cells := cellsFrom (s.heap.objs.size + 1) scope.names cl, qual, func := none, code, frame := some s.heap.objs.size, builtins := bi } { s with heap := h', toks := s.toks + 1 }) :
    wpAny M A (newFunctionEnv scope globals cl [(".0", it)] qual none code none bi) Q E s := by
  simp only [newFunctionEnv, Option.isSome_none, Bool.false_eq_true, if_false]
  refine wpAny_bind (wpAny_alloc ?_)
  refine wpAny_bind (wpAny_layCells _ (fun name kind cells => by cases hkc : kind == NameKind.cell <;> simp [hkc]) _ _ _ _ ?_)
  rw [show ({ s with heap := s.heap.push { cls := .type "frame", data := .dict #[] } } : Shared).heap.objs.size = s.heap.objs.size + 1 from Heap.size_push ..]
  have ok := cellsFrom_ok scope.names (s.heap.push { cls := .type "frame", data := .dict #[] }) (s.heap.objs.size + 1) [] ⟨fun _ _ hm => (nomatch hm), List.Pairwise.nil⟩ (by rw [Heap.size_push]; exact Nat.le_refl _)
  rw [Heap.size_push] at ok
  have ns : (pushCells (s.heap.push { cls := .type "frame", data := .dict #[] }) scope.names).Ns s.heap.objs.size (fun _ => none) := (Heap.Ns.new s.heap (.type "frame")).keeps (pushCells_keeps _ _)
  rw [List.forIn_cons]
  refine wpAny_bind (wpAny_bind (wpAny_bind (wpAny_storeName_local (s := { s with heap := pushCells (s.heap.push { cls := .type "frame", data := .dict #[] }) scope.names }) h0 ns (fun h' hn' hs' => ?_) (by rw [hk]; rfl))))
  refine wpAny_pure ?_
  dsimp only
  rw [List.forIn_nil]
  refine wpAny_pure (wpAny_pure (hQ h' hn' ⟨fun n c hm => ?_, ok.apart⟩ (fun b o e => ?_) ?_))
  · obtain ⟨z1, z2⟩ := ok.empty n c hm
    exact ⟨z1.sameBut hs' (Nat.ne_of_gt z2), z2⟩
  · exact hs'.extBut b o (Nat.ne_of_lt (Heap.lt_size e)) (pushCells_keeps _ _ _ _ (Heap.get?_push_of_some _ e))
  · exact hn'.lt
theorem gexp_make {M : Model} {A : Around} {E : Value → Shared → Prop} {s : Shared} {env : Env} {elt target iter : Expr} {ifs : List Expr} {scope : Scope} {cl : List (Str × Addr)} {pos : Pos} {Q : Value → Shared → Prop}
    (hco : scope.isCoroutine = false) (hclos : closureFor scope env = pure cl) (h0 : scope.names.lookup (".0" : Str) = some NameKind.local) (hkind : scope.kind = .function) (hroom : A.depth < recursionLimit)
    (h : wpAny M A (eval iter env) (fun xv s₁ => wpAny M A (pyIter xv) (fun it s₂ => s₂.heap.NoLimit ∧
      wpAny M A (genexprCode env pos (env.qual ++ "<genexpr>") scope) (fun code s₃ => wpAny M A (builtinsFor env.globals env.builtins) (fun bi s₄ =>
        ∀ h' : Heap, h'.Ns s₄.heap.objs.size (fun y => if y = ".0" then some it else none) → CellsOk h' (s₄.heap.objs.size + 1) (cellsFrom (s₄.heap.objs.size + 1) scope.names []) → (∀ b o, s₄.heap.get? b = some o → h'.get? b = some o) → s₄.heap.objs.size < h'.objs.size →
          Q (.ref h'.objs.size) { s₄ with
            gens := s₄.gens.push (.fresh (.compStart (.GeneratorExp elt [⟨target, iter, ifs, 0⟩] scope pos) 0 it .none (genEnv scope (cellsFrom (s₄.heap.objs.size + 1) scope.names cl) s₄.heap.objs.size code bi env))),
            toks := s₄.toks + 1 + 1 + 1,
            heap := h'.push { cls := .type "generator", data := .fields #[.int s₄.gens.size 0, .str "<genexpr>" (s₄.toks + 1), .str (env.qual ++ "<genexpr>") (s₄.toks + 1 + 1)] } }) E s₃) E s₂) E s₁) E s)
    (hs : ∀ x, genFold iter env x = pure x) :
    wpAny M A (eval (.GeneratorExp elt [⟨target, iter, ifs, 0⟩] scope pos) env) Q E s := by
  rw [eval_GeneratorExp1 _ _ _ _ _ _ _ hco, hclos]
  refine wpAny_bind (wpAny_mono h (fun xv s₁ h₁ => wpAny_bind (wpAny_standAt (wpAny_bind (wpAny_of_eq (hs xv) (wpAny_bind (wpAny_holding (wpAny_mono h₁ (fun it s₂ h₂ => ?_) fun _ _ e => e))))))) fun _ _ e => e)
  refine wpAny_bind (wpAny_enterFrame h₂.1 hroom (wpAny_bind (wpAny_pure (wpAny_bind (wpAny_mono h₂.2 (fun code s₃ h₃ => wpAny_bind (wpAny_mono h₃ (fun bi s₄ h₄ => ?_) fun _ _ e => e)) fun _ _ e => e)))))
  refine wpAny_bind (newFn_cells hkind h0 fun h' hn ce kp sz => ?_)
  simp only [newGenerator, newFields]
  refine wpAny_bind (wpAny_newGen (wpAny_bind (wpAny_mkText (wpAny_bind (wpAny_mkText (wpAny_newObj_type ?_ (by size_fits)))))))
  exact h₄ h' hn ce kp sz
inductive TbG (X : Cx) (T : Tb) (q : Str) (gp : Pos) : Ow → Prop
  | pl (h : Tbl X T (.plain q)) : TbG X T q gp noOw
  | ne (h : Tbl X T (.nest none)) : TbG X T q gp ownOw
  | ow {c c0 P0 : Addr} (hc : X.env.code = .ref c) (hm : (c, Tk.own) ∈ T) (B : LamX.TabB X.base X.mg c0 P0) : TbG X T q gp noOw
  | mx {ls : List (Nat × Nat)} {z : Str} (h : Tbl X T (.mix ls z)) (hl : lamAt ls gp = false) : TbG X T q gp noOw
theorem TbG.bm {X : Cx} {T : Tb} {q : Str} {gp : Pos} {ow : Ow} (h : TbG X T q gp ow) : ∃ P0, X.base.BuiltinsAt X.mg P0 := by
  cases h with
  | pl h => obtain ⟨c, P, B, _⟩ := h.ex; exact ⟨P, B.bm⟩
  | ne h => obtain ⟨c, P, B, _⟩ := h.ex; exact ⟨P, B.bm⟩
  | ow hc hm B => exact ⟨_, B.bm⟩
  | mx h hl => obtain ⟨c, P, B, _⟩ := h.ex; exact ⟨P, B.bm⟩
theorem codeT_ne {c P : Addr} {q : Option Str} (ps : Array Value) : CodeT c P q ≠ .tbl ps := fun z => by unfold CodeT at z; cases z
theorem pTab_ne {P : Addr} (ps : Array Value) : PTab P ≠ .tbl ps := fun z => by unfold PTab at z; cases z
theorem codeT_ok {P : Program} {w : World} {H : Hp} {h : Heap} {c P' : Addr} {ps : Array Value} {q : Option Str} (ic : h.IsCode c P' ps) (ta : h.TableAt c P' ps) (nm : ∀ z, q = some z → ∃ (oc : Obj) (us : Array Value) (t : Tok), h.get? c = some oc ∧ oc.data = .fields us ∧ us[1]? = some (.str z t)) : ObjOk P w H h c (CodeT c P' q) := by
  obtain ⟨o, vs, file, tf, flags, tg, inF, text, tt, op, ho, hd, h11, h2, h7, h9, h10, hop, hpd, htr, hne⟩ := ic
  obtain ⟨⟨o2, vs2, ho2, hc2, hd2, h112⟩, _⟩ := ta
  rw [ho] at ho2
  cases ho2
  rw [hd] at hd2
  cases hd2
  exact ⟨⟨nm, o, vs, file, tf, flags, tg, inF, text, tt, ho, hc2, hd, h112, h11, h2, h7, h9, h10, hne⟩, ⟨o, ho⟩, fun h1 h2 ⟨nm, o, vs, file, tf, flags, tg, inF, text, tt, e, r⟩ k => ⟨fun z hz => by obtain ⟨oc, us, t, a1, a2⟩ := nm z hz; exact ⟨oc, us, t, k _ a1, a2⟩, o, vs, file, tf, flags, tg, inF, text, tt, k _ e, r⟩⟩
theorem pTab_ok {P : Program} {w : World} {H : Hp} {h : Heap} {P' : Addr} {ps : Array Value} (e : h.get? P' = some { cls := .none, data := .fields ps }) (t : TriplesOk ps.toList) (r : ∀ pos cv, codeAmong pos ps.toList = some cv → ∃ c, cv = .ref c) : ObjOk P w H h P' (PTab P') :=
  ⟨⟨ps, e, t, r⟩, ⟨_, e⟩, fun h1 h2 ⟨ps, e, q⟩ k => ⟨ps, k _ e, q⟩⟩
theorem upd_idT {H : Hp} {a : Addr} {o : HO} (h : H a = some o) : upd H a o = H := by
  funext b
  by_cases e : b = a
  · rw [e, upd_same, h]
  · rw [upd_ne e]
section
variable {Y : DX} {s : DSt} {σ : St} {H F : Hp} {pins : List (Addr × Obj)} {scope : Scope} {gpos : Pos} {Q E : Value → Shared → Prop} {s2 : Shared}
theorem gen_code {ow : Ow} (tb : TbG Y.X Y.T (Y.X.env.qual ++ "<genexpr>") gpos ow) (I : Inv Y.X pins σ H s2) (S : Sta Y s σ H F)
    (k : ∀ (c : Addr) (s3 : Shared) (H3 : Hp), Inv Y.X pins σ H3 s3 → Sta Y s σ H3 F → (∀ z : GCx, z.code = c → TbOk (ow z) H3) → (∀ b o, H b = none → s2.heap.get? b = some o → s3.heap.get? b = some o) → (∀ b, H b = none → b < s2.heap.objs.size → H3 b = none) → Q (.ref c) s3) :
    wpAny (model Y.X.prog Y.X.w) Y.X.A (genexprCode Y.X.env gpos (Y.X.env.qual ++ "<genexpr>") scope) Q E s2 := by
  have no : ∀ {z : GCx} {H3 : Hp}, TbOk (noOw z) H3 := fun {z H3} p hp => by cases hp
  cases tb with
  | pl h =>
    obtain ⟨cd, P, TB, hcode, hmT, hu⟩ := h.ex
    obtain ⟨ps, hP, ht, hcv⟩ := S.tb _ hmT
    have hP' : s2.heap.get? P = some { cls := .none, data := .fields ps } := I.hok P _ hP
    have nP : ∀ {b : Addr}, H b = none → b ≠ P := fun {b} e z => by rw [z, hP] at e; cases e
    cases hf : codeAmong gpos ps.toList with
    | some cv =>
      obtain ⟨c, rfl, _⟩ := hcv gpos cv hf
      exact wpAny_genexprCode_hit hcode ((TB.code.keeps I.bk).code hP' ht) hf (k c s2 H I S (fun _ _ => no) (fun _ _ _ e => e) fun b hb _ => hb)
    | none =>
      refine wpAny_genexprCodeX hcode ((TB.code.keeps I.bk).code hP' ht) ((TB.code.keeps I.bk).tab hP') hf fun c' h' tk hx hge hlt hco' hrec htab' _ => ?_
      obtain ⟨c2, oc, ws, t, e2, hoc, hd, hv⟩ := hrec
      cases e2
      have nC : H c' = none := I.hok.fresh hge
      have I3 := LamX.inv_table (t' := tk) (more := #[rawInt gpos.line, rawInt gpos.col, .ref c']) (h' := h') (q := Y.X.env.qual ++ "<genexpr>") I hP (fun b o hb e => hx b o hb e) htab'.2 hge ⟨oc, ws, t, hoc, hd, hv⟩
      have ex : LamX.ExtN H (upd (upd H P (.tbl (ps ++ #[rawInt gpos.line, rawInt gpos.col, .ref c']))) c' (LamX.CodeO c' (Y.X.env.qual ++ "<genexpr>"))) := fun b o e n => by
        rw [upd_ne (ne_of_none e nC), upd_ne (fun x => n ps (by rw [x, hP] at e; exact (Option.some.inj e).symm))]
        exact e
      have el : (ps ++ #[rawInt gpos.line, rawInt gpos.col, .ref c']).toList = ps.toList ++ [rawInt gpos.line, rawInt gpos.col, .ref c'] := by simp
      refine k c' _ _ I3 (S.extN ex (fun p hp => ?_) fun a qs ha e => ?_) (fun _ _ => no) (fun b o hb e => hx b o (nP hb) e) fun b hb hl => ?_
      · have hp' := plainT_mem.mp hp
        obtain ⟨qs, a1, a2, a3⟩ := S.tb _ hp'
        by_cases hb : p.1 = P
        · have hq := hu _ hp' hb
          have hq' : p.2 = Y.X.env.qual ++ "<genexpr>" := by injection hq
          have a1' : H p.1 = some (.tbl qs) := a1
          rw [hb, hP] at a1'
          cases a1'
          refine ⟨_, by rw [hb, upd_ne (ne_of_none hP nC), upd_same], by rw [el]; exact PySem.TriplesOk_snoc _ _ _ _ ht, fun p' cv hcv' => ?_⟩
          rw [el] at hcv'
          rcases LamX.among_app _ ht hcv' with y | y
          · obtain ⟨c0, e1, e2⟩ := a3 p' cv y
            exact ⟨c0, e1, ex _ _ e2 LamX.codeO_ne⟩
          · exact ⟨c', y, by rw [hq', upd_same]⟩
        · refine ⟨qs, by rw [upd_ne (ne_of_none a1 nC), upd_ne hb]; exact a1, a2, fun p' cv hcv' => ?_⟩
          obtain ⟨c0, e1, e2⟩ := a3 p' cv hcv'
          exact ⟨c0, e1, ex _ _ e2 LamX.codeO_ne⟩
      · rw [upd_ne (ne_of_none e nC), upd_ne (fun z => by rcases ha with ⟨_, ha⟩ | ⟨_, _, ha⟩ <;> (have h9 := hu _ ha z; cases h9))]
        exact e
      · rw [upd_ne (Nat.ne_of_lt (Nat.lt_of_lt_of_le hl hge)), upd_ne (nP hb)]
        exact hb
  | ne h =>
    obtain ⟨cd, P, TB, hcode, hmT, hu⟩ := h.ex
    obtain ⟨ps, hP, ht, hcv⟩ := S.tb _ hmT
    have hP' : s2.heap.get? P = some { cls := .none, data := .fields ps } := I.hok P _ hP
    have nP : ∀ {b : Addr}, H b = none → b ≠ P := fun {b} e z => by rw [z, hP] at e; cases e
    cases hf : codeAmong gpos ps.toList with
    | some cv =>
      obtain ⟨c, P', rfl, z1, z2⟩ := hcv gpos cv hf
      refine wpAny_genexprCode_hit hcode ((TB.code.keeps I.bk).code hP' ht) hf (k c s2 H I S (fun z hz p hp => ?_) (fun _ _ _ e => e) fun b hb _ => hb)
      cases List.mem_singleton.mp hp
      show TbE H z.code .own
      rw [hz]
      exact ⟨P', _, z1, z2⟩
    | none =>
      refine wpAny_genexprCodeX hcode ((TB.code.keeps I.bk).code hP' ht) ((TB.code.keeps I.bk).tab hP') hf fun c' h' tk hx hge hlt hco' hrec htab' ⟨P', hge', ic, ta⟩ => ?_
      obtain ⟨c2, oc, ws, t, e2, hoc, hd, hv⟩ := hrec
      cases e2
      have nC : H c' = none := I.hok.fresh hge
      have nC' : H P' = none := I.hok.fresh hge'
      have nPc : P ≠ c' := ne_of_none hP nC
      have nPp : P ≠ P' := ne_of_none hP nC'
      have ncp : c' ≠ P' := by obtain ⟨_, _, _, _, _, _, _, _, _, _, _, _, _, _, _, _, _, _, _, _, hne⟩ := ic; exact hne
      have I3 := LamX.inv_table (t' := tk) (more := #[rawInt gpos.line, rawInt gpos.col, .ref c']) (h' := h') (q := Y.X.env.qual ++ "<genexpr>") I hP (fun b o hb e => hx b o hb e) htab'.2 hge ⟨oc, ws, t, hoc, hd, hv⟩
      have I4 := I3.write (x := c') (e := c') (h' := h') (t' := tk) (o := CodeT c' P' none) (by rw [upd_same]; exact True.intro) (.inl rfl) (fun b u _ e => e) ⟨oc, hoc⟩ (codeT_ok ic ta fun z hz => by cases hz)
      rw [upd_upd] at I4
      have I5 := I4.take (h' := h') (t' := tk) (it := P') (o := PTab P') (fun b ob _ e => e) (I.fpOk hge' (by rw [upd_ne (Ne.symm ncp), upd_ne (Ne.symm nPp)]; exact nC')) (pTab_ok ta.2 trivial fun pos cv h => by
        have h : codeAmong pos [] = some cv := h
        cases h)
      have el : (ps ++ #[rawInt gpos.line, rawInt gpos.col, .ref c']).toList = ps.toList ++ [rawInt gpos.line, rawInt gpos.col, .ref c'] := by simp
      have sm : ∀ b o, H b = some o → b ≠ P → upd (upd (upd H P (.tbl (ps ++ #[rawInt gpos.line, rawInt gpos.col, .ref c']))) c' (CodeT c' P' none)) P' (PTab P') b = some o := fun b o e n => by
        rw [upd_ne (ne_of_none e nC'), upd_ne (ne_of_none e nC), upd_ne n]; exact e
      have ex : LamX.ExtN H (upd (upd (upd H P (.tbl (ps ++ #[rawInt gpos.line, rawInt gpos.col, .ref c']))) c' (CodeT c' P' none)) P' (PTab P')) := fun b o e n => sm b o e fun x => n ps (by rw [x, hP] at e; exact (Option.some.inj e).symm)
      have atc : upd (upd (upd H P (.tbl (ps ++ #[rawInt gpos.line, rawInt gpos.col, .ref c']))) c' (CodeT c' P' none)) P' (PTab P') c' = some (CodeT c' P' none) := by rw [upd_ne ncp, upd_same]
      have atp : upd (upd (upd H P (.tbl (ps ++ #[rawInt gpos.line, rawInt gpos.col, .ref c']))) c' (CodeT c' P' none)) P' (PTab P') P' = some (PTab P') := upd_same
      have atP : upd (upd (upd H P (.tbl (ps ++ #[rawInt gpos.line, rawInt gpos.col, .ref c']))) c' (CodeT c' P' none)) P' (PTab P') P = some (.tbl (ps ++ #[rawInt gpos.line, rawInt gpos.col, .ref c'])) := by rw [upd_ne nPp, upd_ne nPc, upd_same]
      refine k c' _ _ I5 (S.extT ex fun p hp => ?_) (fun z hz p hp => ?_) (fun b o hb e => hx b o (nP hb) e) fun b hb hl => ?_
      · obtain ⟨a, kd⟩ := p
        have h0 := S.tb _ hp
        by_cases hb : a = P
        · have hk := hu _ hp hb
          have hk' : kd = .nest none := hk
          subst hk' hb
          refine ⟨_, atP, by rw [el]; exact PySem.TriplesOk_snoc _ _ _ _ ht, fun p' cv hcv' => ?_⟩
          rw [el] at hcv'
          rcases LamX.among_app _ ht hcv' with y | y
          · obtain ⟨c0, P0, e1, e2, e3⟩ := hcv p' cv y
            exact ⟨c0, P0, e1, ex _ _ e2 codeT_ne, ex _ _ e3 pTab_ne⟩
          · exact ⟨c', P', y, atc, atp⟩
        · cases kd with
          | plain q =>
            obtain ⟨qs, a1, a2, a3⟩ := h0
            refine ⟨qs, sm _ _ a1 hb, a2, fun p' cv hcv' => ?_⟩
            obtain ⟨c0, e1, e2⟩ := a3 p' cv hcv'
            exact ⟨c0, e1, ex _ _ e2 LamX.codeO_ne⟩
          | nest z9 =>
            obtain ⟨qs, a1, a2, a3⟩ := h0
            refine ⟨qs, sm _ _ a1 hb, a2, fun p' cv hcv' => ?_⟩
            obtain ⟨c0, P0, e1, e2, e3⟩ := a3 p' cv hcv'
            exact ⟨c0, P0, e1, ex _ _ e2 codeT_ne, ex _ _ e3 pTab_ne⟩
          | own =>
            obtain ⟨P0, q, e2, e3⟩ := h0
            exact ⟨P0, q, ex _ _ e2 codeT_ne, ex _ _ e3 pTab_ne⟩
          | mix ls q =>
            obtain ⟨qs, a1, a2, a3⟩ := h0
            refine ⟨qs, sm _ _ a1 hb, a2, fun p' cv hcv' => ?_⟩
            obtain ⟨c0, e1, e2⟩ := a3 p' cv hcv'
            exact ⟨c0, e1, fun l => ex _ _ (e2 l) LamX.codeO_ne⟩
      · cases List.mem_singleton.mp hp
        show TbE _ z.code .own
        rw [hz]
        exact ⟨P', _, atc, atp⟩
      · rw [upd_ne (Nat.ne_of_lt (Nat.lt_of_lt_of_le hl hge')), upd_ne (Nat.ne_of_lt (Nat.lt_of_lt_of_le hl hge)), upd_ne (nP hb)]
        exact hb
  | @mx ls z h hl =>
    obtain ⟨cd, P, TB, hcode, hmT, hu⟩ := h.ex
    obtain ⟨ps, hP, ht, hcv⟩ := S.tb _ hmT
    have hP' : s2.heap.get? P = some { cls := .none, data := .fields ps } := I.hok P _ hP
    have nP : ∀ {b : Addr}, H b = none → b ≠ P := fun {b} e z => by rw [z, hP] at e; cases e
    cases hf : codeAmong gpos ps.toList with
    | some cv =>
      obtain ⟨c, rfl, _⟩ := hcv gpos cv hf
      exact wpAny_genexprCode_hit hcode ((TB.code.keeps I.bk).code hP' ht) hf (k c s2 H I S (fun _ _ => no) (fun _ _ _ e => e) fun b hb _ => hb)
    | none =>
      refine wpAny_genexprCodeX hcode ((TB.code.keeps I.bk).code hP' ht) ((TB.code.keeps I.bk).tab hP') hf fun c' h' tk hx hge hlt hco' hrec htab' _ => ?_
      obtain ⟨c2, oc, ws, t, e2, hoc, hd, hv⟩ := hrec
      cases e2
      have nC : H c' = none := I.hok.fresh hge
      have I3 := LamX.inv_table (t' := tk) (more := #[rawInt gpos.line, rawInt gpos.col, .ref c']) (h' := h') (q := Y.X.env.qual ++ "<genexpr>") I hP (fun b o hb e => hx b o hb e) htab'.2 hge ⟨oc, ws, t, hoc, hd, hv⟩
      have sm : ∀ b o, H b = some o → b ≠ P → upd (upd H P (.tbl (ps ++ #[rawInt gpos.line, rawInt gpos.col, .ref c']))) c' (LamX.CodeO c' (Y.X.env.qual ++ "<genexpr>")) b = some o := fun b o e n => by
        rw [upd_ne (ne_of_none e nC), upd_ne n]; exact e
      have ex : LamX.ExtN H (upd (upd H P (.tbl (ps ++ #[rawInt gpos.line, rawInt gpos.col, .ref c']))) c' (LamX.CodeO c' (Y.X.env.qual ++ "<genexpr>"))) := fun b o e n => sm b o e fun x => n ps (by rw [x, hP] at e; exact (Option.some.inj e).symm)
      have el : (ps ++ #[rawInt gpos.line, rawInt gpos.col, .ref c']).toList = ps.toList ++ [rawInt gpos.line, rawInt gpos.col, .ref c'] := by simp
      refine k c' _ _ I3 (S.extT ex (mix_tb S.tb hmT hu (fun b o e n => sm b o e n) ex ⟨_, by rw [upd_ne (ne_of_none hP nC), upd_same], by rw [el]; exact PySem.TriplesOk_snoc _ _ _ _ ht, fun p' cv hcv' => ?_⟩)) (fun _ _ => no) (fun b o hb e => hx b o (nP hb) e) fun b hb hl => ?_
      · rw [el] at hcv'
        rcases among_app2 _ ht hcv' with y | ⟨y, y1, y2⟩
        · obtain ⟨c0, e1, e2⟩ := hcv p' cv y
          exact ⟨c0, e1, fun l => ex _ _ (e2 l) LamX.codeO_ne⟩
        · refine ⟨c', y, fun l => ?_⟩
          unfold lamAt at l hl
          rw [y1, y2, hl] at l
          cases l
      · rw [upd_ne (Nat.ne_of_lt (Nat.lt_of_lt_of_le hl hge)), upd_ne (nP hb)]
        exact hb
  | @ow c c0 P0 hcode hm B =>
    obtain ⟨P', q9, z1, z2⟩ := S.tb _ hm
    obtain ⟨⟨_, o, vs, file, tf, flags, tg, inF, text, tt, ho, hcl, hd, h11', h11, h2, h7, h9, h10, hne⟩, _⟩ := I.hok _ _ z1
    obtain ⟨⟨ps, hP', ht, hr⟩, _⟩ := I.hok _ _ z2
    have ic : s2.heap.IsCode c P' ps := ⟨o, vs, file, tf, flags, tg, inF, text, tt, _, ho, hd, h11, h2, h7, h9, h10, hP', rfl, ht, hne⟩
    have ta : s2.heap.TableAt c P' ps := ⟨⟨o, vs, ho, hcl, hd, h11'⟩, hP'⟩
    cases hf : codeAmong gpos ps.toList with
    | some cv =>
      obtain ⟨c1, rfl⟩ := hr gpos cv hf
      exact wpAny_genexprCode_hit hcode ic hf (k c1 s2 H I S (fun _ _ => no) (fun _ _ _ e => e) fun b hb _ => hb)
    | none =>
      refine wpAny_genexprCodeX hcode ic ta hf fun c' h' tk hx hge hlt hco' hrec htab' _ => ?_
      have el : (ps ++ #[rawInt gpos.line, rawInt gpos.col, .ref c']).toList = ps.toList ++ [rawInt gpos.line, rawInt gpos.col, .ref c'] := by simp
      have I3 := I.write (x := P') (e := P') (h' := h') (t' := tk) (o := PTab P') (by rw [z2]; exact True.intro) (.inl rfl) (fun b u hb e => hx b u hb e) ⟨_, htab'.2⟩ (pTab_ok htab'.2 (by rw [el]; exact PySem.TriplesOk_snoc _ _ _ _ ht) fun p' cv h => by
        rw [el] at h
        exact (LamX.among_app _ ht h).elim (fun y => hr p' cv y) fun y => ⟨c', y⟩)
      rw [upd_idT z2] at I3
      exact k c' _ H I3 S (fun _ _ => no) (fun b o hb e => hx b o (fun z => by rw [z, z2] at hb; cases hb) e) fun b hb _ => hb
end
structure Made {γ : Type} [Enc γ] [FlatV γ] (Y : DX) (scope : Scope) (ow : Ow) (vs : List Nat) (s : DSt) (σ : St) (F0 : Hp) (pins : List (Addr × Obj)) (ys : List γ) (a : Addr) (s5 : Shared) : Prop where
  go : ∃ (z : GCx) (F : Hp) (g : Nat), Ext F0 F ∧ Inv Y.X pins σ z.H z.s ∧ (∀ b ∈ z.fp, (b ∈ Y.X.ex ∨ Y.X.s_0.heap.objs.size ≤ b) ∧ b ≠ Y.X.env.locals ∧ (∀ x c, Y.X.env.cells.lookup x = some c → c ≠ b) ∧ ∀ p ∈ Y.X.pn ++ pins, p.1 ≠ b) ∧
    s5.heap.IsGen a g ∧ ∀ (S : List Addr) (s6 : Shared), a ∈ S → (∀ b ∈ S, b = a ∨ s5.heap.objs.size ≤ b) → s6.os = s5.os → s6.gens = s5.gens → (∀ b o, s5.heap.get? b = some o → s6.heap.get? b = some o) → (∀ b ∈ S, ∃ o, s6.heap.get? b = some o ∧ ∀ v, o.data ≠ .cell v) →
      (∀ b ∈ S, Ap Y scope z b) ∧ GSt Y scope ow z vs s σ F S ys Y.X.A.in1.in1 a g 0 s6
section
variable {Y : DX} {k : Nat} {scope : Scope} {ow : Ow} {s : DSt} {σ : St} {β γ : Type} [Enc β] [Enc γ] [FlatV γ] [FlatE γ]
theorem gen_made {vs ws : List Nat} {tg elt iter : Expr} {ifs : List Expr} {g : TG} {f : β → Rho → Rho} {items : List β} {c : β → Bool} {h : β → γ} {gpos : Pos} {pins : List (Addr × Obj)} {F0 H F : Hp} {s0 : Shared} {Q : Value → Shared → Prop} (ok : YOk Y) (hk : k + 2 ≤ Y.k) (hi : EvIt Y s tg iter items) (G : GenOk Y.X.N Y.X.env.scope scope vs) (tb : TbG Y.X Y.T (Y.X.env.qual ++ "<genexpr>") gpos ow)
    (L : GTurns Y k s scope ow vs tg elt ifs g ws f items c h) (hs : ∀ x, genFold iter Y.X.env x = pure x) (e0 : Ext F0 F) (S : Sta Y s σ H F) (I : Inv Y.X pins σ H s0)
    (hQ : ∀ a s5, Made Y scope ow vs s σ F0 pins ((items.filter c).map h) a s5 → Q (.ref a) s5) :
    wpAny (model Y.X.prog Y.X.w) Y.X.A (eval (.GeneratorExp elt [⟨tg, iter, ifs, 0⟩] scope gpos) Y.X.env) Q Y.X.xe s0 := by
  obtain ⟨wi, hp, hw⟩ := hi
  have hfree : ∀ y ∈ scope.names, y.2 = .free → ∃ c, Y.X.env.cells.lookup y.1 = some c := fun y hy e => (G.free y hy e).elim (fun q => I.ok.has _ (.inl q)) fun q => I.ok.has _ (.inr q)
  refine gexp_make G.co (closure_ok hfree) G.dot G.kind ok.room.depth ?_ hs
  refine wpAny_mono (hp.run pins s0 σ H (fun J H' => ∃ F', Ext F0 F' ∧ Sta Y s σ H' F' ∧ ItOk Y.X.K J F' items) I (hw F0 σ H F _ e0 S fun J H' F' e1 S1 K1 => ⟨F', e1, S1, K1⟩)) (fun xv s1 h1 => wpAny_mono h1 (fun itv s2 ⟨it, fp, tn, J, H2, ei, I2, T, t2, f2, F2, e2, S2, K2⟩ => ?_) fun _ _ e => e) fun _ _ e => e
  subst ei
  refine ⟨I2.nolimit, ?_⟩
  refine gen_code tb I2 S2 fun code s3 H3 I3 S3 O3 kp3 fr3 => ?_
  obtain ⟨P0, bm0⟩ := tb.bm
  obtain ⟨bm, ob, b1, b2, b3, b4, b5, b6, b7, b8⟩ := bm0
  refine wpAny_builtinsFor (m := Y.X.mg) (by rw [I3.ok.glob]; exact I3.mod.glob.keeps I3.bk) b1 b2 (I3.bk _ _ b5) b6 b7 b8 ?_
  intro h' hn ce kp4 hsz
  have sz2 : ∀ b ∈ fp, b < s2.heap.objs.size := fun b hb => by
    obtain ⟨o, e, _⟩ := T.obj _ _ t2 b hb
    exact Heap.lt_size e
  have sz3 : ∀ b ∈ fp, b < s3.heap.objs.size := fun b hb => by
    obtain ⟨o, e, _⟩ := T.obj _ _ t2 b hb
    exact Heap.lt_size (kp3 b o (f2 b hb).1 e)
  have f3 : ∀ b ∈ fp, FpOk Y.X pins H3 b ∧ b < s3.heap.objs.size := fun b hb => ⟨⟨fr3 b (f2 b hb).1 (sz2 b hb), (f2 b hb).2⟩, sz3 b hb⟩
  generalize hz : (⟨(Y.X.A.in1.in1).over (.compLoop (.GeneratorExp elt [⟨tg, iter, ifs, 0⟩] scope gpos) 0 (.ref it) .none (genEnv scope (genCl Y.X.env.cells scope s3.heap.objs.size) s3.heap.objs.size (.ref code) builtinsNs Y.X.env)) [], s3.heap.objs.size, code, s3, H3, fp⟩ : GCx) = z
  have zA : (Y.X.A.in1.in1).over (.compLoop (.GeneratorExp elt [⟨tg, iter, ifs, 0⟩] scope gpos) 0 (.ref it) .none (genE Y scope z)) [] = z.A := by rw [← hz]
  have hr : Room k z.A := by
    have r := ok.room.mono hk
    rw [← hz]
    have h1 : Y.X.A.depth + 3 * (k + 2) + 5 < recursionLimit := r.dp
    have h2 : Y.X.A.units + 16 * (k + 2) + 200 < cLine := r.un
    have h3 : Y.X.A.depth + 1 + 3 * k + 5 < recursionLimit := by omega
    have h4 : Y.X.A.units + 1 + 1 + 3 + 16 * k + 200 < cLine := by omega
    exact ⟨r.hd, h3, h4⟩
  have fr : z.A.frames = some (genE Y scope z :: Y.X.stack) := by
    rw [← hz]
    show pushEnvs [_] (pushEnvs [] Y.X.A.frames) = _
    rw [I3.ok.frames]
    rfl
  have I5 : Inv (genX Y scope z) [] (L2.wipe σ vs) H3 { s3 with
          gens := s3.gens.push (.fresh (.compStart (.GeneratorExp elt [⟨tg, iter, ifs, 0⟩] scope gpos) 0 (.ref it) .none (genE Y scope z))),
          toks := s3.toks + 1 + 1 + 1,
          heap := h'.push { cls := .type "generator", data := .fields #[.int s3.gens.size 0, .str "<genexpr>" (s3.toks + 1), .str (Y.X.env.qual ++ "<genexpr>") (s3.toks + 1 + 1)] } } := by
    subst hz
    exact gen_start (A := _) (m0 := fun y => if y = ".0" then some (.ref it) else none) I3 G fr hr.hd f3 (hn.push _) ⟨fun y c hm => ⟨(ce.empty y c hm).1.keeps fun b o e => Heap.get?_push_of_some _ e, (ce.empty y c hm).2⟩, ce.apart⟩ (fun b o e => Heap.get?_push_of_some _ (kp4 b o e)) (I3.bare.push rfl)
  have hzs : z.s = s3 := by rw [← hz]
  have hzH : z.H = H3 := by rw [← hz]
  have hzf : z.fp = fp := by rw [← hz]
  have hzC : z.C = s3.heap.objs.size := by rw [← hz]
  have hzc : z.code = code := by rw [← hz]
  have ea : genEnv scope (genCl Y.X.env.cells scope s3.heap.objs.size) s3.heap.objs.size (.ref code) builtinsNs Y.X.env = genE Y scope z := by rw [← hz]
  rw [ea]
  have T' : Turn Y.X.prog Y.X.w Y.X.K tg J z.fp it tn := by rw [hzf]; exact T
  have ge : s3.heap.objs.size ≤ h'.objs.size := by omega
  have ap : ∀ b : Addr, h'.objs.size ≤ b → Ap Y scope z b := fun b hb => by
    have hb' : h'.objs.size ≤ (b : Nat) := hb
    have ge2 : s3.heap.objs.size ≤ b := Nat.le_trans ge hb
    refine ⟨by rw [hzs]; exact ge2, fun q => by
      rw [hzC] at q
      exact Nat.ne_of_gt (Nat.lt_of_lt_of_le hsz hb') q, fun x c e q => ?_, fun q => ?_, fun q => ?_⟩
    · rw [hzC] at e
      rcases genCl_cases I3.ok G e with ⟨a1, _⟩ | ⟨a1, _⟩
      · have h9 := (ce.empty x c a1).1.lt
        rw [q] at h9
        exact absurd (Nat.lt_of_lt_of_le h9 hb') (Nat.lt_irrefl _)
      · obtain ⟨v, hv⟩ := I3.cell x c a1
        have h9 : c < s3.heap.objs.size := hv.lt
        rw [q] at h9
        exact absurd (Nat.lt_of_lt_of_le h9 ge2) (Nat.lt_irrefl _)
    · rw [hzf] at q
      exact absurd (Nat.lt_of_lt_of_le (sz3 _ q) ge2) (Nat.lt_irrefl _)
    · rcases List.mem_cons.mp (I3.stkSub _ q) with q | q
      · have := I3.lt
        rw [← q] at this
        exact absurd (Nat.lt_of_lt_of_le this ge2) (Nat.lt_irrefl _)
      · exact I3.nofs ge2 q
  refine hQ _ _ ⟨z, F2, s3.gens.size, e2, by rw [hzs, hzH]; exact I3, fun b hb => ?_, ⟨_, _, _, Heap.get?_push_size _ rfl, rfl, rfl, rfl⟩, fun S s6 ha hS o6 g6 k6 b6 => ?_⟩
  · rw [hzf] at hb
    obtain ⟨_, f5, _, f6, f7, f8⟩ := (f3 b hb).1
    exact ⟨f6, f5, f7, f8⟩
  have hSb : ∀ b ∈ S, h'.objs.size ≤ b := fun b hb => by
    rcases hS b hb with q | q
    · rw [q]; exact Nat.le_refl _
    · have q' : h'.objs.size + 1 ≤ (b : Nat) := by
        have := q
        rw [Heap.size_push] at this
        exact this
      exact Nat.le_trans (Nat.le_succ _) q'
  have aw : Aw [] { s3 with
          gens := s3.gens.push (.fresh (.compStart (.GeneratorExp elt [⟨tg, iter, ifs, 0⟩] scope gpos) 0 (.ref it) .none (genE Y scope z))),
          toks := s3.toks + 1 + 1 + 1,
          heap := h'.push { cls := .type "generator", data := .fields #[.int s3.gens.size 0, .str "<genexpr>" (s3.toks + 1), .str (Y.X.env.qual ++ "<genexpr>") (s3.toks + 1 + 1)] } } s6 := ⟨o6, by rw [g6]; exact I5.bare, fun b o _ e => k6 b o e, fun _ h => absurd h (by simp)⟩
  have I6 := GE.aw (S := []) (fun _ hb => absurd hb (by simp)) (fun _ hb => absurd hb (by simp)) I5 aw
  have gt : GT Y scope ow z vs s σ F2 tn S 0 s6 :=
    ⟨H3, F2, I6, T.keep 0 _ _ t2 fun b hb o e => k6 b o (Heap.get?_push_of_some _ (kp4 b o (kp3 b o (f2 b hb).1 e))), fun b hb => (f3 b (by rw [← hzf]; exact hb)).1.1, fun b hb => I3.hok.fresh (Nat.le_trans ge (hSb b hb)), b6, .refl _, ⟨S3, O3 z hzc⟩⟩
  refine ⟨fun b hb => ap b (hSb b hb), .fresh (.compStart (.GeneratorExp elt [⟨tg, iter, ifs, 0⟩] scope gpos) 0 (.ref it) .none (genE Y scope z)), ⟨_, _, _, k6 _ _ (Heap.get?_push_size _ rfl), rfl, rfl, rfl⟩, by rw [g6]; exact Array.getElem?_push_size .., gt.ge, b6, fun s7 w7 => ⟨rfl, ?_⟩⟩
  exact seg_start (gpos := gpos) L (ok.gen hr) G.co T' (fun b hb => ap b (hSb b hb)) K2 zA s7 s7 (gt.aw T' (fun b hb => ap b (hSb b hb)) w7) fun _ _ _ e => e
theorem made_back {vs : List Nat} {F0 F : Hp} {pins : List (Addr × Obj)} {z : GCx} {s6 : Shared} (e0 : Ext F0 F) (I : Inv Y.X pins σ z.H z.s) (hf : ∀ b ∈ z.fp, (b ∈ Y.X.ex ∨ Y.X.s_0.heap.objs.size ≤ b) ∧ b ≠ Y.X.env.locals ∧ (∀ x c, Y.X.env.cells.lookup x = some c → c ≠ b) ∧ ∀ p ∈ Y.X.pn ++ pins, p.1 ≠ b)
    {S : List Addr} (g : GE Y scope ow z vs s σ F S s6) : ∃ H' F', Inv Y.X pins σ H' s6 ∧ Ext F0 F' ∧ Sta Y s σ H' F' := by
  obtain ⟨H', F', I6, _, e6, S6⟩ := g
  exact ⟨H', F', I.call' (ch := z.fp) I6.os I6.base I6.hok I6.bare hf, e0.trans e6, S6.s⟩
section
variable {Q : Pv → DSt → Prop} {vs ws : List Nat} {tg elt iter : Expr} {ifs : List Expr} {g : TG} {f : β → Rho → Rho} {items : List β} {c : β → Bool} {gpos pos p : Pos}
theorem ys_bool {h : β → Bool} {i : Nat} {v : Value} (w : ∃ y, ((items.filter c).map h)[i]? = some y ∧ RelV (FlatV.z y) v) : ∃ y, ((items.filter c).map h)[i]? = some y ∧ v = .bool y := by
  obtain ⟨y, h1, h2⟩ := w
  exact ⟨y, h1, h2⟩
theorem SW.imp {prog : Program} {w : World} {A : Around} {a : Addr} {S : List Addr} {n : Nat} {St : Nat → Shared → Prop} {P P' : Nat → Value → Prop} {D : Shared → Prop} (W : SW prog w A a S n St P D) (h : ∀ i v, P i v → P' i v) : SW prog w A a S n St P' D :=
  ⟨fun i s Q E hi st k => W.item i s Q E hi st fun v s' hp st' kp => k v s' (h i v hp) st' kp, W.done, W.out⟩
theorem evp_any {h : β → Bool} (ok : YOk Y) (B : Bis Y.X.mg) (hg : Gl Y.X "any") (hk : k + 2 ≤ Y.k) (hi : EvIt Y s tg iter items) (G : GenOk Y.X.N Y.X.env.scope scope vs) (tb : TbG Y.X Y.T (Y.X.env.qual ++ "<genexpr>") gpos ow)
    (L : GTurns Y k s scope ow vs tg elt ifs g ws f items c h) (hs : ∀ x, genFold iter Y.X.env x = pure x := by intro _; rfl)
    (he : starEach [.GeneratorExp elt [⟨tg, iter, ifs, 0⟩] scope gpos] Y.X.env = (false, eval (.GeneratorExp elt [⟨tg, iter, ifs, 0⟩] scope gpos) Y.X.env) :: starEach [] Y.X.env := by rfl) :
    EvP Y s (.Call (.Name "any" p) [.GeneratorExp elt [⟨tg, iter, ifs, 0⟩] scope gpos] [] pos) (pu (((items.filter c).map h).any id)) := fun F0 σ H F e0 S => by
  refine ⟨fun pins s0 I => ?_⟩
  refine wpAny_Call_Name_kw (ld_blt I hg (B.no _ (by decide)) (show bootBuiltins "any" = some (.builtin "any") by decide +kernel) ?_)
  refine PyProof.Rows.callWith_builtin1 ?_ he (by rfl)
  rw [he]
  show wpAny _ _ (spliced ((false, eval (.GeneratorExp elt [⟨tg, iter, ifs, 0⟩] scope gpos) Y.X.env) :: backTo pos (starEach [] Y.X.env))) _ _ s0
  refine Calls.spliced_cons (gen_made ok hk hi G tb L hs e0 S I fun a s5 M => ?_)
  obtain ⟨z, F2, gn, e2, I3, hf, hgn, st⟩ := M.go
  obtain ⟨oa, _, _, hoa, _, hda, _⟩ := id hgn
  obtain ⟨_, st⟩ := st [a] s5 (List.mem_singleton.mpr rfl) (fun b hb => .inl (List.mem_singleton.mp hb)) rfl rfl (fun _ _ e => e) (fun b hb => by rw [List.mem_singleton.mp hb]; exact ⟨oa, hoa, fun v q => by rw [hda] at q; cases q⟩)
  refine Calls.spliced_nil ?_
  refine call_function_tree PySem.F.kind_any PySem.F.plain_any PySem.F.entry_any (PySem.F.args_any1 _) ?_
  unfold Builtin.«any»
  refine wpAny_bind (m := oneArg "any" _) (wpAny_pure ?_)
  refine wpAny_bind (wpAny_pyIter_gen hgn ?_)
  refine wpAny_pure ⟨plainId_quiet PySem.F.plain_any_loop _, any_go ((gen_sw (A := Y.X.A.in1) (List.mem_singleton.mpr rfl) ok.room.hd ok.room.depth).imp fun i v => ys_bool) _ 0 s5 rfl (Nat.zero_le _) st fun s6 g6 => ?_⟩
  obtain ⟨H', F', I6, e6, S6⟩ := made_back e2 I3 hf g6
  exact ⟨.bl _, H', I6, by rw [List.drop_zero]; rfl, F', e6, rfl, S6⟩
theorem evp_all {h : β → Bool} (ok : YOk Y) (B : Bis Y.X.mg) (hg : Gl Y.X "all") (hk : k + 2 ≤ Y.k) (hi : EvIt Y s tg iter items) (G : GenOk Y.X.N Y.X.env.scope scope vs) (tb : TbG Y.X Y.T (Y.X.env.qual ++ "<genexpr>") gpos ow)
    (L : GTurns Y k s scope ow vs tg elt ifs g ws f items c h) (hs : ∀ x, genFold iter Y.X.env x = pure x := by intro _; rfl)
    (he : starEach [.GeneratorExp elt [⟨tg, iter, ifs, 0⟩] scope gpos] Y.X.env = (false, eval (.GeneratorExp elt [⟨tg, iter, ifs, 0⟩] scope gpos) Y.X.env) :: starEach [] Y.X.env := by rfl) :
    EvP Y s (.Call (.Name "all" p) [.GeneratorExp elt [⟨tg, iter, ifs, 0⟩] scope gpos] [] pos) (pu (((items.filter c).map h).all id)) := fun F0 σ H F e0 S => by
  refine ⟨fun pins s0 I => ?_⟩
  refine wpAny_Call_Name_kw (ld_blt I hg (B.no _ (by decide)) (show bootBuiltins "all" = some (.builtin "all") by decide +kernel) ?_)
  refine PyProof.Rows.callWith_builtin1 ?_ he (by rfl)
  rw [he]
  show wpAny _ _ (spliced ((false, eval (.GeneratorExp elt [⟨tg, iter, ifs, 0⟩] scope gpos) Y.X.env) :: backTo pos (starEach [] Y.X.env))) _ _ s0
  refine Calls.spliced_cons (gen_made ok hk hi G tb L hs e0 S I fun a s5 M => ?_)
  obtain ⟨z, F2, gn, e2, I3, hf, hgn, st⟩ := M.go
  obtain ⟨oa, _, _, hoa, _, hda, _⟩ := id hgn
  obtain ⟨_, st⟩ := st [a] s5 (List.mem_singleton.mpr rfl) (fun b hb => .inl (List.mem_singleton.mp hb)) rfl rfl (fun _ _ e => e) (fun b hb => by rw [List.mem_singleton.mp hb]; exact ⟨oa, hoa, fun v q => by rw [hda] at q; cases q⟩)
  refine Calls.spliced_nil ?_
  refine call_function_tree PySem.F.kind_all PySem.F.plain_all PySem.F.entry_all (PySem.F.args_all1 _) ?_
  unfold Builtin.«all»
  refine wpAny_bind (m := oneArg "all" _) (wpAny_pure ?_)
  refine wpAny_bind (wpAny_pyIter_gen hgn ?_)
  refine wpAny_pure ⟨plainId_quiet PySem.F.plain_all_loop _, all_go ((gen_sw (A := Y.X.A.in1) (List.mem_singleton.mpr rfl) ok.room.hd ok.room.depth).imp fun i v => ys_bool) _ 0 s5 rfl (Nat.zero_le _) st fun s6 g6 => ?_⟩
  obtain ⟨H', F', I6, e6, S6⟩ := made_back e2 I3 hf g6
  exact ⟨.bl _, H', I6, by rw [List.drop_zero]; rfl, F', e6, rfl, S6⟩
end
end
end Sp
set_option maxHeartbeats 4000000
namespace Sp
open PySem L2
open PySem.W (Datum DatumOrd SomeDatum)
section
variable {prog : Program} {w : World} {A : Around} {a T0 : Addr} {S : List Addr} {St : Nat → Shared → Prop} {D : Shared → Prop} {R : Result → Shared → Prop}
end
section
variable {Y : DX} {k : Nat} {scope : Scope} {ow : Ow} {s : DSt} {σ : St} {β : Type} [Enc β]
variable {vs ws : List Nat} {tg elt iter : Expr} {ifs : List Expr} {g : TG} {f : β → Rho → Rho} {items : List β} {c : β → Bool} {gpos pos p : Pos}
end
end Sp
set_option maxHeartbeats 4000000
namespace Sp
open PySem L2
abbrev TQ := List (He.Defn × Tk)
def tbOf (K : Frag) (tq : TQ) : Tb := tq.map fun p => ((He.cT K p.1).2, p.2)
structure LK (w : World) (K : Frag) (mg : Str → Option Value) (base : Heap) (fa : List He.Fa) (fn : List He.DefD) (tq : TQ) : Prop where
  d : He.SaysD fa fn K
  X : K.In base
  G : base.Ns mainGlobals mg
  tb : ∀ p ∈ tq, LamX.TabB base mg (He.cT K p.1).1 (He.cT K p.1).2
  nd : (tq.map fun p => (He.cT K p.1).2).Nodup
section
variable {P : Program} {w : World} {K : Frag} {mg : Str → Option Value} {base : Heap} {fa : List He.Fa} {fn : List He.DefD} {tq : TQ}
structure Fd (K : Frag) (d : He.DefD) (ps : List Str) (fd : FuncData) : Prop where
  F : FunD K d.name d.qual d.params d.body d.scope [] [] (He.fAd K d.at_) fd
  b : Binds K fd ps []
theorem nd_map {α β : Type} {f : α → β} : ∀ {l : List α}, (l.map f).Nodup → ∀ {a b : α}, a ∈ l → b ∈ l → f a = f b → a = b
  | [], _, _, _, h, _, _ => by cases h
  | x :: l, n, a, b, ha, hb, e => by
    rw [List.map_cons, List.nodup_cons] at n
    rcases List.mem_cons.mp ha with ha' | ha'
    · rcases List.mem_cons.mp hb with hb' | hb'
      · rw [ha', hb']
      · rw [ha'] at e
        exact absurd (by rw [e]; exact List.mem_map_of_mem hb') n.1
    · rcases List.mem_cons.mp hb with hb' | hb'
      · rw [hb'] at e
        exact absurd (by rw [← e]; exact List.mem_map_of_mem ha') n.1
      · exact nd_map n.2 ha' hb' e
theorem df_ok {k : Nat} {N ps : List Str} {d : He.DefD} {fd : FuncData} (L : LK w K mg base fa fn tq) (F1 : Fd K d ps fd) (S : FnScope N ps d.scope) (dd : DSp) (hl : ∀ As gs R E, dd As gs R E → As.length = ps.length)
    (body : ∀ (cdv : Value) (A : Around) (outer : List Env) (s : Shared) (H F : Hp) (gs : Gs) (E : XK) (ex : Exc → DSt → Prop) (As : List Pv) (R : Pv → Gs → Prop) (X : Exc → Gs → Prop), dd As gs R X → (∀ e s', (∃ n, X e (s'.gs.drop n)) → ex e s') →
      (∀ q, (d.at_, q) ∈ tq → Tbl (bodyY P w K mg base (tbOf K tq) k N d.qual d.scope (He.fAd K d.at_) cdv A outer s H F gs E ex).X (tbOf K tq) q) →
      YOk (bodyY P w K mg base (tbOf K tq) k N d.qual d.scope (He.fAd K d.at_) cdv A outer s H F gs E ex) →
      Ws (bodyY P w K mg base (tbOf K tq) k N d.qual d.scope (He.fAd K d.at_) cdv A outer s H F gs E ex) ⟨As.map some ++ List.replicate (N.length - ps.length) none, gs⟩ d.body { nx := fun s' => ∃ n, R (pu ()) (s'.gs.drop n), rt := fun A s' => ∃ n, R A (s'.gs.drop n) }) :
    FnOk P w K mg base (L2.CX P w) (k + 1) (He.fAd K d.at_) fd ps (toSp K (tbOf K tq) ps.length dd) := by
  obtain ⟨oc, od, dV, kV, doc, pm, an, cdv, ct, osl, rfl, lk, hcd, _, _⟩ := F1.F.ex
  obtain ⟨c, rfl⟩ := He.codeIn_ref hcd
  have ec : He.codeOf K d.at_ = c := He.codeOf_eq lk rfl
  refine fn_of lk hcd S (fun vs H Q E h => h.1) fun A outer s H vs Q E hr h => ?_
  obtain ⟨hn, As, gs, F, r, G, hd⟩ := h
  have hAl := hl _ _ _ _ hd
  let Y : DX := bodyY P w K mg base (tbOf K tq) k N d.qual d.scope (He.fAd K d.at_) (.ref c) A outer s H F gs E (fun e s' => ∀ cls dd H' F', ExcRep e cls dd H' → Stg K (tbOf K tq) s'.gs H' F' → Step H F (ads gs) H' F' (ads s'.gs) → E cls dd H')
  have tk0 : Takes Y.X (fun cls d _ H => E cls d H) := takes_of rfl rfl rfl rfl
  have ok : YOk Y := ⟨rfl, S.nd, hr, passes_of rfl, tk0.imp fun c d' σ H' ⟨e, s', F', St, er, q⟩ => q c d' H' F' er St.stg St.st⟩
  have tbl : ∀ q, (d.at_, q) ∈ tq → Tbl Y.X (tbOf K tq) q := fun q hq => by
    have h1 := L.tb _ hq
    have e1 : (He.cT K d.at_).1 = c := ec
    refine ⟨c, (He.cT K d.at_).2, by rw [← e1]; exact h1, rfl, List.mem_map.mpr ⟨_, hq, rfl⟩, fun p hp e => ?_⟩
    obtain ⟨z, hz, ez⟩ := List.mem_map.mp hp
    subst ez
    have := nd_map L.nd hz hq e
    rw [this]
  have b := body (.ref c) A outer s H F gs E _ As _ _ hd (fun e s' ⟨n, q⟩ cls dd H' F' r G' t' => q cls dd H' F' r (G'.drop n) (t'.sub (ads_drop n))) tbl ok
  refine ⟨_, pss_ws, ?_⟩
  have S0 : Sta Y ⟨As.map some ++ List.replicate (N.length - ps.length) none, gs⟩ (L2.start N vs) H F := by
    refine ⟨G.ext, G.ntb, ?_, G.own, G.nd, G.tb, Step.refl⟩
    unfold L2.start
    rw [hn]
    exact reps_start r _
  refine (b F (L2.start N vs) H F (.refl _) S0).mono (fun σ' H' ⟨s', F', e1, S', q⟩ => ?_) (fun v H' ⟨A', s', σ', F', e1, r', S', q⟩ => ?_) (fun σ' H' ⟨s', F', e1, S', q⟩ => q.elim) (fun σ' H' ⟨s', F', e1, S', q⟩ => q.elim)
  · obtain ⟨n, q⟩ := q
    exact q .non H' F' rfl (S'.stg.drop n) (S'.st.sub (ads_drop n))
  · obtain ⟨n, q⟩ := q
    exact q v H' F' r' (S'.stg.drop n) (S'.st.sub (ads_drop n))
theorem LK.fd (c : He.SaysD fa fn K) (i : Nat) {d : He.DefD} (ps : List Str) (h : fn[i]? = some d := by rfl)
    (hb : ∀ (kV doc pm : Value) (an : Option Addr) (cdv ct : Value) (us : List Value), us.length = ps.length → bindArgs (PySem.W.fnOf d.name d.qual d.params d.body d.scope .none kV doc pm an cdv ct) ⟨us, []⟩ = pure (ps.zip us)) (h0 : ∀ K, d.dvs K = [] := by intro _; rfl) (h1 : ∀ K, d.kws K = [] := by intro _; rfl) : ∃ fd, Fd K d ps fd := by
  obtain ⟨fd, F⟩ := c.def_ i h
  rw [h0, h1] at F
  exact ⟨fd, F, F.bindsN hb⟩
theorem LK.df {k : Nat} {x : Str} {d : He.DefD} {ps : List Str} {fd : FuncData} {dd : DSp} (L : LK w K mg base fa fn tq) (F1 : Fd K d ps fd) (h : FnOk P w K mg base (L2.CX P w) k (He.fAd K d.at_) fd ps (toSp K (tbOf K tq) ps.length dd)) (m : DMono dd) (i : Nat) (hi : fa[i]? = some (.glo x) := by rfl) (hx : d.at_ = (x, none) := by rfl) : Df P w K mg base (tbOf K tq) k x ps dd := by
  have g := He.glo_ok L.X L.G (L.d.fact i hi)
  have e : He.fAd K d.at_ = He.ga K x := by rw [hx]; rfl
  exact ⟨⟨_, fd, h, by rw [e]; exact g, F1.F.kp, F1.b⟩, m⟩
theorem LK.mt {k : Nat} {x m : Str} {d : He.DefD} {ps : List Str} {fd : FuncData} {dd : DSp} (L : LK w K mg base fa fn tq) (F1 : Fd K d ps fd) (h : FnOk P w K mg base (L2.CX P w) k (He.fAd K d.at_) fd ps (toSp K (tbOf K tq) ps.length dd)) (mo : DMono dd) (i : Nat) (hi : fa[i]? = some (.meth x m) := by rfl) (hx : d.at_ = (x, some m) := by rfl) : Mt P w K mg base (tbOf K tq) k (He.ga K x) m ps dd := by
  have g := He.meth_ok (L.d.fact i hi)
  have e : He.fAd K d.at_ = He.ma K (He.ga K x) m := by rw [hx]; rfl
  exact ⟨⟨_, fd, h, by rw [e]; exact g, F1.b⟩, mo⟩
theorem LK.mkr {k : Nat} {x : Str} {d : He.DefD} {ps : List Str} {fd : FuncData} {dd : DSp} (L : LK w K mg base fa fn tq) (F1 : Fd K d ps fd) (h : FnOk P w K mg base (L2.CX P w) k (He.fAd K d.at_) fd ps (toSp K (tbOf K tq) ps.length dd)) (mo : DMono dd) (i j : Nat) (hi : fa[i]? = some (.mkr x) := by rfl) (hj : fa[j]? = some (.glo x) := by rfl) (hx : d.at_ = (x, some ("__init__" : Str)) := by rfl) : Mkr P w K mg base (tbOf K tq) k x (He.ga K x) ps dd := by
  have g := He.mkr_ok (L.d.fact i hi)
  have e : He.fAd K d.at_ = He.ma K (He.ga K x) "__init__" := by rw [hx]; rfl
  exact ⟨⟨_, fd, h, by rw [e]; exact g, F1.b⟩, He.glo_ok L.X L.G (L.d.fact j hj), mo⟩
theorem LK.err {x : Str} (L : LK w K mg base fa fn tq) (i j : Nat) (hi : fa[i]? = some (.exc x) := by rfl) (hj : fa[j]? = some (.glo x) := by rfl) : ErrC K mg x (He.ga K x) := by
  obtain ⟨h1, h2, h3, h4⟩ := He.exc_ok (L.d.fact i hi)
  exact ⟨He.glo_ok L.X L.G (L.d.fact j hj), h1, h2, h3, h4⟩
def noTb (H : Hp) : Hp := fun b => match H b with
  | some o => (match isTbl o with
    | true => none
    | false => some o)
  | none => none
theorem noTb_some {H : Hp} {b : Addr} {o : HO} (h : noTb H b = some o) : H b = some o ∧ isTbl o = false := by
  unfold noTb at h
  cases q : H b with
  | none => rw [q] at h; cases h
  | some u =>
    rw [q] at h
    cases t : isTbl u with
    | true =>
      simp only [t] at h
      cases h
    | false =>
      simp only [t] at h
      cases h
      exact ⟨rfl, t⟩
theorem noTb_of {H : Hp} {b : Addr} {o : HO} (h : H b = some o) (t : isTbl o = false) : noTb H b = some o := by
  unfold noTb
  rw [h]
  simp only [t]
theorem law_end {l : PySem.W.OpenLaw} {n k : Nat} {h : Heap} {x : Str} {fA : Addr} {ts : List He.Tab} {ex : Frag → Bool} {d : He.DefD} {fd : FuncData} {dd : DSp}
    (KX : K.In h) (c : He.SaysX fa fn ts (tq.map (·.1)) ex w h K) (nd : (tq.map fun p => (He.cT K p.1).2).Nodup)
    (F1 : Fd K d [x] fd) (hf : He.fAd K d.at_ = fA) (hb : ∀ (kV doc pm : Value) (an : Option Addr) (cdv ct : Value) (us : List Value), us.length = [x].length → bindArgs (PySem.W.fnOf d.name d.qual d.params d.body d.scope .none kV doc pm an cdv ct) ⟨us, []⟩ = pure ([x].zip us))
    (m : DMono dd) (hd : ∀ ns : List Int, ns.length ≤ n → (∀ z ∈ ns, Builtin.Int.intBits z ≤ 1048576) → dd [pu ns] [] (fun A _ => A = pu true) fun _ _ => False)
    (F : ∀ base : Heap, LK w K mg base fa fn tq → FnOk l.prog w K mg base (L2.CX l.prog w) k (He.fAd K d.at_) fd [x] (toSp K (tbOf K tq) 1 dd)) (ho : (tq.all fun p => match p.2 with | .own => false | _ => true) = true := by rfl) :
    LamX.LawAtS l w K (L2.CX l.prog w) k n x mg fA h := by
  subst hf
  refine ⟨fd, (tq.map (·.1)).map (He.cT K), _, fun p hp => ?_, fun p hp => ?_, fun p hp => ?_, fun s u => ?_, fun H a ns hl hbits hT hS => ?_, fun base KB GB TB => F base ⟨c.t.d, KB, GB, fun p hp => TB _ ?_, nd⟩⟩
  · obtain ⟨q, hq, e⟩ := List.mem_map.mp hp
    subst e
    exact c.empty q hq
  · obtain ⟨q, hq, e⟩ := List.mem_map.mp hp
    subst e
    exact c.out q hq
  · obtain ⟨q, hq, e⟩ := List.mem_map.mp hp
    subst e
    exact PySem.W.codeHd_of_K KX (c.hd q hq)
  · exact F1.F.bindsA hb s [u] rfl
  · refine ⟨rfl, [pu ns], [], noTb H, .cons ?_ .nil, ⟨fun b o e => (noTb_some e).1, fun b o e => (noTb_some e).2, fun p hp => (by cases hp), .nil, fun p hp => ?_⟩, ?_⟩
    · refine ⟨a, ns.map V.int, rfl, ?_, ?_⟩
      · rcases hS with hS | q
        · rcases hS with q | ⟨o, q⟩
          · exact .inl (.inl (noTb_of q rfl))
          · exact .inl (.inr ⟨o, noTb_of q rfl⟩)
        · exact .inr q
      · show Paired _ _ _
        clear hd hl hbits hS
        induction ns with
        | nil => exact .nil
        | cons z ns ih => exact .cons rfl ih
    · obtain ⟨q, hq, e⟩ := List.mem_map.mp hp
      subst e
      have h0 : H (He.cT K q.1).2 = some (.tbl #[]) := hT (He.cT K q.1) (List.mem_map.mpr ⟨q.1, List.mem_map.mpr ⟨q, hq, rfl⟩, rfl⟩)
      have hk := List.all_eq_true.mp ho q hq
      obtain ⟨d, k⟩ := q
      cases k with
      | plain z => exact LamX.TabS.nil h0
      | nest z9 => exact ⟨#[], h0, trivial, fun pos cv h => by
          have h : codeAmong pos [] = some cv := h
          cases h⟩
      | own => cases hk
      | mix ls z => exact ⟨#[], h0, trivial, fun pos cv h => by
          have h : codeAmong pos [] = some cv := h
          cases h⟩
    · exact m _ _ _ _ _ _ (fun A g e v H' F' r _ _ => by subst e; exact r) (fun e g z => z.elim) (hd ns hl hbits)
  · exact List.mem_map.mpr ⟨p.1, List.mem_map.mpr ⟨p, hp, rfl⟩, rfl⟩
end
end Sp
set_option maxHeartbeats 4000000
namespace Sp
open PySem L2
section
variable {Y : DX} {s : DSt} {e a b c d o : Expr} {es : List Expr} {pos p apos : Pos} {Q : Pv → DSt → Prop} {D : DE} {A B : Pv}
theorem w1_lput {α : Type} [Enc α] {q : Addr} {p2 : Pos} (i : Nat)
    (hv : Ev Y s e fun X s1 => ∃ (x : α) (xs : List α) (k : Int) (j : Nat), X = pu x ∧ s1.gs[i]? = some (q, lstc xs) ∧ EvP Y s1 a (raw (.ref q)) ∧ EvP Y s1 b (pu k) ∧ ixN xs.length k = some j ∧ D.nx ⟨s1.ρ, s1.gs.set i (q, lstc (xs.set j x))⟩)
    (hs : swapsWithSole [Expr.Subscript a b p2] e pos.line Y.X.env = pure false := by rfl) (hw : swappedStores [Expr.Subscript a b p2] e Y.X.env = pure none := by rfl) (h1 : (assignEach [Expr.Subscript a b p2] Y.X.env).map (·.2) = [assign (Expr.Subscript a b p2) Y.X.env] := by rfl)
    (ha : ∀ v, assign (.Subscript a b p2) Y.X.env v = (do
      let ov ← holding [v] (eval a Y.X.env)
      let iv ← holding [v, ov] (eval b Y.X.env)
      standAt p2
      holding [v, ov, iv] (setItem ov iv v)
      release [v, ov, iv] []) := by intro _; rfl) : W1 Y s (.Assign [.Subscript a b p2] e pos) D := fun F0 σ H F e0 S => by
  refine .of (ps_asg pe_we (pg_sub pe_we pe_we set_list ha) hs hw h1) ?_
  refine (hv F σ H F (.refl _) S).mono fun v H1 ⟨X, s1, F1, e1, r1, S1, x, xs, k, j, ex, hi, ho, hb, hj, k1⟩ => ?_
  subst ex
  refine (ho F1 σ H1 F1 (.refl _) S1).mono fun u H2 ⟨F2, e2, r2, S2⟩ => ?_
  refine (hb F2 σ H2 F2 (.refl _) S2).mono fun w H3 ⟨F3, e3, r3, S3⟩ => ?_
  obtain ⟨hF, oo, hoo, _, zs, eo, rv⟩ := S3.cell hi
  subst eo
  refine ⟨q, zs, k, j, r2, r3, hoo, by rw [show zs.length = xs.length from Paired.length rv]; exact hj, _, F3, ((e0.trans e1).trans e2).trans e3, ?_, k1⟩
  exact S3.write (c' := lstc (xs.set j x)) hi hoo (not_codeL rfl) rfl ⟨_, rfl, prd_set rv (Enc.mono (α := α) r1 (e2.trans e3)) j⟩
theorem evp_int1 {i : Int} (T : Bis Y.X.mg) (hg : Gl Y.X "int") (ha : EvP Y s a (pu i)) (he : starEach [a] Y.X.env = (false, eval a Y.X.env) :: starEach [] Y.X.env := by rfl) : EvP Y s (.Call (.Name "int" p) [a] [] pos) (pu i) :=
  evp_T1 call_int1 hg (T.no _ (by decide)) PySem.Pv.boot_int ha (fun F0 σ H F v e0 S h1 => .inl ⟨i, by cases h1; rfl, F, e0, rfl, S⟩) (by decide) (by decide) he
theorem evp_intB {x : Bool} (T : Bis Y.X.mg) (hg : Gl Y.X "int") (ha : EvP Y s a (pu x)) (he : starEach [a] Y.X.env = (false, eval a Y.X.env) :: starEach [] Y.X.env := by rfl) : EvP Y s (.Call (.Name "int" p) [a] [] pos) (pu (if x = true then (1 : Int) else 0)) :=
  evp_T1 call_int1 hg (T.no _ (by decide)) PySem.Pv.boot_int ha (fun F0 σ H F v e0 S h1 => .inr ⟨x, by cases h1; rfl, F, e0, rfl, S⟩) (by decide) (by decide) he
theorem etp_ltlt {i j k : Int} (ha : EvP Y s a (pu i)) (hb : EvP Y s b (pu j)) (hc : EvP Y s c (pu k)) (hm : lastMarks [.Lt, .Lt] [b, c] = false := by with_unfolding_all rfl) : EtP Y s (.Compare a [.Lt, .Lt] [b, c] pos) (decide (i < j) && decide (j < k)) := fun F0 σ H F e0 S => by
  refine .of (pt_chain op_lt op_lt pe_we pe_we pe_we hm) ?_
  refine (ha F0 σ H F e0 S).mono fun v H1 ⟨F1, e1, r1, S1⟩ => ?_
  refine (hb F1 σ H1 F1 (.refl _) S1).mono fun u H2 ⟨F2, e2, r2, S2⟩ => ?_
  refine ⟨i, j, r1, r2, _, rfl, ?_⟩
  by_cases h : i < j
  · rw [if_pos (decide_eq_true h)]
    refine (hc F2 σ H2 F2 (.refl _) S2).mono fun w H3 ⟨F3, e3, r3, S3⟩ => ?_
    exact ⟨j, k, r2, r3, _, rfl, by simp [h], F3, ((e1.trans e2).trans e3), S3⟩
  · rw [if_neg (by simpa using h)]
    exact ⟨false, rfl, by simp [h], F2, e1.trans e2, S2⟩
theorem ev_perm (h : Ev Y s e fun A s' => ∃ gs', s'.gs.Perm gs' ∧ Q A ⟨s'.ρ, gs'⟩) : Ev Y s e Q := fun F0 σ H F e0 S => (h F0 σ H F e0 S).mono fun v H1 ⟨A, s1, F1, e1, r1, S1, gs', hp, q⟩ => ⟨A, _, F1, e1, r1, S1.perm hp, q⟩
theorem ws_drop {sts : List Stmt} (n : Nat) (h : Ws Y ⟨s.ρ, s.gs.eraseIdx n⟩ sts D) : Ws Y s sts D := fun F0 σ H F e0 S => h F0 σ H F e0 (S.drop n)
end
end Sp
set_option maxHeartbeats 4000000
namespace Sp
open PySem L2
section
variable {Y : DX} {s : DSt} {e a b c d o tg iter elt : Expr} {es ifs : List Expr} {pos p apos : Pos} {Q : Pv → DSt → Prop} {D : DE} {A B : Pv} {scope : Scope} {own : List (Str × Nat)}
variable {α β : Type} [Enc α] [Enc β]
def EvItE (Y : DX) (s : DSt) (tg iter : Expr) {β : Type} [Enc β] (G : List β → DSt → Prop) : Prop :=
  ∃ wi, PI Y.X tg iter wi ∧ ∀ F0 σ H F (R : It → Hp → Prop), Ext F0 F → Sta Y s σ H F → (∀ J H' F' items s', Ext F0 F' → Sta Y s' σ H' F' → ItOk Y.X.K J F' items → G items s' → R J H') → wi σ H R
theorem it_listE {G : List α → DSt → Prop} (h : Ev Y s iter fun A s' => ∃ xs : List α, A = pu xs ∧ G xs s') : EvItE Y s tg iter G :=
  ⟨_, pi_list pe_we, fun F0 σ H F R e0 S k => (h F0 σ H F e0 S).mono fun v H' ⟨A, s', F', e1, r, S', xs, ea, q⟩ => by
    subst ea
    obtain ⟨p, vs, ev, hq, rv⟩ := r
    exact ⟨p, ev, ⟨vs, sqL_ext hq S'.ext⟩, k _ _ F' xs s' e1 S' (fun i H2 F2 e2 e3 => ⟨fun x hx => by
      have hq2 := sqL_ext (sqL_ext hq e2) e3
      obtain ⟨w, hw, rw'⟩ := prd_get rv hx
      exact ⟨⟨vs, w, hq2, hw⟩, fun v H3 ⟨eh, hv⟩ => .inl ⟨eh, by
        have := hv vs hq2
        rw [hw] at this
        cases this
        exact Enc.mono rw' e2⟩⟩, fun hl => ⟨vs, sqL_ext (sqL_ext hq e2) e3, by rw [rv.length]; exact hl⟩⟩) q⟩⟩
theorem w1_forE {body : List Stmt} {g : TG} {ws : List Nat} {f : β → Rho → Rho} {G : List β → DSt → Prop} (ok : YOk Y) (hi : EvItE Y s tg iter G) (hg : TgOk Y tg g ws f)
    (h : ∀ items s', G items s' → ∃ Iv : Nat → DSt → Prop, Iv 0 s' ∧ (∀ i x s2, items[i]? = some x → Iv i s2 → Ws Y ⟨f x s2.ρ, s2.gs⟩ body { D with nx := Iv (i + 1), ct := Iv (i + 1), bk := D.nx }) ∧ ∀ s2, Iv items.length s2 → D.nx s2)
    (hs : ∀ x, foldedSetIterable iter Y.X.env x = pure x := by intro _; rfl) : W1 Y s (.For tg iter body [] pos) D := fun F0 σ H F e0 S => by
  obtain ⟨wi, hp, hw⟩ := hi
  refine .of (ps_for ok.pass ok.calm hp hg.1 pss_ws hs) ?_
  refine hw F0 σ H F _ e0 S fun J H1 F1 items s' e1 S1 K1 q => ?_
  obtain ⟨Iv, h0, hstep, hd⟩ := h items s' q
  refine ⟨fun i m σ H => m = items.length - i ∧ i ≤ items.length ∧ ∃ s2 F2, Ext F1 F2 ∧ Sta Y s2 σ H F2 ∧ Iv i s2, ⟨items.length, rfl, Nat.zero_le _, s', F1, .refl _, S1, h0⟩, ?_⟩
  rintro i m σ2 H2 ⟨rfl, hi, s2, F2, e2, S2, iv⟩
  by_cases hlt : i < items.length
  · have hx : items[i]? = some items[i] := List.getElem?_eq_getElem hlt
    refine .inr ⟨((K1 i H2 F2 e2 S2.ext).1 _ hx).1, fun σ' H' => ∃ s3 F3, Ext F1 F3 ∧ Sta Y s3 σ' H' F3 ∧ Iv (i + 1) s3, fun σ' H' ⟨s3, F3, e3, S3, iv3⟩ => ⟨items.length - (i + 1), by omega, rfl, hlt, s3, F3, e3, S3, iv3⟩, fun v H3 y => ?_⟩
    obtain ⟨F3, e3, S3, r3⟩ := K1.yld e2 S2 hx y
    refine hg.2 σ2 H3 F3 v _ s2 _ S3 r3 fun σ4 S4 _ => ?_
    have e9 := (e1.trans e2).trans e3
    exact (hstep i _ s2 hx iv F3 σ4 H3 F3 (.refl _) S4).mono (fun σ' H' ⟨s5, F5, e5, S5, q⟩ => ⟨s5, F5, (e2.trans e3).trans e5, S5, q⟩) (fun v H' q => q.mono e9 fun _ _ h => h)
      (fun σ' H' q => q.mono e9 fun _ h => h) (fun σ' H' ⟨s5, F5, e5, S5, q⟩ => ⟨s5, F5, (e2.trans e3).trans e5, S5, q⟩)
  · have e : i = items.length := by omega
    subst e
    exact .inl ⟨(K1 _ H2 F2 e2 S2.ext).2 (Nat.le_refl _), s2, F2, e1.trans e2, S2, hd s2 iv⟩
def LcG (Y : DX) (scope : Scope) (vs : List Nat) (tg elt : Expr) (ifs : List Expr) (g : TG) (ws : List Nat) (f : β → Rho → Rho) (G : List β → DSt → Prop) {α : Type} [Enc α] (R : List α → DSt → Prop) : Prop :=
  ∀ items s', G items s' → ∃ Iv : Nat → List α → Gs → Prop, LcTurns Y s' scope vs tg elt ifs g ws f items Iv ∧ Iv 0 [] s'.gs ∧ ∀ ys gs, Iv items.length ys gs → R ys ⟨s'.ρ, gs⟩
theorem ev_lcE {g : TG} {ws : List Nat} {f : β → Rho → Rho} {G : List β → DSt → Prop} (ok : YOk Y) (hi : EvItE Y s tg iter G) (bk : BlkOk Y.X.N Y.X.env.scope scope own) (tg0 : ∀ z, TgOk (blkY Y scope z) tg g ws f) (h : LcG Y scope (own.map (·.2)) tg elt ifs g ws f G (α := α) fun ys s' => Q (pu ys) s')
    (hs : ∀ x, foldedSetIterable iter Y.X.env x = pure x := by intro _; rfl) : Ev Y s (.ListComp elt [⟨tg, iter, ifs, 0⟩] scope pos) Q := fun F0 σ H F e0 S => by
  obtain ⟨wi, hp, hw⟩ := hi
  have P := pe_lc (pos := pos) (tt := fun σ H Q => ∀ z, WTs (blkX Y.X scope z) ifs σ H Q) (te := fun σ H Q => ∀ z, WE (blkX Y.X scope z) elt σ H Q) ok.calm ok.nd hp bk (fun s H C cl fp => (tg0 ⟨s, H, C, cl, fp⟩).1) (fun s H C cl fp => ⟨fun pins s' σ H' Q I h => (h ⟨s, H, C, cl, fp⟩).run pins s' I⟩) (fun s H C cl fp => ⟨fun pins s' σ H' Q I h => (h ⟨s, H, C, cl, fp⟩).run pins s' I⟩) hs
  refine .of P (hw F0 σ H F _ e0 S fun J H1 F1 items s' e1 S1 K1 q => ?_)
  obtain ⟨Iv, L, h0, hQ⟩ := h items s' q
  have t := tlc_ok (own := own) (wi := fun _ _ R => R J H1) (F0 := F1) (σ := σ) (H := H1) (Qf := Po Y σ F0 Q) (fun R k => k J H1 F1 (.refl _) S1 K1) L h0 fun D H' F' ys gs e2 S2 iv => by
    obtain ⟨hF, o, ho, hot, vs, ev, rv⟩ := S2.cell (i := 0) (p := D) (c := lstc ys) rfl
    subst ev
    have S3 := S2.freeze (i := 0) (p := D) (c := lstc ys) rfl ho
    exact ⟨pu ys, ⟨s'.ρ, gs⟩, upd F' D (.lst vs), (e1.trans e2).trans (Ext.grow hF), ⟨D, vs, rfl, .of upd_same, rv.mono (Ext.grow hF)⟩, S3, hQ ys gs iv⟩
  exact t
theorem ev_lcT {g : TG} {ws : List Nat} {f : β → Rho → Rho} {items : List β} (own : List (Str × Nat)) (ok : YOk Y) (hi : EvIt Y s tg iter items) (bk : BlkOk Y.X.N Y.X.env.scope scope own) (tg0 : ∀ z, TgOk (blkY Y scope z) tg g ws f) (Iv : Nat → List α → Gs → Prop) (h0 : Iv 0 [] s.gs)
    (small : ∀ i ys gs, Iv i ys gs → i < items.length → ys.length < sizeLine)
    (step : ∀ z i x ys gs D, items[i]? = some x → Iv i ys gs → Ets (blkY Y scope z) ⟨f x (wipeR s.ρ (own.map (·.2))), (D, lstc ys) :: gs⟩ ifs fun b s2 =>
      if b = true then ∀ z', Ev (blkY Y scope z') s2 elt fun A s3 => ∃ y gs3, A = pu y ∧ s3.gs = (D, lstc ys) :: gs3 ∧ Iv (i + 1) (ys ++ [y]) gs3 else ∃ gs2, s2.gs = (D, lstc ys) :: gs2 ∧ Iv (i + 1) ys gs2)
    (hQ : ∀ ys gs, Iv items.length ys gs → Q (pu ys) ⟨s.ρ, gs⟩) (sub : ∀ j ∈ ws, j ∈ own.map (·.2) := by decide) (hs : ∀ x, foldedSetIterable iter Y.X.env x = pure x := by intro _; rfl) : Ev Y s (.ListComp elt [⟨tg, iter, ifs, 0⟩] scope pos) Q :=
  ev_lc ok hi bk Iv ⟨tg0, sub, small, step⟩ h0 hQ hs
end
end Sp
set_option maxHeartbeats 4000000
namespace Sp
open PySem L2
structure Rf where
  a : Addr
instance : Enc Rf := ⟨fun _ _ v r => v = .ref r.a, fun h _ => h⟩
def blkB (N : List Str) (sc scope : Scope) (own : List (Str × Nat)) : Bool :=
  decide (scope.kind = .function) && scope.names.all (fun y => decide (scope.names.lookup y.1 = some y.2)) && own.all (fun p => decide (N[p.2]? = some p.1)) &&
    scope.names.all (fun y => !decide (y.2 = .free) || (decide (sc.names.lookup y.1 = some .cell) || decide (sc.names.lookup y.1 = some .free))) &&
    scope.names.all (fun y => !(decide (y.2 = .local) || decide (y.2 = .cell)) || (decide (y.1 ∈ own.map (·.1)) || decide (y.1 ∉ N)))
theorem blk_by {N : List Str} {sc scope : Scope} {own : List (Str × Nat)} (h : blkB N sc scope own = true) : BlkOk N sc scope own := by
  unfold blkB at h
  simp only [Bool.and_eq_true] at h
  obtain ⟨⟨⟨⟨h1, h2⟩, h3⟩, h4⟩, h5⟩ := h
  refine ⟨of_decide_eq_true h1, fun y hy => of_decide_eq_true (List.all_eq_true.mp h2 y hy), fun p hp => of_decide_eq_true (List.all_eq_true.mp h3 p hp), fun y hy e => ?_, fun y hy e => ?_⟩
  · have := List.all_eq_true.mp h4 y hy
    simpa [e] using this
  · have := List.all_eq_true.mp h5 y hy
    rcases e with e | e <;> simpa [e] using this
def tx (s : Str) : Txt := s.cps.toList
theorem toStr_tx (s : Str) : toStr (tx s) = s := toStr_of s
section
variable {Y : DX} {s : DSt} {e a b c d o : Expr} {es : List Expr} {pos p apos : Pos} {Q : Pv → DSt → Prop} {D : DE}
theorem evp_own {α : Type} [Enc α] {xs : List α} {n : Int} {x : α} {y : Str} {jj : Nat} {q : Addr} {p1 p2 p3 : Pos} (i g : Nat) (hN : Y.X.N[i]? = some y) (hρ : s.ρ[i]? = some (some (raw (.ref q)))) (hg : s.gs[g]? = some (q, lstc xs)) (hx : atI xs n = some x) (hv : Vis Y.X.env.scope y := by first | exact .inl rfl | exact .inr (.inl rfl) | exact .inr (.inr rfl))
    (hd : (y == ("__debug__" : Str)) = false := by decide) (hcd : (y == ("__classdict__" : Str)) = false := by decide) : EvP Y s (.Subscript (.Name y p1) (.Constant (.int n) jj p2) p3) (pu x) :=
  evp_ixA (fun _ _ => rfl) (evp_var i hN hv hρ hd hcd) (DL.own g hg) evp_int hx
theorem evp_v {A : Pv} {x : Str} (i : Nat) (hN : Y.X.N[i]? = some x) (hA : s.ρ[i]? = some (some A)) (hv : Vis Y.X.env.scope x := by first | exact .inl rfl | exact .inr (.inl rfl) | exact .inr (.inr rfl)) (hd : (x == ("__debug__" : Str)) = false := by decide) (hcd : (x == ("__classdict__" : Str)) = false := by decide) :
    EvP Y s (.Name x pos) A := evp_var i hN hv hA hd hcd
theorem evp_tx {x : Str} {j : Nat} : EvP Y s (.Constant (.str x) j pos) (pu (tx x)) := evp_str (tx x) (toStr_tx x)
end
theorem Tell.no {K : Frag} {c C : Addr} {x t : Txt} {l : Cls_} (h : PySem.W.exmOne K (.ref C) (.ref c) = some false) (r : Tell K l C t) : Tell K ((c, x) :: l) C t := ⟨false, h, (fun e => by cases e), fun _ => r⟩
theorem Tell.yes {K : Frag} {c C : Addr} {x : Txt} {l : Cls_} (h : PySem.W.exmOne K (.ref C) (.ref c) = some true) : Tell K ((c, x) :: l) C x := ⟨true, h, (fun _ => rfl), fun e => by cases e⟩
theorem told_of {X : Cx} {d : He.DefD} {fd : FuncData} {x a : Str} {Ng : List Str} {l : Cls_} {p1 p2 p3 p8 : Pos} {h0 : ExceptHandler} {hds : List ExceptHandler} (F1 : Fd X.K d [a] fd) (hg : X.mg x = some (.ref (He.fAd X.K d.at_))) (hn : d.name = x) (hq : d.qual = x) (S : FnScope Ng [a] d.scope)
    (hb : d.body = [.Try [.Return (some (.Call (.Name a p1) [] [] p2)) p3] (h0 :: hds) [] [] p8]) (hh : HdT X.K X.mg d.scope (h0 :: hds) l) (h1 : Ng[0]? = some a) (hv : Vis d.scope a) (h2 : (a == ("__debug__" : Str)) = false) (h3 : (a == ("__classdict__" : Str)) = false)
    (h4 : ∀ f : Addr, (L2.start Ng [V.ref f])[0]? = some (some (V.ref f))) : Told X x l := by
  obtain ⟨oc, od, dV, kV, doc, pm, an, cdv, ct, osl, e, lk, hcd, _, _⟩ := F1.F.ex
  obtain ⟨b⟩ : Nonempty (PLift True) := ⟨⟨trivial⟩⟩
  have hbn := F1.b
  subst hn
  subst e
  rw [hq] at lk hcd hbn
  rw [hb] at lk hbn
  exact ⟨a, _, _, _, d.scope, dV, kV, doc, pm, cdv, ct, oc, an, od, osl, Ng, hg, F1.F.kp, lk, hcd, hbn, S, h1, hv, h2, h3, fun q => told_many hh h4⟩
end Sp
set_option maxHeartbeats 4000000
namespace Sp
open PySem L2
structure TgD (β : Type) where
  g : Frag → TG
  ws : List Nat
  f : β → Rho → Rho
abbrev TgD.n {α : Type} [Enc α] (i : Nat) : TgD α := ⟨fun _ => gName i, [i], fun v ρ => ρ.set i (some (pu v))⟩
abbrev TgD.p {α β : Type} (a : TgD α) (b : TgD β) : TgD (α × β) := ⟨fun K => gTup K 2 (gCons (a.g K) (gCons (b.g K) gNil)), a.ws ++ b.ws, fun v ρ => b.f v.2 (a.f v.1 ρ)⟩
section
variable {Y : DX} {s : DSt} {k : Nat} {scope : Scope} {tg elt iter : Expr} {ifs : List Expr} {β γ : Type} [Enc β] {items : List β} {c : β → Bool} {gpos p pos : Pos}
theorem tg_nm {x : Str} (nd : Y.X.N.Nodup) (i : Nat) (hi : Y.X.N[i]? = some x) (hx : Loc Y.X.env.scope x := by first | exact .inl rfl | exact .inr rfl) (hf : Y.X.fn x = true ∨ Y.X.env.scope.names.lookup x = some .local := by first | exact .inl rfl | exact .inr rfl) {α : Type} [Enc α] {pos : Pos} :
    TgOk Y (.Name x pos) (gName i) [i] (fun (v : α) ρ => ρ.set i (some (pu v))) := tg_name nd i hi hx hf
theorem tg_gen {x : Str} (ok : YOk Y) (z : GCx) (i : Nat) (hi : Y.X.N[i]? = some x) (hx : Loc (genY Y k scope z).X.env.scope x := by first | exact .inl rfl | exact .inr rfl) (hf : (genY Y k scope z).X.fn x = true ∨ (genY Y k scope z).X.env.scope.names.lookup x = some .local := by first | exact .inl rfl | exact .inr rfl) {α : Type} [Enc α] {pos : Pos} :
    TgOk (genY Y k scope z) (.Name x pos) (gName i) [i] (fun (v : α) ρ => ρ.set i (some (pu v))) := tg_name (Y := genY Y k scope z) ok.nd i hi hx hf
theorem tg_blk {x : Str} (ok : YOk Y) (z : BCx) (i : Nat) (hi : Y.X.N[i]? = some x) (hx : Loc (blkY Y scope z).X.env.scope x := by first | exact .inl rfl | exact .inr rfl) (hf : (blkY Y scope z).X.fn x = true ∨ (blkY Y scope z).X.env.scope.names.lookup x = some .local := by first | exact .inl rfl | exact .inr rfl) {α : Type} [Enc α] {pos : Pos} :
    TgOk (blkY Y scope z) (.Name x pos) (gName i) [i] (fun (v : α) ρ => ρ.set i (some (pu v))) := tg_name (Y := blkY Y scope z) ok.nd i hi hx hf
end
end Sp
set_option maxHeartbeats 4000000
namespace Sp
open PySem PySem.Spec PyProof.Rows L2
open AutoSeq1 (wpAny_loadPart')
section
variable {X : Cx} {e : Expr} {te : TE} {p apos cpos pos : Pos}
theorem Sta.growAll {Y : DX} {s : DSt} {σ : L2.St} {H F H' : Hp} (S : Sta Y s σ H F) (e : ∀ b o, H b = some o → H' b = some o) (l : List Addr) (new : ∀ a ∈ l, H a = none ∧ ∃ o, H' a = some o ∧ isTbl o = false) :
    Sta Y s σ H' (fun b => if b ∈ l then H' b else F b) ∧ Ext F (fun b => if b ∈ l then H' b else F b) := by
  have hF : ∀ a ∈ l, F a = none := fun a ha => S.ext.free (new a ha).1
  have eF : Ext F (fun b => if b ∈ l then H' b else F b) := fun a o h => by
    show (if a ∈ l then H' a else F a) = some o
    rw [if_neg (fun z => by rw [hF a z] at h; cases h)]
    exact h
  refine ⟨⟨fun a o h => ?_, fun a u h => ?_, S.rep.mono eF, fun q hq => ?_, S.nd, fun p hp => (S.tb p hp).ext e, ⟨S.st.ff.trans eF, fun a u h1 h2 h3 => e _ _ (S.st.fr a u h1 h2 h3), fun a h => ?_⟩⟩, eF⟩
  · have h' : (if a ∈ l then H' a else F a) = some o := h
    by_cases z : a ∈ l
    · rw [if_pos z] at h'; exact h'
    · rw [if_neg z] at h'; exact e _ _ (S.ext _ _ h')
  · have h' : (if a ∈ l then H' a else F a) = some u := h
    by_cases z : a ∈ l
    · rw [if_pos z] at h'
      obtain ⟨_, o, ho, ht⟩ := new a z
      rw [ho] at h'; cases h'; exact ht
    · rw [if_neg z] at h'; exact S.ntb _ _ h'
  · obtain ⟨h1, u, h2, h3, h4⟩ := S.own q hq
    have ne : q.1 ∉ l := fun z => by rw [(new _ z).1] at h2; cases h2
    refine ⟨?_, u, e _ _ h2, h3, q.2.mono h4 eF⟩
    show (if q.1 ∈ l then H' q.1 else F q.1) = none
    rw [if_neg ne]
    exact h1
  · by_cases z : a ∈ l
    · exact .inr (S.st.was (.of (new a z).1))
    · refine S.st.nw a (h.elim (fun h => .inl ?_) .inr)
      have h' : (if a ∈ l then H' a else F a) ≠ none := h
      rw [if_neg z] at h'
      exact h'
end
end Sp
set_option maxHeartbeats 4000000
namespace Sp
open PySem L2
section
variable {Y : DX} {s : DSt} {e a b c d o : Expr} {es : List Expr} {pos p apos : Pos} {Q : Pv → DSt → Prop} {D : DE}
end
end Sp
set_option maxHeartbeats 4000000
namespace Sp
open PySem L2
section
variable {Y : DX} {s : DSt} {tg elt iter : Expr} {ifs : List Expr} {pos spos py : Pos} {scope : Scope} {α β : Type} [Enc α] [Enc β] {items : List β} {D : DE}
end
end Sp
set_option maxHeartbeats 4000000
namespace Sp
open PySem PySem.Spec PyProof.Rows L2
end Sp
set_option maxHeartbeats 4000000
namespace Sp
open PySem L2
open PySem.W (Datum DatumOrd SomeDatum)
def noStar : Expr → Bool
  | .Starred .. => false
  | _ => true
def noSup : Expr → Bool
  | .Call (.Name ..) .. => false
  | _ => true
theorem star_c {e : Expr} {es : List Expr} {env : Env} (h : noStar e = true) : starEach (e :: es) env = (false, eval e env) :: starEach es env := by
  cases e <;> first | rfl | cases h
theorem star_1 {e : Expr} {env : Env} (h : noStar e = true) : starEach [e] env = [(false, eval e env)] := star_c h
theorem star_any {pos : Pos} {env : Env} : ∀ {es : List Expr}, es.all noStar = true → (backTo pos (starEach es env)).any (·.1) = false
  | [], _ => rfl
  | e :: es, h => by
    rw [List.all_cons, Bool.and_eq_true] at h
    rw [star_c h.1]
    show (false || (backTo pos (starEach es env)).any (·.1)) = false
    rw [star_any h.2]; rfl
theorem ab_ok {o : Expr} {m : Str} {env : Env} {x : Sem Value} (h : noSup o = true) : attributeBase o m env x = x := by
  cases o with
  | Call f es ks p => cases f <;> first | rfl | cases h
  | _ => rfl
theorem few_1 {e : Expr} {pos : Pos} {env : Env} (h : noStar e = true) : ((backTo pos (starEach [e] env)).all (fun x => !x.1) && (backToKw pos (keywordEach [] env)).all (fun x => x.1.isSome)
      && decide (([e] : List Expr).length + ([] : List Keyword).length + (if ([] : List Keyword).isEmpty then 0 else 1) < 30)) = true := by rw [star_1 h]; rfl
theorem mx1 {X : Cx} {o : Expr} {m : Str} {apos : Pos} {e : Expr} {pos : Pos} (h1 : noSup o = true) (h2 : noStar e = true) (h3 : (apos.endLine == pos.line) = true) : Mx1 X o m apos e pos := ⟨ab_ok h1, few_1 h2, h3, star_1 h2⟩
def inL {α : Type} [DecidableEq α] (x : α) (xs : List α) : Bool := decide (x ∈ xs)
def niL {α : Type} [DecidableEq α] (x : α) (xs : List α) : Bool := decide (x ∉ xs)
theorem inL_iff {α : Type} [DecidableEq α] {x : α} {xs : List α} : (inL x xs = true) = (x ∈ xs) := by simp [inL]
def EvC (Y : DX) (s : DSt) (e : Expr) {α : Type} [Enc α] (W : (α → Prop) → Prop) : Prop := ∀ k : α → Prop, W k → Ev Y s e fun A s' => ∃ x, A = pu x ∧ s' = s ∧ k x
def EvL (Y : DX) (s : DSt) (e : Expr) {α : Type} [Enc α] (W : (List α → Prop) → Prop) : Prop := ∀ k : List α → Prop, W k → Ev Y s e fun A s' => ∃ xs, DL Y s A xs ∧ s' = s ∧ k xs
def EvD (Y : DX) (s : DSt) (e : Expr) {κ ν : Type} [Kk κ] [Enc ν] (W : (List (κ × ν) → Prop) → Prop) : Prop := ∀ k : List (κ × ν) → Prop, W k → Ev Y s e fun A s' => ∃ m, DF Y s A m ∧ s' = s ∧ k m
def EvT (Y : DX) (s : DSt) (c : Expr) (W : (Bool → Prop) → Prop) : Prop := ∀ k : Bool → Prop, W k → Et Y s c fun b s' => s' = s ∧ k b
def EvW (Y : DX) (s : DSt) (c : Expr) (W : (Bool → Prop) → Prop) : Prop := ∀ k : Bool → Prop, W k → Ew Y s c fun b s' => s' = s ∧ k b
def EvK (Y : DX) (s : DSt) (op : CmpOp) (a b : Expr) (W : (Bool → Prop) → Prop) : Prop := ∀ k : Bool → Prop, W k → Cmp Y s op a b fun c s' => s' = s ∧ k c
section
variable {Y : DX} {s : DSt} {e a b c d o : Expr} {es : List Expr} {pos p apos : Pos} {α β γ : Type} [Enc α] [Enc β] [Enc γ]
theorem EvC.pp {W : (α → Prop) → Prop} {x : α} (h : EvC Y s e W) (w : W (fun y => y = x)) : EvP Y s e (pu x) :=
  .of ((h _ w).mono fun A s' ⟨y, ea, es, ey⟩ => ⟨by rw [ea, ey], es⟩)
theorem EvT.pp {W : (Bool → Prop) → Prop} {x : Bool} (h : EvT Y s e W) (w : W (fun y => y = x)) : EtP Y s e x :=
  .of ((h _ w).mono fun b s' ⟨es, ey⟩ => ⟨ey, es⟩)
theorem EvC.q {W : (α → Prop) → Prop} {k : α → Prop} {Q : Pv → DSt → Prop} (h : EvC Y s e W) (w : W k) (q : ∀ x, k x → Q (pu x) s) : Ev Y s e Q :=
  (h k w).mono fun A s' ⟨x, ea, es, kx⟩ => by subst ea es; exact q x kx
theorem EvL.q {W : (List α → Prop) → Prop} {k : List α → Prop} {Q : Pv → DSt → Prop} (h : EvL Y s e W) (w : W k) (q : ∀ A xs, DL Y s A xs → k xs → Q A s) : Ev Y s e Q :=
  (h k w).mono fun A s' ⟨x, ea, es, kx⟩ => by subst es; exact q A x ea kx
theorem EvD.q {κ ν : Type} [Kk κ] [Enc ν] {W : (List (κ × ν) → Prop) → Prop} {k : List (κ × ν) → Prop} {Q : Pv → DSt → Prop} (h : EvD Y s e W) (w : W k) (q : ∀ A m, DF Y s A m → k m → Q A s) : Ev Y s e Q :=
  (h k w).mono fun A s' ⟨x, ea, es, kx⟩ => by subst es; exact q A x ea kx
theorem EvT.q {W : (Bool → Prop) → Prop} {k : Bool → Prop} {Q : Bool → DSt → Prop} (h : EvT Y s e W) (w : W k) (q : ∀ x, k x → Q x s) : Et Y s e Q :=
  (h k w).mono fun b s' ⟨es, kx⟩ => by subst es; exact q b kx
theorem EvK.q {op : CmpOp} {W : (Bool → Prop) → Prop} {k : Bool → Prop} {Q : Bool → DSt → Prop} (h : EvK Y s op a b W) (w : W k) (q : ∀ x, k x → Q x s) : Cmp Y s op a b Q :=
  (h k w).mono fun b s' ⟨es, kx⟩ => by subst es; exact q b kx
theorem c_of {x : α} (h : EvP Y s e (pu x)) : EvC Y s e fun k => k x := fun k w => .of h ⟨x, rfl, rfl, w⟩
theorem c_v {x : Str} {y : α} (i : Nat) (hN : Y.X.N[i]? = some x) (hA : s.ρ[i]? = some (some (pu y))) (hv : Vis Y.X.env.scope x := by first | exact .inl rfl | exact .inr (.inl rfl) | exact .inr (.inr rfl)) (hd : (x == ("__debug__" : Str)) = false := by decide) (hcd : (x == ("__classdict__" : Str)) = false := by decide) :
    EvC Y s (.Name x pos) fun k => k y := c_of (evp_v i hN hA hv hd hcd)
theorem c_int {i : Int} {j : Nat} : EvC Y s (.Constant (.int i) j pos) fun k => k i := c_of evp_int
theorem c_bl {i : Bool} {j : Nat} : EvC Y s (.Constant (.bool i) j pos) fun k => k i := c_of evp_bl
theorem c_tx {x : Str} {j : Nat} : EvC Y s (.Constant (.str x) j pos) fun k => k (tx x) := c_of evp_tx
theorem c_none {j : Nat} : EvC Y s (.Constant .none j pos) fun k => k (Option.none : Option α) := c_of evp_none
theorem c_l {W : (List α → Prop) → Prop} (h : EvC Y s e W) : EvL Y s e W := fun k w => h.q w fun x kx => ⟨x, .pu, rfl, kx⟩
theorem c_d {κ ν : Type} [DecidableEq κ] [Kk κ] [Enc κ] [KkV κ] [Enc ν] {W : (Dct κ ν → Prop) → Prop} (h : EvC Y s e W) : EvD Y s e fun k => W fun m => k m.kvs := fun k w => h.q w fun x kx => ⟨x.kvs, .pu, rfl, kx⟩
theorem l_own {x : Str} {xs : List α} {q : Addr} (i g : Nat) (hN : Y.X.N[i]? = some x) (hρ : s.ρ[i]? = some (some (raw (.ref q)))) (hg : s.gs[g]? = some (q, lstc xs)) (hv : Vis Y.X.env.scope x := by first | exact .inl rfl | exact .inr (.inl rfl) | exact .inr (.inr rfl)) (hd : (x == ("__debug__" : Str)) = false := by decide) (hcd : (x == ("__classdict__" : Str)) = false := by decide) :
    EvL Y s (.Name x pos) fun k => k xs := fun k w => .of (evp_v i hN hρ hv hd hcd) ⟨xs, DL.own g hg, rfl, w⟩
theorem c_inl {W : (α → Prop) → Prop} (h : EvC Y s e W) : EvC Y s e fun k => W fun x => k (Sum.inl x : α ⊕ β) := fun k w => h.q w fun x kx => ⟨Sum.inl x, rfl, rfl, kx⟩
theorem c_inr {W : (β → Prop) → Prop} (h : EvC Y s e W) : EvC Y s e fun k => W fun x => k (Sum.inr x : α ⊕ β) := fun k w => h.q w fun x kx => ⟨Sum.inr x, rfl, rfl, kx⟩
theorem c_some {W : (α → Prop) → Prop} (h : EvC Y s e W) : EvC Y s e fun k => W fun x => k (Option.some x) := fun k w => h.q w fun x kx => ⟨Option.some x, rfl, rfl, kx⟩
section
variable {Wa Wb Wc : (Int → Prop) → Prop}
theorem c_add (ha : EvC Y s a Wa) (hb : EvC Y s b Wb) : EvC Y s (.BinOp a .Add b pos) fun k => Wa fun i => Wb fun j => k (i + j) := fun k w =>
  ev_ints0 (f := fun i j => i + j) (pe_op op_add pe_we pe_we) (fun _ _ _ _ => rfl) (ha.q w fun i w => ⟨i, rfl, hb.q w fun j w => ⟨j, rfl, _, rfl, rfl, w⟩⟩)
theorem c_sub (ha : EvC Y s a Wa) (hb : EvC Y s b Wb) : EvC Y s (.BinOp a .Sub b pos) fun k => Wa fun i => Wb fun j => k (i - j) := fun k w =>
  ev_ints0 (f := fun i j => i - j) (pe_op op_sub pe_we pe_we) (fun _ _ _ _ => rfl) (ha.q w fun i w => ⟨i, rfl, hb.q w fun j w => ⟨j, rfl, _, rfl, rfl, w⟩⟩)
theorem c_mul (ha : EvC Y s a Wa) (hb : EvC Y s b Wb) : EvC Y s (.BinOp a .Mult b pos) fun k => Wa fun i => Wb fun j => CMul i j ∧ k (i * j) := fun k w =>
  ev_ints (f := fun i j => i * j) (pe_op op_mul pe_we pe_we) (fun _ _ _ _ => rfl) (ha.q w fun i w => ⟨i, rfl, hb.q w fun j ⟨w1, w⟩ => ⟨j, rfl, w1, _, rfl, rfl, w⟩⟩)
theorem c_mod (ha : EvC Y s a Wa) (hb : EvC Y s b Wb) : EvC Y s (.BinOp a .Mod b pos) fun k => Wa fun i => Wb fun j => 0 < j ∧ k (i % j) := fun k w =>
  ev_ints (C := fun _ j => 0 < j) (f := fun i j => i % j) (pe_op op_mod pe_we pe_we) (fun _ _ _ _ => rfl) (ha.q w fun i w => ⟨i, rfl, hb.q w fun j ⟨w1, w⟩ => ⟨j, rfl, w1, _, rfl, rfl, w⟩⟩)
theorem c_fdiv (ha : EvC Y s a Wa) (hb : EvC Y s b Wb) : EvC Y s (.BinOp a .FloorDiv b pos) fun k => Wa fun i => Wb fun j => CDiv i j ∧ k (i / j) := fun k w =>
  ev_ints (f := fun i j => i / j) (pe_op op_fdiv pe_we pe_we) (fun _ _ _ _ => rfl) (ha.q w fun i w => ⟨i, rfl, hb.q w fun j ⟨w1, w⟩ => ⟨j, rfl, w1, _, rfl, rfl, w⟩⟩)
theorem k_lt (ha : EvC Y s a Wa) (hb : EvC Y s b Wb) : EvK Y s .Lt a b fun k => Wa fun i => Wb fun j => k (decide (i < j)) := fun k w =>
  cmp_of op_lt (ha.q w fun i w => hb.q w fun j w => ⟨_, ⟨rfl, w⟩, fun σ H F v u Q S r1 r2 q => ⟨i, j, r1, r2, q⟩⟩)
end
section
variable {δ : Type} [DecidableEq δ] [Enc δ] [Datum δ] [Dat δ] {Wa Wb : (δ → Prop) → Prop}
theorem k_eq (ok : YOk Y) (ha : EvC Y s a Wa) (hb : EvC Y s b Wb) (hd : Datum.depth δ ≤ 60 := by decide) : EvK Y s .Eq a b fun k => Wa fun i => Wb fun j => k (decide (i = j)) := fun k w =>
  cmp_of (op_eqT (α := δ) ok.room.units hd) (ha.q w fun i w => hb.q w fun j w => ⟨_, ⟨rfl, w⟩, fun σ H F v u Q S r1 r2 q => ⟨i, j, DA.pu σ H F v S r1, DA.pu σ H F u S r2, q⟩⟩)
theorem k_ne (ok : YOk Y) (ha : EvC Y s a Wa) (hb : EvC Y s b Wb) (hd : Datum.depth δ ≤ 60 := by decide) : EvK Y s .NotEq a b fun k => Wa fun i => Wb fun j => k (decide (i ≠ j)) := fun k w =>
  cmp_of (op_neT (α := δ) ok.room.units hd) (ha.q w fun i w => hb.q w fun j w => ⟨_, ⟨rfl, w⟩, fun σ H F v u Q S r1 r2 q => ⟨i, j, DA.pu σ H F v S r1, DA.pu σ H F u S r2, q⟩⟩)
theorem k_eqL {Wa Wb : (List δ → Prop) → Prop} (ok : YOk Y) (ha : EvL Y s a Wa) (hb : EvL Y s b Wb) (hd : Datum.depth (List δ) ≤ 60 := by decide) : EvK Y s .Eq a b fun k => Wa fun i => Wb fun j => k (decide (i = j)) := fun k w =>
  cmp_of (op_eqT (α := List δ) ok.room.units hd) (ha.q w fun A i hA w => hb.q w fun B j hB w => ⟨_, ⟨rfl, w⟩, fun σ H F v u Q S r1 r2 q => ⟨i, j, hA.da σ H F v S r1, hB.da σ H F u S r2, q⟩⟩)
theorem k_neL {Wa Wb : (List δ → Prop) → Prop} (ok : YOk Y) (ha : EvL Y s a Wa) (hb : EvL Y s b Wb) (hd : Datum.depth (List δ) ≤ 60 := by decide) : EvK Y s .NotEq a b fun k => Wa fun i => Wb fun j => k (decide (i ≠ j)) := fun k w =>
  cmp_of (op_neT (α := List δ) ok.room.units hd) (ha.q w fun A i hA w => hb.q w fun B j hB w => ⟨_, ⟨rfl, w⟩, fun σ H F v u Q S r1 r2 q => ⟨i, j, hA.da σ H F v S r1, hB.da σ H F u S r2, q⟩⟩)
theorem k_in {Wb : (List δ → Prop) → Prop} (ok : YOk Y) (ha : EvC Y s a Wa) (hb : EvL Y s b Wb) (hd : Datum.depth δ ≤ 60 := by decide) : EvK Y s .In a b fun k => Wa fun x => Wb fun xs => k (inL x xs) := fun k w =>
  cmp_of (op_inT (α := δ) ok.room.units hd) (ha.q w fun i w => hb.q w fun B j hB w => ⟨_, ⟨rfl, w⟩, fun σ H F v u Q S r1 r2 q => ⟨i, j, DA.pu σ H F v S r1, hB.da σ H F u S r2, q⟩⟩)
theorem k_nin {Wb : (List δ → Prop) → Prop} (ok : YOk Y) (ha : EvC Y s a Wa) (hb : EvL Y s b Wb) (hd : Datum.depth δ ≤ 60 := by decide) : EvK Y s .NotIn a b fun k => Wa fun x => Wb fun xs => k (niL x xs) := fun k w =>
  cmp_of (op_ninT (α := δ) ok.room.units hd) (ha.q w fun i w => hb.q w fun B j hB w => ⟨_, ⟨rfl, w⟩, fun σ H F v u Q S r1 r2 q => ⟨i, j, DA.pu σ H F v S r1, hB.da σ H F u S r2, q⟩⟩)
end
section
variable {δ : Type} [DecidableEq δ] [Enc δ] [DatumOrd δ] [Dat δ] {Wa Wb : (δ → Prop) → Prop}
end
section
variable {Wa Wb : (List Nat → Prop) → Prop}
theorem k_ninS (ha : EvC Y s a Wa) (hb : EvC Y s b Wb) : EvK Y s .NotIn a b fun k => Wa fun x => Wb fun y => k (!tin x y) := fun k w =>
  cmp_of op_notin_str (ha.q w fun x w => hb.q w fun y w => ⟨_, ⟨rfl, w⟩, fun σ H F v u Q S r1 r2 q => ⟨toStr x, toStr y, r1, r2, by rw [toStr_len]; exact q⟩⟩)
end
section
variable [NoN α] {W : (Option α → Prop) → Prop} {j : Nat}
theorem k_isN (ha : EvC Y s a W) : EvK Y s .Is a (.Constant .none j p) fun k => W fun x => k x.isNone := fun k w =>
  cmp_of op_isN (ha.q w fun x w => .of evp_non ⟨_, ⟨rfl, w⟩, fun σ H F v u Q S r1 r2 q => ⟨r2, by rw [optNone (α := α) r1]; exact q⟩⟩)
theorem k_notN (ha : EvC Y s a W) : EvK Y s .IsNot a (.Constant .none j p) fun k => W fun x => k x.isSome := fun k w =>
  cmp_of op_notN (ha.q w fun x w => .of evp_non ⟨_, ⟨rfl, w⟩, fun σ H F v u Q S r1 r2 q => ⟨r2, by
    rw [optNone (α := α) r1]
    cases x <;> exact q⟩⟩)
end
section
variable {κ ν : Type} [DecidableEq κ] [Kk κ] [Enc κ] [KkV κ] [Enc ν] {Wa : (κ → Prop) → Prop} {Wb : (List (κ × ν) → Prop) → Prop}
theorem k_inD (ok : YOk Y) (ha : EvC Y s a Wa) (hb : EvD Y s b Wb) : EvK Y s .In a b fun k => Wa fun x => Wb fun m => k (dhas m x) := fun kk w F0 σ H F e0 S => by
  refine .of (pc_din (by have := ok.room.units; omega) pe_we pe_we) ?_
  refine ((ha _ w) F0 σ H F e0 S).mono fun u H1 ⟨_, _, F1, e1, r1, S1, k, ea, es, w⟩ => ?_
  subst ea es
  refine ((hb _ w) F1 σ H1 F1 (.refl _) S1).mono fun v H2 ⟨B, _, F2, e2, r2, S2, m, hB, es, w⟩ => ?_
  subst es
  obtain ⟨q, zs, ev, hr, hz⟩ := hB σ H2 F2 v S2 r2
  refine ⟨q, valV zs (Kk.key k), ev, .inl ⟨zs, Kk.key k, hr, KkV.of r1, rfl⟩, _, _, F2, rfl, e1.trans e2, S2, rfl, ?_⟩
  unfold dhas at w
  rcases kvs_val hz k with ⟨h1, h2⟩ | ⟨w', y', h1, h2, h3⟩ <;> rw [h1] at w <;> rw [h2] <;> exact w
end
theorem c_k {op : CmpOp} {W : (Bool → Prop) → Prop} (h : EvK Y s op a b W) (h1 : behindInMarks op b = false := by first | exact nobehind _ (by decide) (by decide) | rfl) : EvC Y s (.Compare a [op] [b] pos) W := fun k w =>
  ev_cmp (h.q w fun x kx => ⟨x, rfl, rfl, kx⟩) h1
theorem t_k {op : CmpOp} {W : (Bool → Prop) → Prop} (h : EvK Y s op a b W) (h1 : behindInMarks op b = false := by first | exact nobehind _ (by decide) (by decide) | rfl) : EvT Y s (.Compare a [op] [b] pos) W := fun k w =>
  et_cmp (h.q w fun x kx => ⟨rfl, kx⟩) h1
theorem t_v {W : (Bool → Prop) → Prop} (he : ∀ whole, isTrue e Y.X.env whole = (do let v ← whole; standAt e.pos; holding [v] (truthy v))) (h : EvC Y s e W) : EvT Y s e W := fun k w =>
  et_val he (h.q w fun x kx => ⟨x, rfl, rfl, kx⟩)
theorem t_not {W : (Bool → Prop) → Prop} (h : EvT Y s a W) : EvT Y s (.UnaryOp .Not a pos) fun k => W fun x => k (!x) := fun k w =>
  et_not (h.q w fun x kx => ⟨rfl, kx⟩)
theorem t_w {W : (Bool → Prop) → Prop} (h : EvW Y s a W) : EvT Y s a W := fun k w => et_w (h k w)
theorem w_and1 {W : (Bool → Prop) → Prop} (h : EvT Y s a W) : EvW Y s (.BoolOp .And [a] pos) W := fun k w => ew_and1 (h k w)
theorem w_or1 {W : (Bool → Prop) → Prop} (h : EvT Y s a W) : EvW Y s (.BoolOp .Or [a] pos) W := fun k w => ew_or1 (h k w)
theorem w_and {W V : (Bool → Prop) → Prop} {r : List Expr} (h : EvT Y s a W) (hr : EvW Y s (.BoolOp .And (b :: r) pos) V) : EvW Y s (.BoolOp .And (a :: b :: r) pos) fun k => W fun x => (x = true → V k) ∧ (x = false → k false) := fun k w =>
  ew_and (h.q w fun x kx => by
    cases x with
    | true => exact hr k (kx.1 rfl)
    | false => exact ⟨rfl, kx.2 rfl⟩)
theorem w_or {W V : (Bool → Prop) → Prop} {r : List Expr} (h : EvT Y s a W) (hr : EvW Y s (.BoolOp .Or (b :: r) pos) V) : EvW Y s (.BoolOp .Or (a :: b :: r) pos) fun k => W fun x => (x = true → k true) ∧ (x = false → V k) := fun k w =>
  ew_or (h.q w fun x kx => by
    cases x with
    | false => exact hr k (kx.2 rfl)
    | true => exact ⟨rfl, kx.1 rfl⟩)
theorem w_andP {W V : (Bool → Prop) → Prop} {r : List Expr} {y : Bool} (h : EvT Y s a W) (hr : EvW Y s (.BoolOp .And (b :: r) pos) V) : EvW Y s (.BoolOp .And (a :: b :: r) pos) fun k => W fun x => (x = true → V fun z => z = y) ∧ k (x && y) := fun k w =>
  ew_and (h.q w fun x kx => by
    cases x with
    | true => exact (hr _ (kx.1 rfl)).to fun z s' ⟨e1, e2⟩ => ⟨e1, by rw [e2]; exact kx.2⟩
    | false => exact ⟨rfl, kx.2⟩)
theorem w_orP {W V : (Bool → Prop) → Prop} {r : List Expr} {y : Bool} (h : EvT Y s a W) (hr : EvW Y s (.BoolOp .Or (b :: r) pos) V) : EvW Y s (.BoolOp .Or (a :: b :: r) pos) fun k => W fun x => (x = false → V fun z => z = y) ∧ k (x || y) := fun k w =>
  ew_or (h.q w fun x kx => by
    cases x with
    | false => exact (hr _ (kx.1 rfl)).to fun z s' ⟨e1, e2⟩ => ⟨e1, by rw [e2]; exact kx.2⟩
    | true => exact ⟨rfl, kx.2⟩)
theorem Po.ext {σ : St} {F0 F1 : Hp} {Q : Pv → DSt → Prop} {v : V} {H : Hp} (h : Po Y σ F1 Q v H) (e : Ext F0 F1) : Po Y σ F0 Q v H := by
  obtain ⟨A, s', F', e1, r, S', q⟩ := h
  exact ⟨A, s', F', e.trans e1, r, S', q⟩
theorem c_ifP {W : (Bool → Prop) → Prop} {Wa Wb : (α → Prop) → Prop} {u w : α} (h : EvT Y s c W) (ha : EvC Y s a Wa) (hb : EvC Y s b Wb) : EvC Y s (.IfExp c a b pos) fun k => W fun x => (x = true → Wa fun z => z = u) ∧ (x = false → Wb fun z => z = w) ∧ k (if x = true then u else w) := fun k w =>
  ev_if (h.q w fun x kx => by
    cases x with
    | true => exact (ha _ (kx.1 rfl)).mono fun A s' ⟨z, e1, e2, e3⟩ => ⟨z, e1, e2, by rw [e3]; exact kx.2.2⟩
    | false => exact (hb _ (kx.2.1 rfl)).mono fun A s' ⟨z, e1, e2, e3⟩ => ⟨z, e1, e2, by rw [e3]; exact kx.2.2⟩)
end
end Sp
set_option maxHeartbeats 4000000
namespace Sp
open PySem L2
open PySem.W (Datum DatumOrd SomeDatum)
instance : Inhabited (Tup α) := ⟨⟨[]⟩⟩
instance [Inhabited α] [Inhabited β] [Inhabited γ] : Inhabited (T3 α β γ) := ⟨⟨default, default, default⟩⟩
instance [Inhabited α] [Inhabited β] [Inhabited γ] [Inhabited δ] : Inhabited (T4 α β γ δ) := ⟨⟨default, default, default, default⟩⟩
instance : Inhabited (Dct κ ν) := ⟨⟨[]⟩⟩
def inR (n : Nat) (i : Int) : Prop := -(n : Int) ≤ i ∧ i < n
def plc (n : Nat) (i : Int) : Nat := (if 0 ≤ i then i else i + n).toNat
def ixD {α : Type} [Inhabited α] (xs : List α) (i : Int) : α := xs.getD (plc xs.length i) default
def ixS (x : Txt) (i : Int) : Txt := [x.getD (plc x.length i) 0]
theorem ixN_plc {n : Nat} {i : Int} (h : inR n i) : ixN n i = some (plc n i) ∧ plc n i < n := by
  unfold inR at h
  unfold ixN plc
  by_cases h0 : 0 ≤ i
  · rw [if_pos h0, if_pos h.2, if_pos h0]
    exact ⟨rfl, by omega⟩
  · rw [if_neg h0, if_pos h.1, if_neg h0]
    exact ⟨rfl, by omega⟩
theorem at_ix {α : Type} [Inhabited α] {xs : List α} {i : Int} (h : inR xs.length i) : atI xs i = some (ixD xs i) := by
  obtain ⟨e, l⟩ := ixN_plc h
  unfold atI ixD
  rw [e]
  show xs[plc xs.length i]? = _
  rw [List.getElem?_eq_getElem l, List.getD_eq_getElem?_getD, List.getElem?_eq_getElem l]
  rfl
theorem at_ixS {x : Txt} {i : Int} (h : inR x.length i) : atI x i = some (x.getD (plc x.length i) 0) := by
  obtain ⟨e, l⟩ := ixN_plc h
  unfold atI
  rw [e]
  show x[plc x.length i]? = _
  rw [List.getElem?_eq_getElem l, List.getD_eq_getElem?_getD, List.getElem?_eq_getElem l]
  rfl
def dgt {κ ν : Type} [DecidableEq κ] [Inhabited ν] (m : List (κ × ν)) (k : κ) : ν := (dval m k).getD default
def EvS (Y : DX) (s : DSt) (es : List Expr) {α : Type} [Enc α] (W : (List α → Prop) → Prop) : Prop := ∀ k : List α → Prop, W k → Evs Y s es fun As s' => ∃ xs : List α, As = xs.map pu ∧ xs.length = es.length ∧ s' = s ∧ k xs
class Ags (τ : Type) where
  pvs : τ → List Pv
instance : Ags Unit := ⟨fun _ => []⟩
instance {α τ : Type} [Enc α] [Ags τ] : Ags (α × τ) := ⟨fun t => pu t.1 :: Ags.pvs t.2⟩
def EvA (Y : DX) (s : DSt) (es : List Expr) {τ : Type} [Ags τ] (W : (τ → Prop) → Prop) : Prop := ∀ k : τ → Prop, W k → Evs Y s es fun As s' => ∃ t : τ, As = Ags.pvs t ∧ s' = s ∧ k t
section
variable {Y : DX} {s : DSt} {e a b c d o : Expr} {es : List Expr} {pos p apos : Pos} {α β γ δ : Type} [Enc α] [Enc β] [Enc γ] [Enc δ]
theorem s_nil : EvS Y s [] (α := α) fun k => k [] := fun k w => evs_nil ⟨[], rfl, rfl, rfl, w⟩
theorem s_cons {W : (α → Prop) → Prop} {V : (List α → Prop) → Prop} (h : EvC Y s e W) (hs : EvS Y s es V) (he : starEach (e :: es) Y.X.env = (false, eval e Y.X.env) :: starEach es Y.X.env := by exact star_c rfl) : EvS Y s (e :: es) fun k => W fun x => V fun xs => k (x :: xs) := fun k w =>
  evs_cons (h.q w fun x w => (hs _ w).mono fun As s' ⟨xs, e1, e2, e3, w⟩ => ⟨x :: xs, by rw [e1]; rfl, by simp [e2], e3, w⟩) he
theorem a_nil : EvA Y s [] (τ := Unit) fun k => k () := fun k w => evs_nil ⟨(), rfl, rfl, w⟩
theorem a_cons {τ : Type} [Ags τ] {W : (α → Prop) → Prop} {V : (τ → Prop) → Prop} (h : EvC Y s e W) (hs : EvA Y s es V) (he : starEach (e :: es) Y.X.env = (false, eval e Y.X.env) :: starEach es Y.X.env := by exact star_c rfl) : EvA Y s (e :: es) (τ := α × τ) fun k => W fun x => V fun t => k (x, t) := fun k w =>
  evs_cons (h.q w fun x w => (hs _ w).mono fun As s' ⟨t, e1, e3, w⟩ => ⟨(x, t), by rw [e1]; rfl, e3, w⟩) he
theorem c_list {W : (List α → Prop) → Prop} (h : EvS Y s es W) (hl : es.length ≤ sizeLine := by show _ ≤ sizeLine; decide) : EvC Y s (.List es pos) W := fun k w =>
  ev_list ((h k w).mono fun As s' ⟨xs, e1, e2, e3, w⟩ => ⟨xs, e1, by omega, xs, rfl, e3, w⟩)
theorem c_tup2 {W : (α × β × Unit → Prop) → Prop} {kk : Nat} (h : EvA Y s es W) : EvC Y s (.Tuple es kk pos) fun k => W fun t => k (t.1, t.2.1) := fun k w =>
  ev_tup2 ((h _ w).mono fun As s' ⟨t, e1, e3, w⟩ => ⟨t.1, t.2.1, e1, _, rfl, e3, w⟩)
theorem c_tup3 {W : (α × β × γ × Unit → Prop) → Prop} {kk : Nat} (h : EvA Y s es W) : EvC Y s (.Tuple es kk pos) fun k => W fun t => k (PySem.W.T3.mk t.1 t.2.1 t.2.2.1) := fun k w =>
  ev_tup3 ((h _ w).mono fun As s' ⟨t, e1, e3, w⟩ => ⟨t.1, t.2.1, t.2.2.1, e1, _, rfl, e3, w⟩)
theorem c_lenL {W : (List α → Prop) → Prop} (T : Bis Y.X.mg) (hg : Gl Y.X "len") (ha : EvL Y s a W) (he : starEach [a] Y.X.env = (false, eval a Y.X.env) :: starEach [] Y.X.env := by exact star_c rfl) : EvC Y s (.Call (.Name "len" p) [a] [] pos) fun k => W fun xs => k (xs.length : Int) := fun k w =>
  ev_B1 call_len hg (T.no _ (by decide)) boot_len (ha.q w fun A xs hA w F0 σ H F v e0 S r => by
    obtain ⟨q, vs, h1, h2, h3⟩ := hA σ H F v S r
    exact ⟨v, vs.length, rfl, by subst h1; exact .inl ⟨vs, h2, rfl⟩, pu (xs.length : Int), s, F, e0, by rw [Paired.length h3]; rfl, S, _, rfl, rfl, w⟩) (by decide) (by decide) he
theorem c_lenH {W : (Tup α → Prop) → Prop} (T : Bis Y.X.mg) (hg : Gl Y.X "len") (ha : EvC Y s a W) (he : starEach [a] Y.X.env = (false, eval a Y.X.env) :: starEach [] Y.X.env := by exact star_c rfl) : EvC Y s (.Call (.Name "len" p) [a] [] pos) fun k => W fun xs => k (xs.items.length : Int) := fun k w =>
  ev_B1 call_len_seq hg (T.no _ (by decide)) boot_len (ha.q w fun xs w F0 σ H F v e0 S r => by
    obtain ⟨q, vs, h1, h2, h3⟩ := r
    exact ⟨q, vs, by rw [h1], .inr (sqT_ex2 h2 S.ext), pu (xs.items.length : Int), s, F, e0, by rw [Paired.length h3]; rfl, S, _, rfl, rfl, w⟩) (by decide) (by decide) he
theorem c_lenS {W : (List Nat → Prop) → Prop} (T : Bis Y.X.mg) (hg : Gl Y.X "len") (ha : EvC Y s a W) (he : starEach [a] Y.X.env = (false, eval a Y.X.env) :: starEach [] Y.X.env := by exact star_c rfl) : EvC Y s (.Call (.Name "len" p) [a] [] pos) fun k => W fun x => x.length ≤ sizeLine ∧ k (x.length : Int) := fun k w =>
  ev_B1 call_len_str hg (T.no _ (by decide)) boot_len (ha.q w fun x w F0 σ H F v e0 S r => by
    exact ⟨toStr x, by rw [show v = V.str (toStr x) from r], by rw [toStr_len]; exact w.1, pu (x.length : Int), s, F, e0, by rw [toStr_len]; rfl, S, _, rfl, rfl, w.2⟩) (by decide) (by decide) he
theorem call_lenF {X : Cx} : CallR X (.builtin "len") (fun xs H Q => ∃ a kvs, xs = [V.ref a] ∧ Rd H a (.dK kvs) ∧ Q (.int kvs.length) H) := by
  intro pins s σ H xs us Q I r h
  obtain ⟨a, kvs, rfl, ha, q⟩ := h
  obtain ⟨u, rfl, ru⟩ := vals1 r
  cases ru
  exact d_len I ha fun t s' I' => ⟨.int kvs.length, H, I', ⟨t, rfl⟩, q⟩
theorem c_lenD {κ ν : Type} [DecidableEq κ] [Kk κ] [Enc κ] [KkV κ] [Enc ν] {W : (List (κ × ν) → Prop) → Prop} (T : Bis Y.X.mg) (hg : Gl Y.X "len") (ha : EvD Y s a W) (he : starEach [a] Y.X.env = (false, eval a Y.X.env) :: starEach [] Y.X.env := by exact star_c rfl) : EvC Y s (.Call (.Name "len" p) [a] [] pos) fun k => W fun m => k (m.length : Int) := fun k w =>
  ev_B1 call_lenF hg (T.no _ (by decide)) boot_len (ha.q w fun A m hA w F0 σ H F v e0 S r => by
    obtain ⟨q, kvs, h1, h2, h3⟩ := hA σ H F v S r
    exact ⟨q, kvs, by rw [h1], h2, pu (m.length : Int), s, F, e0, by rw [Paired.length h3]; rfl, S, _, rfl, rfl, w⟩) (by decide) (by decide) he
section
variable {Wi : (Int → Prop) → Prop}
theorem c_ixL [Inhabited α] {W : (List α → Prop) → Prop} (ha : EvL Y s a W) (hb : EvC Y s b Wi) (hs : PlainIx b := by intro _ _; rfl) : EvC Y s (.Subscript a b pos) fun k => W fun xs => Wi fun i => inR xs.length i ∧ k (ixD xs i) := fun k w =>
  ev2 (pe_ix ix_list pe_we pe_we hs) (ha.q w fun A xs hA w => hb.q w fun i w F0 σ H F v u e0 S rv ru => by
    obtain ⟨p, vs, h1, h2, h3⟩ := hA σ H F v S rv
    obtain ⟨y, hy, ry⟩ := atI_of h3 (at_ix w.1)
    exact ⟨p, vs, i, y, h1, ru, h2, hy, pu (ixD xs i), s, F, e0, ry, S, _, rfl, rfl, w.2⟩)
theorem c_ixS {W : (List Nat → Prop) → Prop} (ha : EvC Y s a W) (hb : EvC Y s b Wi) (hs : PlainIx b := by intro _ _; rfl) : EvC Y s (.Subscript a b pos) fun k => W fun x => Wi fun i => x.length ≤ sizeLine ∧ inR x.length i ∧ k (ixS x i) := fun k w =>
  ev2 (pe_ix ix_str pe_we pe_we hs) (ha.q w fun x w => hb.q w fun i w F0 σ H F v u e0 S rv ru =>
    ⟨toStr x, i, _, rv, ru, by rw [toStr_len]; exact w.1, by rw [toStr_cps]; exact at_ixS w.2.1, pu (ixS x i), s, F, e0, rfl, S, _, rfl, rfl, w.2.2⟩)
end
def EvOC (Y : DX) (s : DSt) (e : Option Expr) (W : (Option Int → Prop) → Prop) : Prop := ∀ k : Option Int → Prop, W k → ∀ F0 σ H F, Ext F0 F → Sta Y s σ H F →
  WO Y.X e σ H fun o H' => ∃ F', Ext F0 F' ∧ Sta Y s σ H' F' ∧ k o
theorem o_no : EvOC Y s none fun k => k none := fun k w F0 σ H F e0 S => ⟨fun pins s1 I => (po_none).run pins s1 σ H _ I ⟨F, e0, S, w⟩⟩
theorem o_at {W : (Int → Prop) → Prop} (h : EvC Y s e W) : EvOC Y s (some e) fun k => W fun i => k (some i) := fun k w F0 σ H F e0 S => ⟨fun pins s1 I =>
  (po_some pe_we).run pins s1 σ H _ I (((h _ w) F0 σ H F e0 S).mono fun v H' ⟨_, _, F', e1, r, S', i, ea, es, w⟩ => by subst ea es; exact ⟨i, r, F', e1, S', w⟩)⟩
theorem ev_slC {Q : Pv → DSt → Prop} {r : V → Option Int → Option Int → Hp → VK → Prop} {lo hi : Option Expr} {p2 : Pos} {Wl Wh : (Option Int → Prop) → Prop} (hr : SlR Y.X r) (hl : EvOC Y s lo Wl) (hh : EvOC Y s hi Wh)
    (h : Ev Y s a fun A s1 => s1 = s ∧ ∃ K : Option Int → Option Int → Prop, (Wl fun i => Wh fun j => K i j) ∧ ∀ i j, K i j → ∀ F0 σ H F v, Ext F0 F → Sta Y s σ H F → A.rep Y.X.K F v → r v i j H (Po Y σ F0 Q)) : Ev Y s (.Subscript a (.Slice lo hi none p2) pos) Q := fun F0 σ H F e0 S => by
  refine .of (pe_slice hr pe_we po_wo po_wo) ?_
  refine (h F σ H F (.refl _) S).mono fun v H1 ⟨A, s1, F1, e1, r1, S1, es, K, w, q⟩ => ?_
  subst es
  refine ⟨fun pins sh I => ?_⟩
  refine thn ((hl _ w F1 σ H1 F1 (.refl _) S1).run pins sh I) fun u s2 ⟨o, H2, I2, p2, F2, e2, S2, w⟩ => ⟨o, H2, I2, p2, ?_⟩
  refine ⟨fun pins' s1' I' => ?_⟩
  refine thn ((hh _ w F2 σ H2 F2 (.refl _) S2).run pins' s1' I') fun u' s3 ⟨o', H3, I3, p3, F3, e3, S3, w⟩ => ⟨o', H3, I3, p3, ?_⟩
  exact q _ _ w F0 σ H3 F3 v (((e0.trans e1).trans e2).trans e3) S3 (A.mono r1 (e2.trans e3))
section
variable {lo hi : Option Expr} {p2 : Pos} {Wl Wh : (Option Int → Prop) → Prop}
theorem po_listC {σ : St} {F0 : Hp} {H F : Hp} {vs : List V} {xs : List α} {k : List α → Prop} (e0 : Ext F0 F) (S : Sta Y s σ H F) (r : Vs Y.X.K F vs xs) (w : k xs) : ∀ p, H p = none → Po Y σ F0 (fun A s' => ∃ x, A = pu x ∧ s' = s ∧ k x) (.ref p) (upd H p (.lst vs)) :=
  po_list e0 S r ⟨xs, rfl, rfl, w⟩
end
theorem c_catL {Wa Wb : (List α → Prop) → Prop} (ha : EvL Y s a Wa) (hb : EvL Y s b Wb) : EvC Y s (.BinOp a .Add b pos) fun k => Wa fun x => Wb fun y => x.length + y.length ≤ sizeLine ∧ k (x ++ y) := fun k w =>
  ev2 (pe_op op_catF pe_we pe_we) (ha.q w fun A x hA w => hb.q w fun B y hB w F0 σ H F v u e0 S r1 r2 => by
    obtain ⟨p, zs, h1, h2, h3⟩ := hA σ H F v S r1
    obtain ⟨q, ws, g1, g2, g3⟩ := hB σ H F u S r2
    have l1 : zs.length = x.length := Paired.length h3
    have l2 : ws.length = y.length := Paired.length g3
    exact ⟨p, q, zs, ws, h1, g1, h2, g2, by omega, fun l hl => po_listC e0 S (prd_app h3 g3) w.2 l hl⟩)
theorem vs_rep {K : Frag} {F : Hp} {vs : List V} {xs : List α} (h : Vs K F vs xs) : ∀ n : Nat, Vs K F (List.replicate n vs).flatten (List.replicate n xs).flatten
  | 0 => .nil
  | n + 1 => by
    rw [List.replicate_succ, List.replicate_succ, List.flatten_cons, List.flatten_cons]
    exact prd_app h (vs_rep h n)
theorem c_repL {W : (List α → Prop) → Prop} {Wb : (Int → Prop) → Prop} {p2 : Pos} (h : EvS Y s es W) (hb : ∀ p xs, EvC Y ⟨s.ρ, (p, lstc (α := α) xs) :: s.gs⟩ b Wb) (hl : es.length ≤ sizeLine := by show _ ≤ sizeLine; decide) : EvC Y s (.BinOp (.List es p2) .Mult b pos) fun k => W fun xs => Wb fun n => (-(2 ^ 63) ≤ n ∧ n < 2 ^ 63 ∧ xs.length * n.toNat ≤ sizeLine) ∧ k (List.replicate n.toNat xs).flatten := fun k w =>
  ev2 (pe_op op_rep pe_we pe_we) (ev_listO ((h _ w).mono fun As s' ⟨xs, e1, e2, e3, w⟩ => ⟨xs, e1, by omega, fun p => by
    subst e3
    exact (hb p xs _ w).mono fun B s2 ⟨n, eb, es, w⟩ F0 σ H F v u e0 S r1 r2 => by
      subst eb es
      obtain ⟨hF, o, ho, _, vs, eo, rv⟩ := S.cell (i := 0) (p := p) (c := lstc xs) rfl
      subst eo
      have hl : vs.length = xs.length := Paired.length rv
      refine ⟨p, n, vs, r1, r2, ho, w.1.1, w.1.2.1, by rw [hl]; exact w.1.2.2, fun q hq => ?_⟩
      exact po_listC e0 (S.drop 0) (vs_rep rv _) w.2 q hq⟩))
end
end Sp
set_option maxHeartbeats 4000000
namespace Sp
open PySem L2
open PySem.W (Datum DatumOrd SomeDatum)
section
variable {Y : DX} {s : DSt} {e a b c d o f : Expr} {es : List Expr} {pos p apos : Pos} {α β γ δ : Type} [Enc α] [Enc β] [Enc γ] [Enc δ]
theorem ev_m1C {T id : String} {name : Str} {Q : Pv → DSt → Prop} {r : V → List V → Hp → VK → Prop} (pa : PlainAttrs T) (slot : Slot T name id) (hty : typeOf (.builtin id) = pure (.type "method_descriptor")) (hm : MtR Y.X id r)
    (h : Ev Y s o fun A s1 => (∀ σ H F v, Sta Y s1 σ H F → A.rep Y.X.K F v → tyV Y.X.K T v H) ∧ Ev Y s1 e fun B s2 => ∀ F0 σ H F v u, Ext F0 F → Sta Y s2 σ H F → A.rep Y.X.K F v → B.rep Y.X.K F u → r v [u] H (Po Y σ F0 Q))
    (m : Mx1 Y.X o name apos e pos) : Ev Y s (.Call (.Attribute o name apos) [e] [] pos) Q := fun F0 σ H F e0 S => by
  refine .of (pe_bm pa slot hty hm pe_we (pa_cons pe_we pa_nil m.star) m.base m.few m.line m.star (by rfl)) ?_
  refine (h F σ H F (.refl _) S).mono fun v H1 ⟨A, s1, F1, e1, r1, S1, ht, q⟩ => ⟨ht _ _ _ _ S1 r1, ?_⟩
  refine (q F1 σ H1 F1 (.refl _) S1).mono fun u H2 ⟨B, s2, F2, e2, r2, S2, q⟩ => ?_
  exact q F0 σ H2 F2 v u ((e0.trans e1).trans e2) S2 (A.mono r1 e2) r2
structure Mx2 (X : Cx) (o : Expr) (m : Str) (apos : Pos) (e f : Expr) (pos : Pos) : Prop where
  base : attributeBase o m X.env (eval o X.env) = eval o X.env
  few : ((backTo pos (starEach [e, f] X.env)).all (fun x => !x.1) && (backToKw pos (keywordEach [] X.env)).all (fun x => x.1.isSome)
      && decide (([e, f] : List Expr).length + ([] : List Keyword).length + (if ([] : List Keyword).isEmpty then 0 else 1) < 30)) = true
  line : (apos.endLine == pos.line) = true
  star : starEach [e, f] X.env = (false, eval e X.env) :: starEach [f] X.env
  star2 : starEach [f] X.env = (false, eval f X.env) :: starEach [] X.env
section
variable {Wo We Wf : (List Nat → Prop) → Prop} {Wi : (Int → Prop) → Prop}
theorem ty_txt {x : List Nat} : ∀ σ H F v, Sta Y s σ H F → (pu x).rep Y.X.K F v → tyV Y.X.K "str" v H := fun σ H F v S r => tyV_str r
def idxT (x y : Txt) : Int := ((Builtin.Str.occurrences (toStr x) (toStr y) 0 x.length 1).headD 0 : Nat)
theorem c_idxS (ho : EvC Y s o Wo) (he : EvC Y s e We) (m : Mx1 Y.X o "index" apos e pos := by exact mx1 rfl rfl rfl) : EvC Y s (.Call (.Attribute o "index" apos) [e] [] pos) fun k => Wo fun x => We fun y => tin y x = true ∧ k (idxT x y) := fun k w =>
  ev_m1C PySem.F.plainAttrs_str PySem.F.slot_str_index PySem.F.type_str_index mt_sindex (ho.q w fun x w => ⟨ty_txt, he.q w fun y w F0 σ H F v u e0 S r r2 => by
    obtain ⟨h1, w⟩ := w
    unfold tin at h1
    unfold idxT at w
    cases ho : Builtin.Str.occurrences (toStr x) (toStr y) 0 x.length 1 with
    | nil => rw [ho] at h1; cases h1
    | cons i rest =>
      rw [ho] at w
      exact ⟨toStr x, toStr y, i, rest, r, by rw [show u = V.str (toStr y) from r2], by rw [toStr_len]; exact ho, pu ((i : Nat) : Int), s, F, e0, rfl, S, _, rfl, rfl, w⟩⟩) m
theorem c_join {Wl : (List (List Nat) → Prop) → Prop} (ho : EvC Y s o Wo) (he : EvL Y s e Wl) (m : Mx1 Y.X o "join" apos e pos := by exact mx1 rfl rfl rfl) : EvC Y s (.Call (.Attribute o "join" apos) [e] [] pos) fun k => Wo fun x => Wl fun xs => lenSum xs + xs.length * x.length ≤ 16777216 ∧ k (joinT x xs) := fun k w =>
  ev_m1C PySem.F.plainAttrs_str PySem.F.slot_str_join PySem.F.type_str_join mt_join (ho.q w fun x w => ⟨ty_txt, he.q w fun B xs hB w F0 σ H F v u e0 S r r2 => by
    obtain ⟨q, zs, h1, h2, h3⟩ := hB σ H F u S r2
    rw [txts_map h3] at h2
    refine ⟨toStr x, q, xs.map toStr, r, by rw [h1], .inl h2, ?_, pu (joinT x xs), s, F, e0, by rw [toStr_join']; rfl, S, _, rfl, rfl, w.2⟩
    have e1 : (xs.map toStr).map (·.length) = xs.map List.length := by rw [List.map_map]; exact List.map_congr_left fun y _ => toStr_len y
    rw [e1, List.length_map, toStr_len]
    exact w.1⟩) m
end
section
variable {δ : Type} [DecidableEq δ] [Enc δ] [Datum δ] [Dat δ] {Wo : (List δ → Prop) → Prop} {We : (δ → Prop) → Prop}
theorem c_cntL (ok : YOk Y) (ho : EvL Y s o Wo) (he : EvC Y s e We) (m : Mx1 Y.X o "count" apos e pos := by exact mx1 rfl rfl rfl) (hd : Datum.depth δ ≤ 60 := by decide) : EvC Y s (.Call (.Attribute o "count" apos) [e] [] pos) fun k => Wo fun xs => We fun x => k (cnt xs x : Int) := fun k w =>
  ev_m1C PySem.F.plainAttrs_list PySem.F.slot_list_count PySem.F.type_list_count (mt_countT (α := δ) ok.room.units hd) (ho.q w fun A xs hA w => ⟨hA.ty, he.q w fun x w F0 σ H F v u e0 S r1 r2 => ⟨x, xs, u, rfl, Enc.mono (α := δ) r2 S.ext, hA.rd S r1, pu (cnt xs x : Int), s, F, e0, rfl, S, _, rfl, rfl, w⟩⟩) m
theorem c_idxL (ok : YOk Y) (ho : EvL Y s o Wo) (he : EvC Y s e We) (m : Mx1 Y.X o "index" apos e pos := by exact mx1 rfl rfl rfl) (hd : Datum.depth δ ≤ 60 := by decide) : EvC Y s (.Call (.Attribute o "index" apos) [e] [] pos) fun k => Wo fun xs => We fun x => x ∈ xs ∧ k (idx xs x : Int) := fun k w =>
  ev_m1C PySem.F.plainAttrs_list PySem.F.slot_list_index PySem.F.type_list_index (mt_indexT (α := δ) ok.room.units hd) (ho.q w fun A xs hA w => ⟨hA.ty, he.q w fun x w F0 σ H F v u e0 S r1 r2 => ⟨x, xs, u, rfl, Enc.mono (α := δ) r2 S.ext, hA.rd S r1, w.1, pu (idx xs x : Int), s, F, e0, rfl, S, _, rfl, rfl, w.2⟩⟩) m
end
section
variable {κ ν : Type} [DecidableEq κ] [Kk κ] [Enc κ] [KkV κ] [Enc ν] {Wd : (List (κ × ν) → Prop) → Prop} {Wk : (κ → Prop) → Prop} {Wv : (ν → Prop) → Prop}
theorem c_dget [Inhabited ν] (ok : YOk Y) (ha : EvD Y s a Wd) (hb : EvC Y s b Wk) (hs : NoSl b := by intro _ _; rfl) : EvC Y s (.Subscript a b pos) fun k => Wd fun m => Wk fun x => dhas m x = true ∧ k (dgt m x) := fun k w F0 σ H F e0 S => by
  refine .of (pe_dget (by have := ok.room.units; omega) pe_we pe_we hs) ?_
  refine (ha _ w F σ H F (.refl _) S).mono fun v H1 ⟨A, _, F1, e1, r1, S1, m, hA, es, w⟩ => ?_
  subst es
  refine (hb _ w F1 σ H1 F1 (.refl _) S1).mono fun u H2 ⟨_, _, F2, e2, r2, S2, x, ex, es, w⟩ => ?_
  subst ex es
  obtain ⟨q, zs, ev, hr, hz⟩ := hA σ H2 F2 v S2 (A.mono r1 e2)
  obtain ⟨w1, w2⟩ := w
  unfold dhas at w1
  unfold dgt at w2
  rcases kvs_val hz x with ⟨h1, _⟩ | ⟨z, y, h1, h2, h3⟩
  · rw [h1] at w1; cases w1
  · rw [h1] at w2
    exact ⟨q, z, ev, .inl ⟨zs, Kk.key x, hr, KkV.of r2, h2.symm⟩, pu y, _, F2, (e0.trans e1).trans e2, h3, S2, _, rfl, rfl, w2⟩
theorem c_dget2 (ok : YOk Y) (ho : EvD Y s o Wd) (he : EvC Y s e Wk) (hf : EvC Y s f Wv) (M : M2 Y.X o "get" apos e f pos := by exact ⟨rfl, rfl, rfl, rfl⟩) : EvC Y s (.Call (.Attribute o "get" apos) [e, f] [] pos) fun k => Wd fun m => Wk fun x => Wv fun y => k ((dval m x).getD y) := fun k w F0 σ H F e0 S => by
  refine .of (pe_dget2 (by have := ok.room.units; omega) pe_we pe_we pe_we M) ?_
  refine (ho _ w F σ H F (.refl _) S).mono fun v H1 ⟨A, _, F1, e1, r1, S1, m, hA, es, w⟩ => ?_
  subst es
  obtain ⟨q, zs, ev, hr, hz⟩ := hA σ H1 F1 v S1 r1
  refine ⟨q, ev, .inl ⟨zs, hr⟩, ?_⟩
  refine (he _ w F1 σ H1 F1 (.refl _) S1).mono fun u H2 ⟨_, _, F2, e2, r2, S2, x, ex, es, w⟩ => ?_
  subst ex es
  refine (hf _ w F2 σ H2 F2 (.refl _) S2).mono fun z H3 ⟨_, _, F3, e3, r3, S3, y, ey, es, w⟩ => ?_
  subst ey es
  obtain ⟨q', zs', ev', hr', hz'⟩ := hA σ H3 F3 v S3 (A.mono r1 (e2.trans e3))
  have eq : q' = q := by rw [ev] at ev'; cases ev'; rfl
  subst eq
  refine ⟨valV zs' (Kk.key x), .inl ⟨zs', Kk.key x, hr', KkV.of r2, rfl⟩, pu ((dval m x).getD y), _, F3, ((e0.trans e1).trans e2).trans e3, ?_, S3, _, rfl, rfl, w⟩
  rcases kvs_val hz' x with ⟨h1, h2⟩ | ⟨w', y', h1, h2, h3⟩
  · rw [h1, h2]; exact r3
  · rw [h1, h2]; exact h3
theorem c_dnew {κ ν : Type} [DecidableEq κ] [Kk κ] [Enc κ] [KkV κ] [Enc ν] : EvC Y s (.Dict [] [] pos) fun k => k (Dct.mk ([] : List (κ × ν))) := c_of evp_dnew
end
end
end Sp
set_option maxHeartbeats 4000000
namespace Sp
open PySem L2
open PySem.W (Datum DatumOrd SomeDatum)
def minL {α : Type} [DecidableEq α] [DatumOrd α] [Inhabited α] : List α → α
  | [] => default
  | x :: r => PySem.W.minOf x r
section
variable {Y : DX} {s : DSt} {e a b c d o f : Expr} {es : List Expr} {pos p apos : Pos} {α β γ δ : Type} [Enc α] [Enc β] [Enc γ] [Enc δ]
section
variable {Wi Wj : (Int → Prop) → Prop} {Wb : (Bool → Prop) → Prop} {Wt : (List Nat → Prop) → Prop}
end
section
variable {δ : Type} [DecidableEq δ] [Enc δ] [DatumOrd δ] [Dat δ] {W : (List δ → Prop) → Prop}
theorem c_min [Inhabited δ] (ok : YOk Y) (T : Bis Y.X.mg) (hg : Gl Y.X "min") (ha : EvL Y s a W) (hd : Datum.depth δ ≤ 60 := by decide) (he : starEach [a] Y.X.env = (false, eval a Y.X.env) :: starEach [] Y.X.env := by exact star_c rfl) :
    EvC Y s (.Call (.Name "min" p) [a] [] pos) fun k => W fun xs => xs ≠ [] ∧ k (minL xs) := fun k w =>
  ev_B1 (cr_minF (α := δ) ok.calm ok.room.units hd) hg (T.no _ (by decide)) PyProof.Rows.boot_min (ha.q w fun A xs hA w F0 σ H F v e0 S r => by
    obtain ⟨q, zs, h1, h2, h3⟩ := hA σ H F v S r
    obtain ⟨w1, w2⟩ := w
    cases xs with
    | nil => exact absurd rfl w1
    | cons x xs => exact ⟨F, v, q, zs, x, xs, rfl, h1, h2, h3, S.ext, fun z r' => ⟨pu (PySem.W.minOf x xs), s, F, e0, r', S, _, rfl, rfl, w2⟩⟩) (by decide) (by decide) he
end
section
variable {κ ν : Type} [DecidableEq κ] [Kk κ] [Enc κ] [KkV κ] [Enc ν] {W : (List (κ × ν) → Prop) → Prop}
theorem c_sortedD [DatumOrd κ] [Dat κ] [Srtb κ] [FlatV κ] [FlatR κ] (ok : YOk Y) (T : Bis Y.X.mg) (hg : Gl Y.X "sorted") (ha : EvD Y s a W) (hz : ∀ k : κ, FlatV.z k = kV (Kk.key k) := by intro _; rfl) (hd : Datum.depth κ ≤ 60 := by decide)
    (he : starEach [a] Y.X.env = (false, eval a Y.X.env) :: starEach [] Y.X.env := by exact star_c rfl) : EvC Y s (.Call (.Name "sorted" p) [a] [] pos) fun k => W fun m => k (srt (m.map (·.1))) := fun k w =>
  ev_B1 (cr_sortedD (κ := κ) hz ok.calm ok.room.units hd) hg (T.no _ (by decide)) PyProof.Rows.boot_sorted (ha.q w fun A m hA w F0 σ H F v e0 S r => by
    obtain ⟨q, zs, h1, h2, h3⟩ := hA σ H F v S r
    exact ⟨q, zs, m.map (·.1), by rw [h1], h2, keys_key h3, fun l hl => po_listC e0 S (flat_vs _) w l hl⟩) (by decide) (by decide) he
theorem po_lock {σ : St} {F0 H F : Hp} {zs : List (Key × V)} {m : List (κ × ν)} {k : Dct κ ν → Prop} (e0 : Ext F0 F) (S : Sta Y s σ H F) (r : KVs Y.X.K F zs m) (w : k (Dct.mk m)) (q : Addr) (hq : H q = none) :
    ∃ d u, (upd H q (.dK zs)) d = some u ∧ Mut (some u) ∧ ∀ od, Po Y σ F0 (fun A s' => ∃ x, A = pu x ∧ s' = s ∧ k x) (.ref q) (upd (upd H q (.dK zs)) d (.frz od u)) :=
  ⟨q, .dK zs, upd_same, trivial, fun od => by
    rw [upd_upd]
    obtain ⟨F', e1, r', S'⟩ := pp_dict (Y := Y) e0 S r q hq od
    exact ⟨_, s, F', e1, r', S', _, rfl, rfl, w⟩⟩
theorem c_dictL {W : (List (κ × ν) → Prop) → Prop} (ok : YOk Y) (T : Bis Y.X.mg) (hg : Gl Y.X "dict") (ha : EvL Y s a W) (he : starEach [a] Y.X.env = (false, eval a Y.X.env) :: starEach [] Y.X.env := by exact star_c rfl) : EvC Y s (.Call (.Name "dict" p) [a] [] pos) fun k => W fun xs => k (Dct.mk (dmerge [] xs)) := fun k w F0 σ H F e0 S => by
  refine .lockAfter (.of (pe_callTy (call_dictP ok.calm) hg (T.no _ (by decide)) PyProof.Rows.boot_dict (pa_cons pe_we pa_nil he) (by decide) (by decide) he (by rfl)) ?_)
  refine (ha _ w F0 σ H F e0 S).mono fun v H1 ⟨A, _, F1, e1, r1, S1, xs, hA, es, w⟩ => ?_
  subst es
  obtain ⟨q, zs, h1, h2, h3⟩ := hA σ H1 F1 v S1 r1
  obtain ⟨ps, kvs, g1, g2, g3⟩ := pairs_kvs h3
  subst g1
  exact ⟨q, ps, kvs, by rw [h1], h2, Paired.mapP g2 fun _ _ z => sqT_ext z S1.ext, fun l hl => po_lock e1 S1 (kvs_merge g3 .nil) w l hl⟩
end
theorem c_listH {W : (Tup α → Prop) → Prop} (T : Bis Y.X.mg) (hg : Gl Y.X "list") (ha : EvC Y s a W) (he : starEach [a] Y.X.env = (false, eval a Y.X.env) :: starEach [] Y.X.env := by exact star_c rfl) : EvC Y s (.Call (.Name "list" p) [a] [] pos) fun k => W fun xs => k xs.items := fun k w =>
  ev_T1 call_list_of hg (T.no _ (by decide)) PyProof.Rows.boot_list (ha.q w fun xs w F0 σ H F v e0 S ⟨q, zs, h1, h2, h3⟩ => ⟨q, zs, by rw [h1], .inr (sqT_ex2 h2 S.ext), fun l hl => po_listC e0 S h3 w l hl⟩) (by decide) (by decide) he
theorem c_tupL {W : (List α → Prop) → Prop} (T : Bis Y.X.mg) (hg : Gl Y.X "tuple") (ha : EvL Y s a W) (he : starEach [a] Y.X.env = (false, eval a Y.X.env) :: starEach [] Y.X.env := by exact star_c rfl) : EvC Y s (.Call (.Name "tuple" p) [a] [] pos) fun k => W fun xs => k (PySem.W.Tup.mk xs) := fun k w =>
  ev_T1 call_tuple_of hg (T.no _ (by decide)) PyProof.Rows.boot_tuple (ha.q w fun A xs hA w F0 σ H F v e0 S r => by
    obtain ⟨q, zs, h1, h2, h3⟩ := hA σ H F v S r
    exact ⟨q, zs, by rw [h1], .inl ⟨h2, fun l hl => ⟨pu (PySem.W.Tup.mk xs), s, upd F l (.tup zs), e0.trans (Ext.grow (S.free hl)), ⟨l, zs, rfl, .of upd_same, h3.mono (Ext.grow (S.free hl))⟩, S.newF hl rfl, _, rfl, rfl, w⟩⟩⟩) (by decide) (by decide) he
theorem c_tupT {W : (Tup α → Prop) → Prop} (T : Bis Y.X.mg) (hg : Gl Y.X "tuple") (ha : EvC Y s a W) (he : starEach [a] Y.X.env = (false, eval a Y.X.env) :: starEach [] Y.X.env := by exact star_c rfl) : EvC Y s (.Call (.Name "tuple" p) [a] [] pos) fun k => W fun xs => k xs := fun k w =>
  ev_T1 call_tuple_of hg (T.no _ (by decide)) PyProof.Rows.boot_tuple (ha.q w fun xs w F0 σ H F v e0 S ⟨q, zs, h1, h2, h3⟩ => ⟨q, zs, by rw [h1], .inr ⟨sqT_ex2 h2 S.ext, pu xs, s, F, e0, ⟨q, zs, rfl, h2, h3⟩, S, _, rfl, rfl, w⟩⟩) (by decide) (by decide) he
end
end Sp
set_option maxHeartbeats 4000000
namespace Sp
open PySem L2
open PySem.W (Datum DatumOrd SomeDatum)
def ItC (Y : DX) (s : DSt) (tg iter : Expr) {β : Type} [Enc β] (W : (List β → Prop) → Prop) : Prop := ∀ k : List β → Prop, W k → EvItE Y s tg iter fun items s' => s' = s ∧ k items
section
variable {Y : DX} {s : DSt} {e a b c d o tg : Expr} {es elts : List Expr} {pos p apos cpos tpos : Pos} {kk : Nat} {α β γ : Type} [Enc α] [Enc β] [Enc γ] {κ ν : Type} [Kk κ] [Enc κ] [KkV κ] [Enc ν]
theorem i_list {tg iter : Expr} {WW : (List α → Prop) → Prop} (ha : EvC Y s iter WW) : ItC Y s tg iter fun kk => WW fun xs => kk xs := fun kk ww =>
  ⟨_, pi_list pe_we, fun F0 σ H F R e0 S k => (ha _ ww F0 σ H F e0 S).mono fun v H' ⟨_, _, F', e1, rr, S', xs, ea, es, ww⟩ => by
    subst ea es
    obtain ⟨p, vs, ev, hq, rv⟩ := rr
    exact ⟨p, ev, ⟨vs, sqL_ext hq S'.ext⟩, k _ _ F' _ _ e1 S' (fun i H2 F2 e2 e3 => ⟨fun x hx => by
      have hq2 := sqL_ext (sqL_ext hq e2) e3
      obtain ⟨w, hw, rw'⟩ := prd_get rv hx
      exact ⟨⟨vs, w, hq2, hw⟩, fun v H3 ⟨eh, hv⟩ => .inl ⟨eh, by
        have := hv vs hq2
        rw [hw] at this
        cases this
        exact Enc.mono rw' e2⟩⟩, fun hl => ⟨vs, sqL_ext (sqL_ext hq e2) e3, by rw [rv.length]; exact hl⟩⟩) ⟨rfl, ww⟩⟩⟩
theorem i_tup {tg iter : Expr} {WW : (Tup α → Prop) → Prop} (ha : EvC Y s iter WW) : ItC Y s tg iter fun kk => WW fun xs => kk xs.items := fun kk ww =>
  ⟨_, pi_tup pe_we, fun F0 σ H F R e0 S k => (ha _ ww F0 σ H F e0 S).mono fun v H' ⟨_, _, F', e1, rr, S', xs, ea, es, ww⟩ => by
    subst ea es
    obtain ⟨p, vs, ev, hq, rv⟩ := rr
    exact ⟨p, ev, ⟨vs, sqT_ex2 hq S'.ext⟩, k _ _ F' _ _ e1 S' (fun i H2 F2 e2 e3 => ⟨fun x hx => by
      have hq2 := sqT_ex2 (K := Y.X.K) (sqT_ex2 hq e2) e3
      obtain ⟨w, hw, rw'⟩ := prd_get rv hx
      exact ⟨⟨vs, w, hq2, hw⟩, fun v H3 ⟨eh, hv⟩ => .inl ⟨eh, by
        have := hv vs hq2
        rw [hw] at this
        cases this
        exact Enc.mono rw' e2⟩⟩, fun hl => ⟨vs, sqT_ex2 (sqT_ex2 hq e2) e3, by rw [rv.length]; exact hl⟩⟩) ⟨rfl, ww⟩⟩⟩
theorem i_txt {tg iter : Expr} {WW : (List Nat → Prop) → Prop} (ha : EvC Y s iter WW) : ItC Y s tg iter fun kk => WW fun x => kk (x.map fun c => [c]) := fun kk ww =>
  ⟨_, pi_str pe_we, fun F0 σ H F R e0 S k => (ha _ ww F0 σ H F e0 S).mono fun v H' ⟨_, _, F', e1, rr, S', x, ea, es, ww⟩ => by
    subst ea es
    have ev := rr
    exact ⟨toStr x, ev, k _ _ F' _ _ e1 S' (fun i H2 F2 e2 e3 => ⟨fun y hy => by
      rw [List.getElem?_map] at hy
      cases q : x[i]? with
      | none => rw [q] at hy; cases hy
      | some c =>
        rw [q] at hy
        cases hy
        have hl : i < (toStr x).cps.size := by
          have := (List.getElem?_eq_some_iff.mp q).1
          simpa [toStr] using this
        refine ⟨hl, fun v H3 ⟨eh, c', hc, hv⟩ => .inl ⟨eh, ?_⟩⟩
        have e9 : c' = c := by
          have : x[i]? = some c' := by simpa [toStr] using hc
          rw [q] at this
          exact (Option.some.inj this).symm
        subst e9
        exact hv, fun hl => by
      show (toStr x).cps.size ≤ i
      simpa [toStr] using hl⟩) ⟨rfl, ww⟩⟩⟩
theorem i_range1 (_ok : YOk Y) (T : Bis Y.X.mg) (hg : Gl Y.X "range") {WW : (Int → Prop) → Prop} (ha : EvC Y s a WW) (hs : starEach [a] Y.X.env = [(false, eval a Y.X.env)] := by exact star_1 rfl) : ItC Y s tg (.Call (.Name "range" p) [a] [] pos) fun kk => WW fun n => (-(2 ^ 62) ≤ n ∧ n < 2 ^ 62) ∧ kk ((List.range n.toNat).map fun i : Nat => (i : Int)) := fun kk ww =>
  ⟨_, pi_range1 hg (T.no _ (by decide)) (pa_cons pe_we pa_nil hs) hs, fun F0 σ H F R e0 S k => (ha _ ww F0 σ H F e0 S).mono fun v H' ⟨_, _, F', e1, rr, S', n, ea, es, ww⟩ => by
    subst ea es
    have r := rr
    obtain ⟨hc, ww⟩ := ww
    exact ⟨n, by rw [show v = .int n from r], hc.1, hc.2, k _ _ F' _ _ e1 S' (fun i H2 F2 e2 e3 => ⟨fun x hx => by
      rw [List.getElem?_map] at hx
      cases q : (List.range n.toNat)[i]? with
      | none => rw [q] at hx; cases hx
      | some j =>
        rw [q] at hx
        cases hx
        obtain ⟨h5, h6⟩ := List.getElem?_eq_some_iff.mp q
        rw [List.getElem_range] at h6
        subst h6
        rw [List.length_range] at h5
        refine ⟨h5, fun v H3 ⟨eh, hv⟩ => .inl ⟨eh, ?_⟩⟩
        rw [hv]
        show V.int (0 + (i : Int)) = V.int i
        rw [Int.zero_add], fun hl => by
      show n.toNat ≤ i
      simpa using hl⟩) ⟨rfl, ww⟩⟩⟩
theorem i_keys {WW : (Dct κ ν → Prop) → Prop} (ha : EvC Y s a WW) : ItC Y s tg a fun kk => WW fun m => kk (m.kvs.map (·.1)) := fun kk ww =>
  ⟨_, pi_keys pe_we, fun F0 σ H F R e0 S k => (ha _ ww F0 σ H F e0 S).mono fun v H' ⟨_, _, F', e1, rr, S', m, ea, es, ww⟩ => by
    subst ea es
    obtain ⟨q, od, zs, ev, hq, rv⟩ := rr
    exact ⟨q, od, ev, .inl ⟨zs, S'.ext _ _ hq, k _ _ F' _ _ e1 S' (fun i H2 F2 e2 e3 => ⟨fun x hx => by
      rw [List.getElem?_map] at hx
      cases z : m.kvs[i]? with
      | none => rw [z] at hx; cases hx
      | some y =>
        rw [z] at hx
        cases hx
        obtain ⟨w, hw, r1, r2⟩ := prd_get rv z
        refine ⟨⟨e3 _ _ (e2 _ _ hq), (List.getElem?_eq_some_iff.mp hw).1⟩, fun v H3 ⟨eh, k', v', hk, hv⟩ => .inl ⟨eh, ?_⟩⟩
        rw [hw] at hk
        cases hk
        rw [hv]
        have e := KkV.rep (K := Y.X.K) (F := F2) y.1
        rw [← r1] at e
        exact e, fun hl => ⟨e3 _ _ (e2 _ _ hq), by have := Paired.length rv; rw [List.length_map] at hl; omega⟩⟩) ⟨rfl, ww⟩⟩⟩⟩
end
end Sp
set_option maxHeartbeats 4000000
namespace Sp
open PySem L2
open PySem.W (Datum DatumOrd SomeDatum)
def EvTs (Y : DX) (s : DSt) (ifs : List Expr) (W : (Bool → Prop) → Prop) : Prop := ∀ k : Bool → Prop, W k → Ets Y s ifs fun b s' => s' = s ∧ k b
inductive Each {β α : Type} (P : β → α → Prop) : List β → List α → Prop
  | nil : Each P [] []
  | cons {x : β} {y : α} {xs : List β} {ys : List α} : P x y → Each P xs ys → Each P (x :: xs) (y :: ys)
theorem Each.snoc {β α : Type} {P : β → α → Prop} {xs : List β} {ys : List α} (h : Each P xs ys) {x : β} {y : α} (p : P x y) : Each P (xs ++ [x]) (ys ++ [y]) := by
  induction h with
  | nil => exact .cons p .nil
  | cons q _ ih => exact .cons q ih
theorem Each.len {β α : Type} {P : β → α → Prop} {xs : List β} {ys : List α} (h : Each P xs ys) : ys.length = xs.length := by
  induction h with
  | nil => rfl
  | cons q _ ih => simp [ih]
section
variable {Y : DX} {s : DSt} {tg iter elt : Expr} {ifs : List Expr} {pos spos py gpos p : Pos} {scope : Scope} {α β : Type} [Enc α] [Enc β] {W : (List β → Prop) → Prop} {D : DE} {k : Nat}
theorem ts_nil : EvTs Y s [] fun k => k true := fun k w => ets_nil ⟨rfl, w⟩
theorem ts_one {c : Expr} {V : (Bool → Prop) → Prop} (h : EvT Y s c V) : EvTs Y s [c] V := fun k w => ets_one (h k w)
theorem EvTs.pp {c : List Expr} {V : (Bool → Prop) → Prop} {x : Bool} (h : EvTs Y s c V) (w : V fun y => y = x) : Ets Y s c fun b s' => b = x ∧ s' = s := fun F0 σ H F e0 S => (h _ w F0 σ H F e0 S).mono fun b H' ⟨s', F', e1, S', q1, q2⟩ => ⟨s', F', e1, S', q2, q1⟩
variable {Wc : β → (Bool → Prop) → Prop} {We : β → (α → Prop) → Prop}
structure LcW (Y : DX) (s : DSt) (scope : Scope) (own : List (Str × Nat)) (t : TgD β) (tg iter elt : Expr) (ifs : List Expr) {α : Type} [Enc α] (W : (List α → Prop) → Prop) : Prop where
  bk : BlkOk Y.X.N Y.X.env.scope scope own
  tg0 : ∀ z, TgOk (blkY Y scope z) tg (t.g Y.X.K) t.ws t.f
  hs : ∀ x, foldedSetIterable iter Y.X.env x = pure x
  run : ∀ k, W k → ∃ G, EvItE (β := β) Y s tg iter G ∧ LcG Y scope (own.map (·.2)) tg elt ifs (t.g Y.X.K) t.ws t.f G fun (ys : List α) s' => s' = s ∧ k ys
theorem c_L {t : TgD β} {own : List (Str × Nat)} {W : (List α → Prop) → Prop} (ok : YOk Y) (h : LcW Y s scope own t tg iter elt ifs W) : EvC Y s (.ListComp elt [⟨tg, iter, ifs, 0⟩] scope pos) W := fun k w => by
  obtain ⟨G, hi, L⟩ := h.run k w
  refine ev_lcE (α := α) ok hi h.bk h.tg0 (fun items s' g => ?_) h.hs
  obtain ⟨Iv, L, h0, hQ⟩ := L items s' g
  exact ⟨Iv, L, h0, fun ys gs iv => ⟨ys, rfl, hQ ys gs iv⟩⟩
theorem w1_asgL {t : TgD β} {own : List (Str × Nat)} {W : (List α → Prop) → Prop} {y : Str} {i : Nat} {k : List α → Prop} (ok : YOk Y) (hy : Y.X.N[i]? = some y) (h : LcW Y s scope own t tg iter elt ifs W) (w : W k) (hQ : ∀ ys, k ys → D.nx ⟨s.ρ.set i (some (pu ys)), s.gs⟩)
    (hyl : Y.X.env.scope.names.lookup y = some .local := by rfl) (hsw : swapsWith (.ListComp elt [⟨tg, iter, ifs, 0⟩] scope pos) (some (.Name y py)) spos.line Y.X.env = pure true := by rfl) : W1 Y s (.Assign [.Name y py] (.ListComp elt [⟨tg, iter, ifs, 0⟩] scope pos) spos) D := fun F0 σ H F e0 S => by
  obtain ⟨G, ⟨wi, hp, hw⟩, L⟩ := h.run k w
  have P := ps_setLc (tt := fun σ H Q => ∀ z, WTs (blkX Y.X scope z) ifs σ H Q) (te := fun σ H Q => ∀ z, WE (blkX Y.X scope z) elt σ H Q) ok.calm ok.nd hy hyl hsw hp h.bk (fun s H C cl fp => (h.tg0 ⟨s, H, C, cl, fp⟩).1) (fun s H C cl fp => ⟨fun pins s' σ H' Q I h => (h ⟨s, H, C, cl, fp⟩).run pins s' I⟩) (fun s H C cl fp => ⟨fun pins s' σ H' Q I h => (h ⟨s, H, C, cl, fp⟩).run pins s' I⟩) h.hs
  refine WP.of P ?_
  show tLc wi (t.g Y.X.K) _ _ _ σ H (fun x H1 => gName i x σ H1 (D.to Y F0).nx)
  show wi σ H _
  refine hw F0 σ H F _ e0 S fun J H1 F1 items s' e1 S1 K1 q => ?_
  obtain ⟨Iv, L, h0, hQ2⟩ := L items s' q
  have t := tlc_ok (own := own) (wi := fun _ _ R => R J H1) (F0 := F1) (σ := σ) (H := H1) (Qf := fun x H1 => gName i x σ H1 (D.to Y F0).nx) (fun R k => k J H1 F1 (.refl _) S1 K1) L h0 fun D2 H' F' ys gs e2 S2 iv => by
    obtain ⟨hF, o, ho, hot, vs, ev, rv⟩ := S2.cell (i := 0) (p := D2) (c := lstc ys) rfl
    subst ev
    have S3 := S2.freeze (i := 0) (p := D2) (c := lstc ys) rfl ho
    obtain ⟨es, kk⟩ := hQ2 ys gs iv
    have hq := hQ ys kk
    refine ⟨⟨s'.ρ.set i (some (pu ys)), gs⟩, upd F' D2 (.lst vs), (e1.trans e2).trans (Ext.grow hF), S3.set (A := pu ys) ⟨D2, vs, rfl, .of upd_same, rv.mono (Ext.grow hF)⟩ i, ?_⟩
    rw [← es] at hq
    exact hq
  exact t
theorem lcg_quiet (t : TgD β) (own : List (Str × Nat)) (c : β → Bool) (h : β → α) (items : List β) (tg0 : ∀ z, TgOk (blkY Y scope z) tg (t.g Y.X.K) t.ws t.f) (small : items.length ≤ sizeLine)
    (ht : ∀ z x D ys, EvTs (blkY Y scope z) ⟨t.f x (wipeR s.ρ (own.map (·.2))), (D, lstc (α := α) ys) :: s.gs⟩ ifs (Wc x)) (he : ∀ z x D ys, EvC (blkY Y scope z) ⟨t.f x (wipeR s.ρ (own.map (·.2))), (D, lstc (α := α) ys) :: s.gs⟩ elt (We x))
    (hc : ∀ x ∈ items, Wc x fun b => b = c x) (hv : ∀ x ∈ items, c x = true → We x fun y => y = h x) (sub : ∀ j ∈ t.ws, j ∈ own.map (·.2)) :
    ∃ Iv : Nat → List α → Gs → Prop, LcTurns Y s scope (own.map (·.2)) tg elt ifs (t.g Y.X.K) t.ws t.f items Iv ∧ Iv 0 [] s.gs ∧ ∀ ys gs, Iv items.length ys gs → ys = (items.filter c).map h ∧ gs = s.gs :=
  ⟨_, lc_quiet c h tg0 sub small (fun z x D ys hx => (ht z x D ys).pp (hc x hx)) (fun z x D ys hx hcx => (he z x D ys).pp (hv x hx hcx)), ⟨by simp, rfl⟩, fun ys gs ⟨e1, e2⟩ => ⟨by rw [e1, List.take_length], e2⟩⟩
theorem l_lc (t : TgD β) (own : List (Str × Nat)) (c : β → Bool) (h : β → α) (ok : YOk Y) (hi : ItC Y s tg iter W) (bk : BlkOk Y.X.N Y.X.env.scope scope own) (tg0 : ∀ z, TgOk (blkY Y scope z) tg (t.g Y.X.K) t.ws t.f)
    (ht : ∀ z x D ys, EvTs (blkY Y scope z) ⟨t.f x (wipeR s.ρ (own.map (·.2))), (D, lstc (α := α) ys) :: s.gs⟩ ifs (Wc x)) (he : ∀ z x D ys, EvC (blkY Y scope z) ⟨t.f x (wipeR s.ρ (own.map (·.2))), (D, lstc (α := α) ys) :: s.gs⟩ elt (We x))
    (sub : ∀ j ∈ t.ws, j ∈ own.map (·.2) := by decide) (hs : ∀ x, foldedSetIterable iter Y.X.env x = pure x := by intro _; rfl) :
    LcW Y s scope own t tg iter elt ifs fun k => W fun items => items.length ≤ sizeLine ∧ (∀ x ∈ items, Wc x fun b => b = c x) ∧ (∀ x ∈ items, c x = true → We x fun y => y = h x) ∧ k ((items.filter c).map h) :=
  ⟨bk, tg0, hs, fun k w => ⟨_, hi _ w, fun items s' ⟨es, w1, w2, w3, w4⟩ => by
    subst es
    obtain ⟨Iv, L, h0, hQ⟩ := lcg_quiet (Y := Y) (s := s') t own c h items tg0 w1 ht he w2 w3 sub
    exact ⟨Iv, L, h0, fun ys gs iv => by obtain ⟨e1, e2⟩ := hQ ys gs iv; subst e1 e2; exact ⟨rfl, w4⟩⟩⟩⟩
theorem l_lc0 (t : TgD β) (own : List (Str × Nat)) (h : β → α) (ok : YOk Y) (hi : ItC Y s tg iter W) (bk : BlkOk Y.X.N Y.X.env.scope scope own) (tg0 : ∀ z, TgOk (blkY Y scope z) tg (t.g Y.X.K) t.ws t.f)
    (he : ∀ z x D ys, EvC (blkY Y scope z) ⟨t.f x (wipeR s.ρ (own.map (·.2))), (D, lstc (α := α) ys) :: s.gs⟩ elt (We x))
    (sub : ∀ j ∈ t.ws, j ∈ own.map (·.2) := by decide) (hs : ∀ x, foldedSetIterable iter Y.X.env x = pure x := by intro _; rfl) :
    LcW Y s scope own t tg iter elt [] fun k => W fun items => items.length ≤ sizeLine ∧ (∀ x ∈ items, We x fun y => y = h x) ∧ k (items.map h) :=
  ⟨bk, tg0, hs, fun k w => ⟨_, hi _ w, fun items s' ⟨es, w1, w3, w4⟩ => by
    subst es
    obtain ⟨Iv, L, h0, hQ⟩ := lcg_quiet (Y := Y) (s := s') (Wc := fun _ k => k true) t own (fun _ => true) h items tg0 w1 (fun _ _ _ _ => ts_nil) he (fun _ _ => rfl) (fun x hx _ => w3 x hx) sub
    exact ⟨Iv, L, h0, fun ys gs iv => by obtain ⟨e1, e2⟩ := hQ ys gs iv; rw [List.filter_eq_self.mpr (fun _ _ => rfl)] at e1; subst e1 e2; exact ⟨rfl, w4⟩⟩⟩⟩
theorem l_lcX (t : TgD β) (own : List (Str × Nat)) (ok : YOk Y) (hi : ItC Y s tg iter W) (bk : BlkOk Y.X.N Y.X.env.scope scope own) (tg0 : ∀ z, TgOk (blkY Y scope z) tg (t.g Y.X.K) t.ws t.f)
    (ht : ∀ z x D ys, EvTs (blkY Y scope z) ⟨t.f x (wipeR s.ρ (own.map (·.2))), (D, lstc (α := α) ys) :: s.gs⟩ ifs (Wc x)) (he : ∀ z x D ys, EvC (blkY Y scope z) ⟨t.f x (wipeR s.ρ (own.map (·.2))), (D, lstc (α := α) ys) :: s.gs⟩ elt (We x))
    (sub : ∀ j ∈ t.ws, j ∈ own.map (·.2) := by decide) (hs : ∀ x, foldedSetIterable iter Y.X.env x = pure x := by intro _; rfl) :
    LcW Y s scope own t tg iter elt ifs fun k => W fun items => items.length ≤ sizeLine ∧ ∃ (c : β → Bool) (h : β → α), (∀ x ∈ items, Wc x fun b => b = c x) ∧ (∀ x ∈ items, c x = true → We x fun y => y = h x) ∧ k ((items.filter c).map h) :=
  ⟨bk, tg0, hs, fun k w => ⟨_, hi _ w, fun items s' ⟨es, w1, c, h, w2, w3, w4⟩ => by
    subst es
    obtain ⟨Iv, L, h0, hQ⟩ := lcg_quiet (Y := Y) (s := s') t own c h items tg0 w1 ht he w2 w3 sub
    exact ⟨Iv, L, h0, fun ys gs iv => by obtain ⟨e1, e2⟩ := hQ ys gs iv; subst e1 e2; exact ⟨rfl, w4⟩⟩⟩⟩
theorem l_lcX0 (t : TgD β) (own : List (Str × Nat)) (ok : YOk Y) (hi : ItC Y s tg iter W) (bk : BlkOk Y.X.N Y.X.env.scope scope own) (tg0 : ∀ z, TgOk (blkY Y scope z) tg (t.g Y.X.K) t.ws t.f)
    (he : ∀ z x D ys, EvC (blkY Y scope z) ⟨t.f x (wipeR s.ρ (own.map (·.2))), (D, lstc (α := α) ys) :: s.gs⟩ elt (We x))
    (sub : ∀ j ∈ t.ws, j ∈ own.map (·.2) := by decide) (hs : ∀ x, foldedSetIterable iter Y.X.env x = pure x := by intro _; rfl) :
    LcW Y s scope own t tg iter elt [] fun k => W fun items => items.length ≤ sizeLine ∧ ∃ h : β → α, (∀ x ∈ items, We x fun y => y = h x) ∧ k (items.map h) :=
  ⟨bk, tg0, hs, fun k w => ⟨_, hi _ w, fun items s' ⟨es, w1, h, w3, w4⟩ => by
    subst es
    obtain ⟨Iv, L, h0, hQ⟩ := lcg_quiet (Y := Y) (s := s') (Wc := fun _ k => k true) t own (fun _ => true) h items tg0 w1 (fun _ _ _ _ => ts_nil) he (fun _ _ => rfl) (fun x hx _ => w3 x hx) sub
    exact ⟨Iv, L, h0, fun ys gs iv => by obtain ⟨e1, e2⟩ := hQ ys gs iv; rw [List.filter_eq_self.mpr (fun _ _ => rfl)] at e1; subst e1 e2; exact ⟨rfl, w4⟩⟩⟩⟩
theorem l_lcN (t : TgD β) (own : List (Str × Nat)) (ok : YOk Y) (hi : ItC Y s tg iter W) (bk : BlkOk Y.X.N Y.X.env.scope scope own) (tg0 : ∀ z, TgOk (blkY Y scope z) tg (t.g Y.X.K) t.ws t.f)
    (he : ∀ z x D ys, EvC (blkY Y scope z) ⟨t.f x (wipeR s.ρ (own.map (·.2))), (D, lstc (α := α) ys) :: s.gs⟩ elt (We x))
    (sub : ∀ j ∈ t.ws, j ∈ own.map (·.2) := by decide) (hs : ∀ x, foldedSetIterable iter Y.X.env x = pure x := by intro _; rfl) :
    LcW Y s scope own t tg iter elt [] fun k => W fun items => items.length ≤ sizeLine ∧ ∃ P : β → α → Prop, (∀ x ∈ items, We x (P x)) ∧ ∀ ys, Each P items ys → k ys :=
  ⟨bk, tg0, hs, fun k w => ⟨_, hi _ w, fun items s' ⟨es, w1, P, w3, w4⟩ => by
    subst es
    refine ⟨fun i ys gs => gs = s'.gs ∧ i ≤ items.length ∧ Each P (items.take i) ys, ⟨tg0, sub, fun i ys gs ⟨_, _, h⟩ hi => ?_, fun z i x ys gs D hx ⟨eg, hi, h⟩ => ?_⟩, ⟨rfl, Nat.zero_le _, .nil⟩, fun ys gs ⟨eg, _, h⟩ => ?_⟩
    · rw [h.len, List.length_take]
      omega
    · subst eg
      refine ets_nil ?_
      rw [if_pos rfl]
      intro z'
      have hm : x ∈ items := List.mem_of_getElem? hx
      refine (he z' x D ys).q (w3 x hm) fun y py => ⟨y, s'.gs, rfl, rfl, rfl, ?_, ?_⟩
      · exact (List.getElem?_eq_some_iff.mp hx).1
      · rw [List.take_add_one, hx]
        exact h.snoc py
    · subst eg
      rw [List.take_length] at h
      exact ⟨rfl, w4 ys h⟩⟩⟩
end
end Sp
set_option maxHeartbeats 4000000
namespace Sp
open PySem L2
open PySem.W (Datum DatumOrd SomeDatum)
inductive Ex
  | BadWord | BadRule | BadCount | NoSuch | NoWay | TooLarge | BadDeed
  | BadText (row : Int)
  | BadPaper (part : Int)
deriving DecidableEq
def exK (K : Frag) : Ex → Exc
  | .BadWord => ⟨He.ga K "BadWord", none⟩
  | .BadRule => ⟨He.ga K "BadRule", none⟩
  | .BadCount => ⟨He.ga K "BadCount", none⟩
  | .NoSuch => ⟨He.ga K "NoSuch", none⟩
  | .NoWay => ⟨He.ga K "NoWay", none⟩
  | .TooLarge => ⟨He.ga K "TooLarge", none⟩
  | .BadDeed => ⟨He.ga K "BadDeed", none⟩
  | .BadText r => ⟨He.ga K "BadText", some ("row", r)⟩
  | .BadPaper r => ⟨He.ga K "BadPaper", some ("part", r)⟩
def NoE : Ex → Prop := fun _ => False
def Cl {ρ : Type} (w : (ρ → Prop) → (Ex → Prop) → Prop) (k : ρ → Prop) (E : Ex → Prop) : Prop := ∃ (R0 : ρ → Prop) (E0 : Ex → Prop), w R0 E0 ∧ (∀ r, R0 r → k r) ∧ ∀ e, E0 e → E e
structure YE (Y : DX) (G0 : Gs → Prop) (E : Ex → Prop) : Prop where
  ok : YOk Y
  ex : ∀ e s', (∃ n, G0 (s'.gs.drop n)) → E e → Y.ex (exK Y.X.K e) s'
theorem YE.blk {Y : DX} {G0 : Gs → Prop} {E : Ex → Prop} {scope : Scope} {z : BCx} (h : YE Y G0 E) : YE (blkY Y scope z) (fun _ => True) NoE := ⟨h.ok.blk, fun _ _ _ h => h.elim⟩
theorem YE.gen {Y : DX} {k : Nat} {scope : Scope} {z : GCx} (o : YOk (genY Y k scope z)) : YE (genY Y k scope z) (fun _ => True) NoE := ⟨o, fun _ _ _ h => h.elim⟩
def spF {τ ρ : Type} [Ags τ] [Enc ρ] (K : Frag) (w : τ → (ρ → Prop) → (Ex → Prop) → Prop) : DSp := fun As gs R E => ∃ t, As = Ags.pvs t ∧ gs = [] ∧ ∃ R0 E0, w t R0 E0 ∧ (∀ r, R0 r → R (pu r) []) ∧ ∀ e, E0 e → E (exK K e) []
theorem spF_mono {τ ρ : Type} [Ags τ] [Enc ρ] {K : Frag} {w : τ → (ρ → Prop) → (Ex → Prop) → Prop} : DMono (spF K w) := fun As gs R R' E E' h1 h2 ⟨t, e1, e2, R0, E0, hw, hr, he⟩ => ⟨t, e1, e2, R0, E0, hw, fun r q => h1 _ _ (hr r q), fun e q => h2 _ _ (he e q)⟩
def ClD {ρ : Type} (w : (ρ → Prop) → (Ex → Prop) → Prop) (k : ρ → Prop) : Prop := ∃ R0 : ρ → Prop, w R0 NoE ∧ ∀ r, R0 r → k r
def spD {τ ρ : Type} [Ags τ] [Enc ρ] (w : τ → (ρ → Prop) → (Ex → Prop) → Prop) : DSp := fun As gs R E => ∃ q t, As = raw (.ref q) :: Ags.pvs t ∧ gs = [(q, dicec)] ∧ ClD (w t) fun r => R (pu r) [(q, dicec)]
theorem spD_mono {τ ρ : Type} [Ags τ] [Enc ρ] {w : τ → (ρ → Prop) → (Ex → Prop) → Prop} : DMono (spD w) := fun As gs R R' E E' h1 h2 ⟨q, t, e1, e2, R0, hw, hr⟩ => ⟨q, t, e1, e2, R0, hw, fun r q => h1 _ _ (hr r q)⟩
class Ob (α : Type) where
  cls : Str
  flds : α → Flds
@[reducible] def obEnc {α : Type} (o : Ob α) : Enc α := ⟨fun K F v m => (insP (He.ga K o.cls) (o.flds m)).rep K F v, fun {K F F' v a} h e => Pv.mono _ h e⟩
def spI {τ ρ : Type} [Ags τ] [o : Ob ρ] (K : Frag) (w : τ → (ρ → Prop) → (Ex → Prop) → Prop) : DSp := fun As gs R E => ∃ q t, As = raw (.ref q) :: Ags.pvs t ∧ gs = [(q, insc (He.ga K o.cls) [])] ∧ ∃ R0 E0, w t R0 E0 ∧ (∀ r, R0 r → R (pu ()) [(q, insc (He.ga K o.cls) (o.flds r))]) ∧ ∀ e, E0 e → ∀ fs, E (exK K e) [(q, insc (He.ga K o.cls) fs)]
theorem spI_mono {τ ρ : Type} [Ags τ] [Ob ρ] {K : Frag} {w : τ → (ρ → Prop) → (Ex → Prop) → Prop} : DMono (spI K w) := fun As gs R R' E E' h1 h2 ⟨q, t, e1, e2, R0, E0, hw, hr, he⟩ => ⟨q, t, e1, e2, R0, E0, hw, fun r q => h1 _ _ (hr r q), fun e q fs => h2 _ _ (he e q fs)⟩
section
variable {Y : DX} {s : DSt} {e a b c o tg iter elt : Expr} {es ifs : List Expr} {pos p apos lpos gpos : Pos} {τ ρ α β : Type} [Ags τ] [Enc ρ] [Enc α] [Enc β] {G0 : Gs → Prop} {E : Ex → Prop} {V : (τ → Prop) → Prop} {w : τ → (ρ → Prop) → (Ex → Prop) → Prop} {ps : List Str} {j : Nat}
theorem c_call {x : Str} (n : Nat) (ye : YE Y G0 E) (G : Df Y.X.prog Y.X.w Y.X.K Y.X.mg Y.X.base Y.T j x ps (spF Y.X.K w)) (hj : j ≤ Y.k) (hg : Gl Y.X x) (h : EvA Y s (e :: es) V) (hl : ∀ t : τ, (Ags.pvs t).length = ps.length) (hn : G0 (s.gs.drop n))
    (hdb : (x == ("__debug__" : Str)) = false := by decide) (he : starEach (e :: es) Y.X.env = (false, eval e Y.X.env) :: starEach es Y.X.env := by exact star_c rfl) (hpl : (backTo pos (starEach es Y.X.env)).any (·.1) = false := by exact star_any rfl) : EvC Y s (.Call (.Name x p) (e :: es) [] pos) fun k => V fun t => Cl (w t) k E := fun k ww =>
  ev_call G ye.ok hj hg ((h _ ww).mono fun As s1 ⟨t, ea, es, R0, E0, w0, hr, hE⟩ => by
    subst es
    exact ⟨by rw [ea]; exact hl t, [], s1.gs, .refl _, t, ea, rfl, R0, E0, w0, fun r q => ⟨r, rfl, rfl, hr r q⟩, fun e q => ye.ex e _ ⟨n, hn⟩ (hE e q)⟩) hdb he hpl
theorem c_call0 {x : Str} {w : Unit → (ρ → Prop) → (Ex → Prop) → Prop} (n : Nat) (ye : YE Y G0 E) (G : Df Y.X.prog Y.X.w Y.X.K Y.X.mg Y.X.base Y.T j x ps (spF Y.X.K w)) (hj : j ≤ Y.k) (hg : Gl Y.X x) (hl : ps.length = 0) (hn : G0 (s.gs.drop n))
    (hdb : (x == ("__debug__" : Str)) = false := by decide) : EvC Y s (.Call (.Name x p) [] [] pos) fun k => Cl (w ()) k E := fun k ⟨R0, E0, w0, hr, hE⟩ =>
  ev_call0 G ye.ok hj hg ⟨hl, [], s.gs, .refl _, (), rfl, rfl, R0, E0, w0, fun r q => ⟨r, rfl, rfl, hr r q⟩, fun e q => ye.ex e _ ⟨n, hn⟩ (hE e q)⟩ hdb
theorem perm_front {α : Type} : ∀ {l : List α} {i : Nat} {x : α}, l[i]? = some x → l.Perm ([x] ++ l.eraseIdx i)
  | [], i, x, h => by simp at h
  | y :: l, 0, x, h => by simp at h; subst h; exact .refl _
  | y :: l, i + 1, x, h => by
    have ih := perm_front (l := l) (i := i) (x := x) (by simpa using h)
    rw [List.eraseIdx_cons_succ]
    exact (ih.cons y).trans (.swap _ _ _)
theorem c_callD {x y : Str} {q : Addr} {py : Pos} (i g : Nat) (ok : YOk Y) (G : Df Y.X.prog Y.X.w Y.X.K Y.X.mg Y.X.base Y.T j x ps (spD w)) (hj : j ≤ Y.k) (hg : Gl Y.X x) (h : EvA Y s es V) (hN : Y.X.N[i]? = some y) (hρ : s.ρ[i]? = some (some (raw (.ref q)))) (hd : s.gs[g]? = some (q, dicec)) (hl : ∀ t : τ, (Ags.pvs t).length + 1 = ps.length)
    (hv : Vis Y.X.env.scope y := by first | exact .inl rfl | exact .inr (.inl rfl) | exact .inr (.inr rfl)) (hd1 : (y == ("__debug__" : Str)) = false := by decide) (hcd : (y == ("__classdict__" : Str)) = false := by decide)
    (hdb : (x == ("__debug__" : Str)) = false := by decide) (he : starEach (.Name y py :: es) Y.X.env = (false, eval (.Name y py) Y.X.env) :: starEach es Y.X.env := by exact star_c rfl) (hpl : (backTo pos (starEach es Y.X.env)).any (·.1) = false := by exact star_any rfl) : EvC Y s (.Call (.Name x p) (.Name y py :: es) [] pos) fun k => V fun t => ClD (w t) k := fun k ww =>
  ev_perm (ev_call G ok hj hg (evs_cons (.of (evp_v i hN hρ hv hd1 hcd) ((h _ ww).mono fun As s1 ⟨t, ea, es, R0, w0, hr⟩ => by
    subst es
    exact ⟨by rw [ea, List.length_cons]; exact hl t, _, _, perm_front hd, q, t, by rw [ea], rfl, R0, w0, fun r qq => ⟨_, (perm_front hd).symm, r, rfl, rfl, hr r qq⟩⟩)) he) hdb he hpl)
theorem ev_as {Q : Pv → DSt → Prop} (h : Ev Y s e fun A s' => ∃ B, (∀ F v, A.rep Y.X.K F v → B.rep Y.X.K F v) ∧ Q B s') : Ev Y s e Q := fun F0 σ H F e0 S => (h F0 σ H F e0 S).mono fun v H' ⟨A, s', F', e1, r, S', B, hb, q⟩ => ⟨B, s', F', e1, hb _ _ r, S', q⟩
section
variable {γ : Type} [og : Ob γ] [eg : Enc γ]
class ObOk (γ : Type) [Ob γ] [Enc γ] : Prop where
  eq : ∀ {K F v} {m : γ}, Enc.rep K F v m ↔ (insP (He.ga K (Ob.cls γ)) (Ob.flds m)).rep K F v
theorem ia_ob [ObOk γ] {m : γ} : IA Y s (pu m) (He.ga Y.X.K (Ob.cls γ)) (Ob.flds m) := fun σ H F v S r => IA.pu σ H F v S (ObOk.eq.mp r)
theorem c_fld [ObOk γ] {f : Str} {W : (γ → Prop) → Prop} (get : γ → α) (c : Cls Y.X.K (He.ga Y.X.K (Ob.cls γ))) (nn : NoAttr Y.X.K (He.ga Y.X.K (Ob.cls γ)) f) (ho : EvC Y s o W) (l : ∀ m : γ, (Ob.flds m).lookup f = some (pu (get m)) := by intro _; rfl) (hb : attributeBase o f Y.X.env (eval o Y.X.env) = eval o Y.X.env := by exact ab_ok rfl) : EvC Y s (.Attribute o f pos) fun k => W fun m => k (get m) := fun k w F0 σ H F e0 S => by
  refine .of (pe_fld pe_we hb) ((ho _ w F0 σ H F e0 S).mono fun v H1 ⟨_, _, F1, e1, r1, S1, m, ea, es, ww⟩ => ?_)
  subst ea es
  obtain ⟨a, dx, vs, ev, ha, rf⟩ := ia_ob σ H1 F1 v S1 r1
  obtain ⟨u, l2, ru⟩ := fr_look rf (l m)
  exact ⟨a, _, dx, vs, u, ev, ha, c, nn, l2, _, _, F1, e1, ru, S1, _, rfl, rfl, ww⟩
theorem c_meth [ObOk γ] {m : Str} {Wo : (γ → Prop) → Prop} {w : γ × τ → (ρ → Prop) → (Ex → Prop) → Prop} {pl : Sem Bool} (n : Nat) (ye : YE Y G0 E) (G : Mt Y.X.prog Y.X.w Y.X.K Y.X.mg Y.X.base Y.T j (He.ga Y.X.K (Ob.cls γ)) m ps (spF Y.X.K w)) (c : Cls Y.X.K (He.ga Y.X.K (Ob.cls γ))) (hj : j ≤ Y.k) (ho : EvC Y s o Wo) (h : EvA Y s (e :: es) V) (hl : ∀ t : τ, (Ags.pvs t).length + 1 = ps.length) (hn : G0 (s.gs.drop n))
    (hf : ∀ x : γ, (Ob.flds x).lookup m = none := by intro _; rfl) (hst : starEach (e :: es) Y.X.env = (false, eval e Y.X.env) :: starEach es Y.X.env := by exact star_c rfl) (hpl : (backTo pos (starEach es Y.X.env)).any (·.1) = false := by exact star_any rfl)
    (ht : eval (.Call (.Attribute o m apos) (e :: es) [] pos) Y.X.env = (do
      let ov ← eval o Y.X.env
      standAt apos.atName
      let (f, first) ← holding [ov] (getMethod ov m pl)
      callWith pos f first (backTo pos (starEach (e :: es) Y.X.env)) (backToKw pos (keywordEach [] Y.X.env))) := by rfl) : EvC Y s (.Call (.Attribute o m apos) (e :: es) [] pos) fun k => Wo fun x => V fun t => Cl (w (x, t)) k E := fun k ww F0 σ H F e0 S => by
  obtain ⟨⟨f, fd, F1, hm, hb⟩, mono⟩ := G
  refine .of (pe_methS (E := L2.WE (wxOf Y)) pe_we c hm F1 (ye.ok.room.mono hj) hb (fun σ => passAt ye.ok.tk σ) pa_wa hst hpl ht) ?_
  refine (ho _ ww F σ H F (.refl _) S).mono fun v H1 ⟨_, _, F1, e1, r1, S1, x, ea, es, ww⟩ => ?_
  subst ea es
  obtain ⟨a, dx, vs, ev, ha, rf⟩ := ia_ob σ H1 F1 v S1 r1
  refine ⟨a, dx, vs, ev, ha, fr_no rf (hf x), ?_⟩
  refine (h _ ww F1 σ H1 F1 (.refl _) S1).mono fun us H2 ⟨_, _, F2, e2, r2, S2, t, ea, es, R0, E0, w0, hr, hE⟩ => ?_
  subst ea es
  refine sp_call (gs1 := []) ((e0.trans e1).trans e2) S2 (.cons ((pu x).mono r1 e2) r2) (by rw [List.length_cons]; exact hl t) (.refl _) ?_ (mono _ _)
  exact ⟨(x, t), rfl, rfl, R0, E0, w0, fun r q => ⟨r, rfl, rfl, hr r q⟩, fun e q => ye.ex e _ ⟨n, hn⟩ (hE e q)⟩
theorem c_meth0 [ObOk γ] {m : Str} {Wo : (γ → Prop) → Prop} {w : γ × Unit → (ρ → Prop) → (Ex → Prop) → Prop} {pl : Sem Bool} (n : Nat) (ye : YE Y G0 E) (G : Mt Y.X.prog Y.X.w Y.X.K Y.X.mg Y.X.base Y.T j (He.ga Y.X.K (Ob.cls γ)) m ps (spF Y.X.K w)) (c : Cls Y.X.K (He.ga Y.X.K (Ob.cls γ))) (hj : j ≤ Y.k) (ho : EvC Y s o Wo) (hl : 1 = ps.length) (hn : G0 (s.gs.drop n))
    (hf : ∀ x : γ, (Ob.flds x).lookup m = none := by intro _; rfl)
    (ht : eval (.Call (.Attribute o m apos) [] [] pos) Y.X.env = (do
      let ov ← eval o Y.X.env
      standAt apos.atName
      let (f, first) ← holding [ov] (getMethod ov m pl)
      callWith pos f first (backTo pos (starEach [] Y.X.env)) (backToKw pos (keywordEach [] Y.X.env))) := by rfl) : EvC Y s (.Call (.Attribute o m apos) [] [] pos) fun k => Wo fun x => Cl (w (x, ())) k E := fun k ww F0 σ H F e0 S => by
  obtain ⟨⟨f, fd, F1, hm, hb⟩, mono⟩ := G
  refine .of (pe_methS0 (E := L2.WE (wxOf Y)) pe_we c hm F1 (ye.ok.room.mono hj) hb (fun σ => passAt ye.ok.tk σ) ht) ?_
  refine (ho _ ww F σ H F (.refl _) S).mono fun v H1 ⟨_, _, F1, e1, r1, S1, x, ea, es, R0, E0, w0, hr, hE⟩ => ?_
  subst ea es
  obtain ⟨a, dx, vs, ev, ha, rf⟩ := ia_ob σ H1 F1 v S1 r1
  refine ⟨a, dx, vs, ev, ha, fr_no rf (hf x), sp_call (gs1 := []) (e0.trans e1) S1 (.cons r1 .nil) hl (.refl _) ?_ (mono _ _)⟩
  exact ⟨(x, ()), rfl, rfl, R0, E0, w0, fun r q => ⟨r, rfl, rfl, hr r q⟩, fun e q => ye.ex e _ ⟨n, hn⟩ (hE e q)⟩
theorem ev_makeE {x : Str} {C : Addr} {Q : Pv → DSt → Prop} {dd : DSp} (G : Mkr Y.X.prog Y.X.w Y.X.K Y.X.mg Y.X.base Y.T j x C ps dd) (ok : YOk Y) (hj : j + 1 ≤ Y.k) (hg : Gl Y.X x)
    (h : Evs Y s (e :: es) fun As s1 => As.length + 1 = ps.length ∧ ∀ q, ∃ gs1 gs2, s1.gs.Perm (gs1 ++ gs2) ∧ dd (raw (.ref q) :: As) ((q, insc C []) :: gs1)
      (fun A gs' => A = pu () ∧ ∃ fs gs3, gs' = (q, insc C fs) :: gs3 ∧ Q (insP C fs) ⟨s1.ρ, gs3 ++ gs2⟩) (fun e gs' => Y.ex e ⟨s1.ρ, gs' ++ gs2⟩))
    (hdb : (x == ("__debug__" : Str)) = false := by decide) (he : starEach (e :: es) Y.X.env = (false, eval e Y.X.env) :: starEach es Y.X.env := by exact star_c rfl) (hpl : (backTo pos (starEach es Y.X.env)).any (·.1) = false := by exact star_any rfl) : Ev Y s (.Call (.Name x p) (e :: es) [] pos) Q := fun F0 σ H F e0 S => by
  obtain ⟨⟨f, fd, F1, M, hb⟩, hm, mono⟩ := G
  refine .of (pe_makeS (E := L2.WE (wxOf Y)) M F1 (ok.room.mono hj) hg hm hb (fun σ => passAt ok.tk σ) pa_wa hdb he hpl) ?_
  refine (h F0 σ H F e0 S).mono fun us H1 ⟨As, s1, F1, e1, r1, S1, hl, k⟩ => ?_
  intro q dx hq hdx hne
  obtain ⟨gs1, gs2, hp, hd⟩ := k q
  have S2 := S1.newF (o := .own q) hdx rfl
  have hq2 : (upd H1 dx (.own q)) q = none := by rw [upd_ne (Ne.symm hne)]; exact hq
  have S3 := S2.newO (o := .ins C dx []) (c := insc C []) hq2 rfl ⟨dx, [], rfl, .nil⟩
  have hp3 : ((q, insc C []) :: s1.gs).Perm (((q, insc C []) :: gs1) ++ gs2) := hp.cons _
  have e2 : Ext F1 (upd F1 dx (.own q)) := Ext.grow (S1.free hdx)
  have sp := sp_call (Q := fun A s' => A = pu () ∧ ∃ fs gs3, s'.gs = (q, insc C fs) :: gs3 ∧ s'.ρ = s1.ρ ∧ Q (insP C fs) ⟨s1.ρ, gs3⟩) (As := raw (.ref q) :: As) (n := ps.length) (d := dd) (F0 := F0) (e1.trans e2) S3 (.cons rfl (r1.mono e2)) (by rw [List.length_cons]; exact hl) hp3
    (mono _ _ _ _ _ _ (fun A g ⟨ea, fs, gs3, eg, q2⟩ => ⟨ea, fs, gs3 ++ gs2, by rw [eg]; rfl, rfl, q2⟩) (fun e g q2 => q2) hd) (mono _ _)
  obtain ⟨hlen, As', gs', F', rr, G', d'⟩ := sp
  refine ⟨hlen, As', gs', F', rr, G', mono _ _ _ _ _ _ (fun A g q3 v H' F'' ra G2 st => ?_) (fun e g q3 => q3) d'⟩
  obtain ⟨B, s4, F4, e4, r4, S4, eb, fs, gs3, eg, eρ, q4⟩ := q3 v H' F'' ra G2 st
  have hc : s4.gs[0]? = some (q, insc C fs) := by rw [eg]; rfl
  obtain ⟨hF, oo, hoo, _, dx2, vs, eo, rv⟩ := S4.cell hc
  subst eo
  have S5 := S4.freeze hc hoo
  have eg5 : s4.gs.eraseIdx 0 = gs3 := by rw [eg]; rfl
  rw [eg5, eρ] at S5
  subst eb
  exact ⟨r4, insP C fs, _, _, e4.trans (Ext.grow hF), ⟨q, dx2, vs, rfl, upd_same, rv.mono (Ext.grow hF)⟩, S5, q4⟩
theorem c_make [ObOk γ] {x : Str} {w : τ → (γ → Prop) → (Ex → Prop) → Prop} (n : Nat) (ye : YE Y G0 E) (G : Mkr Y.X.prog Y.X.w Y.X.K Y.X.mg Y.X.base Y.T j x (He.ga Y.X.K (Ob.cls γ)) ps (spI Y.X.K w)) (hj : j + 1 ≤ Y.k) (hg : Gl Y.X x) (h : EvA Y s (e :: es) V) (hl : ∀ t : τ, (Ags.pvs t).length + 1 = ps.length) (hn : G0 (s.gs.drop n))
    (hdb : (x == ("__debug__" : Str)) = false := by decide) (he : starEach (e :: es) Y.X.env = (false, eval e Y.X.env) :: starEach es Y.X.env := by exact star_c rfl) (hpl : (backTo pos (starEach es Y.X.env)).any (·.1) = false := by exact star_any rfl) : EvC Y s (.Call (.Name x p) (e :: es) [] pos) fun k => V fun t => Cl (w t) k E := fun k ww =>
  ev_as (ev_makeE G ye.ok hj hg ((h _ ww).mono fun As s1 ⟨t, ea, es, R0, E0, w0, hr, hE⟩ => by
    subst ea es
    refine ⟨hl t, fun q => ⟨[], _, .refl _, q, t, rfl, rfl, R0, E0, w0, fun r qq => ⟨rfl, _, [], rfl, pu r, fun F v h => ObOk.eq.mpr h, r, rfl, rfl, hr r qq⟩, fun e qq fs => ye.ex e _ ⟨n + 1, ?_⟩ (hE e qq)⟩⟩
    exact hn) hdb he hpl)
end
end
end Sp
set_option maxHeartbeats 4000000
namespace Sp
open PySem L2
open PySem.W (Datum DatumOrd SomeDatum)
section
variable {Y : DX} {s : DSt} {e a b c o tg iter elt body : Expr} {es ifs : List Expr} {pos p apos lpos gpos : Pos} {α β : Type} [Enc α] [Enc β] {G0 : Gs → Prop} {E : Ex → Prop} {k : Nat} {scope : Scope}
theorem Sta.dropN {σ : St} {H F : Hp} : ∀ (n : Nat) {s : DSt}, Sta Y s σ H F → Sta Y ⟨s.ρ, s.gs.drop n⟩ σ H F
  | 0, s, S => S
  | n + 1, s, S => by
    have S1 := S.drop 0
    rw [List.eraseIdx_zero] at S1
    have S2 := Sta.dropN n S1
    rw [show s.gs.drop (n + 1) = s.gs.tail.drop n by rw [← List.drop_one, List.drop_drop, Nat.add_comm]]
    exact S2
theorem ev_dropN {Q : Pv → DSt → Prop} (h : Ev Y s e fun A s' => ∃ n, Q A ⟨s'.ρ, s'.gs.drop n⟩) : Ev Y s e Q := fun F0 σ H F e0 S => (h F0 σ H F e0 S).mono fun v H1 ⟨A, s1, F1, e1, r1, S1, n, q⟩ => ⟨A, _, F1, e1, r1, S1.dropN n, q⟩
structure LZ where
  A : Around
  outer : List Env
  s1 : Shared
  Hc : Hp
  E : XK
  f : Addr
  c' : Addr
  H : Hp
  F : Hp
  ex : Exc → DSt → Prop
abbrev lzY (Y : DX) (k : Nat) (scope : Scope) (gs : Gs) (z : LZ) : DX := lamY Y k z.A z.outer z.s1 z.Hc z.E scope z.f z.c' z.H z.F gs z.ex
theorem c_told {x : Str} {l : Cls_} {params : Arguments} {We : (Ex → Prop) → (α → Prop) → Prop} (k : Nat) (inj : α → β) (tin : Txt → β) (tl : Ex → Option Txt) (G : Told Y.X x l) (htl : ∀ e t, tl e = some t → Tell Y.X.K l (exK Y.X.K e).C t) (tb : Tbl Y.X Y.T (.plain (Y.X.env.qual ++ "<lambda>"))) (ok : YOk Y) (hk : k + 2 ≤ Y.k) (hg : Gl Y.X x) (L : LamX.LamS Y.X.env.scope scope)
    (hi : ∀ K F v (m : α), Enc.rep K F v m → Enc.rep K F v (inj m)) (ht : ∀ K F v (m : Txt), Enc.rep K F v m → Enc.rep K F v (tin m))
    (h : ∀ (z : LZ) (E : Ex → Prop), YE (lzY Y k scope s.gs z) (fun gs => gs = s.gs) E → EvC (lzY Y k scope s.gs z) s body (We E))
    (hdef : defaultsOf params Y.X.env = ([], []) := by rfl) (hbind : ∀ (q : Str) (cl : List (Str × Addr)) (pm cv ctv : Value), bindArgs (PySem.W.kla_fn "<lambda>" q params body scope cl pm cv ctv) ⟨[], []⟩ = pure [] := by intros; rfl)
    (hdb : (x == ("__debug__" : Str)) = false := by decide) : EvC Y s (.Call (.Name x p) [.Lambda params body scope lpos] [] pos) fun kk => We (fun e => ∃ t, tl e = some t ∧ kk (tin t)) fun r => kk (inj r) := fun kk w =>
  ev_as (ev_dropN (ev_told G tb ok hk hg L (fun A outer s1 Hc E0 f c' H F => by
    intro Y' ok'
    refine (h ⟨A, outer, s1, Hc, E0, f, c', H, F, _⟩ _ ⟨ok', fun e s' ⟨n, hn⟩ he => ?_⟩).q w fun r hr => ?_
    · obtain ⟨t, h1, h2⟩ := he
      exact ⟨t, htl e t h1, n, pu (tin t), fun F v r => ht _ _ _ _ r, tin t, rfl, by rw [hn], h2⟩
    · exact ⟨0, pu (inj r), fun F v q => hi _ _ _ _ q, inj r, rfl, rfl, hr⟩) hdef hbind hdb))
theorem ItC.pp {W : (List β → Prop) → Prop} {items : List β} (h : ItC Y s tg iter W) (w : W fun is => is = items) : EvIt Y s tg iter items := by
  obtain ⟨wi, h1, h2⟩ := h _ w
  exact ⟨wi, h1, fun F0 σ H F R e0 S k => h2 F0 σ H F R e0 S fun J H' F' is s' e1 S1 K1 ⟨g1, g2⟩ => by subst g1 g2; exact k J H' F' e1 S1 K1⟩
section
variable {W : (List β → Prop) → Prop} {Wc : β → (Bool → Prop) → Prop}
theorem gturns {γ : Type} [Enc γ] {We : β → (γ → Prop) → Prop} (t : TgD β) (k : Nat) (vs : List Nat) (items : List β) (c : β → Bool) (h : β → γ) (tg0 : ∀ z, TgOk (genY Y k scope z) tg (t.g Y.X.K) t.ws t.f)
    (ht : ∀ z, YOk (genY Y k scope z) → ∀ x, EvTs (genY Y k scope z) ⟨t.f x (wipeR s.ρ vs), s.gs⟩ ifs (Wc x)) (he : ∀ z, YOk (genY Y k scope z) → ∀ x, EvC (genY Y k scope z) ⟨t.f x (wipeR s.ρ vs), s.gs⟩ elt (We x))
    (hc : ∀ x ∈ items, Wc x fun b => b = c x) (hv : ∀ x ∈ items, c x = true → We x fun y => y = h x) (sub : ∀ j ∈ t.ws, j ∈ vs) : GTurns Y k s scope noOw vs tg elt ifs (t.g Y.X.K) t.ws t.f items c h :=
  ⟨tg0, sub, fun z o x hx => (ht z o x).pp (hc x hx), fun z o x hx hcx => (he z o x).pp (hv x hx hcx)⟩
theorem c_any {We : β → (Bool → Prop) → Prop} (t : TgD β) (k : Nat) (vs : List Nat) (items : List β) (c h : β → Bool) (ok : YOk Y) (B : Bis Y.X.mg) (hg : Gl Y.X "any") (hk : k + 2 ≤ Y.k) (hi : ItC Y s tg iter W) (G : GenOk Y.X.N Y.X.env.scope scope vs) (tb : TbG Y.X Y.T (Y.X.env.qual ++ "<genexpr>") gpos noOw) (tg0 : ∀ z, TgOk (genY Y k scope z) tg (t.g Y.X.K) t.ws t.f)
    (ht : ∀ z, YOk (genY Y k scope z) → ∀ x, EvTs (genY Y k scope z) ⟨t.f x (wipeR s.ρ vs), s.gs⟩ ifs (Wc x)) (he : ∀ z, YOk (genY Y k scope z) → ∀ x, EvC (genY Y k scope z) ⟨t.f x (wipeR s.ρ vs), s.gs⟩ elt (We x)) (sub : ∀ j ∈ t.ws, j ∈ vs := by decide) (hs : ∀ x, genFold iter Y.X.env x = pure x := by intro _; rfl)
    (hst : starEach [.GeneratorExp elt [⟨tg, iter, ifs, 0⟩] scope gpos] Y.X.env = (false, eval (.GeneratorExp elt [⟨tg, iter, ifs, 0⟩] scope gpos) Y.X.env) :: starEach [] Y.X.env := by exact star_c rfl) :
    EvC Y s (.Call (.Name "any" p) [.GeneratorExp elt [⟨tg, iter, ifs, 0⟩] scope gpos] [] pos) fun kk => (W fun is => is = items) ∧ (∀ x ∈ items, Wc x fun b => b = c x) ∧ (∀ x ∈ items, c x = true → We x fun y => y = h x) ∧ kk ((items.filter c).any h) := fun kk ⟨w1, w2, w3, w4⟩ =>
  .of ((evp_any ok B hg hk (hi.pp w1) G tb (gturns t k vs items c h tg0 ht he w2 w3 sub) hs hst).to (by rw [List.any_map]; rfl)) ⟨_, rfl, rfl, w4⟩
theorem c_all {We : β → (Bool → Prop) → Prop} (t : TgD β) (k : Nat) (vs : List Nat) (items : List β) (c h : β → Bool) (ok : YOk Y) (B : Bis Y.X.mg) (hg : Gl Y.X "all") (hk : k + 2 ≤ Y.k) (hi : ItC Y s tg iter W) (G : GenOk Y.X.N Y.X.env.scope scope vs) (tb : TbG Y.X Y.T (Y.X.env.qual ++ "<genexpr>") gpos noOw) (tg0 : ∀ z, TgOk (genY Y k scope z) tg (t.g Y.X.K) t.ws t.f)
    (ht : ∀ z, YOk (genY Y k scope z) → ∀ x, EvTs (genY Y k scope z) ⟨t.f x (wipeR s.ρ vs), s.gs⟩ ifs (Wc x)) (he : ∀ z, YOk (genY Y k scope z) → ∀ x, EvC (genY Y k scope z) ⟨t.f x (wipeR s.ρ vs), s.gs⟩ elt (We x)) (sub : ∀ j ∈ t.ws, j ∈ vs := by decide) (hs : ∀ x, genFold iter Y.X.env x = pure x := by intro _; rfl)
    (hst : starEach [.GeneratorExp elt [⟨tg, iter, ifs, 0⟩] scope gpos] Y.X.env = (false, eval (.GeneratorExp elt [⟨tg, iter, ifs, 0⟩] scope gpos) Y.X.env) :: starEach [] Y.X.env := by exact star_c rfl) :
    EvC Y s (.Call (.Name "all" p) [.GeneratorExp elt [⟨tg, iter, ifs, 0⟩] scope gpos] [] pos) fun kk => (W fun is => is = items) ∧ (∀ x ∈ items, Wc x fun b => b = c x) ∧ (∀ x ∈ items, c x = true → We x fun y => y = h x) ∧ kk ((items.filter c).all h) := fun kk ⟨w1, w2, w3, w4⟩ =>
  .of ((evp_all ok B hg hk (hi.pp w1) G tb (gturns t k vs items c h tg0 ht he w2 w3 sub) hs hst).to (by rw [List.all_map]; rfl)) ⟨_, rfl, rfl, w4⟩
end
end
end Sp
set_option maxHeartbeats 4000000
namespace Sp
open PySem L2
open PySem.W (Datum DatumOrd SomeDatum)
def EvN (Y : DX) (s : DSt) (e : Expr) {α : Type} [Enc α] (W : (List α → Prop) → Prop) : Prop := ∀ k : List α → Prop, W k → Ev Y s e fun A s' => ∃ p xs, A = raw (.ref p) ∧ s' = ⟨s.ρ, (p, lstc xs) :: s.gs⟩ ∧ k xs
def EvM (Y : DX) (s : DSt) (e : Expr) {κ ν : Type} [Kk κ] [Enc ν] (W : (List (κ × ν) → Prop) → Prop) : Prop := ∀ k : List (κ × ν) → Prop, W k → Ev Y s e fun A s' => ∃ p m, A = raw (.ref p) ∧ s' = ⟨s.ρ, (p, dctc m) :: s.gs⟩ ∧ k m
def forW {β Z : Type} (items : List β) (z0 : Z) (body : β → Z → (Z → Prop) → Prop) (rest : Z → Prop) : Prop :=
  ∃ Iv : Nat → Z → Prop, Iv 0 z0 ∧ (∀ i x z, items[i]? = some x → Iv i z → body x z (Iv (i + 1))) ∧ ∀ z, Iv items.length z → rest z
def whileW {Z : Type} (z0 : Z) (cond : Z → (Bool → Prop) → Prop) (body : Z → (Z → Prop) → Prop) (rest : Z → Prop) : Prop :=
  ∃ (Iv : Z → Prop) (μ : Z → Nat), Iv z0 ∧ ∀ z, Iv z → cond z fun b => (b = true → body z fun z' => Iv z' ∧ μ z' < μ z) ∧ (b = false → rest z)
section
variable {Y : DX} {s : DSt} {e a b c o tg iter elt : Expr} {es ifs : List Expr} {pos p p2 apos : Pos} {α β γ : Type} [Enc α] [Enc β] [Enc γ] {D : DE} {sts : List Stmt} {x y : Str}
theorem n_list {W : (List α → Prop) → Prop} (h : EvS Y s es W) (hl : es.length ≤ sizeLine := by show _ ≤ sizeLine; decide) : EvN Y s (.List es pos) W := fun k w =>
  ev_listO ((h k w).mono fun As s' ⟨xs, e1, e2, e3, w⟩ => ⟨xs, e1, by omega, fun p => by subst e3; exact ⟨p, xs, rfl, rfl, w⟩⟩)
theorem po_listN {σ : St} {F0 : Hp} {H F : Hp} {vs : List V} {xs : List α} {k : List α → Prop} (e0 : Ext F0 F) (S : Sta Y s σ H F) (r : Vs Y.X.K F vs xs) (w : k xs) : ∀ p, H p = none → Po Y σ F0 (fun A s' => ∃ p xs, A = raw (.ref p) ∧ s' = ⟨s.ρ, (p, lstc xs) :: s.gs⟩ ∧ k xs) (.ref p) (upd H p (.lst vs)) :=
  po_listO e0 S r fun p => ⟨p, xs, rfl, rfl, w⟩
theorem n_rep {W : (List α → Prop) → Prop} {Wb : (Int → Prop) → Prop} {p2 : Pos} (h : EvS Y s es W) (hb : ∀ p xs, EvC Y ⟨s.ρ, (p, lstc (α := α) xs) :: s.gs⟩ b Wb) (hl : es.length ≤ sizeLine := by show _ ≤ sizeLine; decide) : EvN Y s (.BinOp (.List es p2) .Mult b pos) fun k => W fun xs => Wb fun n => (-(2 ^ 63) ≤ n ∧ n < 2 ^ 63 ∧ xs.length * n.toNat ≤ sizeLine) ∧ k (List.replicate n.toNat xs).flatten := fun k w =>
  ev2 (pe_op op_rep pe_we pe_we) (ev_listO ((h _ w).mono fun As s' ⟨xs, e1, e2, e3, w⟩ => ⟨xs, e1, by omega, fun p => by
    subst e3
    exact (hb p xs _ w).mono fun B s2 ⟨n, eb, es, w⟩ F0 σ H F v u e0 S r1 r2 => by
      subst eb es
      obtain ⟨hF, o, ho, _, vs, eo, rv⟩ := S.cell (i := 0) (p := p) (c := lstc xs) rfl
      subst eo
      have hl : vs.length = xs.length := Paired.length rv
      refine ⟨p, n, vs, r1, r2, ho, w.1.1, w.1.2.1, by rw [hl]; exact w.1.2.2, fun q hq => ?_⟩
      exact po_listN e0 (S.drop 0) (vs_rep rv _) w.2 q hq⟩))
theorem n_slL {W : (List α → Prop) → Prop} {lo hi : Option Expr} {Wl Wh : (Option Int → Prop) → Prop} (ha : EvL Y s a W) (hl : EvOC Y s lo Wl) (hh : EvOC Y s hi Wh) : EvN Y s (.Subscript a (.Slice lo hi none p2) pos) fun k => W fun x => Wl fun i => Wh fun j => k (cutD x i j) := fun k w =>
  ev_slC sl_list hl hh (ha.q w fun A x hA w => ⟨rfl, _, w, fun i j w F0 σ H F v e0 S r => by
    obtain ⟨q, zs, h1, h2, h3⟩ := hA σ H F v S r
    exact ⟨q, zs, h1, h2, fun l hl => po_listN e0 S (cut_vs h3 i j) w l hl⟩⟩)
section
variable {κ ν : Type} [DecidableEq κ] [Kk κ] [Enc κ] [KkV κ] [Enc ν]
theorem m_new : EvM Y s (.Dict [] [] pos) fun k => k ([] : List (κ × ν)) := fun k w => ev_dnew fun p => ⟨p, [], rfl, rfl, w⟩
end
section
variable {R : α → Prop} {W : (α → Prop) → Prop}
theorem s_asg (i : Nat) (ok : YOk Y) (hi : Y.X.N[i]? = some x) (he : EvC Y s e W) (next : ∀ v, R v → Ws Y ⟨s.ρ.set i (some (pu v)), s.gs⟩ sts D) (w : W R)
    (hx : Loc Y.X.env.scope x := by first | exact .inl rfl | exact .inr rfl) (hs : swapsWith e (some (.Name x p2)) pos.line Y.X.env = pure false := by rfl) (hf : Y.X.fn x = true ∨ Y.X.env.scope.names.lookup x = some .local := by first | exact .inl rfl | exact .inr rfl) : Ws Y s (.Assign [.Name x p2] e pos :: sts) D :=
  ws_cons (w1_set i ok hi hx (he.q w fun v r => next v r) hs hf)
theorem s_asgL {t : TgD β} {own : List (Str × Nat)} {R : List α → Prop} {W : (List α → Prop) → Prop} {scope : Scope} {spos : Pos} (i : Nat) (ok : YOk Y) (hi : Y.X.N[i]? = some x) (h : LcW Y s scope own t tg iter elt ifs W) (next : ∀ v, R v → Ws Y ⟨s.ρ.set i (some (pu v)), s.gs⟩ sts D) (w : W R)
    (hyl : Y.X.env.scope.names.lookup x = some .local := by rfl) (hsw : swapsWith (.ListComp elt [⟨tg, iter, ifs, 0⟩] scope pos) (some (.Name x p2)) spos.line Y.X.env = pure true := by rfl) : Ws Y s (.Assign [.Name x p2] (.ListComp elt [⟨tg, iter, ifs, 0⟩] scope pos) spos :: sts) D :=
  ws_cons (w1_asgL ok hi h w (fun ys k => next ys k) hyl hsw)
theorem s_asgN {R : List α → Prop} {W : (List α → Prop) → Prop} (i : Nat) (ok : YOk Y) (hi : Y.X.N[i]? = some x) (he : EvN Y s e W) (next : ∀ q v, R v → Ws Y ⟨s.ρ.set i (some (raw (.ref q))), (q, lstc v) :: s.gs⟩ sts D) (w : W R)
    (hx : Loc Y.X.env.scope x := by first | exact .inl rfl | exact .inr rfl) (hs : swapsWith e (some (.Name x p2)) pos.line Y.X.env = pure false := by rfl) (hf : Y.X.fn x = true ∨ Y.X.env.scope.names.lookup x = some .local := by first | exact .inl rfl | exact .inr rfl) : Ws Y s (.Assign [.Name x p2] e pos :: sts) D :=
  ws_cons (w1_set i ok hi hx ((he _ w).mono fun A s' ⟨q, xs, ea, es, r⟩ => by subst ea es; exact next q xs r) hs hf)
theorem s_asgT (t : TgD α) (hg : TgOk Y tg (t.g Y.X.K) t.ws t.f) (he : EvC Y s e W) (next : ∀ v, R v → Ws Y ⟨t.f v s.ρ, s.gs⟩ sts D) (w : W R)
    (hs : swapsWithSole [tg] e pos.line Y.X.env = pure false := by rfl) (hw : swappedStores [tg] e Y.X.env = pure none := by rfl) (h1 : (assignEach [tg] Y.X.env).map (·.2) = [assign tg Y.X.env] := by rfl) : Ws Y s (.Assign [tg] e pos :: sts) D :=
  ws_cons (w1_asg hg (he.q w fun v r => ⟨v, rfl, next v r⟩) hs hw h1)
theorem s_ret (he : EvC Y s e W) (w : W R) (q : ∀ v, R v → D.rt (pu v) s) : Ws Y s (.Return (some e) pos :: sts) D := ws_cons (w1_ret (he.q w fun v r => q v r))
theorem s_if {B C : Prop} {A1 A2 : List Stmt} {Wc : (Bool → Prop) → Prop} (hc : EvT Y s c Wc) (h1 : B → Ws Y s A1 { D with nx := fun s' => Ws Y s' sts D }) (h2 : C → Ws Y s A2 { D with nx := fun s' => Ws Y s' sts D }) (w : Wc fun t => (t = true → B) ∧ (t = false → C)) : Ws Y s (.If c A1 A2 pos :: sts) D :=
  ws_cons (w1_if (hc.q w fun t r => by
    cases t with
    | true => rw [if_pos rfl]; exact h1 (r.1 rfl)
    | false => rw [if_neg Bool.false_ne_true]; exact h2 (r.2 rfl)))
end
section
variable {Z J : Type}
theorem s_for {W : (List β → Prop) → Prop} {Body : β → Z → (Z → Prop) → Prop} {Rest : Z → Prop} {bd : List Stmt} (t : TgD β) (stf : Z → J → DSt) (z0 : Z) (j0 : J) (ok : YOk Y) (hi : ItC Y s tg iter W) (hg : TgOk Y tg (t.g Y.X.K) t.ws t.f) (h0 : s = stf z0 j0)
    (body : ∀ x z j (nx : Z → Prop), Body x z nx → Ws Y ⟨t.f x (stf z j).ρ, (stf z j).gs⟩ bd { D with nx := fun s' => ∃ z' j', s' = stf z' j' ∧ nx z', ct := fun s' => ∃ z' j', s' = stf z' j' ∧ nx z', bk := fun _ => False })
    (next : ∀ z j, Rest z → Ws Y (stf z j) sts D) (w : W fun items => forW items z0 Body Rest) (hs : ∀ x, foldedSetIterable iter Y.X.env x = pure x := by intro _; rfl) : Ws Y s (.For tg iter bd [] pos :: sts) D :=
  ws_cons (w1_forE ok (hi _ w) hg (fun items s' ⟨es, Iv, w0, w1, w2⟩ => ⟨fun i s2 => ∃ z j, s2 = stf z j ∧ Iv i z, ⟨z0, j0, by rw [es, h0], w0⟩, fun i x s2 hx ⟨z, j, e2, iv⟩ => by
    subst e2
    exact (body x z j _ (w1 i x z hx iv)).mono (fun s h => h) (fun A s h => h) (fun s h => h.elim) (fun s h => h), fun s2 ⟨z, j, e2, iv⟩ => by subst e2; exact next z j (w2 z iv)⟩) hs)
theorem s_while {Cond : Z → (Bool → Prop) → Prop} {Body : Z → (Z → Prop) → Prop} {Rest : Z → Prop} {bd : List Stmt} (stf : Z → J → DSt) (z0 : Z) (j0 : J) (ok : YOk Y) (h0 : s = stf z0 j0) (hc : ∀ z j, EvT Y (stf z j) c (Cond z))
    (body : ∀ z j (nx : Z → Prop), Body z nx → Ws Y (stf z j) bd { D with nx := fun s' => ∃ z' j', s' = stf z' j' ∧ nx z', ct := fun s' => ∃ z' j', s' = stf z' j' ∧ nx z', bk := fun _ => False })
    (next : ∀ z j, Rest z → Ws Y (stf z j) sts D) (w : whileW z0 Cond Body Rest) : Ws Y s (.While c bd [] pos :: sts) D := by
  obtain ⟨Iv, μ, w0, w1⟩ := w
  refine ws_cons fun F0 σ H F e0 S => ?_
  refine .of (ps_while ok.pass pt_wt pss_ws) ⟨fun m σ H => ∃ z j F2, Ext F0 F2 ∧ Sta Y (stf z j) σ H F2 ∧ Iv z ∧ m = μ z, ⟨_, z0, j0, F, e0, h0 ▸ S, w0, rfl⟩, ?_⟩
  rintro m σ2 H2 ⟨z, j, F2, e2, S2, iv, rfl⟩
  refine (hc z j _ (w1 z iv) F0 σ2 H2 F2 e2 S2).mono fun t H3 ⟨s3, F3, e3, S3, es, q⟩ => ?_
  subst es
  cases t with
  | false => exact ⟨_, F3, e3, S3, next z j (q.2 rfl)⟩
  | true => exact ⟨fun σ' H' => ∃ z4 j4 F4, Ext F0 F4 ∧ Sta Y (stf z4 j4) σ' H' F4 ∧ Iv z4 ∧ μ z4 < μ z, fun σ' H' ⟨z4, j4, F4, e4, S4, iv4, lt⟩ => ⟨_, lt, z4, j4, F4, e4, S4, iv4, rfl⟩, (body z j _ (q.1 rfl) F0 σ2 H3 F3 e3 S3).mono (fun σ' H' ⟨s5, F5, e5, S5, z', j', e6, iv5, lt⟩ => by subst e6; exact ⟨z', j', F5, e5, S5, iv5, lt⟩) (fun v H' q => q) (fun σ' H' ⟨s5, F5, e5, S5, q⟩ => q.elim) (fun σ' H' ⟨s5, F5, e5, S5, z', j', e6, iv5, lt⟩ => by subst e6; exact ⟨z', j', F5, e5, S5, iv5, lt⟩)⟩
end
section
variable {α : Type} [Enc α] {W : (α → Prop) → Prop} {xs : List α} {q : Addr}
theorem ev_m1X {T id : String} {name : Str} {Q : Pv → DSt → Prop} {r : V → List V → Hp → VK → Prop} (pa : PlainAttrs T) (slot : Slot T name id) (hty : typeOf (.builtin id) = pure (.type "method_descriptor")) (hm : MtR Y.X id r) (ho : EvP Y s o (raw (.ref q)))
    (ht : ∀ σ H F, Sta Y s σ H F → tyV Y.X.K T (.ref q) H)
    (h : Ev Y s e fun B s2 => ∀ F0 σ H F u, Ext F0 F → Sta Y s2 σ H F → B.rep Y.X.K F u → r (.ref q) [u] H (Po Y σ F0 Q))
    (m : Mx1 Y.X o name apos e pos) : Ev Y s (.Call (.Attribute o name apos) [e] [] pos) Q :=
  ev_m1C pa slot hty hm (.of ho ⟨fun σ H F v S r => by rw [show v = .ref q from r]; exact ht σ H F S, h.mono fun B s2 h F0 σ H F v u e0 S r1 r2 => by rw [show v = .ref q from r1]; exact h F0 σ H F u e0 S r2⟩) m
theorem s_append (i g : Nat) (hN : Y.X.N[i]? = some x) (hρ : s.ρ[i]? = some (some (raw (.ref q)))) (hg : s.gs[g]? = some (q, lstc xs)) (he : EvC Y s e W) {R : α → Prop} (next : ∀ v, R v → Ws Y ⟨s.ρ, s.gs.set g (q, lstc (xs ++ [v]))⟩ sts D) (w : W fun v => xs.length < sizeLine ∧ R v)
    (m : Mx1 Y.X (.Name x p) "append" apos e pos := by exact mx1 rfl rfl rfl) (hv : Vis Y.X.env.scope x := by first | exact .inl rfl | exact .inr (.inl rfl) | exact .inr (.inr rfl)) (hd : (x == ("__debug__" : Str)) = false := by decide) (hcd : (x == ("__classdict__" : Str)) = false := by decide) : Ws Y s (.Expr (.Call (.Attribute (.Name x p) "append" apos) [e] [] pos) p2 :: sts) D :=
  ws_cons (w1_expr (ev_m1X PySem.F.plainAttrs_list PySem.F.slot_list_append PySem.F.type_list_append mt_append (evp_v i hN hρ hv hd hcd) (fun σ H F S => by
      obtain ⟨_, o, ho, _, vs, eo, rv⟩ := S.cell hg
      subst eo
      exact tyV_list (.of ho))
    (he.q w fun v w F0 σ H F u e0 S ru => by
      obtain ⟨hF, o, ho, _, vs, eo, rv⟩ := S.cell hg
      subst eo
      have hl : vs.length = xs.length := Paired.length rv
      refine ⟨q, vs, u, rfl, rfl, ho, by omega, pu (), _, F, e0, rfl, ?_, next v w.2⟩
      exact S.write (c' := lstc (xs ++ [v])) hg ho (not_codeL rfl) rfl ⟨_, rfl, prd_app rv (.cons ru .nil)⟩) m))
theorem s_lput (i g : Nat) {b : Expr} {W : (α → Prop) → Prop} {Wi : (Int → Prop) → Prop} (hN : Y.X.N[i]? = some x) (hρ : s.ρ[i]? = some (some (raw (.ref q)))) (hg : s.gs[g]? = some (q, lstc xs)) (he : EvC Y s e W) (hb : EvC Y s b Wi) {R : List α → Prop} {pn ps : Pos} (next : ∀ v, R v → Ws Y ⟨s.ρ, s.gs.set g (q, lstc v)⟩ sts D) (w : W fun v => Wi fun k => inR xs.length k ∧ R (xs.set (plc xs.length k) v))
    (hv : Vis Y.X.env.scope x := by first | exact .inl rfl | exact .inr (.inl rfl) | exact .inr (.inr rfl)) (hd : (x == ("__debug__" : Str)) = false := by decide) (hcd : (x == ("__classdict__" : Str)) = false := by decide)
    (hs : swapsWithSole [Expr.Subscript (.Name x pn) b ps] e pos.line Y.X.env = pure false := by rfl) (hw : swappedStores [Expr.Subscript (.Name x pn) b ps] e Y.X.env = pure none := by rfl) (h1 : (assignEach [Expr.Subscript (.Name x pn) b ps] Y.X.env).map (·.2) = [assign (Expr.Subscript (.Name x pn) b ps) Y.X.env] := by rfl)
    (ha : ∀ v, assign (.Subscript (.Name x pn) b ps) Y.X.env v = (do
      let ov ← holding [v] (eval (.Name x pn) Y.X.env)
      let iv ← holding [v, ov] (eval b Y.X.env)
      standAt ps
      holding [v, ov, iv] (setItem ov iv v)
      release [v, ov, iv] []) := by intro _; rfl) : Ws Y s (.Assign [.Subscript (.Name x pn) b ps] e pos :: sts) D := ws_cons fun F0 σ H F e0 S => by
  refine .of (ps_asg pe_we (pg_sub pe_we pe_we set_list ha) hs hw h1) ?_
  refine (he _ w F σ H F (.refl _) S).mono fun v H1 ⟨_, _, F1, e1, r1, S1, y, ey, es, w⟩ => ?_
  subst ey es
  refine (evp_v i hN hρ hv hd hcd F1 σ H1 F1 (.refl _) S1).mono fun u H2 ⟨F2, e2, r2, S2⟩ => ?_
  refine (hb _ w F2 σ H2 F2 (.refl _) S2).mono fun z H3 ⟨_, _, F3, e3, r3, S3, k, ek, es, w⟩ => ?_
  subst ek es
  obtain ⟨hF, oo, hoo, _, zs, eo, rv⟩ := S3.cell hg
  subst eo
  refine ⟨q, zs, k, plc xs.length k, r2, r3, hoo, by rw [show zs.length = xs.length from Paired.length rv]; exact (ixN_plc w.1).1, _, F3, ((e0.trans e1).trans e2).trans e3, ?_, next _ w.2⟩
  exact S3.write (c' := lstc (xs.set (plc xs.length k) y)) hg hoo (not_codeL rfl) rfl ⟨_, rfl, prd_set rv (Enc.mono (α := α) r1 (e2.trans e3)) _⟩
end
section
variable {W : (Int → Prop) → Prop} {R : Int → Prop} {n : Int}
end
theorem s_raise {C : Addr} {m : Str} {j : Nat} {p3 : Pos} {G0 : Gs → Prop} {E : Ex → Prop} (n : Nat) (ex : Ex) (ye : YE Y G0 E) (T : ErrC Y.X.K Y.X.mg x C) (hg : Gl Y.X x) (hx : exK Y.X.K ex = ⟨C, none⟩) (hn : G0 (s.gs.drop n)) (w : E ex) (hdb : (x == ("__debug__" : Str)) = false := by decide) : Ws Y s (.Raise (some (.Call (.Name x p) [.Constant (.str m) j p2] [] p3)) none pos :: sts) D :=
  ws_cons (w1_raise ye.ok T hg (hx ▸ ye.ex ex s ⟨n, hn⟩ w) hdb)
theorem s_fld {C : Addr} {fs : Flds} {q : Addr} {f : Str} {W : (α → Prop) → Prop} {R : α → Prop} {pn : Pos} (i g : Nat) (c : Cls Y.X.K C) (nn : NoAttr Y.X.K C f) (hN : Y.X.N[i]? = some x) (hρ : s.ρ[i]? = some (some (raw (.ref q)))) (hg : s.gs[g]? = some (q, insc C fs)) (he : EvC Y s e W) (next : ∀ v, R v → Ws Y ⟨s.ρ, s.gs.set g (q, insc C (fput f (pu v) fs))⟩ sts D) (w : W R) (hl : fs.length < 1000 := by decide)
    (hv : Vis Y.X.env.scope x := by first | exact .inl rfl | exact .inr (.inl rfl) | exact .inr (.inr rfl)) (hd : (x == ("__debug__" : Str)) = false := by decide) (hcd : (x == ("__classdict__" : Str)) = false := by decide) (hs : swapsWith e (some (.Attribute (.Name x pn) f p2)) pos.line Y.X.env = pure false := by rfl) : Ws Y s (.Assign [.Attribute (.Name x pn) f p2] e pos :: sts) D :=
  ws_cons (w1_fld g c nn hl (he.q w fun v r => ⟨hg, evp_v i hN hρ hv hd hcd, next v r⟩) hs)
theorem c_fldO {C : Addr} {fs : Flds} {q : Addr} {f : Str} {v : α} {pn : Pos} (i g : Nat) (c : Cls Y.X.K C) (nn : NoAttr Y.X.K C f) (hN : Y.X.N[i]? = some x) (hρ : s.ρ[i]? = some (some (raw (.ref q)))) (hg : s.gs[g]? = some (q, insc C fs)) (l : fs.lookup f = some (pu v)) (hb : attributeBase (.Name x pn) f Y.X.env (eval (.Name x pn) Y.X.env) = eval (.Name x pn) Y.X.env := by exact ab_ok rfl)
    (hv : Vis Y.X.env.scope x := by first | exact .inl rfl | exact .inr (.inl rfl) | exact .inr (.inr rfl)) (hd : (x == ("__debug__" : Str)) = false := by decide) (hcd : (x == ("__classdict__" : Str)) = false := by decide) : EvC Y s (.Attribute (.Name x pn) f pos) fun k => k v :=
  c_of (evp_fld c nn (evp_v i hN hρ hv hd hcd) (IA.own g hg) l hb)
theorem s_expr {W : (α → Prop) → Prop} {R : α → Prop} (he : EvC Y s e W) (next : ∀ v, R v → Ws Y s sts D) (w : W R) (hs : swapsWith e none pos.line Y.X.env = pure false := by rfl) : Ws Y s (.Expr e pos :: sts) D :=
  ws_cons (w1_expr (he.q w fun v r => next v r) hs)
end
end Sp
set_option maxHeartbeats 4000000
namespace Sp
open PySem L2
open PySem.W (Datum DatumOrd SomeDatum)
structure BZ where
  cdv : Value
  A : Around
  outer : List Env
  s : Shared
  H : Hp
  F : Hp
  E : XK
  ex : Exc → DSt → Prop
section
variable {P : Program} {w : World} {K : Frag} {mg : Str → Option Value} {base : Heap} {fa : List He.Fa} {fn : List He.DefD} {tq : TQ}
abbrev yB (P : Program) (w : World) (K : Frag) (mg : Str → Option Value) (base : Heap) (tq : TQ) (k : Nat) (N : List Str) (d : He.DefD) (gs : Gs) (z : BZ) : DX :=
  bodyY P w K mg base (tbOf K tq) k N d.qual d.scope (He.fAd K d.at_) z.cdv z.A z.outer z.s z.H z.F gs z.E z.ex
def retE {ρ : Type} [Enc ρ] (G : Gs → Prop) (r0 : Option ρ) (Q : ρ → Prop) : DE :=
  { nx := fun s' => (∃ n, G (s'.gs.drop n)) ∧ ∃ r, r0 = some r ∧ Q r, rt := fun A s' => (∃ n, G (s'.gs.drop n)) ∧ ∃ r, A = pu r ∧ Q r }
def NoneIs {ρ : Type} [Enc ρ] (r0 : Option ρ) : Prop := ∀ r, r0 = some r → ∀ K F v, (pu ()).rep K F v → (pu r).rep K F v
theorem noneNo {ρ : Type} [Enc ρ] : NoneIs (none : Option ρ) := fun r h => by cases h
theorem noneUnit : NoneIs (some ()) := fun r h K F v q => by cases r; exact q
theorem toSp_imp {T : Tb} {n : Nat} {d d' : DSp} {vs : List V} {H : Hp} {Q : VK} {E : XK} (h : toSp K T n d vs H Q E) (k : ∀ As gs R X, d As gs R X → d' As gs R X) : toSp K T n d' vs H Q E := by
  obtain ⟨h1, As, gs, F, r, G, q⟩ := h
  exact ⟨h1, As, gs, F, r, G, k _ _ _ _ q⟩
def DAs (K : Frag) (d : DSp) : DSp := fun As gs R E => d As gs (fun A gs' => ∃ B : Pv, (∀ F v, A.rep K F v → B.rep K F v) ∧ R B gs') E
theorem fnOk_as {T : Tb} {k n : Nat} {f : Addr} {fd : FuncData} {ps : List Str} {d : DSp} (m : DMono d) (h : FnOk P w K mg base (L2.CX P w) k f fd ps (toSp K T n d)) : FnOk P w K mg base (L2.CX P w) k f fd ps (toSp K T n (DAs K d)) :=
  h.imp fun vs H Q E ⟨h1, As, gs, F, r, G, q⟩ => ⟨h1, As, gs, F, r, G, m _ _ _ _ _ _ (fun A gs' ⟨B, hb, q⟩ v H' F' r' G' st => q v H' F' (hb _ _ r') G' st) (fun e gs' q => q) q⟩
section
variable {τ ρ : Type} [Ags τ] [Enc ρ]
theorem fn_F {k : Nat} {N ps : List Str} {d : He.DefD} {fd : FuncData} (r0 : Option ρ) (L : LK w K mg base fa fn tq) (F1 : Fd K d ps fd) (S : FnScope N ps d.scope) (W : τ → (ρ → Prop) → (Ex → Prop) → Prop) (n0 : NoneIs r0) (hl : ∀ t : τ, (Ags.pvs t).length = ps.length)
    (body : ∀ (z : BZ) (t : τ) (Q : ρ → Prop) (E : Ex → Prop), W t Q E → YE (yB P w K mg base tq k N d [] z) (fun gs => gs = []) E → (∀ q, (d.at_, q) ∈ tq → Tbl (yB P w K mg base tq k N d [] z).X (tbOf K tq) q) →
      Ws (yB P w K mg base tq k N d [] z) ⟨(Ags.pvs t).map some ++ List.replicate (N.length - ps.length) none, []⟩ d.body (retE (fun gs => gs = []) r0 Q)) :
    FnOk P w K mg base (L2.CX P w) (k + 1) (He.fAd K d.at_) fd ps (toSp K (tbOf K tq) ps.length (spF K W)) := by
  have h := fnOk_as (d := fun As gs R E => ∃ t, As = Ags.pvs t ∧ gs = [] ∧ ∃ R0 E0, W t R0 E0 ∧ (∀ r, R0 r → R (pu r) []) ∧ (∀ r, r0 = some r → R0 r → R (pu ()) []) ∧ ∀ e, E0 e → E (exK K e) [])
    (fun As gs R R' E E' h1 h2 ⟨t, e1, e2, R0, E0, hw, hr, hr', he⟩ => ⟨t, e1, e2, R0, E0, hw, fun r q => h1 _ _ (hr r q), fun r e q => h1 _ _ (hr' r e q), fun e q => h2 _ _ (he e q)⟩)
    (df_ok L F1 S _ (fun As gs R E ⟨t, e1, _⟩ => by rw [e1]; exact hl t) fun cdv A outer s H F gs E ex As R X hd hex tbl ok => by
      obtain ⟨t, rfl, rfl, R0, E0, hw, hr, hr', hE⟩ := hd
      refine (body ⟨cdv, A, outer, s, H, F, E, ex⟩ t R0 E0 hw ⟨ok, fun e s' ⟨n, hn⟩ he => hex _ _ ⟨n, by rw [hn]; exact hE e he⟩⟩ tbl).mono (fun s' ⟨⟨n, hn⟩, r, e, q⟩ => ⟨n, by rw [hn]; exact hr' r e q⟩) (fun A s' ⟨⟨n, hn⟩, r, e, q⟩ => ⟨n, by rw [hn, e]; exact hr r q⟩) (fun _ h => h) (fun _ h => h))
  exact h.imp fun vs H Q E q => toSp_imp q fun As gs R X ⟨t, e1, e2, R0, E0, hw, hr, he⟩ => ⟨t, e1, e2, R0, E0, hw, fun r q => ⟨_, fun _ _ h => h, hr r q⟩, fun r e q => ⟨_, n0 r e K, hr r q⟩, he⟩
theorem fn_D {k : Nat} {N ps : List Str} {d : He.DefD} {fd : FuncData} (r0 : Option ρ) (L : LK w K mg base fa fn tq) (F1 : Fd K d ps fd) (S : FnScope N ps d.scope) (W : τ → (ρ → Prop) → (Ex → Prop) → Prop) (n0 : NoneIs r0) (hl : ∀ t : τ, (Ags.pvs t).length + 1 = ps.length)
    (body : ∀ (q : Addr) (z : BZ) (t : τ) (Q : ρ → Prop), W t Q NoE → YE (yB P w K mg base tq k N d [(q, dicec)] z) (fun gs => gs = [(q, dicec)]) NoE → (∀ q', (d.at_, q') ∈ tq → Tbl (yB P w K mg base tq k N d [(q, dicec)] z).X (tbOf K tq) q') →
      Ws (yB P w K mg base tq k N d [(q, dicec)] z) ⟨(raw (.ref q) :: Ags.pvs t).map some ++ List.replicate (N.length - ps.length) none, [(q, dicec)]⟩ d.body (retE (fun gs => gs = [(q, dicec)]) r0 Q)) :
    FnOk P w K mg base (L2.CX P w) (k + 1) (He.fAd K d.at_) fd ps (toSp K (tbOf K tq) ps.length (spD W)) := by
  have h := fnOk_as (d := fun As gs R E => ∃ q t, As = raw (.ref q) :: Ags.pvs t ∧ gs = [(q, dicec)] ∧ ∃ R0, W t R0 NoE ∧ (∀ r, R0 r → R (pu r) [(q, dicec)]) ∧ (∀ r, r0 = some r → R0 r → R (pu ()) [(q, dicec)]))
    (fun As gs R R' E E' h1 h2 ⟨q, t, e1, e2, R0, hw, hr, hr'⟩ => ⟨q, t, e1, e2, R0, hw, fun r q => h1 _ _ (hr r q), fun r e q => h1 _ _ (hr' r e q)⟩)
    (df_ok L F1 S _ (fun As gs R E ⟨q, t, e1, _⟩ => by rw [e1]; exact hl t) fun cdv A outer s H F gs E ex As R X hd hex tbl ok => by
      obtain ⟨q, t, rfl, rfl, R0, hw, hr, hr'⟩ := hd
      refine (body q ⟨cdv, A, outer, s, H, F, E, ex⟩ t R0 hw ⟨ok, fun e s' _ he => he.elim⟩ tbl).mono (fun s' ⟨⟨n, hn⟩, r, e, q⟩ => ⟨n, by rw [hn]; exact hr' r e q⟩) (fun A s' ⟨⟨n, hn⟩, r, e, q⟩ => ⟨n, by rw [hn, e]; exact hr r q⟩) (fun _ h => h) (fun _ h => h))
  exact h.imp fun vs H Q E q => toSp_imp q fun As gs R X ⟨q, t, e1, e2, R0, hw, hr⟩ => ⟨q, t, e1, e2, R0, hw, fun r q => ⟨_, fun _ _ h => h, hr r q⟩, fun r e q => ⟨_, n0 r e K, hr r q⟩⟩
def retI (K : Frag) {ρ : Type} [o : Ob ρ] (q : Addr) (Q : ρ → Prop) : DE :=
  { nx := fun s' => ∃ r, (∃ n, s'.gs.drop n = [(q, insc (He.ga K o.cls) (o.flds r))]) ∧ Q r, rt := fun A s' => A = pu () ∧ ∃ r, (∃ n, s'.gs.drop n = [(q, insc (He.ga K o.cls) (o.flds r))]) ∧ Q r }
theorem fn_I {γ : Type} [og : Ob γ] {k : Nat} {N ps : List Str} {d : He.DefD} {fd : FuncData} (L : LK w K mg base fa fn tq) (F1 : Fd K d ps fd) (S : FnScope N ps d.scope) (W : τ → (γ → Prop) → (Ex → Prop) → Prop) (hl : ∀ t : τ, (Ags.pvs t).length + 1 = ps.length)
    (body : ∀ (q : Addr) (z : BZ) (t : τ) (Q : γ → Prop) (E : Ex → Prop), W t Q E → YE (yB P w K mg base tq k N d [(q, insc (He.ga K (Ob.cls γ)) [])] z) (fun gs => ∃ fs, gs = [(q, insc (He.ga K (Ob.cls γ)) fs)]) E → (∀ q', (d.at_, q') ∈ tq → Tbl (yB P w K mg base tq k N d [(q, insc (He.ga K (Ob.cls γ)) [])] z).X (tbOf K tq) q') →
      Ws (yB P w K mg base tq k N d [(q, insc (He.ga K (Ob.cls γ)) [])] z) ⟨(raw (.ref q) :: Ags.pvs t).map some ++ List.replicate (N.length - ps.length) none, [(q, insc (He.ga K (Ob.cls γ)) [])]⟩ d.body (retI K q Q)) :
    FnOk P w K mg base (L2.CX P w) (k + 1) (He.fAd K d.at_) fd ps (toSp K (tbOf K tq) ps.length (spI K W)) :=
  df_ok L F1 S _ (fun As gs R E ⟨q, t, e1, _⟩ => by rw [e1]; exact hl t) fun cdv A outer s H F gs E ex As R X hd hex tbl ok => by
    obtain ⟨q, t, rfl, rfl, R0, E0, hw, hr, hE⟩ := hd
    refine (body q ⟨cdv, A, outer, s, H, F, E, ex⟩ t R0 E0 hw ⟨ok, fun e s' ⟨n, fs, hn⟩ he => hex _ _ ⟨n, by rw [hn]; exact hE e he fs⟩⟩ tbl).mono (fun s' ⟨r, ⟨n, hn⟩, q⟩ => ⟨n, by rw [hn]; exact hr r q⟩) (fun A s' ⟨ea, r, ⟨n, hn⟩, q⟩ => ⟨n, by rw [hn, ea]; exact hr r q⟩) (fun _ h => h) (fun _ h => h)
end
theorem dice_open {T : Tb} {q : Addr} {H F : Hp} (G : Stg K T [(q, dicec)] H F) : ∃ i j k : Int, Stg K T [(q, lstc [i, j, k])] H F := by
  obtain ⟨h1, o, h2, h3, i, j, k, h4⟩ := G.own (q, dicec) List.mem_cons_self
  refine ⟨i, j, k, G.ext, G.ntb, fun p hp => ?_, G.nd, G.tb⟩
  rw [List.mem_singleton.mp hp]
  exact ⟨h1, o, h2, h3, _, h4, .cons rfl (.cons rfl (.cons rfl .nil))⟩
theorem dice_close {T : Tb} {q : Addr} {H F : Hp} {i j k : Int} (G : Stg K T [(q, lstc [i, j, k])] H F) : Stg K T [(q, dicec)] H F := by
  obtain ⟨h1, o, h2, h3, vs, h4, h5⟩ := G.own (q, lstc [i, j, k]) List.mem_cons_self
  refine ⟨G.ext, G.ntb, fun p hp => ?_, G.nd, G.tb⟩
  rw [List.mem_singleton.mp hp]
  refine ⟨h1, o, h2, h3, i, j, k, ?_⟩
  rw [h4, vs_ints h5]
  rfl
def rollW (t : Int × Unit) (Q : Int → Prop) (_ : Ex → Prop) : Prop := 0 < t.1 ∧ t.1 < 1073741824 ∧ ∀ r : Int, 0 ≤ r → r < t.1 → Q r
def dRollA : DSp := fun As gs R E => ∃ (q : Addr) (i j k many : Int), As = [raw (.ref q), pu many] ∧ gs = [(q, lstc [i, j, k])] ∧ 0 < many ∧ many < 1073741824 ∧ ∀ r i' j' k' : Int, 0 ≤ r → r < many → R (pu r) [(q, lstc [i', j', k'])]
theorem roll_D {k n : Nat} {f : Addr} {fd : FuncData} {ps : List Str} {T : Tb} (h : FnOk P w K mg base (L2.CX P w) k f fd ps (toSp K T n dRollA)) : FnOk P w K mg base (L2.CX P w) k f fd ps (toSp K T n (spD rollW)) :=
  h.imp fun vs H Q E ⟨h1, As, gs, F, r, G, q, t, e1, e2, R0, ⟨hw1, hw2, hw3⟩, hr⟩ => by
    subst e1 e2
    obtain ⟨i, j, k, G'⟩ := dice_open G
    exact ⟨h1, _, _, F, r, G', q, i, j, k, t.1, rfl, rfl, hw1, hw2, fun r i' j' k' l1 l2 v H' F' rr G2 st => hr r (hw3 r l1 l2) v H' F' rr (dice_close G2) st⟩
def dDiceA : DSp := fun As gs R E => ∃ c : Int, As = [pu c] ∧ gs = [] ∧ ∀ q : Addr, R (raw (.ref q)) [(q, dicec)]
def dDice0 : DSp := fun As gs R E => ∃ c : Int, As = [pu c] ∧ gs = [] ∧ ∀ (i j k : Int) (q : Addr), R (raw (.ref q)) [(q, lstc [i, j, k])]
theorem dice_D {k n : Nat} {f : Addr} {fd : FuncData} {ps : List Str} {T : Tb} (h : FnOk P w K mg base (L2.CX P w) k f fd ps (toSp K T n dDice0)) : FnOk P w K mg base (L2.CX P w) k f fd ps (toSp K T n dDiceA) :=
  h.imp fun vs H Q E ⟨h1, As, gs, F, r, G, c, e1, e2, hr⟩ => ⟨h1, _, _, F, r, G, c, e1, e2, fun i j k q v H' F' rr G2 st => hr q v H' F' rr (dice_close G2) st⟩
theorem mDiceA : DMono dDiceA := fun As gs R R' E E' h1 h2 ⟨c, e, e2, k⟩ => ⟨c, e, e2, fun q => h1 _ _ (k q)⟩
def dRoundsA : DSp := fun As gs R E => ∃ ns : List Int, As = [pu ns, pu (1 : Int)] ∧ gs = [] ∧ ∀ q : Addr, R (pu [Rf.mk q]) [(q, dicec)]
theorem mRoundsA : DMono dRoundsA := fun As gs R R' E E' h1 h2 ⟨c, e, e2, k⟩ => ⟨c, e, e2, fun q => h1 _ _ (k q)⟩
end
end Sp
set_option maxHeartbeats 4000000
namespace Sp
open PySem L2
open PySem.W (Datum DatumOrd SomeDatum)
section
variable {Y : DX} {s : DSt} {e a b c o tg iter elt : Expr} {es ifs : List Expr} {pos p p2 apos : Pos} {α β γ : Type} [Enc α] [Enc β] [Enc γ] {D : DE} {sts : List Stmt} {x y : Str}
theorem c_gs {z : Str} (hg : Gl Y.X x) (hm : ∃ t, Y.X.mg x = some (.str z t)) (hd : (x == ("__debug__" : Str)) = false := by decide) : EvC Y s (.Name x pos) fun k => k (tx z) := by
  obtain ⟨t, hm⟩ := hm
  exact c_of (evp_glob (v := .str z) hg hm ⟨t, rfl⟩ (fun F => by show V.str z = V.str (toStr (tx z)); rw [toStr_tx]) hd)
section
variable {o1 o2 : CmpOp} {r1 r2 : Int → Int → Bool} {Wa Wb Wc : (Int → Prop) → Prop}
theorem t_chain (h1 : OpR Y.X (compareOp o1) (fun x y H Q => ∃ i j, x = .int i ∧ y = .int j ∧ Q (.bl (r1 i j)) H)) (h2 : OpR Y.X (compareOp o2) (fun x y H Q => ∃ i j, x = .int i ∧ y = .int j ∧ Q (.bl (r2 i j)) H)) (ha : EvC Y s a Wa) (hb : EvC Y s b Wb) {v : Int} (hc : EvC Y s c Wc) (hm : lastMarks [o1, o2] [b, c] = false := by with_unfolding_all rfl) :
    EvT Y s (.Compare a [o1, o2] [b, c] pos) fun k => Wa fun i => Wb fun j => (r1 i j = true → Wc fun z => z = v) ∧ k (r1 i j && r2 j v) := fun k w F0 σ H F e0 S => by
  refine .of (pt_chain h1 h2 pe_we pe_we pe_we hm) ?_
  refine (ha _ w F0 σ H F e0 S).mono fun v H1 ⟨_, _, F1, e1, r1', S1, i, ei, es, w⟩ => ?_
  subst ei es
  refine (hb _ w F1 σ H1 F1 (.refl _) S1).mono fun u H2 ⟨_, _, F2, e2, r2', S2, j, ej, es, w⟩ => ?_
  subst ej es
  refine ⟨i, j, r1', r2', r1 i j, rfl, ?_⟩
  cases hr : r1 i j with
  | true =>
    rw [if_pos rfl]
    refine (hc _ (w.1 hr) F2 σ H2 F2 (.refl _) S2).mono fun z H3 ⟨_, _, F3, e3, r3, S3, m, em, es, ez⟩ => ?_
    subst em es ez
    refine ⟨j, m, r2', r3, r2 j m, rfl, _, F3, (e1.trans e2).trans e3, S3, rfl, ?_⟩
    have := w.2
    rw [hr] at this
    simpa using this
  | false =>
    rw [if_neg Bool.false_ne_true]
    refine ⟨false, rfl, _, F2, e1.trans e2, S2, rfl, ?_⟩
    have := w.2
    rw [hr] at this
    simpa using this
end
theorem s_ifJ {Z J : Type} {A1 A2 : List Stmt} {Rest : Z → Prop} {B C : (Z → Prop) → Prop} {Wc : (Bool → Prop) → Prop} (stf : Z → J → DSt) (hc : EvT Y s c Wc) (h1 : ∀ nx : Z → Prop, B nx → Ws Y s A1 { D with nx := fun s' => ∃ z j, s' = stf z j ∧ nx z }) (h2 : ∀ nx : Z → Prop, C nx → Ws Y s A2 { D with nx := fun s' => ∃ z j, s' = stf z j ∧ nx z })
    (next : ∀ z j, Rest z → Ws Y (stf z j) sts D) (w : Wc fun t => (t = true → B Rest) ∧ (t = false → C Rest)) : Ws Y s (.If c A1 A2 pos :: sts) D :=
  ws_cons (w1_if (hc.q w fun t r => by
    cases t with
    | true => rw [if_pos rfl]; exact (h1 _ (r.1 rfl)).mono (fun s' ⟨z, j, e, q⟩ => by subst e; exact next z j q) (fun _ _ h => h) (fun _ h => h) (fun _ h => h)
    | false => rw [if_neg Bool.false_ne_true]; exact (h2 _ (r.2 rfl)).mono (fun s' ⟨z, j, e, q⟩ => by subst e; exact next z j q) (fun _ _ h => h) (fun _ h => h) (fun _ h => h)))
theorem ws_frL {α : Type} [Enc α] {xs : List α} {q : Addr} (i j : Nat) (hi : s.ρ[i]? = some (some (raw (.ref q)))) (hj : s.gs[j]? = some (q, lstc xs)) (h : Ws Y ⟨s.ρ.set i (some (pu xs)), s.gs.eraseIdx j⟩ sts D) : Ws Y s sts D := ws_freezeL i j hi hj h
theorem s_rounds {j : Nat} {ns : List Int} {ps : List Str} {bd : List Stmt} {py pp pc : Pos} {k1 : Nat} {R : Prop} (i i0 : Nat) (ok : YOk Y) (G : Df Y.X.prog Y.X.w Y.X.K Y.X.mg Y.X.base Y.T j "_law_rounds" ps dRoundsA) (hj : j ≤ Y.k) (hl : ps.length = 2) (hg : Gl Y.X "_law_rounds") (h0 : s.gs = []) (hx : TgOk Y tg (gName i) [i] (fun (v : Rf) ρ => ρ.set i (some (pu v)))) (ha : EvC Y s a fun k => k ns)
    (body : ∀ q, R → Ws Y ⟨s.ρ.set i (some (raw (.ref q))), [(q, dicec)]⟩ bd { D with nx := fun s' => Ws Y s' sts D, ct := fun s' => Ws Y s' sts D, bk := fun _ => False }) (w : R)
    (he : starEach [a, .Constant (.int 1) k1 pc] Y.X.env = (false, eval a Y.X.env) :: starEach [.Constant (.int 1) k1 pc] Y.X.env := by exact star_c rfl) (he2 : starEach [.Constant (.int 1) k1 pc] Y.X.env = (false, eval (.Constant (.int 1) k1 pc) Y.X.env) :: starEach [] Y.X.env := by exact star_c rfl) (hpl : (backTo pos (starEach [.Constant (.int 1) k1 pc] Y.X.env)).any (·.1) = false := by rfl) (hs : ∀ x, foldedSetIterable (.Call (.Name "_law_rounds" pp) [a, .Constant (.int 1) k1 pc] [] pos) Y.X.env x = pure x := by intro _; rfl) :
    Ws Y s (.For tg (.Call (.Name "_law_rounds" pp) [a, .Constant (.int 1) k1 pc] [] pos) bd [] py :: sts) D :=
  ws_cons (w1_forE ok (it_listE (α := Rf) (G := fun items s' => ∃ q, items = [Rf.mk q] ∧ s' = ⟨s.ρ, [(q, dicec)]⟩) (ev_call G ok hj hg (evs_cons (ha.q (k := fun v => v = ns) rfl fun v ev => evs_cons (.of evp_int (evs_nil (by
    subst ev
    refine ⟨hl.symm, [], s.gs, .refl _, _, rfl, rfl, fun q => ⟨[Rf.mk q], rfl, q, rfl, ?_⟩⟩
    rw [h0]
    rfl))) he2) he) (by decide) he hpl)) hx (fun items s' ⟨q, e1, e2⟩ => by
      subst e1 e2
      refine ⟨fun n s' => (n = 0 ∧ s' = ⟨s.ρ, [(q, dicec)]⟩) ∨ (n = 1 ∧ Ws Y s' sts D), .inl ⟨rfl, rfl⟩, fun i x s2 hx h => ?_, fun s2 h => ?_⟩
      · rcases h with ⟨rfl, rfl⟩ | ⟨rfl, _⟩
        · cases hx
          exact (body q w).mono (fun s' h => .inr ⟨rfl, h⟩) (fun _ _ h => h) (fun _ h => h.elim) (fun s' h => .inr ⟨rfl, h⟩)
        · cases hx
      · rcases h with ⟨h, _⟩ | ⟨_, h⟩
        · cases h
        · exact h) hs)
end
end Sp
set_option maxHeartbeats 4000000
namespace Sp
open PySem L2
open PySem.W (Datum DatumOrd SomeDatum)
def ifJ {Z : Type} (b : Bool) (B C : (Z → Prop) → Prop) (rest : Z → Prop) : Prop := (b = true → B rest) ∧ (b = false → C rest)
abbrev TgD.t {α β γ : Type} (a : TgD α) (b : TgD β) (c : TgD γ) : TgD (T3 α β γ) := ⟨fun K => gTup K 3 (gCons (a.g K) (gCons (b.g K) (gCons (c.g K) gNil))), a.ws ++ (b.ws ++ c.ws), fun v ρ => c.f v.c (b.f v.b (a.f v.a ρ))⟩
def optG {α : Type} [Inhabited α] (x : Option α) : α := x.getD default
section
variable {Y : DX} {s : DSt} {e a b c o tg iter elt body : Expr} {es ifs : List Expr} {pos p apos cpos lpos gpos : Pos} {α β : Type} [Enc α] [Enc β] {G0 : Gs → Prop} {E : Ex → Prop} {k : Nat} {scope : Scope}
theorem c_optG [Inhabited α] {W : (Option α → Prop) → Prop} (h : EvC Y s e W) : EvC Y s e fun k => W fun x => x.isSome = true ∧ k (optG x) := fun k w => (h _ w).mono fun A s' ⟨x, ea, es, w1, w2⟩ => by
  cases x with
  | some x => exact ⟨x, by rw [ea]; rfl, es, w2⟩
  | none => cases w1
section
variable {W : (List β → Prop) → Prop}
theorem c_any0 {We : β → (Bool → Prop) → Prop} (t : TgD β) (k : Nat) (vs : List Nat) (items : List β) (h : β → Bool) (ok : YOk Y) (B : Bis Y.X.mg) (hg : Gl Y.X "any") (hk : k + 2 ≤ Y.k) (hi : ItC Y s tg iter W) (G : GenOk Y.X.N Y.X.env.scope scope vs) (tb : TbG Y.X Y.T (Y.X.env.qual ++ "<genexpr>") gpos noOw) (tg0 : ∀ z, TgOk (genY Y k scope z) tg (t.g Y.X.K) t.ws t.f)
    (he : ∀ z, YOk (genY Y k scope z) → ∀ x, EvC (genY Y k scope z) ⟨t.f x (wipeR s.ρ vs), s.gs⟩ elt (We x)) (sub : ∀ j ∈ t.ws, j ∈ vs := by decide) (hs : ∀ x, genFold iter Y.X.env x = pure x := by intro _; rfl)
    (hst : starEach [.GeneratorExp elt [⟨tg, iter, [], 0⟩] scope gpos] Y.X.env = (false, eval (.GeneratorExp elt [⟨tg, iter, [], 0⟩] scope gpos) Y.X.env) :: starEach [] Y.X.env := by exact star_c rfl) :
    EvC Y s (.Call (.Name "any" p) [.GeneratorExp elt [⟨tg, iter, [], 0⟩] scope gpos] [] pos) fun kk => (W fun is => is = items) ∧ (∀ x ∈ items, We x fun y => y = h x) ∧ kk (items.any h) := fun kk ⟨w1, w3, w4⟩ =>
  (c_any (Wc := fun _ k => k true) t k vs items (fun _ => true) h ok B hg hk hi G tb tg0 (fun _ _ _ => ts_nil) he sub hs hst) kk ⟨w1, fun _ _ => rfl, fun x hx _ => w3 x hx, by rw [List.filter_eq_self.mpr (fun _ _ => rfl)]; exact w4⟩
theorem c_all0 {We : β → (Bool → Prop) → Prop} (t : TgD β) (k : Nat) (vs : List Nat) (items : List β) (h : β → Bool) (ok : YOk Y) (B : Bis Y.X.mg) (hg : Gl Y.X "all") (hk : k + 2 ≤ Y.k) (hi : ItC Y s tg iter W) (G : GenOk Y.X.N Y.X.env.scope scope vs) (tb : TbG Y.X Y.T (Y.X.env.qual ++ "<genexpr>") gpos noOw) (tg0 : ∀ z, TgOk (genY Y k scope z) tg (t.g Y.X.K) t.ws t.f)
    (he : ∀ z, YOk (genY Y k scope z) → ∀ x, EvC (genY Y k scope z) ⟨t.f x (wipeR s.ρ vs), s.gs⟩ elt (We x)) (sub : ∀ j ∈ t.ws, j ∈ vs := by decide) (hs : ∀ x, genFold iter Y.X.env x = pure x := by intro _; rfl)
    (hst : starEach [.GeneratorExp elt [⟨tg, iter, [], 0⟩] scope gpos] Y.X.env = (false, eval (.GeneratorExp elt [⟨tg, iter, [], 0⟩] scope gpos) Y.X.env) :: starEach [] Y.X.env := by exact star_c rfl) :
    EvC Y s (.Call (.Name "all" p) [.GeneratorExp elt [⟨tg, iter, [], 0⟩] scope gpos] [] pos) fun kk => (W fun is => is = items) ∧ (∀ x ∈ items, We x fun y => y = h x) ∧ kk (items.all h) := fun kk ⟨w1, w3, w4⟩ =>
  (c_all (Wc := fun _ k => k true) t k vs items (fun _ => true) h ok B hg hk hi G tb tg0 (fun _ _ _ => ts_nil) he sub hs hst) kk ⟨w1, fun _ _ => rfl, fun x hx _ => w3 x hx, by rw [List.filter_eq_self.mpr (fun _ _ => rfl)]; exact w4⟩
end
end
end Sp
set_option maxHeartbeats 4000000
namespace Sp
open PySem L2
open PySem.W (Datum DatumOrd SomeDatum)
section
variable {Y : DX} {s : DSt} {e a b c d o : Expr} {es : List Expr} {pos p apos cpos : Pos}
section
variable {κ ν : Type} [DecidableEq κ] [Kk κ] [Enc κ] [KkV κ] [Enc ν]
def tSumValsF (td : TE) : TE := fun σ H Q => td σ H fun x H1 => ∃ a kvs, ∃ is : List Int, x = V.ref a ∧ Rd H1 a (.dK kvs) ∧ kvs.map (·.2) = is.map V.int ∧ Q (.int is.sum) H1
theorem pe_sumVals {X : Cx} {td : TE} (hc : X.calm = true) (hg : Gl X "sum") (hm : X.mg "sum" = none) (hd : PE X o td) (hbase : attributeBase o "values" X.env (eval o X.env) = eval o X.env := by exact ab_ok rfl) (hline : (apos.endLine == cpos.line) = true := by rfl)
    (hse : starEach [Expr.Call (.Attribute o "values" apos) [] [] cpos] X.env = [(false, eval (Expr.Call (.Attribute o "values" apos) [] [] cpos) X.env)] := by exact star_1 rfl) :
    PE X (.Call (.Name "sum" p) [.Call (.Attribute o "values" apos) [] [] cpos] [] pos) (tSumValsF td) := by
  refine ⟨fun pins s σ H Q I h => ?_⟩
  refine wpAny_Call_Name_kw (ld_blt I hg hm (u := .builtin "sum") (by first | rfl | decide +kernel) ?_ (by first | decide +kernel | decide) (by first | decide +kernel | decide))
  rw [hse]
  refine PySem.callWith_builtin1 (wpAny_Call_method0_late hbase hline (thn (hd.run pins s σ H _ I h) fun v s1 ⟨x, H1, I1, r1, a, kvs, is, ex, ha, hv, q⟩ => ?_))
  subst ex
  obtain rfl : v = Value.ref a := r1
  obtain ⟨hz, hsys, vs, rel, dof⟩ := dk_rd I1.hok ha
  obtain ⟨ep, dat⟩ := dof.dictAt
  have dat' := dat
  obtain ⟨ob, es, ho, ex, hdat, hko, hpr, hnd⟩ := dat'
  refine ⟨"dict", "dict.values", F.plainAttrs_dict, F.slot_dict_values, F.type_dict_values, ⟨ob, ho, ex.1⟩, fun b e => ?_, Calls.callWith_builtin rfl (PySem.evalArgs_none ?_)⟩
  · cases e
    exact ⟨ob, ho, ex.2.1⟩
  refine call_meetsIn F.slot_dict_values ⟨ob, ho, ex.1⟩ F.entry_dict_values (F.args_dict_values_1 _) (meets_dict_values (mixKind X.prog X.w) a hsys) ⟨⟨vs, dof⟩, ?_⟩
  have k1 : ∀ b u, s1.heap.get? b = some u → (s1.heap.push { cls := .type "dict_values", data := .fields #[.ref a] }).get? b = some u := fun b u e => Heap.get?_push_of_some _ e
  have dat1 : (s1.heap.push { cls := .type "dict_values", data := .fields #[.ref a] }).DictAt (mixKind X.prog X.w) a vs ep := dat.keep k1
  have hlv : vs.length = is.length := by
    have e1 := congrArg List.length hv
    rw [List.length_map, List.length_map] at e1
    rw [← e1]
    exact (KV.length rel).symm
  have hval : ∀ (i : Nat) (v : Value), (∃ k, vs[i]? = some (k, v)) → ∃ t, v = Value.int (is.getD i 0) t := fun i v ⟨k, hk⟩ => by
    obtain ⟨x, h1, h2⟩ := KV.at' rel hk
    have e1 : (kvs.map (·.2))[i]? = some x := by rw [List.getElem?_map, h1] <;> rfl
    rw [hv, List.getElem?_map] at e1
    obtain ⟨j, hj, e2⟩ := Option.map_eq_some_iff.mp e1
    subst e2
    obtain ⟨t, e3⟩ := h2
    refine ⟨t, ?_⟩
    rw [e3, List.getD_eq_getElem?_getD, hj] <;> rfl
  have hlt : a < s1.heap.objs.size := Heap.lt_size ho
  have hsz : (s1.heap.push { cls := .type "dict_values", data := .fields #[.ref a] }).objs.size = s1.heap.objs.size + 1 := Heap.size_push _ _
  refine call_sum_walkAnyS (wpAny_pyIter_values (v := s1.heap.objs.size) (d := a) ⟨_, Heap.get?_push_size _ rfl, rfl, rfl⟩ dat1 ?_)
  refine ⟨_, _, _, _, _, _, _, fun i => is.getD i 0, rfl, (Walks.dictValues (knd := mixKind X.prog X.w) (A := X.A.in1) (I.ok.hd hc) (s1.heap.push { cls := .type "dict_values", data := .fields #[.ref a] }).objs.size a (by rw [hsz]; exact Nat.ne_of_lt (Nat.lt_succ_of_lt hlt)) vs ep).toS,
    ⟨⟨_, Heap.get?_push_size _ rfl, rfl, rfl⟩, dat1.keep fun b u e => Heap.get?_push_of_some _ e⟩, fun b hb => ?_, hval, fun s' t' hm => ?_⟩
  · show b < ((s1.heap.push _).push _).objs.size
    rw [Heap.size_push, Heap.size_push]
    rw [hsz] at hb
    rcases List.mem_cons.mp hb with e | hb
    · rw [e]
      exact Nat.lt_succ_self _
    · have e : b = a := List.mem_singleton.mp hb
      rw [e]
      exact Nat.lt_succ_of_lt (Nat.lt_succ_of_lt hlt)
  · rw [Moved.eq_with hm]
    refine ⟨.int _, H1, I1.kept (t' := s'.toks) fun b u e => hm.heap b u (fun hmem => ?_) (Heap.get?_push_of_some _ (k1 b u e)), ⟨_, rfl⟩, ?_⟩
    · have e1 : b = (s1.heap.push { cls := .type "dict_values", data := .fields #[.ref a] }).objs.size := List.mem_singleton.mp hmem
      have e2 := Heap.lt_size e
      rw [hsz] at e1
      rw [e1] at e2
      exact absurd e2 (Nat.not_lt.mpr (Nat.le_succ _))
    · rw [PyProof.Rows.preSum_getD, List.take_of_length_le (by omega)]
      exact q
end
end
end Sp
namespace HN
open PySem PySem.Spec PyProof.Rows PySem.SeqAt
section
variable {M : Model} {prog : Program} {w : World} {A : Around} {E : Value → Shared → Prop} {s : Shared} {K : PySem.W.Frag} {x C dx : Addr} {ox : Obj} {od : Option Obj} {b : Str} {u : Tok}
theorem isSame_strI {R : Bool → Shared → Prop} (h : R false s) : wpAny M A (isSame (.ref x) (.str b u)) R E s := wpAny_of_eq (rfl : isSame (.ref x) (.str b u) = pure false) h
theorem entry_strI {Q : Fin → Shared → Prop} (hq : Q (.done (.ret .notImplemented)) s) : wpAny M A (Builtin.«object.__eq__» ⟨[.ref x, .str b u], []⟩) Q E s := by
  unfold Builtin.«object.__eq__»
  repeat (first | with_reducible refine isSame_strI ?_ | wp_step)
  exact hq
theorem call_objEqS {Q : Value → Shared → Prop} (X : K.In s.heap) (I : PySem.W.InstAt s.heap x ox C od) (hm : PySem.W.mroIn K C (.type "object") = some true) (hq : Q .notImplemented s) :
    wpAny (model prog w) A (call (.builtin "object.__eq__") [.ref x, .str b u]) Q E s :=
  wpAny_call (codeAny_call_builtin F.cmp_object.eq.plain F.cmpEntry_eq (PySem.W.check_slot F.cmpKind_eq F.cmpSplit_eq (I.type.andThen (PySem.W.looks_mroIn X hm)) (F.cmpArgs_eq _ _) (entry_strI hq)))
theorem entry_strN {Q : Fin → Shared → Prop} (hu : A.units < cLine) (X : K.In s.heap) (I : PySem.W.InstAt s.heap x ox C od) (hm : PySem.W.mroIn K C (.type "object") = some true) (hs : PySem.W.findIn K (.ref C) "__eq__" = some (some (.builtin "object.__eq__"))) (hq : Q (.done (.ret .notImplemented)) s) :
    wpAny (model prog w) A (Builtin.«object.__ne__» ⟨[.ref x, .str b u], []⟩) Q E s := by
  unfold Builtin.«object.__ne__»
  repeat (first | with_reducible refine wpAny_cRoomFor hu ?_ | with_reducible refine ifBound_objEq X I hs (call_objEqS X I hm ?_) | wp_step)
  exact hq
theorem call_objNeS {Q : Value → Shared → Prop} (hu : A.units + 1 < cLine) (X : K.In s.heap) (I : PySem.W.InstAt s.heap x ox C od) (hm : PySem.W.mroIn K C (.type "object") = some true) (hs : PySem.W.findIn K (.ref C) "__eq__" = some (some (.builtin "object.__eq__"))) (hq : Q .notImplemented s) :
    wpAny (model prog w) A (call (.builtin "object.__ne__") [.ref x, .str b u]) Q E s :=
  wpAny_call (codeAny_call_builtin F.cmp_object.ne.plain F.cmpEntry_ne (PySem.W.check_slot F.cmpKind_ne F.cmpSplit_ne (I.type.andThen (PySem.W.looks_mroIn X hm)) (F.cmpArgs_ne _ _) (entry_strN (A := A.in1) hu X I hm hs hq)))
theorem ifBound_objNe {args : List Value} {Q : Option Value → Shared → Prop} (X : K.In s.heap) (I : PySem.W.InstAt s.heap x ox C od) (hs : PySem.W.findIn K (.ref C) "__ne__" = some (some (.builtin "object.__ne__")))
    (h : wpAny M A (call (.builtin "object.__ne__") (.ref x :: args)) (fun v => Q (some v)) E s) : wpAny M A (callSpecialIfBound? (.ref x) "__ne__" args) Q E s := by
  simp only [callSpecialIfBound?, bindSpecialIfBound?]
  refine wpAny_holding (wpAny_bind (wpAny_bind (wpAny_bind (I.type.here ((PySem.W.looks_findIn X hs).here ?_)))))
  refine wpAny_bind (wpAny_askSetting (wpAny_ite ?_))
  have fin : wpAny M A (call (.builtin "object.__ne__") ([.ref x] ++ args) >>= fun v => pure (some v)) Q E s := wpAny_bind (wpAny_mono h (fun v s' h' => wpAny_pure h') fun _ _ h' => h')
  split
  · exact wpAny_bind (wpAny_of_eq (F.cmp_object.ne.bind _) (wpAny_pure (by exact fin)))
  · exact wpAny_tryCatch (wpAny_bind (wpAny_of_eq (F.cmp_object.ne.bind _) (wpAny_pure (by exact fin))))
theorem sub_strI : PySem.W.subIn K (.type "str") (.ref C) = some false := by
  have e : fastBuiltinMro "str" = some [.type "str", .type "object"] := by decide +kernel
  show (fastBuiltinMro "str").map (·.contains (.ref C)) = some false
  rw [e]
  first
    | rfl
    | simp
theorem str_ne_declines_inst (l : Addr) : Meets (Builtin.«str.__ne__» ⟨[.str b u, .ref l], []⟩) (fun _ R s => s.heap.get? l = some (PySem.W.instObj C dx) ∧ R (.ok (.ret .notImplemented)) s) :=
  .of_wp fun prog w A R s h => by obtain ⟨hp, g, d, tk, os⟩ := s; obtain ⟨hl, h⟩ := h; wp_walk using wpAny_loadPart' hl, wpAny_load hl; exact ⟨_, rfl, h⟩
end
end HN
set_option maxHeartbeats 4000000
namespace HN
open PySem PySem.Spec PyProof.Rows PySem.SeqAt
section
variable {M : Model} {prog : Program} {w : World} {A : Around} {E : Value → Shared → Prop} {s : Shared} {K : PySem.W.Frag} {x C dx : Addr} {od : Option Obj} {b : Str} {u : Tok}
def cmpK (K : PySem.W.Frag) (C : Addr) : Prop := PySem.W.mroIn K C (.type "object") = some true ∧ PySem.W.findIn K (.ref C) "__eq__" = some (some (.builtin "object.__eq__")) ∧ PySem.W.findIn K (.ref C) "__ne__" = some (some (.builtin "object.__ne__"))
def cmpB (K : PySem.W.Frag) (C : Addr) : Bool := (PySem.W.mroIn K C (.type "object") == some true) && (PySem.W.findIn K (.ref C) "__eq__" == some (some (.builtin "object.__eq__"))) && (PySem.W.findIn K (.ref C) "__ne__" == some (some (.builtin "object.__ne__")))
theorem cmpB_ok {K : PySem.W.Frag} {C : Addr} (h : cmpB K C = true) : cmpK K C := by
  unfold cmpB at h
  rw [Bool.and_eq_true, Bool.and_eq_true] at h
  exact ⟨eq_of_beq h.1.1, eq_of_beq h.1.2, eq_of_beq h.2⟩
theorem rc_strN (hu : A.units + 64 < cLine) (X : K.In s.heap) (I : PySem.W.InstAt s.heap x (PySem.W.instObj C dx) C od) (c : cmpK K C) {Q : Value → Shared → Prop} (h : Q (.bool true) s) :
    wpAny (model prog w) A (richCompare .NotEq (.ref x) (.str b u)) Q E s := by
  obtain ⟨hm, hs, hn⟩ := c
  have one : wpAny (model prog w) A (tryCompare (.ref x) "__ne__" (.str b u)) (fun r s' => r = none ∧ s' = s) E s := by
    unfold tryCompare
    exact wpAny_bind (ifBound_objNe X I hn (call_objNeS (by omega) X I hm hs (wpAny_pure ⟨rfl, rfl⟩)))
  have two : wpAny (model prog w) A (tryCompare (.str b u) "__ne__" (.ref x)) (fun r s' => r = none ∧ s' = s) E s :=
    wpAny_tryCompare_declines (typeIs_str s b u) F.slot_str_ne_refl (call_meets F.slot_str_ne_refl (typeIs_str s b u) F.entry_str_ne (F.args_str_ne_2 _ _) (str_ne_declines_inst (C := C) (dx := dx) x) ⟨I.at_, rfl, rfl, rfl⟩)
  simp only [richCompare, cmpInfo_NotEq, oneThing_ref]
  refine wpAny_holding (wpAny_bind (wpAny_cRoomFor (by omega) ?_))
  refine wpAny_bind (I.type.here ?_)
  refine wpAny_bind (wpAny_typeOf (typeIs_str s b u) ?_)
  split
  · refine wpAny_bind ((PySem.W.looks_subIn X sub_strI).here ?_)
    simp only [Bool.false_eq_true, if_false, Bool.not_false, if_true]
    refine wpAny_bind (m := tryCompare (.ref x) _ (.str b u)) (wpAny_mono one (fun r s1 z => ?_) fun _ _ e => e)
    obtain ⟨z1, z2⟩ := z
    subst z1
    subst z2
    refine wpAny_bind (m := tryCompare (.str b u) _ (.ref x)) (wpAny_mono two (fun r s2 z => ?_) fun _ _ e => e)
    obtain ⟨z1, z2⟩ := z
    subst z1
    subst z2
    exact wpAny_bind (wpAny_rule (wpAny_bind (wpAny_of_eq (rfl : isSame (.ref x) (.str b u) = pure false) (wpAny_pure h))))
  · rename_i q
    exact absurd (by simp) q
end
end HN
namespace Sp
open PySem L2
def isT {α : Type} : α ⊕ List Nat → List Nat → Bool
  | .inl _, _ => false
  | .inr z, y => decide (z = y)
section
variable {Y : DX} {s : DSt} {a b : Expr}
theorem cmp_strN {X : Cx} (hu : X.A.units + 64 < cLine) : OpR X (compareOp .NotEq) (fun x y H Q => ∃ p C dx fs, ∃ t : List Nat, x = .ref p ∧ H p = some (.ins C dx fs) ∧ HN.cmpK X.K C ∧ y = .str (toStr t) ∧ Q (.bl true) H) := by
  intro pins s σ H x y v u Q I rx ry ⟨p, C, dx, fs, t, ex, hp, hc, ey, q⟩
  subst ex ey
  cases rx
  obtain ⟨tk, rfl⟩ : ∃ tk, u = .str (toStr t) tk := ry
  obtain ⟨mA, O, _⟩ := ins_get I.hok hp
  obtain ⟨od, J, _⟩ := O.look
  show wpAny _ _ (richCompare .NotEq _ _) _ _ _
  refine HN.rc_strN hu I.kIn J hc ?_
  exact ⟨.bl _, H, I, rfl, q⟩
theorem opr_or {X : Cx} {op : Value → Value → Sem Value} {r1 r2 : R2} (h1 : OpR X op r1) (h2 : OpR X op r2) : OpR X op (fun x y H Q => r1 x y H Q ∨ r2 x y H Q) := by
  intro pins s σ H x y v u Q I rx ry h
  rcases h with h | h
  · exact h1 pins s σ H x y v u Q I rx ry h
  · exact h2 pins s σ H x y v u Q I rx ry h
section
variable {γ : Type} [og : Ob γ] [eg : Enc γ] [ObOk γ] {Wa : (γ ⊕ List Nat → Prop) → Prop} {Wb : (List Nat → Prop) → Prop}
theorem k_neT (ok : YOk Y) (hc : HN.cmpK Y.X.K (He.ga Y.X.K (Ob.cls γ))) (ha : EvC Y s a Wa) (hb : EvC Y s b Wb) : EvK Y s .NotEq a b fun k => Wa fun x => Wb fun y => k (!isT x y) := fun k w =>
  cmp_of (opr_or (cmp_strN ok.room.units) (op_neT (α := List Nat) ok.room.units (by decide))) (ha.q w fun i w => hb.q w fun j w => ⟨_, ⟨rfl, w⟩, fun σ H F v u Q S r1 r2 q => by
    cases i with
    | inl m =>
      obtain ⟨p, dx, vs, ev, hp, _⟩ := ia_ob σ H F v S (show (pu m).rep Y.X.K F v from r1)
      exact .inl ⟨p, _, dx, vs, j, ev, hp, hc, r2, q⟩
    | inr z =>
      refine .inr ⟨z, j, DA.pu (α := List Nat) σ H F v S r1, DA.pu (α := List Nat) σ H F u S r2, ?_⟩
      have e : (!isT (α := γ) (.inr z) j) = decide (z ≠ j) := by simp [isT]
      rw [← e]; exact q⟩)
end
section
variable {e o : Expr} {p pos apos cpos p2 : Pos} {κ : Type} [DecidableEq κ] [Kk κ] [Enc κ] [KkV κ]
theorem c_sumV {W : (List (κ × Int) → Prop) → Prop} (ok : YOk Y) (T : Bis Y.X.mg) (hg : Gl Y.X "sum") (ho : EvD Y s o W) (hbase : attributeBase o "values" Y.X.env (eval o Y.X.env) = eval o Y.X.env := by exact ab_ok rfl) (hline : (apos.endLine == cpos.line) = true := by rfl)
    (hse : starEach [Expr.Call (.Attribute o "values" apos) [] [] cpos] Y.X.env = [(false, eval (Expr.Call (.Attribute o "values" apos) [] [] cpos) Y.X.env)] := by exact star_1 rfl) :
    EvC Y s (.Call (.Name "sum" p) [.Call (.Attribute o "values" apos) [] [] cpos] [] pos) fun k => W fun m => k (m.map (fun q => q.2)).sum := fun k w F0 σ H F e0 S => by
  refine .of (pe_sumVals ok.calm hg (T.no _ (by decide)) pe_we hbase hline hse) ?_
  refine (ho _ w F0 σ H F e0 S).mono fun v H1 ⟨A, _, F1, e1, r1, S1, m, hA, es, w⟩ => ?_
  subst es
  obtain ⟨d, kvs, ev, hd, rk⟩ := hA σ H1 F1 v S1 r1
  refine ⟨d, kvs, m.map (fun q : κ × Int => q.2), ev, hd, ?_, pu (α := Int) ((m.map (fun q : κ × Int => q.2)).sum), _, F1, e1, ?_, S1, _, rfl, rfl, w⟩
  rotate_left
  · exact rfl
  have key : ∀ {ks : List (Key × V)} {m : List (κ × Int)}, KVs Y.X.K F1 ks m → ks.map (·.2) = (m.map (·.2)).map V.int := by
    intro ks m h
    induction h with
    | nil => rfl
    | cons r _ ih => rw [List.map_cons, List.map_cons, List.map_cons, ih, show _ = V.int _ from r.2]
  exact key rk
end
end
end Sp
set_option maxHeartbeats 4000000
namespace RX
open PySem PySem.Spec PyProof.Rows
def IsRx (h : Heap) (a : Addr) (x : Str) (i : Int) : Prop := ∃ (o : Obj) (t : Tok), h.get? a = some o ∧ o.cls = .type "reversed" ∧ o.data = .fields #[.str x t, rawInt i]
section
variable {prog : Program} {w : World} {A : Around} {E : Value → Shared → Prop} {s : Shared} {x : Str} {t : Tok}
theorem IsRx.ty {a : Addr} {i : Int} (r : IsRx s.heap a x i) : s.TypeIs (.ref a) "reversed" := let ⟨o, _, ho, hc, _⟩ := r; ⟨o, ho, hc⟩
end
end RX
namespace Sp
open PySem L2
open PyProof.Rows (Call_ args_cons args_nil)
section
variable {X : Cx}
end
section
variable {Y : DX} {s : DSt} {a : Expr} {pos p p2 pos2 : Pos} {W : (List Nat → Prop) → Prop}
end
end Sp
set_option maxHeartbeats 4000000
namespace Sp
open PySem L2
section
variable {κ α : Type} [DecidableEq κ]
def grp : List (κ × List α) → κ → α → List (κ × List α)
  | [], k, v => [(k, [v])]
  | p :: r, k, v => if p.1 = k then (p.1, p.2 ++ [v]) :: r else p :: grp r k v
def gval : List (κ × List α) → κ → List α
  | [], _ => []
  | p :: r, k => if p.1 = k then p.2 else gval r k
section
variable [Enc α]
end
end
section
variable {Y : DX} {s : DSt} {o e f a : Expr} {pos p apos cpos : Pos} {D : DE} {sts : List Stmt} {Q : Pv → DSt → Prop}
variable {κ α : Type} [DecidableEq κ] [Kk κ] [Enc κ] [KkV κ] [Enc α]
end
section
variable {Y : DX} {s : DSt} {e : Expr} {pos p2 : Pos} {D : DE} {sts : List Stmt} {x : Str}
variable {κ α : Type} [DecidableEq κ] [Kk κ] [Enc κ] [KkV κ] [Enc α]
end
end Sp
namespace Sp
open PySem L2
section
variable {Y : DX} {s : DSt} {a b c : Expr} {pos : Pos} {o1 o2 : CmpOp} {r1 r2 : Int → Int → Bool} {Wa Wb Wc : (Int → Prop) → Prop}
theorem t_chainV (v : Int) (ha : EvC Y s a Wa) (hb : EvC Y s b Wb) (hc : EvC Y s c Wc) (h1 : OpR Y.X (compareOp o1) (fun x y H Q => ∃ i j, x = .int i ∧ y = .int j ∧ Q (.bl (r1 i j)) H)) (h2 : OpR Y.X (compareOp o2) (fun x y H Q => ∃ i j, x = .int i ∧ y = .int j ∧ Q (.bl (r2 i j)) H)) (hm : lastMarks [o1, o2] [b, c] = false := by with_unfolding_all rfl) :
    EvT Y s (.Compare a [o1, o2] [b, c] pos) fun k => Wa fun i => Wb fun j => (r1 i j = true → Wc fun z => z = v) ∧ k (r1 i j && r2 j v) := t_chain h1 h2 ha hb hc hm
end
end Sp
set_option maxHeartbeats 4000000
namespace Sp
open PySem L2
section
variable {Y : DX} {s : DSt} {scope : Scope} {β : Type} [Enc β] {tg elt iter : Expr} {ifs : List Expr} {gpos pos p : Pos}
variable {W : (List β → Prop) → Prop} {Wc : β → (Bool → Prop) → Prop}
theorem c_allX0 {We : β → (Bool → Prop) → Prop} (t : TgD β) (k : Nat) (vs : List Nat) (ok : YOk Y) (B : Bis Y.X.mg) (hg : Gl Y.X "all") (hk : k + 2 ≤ Y.k) (hi : ItC Y s tg iter W) (G : GenOk Y.X.N Y.X.env.scope scope vs) (tb : TbG Y.X Y.T (Y.X.env.qual ++ "<genexpr>") gpos noOw) (tg0 : ∀ z, TgOk (genY Y k scope z) tg (t.g Y.X.K) t.ws t.f)
    (he : ∀ z, YOk (genY Y k scope z) → ∀ x, EvC (genY Y k scope z) ⟨t.f x (wipeR s.ρ vs), s.gs⟩ elt (We x)) (sub : ∀ j ∈ t.ws, j ∈ vs := by decide) (hs : ∀ x, genFold iter Y.X.env x = pure x := by intro _; rfl)
    (hst : starEach [.GeneratorExp elt [⟨tg, iter, [], 0⟩] scope gpos] Y.X.env = (false, eval (.GeneratorExp elt [⟨tg, iter, [], 0⟩] scope gpos) Y.X.env) :: starEach [] Y.X.env := by exact star_c rfl) :
    EvC Y s (.Call (.Name "all" p) [.GeneratorExp elt [⟨tg, iter, [], 0⟩] scope gpos] [] pos) fun kk => ∃ items : List β, (W fun is => is = items) ∧ ∃ h : β → Bool, (∀ x ∈ items, We x fun y => y = h x) ∧ kk (items.all h) :=
  fun kk ⟨items, w1, h, w3, w4⟩ => c_all0 t k vs items h ok B hg hk hi G tb tg0 he sub hs hst kk ⟨w1, w3, w4⟩
end
section
variable {Y : DX} {s : DSt} {o e : Expr} {pos apos : Pos} {Wo : (List Nat → Prop) → Prop}
end
end Sp
set_option maxHeartbeats 4000000
namespace EH
open PySem
open AutoSeq1 (wpAny_loadPart')
section
variable {prog : Program} {w : World} {A : Around} {E : Value → Shared → Prop} {s : Shared}
end
end EH
namespace Sp
open PySem PySem.Spec PyProof.Rows L2
end Sp
set_option maxHeartbeats 4000000
namespace MN
open PySem PySem.Spec PyProof.Rows
section
variable {prog : Program} {w : World} {A : Around} {E : Value → Shared → Prop} {s : Shared}
end
end MN
namespace Sp
open PySem L2
section
variable {Y : DX} {s : DSt} {e : Expr} {es : List Expr} {pos p : Pos}
end
end Sp
set_option maxHeartbeats 4000000
namespace Sp
open PySem L2
section
variable {Y : DX} {s : DSt} {a b e tg : Expr} {pos p p2 pos2 : Pos} {D : DE} {sts : List Stmt} {x y : Str} {α β : Type} [Enc α] [Enc β]
section
variable {W : (Int → Prop) → Prop}
end
end
section
variable {Y : DX} {s : DSt} {e o : Expr} {pos p p2 apos ap2 pos2 : Pos} {D : DE} {sts : List Stmt} {x y : Str} {α : Type} [Enc α] [Inhabited α] {xs ys : List α} {q q2 : Addr} {W : (Int → Prop) → Prop}
end
end Sp
set_option maxHeartbeats 4000000
namespace Sp
open PySem L2
open PySem.W (Datum DatumOrd SomeDatum)
section
variable {o : Expr} {p pos apos cpos : Pos}
section
variable {Y : DX} {s : DSt} {κ ν : Type} [DecidableEq κ] [Kk κ] [Enc κ] [KkV κ] [Enc ν]
end
end
structure DcT (κ ν : Type) where
  kvs : List (κ × ν)
instance {κ ν : Type} : Inhabited (DcT κ ν) := ⟨⟨[]⟩⟩
class Kt (κ : Type) where
  key : κ → List Key
  inj : ∀ {a b : κ}, key a = key b → a = b
instance {α β : Type} [Kk α] [Kk β] : Kt (α × β) := ⟨fun x => [Kk.key x.1, Kk.key x.2], fun {a b} h => by
  injection h with h1 h2
  injection h2 with h2 _
  exact Prod.ext (Kk.inj h1) (Kk.inj h2)⟩
abbrev KTs {κ ν : Type} [Kt κ] [Enc ν] (K : Frag) (F : Hp) : List (List Key × V) → List (κ × ν) → Prop := Paired fun p q => p.1 = Kt.key q.1 ∧ Enc.rep K F p.2 q.2
theorem KTs.mono {κ ν : Type} [Kt κ] [Enc ν] {K : Frag} {F F' : Hp} {vs : List (List Key × V)} {xs : List (κ × ν)} (h : KTs K F vs xs) (e : Ext F F') : KTs K F' vs xs := Paired.mapP h fun _ _ r => ⟨r.1, Enc.mono r.2 e⟩
instance encDcT {κ ν : Type} [Kt κ] [Enc ν] : Enc (DcT κ ν) := ⟨fun K F v d => ∃ p od kvs, v = .ref p ∧ F p = some (.frz od (.dT kvs)) ∧ KTs K F kvs d.kvs,
  fun ⟨p, od, kvs, h1, h2, h3⟩ e => ⟨p, od, kvs, h1, e _ _ h2, h3.mono e⟩⟩
def dctT {κ ν : Type} [Kt κ] [Enc ν] (d : List (κ × ν)) : Cell := ⟨fun K F o => ∃ kvs, o = .dT kvs ∧ KTs K F kvs d, fun ⟨vs, h1, h2⟩ e => ⟨vs, h1, h2.mono e⟩⟩
def DFT (Y : DX) (s : DSt) {κ ν : Type} [Kt κ] [Enc ν] (A : Pv) (d : List (κ × ν)) : Prop := ∀ σ H F v, Sta Y s σ H F → A.rep Y.X.K F v → ∃ p kvs, v = .ref p ∧ Rd H p (.dT kvs) ∧ KTs Y.X.K F kvs d
def EvMT (Y : DX) (s : DSt) (e : Expr) {κ ν : Type} [Kt κ] [Enc ν] (W : (List (κ × ν) → Prop) → Prop) : Prop := ∀ k : List (κ × ν) → Prop, W k → Ev Y s e fun A s' => ∃ p m, A = raw (.ref p) ∧ s' = ⟨s.ρ, (p, dctT m) :: s.gs⟩ ∧ k m
section
variable {κ ν : Type} [DecidableEq κ] [Kt κ] [Enc ν] {K : Frag} {F : Hp}
end
section
variable {Y : DX} {s : DSt} {e a b c o f : Expr} {es : List Expr} {pos p apos cpos p2 pn ps : Pos} {D : DE} {sts : List Stmt} {x : Str} {q : Addr}
variable {κ ν : Type} [DecidableEq κ] [Kt κ] [Enc ν]
theorem DFT.pu {d : DcT κ ν} : DFT Y s (pu d) d.kvs := fun σ H F v S ⟨p, od, kvs, e, hp, r⟩ => ⟨p, kvs, e, .inr ⟨od, S.ext _ _ hp⟩, r⟩
theorem DFT.own {d : List (κ × ν)} {p : Addr} (i : Nat) (h : s.gs[i]? = some (p, dctT d)) : DFT Y s (raw (.ref p)) d := fun σ H F v S r => by
  obtain ⟨_, o, ho, _, vs, eo, rv⟩ := S.cell h
  subst eo
  exact ⟨p, vs, r, .inl ho, rv⟩
end
section
variable {P : Program} {w : World} {K : Frag} {tg : Expr} {d : Addr} {o : Obj} {es : Array DictEntry} {ep : Nat}
end
section
variable {Y : DX} {s : DSt} {a tg : Expr} {apos cpos : Pos} {κ ν : Type} [DecidableEq κ] [Kt κ] [Enc ν]
end
section
variable {κ : Type} [DecidableEq κ]
end
section
variable {o : Expr} {p pos apos cpos : Pos}
section
variable {Y : DX} {s : DSt} {κ ν : Type} [DecidableEq κ] [Kt κ] [Enc ν]
end
end
end Sp
set_option maxHeartbeats 4000000
namespace Sp
open PySem L2
section
variable {Y : DX} {s : DSt} {tg iter elt : Expr} {ifs : List Expr} {pos p gpos : Pos} {α β : Type} [Enc α] [Enc β] {k : Nat} {scope : Scope} {W : (List β → Prop) → Prop}
end
end Sp
set_option maxHeartbeats 4000000
namespace Sp
open PySem L2
open PySem.W PySem.Calls PyProof.Rows
def numFd (fld par : Str) (C : Addr) (K : Frag) (pf : Str) : FuncData → Bool
  | ⟨nm, qual, ⟨[], [⟨a0, _, _⟩, ⟨a1, _, _⟩], none, [], [], none, []⟩, .stmts [.Expr (.Call (.Attribute (.Call (.Name su _) [] [] _) ini p2) [.Constant (.str _) _ _] [] p4) _, .Assign [.Attribute (.Name se _) f2 _] (.Name pa _) _], sc, gl, [(k, cc)], .none, .none, _, _, _, .ref c, _, bl⟩ =>
    (p2.endLine == p4.line) && decide (nm = "__init__") && decide (a0 = "self") && decide (a1 = par) && decide (su = "super") && decide (ini = "__init__") && decide (se = "self") && decide (f2 = fld) && decide (pa = par) && decide (k = "__class__") && decide (gl = mainGlobals) && decide (bl = builtinsNs) &&
    decide (sc.kind = .function) && decide (sc.isGenerator = false) && decide (sc.isCoroutine = false) && decide (sc.names.lookup ("super" : Str) = some .globalImplicit) && decide (sc.names.lookup ("__class__" : Str) = some .free) && decide (sc.names.lookup ("self" : Str) = some .local) && decide (sc.names.lookup par = some .local) && (sc.names.all fun p => decide (p.2 ≠ .cell)) &&
    codeIn K (.ref c) qual && (match K.lookup c with
      | some ⟨_, _, .fields vs, _⟩ => (match (vs[2]? : Option Value) with
        | some (Value.str file _) => (pf == file)
        | _ => false)
      | _ => false) && (match K.lookup cc with
      | some ⟨_, _, .cell (some (.ref D)), _⟩ => decide (D = C)
      | _ => false)
  | _ => false
def numCls (K : Frag) (C : Addr) : Bool := match K.lookup C with
  | some ⟨.type "type", _, .cls cd, sl⟩ => (match cd.mro, sl.toList with
    | .ref C' :: bm, [_, _, _, _, some (.builtin n), _] => decide (C' = C) && decide (n = "ValueError.__new__") && decide (cd.hasDel = false) && decide (cd.hasDict = true) && PySem.HandSPX.refsVE bm && decide (alongIn K "__init__" bm = some (some (.builtin "ValueError.__init__")))
    | _, _ => false)
  | _ => false
def numB (pf : Str) (K : Frag) (C : Addr) (fld par : Str) : Bool :=
  numCls K C && decide (findIn K (.ref C) "__setattr__" = some (some (.builtin "object.__setattr__"))) && decide (subIn K (.ref C) (.type "BaseException") = some true) && decide (typeIn K (.ref C) = some (.type "type")) && keepIn K (.ref C) && xfB K C && decide (findIn K (.ref C) fld = some none) &&
  decide (nsIn K cStatics "thirdparty.any" = some none) && decide (nsIn K mainGlobals "super" = some none) && decide (subIn K (.ref C) (.type "ValueError") = some true) && (match findIn K (.ref C) "__init__" with
    | some (some (.ref f)) => decide (typeIn K (.ref f) = some (.type "function")) && (match K.lookup f with
      | some ⟨_, _, .func fd, _⟩ => numFd fld par C K pf fd
      | _ => false)
    | _ => false)
structure NumC (pf : Str) (K : Frag) (C : Addr) (fld par : Str) : Prop where
  T : OexC K C
  xf : XfC K C
  no : findIn K (.ref C) fld = some none
  op : nsIn K cStatics "thirdparty.any" = some none
  su : nsIn K mainGlobals "super" = some none
  ve : subIn K (.ref C) (.type "ValueError") = some true
  cl : ∃ cd bm, clsIn K C = some cd ∧ cd.mro = .ref C :: bm ∧ cd.hasDict = true ∧ PySem.HandSPX.refsVE bm = true ∧ alongIn K "__init__" bm = some (some (.builtin "ValueError.__init__"))
  fn : ∃ (f cc c : Addr) (qual : Str) (an0 an1 : Option Expr) (ap0 ap1 : Pos) (p0 p1 p2 p3 p4 p5 q1 q2 q3 q4 : Pos) (m : Str) (j : Nat) (sc : Scope) (doc pm ct oc : Value) (an od : Option Addr) (osl : Array (Option Value)),
    findIn K (.ref C) "__init__" = some (some (.ref f)) ∧ typeIn K (.ref f) = some (.type "function") ∧
    K.lookup f = some ⟨oc, od, .func (fnX "__init__" qual ⟨[], [⟨"self", an0, ap0⟩, ⟨par, an1, ap1⟩], none, [], [], none, []⟩
      [.Expr (.Call (.Attribute (.Call (.Name "super" p0) [] [] p1) "__init__" p2) [.Constant (.str m) j p3] [] p4) p5, .Assign [.Attribute (.Name "self" q1) fld q2] (.Name par q3) q4] sc [("__class__", cc)] .none .none doc pm an (.ref c) ct), osl⟩ ∧
    (p2.endLine == p4.line) = true ∧ sc.kind = .function ∧ sc.isGenerator = false ∧ sc.isCoroutine = false ∧ sc.names.lookup ("super" : Str) = some .globalImplicit ∧ sc.names.lookup ("__class__" : Str) = some .free ∧ sc.names.lookup ("self" : Str) = some .local ∧ sc.names.lookup par = some .local ∧ (∀ x ∈ sc.names, x.2 ≠ .cell) ∧
    codeIn K (.ref c) qual = true ∧ (∃ ccl cdd vs ccs file tf, K.lookup c = some ⟨ccl, cdd, .fields vs, ccs⟩ ∧ vs[2]? = some (.str file tf) ∧ (pf == file) = true) ∧ ∃ cl cld csl, K.lookup cc = some ⟨cl, cld, .cell (some (.ref C)), csl⟩
end Sp
set_option maxHeartbeats 4000000
namespace PySem
namespace NumX
open PySem.W PySem.Calls PyProof.Rows
section
variable {prog : Program} {w : World} {A : Around} {E : Value → Shared → Prop} {h : Heap} {g : Array GenState} {d : Drawn} {t : Nat} {os : OsState}
variable {nm q : Str} {C N : Addr} {bs bm : List Value} {hdct : Bool} {sn : List Str} {sub : List Value} {ab : Bool} {col : Option Bool} {dd : Option Addr} {k0 k1 k2 k3 k5 : Option Value}
end
end NumX
end PySem
namespace Sp
open PySem L2
open PySem.W PySem.Calls PyProof.Rows
section
variable {prog : Program} {w : World} {A : Around} {pf : Str} {K : Frag} {C : Addr} {fld par : Str} {mg : Str → Option Value} {R : Result → Shared → Prop} {hp : Heap} {g : Array GenState} {dr : Drawn} {tk : Nat} {os : OsState}
end
end Sp
set_option maxHeartbeats 4000000
namespace Sp
open PySem L2
open PySem.W PySem.Calls PyProof.Rows
structure Num (P : Program) (K : Frag) (C : Addr) (fld par : Str) : Prop where
  c : NumC P.main.file K C fld par
  top : (P.main.scope.names.lookup ("super" : Str)).isSome = false
  par : par = "row" ∨ par = "part"
section
variable {Y : DX} {s : DSt} {e : Expr} {D : DE} {sts : List Stmt}
end
end Sp
set_option maxHeartbeats 4000000
namespace Sp
open PySem L2
def TTp (C : Addr) (fld ret : Str) : (XK → Hp → VK → Prop) → Hp → VK → Prop := fun tl H Q =>
  tl (fun cls d H' => ∃ r dd, cls = .ref C ∧ d = some dd ∧ H' dd = some (.xd [(fld, .int r)]) ∧ Q (.int r) H') H (fun _ H' => Q (.str ret) H')
structure PartD (X : Cx) (x : Str) (C : Addr) (fld ret : Str) : Prop where
  ex : ∃ (a : Str) (g : Addr) (pg : Arguments) (bg : List Stmt) (sg : Scope) (dV kV doc pm cdv ct oc : Value) (an od : Option Addr) (osl : Array (Option Value)) (Ng : List Str),
    X.mg x = some (.ref g) ∧ PySem.W.keepIn X.K (.ref g) = true ∧ X.K.lookup g = some ⟨oc, od, .func (PySem.W.fnOf x x pg bg sg dV kV doc pm an cdv ct), osl⟩ ∧ PySem.W.codeIn X.K cdv x = true ∧
    L2.Binds X.K (PySem.W.fnOf x x pg bg sg dV kV doc pm an cdv ct) [a] [] ∧ FnScope Ng [a] sg ∧ Ng[0]? = some a ∧ Vis sg a ∧ (a == ("__debug__" : Str)) = false ∧ (a == ("__classdict__" : Str)) = false ∧
    ∀ q, LamX.GivesTo X Ng x sg g cdv bg a q (TTp C fld ret)
section
variable {Y : DX} {s : DSt} {e body : Expr} {pos p lpos : Pos} {Q : Pv → DSt → Prop} {scope : Scope}
variable {α : Type} [Enc α]
end
end Sp
set_option maxHeartbeats 4000000
namespace MN3
open PySem PySem.Spec PyProof.Rows
section
variable {prog : Program} {w : World} {A : Around} {E : Value → Shared → Prop} {s : Shared}
end
end MN3
namespace Sp
open PySem L2
section
variable {Y : DX} {s : DSt} {e : Expr} {es : List Expr} {pos p : Pos}
end
end Sp
namespace Sp
open PySem L2
open PySem.W (Datum DatumOrd SomeDatum)
section
variable {Y : DX} {s : DSt} {e a b c o f : Expr} {es : List Expr} {pos p p2 pos2 apos : Pos} {D : DE} {sts : List Stmt}
theorem EvN.q {α : Type} [Enc α] {W : (List α → Prop) → Prop} {k : List α → Prop} {Q : Pv → DSt → Prop} (h : EvN Y s e W) (w : W k) (q : ∀ p xs, k xs → Q (raw (.ref p)) ⟨s.ρ, (p, lstc xs) :: s.gs⟩) : Ev Y s e Q :=
  (h k w).mono fun A s' ⟨p, xs, ea, es, kx⟩ => by subst ea es; exact q p xs kx
theorem EvM.q {κ ν : Type} [Kk κ] [Enc ν] {W : (List (κ × ν) → Prop) → Prop} {k : List (κ × ν) → Prop} {Q : Pv → DSt → Prop} (h : EvM Y s e W) (w : W k) (q : ∀ p xs, k xs → Q (raw (.ref p)) ⟨s.ρ, (p, dctc xs) :: s.gs⟩) : Ev Y s e Q :=
  (h k w).mono fun A s' ⟨p, xs, ea, es, kx⟩ => by subst ea es; exact q p xs kx
theorem EvMT.q {κ ν : Type} [Kt κ] [Enc ν] {W : (List (κ × ν) → Prop) → Prop} {k : List (κ × ν) → Prop} {Q : Pv → DSt → Prop} (h : EvMT Y s e W) (w : W k) (q : ∀ p xs, k xs → Q (raw (.ref p)) ⟨s.ρ, (p, dctT xs) :: s.gs⟩) : Ev Y s e Q :=
  (h k w).mono fun A s' ⟨p, xs, ea, es, kx⟩ => by subst ea es; exact q p xs kx
section
variable {κ ν : Type} [DecidableEq κ] [Kk κ] [Enc κ] [KkV κ] [Enc ν]
end
class FlatU (α : Type) [Enc α] extends FlatV α where
  of : ∀ {K : Frag} {F : Hp} {v : V} {a : α}, Enc.rep K F v a → v = z a
instance : FlatU Int := ⟨fun h => h⟩
instance : FlatU (List Nat) := ⟨fun h => h⟩
section
variable {δ : Type} [DecidableEq δ] [Enc δ] [DatumOrd δ] [Dat δ]
end
end
end Sp
set_option maxHeartbeats 4000000
namespace Sp
open PySem L2
open PySem.W (Datum DatumOrd SomeDatum)
instance {α β γ : Type} [Kk α] [Kk β] [Kk γ] : Kt (T3 α β γ) := ⟨fun x => [Kk.key x.a, Kk.key x.b, Kk.key x.c], fun {a b} h => by
  injection h with h1 h2
  injection h2 with h2 h3
  injection h3 with h3 _
  obtain ⟨a1, a2, a3⟩ := a
  obtain ⟨b1, b2, b3⟩ := b
  obtain rfl : a1 = b1 := Kk.inj h1
  obtain rfl : a2 = b2 := Kk.inj h2
  obtain rfl : a3 = b3 := Kk.inj h3
  rfl⟩
theorem kk_list {α : Type} [Kk α] : ∀ {a b : List α}, a.map Kk.key = b.map Kk.key → a = b
  | [], [], _ => rfl
  | [], _ :: _, h => by cases h
  | _ :: _, [], h => by cases h
  | x :: a, y :: b, h => by
    injection h with h1 h2
    rw [Kk.inj h1, kk_list h2]
instance {α : Type} [Kk α] : Kt (Tup α) := ⟨fun x => x.items.map Kk.key, fun {a b} h => by
  obtain ⟨a⟩ := a
  obtain ⟨b⟩ := b
  exact congrArg PySem.W.Tup.mk (kk_list h)⟩
class KtV (κ : Type) [Kt κ] [Enc κ] : Prop where
  of : ∀ {K : Frag} {F : Hp} {v : V} {k : κ}, Enc.rep K F v k → ∃ b, v = .ref b ∧ F b = some (.tup ((Kt.key k).map kV))
  rep : ∀ {K : Frag} {F : Hp} {b : Addr} {k : κ}, F b = some (.tup ((Kt.key k).map kV)) → Enc.rep K F (.ref b) k
instance {α β : Type} [Kk α] [Kk β] [Enc α] [Enc β] [KkV α] [KkV β] : KtV (α × β) := ⟨fun {K F v k} ⟨p, a, b, h1, h2, h3, h4⟩ => ⟨p, h1, by rw [h2, KkV.of h3, KkV.of h4]; rfl⟩,
  fun {K F b k} h => ⟨b, _, _, rfl, h, KkV.rep _, KkV.rep _⟩⟩
instance {α β γ : Type} [Kk α] [Kk β] [Kk γ] [Enc α] [Enc β] [Enc γ] [KkV α] [KkV β] [KkV γ] : KtV (T3 α β γ) := ⟨fun {K F v k} ⟨p, a, b, c, h1, h2, h3, h4, h5⟩ => ⟨p, h1, by rw [h2, KkV.of h3, KkV.of h4, KkV.of h5]; rfl⟩,
  fun {K F b k} h => ⟨b, _, _, _, rfl, h, KkV.rep _, KkV.rep _, KkV.rep _⟩⟩
theorem vs_keys {α : Type} [Kk α] [Enc α] [KkV α] {K : Frag} {F : Hp} : ∀ {vs : List V} {xs : List α}, Vs K F vs xs → vs = (xs.map Kk.key).map kV
  | _, _, .nil => rfl
  | _, _, .cons r t => by rw [List.map_cons, List.map_cons, ← vs_keys t, KkV.of r]
theorem keys_vsR {α : Type} [Kk α] [Enc α] [KkV α] {K : Frag} {F : Hp} : ∀ (xs : List α), Vs K F ((xs.map Kk.key).map kV) xs
  | [] => .nil
  | _ :: r => .cons (KkV.rep _) (keys_vsR r)
section
variable {Y : DX} {s : DSt} {e a b c o f : Expr} {es : List Expr} {pos p p2 pos2 apos : Pos} {D : DE} {sts : List Stmt}
variable {κ ν : Type} [DecidableEq κ] [Kt κ] [Enc κ] [KtV κ] [Enc ν]
end
end Sp
set_option maxHeartbeats 4000000
namespace Sp
open PySem L2
open PySem.W (Datum DatumOrd SomeDatum)
section
variable {Y : DX} {s : DSt} {e a b c o f : Expr} {es : List Expr} {pos p p2 pos2 apos : Pos} {D : DE} {sts : List Stmt}
variable {κ ν : Type} [DecidableEq κ] [Kt κ] [Enc κ] [KtV κ] [Enc ν]
end
end Sp
set_option maxHeartbeats 4000000
namespace Sp
open PySem L2
open PySem.W (Datum DatumOrd SomeDatum)
def WTT (X : Cx) (e : Expr) (σ : St) (H : Hp) (Q : Bool → Hp → Prop) : Prop :=
  ∀ (pins : List (Addr × Obj)) (s : Shared), 1 ≤ s.toks → Inv X pins σ H s → wpAny (model X.prog X.w) X.A (isTrue e X.env (eval e X.env)) (TP X pins σ Q) X.xe s
def WET (X : Cx) (e : Expr) (σ : St) (H : Hp) (Q : VK) : Prop :=
  ∀ (pins : List (Addr × Obj)) (s : Shared), 1 ≤ s.toks → Inv X pins σ H s → wpAny (model X.prog X.w) X.A (eval e X.env) (EP X pins σ Q) X.xe s
section
variable {X : Cx} {a b e : Expr} {σ : St} {H : Hp} {pos p : Pos} {Q : Bool → Hp → Prop}
end
section
variable {Y : DX} {s : DSt} {e a b c d o : Expr} {pos p p2 p3 apos c0 c1 : Pos} {j k : Nat}
theorem WTT.mono {X : Cx} {σ : St} {H : Hp} {Q Q' : Bool → Hp → Prop} (h : WTT X e σ H Q) (k : ∀ b H', Q b H' → Q' b H') : WTT X e σ H Q' := fun pins s h0 I => thn (h pins s h0 I) fun b _ ⟨H', J, q⟩ => ⟨H', J, k b H' q⟩
end
end Sp
set_option maxHeartbeats 4000000
namespace Sp
open PySem L2 He
open PySem.Spec
def asS (g : Addr → Option Obj) (n : Nat) : List Addr := asD g n ++ [cStatics]
def obsY (n : Nat) (fa : List Fa) (fn : List DefD) (ts : List Tab) (tf : List Defn) (ex : PySem.W.Frag → Bool) (g : Addr → Option Obj) : AlX := (obsT fa fn ts (frT g (asS g n)), ex (frT g (asS g n)) && tabsB g tf (frT g (asS g n)))
theorem saysY_of {n : Nat} {fa : List Fa} {fn : List DefD} {ts : List Tab} {tf : List Defn} {ex : PySem.W.Frag → Bool} {w : World} {h : Heap} (e : obsY n fa fn ts tf ex h.get? = valX fn ts w) : SaysX fa fn ts tf ex w h (frT h.get? (asS h.get? n)) := by
  have e1 : obsT fa fn ts (frT h.get? (asS h.get? n)) = valT fn ts w := congrArg (fun z : AlX => z.1) e
  have e2 : (ex (frT h.get? (asS h.get? n)) && tabsB h.get? tf (frT h.get? (asS h.get? n))) = true := congrArg (fun z : AlX => z.2) e
  rw [Bool.and_eq_true] at e2
  obtain ⟨h1, h2⟩ := e2
  have key : ∀ p ∈ tf, PySem.W.codeHdIn (frT h.get? (asS h.get? n)) (cT (frT h.get? (asS h.get? n)) p).1 (cT (frT h.get? (asS h.get? n)) p).2 = true ∧ ∃ o, h.get? (cT (frT h.get? (asS h.get? n)) p).2 = some o ∧ emptyTab o = true := fun p hp => by
    have h0 := List.all_eq_true.mp h2 p hp
    rw [Bool.and_eq_true] at h0
    obtain ⟨h3, h4⟩ := h0
    refine ⟨h3, ?_⟩
    cases q : h.get? (cT (frT h.get? (asS h.get? n)) p).2 with
    | none => rw [q] at h4; cases h4
    | some o => rw [q] at h4; exact ⟨o, rfl, h4⟩
  exact ⟨e1, h1, fun p hp => (key p hp).1, fun p hp => by
    obtain ⟨_, o, q, z⟩ := key p hp
    exact frT_none q z, fun p hp => by
    obtain ⟨_, o, q, z⟩ := key p hp
    rw [q, emptyTab_eq z]⟩
def hookY (n : Nat) (fa : List Fa) (fn : List DefD) (ts : List Tab) (tf : List Defn) (ex : PySem.W.Frag → Bool) : PySem.W.Hook where
  α := AlX
  obs := fun s => obsY n fa fn ts tf ex s.heap.get?
  val := fun w => valX fn ts w
  says := fun w h => ∃ K : PySem.W.Frag, K.In h ∧ SaysX fa fn ts tf ex w h K
  of := fun _ _ e => ⟨_, frT_in, saysY_of e⟩
  keeps := fun _ _ _ ⟨K, hK, c⟩ k => ⟨K, PySem.W.Frag.In.keeps hK k, ⟨c.t, c.more, c.hd, c.out, fun p hp => k _ _ (c.empty p hp)⟩⟩
theorem obsY_eq {n : Nat} {fa : List Fa} {fn : List DefD} {ts : List Tab} {tf : List Defn} {ex : PySem.W.Frag → Bool} {g : Addr → Option Obj} {s : Shared} (h : ∀ a, g a = s.heap.get? a) : obsY n fa fn ts tf ex g = (hookY n fa fn ts tf ex).obs s := by
  have e : g = s.heap.get? := funext h
  rw [e] <;> rfl
end Sp
set_option maxHeartbeats 4000000
namespace Sp
open PySem L2
open PySem.W (DatumOrd)
section
variable {ρ : Type} {w : (ρ → Prop) → (Ex → Prop) → Prop} {k : ρ → Prop} {E : Ex → Prop}
theorem Cl.here (h : w k E) : Cl w k E := ⟨k, E, h, fun _ r => r, fun _ r => r⟩
theorem Cl.val {r : ρ} (h : w (fun x => x = r) NoE) (q : k r) : Cl w k E := ⟨_, _, h, fun _ e => by subst e; exact q, fun _ h => h.elim⟩
theorem Cl.exc {e : Ex} (h : w (fun _ => False) (fun x => x = e)) (q : E e) : Cl w k E := ⟨_, _, h, fun _ h => h.elim, fun _ h => by subst h; exact q⟩
theorem Cl.mono {k' : ρ → Prop} {E' : Ex → Prop} (h : Cl w k E) (h1 : ∀ r, k r → k' r) (h2 : ∀ e, E e → E' e) : Cl w k' E' :=
  let ⟨R0, E0, a, b, c⟩ := h
  ⟨R0, E0, a, fun r x => h1 r (b r x), fun e x => h2 e (c e x)⟩
end
theorem ClD.here {ρ : Type} {w : (ρ → Prop) → (Ex → Prop) → Prop} {k : ρ → Prop} (h : w k NoE) : ClD w k := ⟨k, h, fun _ r => r⟩
theorem ClD.roll {n : Int} {k : Int → Prop} (h0 : 0 < n) (h1 : n < 1073741824) (h : ∀ r : Int, 0 ≤ r → r < n → k r) : ClD (rollW (n, ())) k := ⟨k, ⟨h0, h1, h⟩, fun _ r => r⟩
section
variable {β Z : Type} {items : List β} {z0 : Z} {body : β → Z → (Z → Prop) → Prop} {rest : Z → Prop}
theorem forW.inv (P : List β → Z → Prop) (h0 : P [] z0) (hs : ∀ l x r z, items = l ++ x :: r → P l z → body x z (P (l ++ [x]))) (he : ∀ z, P items z → rest z) : forW items z0 body rest :=
  ⟨fun i z => P (items.take i) z, by simpa using h0, fun i x z hx h => by
    have hlt := (List.getElem?_eq_some_iff.mp hx).1
    have e : items = items.take i ++ x :: items.drop (i + 1) := by
      have := List.take_append_drop i items
      rw [List.drop_eq_getElem_cons hlt] at this
      rw [(List.getElem?_eq_some_iff.mp hx).2] at this
      exact this.symm
    have := hs _ _ _ z e h
    have e2 : items.take (i + 1) = items.take i ++ [x] := by rw [List.take_add_one, hx]; rfl
    show body x z (fun z => P (items.take (i + 1)) z)
    rw [e2]
    exact this, fun z h => he z (by simpa using h)⟩
theorem forW.fold (f : Z → β → Z) (hs : ∀ l x r, items = l ++ x :: r → ∀ k : Z → Prop, k (f (l.foldl f z0) x) → body x (l.foldl f z0) k) (he : rest (items.foldl f z0)) : forW items z0 body rest :=
  forW.inv (fun l z => z = l.foldl f z0) rfl (fun l x r z e h => by
    subst h
    exact hs l x r e _ (by rw [List.foldl_append]; rfl)) (fun z h => by subst h; exact he)
end
theorem ifJ.mk {Z : Type} {b : Bool} {B C : (Z → Prop) → Prop} {rest : Z → Prop} (h1 : b = true → B rest) (h2 : b = false → C rest) : ifJ b B C rest := ⟨h1, h2⟩
section
variable {β α : Type} {P : β → α → Prop} {xs : List β} {ys : List α}
theorem Each.all {R : α → Prop} (h : Each P xs ys) (q : ∀ x ∈ xs, ∀ y, P x y → R y) : ∀ y ∈ ys, R y := by
  induction h with
  | nil => intro y hy; cases hy
  | cons p _ ih =>
    intro y hy
    rcases List.mem_cons.mp hy with rfl | hy
    · exact q _ (List.mem_cons_self ..) _ p
    · exact ih (fun x hx => q x (List.mem_cons_of_mem _ hx)) y hy
theorem Each.length {P : β → α → Prop} (h : Each P xs ys) : ys.length = xs.length := h.len
end
theorem ixS_mem {x : Txt} {i : Int} (h0 : 0 ≤ i) (h1 : i < x.length) : ∃ c ∈ x, ixS x i = [c] := by
  unfold ixS plc
  rw [if_pos h0]
  have : i.toNat < x.length := by omega
  refine ⟨x[i.toNat], List.getElem_mem this, ?_⟩
  rw [List.getD_eq_getElem?_getD, List.getElem?_eq_getElem this] <;> rfl
theorem ixD_mem {α : Type} [Inhabited α] {x : List α} {i : Int} (h0 : 0 ≤ i) (h1 : i < x.length) : ixD x i ∈ x := by
  unfold ixD plc
  rw [if_pos h0]
  have : i.toNat < x.length := by omega
  rw [List.getD_eq_getElem?_getD, List.getElem?_eq_getElem this]
  exact List.getElem_mem this
theorem joinT_nil : ∀ xs : List Txt, joinT [] xs = xs.flatten
  | [] => rfl
  | [x] => by simp [joinT]
  | x :: y :: r => by
    rw [joinT, joinT_nil (y :: r)]
    simp
theorem lenSum_cons (x : Txt) (xs : List Txt) : lenSum (x :: xs) = x.length + lenSum xs := by simp [lenSum]
theorem flat_chars (x : Txt) : (x.map fun c => [c]).flatten = x := by
  induction x with
  | nil => rfl
  | cons a x ih => simp [ih]
theorem srt_perm {α : Type} [DecidableEq α] [DatumOrd α] (xs : List α) : (srt xs).Perm xs := List.mergeSort_perm _ _
theorem srt_len {α : Type} [DecidableEq α] [DatumOrd α] (xs : List α) : (srt xs).length = xs.length := (srt_perm xs).length_eq
theorem srt_mem {α : Type} [DecidableEq α] [DatumOrd α] {xs : List α} {x : α} : x ∈ srt xs ↔ x ∈ xs := (srt_perm xs).mem_iff
class Lin (α : Type) [DecidableEq α] [DatumOrd α] : Prop where
  irr : ∀ a : α, DatumOrd.lt a a = false
  tr : ∀ a b c : α, DatumOrd.lt a b = true → DatumOrd.lt b c = true → DatumOrd.lt a c = true
  tot : ∀ a b : α, DatumOrd.lt a b = false → DatumOrd.lt b a = false → a = b
instance : Lin Int := ⟨fun a => decide_eq_false (Int.lt_irrefl a), fun a b c h1 h2 => decide_eq_true (Int.lt_trans (of_decide_eq_true h1) (of_decide_eq_true h2)), fun a b h1 h2 => by
  have h1 := of_decide_eq_false h1
  have h2 := of_decide_eq_false h2
  omega⟩
instance : Lin (List Nat) := ⟨fun a => decide_eq_false (List.lt_irrefl a), fun a b c h1 h2 => decide_eq_true (List.lt_trans (of_decide_eq_true h1) (of_decide_eq_true h2)), fun a b h1 h2 =>
  List.le_antisymm (List.not_lt.mp (of_decide_eq_false h2)) (List.not_lt.mp (of_decide_eq_false h1))⟩
instance {α β : Type} [DecidableEq α] [DecidableEq β] [DatumOrd α] [DatumOrd β] [Lin α] [Lin β] : Lin (α × β) where
  irr a := by show (if a.1 = a.1 then _ else _) = false; rw [if_pos rfl]; exact Lin.irr _
  tr a b c h1 h2 := by
    have h1 : (if a.1 = b.1 then DatumOrd.lt a.2 b.2 else DatumOrd.lt a.1 b.1) = true := h1
    have h2 : (if b.1 = c.1 then DatumOrd.lt b.2 c.2 else DatumOrd.lt b.1 c.1) = true := h2
    show (if a.1 = c.1 then DatumOrd.lt a.2 c.2 else DatumOrd.lt a.1 c.1) = true
    by_cases e1 : a.1 = b.1
    · rw [if_pos e1] at h1
      by_cases e2 : b.1 = c.1
      · rw [if_pos e2] at h2; rw [if_pos (e1.trans e2)]; exact Lin.tr _ _ _ h1 h2
      · rw [if_neg e2] at h2; rw [if_neg (fun e => e2 (e1.symm.trans e)), e1]; exact h2
    · rw [if_neg e1] at h1
      by_cases e2 : b.1 = c.1
      · rw [if_neg (fun e => e1 (e.trans e2.symm)), ← e2]; exact h1
      · rw [if_neg e2] at h2
        have h3 := Lin.tr _ _ _ h1 h2
        by_cases e3 : a.1 = c.1
        · rw [e3, Lin.irr] at h3; cases h3
        · rw [if_neg e3]; exact h3
  tot a b h1 h2 := by
    have h1 : (if a.1 = b.1 then DatumOrd.lt a.2 b.2 else DatumOrd.lt a.1 b.1) = false := h1
    have h2 : (if b.1 = a.1 then DatumOrd.lt b.2 a.2 else DatumOrd.lt b.1 a.1) = false := h2
    by_cases e1 : a.1 = b.1
    · rw [if_pos e1] at h1
      rw [if_pos e1.symm] at h2
      exact Prod.ext e1 (Lin.tot _ _ h1 h2)
    · rw [if_neg e1] at h1
      rw [if_neg (Ne.symm e1)] at h2
      exact absurd (Lin.tot _ _ h1 h2) e1
section
variable {α : Type} [DecidableEq α] [DatumOrd α] [Lin α]
theorem Lin.asym {a b : α} (h : DatumOrd.lt a b = true) : DatumOrd.lt b a = false := by
  cases e : DatumOrd.lt b a with
  | false => rfl
  | true => have := Lin.tr _ _ _ h e; rw [Lin.irr] at this; cases this
theorem Lin.le_tr {a b c : α} (h1 : DatumOrd.lt b a = false) (h2 : DatumOrd.lt c b = false) : DatumOrd.lt c a = false := by
  cases e : DatumOrd.lt c a with
  | false => rfl
  | true =>
    cases e2 : DatumOrd.lt a b with
    | true => rw [Lin.tr _ _ _ e e2] at h2; cases h2
    | false => rw [Lin.tot _ _ e2 h1] at e; rw [e] at h2; cases h2
theorem srt_sorted (xs : List α) : (srt xs).Pairwise fun a b => DatumOrd.lt b a = false := by
  have h := List.pairwise_mergeSort (le := fun a b : α => !DatumOrd.lt b a) (fun a b c h1 h2 => by
    rw [Bool.not_eq_true'] at h1 h2 ⊢
    exact Lin.le_tr h1 h2) (fun a b => by
    cases e : DatumOrd.lt b a with
    | false => rfl
    | true => rw [Lin.asym e]; rfl) xs
  exact h.imp fun h => by rwa [Bool.not_eq_true'] at h
theorem sorted_eq {xs ys : List α} (h1 : xs.Pairwise fun a b => DatumOrd.lt b a = false) (h2 : ys.Pairwise fun a b => DatumOrd.lt b a = false) (p : xs.Perm ys) : xs = ys :=
  List.Perm.eq_of_pairwise (fun a b _ _ x y => Lin.tot a b y x) h1 h2 p
theorem srt_congr {xs ys : List α} (p : xs.Perm ys) : srt xs = srt ys := sorted_eq (srt_sorted _) (srt_sorted _) ((srt_perm xs).trans (p.trans (srt_perm ys).symm))
theorem minOf_mem : ∀ (xs : List α) (x : α), PySem.W.minOf x xs = x ∨ PySem.W.minOf x xs ∈ xs
  | [], x => .inl rfl
  | y :: xs, x => by
    show PySem.W.minOf (if DatumOrd.lt y x = true then y else x) xs = x ∨ _
    rcases minOf_mem xs (if DatumOrd.lt y x = true then y else x) with h | h
    · by_cases e : DatumOrd.lt y x = true
      · rw [if_pos e] at h; exact .inr (by show PySem.W.minOf (if DatumOrd.lt y x = true then y else x) xs ∈ _; rw [if_pos e, h]; exact List.mem_cons_self ..)
      · rw [if_neg e] at h; exact .inl (by rw [if_neg e, h])
    · exact .inr (List.mem_cons_of_mem _ h)
theorem minL_mem [Inhabited α] {xs : List α} (h : xs ≠ []) : minL xs ∈ xs := by
  cases xs with
  | nil => exact absurd rfl h
  | cons x r =>
    rcases minOf_mem r x with e | e
    · show PySem.W.minOf x r ∈ _; rw [e]; exact List.mem_cons_self ..
    · exact List.mem_cons_of_mem _ e
end
theorem snocInd {α : Type} {P : List α → Prop} (h0 : P []) (hs : ∀ l x, P l → P (l ++ [x])) (l : List α) : P l := by
  have h : ∀ m : List α, P m.reverse := fun m => by
    induction m with
    | nil => exact h0
    | cons a m ih => rw [List.reverse_cons]; exact hs _ _ ih
  have := h l.reverse
  rwa [List.reverse_reverse] at this
section
variable {κ ν : Type} [DecidableEq κ]
theorem dval_nil (k : κ) : dval ([] : List (κ × ν)) k = none := rfl
theorem dval_cons (p : κ × ν) (d : List (κ × ν)) (k : κ) : dval (p :: d) k = if p.1 = k then some p.2 else dval d k := by
  unfold dval
  rw [List.find?_cons]
  by_cases h : p.1 = k
  · simp [h]
  · simp [h]
theorem dval_mem {d : List (κ × ν)} {k : κ} {v : ν} (h : dval d k = some v) : (k, v) ∈ d := by
  induction d with
  | nil => cases h
  | cons p d ih =>
    rw [dval_cons] at h
    by_cases e : p.1 = k
    · rw [if_pos e] at h; cases h; subst e; exact List.mem_cons_self ..
    · rw [if_neg e] at h; exact List.mem_cons_of_mem _ (ih h)
theorem dhas_iff {d : List (κ × ν)} {k : κ} : dhas d k = true ↔ k ∈ d.map (·.1) := by
  unfold dhas
  induction d with
  | nil => simp [dval_nil]
  | cons p d ih =>
    rw [dval_cons]
    by_cases e : p.1 = k
    · simp [e]
    · rw [if_neg e, ih, List.map_cons, List.mem_cons]
      constructor
      · exact .inr
      · rintro (h | h)
        · exact absurd h.symm e
        · exact h
theorem dput_new {d : List (κ × ν)} {k : κ} {v : ν} (h : k ∉ d.map (·.1)) : dput d k v = d ++ [(k, v)] := by
  unfold dput
  rw [if_neg]
  intro hh
  obtain ⟨p, hp, e⟩ := List.any_eq_true.mp hh
  exact h (of_decide_eq_true e ▸ List.mem_map_of_mem hp)
theorem dput_len {d : List (κ × ν)} {k : κ} {v : ν} : (dput d k v).length ≤ d.length + 1 := by
  unfold dput
  by_cases h : (d.any fun kv => decide (kv.1 = k)) = true
  · rw [if_pos h, List.length_map]; omega
  · rw [if_neg h]; simp
theorem dval_map (d : List (κ × ν)) (k : κ) (v : ν) (j : κ) : dval (d.map fun kv => if kv.1 = k then (kv.1, v) else kv) j = if k = j then (dval d j).map (fun _ => v) else dval d j := by
  induction d with
  | nil => simp [dval_nil]
  | cons p d ih =>
    rw [List.map_cons, dval_cons, dval_cons, ih]
    by_cases e : p.1 = k
    · simp only [e, if_true]
      by_cases ej : k = j <;> simp [ej]
    · simp only [e, if_false]
      by_cases ej : k = j
      · subst ej; simp [e]
      · simp [ej]
theorem dval_app (d e : List (κ × ν)) (j : κ) : dval (d ++ e) j = (dval d j).or (dval e j) := by
  induction d with
  | nil => simp [dval_nil]
  | cons p d ih =>
    rw [List.cons_append, dval_cons, dval_cons, ih]
    by_cases h : p.1 = j <;> simp [h]
theorem dval_none {d : List (κ × ν)} {k : κ} : dval d k = none ↔ k ∉ d.map (·.1) := by
  rw [← dhas_iff, dhas]
  cases dval d k <;> simp
theorem any_key {d : List (κ × ν)} {k : κ} : (d.any fun kv => decide (kv.1 = k)) = true ↔ k ∈ d.map (·.1) := by
  simp [List.any_eq_true]
theorem dval_put (d : List (κ × ν)) (k : κ) (v : ν) (j : κ) : dval (dput d k v) j = if k = j then some v else dval d j := by
  unfold dput
  by_cases h : (d.any fun kv => decide (kv.1 = k)) = true
  · rw [if_pos h, dval_map]
    by_cases ej : k = j
    · subst ej
      have : dval d k ≠ none := fun e => dval_none.mp e (any_key.mp h)
      cases hd : dval d k with
      | none => exact absurd hd this
      | some _ => simp
    · simp [ej]
  · rw [if_neg h, dval_app]
    have hn : dval d k = none := dval_none.mpr fun m => h (any_key.mpr m)
    by_cases ej : k = j
    · subst ej
      rw [hn]
      simp [dval_cons]
    · rw [dval_cons, if_neg ej, if_neg ej, dval_nil]
      cases dval d j <;> rfl
theorem dput_keys (d : List (κ × ν)) (k : κ) (v : ν) : (dput d k v).map (·.1) = if k ∈ d.map (·.1) then d.map (·.1) else d.map (·.1) ++ [k] := by
  unfold dput
  by_cases h : (d.any fun kv => decide (kv.1 = k)) = true
  · rw [if_pos h, if_pos (any_key.mp h), List.map_map]
    apply List.map_congr_left
    intro p _
    show (if p.1 = k then (p.1, v) else p).1 = p.1
    by_cases e : p.1 = k <;> simp [e]
  · rw [if_neg h, if_neg fun m => h (any_key.mpr m), List.map_append]
    rfl
theorem dmerge_cons (d : List (κ × ν)) (p : κ × ν) (r : List (κ × ν)) : dmerge d (p :: r) = dmerge (dput d p.1 p.2) r := rfl
end
end Sp
set_option maxHeartbeats 4000000
namespace Sp
open PySem L2
open PySem.W (DatumOrd)
abbrev sg (x : Txt) : List Txt := x.map fun c => [c]
theorem sg_inj {x y : Txt} (h : sg x = sg y) : x = y := by
  have h3 := congrArg List.flatten h
  rwa [flat_chars, flat_chars] at h3
theorem pre_sg {l r : List Txt} {x : Txt} {w : Txt} (e : sg w = l ++ x :: r) : ∃ (l' : Txt) (c : Nat) (r' : Txt), w = l' ++ c :: r' ∧ l = sg l' ∧ x = [c] ∧ r = sg r' := by
  obtain ⟨a, b, e1, e2, e3⟩ := List.map_eq_append_iff.mp e
  obtain ⟨c, r', e4, e5, e6⟩ := List.map_eq_cons_iff.mp e3
  exact ⟨a, c, r', by rw [e1, e4], e2.symm, e5.symm, e6.symm⟩
theorem forT {Z : Type} {w : Txt} {z0 : Z} {body : Txt → Z → (Z → Prop) → Prop} {rest : Z → Prop} (P : Txt → Z → Prop) (h0 : P [] z0) (hs : ∀ l c r z, w = l ++ c :: r → P l z → ∀ k : Z → Prop, (∀ z', P (l ++ [c]) z' → k z') → body [c] z k) (he : ∀ z, P w z → rest z) : forW (sg w) z0 body rest := by
  refine forW.inv (fun l z => ∃ l', l = sg l' ∧ P l' z) ⟨[], rfl, h0⟩ (fun l x r z e ⟨l1, e1, hp⟩ => ?_) (fun z ⟨l', e, hp⟩ => ?_)
  · obtain ⟨l', c, r', ew, el, ex, er⟩ := pre_sg e
    have : l1 = l' := sg_inj (e1.symm.trans el)
    subst this ex
    exact hs l1 c r' z ew hp _ fun z' hz => ⟨l1 ++ [c], by rw [el]; simp [sg], hz⟩
  · have h3 := sg_inj e
    subst h3
    exact he z hp
theorem flat_one {ls : Txt} : ∀ {ys : List Txt}, (∀ y ∈ ys, ∃ c ∈ ls, y = [c]) → lenSum ys = ys.length ∧ ys.flatten.length = ys.length ∧ ∀ c ∈ ys.flatten, c ∈ ls
  | [], _ => ⟨rfl, rfl, fun c h => by simp at h⟩
  | y :: ys, h => by
    obtain ⟨c, hc, e⟩ := h y (List.mem_cons_self ..)
    obtain ⟨h1, h2, h3⟩ := flat_one (ys := ys) fun z hz => h z (List.mem_cons_of_mem _ hz)
    subst e
    refine ⟨by rw [lenSum_cons, h1, List.length_cons, List.length_cons, List.length_nil]; omega, by rw [List.flatten_cons, List.length_append, h2, List.length_cons, List.length_cons, List.length_nil]; omega, fun d hd => ?_⟩
    rw [List.flatten_cons, List.mem_append] at hd
    rcases hd with hd | hd
    · rw [List.mem_singleton.mp hd]; exact hc
    · exact h3 d hd
theorem tn (n : Nat) : ((n : Int)).toNat = n := Int.toNat_natCast n
theorem plc_nat (n k : Nat) : plc n (k : Int) = k := by
  unfold plc
  rw [if_pos (by omega), Int.toNat_natCast]
theorem ixD_nat {α : Type} [Inhabited α] {x : List α} {k : Nat} (h : k < x.length) : ixD x (k : Int) = x[k] := by
  unfold ixD
  rw [plc_nat, List.getD_eq_getElem?_getD, List.getElem?_eq_getElem h]
  rfl
theorem cut_from {α : Type} (x : List α) (k : Nat) : cutD x (some (k : Int)) none = x.drop k := by
  unfold cutD
  rw [HT.sIx_nat, HT.sIx_none]
  by_cases h : k ≤ x.length
  · rw [Nat.min_eq_left h, List.take_of_length_le (by rw [List.length_drop]; omega)]
  · rw [Nat.min_eq_right (by omega), Nat.sub_self, List.take_zero, List.drop_eq_nil_of_le (by omega)]
section
variable {α : Type} [DecidableEq α] [DatumOrd α] [Lin α]
end
section
variable {α : Type} [DecidableEq α] [DatumOrd α] [Lin α]
theorem llt_irr : ∀ a : List α, PySem.W.listLt a a = false
  | [] => rfl
  | x :: a => by rw [PySem.W.listLt, if_pos rfl, llt_irr a]
theorem llt_tr : ∀ a b c : List α, PySem.W.listLt a b = true → PySem.W.listLt b c = true → PySem.W.listLt a c = true
  | [], [], c, h, _ => by cases h
  | [], _ :: _, [], _, h => by cases h
  | [], _ :: _, _ :: _, _, _ => rfl
  | _ :: _, [], _, h, _ => by cases h
  | _ :: _, _ :: _, [], _, h => by cases h
  | x :: a, y :: b, z :: c, h1, h2 => by
    rw [PySem.W.listLt] at h1 h2 ⊢
    by_cases e1 : x = y
    · rw [if_pos e1] at h1
      by_cases e2 : y = z
      · rw [if_pos e2] at h2; rw [if_pos (e1.trans e2)]; exact llt_tr a b c h1 h2
      · rw [if_neg e2] at h2; rw [if_neg (fun e => e2 (e1.symm.trans e)), e1]; exact h2
    · rw [if_neg e1] at h1
      by_cases e2 : y = z
      · rw [if_neg (fun e => e1 (e.trans e2.symm)), ← e2]; exact h1
      · rw [if_neg e2] at h2
        have h3 := Lin.tr _ _ _ h1 h2
        by_cases e3 : x = z
        · rw [e3, Lin.irr] at h3; cases h3
        · rw [if_neg e3]; exact h3
theorem llt_tot : ∀ a b : List α, PySem.W.listLt a b = false → PySem.W.listLt b a = false → a = b
  | [], [], _, _ => rfl
  | [], _ :: _, h, _ => by cases h
  | _ :: _, [], _, h => by cases h
  | x :: a, y :: b, h1, h2 => by
    rw [PySem.W.listLt] at h1 h2
    by_cases e : x = y
    · rw [if_pos e] at h1
      rw [if_pos e.symm] at h2
      rw [e, llt_tot a b h1 h2]
    · rw [if_neg e] at h1
      rw [if_neg (fun q => e q.symm)] at h2
      exact absurd (Lin.tot _ _ h1 h2) e
instance : Lin (List α) := ⟨llt_irr, llt_tr, llt_tot⟩
end
def uq {α : Type} [DecidableEq α] (l : List α) : List α := l.foldl (fun ks x => if x ∈ ks then ks else ks ++ [x]) []
section
variable {α : Type} [DecidableEq α]
theorem uq_snoc (l : List α) (x : α) : uq (l ++ [x]) = if x ∈ uq l then uq l else uq l ++ [x] := by unfold uq; rw [List.foldl_append]; rfl
theorem uq_mem : ∀ (l : List α) (x : α), x ∈ uq l ↔ x ∈ l := by
  refine snocInd ?_ ?_
  · intro x; simp [uq]
  · intro l y ih x
    rw [uq_snoc]
    by_cases h : y ∈ uq l
    · rw [if_pos h, ih, List.mem_append, List.mem_singleton]
      exact ⟨.inl, fun q => q.elim id fun e => by rw [e, ← ih]; exact h⟩
    · rw [if_neg h, List.mem_append, ih, List.mem_append]
theorem uq_nodup : ∀ l : List α, (uq l).Nodup := by
  refine snocInd ?_ ?_
  · exact List.nodup_nil
  · intro l x ih
    rw [uq_snoc]
    by_cases hx : x ∈ uq l
    · rw [if_pos hx]; exact ih
    · rw [if_neg hx, List.nodup_append]
      exact ⟨ih, by simp, fun a ha b hb e => by rw [List.mem_singleton.mp hb] at e; exact hx (e ▸ ha)⟩
theorem uq_sub : ∀ l : List α, (uq l).Sublist l := by
  refine snocInd ?_ ?_
  · exact List.Sublist.refl _
  · intro l x ih
    rw [uq_snoc]
    by_cases hx : x ∈ uq l
    · rw [if_pos hx]; exact ih.trans (List.sublist_append_left _ _)
    · rw [if_neg hx]; exact ih.append (List.Sublist.refl _)
end
end Sp
set_option maxHeartbeats 4000000
namespace Sp
open PySem L2
open PySem.W (DatumOrd)
theorem sl {n : Nat} (h : n ≤ 1000000) : n ≤ sizeLine := Nat.le_trans h (by decide)
section
variable {κ ν : Type} [DecidableEq κ]
theorem dm_keys (v : κ → ν) (ws : List κ) : ∀ d : List (κ × ν), (dmerge d (ws.map fun x => (x, v x))).map (·.1) = ws.foldl (fun ks x => if x ∈ ks then ks else ks ++ [x]) (d.map (·.1)) := by
  induction ws with
  | nil => intro d; rfl
  | cons x r ih =>
    intro d
    rw [List.map_cons, dmerge_cons, ih, dput_keys, List.foldl_cons]
theorem keys_uq (v : κ → ν) (ws : List κ) : (dmerge [] (ws.map fun x => (x, v x))).map (·.1) = uq ws := dm_keys v ws []
theorem dm_val (v : κ → ν) (ws : List κ) (j : κ) : ∀ d : List (κ × ν), dval (dmerge d (ws.map fun x => (x, v x))) j = if j ∈ ws then some (v j) else dval d j := by
  induction ws with
  | nil => intro d; rfl
  | cons x r ih =>
    intro d
    rw [List.map_cons, dmerge_cons, ih, dval_put]
    by_cases h : j ∈ r
    · rw [if_pos h, if_pos (List.mem_cons_of_mem _ h)]
    · rw [if_neg h]
      by_cases e : x = j
      · subst e; rw [if_pos rfl, if_pos List.mem_cons_self]
      · rw [if_neg e, if_neg (by rw [List.mem_cons]; rintro (z | z); exact e z.symm; exact h z)]
theorem val_of (v : κ → ν) {ws : List κ} {j : κ} (h : j ∈ ws) : dval (dmerge [] (ws.map fun x => (x, v x))) j = some (v j) := by rw [dm_val, if_pos h]
theorem has_of (v : κ → ν) {ws : List κ} {j : κ} (h : j ∈ ws) : dhas (dmerge [] (ws.map fun x => (x, v x))) j = true := by unfold dhas; rw [val_of v h]; rfl
theorem gt_of [Inhabited ν] (v : κ → ν) {ws : List κ} {j : κ} (h : j ∈ ws) : dgt (dmerge [] (ws.map fun x => (x, v x))) j = v j := by unfold dgt; rw [val_of v h]; rfl
theorem uq_len (l : List κ) : (uq l).length ≤ l.length := (uq_sub l).length_le
theorem nodup_perm {l m : List κ} (h1 : l.Nodup) (h2 : m.Nodup) (h : ∀ x, x ∈ l ↔ x ∈ m) : l.Perm m := (List.perm_ext_iff_of_nodup h1 h2).mpr h
end
section
variable {α : Type} [DecidableEq α] [DatumOrd α] [Lin α]
theorem srt_set {l m : List α} (h1 : l.Nodup) (h2 : m.Nodup) (h : ∀ x, x ∈ l ↔ x ∈ m) : srt l = srt m := srt_congr (nodup_perm h1 h2 h)
theorem srt_nodup {l : List α} (h : l.Nodup) : (srt l).Nodup := (srt_perm l).nodup_iff.mpr h
end
theorem forL {α Z : Type} {xs : List α} {z0 : Z} {body : α → Z → (Z → Prop) → Prop} {rest : Z → Prop} (P : List α → Z → Prop) (h0 : P [] z0)
    (hs : ∀ l x r z, xs = l ++ x :: r → P l z → ∀ k : Z → Prop, (∀ z', P (l ++ [x]) z' → k z') → body x z k) (he : ∀ z, P xs z → rest z) : forW xs z0 body rest := by
  refine ⟨fun i z => P (xs.take i) z, by simpa using h0, fun i y z hy hp => ?_, fun z hp => he z ?_⟩
  · obtain ⟨hlt, hy2⟩ := List.getElem?_eq_some_iff.mp hy
    have hxs : xs = xs.take i ++ y :: xs.drop (i + 1) := by
      conv => lhs; rw [← List.take_append_drop i xs]
      rw [List.drop_eq_getElem_cons hlt, hy2]
    exact hs (xs.take i) y (xs.drop (i + 1)) z hxs hp (fun z' => P (xs.take (i + 1)) z') (fun z' h => by
      rw [List.take_add_one, hy]; exact h)
  · have hp2 : P (xs.take xs.length) z := hp
    rw [List.take_length] at hp2
    exact hp2
end Sp
set_option maxHeartbeats 4000000
namespace Sp
open PySem L2
open PySem.W (Datum DatumOrd SomeDatum)
abbrev TgD.q {α β γ δ : Type} (a : TgD α) (b : TgD β) (c : TgD γ) (d : TgD δ) : TgD (T4 α β γ δ) := ⟨fun K => gTup K 4 (gCons (a.g K) (gCons (b.g K) (gCons (c.g K) (gCons (d.g K) gNil)))), a.ws ++ (b.ws ++ (c.ws ++ d.ws)), fun v ρ => d.f v.d (c.f v.c (b.f v.b (a.f v.a ρ)))⟩
section
variable {Y : DX} {s : DSt} {e a : Expr} {es : List Expr} {pos p : Pos} {α β γ δ : Type} [Enc α] [Enc β] [Enc γ] [Enc δ] {Q : Pv → DSt → Prop}
end
end Sp
set_option maxHeartbeats 4000000
namespace Sp
open PySem L2
open PySem.W (Datum DatumOrd SomeDatum)
structure WIt (X : Cx) (tg iter : Expr) (σ : St) (H : Hp) (R : It → Hp → Prop) : Prop where
  run : ∀ (pins : List (Addr × Obj)) (s : Shared), Inv X pins σ H s → wpAny (model X.prog X.w) X.A (eval iter X.env) (fun v s1 => wpAny (model X.prog X.w) X.A (pyIter v) (PIE X pins σ tg R) X.xe s1) X.xe s
theorem WIt.of {X : Cx} {tg iter : Expr} {wi : TI} {σ : St} {H : Hp} {R : It → Hp → Prop} (p : PI X tg iter wi) (h : wi σ H R) : WIt X tg iter σ H R := ⟨fun pins s I => p.run pins s σ H R I h⟩
section
variable {β γ α : Type} {c : β → Bool} {inner : β → List γ} {c1 : β → γ → Bool} {h : β → γ → α}
end
section
variable {Y : DX} {s : DSt} {tg iter tg1 iter1 elt : Expr} {ifs ifs1 : List Expr} {pos spos py p : Pos} {scope : Scope} {α β γ : Type} [Enc α] [Enc β] [Enc γ] {D : DE}
variable {W : (List β → Prop) → Prop} {Wc : β → (Bool → Prop) → Prop} {Wi1 : β → (List γ → Prop) → Prop} {Wc1 : β → γ → (Bool → Prop) → Prop} {We : β → γ → (α → Prop) → Prop}
abbrev tt2 (Y : DX) (scope : Scope) (ifs : List Expr) : TT := fun σ H Q => ∀ z, WTs (blkX Y.X scope z) ifs σ H Q
abbrev wi2 (Y : DX) (scope : Scope) (tg iter : Expr) : TI := fun σ H R => ∀ z, WIt (blkX Y.X scope z) tg iter σ H R
abbrev te2 (Y : DX) (scope : Scope) (elt : Expr) : TE := fun σ H Q => ∀ z, WE (blkX Y.X scope z) elt σ H Q
structure LcW2 (Y : DX) (s : DSt) (scope : Scope) (own : List (Str × Nat)) (vs1 : List Nat) (t : TgD β) (t1 : TgD γ) (tg iter tg1 iter1 elt : Expr) (ifs ifs1 : List Expr) {α : Type} [Enc α] (V : (List α → Prop) → Prop) : Prop where
  bk : BlkOk Y.X.N Y.X.env.scope scope own
  hv : ∀ i ∈ vs1, i ∈ own.map (·.2)
  tgA : ∀ z, TgOk (blkY Y scope z) tg (t.g Y.X.K) t.ws t.f
  tgB : ∀ z, TgOk (blkY Y scope z) tg1 (t1.g Y.X.K) t1.ws t1.f
  hs : ∀ x, foldedSetIterable iter Y.X.env x = pure x
  hs1 : ∀ env x, foldedSetIterable iter1 env x = pure x
  run : ∀ k, V k → ∃ wi, PI Y.X tg iter wi ∧ ∀ F0 σ H F, Ext F0 F → Sta Y s σ H F → ∀ Qf : VK, (∀ D H' F' (ys : List α), Ext F0 F' → Sta Y ⟨s.ρ, (D, lstc ys) :: s.gs⟩ σ H' F' → k ys → Qf (.ref D) H') →
    tLc2 wi (t.g Y.X.K) (tt2 Y scope ifs) (wi2 Y scope tg1 iter1) (t1.g Y.X.K) (tt2 Y scope ifs1) (te2 Y scope elt) (own.map (·.2)) vs1 σ H Qf
end
end Sp
set_option maxHeartbeats 4000000
namespace Sp
open PySem L2 PySem.Spec
open PySem.W (Datum DatumOrd SomeDatum)
def entT (e : DictEntry) : Option (Str × Str) := match e.key, e.val with
  | .str k _, .str v _ => some (k, v)
  | _, _ => none
def tabB (K : Frag) (d : Addr) (tab : List (Str × Str)) : Bool := match K.lookup d with
  | some ⟨_, _, .dict es _, _⟩ => decide (es.toList.map entT = tab.map some)
  | _ => false
abbrev TabT : Type := List (Str × Str)
structure KTab (K : Frag) (w : World) (mg : Str → Option Value) (x : Str) (tab : TabT) : Prop where
  at_ : ∃ d es n, mg x = some (.ref d) ∧ KDict K w d es n ∧ tabB K d tab = true
section
variable {Y : DX} {s : DSt} {e f : Expr} {p apos pos : Pos} {x : Str} {tab : TabT} {Wk Wv : (List Nat → Prop) → Prop}
theorem RelV.str {v : Str} {u : Value} (h : RelV (.str v) u) : ∃ t, u = .str v t := h
end
end Sp
set_option maxHeartbeats 4000000
namespace Sp
open PySem L2
open PySem.W (Datum DatumOrd SomeDatum)
section
variable {Y : DX} {s : DSt} {tg iter : Expr} {D : DE} {sts : List Stmt} {pos : Pos} {β Z J : Type} [Enc β]
end
end Sp
set_option maxHeartbeats 4000000
namespace Sp
open PySem L2
open PySem.W (Datum DatumOrd SomeDatum)
section
variable {Y : DX} {s : DSt} {tg iter elt a b : Expr} {elts ifs : List Expr} {pos spos py p p2 tpos : Pos} {kk : Nat} {scope : Scope} {α β γ : Type} [Enc α] [Enc β] [Enc γ] {D : DE} {sts : List Stmt} {x : Str}
structure LcWO (Y : DX) (s : DSt) (scope : Scope) (own : List (Str × Nat)) (t : TgD β) (tg iter elt : Expr) (ifs : List Expr) {α : Type} [Enc α] (V : (List α → Prop) → Prop) : Prop where
  bk : BlkOk Y.X.N Y.X.env.scope scope own
  tgA : ∀ z, TgOk (blkY Y scope z) tg (t.g Y.X.K) t.ws t.f
  hs : ∀ x, foldedSetIterable iter Y.X.env x = pure x
  run : ∀ k, V k → ∃ wi, PI Y.X tg iter wi ∧ ∀ F0 σ H F, Ext F0 F → Sta Y s σ H F → ∀ Qf : VK, (∀ D H' F' (ys : List α), Ext F0 F' → Sta Y ⟨s.ρ, (D, lstc ys) :: s.gs⟩ σ H' F' → k ys → Qf (.ref D) H') →
    tLc wi (t.g Y.X.K) (tt2 Y scope ifs) (te2 Y scope elt) (own.map (·.2)) σ H Qf
end
end Sp
set_option maxHeartbeats 4000000
namespace Sp
open PySem L2 PySem.Calls PyProof.Rows
open PySem.W (Datum DatumOrd SomeDatum KeepsBut EachIs AllAlike Sortable KeyedOut SortsAt)
section
variable {prog : Program} {w : World} {A : Around} {E : Value → Shared → Prop} {s : Shared} {vs : List Value} {kz : List PyData} {f : Value} {a : Addr} {n : Nat} {P : PySem.Fin → Shared → Prop}
end
end Sp
set_option maxHeartbeats 4000000
namespace Sp
open PySem L2 PySem.Calls PyProof.Rows
open PySem.W (Datum DatumOrd SomeDatum)
structure ParOk (N : List Str) (sc scope : Scope) (vs : List Nat) (i : Nat) (x : Str) : Prop where
  kind : scope.kind = .function
  co : scope.isCoroutine = false
  gen : scope.isGenerator = false
  noc : ∀ y ∈ scope.names, y.2 ≠ .cell
  par : scope.names.lookup x = some .local
  at_ : N[i]? = some x
  free : ∀ y ∈ scope.names, y.2 = .free → sc.names.lookup y.1 = some .cell ∨ sc.names.lookup y.1 = some .free
  own : ∀ (j : Nat) (y : Str), N[j]? = some y → scope.names.lookup y = some .local → j ∈ vs
structure LCx where
  A : Around
  s : Shared
  H : Hp
  f : Addr
  c : Addr
abbrev lamE (X : Cx) (scope : Scope) (z : LCx) : Env := LamX.lamEnv X scope z.s.heap.objs.size z.f z.c
def lamK (X : Cx) (scope : Scope) (z : LCx) : Cx where
  prog := X.prog
  w := X.w
  K := X.K
  mg := X.mg
  base := X.base
  A := z.A
  N := X.N
  s_0 := z.s
  H_0 := z.H
  env := lamE X scope z
  outer := X.stack
  stack := lamE X scope z :: X.stack
  ex := []
  fn := fun _ => false
  calm := true
  pn := []
  xe := fun _ _ => False
section
variable {X : Cx} {pins : List (Addr × Obj)} {σ : L2.St} {H : Hp} {s : Shared}
end
abbrev keyY (Y : DX) (k : Nat) (scope : Scope) (z : LCx) (F : Hp) (gs : Gs) : DX := ⟨lamK Y.X scope z, Y.T, k, z.H, F, ads gs, fun _ _ => False⟩
theorem YOk.key {Y : DX} {k : Nat} {scope : Scope} {z : LCx} {F : Hp} {gs : Gs} (ok : YOk Y) (hr : Room k z.A) : YOk (keyY Y k scope z F gs) :=
  ⟨rfl, ok.nd, hr, PassesOwn.never, fun _ _ ⟨_, _, _, _, _, _, _, _, _, _, _, _, _, _, _, _, _, _, _, _, _, q⟩ => q.elim⟩
section
variable {Y : DX} {st : DSt} {σ : L2.St} {H F : Hp} {pins : List (Addr × Obj)} {s : Shared}
end
end Sp
set_option maxHeartbeats 4000000
namespace Sp
open PySem L2 PySem.Calls PyProof.Rows
open PySem.W (Datum DatumOrd SomeDatum EachIs KeyedOut)
section
variable {X : Cx} {pins : List (Addr × Obj)} {σ : L2.St} {H : Hp} {s : Shared}
end
section
variable {Y : DX} {st : DSt} {σ : L2.St} {H F : Hp} {pins : List (Addr × Obj)} {s : Shared}
end
end Sp
set_option maxHeartbeats 4000000
namespace Sp
open PySem L2 PySem.Calls PyProof.Rows
open PySem.W (Datum DatumOrd SomeDatum EachIs KeyedOut)
section
variable {Y : DX} {s : DSt} {e a : Expr} {α κ : Type} [Enc α]
end
section
variable {prog : Program} {w : World} {A : Around} {E : Value → Shared → Prop} {s : Shared}
end
inductive TbL (X : Cx) (T : Tb) (q : Str) (lp : Pos) : Prop
  | pl (h : Tbl X T (.plain q)) : TbL X T q lp
  | mx {ls : List (Nat × Nat)} (h : Tbl X T (.mix ls q)) (hl : lamAt ls lp = true) : TbL X T q lp
structure LamAtT (X : Cx) (T : Tb) (params : Arguments) (body : Expr) (scope : Scope) (H H1 : Hp) (f c' : Addr) (pm ctv : Value) (s' : Shared) : Prop where
  ext : LamX.ExtN H H1
  tb : TbOk T H1
  obj : s'.heap.get? f = some (PySem.W.kla_obj "<lambda>" (X.env.qual ++ "<lambda>") params body scope (cloFrom X.env.cells scope.names []) pm c' ctv)
  free : H1 f = none
  nofr : f ∉ frs X.stack
  code : H1 c' = some (LamX.CodeO c' (X.env.qual ++ "<lambda>"))
section
variable {X : Cx} {pins : List (Addr × Obj)} {σ : L2.St} {H : Hp} {s : Shared}
end
section
variable {Y : DX} {s : DSt} {a : Expr} {α κ : Type} [Enc α] [DecidableEq κ] [Enc κ] [DatumOrd κ] [Dat κ] [Srtb κ]
end
end Sp
set_option maxHeartbeats 400000
namespace Sp
open PySem L2 PySem.Calls PyProof.Rows
open PySem.W (Datum DatumOrd SomeDatum EachIs KeyedOut)
section
variable {X : Cx} {pins : List (Addr × Obj)} {σ : L2.St}
end
def itv (A : Pv) (q : Addr) : Pv := ⟨fun K F v => A.rep K F (.ref q) ∧ ∃ p, v = .ref p ∧ F p = some (L2.DX.itemsO p q), fun ⟨h, p, e1, e2⟩ e => ⟨A.mono h e, p, e1, e _ _ e2⟩⟩
section
variable {Y : DX} {s : DSt} {e : Expr} {κ ν : Type} [DecidableEq κ] [Kk κ] [Enc κ] [KkV κ] [Enc ν]
end
theorem YE.key {Y : DX} {k : Nat} {scope : Scope} {z : LCx} {F : Hp} {gs : Gs} (o : YOk (keyY Y k scope z F gs)) : YE (keyY Y k scope z F gs) (fun _ => True) NoE := ⟨o, fun _ _ _ h => h.elim⟩
section
variable {K : Frag}
end
end Sp
set_option maxHeartbeats 4000000
namespace Sp
open PySem L2
open PySem.W (Datum DatumOrd SomeDatum)
section
variable {X : Cx}
end
section
variable {Y : DX} {s : DSt} {e a b : Expr} {pos p apos : Pos} {W : (List Bool → Prop) → Prop}
end
end Sp
set_option maxHeartbeats 4000000
namespace Sp
open PySem L2 PyProof.Rows
structure WST (X : Cx) (st : List Stmt) (σ : L2.St) (H : Hp) (D : Ends) : Prop where
  run : ∀ (pins : List (Addr × Obj)) (s : Shared), 1 ≤ s.toks → Inv X pins σ H s → wpAny (model X.prog X.w) X.A (execs st X.env) (SP X pins D) X.xe s
section
variable {P : Program} {w : World} {K : Frag} {mg : Str → Option Value} {base : Heap}
def WsT (Y : DX) (s : DSt) (sts : List Stmt) (D : DE) : Prop := ∀ F0 σ H F, Ext F0 F → Sta Y s σ H F → WST Y.X sts σ H (D.to Y F0)
theorem WST.imp {X : Cx} {st : List Stmt} {σ : L2.St} {H : Hp} {D D' : Ends} (h : WST X st σ H D) (k1 : ∀ σ' H', D.nx σ' H' → D'.nx σ' H') (k2 : ∀ v H', D.rt v H' → D'.rt v H') (k3 : ∀ σ' H', D.bk σ' H' → D'.bk σ' H') (k4 : ∀ σ' H', D.ct σ' H' → D'.ct σ' H') : WST X st σ H D' :=
  ⟨fun pins s h0 I => thn (h.run pins s h0 I) fun f s' q => by
    match f, q with
    | .next, ⟨σ', H', J, q⟩ => exact ⟨σ', H', J, k1 _ _ q⟩
    | .brk, ⟨σ', H', J, q⟩ => exact ⟨σ', H', J, k3 _ _ q⟩
    | .cont, ⟨σ', H', J, q⟩ => exact ⟨σ', H', J, k4 _ _ q⟩
    | .ret u, ⟨v, σ', H', J, r, q⟩ => exact ⟨v, σ', H', J, r, k2 _ _ q⟩⟩
theorem WsT.mono {Y : DX} {s : DSt} {sts : List Stmt} {D D' : DE} (h : WsT Y s sts D) (k1 : ∀ s, D.nx s → D'.nx s) (k2 : ∀ A s, D.rt A s → D'.rt A s) (k3 : ∀ s, D.bk s → D'.bk s) (k4 : ∀ s, D.ct s → D'.ct s) : WsT Y s sts D' := fun F0 σ H F e0 S =>
  (h F0 σ H F e0 S).imp (fun _ _ q => Pst.mono q (.refl _) k1) (fun _ _ q => Prt.mono q (.refl _) k2) (fun _ _ q => Pst.mono q (.refl _) k3) (fun _ _ q => Pst.mono q (.refl _) k4)
variable {fa : List He.Fa} {fn : List He.DefD} {tq : TQ}
end
end Sp
set_option maxHeartbeats 4000000
namespace Sp
open PySem L2
open PySem.W (Datum DatumOrd SomeDatum)
end Sp
set_option maxHeartbeats 4000000
namespace Sp
open PySem L2 PySem.Calls PyProof.Rows
open PySem.W (Datum DatumOrd SomeDatum EachIs)
section
variable {prog : Program} {w : World} {A : Around} {E : Value → Shared → Prop} {s : Shared}
end
section
variable {Y : DX} {s : DSt} {a : Expr} {p pos : Pos} {α : Type} [DecidableEq α] [Enc α] [DatumOrd α] [Dat α] [Srtb α]
end
end Sp
set_option maxHeartbeats 4000000
namespace Sp
open PySem L2 PySem.Calls PyProof.Rows
open PySem.W (Frag Datum DatumOrd SomeDatum)
structure TupN (α : Type) where
  tup : Tup α
instance {α : Type} [Enc α] : Enc (TupN α) := ⟨fun K F v x => ∃ p o vs, v = .ref p ∧ F p = some (.frz o (.tup vs)) ∧ o.dict = none ∧ Vs K F vs x.tup.items,
  fun ⟨p, o, vs, h1, h2, h3, h4⟩ e => ⟨p, o, vs, h1, e _ _ h2, h3, h4.mono e⟩⟩
instance {α : Type} : Inhabited (TupN α) := ⟨⟨⟨[]⟩⟩⟩
section
variable {X : Cx}
end
section
variable {Y : DX} {s : DSt} {e a b c o tg iter elt : Expr} {es ifs : List Expr} {pos p p2 apos : Pos} {α β : Type} [Enc α] [Enc β]
end
section
variable {Y : DX} {s : DSt} {a : Expr} {pos p : Pos} {κ ν : Type} [DecidableEq κ] [Kk κ] [Enc κ] [KkV κ] [Enc ν]
end
end Sp
set_option maxHeartbeats 4000000
namespace Sp
open PySem L2
open PySem.W PySem.Calls PyProof.Rows
section
variable {Y : DX} {s : DSt} {e a b c : Expr} {es : List Expr} {pos p : Pos} {D : DE} {st : Stmt} {sts : List Stmt} {α : Type} [Enc α]
end
def wxS (Y : DX) (Gd : DSt → Prop) (E : Ex → Prop) : WX := fun cls d σ H => ∃ e s F, Sta Y s σ H F ∧ ExcRep (exK Y.X.K e) cls d H ∧ Gd s ∧ E e
structure YN (Y : DX) (Gd : DSt → Prop) (E : Ex → Prop) : Prop where
  tk : L2N.Takes Y.X (wxS Y Gd E)
abbrev lft (G0 : Gs → Prop) : DSt → Prop := fun s => ∃ n, G0 (s.gs.drop n)
section
variable {Y : DX} {s : DSt} {e a b c : Expr} {es : List Expr} {pos p : Pos} {D : DE} {st : Stmt} {sts : List Stmt} {α : Type} [Enc α]
theorem s_raise0N {x m : Str} {j : Nat} {C : Addr} {p2 p3 : Pos} {G0 : Gs → Prop} {Gd : DSt → Prop} {E E' : Ex → Prop} (ex : Ex) (ye : YE Y G0 E') (yn : YN Y Gd E) (T : ErrC Y.X.K Y.X.mg x C) (hg : Gl Y.X x) (hx : exK Y.X.K ex = ⟨C, none⟩) (hn : Gd s) (w : E ex)
    (hdb : (x == ("__debug__" : Str)) = false := by decide) : Ws Y s (.Raise (some (.Call (.Name x p) [.Constant (.str m) j p2] [] p3)) none pos :: sts) D :=
  ws_cons fun F0 σ H F e0 S => .of (L2N.ps_raise ye.ok.calm yn.tk (L2N.pmk_own PySem.F.excBase_ValueError T.xi T.g T.kp (raises_own T.sb T.ty) hg hdb)) ⟨ex, s, F, S, by rw [hx]; exact ⟨rfl, rfl⟩, hn, w⟩
structure DfN (P : Program) (w : World) (K : Frag) (mg : Str → Option Value) (base : Heap) (T : Tb) (k : Nat) (x : Str) (ps : List Str) (d : DSp) : Prop where
  ex : ∃ (f : Addr) (fd : FuncData), FnOk P w K mg base (L2N.CX P w) k f fd ps (toSp K T ps.length d) ∧ mg x = some (.ref f) ∧ PySem.W.keepIn K (.ref f) = true ∧ Binds K fd ps []
  mono : DMono d
end
section
variable {P : Program} {w : World} {K : Frag} {mg : Str → Option Value} {base : Heap} {fa : List He.Fa} {fn : List He.DefD} {tq : TQ}
abbrev yBN (P : Program) (w : World) (K : Frag) (mg : Str → Option Value) (base : Heap) (tq : TQ) (k : Nat) (N : List Str) (d : He.DefD) (gs : Gs) (z : BZ) : DX :=
  ⟨cxOf (L2N.CX P w) P w K mg base N d.qual d.scope (He.fAd K d.at_) z.cdv z.A z.outer z.s z.H z.E, tbOf K tq, k, z.H, z.F, ads gs, fun _ _ => False⟩
theorem takes_no {X : Cx} {Y : DX} (hx : Y.ex = fun _ _ => False) : L2.Takes X (wxOf Y) := fun u s' ⟨_, _, _, _, _, _, _, _, _, _, _, _, _, _, _, _, z⟩ => by
  obtain ⟨e, s, F, _, _, z⟩ := z
  rw [hx] at z
  exact z.elim
end
abbrev tryY (Y : DX) (pn : List (Addr × Obj)) (xe : Value → Shared → Prop) (H F : Hp) (gs : Gs) : DX := ⟨Y.X.tr pn xe, Y.T, Y.k, H, F, ads gs, fun _ _ => False⟩
abbrev suY (Y : DX) (a : Addr) (pn : List (Addr × Obj)) : DX := ⟨L2H.suiteX Y.X a pn, Y.T, Y.k, Y.H0, Y.F0, Y.S0, Y.ex⟩
section
variable {Y : DX} {s : DSt} {e a b c : Expr} {es : List Expr} {pos p : Pos} {D : DE} {st : Stmt} {sts : List Stmt} {α : Type} [Enc α]
theorem w1_tryX {x : Str} {C : Addr} {body suite : List Stmt} {b0 : Stmt} {np pos' : Pos} {E : Ex → Prop} {Gd : DSt → Prop} (ok : YOk Y) (hs : Y.X.stack = Y.X.env :: Y.X.outer) (hf : Y.X.env.frame = some Y.X.env.locals) (hc : Names Y.X x (.ref C)) (hpa : ∀ hd : Option Value, PassesOwnAt (model Y.X.prog Y.X.w) (Y.X.A.mark hd) Y.X.A Y.X.env Y.X.xe)
    (hm : ∀ e, E e → PySem.W.exmOne Y.X.K (.ref (exK Y.X.K e).C) (.ref C) = some true)
    (hb : ∀ pn xe H F, YOk (tryY Y pn xe H F s.gs) → L2N.Takes (tryY Y pn xe H F s.gs).X (wxS (tryY Y pn xe H F s.gs) Gd E) → Ws (tryY Y pn xe H F s.gs) s body D)
    (hsu : ∀ e s' a oe pn, E e → Gd s' → L2H.HotC (suY Y a ((a, oe) :: pn)).X → L2.Takes (suY Y a ((a, oe) :: pn)).X (wxOf Y) → Ws (suY Y a ((a, oe) :: pn)) s' (b0 :: suite) D) :
    W1 Y s (.Try body [.ExceptHandler (some (.Name x np)) none (b0 :: suite) pos'] [] [] pos) D := fun F0 σ H F e0 S => by
  refine .of (L2H.ps_try_onlyX hs hf hc hpa ok.tk (tb := fun W D' σ H => ∀ pn xe, L2N.Takes (Y.X.tr pn xe) W → PassesOwn (model Y.X.prog Y.X.w) Y.X.A Y.X.env xe → WS (Y.X.tr pn xe) body σ H D')
    (ts := fun a cls d D' σ H => ∀ oe pn, L2H.HotC (L2H.suiteX Y.X a ((a, oe) :: pn)) → L2.Takes (L2H.suiteX Y.X a ((a, oe) :: pn)) (wxOf Y) → WS (L2H.suiteX Y.X a ((a, oe) :: pn)) (b0 :: suite) σ H D')
    (fun W pn xe tkN _ po => ⟨fun pins s' σ' H' D' I h => (h pn xe tkN po).run pins s' I⟩)
    (fun a oe cls d pn hz hf tk hot => ⟨fun pins s' σ' H' D' I h => (h oe pn hot tk).run pins s' I⟩)) ?_
  intro pn xe tkN po
  have S' : Sta (tryY Y pn xe H F s.gs) s σ H F := ⟨S.ext, S.ntb, S.rep, S.own, S.nd, S.tb, Step.refl⟩
  have back : ∀ {s' : DSt} {σ' : L2.St} {H' F' : Hp}, Sta (tryY Y pn xe H F s.gs) s' σ' H' F' → Sta Y s' σ' H' F' := fun {s' σ' H' F'} S1 => by
    have G0 : Stg Y.X.K Y.T (s.gs ++ []) H F := by rw [List.append_nil]; exact S.stg
    have t0 : Step Y.H0 Y.F0 Y.S0 H F (ads (s.gs ++ [])) := by rw [List.append_nil]; exact S.st
    obtain ⟨G, t⟩ := Step.call (gs1 := s.gs) (gs2 := []) (gs1' := s'.gs) t0 G0 S1.st S1.stg
    rw [List.append_nil] at G t
    exact ⟨G.ext, G.ntb, S1.rep, G.own, G.nd, G.tb, t⟩
  have ok' : YOk (tryY Y pn xe H F s.gs) := ⟨ok.calm, ok.nd, ok.room, po, takes_no rfl⟩
  have yn : L2N.Takes (tryY Y pn xe H F s.gs).X (wxS (tryY Y pn xe H F s.gs) Gd E) := tkN.imp fun cls d σ' H' ⟨e, s', F', S1, er, g, he⟩ => by
    refine ⟨true, by rw [er.1]; exact hm e he, fun _ a na oe pn2 hot tk => ?_, fun z => by cases z⟩
    have S2 := back S1
    refine (hsu e s' a oe pn2 he g hot tk F0 σ' H' F' (e0.trans S1.st.ff) ⟨S2.ext, S2.ntb, S2.rep, S2.own, S2.nd, S2.tb, S2.st⟩).mono (fun _ _ ⟨s3, F3, e3, S3, q⟩ => ⟨s3, F3, e3, ⟨S3.ext, S3.ntb, S3.rep, S3.own, S3.nd, S3.tb, S3.st⟩, q⟩)
      (fun _ _ ⟨A3, s3, σ3, F3, e3, r3, S3, q⟩ => ⟨A3, s3, σ3, F3, e3, r3, ⟨S3.ext, S3.ntb, S3.rep, S3.own, S3.nd, S3.tb, S3.st⟩, q⟩) (fun _ _ ⟨s3, F3, e3, S3, q⟩ => ⟨s3, F3, e3, ⟨S3.ext, S3.ntb, S3.rep, S3.own, S3.nd, S3.tb, S3.st⟩, q⟩) (fun _ _ ⟨s3, F3, e3, S3, q⟩ => ⟨s3, F3, e3, ⟨S3.ext, S3.ntb, S3.rep, S3.own, S3.nd, S3.tb, S3.st⟩, q⟩)
  exact (hb pn xe H F ok' yn F0 σ H F e0 S').mono (fun _ _ ⟨s3, F3, e3, S3, q⟩ => ⟨s3, F3, e3, back S3, q⟩) (fun _ _ ⟨A3, s3, σ3, F3, e3, r3, S3, q⟩ => ⟨A3, s3, σ3, F3, e3, r3, back S3, q⟩) (fun _ _ ⟨s3, F3, e3, S3, q⟩ => ⟨s3, F3, e3, back S3, q⟩) (fun _ _ ⟨s3, F3, e3, S3, q⟩ => ⟨s3, F3, e3, back S3, q⟩)
end
end Sp
set_option maxHeartbeats 4000000
namespace Sp
open PySem L2
open PySem.W PySem.Calls PyProof.Rows
structure FnD where
  qual : Str
  params : Arguments
  body : Expr
  scope : Scope
  cl : List (Str × Addr)
  c : Addr
def LmO (f : Addr) (d : FnD) : HO := .ext fun h => ∃ pm ctv : Value, h.get? f = some (PySem.W.kla_obj "<lambda>" d.qual d.params d.body d.scope d.cl pm d.c ctv)
instance : Enc FnD := ⟨fun _ F v d => ∃ f, v = .ref f ∧ F f = some (LmO f d), fun ⟨f, h1, h2⟩ e => ⟨f, h1, e _ _ h2⟩⟩
section
variable {X : Cx} {pins : List (Addr × Obj)} {σ : L2.St} {H : Hp} {s : Shared}
end
section
variable {Y : DX} {s : DSt} {e : Expr} {es : List Expr} {pos p : Pos} {D : DE} {sts : List Stmt}
end
end Sp
set_option maxHeartbeats 4000000
namespace Sp
open PySem L2
open PySem.W PySem.Calls PyProof.Rows
def clsVal : V → Value
  | .ref a => .ref a
  | .ty n => .type n
  | _ => .none
inductive IsEs (mg : Str → Option Value) (sg : Scope) (n : Str) : List Expr → List V → Prop
  | nil : IsEs mg sg n [] []
  | own {cn : Str} {p1 p2 p3 p4 : Pos} {C : Addr} {es : List Expr} {cs : List V} (hg : sg.names.lookup cn = some .globalImplicit) (hdb : (cn == ("__debug__" : Str)) = false) (hv : mg cn = some (.ref C)) (t : IsEs mg sg n es cs) : IsEs mg sg n (.Call (.Name "isinstance" p1) [.Name n p2, .Name cn p3] [] p4 :: es) (.ref C :: cs)
  | blt {cn : Str} {p1 p2 p3 p4 : Pos} {T : String} {es : List Expr} {cs : List V} (hg : sg.names.lookup cn = some .globalImplicit) (hdb : (cn == ("__debug__" : Str)) = false) (hv : mg cn = none) (hb : bootBuiltins cn = some (.type T)) (hn : cn ≠ "__name__") (t : IsEs mg sg n es cs) : IsEs mg sg n (.Call (.Name "isinstance" p1) [.Name n p2, .Name cn p3] [] p4 :: es) (.ty T :: cs)
abbrev KitB (K : Frag) (D : Addr) : List V → List Bool → Prop := Paired fun c b => kitOne K (.ref D) (clsVal c) = some b
def UndE (K : Frag) (SF : Addr) (c1 c2 c3 : List V) (cls : Value) (d : Option Addr) (H' : Hp) (Q : VK) : Prop := ∃ (D : Addr) (b1 b2 b3 : List Bool), cls = .ref D ∧ exmOne K (.ref D) (.ref SF) = some true ∧ L2.ExcC K D ∧ KitB K D c1 b1 ∧ KitB K D c2 b2 ∧ KitB K D c3 b3 ∧ (∀ dd, d = some dd → ∃ fs, H' dd = some (.xd fs)) ∧
  ∀ p H2, (∀ b o, H' b = some o → H2 b = some o) → H2 p = none → Q (.ref p) (upd H2 p (.lst ((b1 ++ b2 ++ b3).map V.bl)))
def TTu (K : Frag) (SF : Addr) (c1 c2 c3 : List V) : (XK → Hp → VK → Prop) → Hp → VK → Prop := fun tl H Q =>
  tl (fun cls d H' => UndE K SF c1 c2 c3 cls d H' Q) H (fun _ H' => ([] : List V).length ≤ sizeLine ∧ ∀ p, H' p = none → Q (.ref p) (upd H' p (.lst [])))
structure UnderD (X : Cx) (x : Str) (SF : Addr) (c1 c2 c3 : List V) : Prop where
  ex : ∃ (a : Str) (g : Addr) (pg : Arguments) (bg : List Stmt) (sg : Scope) (dV kV doc pm cdv ct oc : Value) (an od : Option Addr) (osl : Array (Option Value)) (Ng : List Str),
    X.mg x = some (.ref g) ∧ PySem.W.keepIn X.K (.ref g) = true ∧ X.K.lookup g = some ⟨oc, od, .func (PySem.W.fnOf x x pg bg sg dV kV doc pm an cdv ct), osl⟩ ∧ PySem.W.codeIn X.K cdv x = true ∧
    L2.Binds X.K (PySem.W.fnOf x x pg bg sg dV kV doc pm an cdv ct) [a] [] ∧ FnScope Ng [a] sg ∧ Ng[0]? = some a ∧ Vis sg a ∧ (a == ("__debug__" : Str)) = false ∧ (a == ("__classdict__" : Str)) = false ∧
    ∀ q, LamX.GivesTo X Ng x sg g cdv bg a q (TTu X.K SF c1 c2 c3)
end Sp
set_option maxHeartbeats 4000000
namespace Sp
open PySem L2
open PySem.W PySem.Calls PyProof.Rows
section
variable {X : Cx} {pins : List (Addr × Obj)} {σ : L2.St} {H HZ : Hp} {s s1 : Shared}
end
instance : Inhabited FnD := ⟨⟨"", ⟨[], [], none, [], [], none, []⟩, .Constant .none 0 ⟨0, 0, 0, 0⟩, default, [], 0⟩⟩
section
variable {Y : DX} {s : DSt} {e a b : Expr} {es : List Expr} {pos p : Pos}
end
end Sp
set_option maxHeartbeats 4000000
namespace Sp
open PySem L2
open PySem.W PySem.Calls PyProof.Rows
section
variable {Y : DX} {s : DSt} {e a b : Expr} {es : List Expr} {pos p : Pos} {G0 : Gs → Prop} {E : Ex → Prop} {ps : List Str} {j : Nat}
end
end Sp
set_option maxHeartbeats 4000000
namespace PySem
namespace ZipS
open Sem (wp)
open Builtin Builtin.Str
section
variable {prog : Program} {w : World} {A : Around} {E : Value → Shared → Prop} {s : Shared}
end
abbrev sIt (x : Str) (t : Tok) : Obj := { cls := .type (strIterType x), data := .fields #[.str x t, .int 0 0] }
abbrev H1 (h : Heap) (x : Str) (t : Tok) : Heap := h.push (sIt x t)
abbrev H2 (h : Heap) (x y : Str) (t u : Tok) : Heap := (H1 h x t).push (sIt y u)
abbrev H3 (h : Heap) (x y : Str) (t u : Tok) : Heap := (H2 h x y t u).push { cls := .type "tuple", data := .seq #[.ref h.objs.size, .ref (H1 h x t).objs.size] }
abbrev H4 (h : Heap) (x y : Str) (t u : Tok) : Heap := (H3 h x y t u).push { cls := .type "tuple", data := .seq #[.none, .none] }
abbrev H5 (h : Heap) (x y : Str) (t u : Tok) : Heap := (H4 h x y t u).push { cls := .type "zip", data := .fields #[.none, .bool false, .bool false, .ref (H2 h x y t u).objs.size, .ref (H3 h x y t u).objs.size] }
section
variable {prog : Program} {w : World} {A : Around} {E : Value → Shared → Prop} {s : Shared}
end
end ZipS
end PySem
set_option maxHeartbeats 4000000
namespace Sp
open PySem PySem.Spec PyProof.Rows L2
open PySem.W (Datum DatumOrd SomeDatum)
section
variable {Y : DX} {s : DSt} {e a b c o : Expr} {es : List Expr} {pos p tpos : Pos}
end
end Sp
set_option maxHeartbeats 4000000
namespace HN
open PySem PySem.Spec PyProof.Rows PySem.SeqAt
section
variable {M : Model} {prog : Program} {w : World} {A : Around} {E : Value → Shared → Prop} {s : Shared} {K : PySem.W.Frag} {x y C : Addr} {ox oy : Obj} {od ody : Option Obj}
end
end HN
namespace Sp
open PySem PySem.Spec PyProof.Rows L2
open PySem.W (Datum DatumOrd SomeDatum)
class Inj (α : Type) [Enc α] : Prop where
  inj : ∀ {K F} {v : V} {x y : α}, Enc.rep K F v x → Enc.rep K F v y → x = y
instance : Inj Int := ⟨fun h1 h2 => by rw [h1] at h2; cases h2; rfl⟩
instance : Inj Bool := ⟨fun h1 h2 => by rw [h1] at h2; cases h2; rfl⟩
instance : Inj (List Nat) := ⟨fun {K F v x y} h1 h2 => by
  have e : V.str (toStr x) = V.str (toStr y) := h1.symm.trans h2
  exact toStr_inj (V.str.inj e)⟩
section
variable {Y : DX} {s : DSt} {e a b c o : Expr} {es : List Expr} {pos p apos cpos : Pos}
section
variable {κ ν : Type} [DecidableEq κ] [Kk κ] [Enc κ] [KkV κ] [Enc ν]
end
section
variable {κ ν : Type} [DecidableEq κ] [Kt κ] [Enc κ] [KtV κ] [Enc ν]
end
end
end Sp
set_option maxHeartbeats 4000000
namespace Sp
open PySem L2
open PySem.W (Datum DatumOrd SomeDatum)
section
variable {o : Expr} {p pos apos cpos : Pos}
end
section
variable {Y : DX} {s : DSt} {o : Expr} {p pos apos cpos : Pos} {κ ν : Type} [DecidableEq κ] [Kk κ] [Enc κ] [KkV κ] [Enc ν]
end
end Sp
set_option maxHeartbeats 4000000
namespace Sp
open PySem L2
open PySem.W (Datum DatumOrd SomeDatum)
theorem fr_chg {K : Frag} {F : Hp} {f : Str} {A : Pv} {vs : List (Str × V)} {fs : Flds} (h : FR K F vs fs) (r : ∀ v, vs.lookup f = some v → A.rep K F v) (hf : (fs.lookup f).isSome = true) : FR K F vs (fput f A fs) := by
  induction h with
  | nil => cases hf
  | @cons p q vs fs r1 t ih =>
    obtain ⟨g, x⟩ := p
    obtain ⟨g', B⟩ := q
    have e : g = g' := r1.1
    subst e
    unfold fput
    rw [List.lookup_cons] at hf
    by_cases z : g = f
    · rw [if_pos z]
      exact .cons ⟨rfl, r x (by rw [List.lookup_cons, show (f == g) = true from beq_iff_eq.mpr z.symm])⟩ t
    · have z2 : (f == g) = false := beq_eq_false_iff_ne.mpr (Ne.symm z)
      rw [if_neg z]
      rw [z2] at hf
      exact .cons r1 (ih (fun v hv => r v (by rw [List.lookup_cons, z2]; exact hv)) hf)
theorem upd_self {H : Hp} {p : Addr} {o : HO} (h : H p = some o) : upd H p o = H := by
  funext a
  by_cases z : a = p
  · rw [z, upd_same, h]
  · rw [upd_ne z]
section
variable {Y : DX} {s : DSt} {e a b c d o : Expr} {sts : List Stmt} {pos p p2 apos : Pos} {D : DE} {C : Addr} {fs : Flds} {q q2 : Addr} {f x : Str}
section
variable {κ ν : Type} [DecidableEq κ] [Kk κ] [Enc κ] [KkV κ] [Enc ν] {m : List (κ × ν)}
theorem s_fldM {W : (List (κ × ν) → Prop) → Prop} {R : List (κ × ν) → Prop} {pn : Pos} (i g : Nat) (c : Cls Y.X.K C) (nn : NoAttr Y.X.K C f) (hN : Y.X.N[i]? = some x) (hρ : s.ρ[i]? = some (some (raw (.ref q)))) (hg : s.gs[g]? = some (q, insc C fs)) (he : EvM Y s e W) (next : ∀ q2 v, R v → Ws Y ⟨s.ρ, (q2, dctc v) :: s.gs.set g (q, insc C (fput f (raw (.ref q2)) fs))⟩ sts D) (w : W R) (hl : fs.length < 1000 := by decide)
    (hv : Vis Y.X.env.scope x := by first | exact .inl rfl | exact .inr (.inl rfl) | exact .inr (.inr rfl)) (hd : (x == ("__debug__" : Str)) = false := by decide) (hcd : (x == ("__classdict__" : Str)) = false := by decide) (hs : swapsWith e (some (.Attribute (.Name x pn) f p2)) pos.line Y.X.env = pure false := by rfl) : Ws Y s (.Assign [.Attribute (.Name x pn) f p2] e pos :: sts) D :=
  ws_cons (w1_fld (g + 1) c nn hl (he.q w fun q2 v r => ⟨hg, evp_v i hN hρ hv hd hcd, next q2 v r⟩) hs)
theorem s_fput {pn pa ps : Pos} (i gi g : Nat) (c : Cls Y.X.K C) (nn : NoAttr Y.X.K C f) (ok : YOk Y) {b : Expr} {W : (ν → Prop) → Prop} {Wk : (κ → Prop) → Prop} (hN : Y.X.N[i]? = some x) (hρ : s.ρ[i]? = some (some (raw (.ref q)))) (hi : s.gs[gi]? = some (q, insc C fs)) (l : fs.lookup f = some (raw (.ref q2))) (hg : s.gs[g]? = some (q2, dctc m)) (he : EvC Y s e W) (hb : EvC Y s b Wk) {R : List (κ × ν) → Prop} (next : ∀ v, R v → Ws Y ⟨s.ρ, s.gs.set g (q2, dctc v)⟩ sts D) (w : W fun v => Wk fun k => m.length < sizeLine ∧ R (dput m k v))
    (hv : Vis Y.X.env.scope x := by first | exact .inl rfl | exact .inr (.inl rfl) | exact .inr (.inr rfl)) (hd : (x == ("__debug__" : Str)) = false := by decide) (hcd : (x == ("__classdict__" : Str)) = false := by decide)
    (hab : attributeBase (.Name x pn) f Y.X.env (eval (.Name x pn) Y.X.env) = eval (.Name x pn) Y.X.env := by exact ab_ok rfl)
    (hs : swapsWith e (some (.Subscript (.Attribute (.Name x pn) f pa) b ps)) pos.line Y.X.env = pure false := by rfl) : Ws Y s (.Assign [.Subscript (.Attribute (.Name x pn) f pa) b ps] e pos :: sts) D := ws_cons fun F0 σ H F e0 S => by
  refine .of (ps_dput (by have := ok.room.units; omega) pe_we pe_we pe_we hs) ?_
  refine (he _ w F σ H F (.refl _) S).mono fun v H1 ⟨_, _, F1, e1, r1, S1, y, ey, es, w⟩ => ?_
  subst ey es
  refine (evp_fld (pos := pa) c nn (evp_v (pos := pn) i hN hρ hv hd hcd) (IA.own gi hi) l hab F1 σ H1 F1 (.refl _) S1).mono fun u H2 ⟨F2, e2, r2, S2⟩ => ?_
  refine (hb _ w F2 σ H2 F2 (.refl _) S2).mono fun z H3 ⟨_, _, F3, e3, r3, S3, k, ek, es, w⟩ => ?_
  subst ek es
  obtain ⟨hF, oo, hoo, _, zs, eo, rv⟩ := S3.cell hg
  subst eo
  refine ⟨q2, upd H3 q2 (.dK (putK zs (Kk.key k) v)), r2, .inl ⟨zs, Kk.key k, hoo, KkV.of r3, by rw [show zs.length = m.length from Paired.length rv]; exact w.1, rfl⟩, _, F3, ((e0.trans e1).trans e2).trans e3, ?_, next _ w.2⟩
  exact S3.write (c' := dctc (dput m k y)) hg hoo (not_codeD rfl) rfl ⟨_, rfl, kvs_put rv (Enc.mono (α := ν) r1 (e2.trans e3))⟩
theorem ws_frFD (gi j : Nat) (hne : j ≠ gi) (hi : s.gs[gi]? = some (q, insc C fs)) (l : fs.lookup f = some (raw (.ref q2))) (hj : s.gs[j]? = some (q2, dctc m)) (h : Ws Y ⟨s.ρ, (s.gs.set gi (q, insc C (fput f (pu (Dct.mk m)) fs))).eraseIdx j⟩ sts D) : Ws Y s sts D := fun F0 σ H F e0 S => by
  obtain ⟨hF, oo, hoo, _, zs, eo, rv⟩ := S.cell hj
  subst eo
  refine ⟨fun pins s1 I => ?_⟩
  obtain ⟨od, J⟩ := I.lock hoo trivial
  have S1 := S.write (o' := .frz od (.dK zs)) (c' := ⟨fun _ _ o => o = .frz od (.dK zs), fun h _ => h⟩) hj hoo (not_codeD rfl) rfl rfl
  have hl : j < s.gs.length := (List.getElem?_eq_some_iff.mp hj).1
  have hi1 : (s.gs.set j (q2, (⟨fun _ _ o => o = .frz od (.dK zs), fun h _ => h⟩ : Cell)))[gi]? = some (q, insc C fs) := by rw [List.getElem?_set_ne hne]; exact hi
  -- frozen, but still held as owned
  obtain ⟨_, o1, ho1, ht1, dx, vs, eo1, fr⟩ := S1.cell hi1
  subst eo1
  have S2 := S1.freeze (i := j) (p := q2) (List.getElem?_set_self hl) upd_same
  have eg : (s.gs.set j (q2, (⟨fun _ _ o => o = .frz od (.dK zs), fun h _ => h⟩ : Cell))).eraseIdx j = s.gs.eraseIdx j := by
    rw [List.eraseIdx_set_eq]
  -- where self's cell is now
  have hil : gi < s.gs.length := (List.getElem?_eq_some_iff.mp hi).1
  obtain ⟨gi2, hgi2, eset⟩ : ∃ gi2, (s.gs.eraseIdx j)[gi2]? = some (q, insc C fs) ∧ ∀ z, (s.gs.set gi z).eraseIdx j = (s.gs.eraseIdx j).set gi2 z := by
    by_cases lt : gi < j
    · refine ⟨gi, by rw [List.getElem?_eraseIdx_of_lt lt]; exact hi, fun z => ?_⟩
      rw [List.eraseIdx_set_gt lt]
    · have gt : j < gi := by omega
      refine ⟨gi - 1, ?_, fun z => ?_⟩
      · rw [List.getElem?_eraseIdx_of_ge (by omega), Nat.sub_add_cancel (by omega)]; exact hi
      · rw [List.eraseIdx_set_lt gt]
  have S2' : Sta Y ⟨s.ρ, s.gs.eraseIdx j⟩ σ (upd H q2 (.frz od (.dK zs))) (upd F q2 (.frz od (.dK zs))) := by rw [← eg]; exact S2
  have rep2 : (pu (Dct.mk m)).rep Y.X.K (upd F q2 (.frz od (.dK zs))) (.ref q2) := ⟨q2, od, zs, rfl, upd_same, rv.mono (Ext.grow hF)⟩
  have S3 := S2'.write (o' := .ins C dx vs) (c' := insc C (fput f (pu (Dct.mk m)) fs)) hgi2 ho1 (not_codeI rfl) rfl ⟨dx, vs, rfl, fr_chg (fr.mono (Ext.grow hF)) (fun v hv => by
    obtain ⟨v2, h2, r2⟩ := fr_look fr l
    rw [hv] at h2
    cases h2
    have : v = .ref q2 := r2
    subst this
    exact rep2) (by rw [l]; rfl)⟩
  rw [upd_self ho1] at S3
  rw [← eset] at S3
  exact (h F0 σ _ _ (e0.trans (Ext.grow hF)) S3).run pins s1 J
theorem d_ownF {pn : Pos} (i gi g : Nat) (c : Cls Y.X.K C) (nn : NoAttr Y.X.K C f) (hN : Y.X.N[i]? = some x) (hρ : s.ρ[i]? = some (some (raw (.ref q)))) (hi : s.gs[gi]? = some (q, insc C fs)) (l : fs.lookup f = some (raw (.ref q2))) (hg : s.gs[g]? = some (q2, dctc m))
    (hab : attributeBase (.Name x pn) f Y.X.env (eval (.Name x pn) Y.X.env) = eval (.Name x pn) Y.X.env := by exact ab_ok rfl)
    (hv : Vis Y.X.env.scope x := by first | exact .inl rfl | exact .inr (.inl rfl) | exact .inr (.inr rfl)) (hd : (x == ("__debug__" : Str)) = false := by decide) (hcd : (x == ("__classdict__" : Str)) = false := by decide) : EvD Y s (.Attribute (.Name x pn) f pos) fun k => k m := fun k w =>
  .of (evp_fld c nn (evp_v i hN hρ hv hd hcd) (IA.own gi hi) l hab) ⟨m, DF.own g hg, rfl, w⟩
end
end
end Sp
set_option maxHeartbeats 4000000
namespace Sp
open PySem L2
open PySem.W (Datum DatumOrd SomeDatum)
structure Tg (γ : Type) where
  id : Addr
  val : γ
instance {γ : Type} [Inhabited γ] : Inhabited (Tg γ) := ⟨⟨default, default⟩⟩
instance {γ : Type} [Enc γ] : Enc (Tg γ) := ⟨fun K F v x => v = .ref x.id ∧ Enc.rep K F v x.val, fun h e => ⟨h.1, Enc.mono h.2 e⟩⟩
instance {γ : Type} [Enc γ] : NoN (Tg γ) := ⟨fun h e => by rw [e] at h; cases h.1⟩
section
variable {Y : DX} {s : DSt} {e a b c o : Expr} {pos p apos : Pos}
end
end Sp
set_option maxHeartbeats 4000000
namespace Sp
open PySem L2 PySem.Calls PyProof.Rows
open PySem.W (Datum DatumOrd SomeDatum)
section
variable {Y : DX} {s : DSt} {e a b c d o : Expr} {es : List Expr} {pos p apos : Pos}
variable {δ : Type} [DecidableEq δ] [Enc δ] [DatumOrd δ] [Dat δ] {W : (List δ → Prop) → Prop} {Wd : (δ → Prop) → Prop}
end
end Sp
set_option maxHeartbeats 4000000
namespace Sp
open PySem L2
open PySem.W (Datum DatumOrd SomeDatum KeqHits)
section
variable {κ ν : Type} [DecidableEq κ] [Kk κ] [Enc κ] [KkV κ] [DecidableEq ν] [Enc ν]
section
variable {Y : DX} {s : DSt} {a b : Expr} {Wa Wb : (List (κ × ν) → Prop) → Prop}
theorem EvD.q' {e : Expr} {W : (List (κ × ν) → Prop) → Prop} {k : List (κ × ν) → Prop} {Q : Pv → DSt → Prop} (h : EvD Y s e W) (w : W k) (q : ∀ A m, DF Y s A m → k m → Q A s) : Ev Y s e Q := h.q w q
end
end
end Sp
set_option maxHeartbeats 4000000
namespace Sp
open PySem L2
structure GTup (K : Frag) (mg : Str → Option Value) (x : Str) (vs : List Txt) : Prop where
  at_ : mg x = some (.ref (He.ga K x))
  sq : ∀ H, SqT K H (He.ga K x) (vs.map fun t => V.str (toStr t))
section
variable {Y : DX} {s : DSt} {pos : Pos} {x : Str} {vs : List Txt}
end
end Sp
set_option maxHeartbeats 4000000
namespace Sp
open PySem L2
open PySem.W PySem.Calls PyProof.Rows
theorem cxN {P : Program} {w : World} {outer : List Env} {H : Hp} {s : Shared} {E : XK} {u : Value} {s' : Shared} (h : L2N.CX P w outer H s E u s') : L2.CX P w outer H s E u s' := by
  obtain ⟨a, B, H', cls, d, rfl, ⟨f1, f2, f3, oe, vs, T, oT, ts, t1, t2, t3⟩, r⟩ := h
  exact ⟨a, B, H', cls, d, rfl, ⟨f1, f2, f3, oe, vs, T, oT, ts, t1, L2N.Zn.zc t2, t3⟩, r⟩
theorem fnOkN {P : Program} {w : World} {K : Frag} {mg : Str → Option Value} {base : Heap} {k : Nat} {f : Addr} {fd : FuncData} {ps : List Str} {sp : Sp} (F : FnOk P w K mg base (L2N.CX P w) k f fd ps sp) : FnOk P w K mg base (L2.CX P w) k f fd ps sp :=
  ⟨F.len, fun A outer s H args us vs Q E hr he hb hv hs => PySem.codeAny_mono (F.run A outer s H args us vs Q E hr he hb hv hs) fun r s' h => by
    cases r with
    | error e => exact cxN h
    | ok fl => cases fl <;> exact h⟩
theorem DfN.df {P : Program} {w : World} {K : Frag} {mg : Str → Option Value} {base : Heap} {T : Tb} {k : Nat} {x : Str} {ps : List Str} {d : DSp} (h : DfN P w K mg base T k x ps d) : Df P w K mg base T k x ps d :=
  ⟨let ⟨f, fd, F, r⟩ := h.ex; ⟨f, fd, fnOkN F, r⟩, h.mono⟩
structure MkrN (P : Program) (w : World) (K : Frag) (mg : Str → Option Value) (base : Heap) (T : Tb) (k : Nat) (x : Str) (C : Addr) (ps : List Str) (d : DSp) : Prop where
  ex : ∃ (f : Addr) (fd : FuncData), FnOk P w K mg base (L2N.CX P w) k f fd ps (toSp K T ps.length d) ∧ Mk K C f ∧ Binds K fd ps []
  g : mg x = some (.ref C)
  mono : DMono d
theorem MkrN.mkr {P : Program} {w : World} {K : Frag} {mg : Str → Option Value} {base : Heap} {T : Tb} {k : Nat} {x : Str} {C : Addr} {ps : List Str} {d : DSp} (h : MkrN P w K mg base T k x C ps d) : Mkr P w K mg base T k x C ps d :=
  ⟨let ⟨f, fd, F, r⟩ := h.ex; ⟨f, fd, fnOkN F, r⟩, h.g, h.mono⟩
section
variable {P : Program} {w : World} {K : Frag} {mg : Str → Option Value} {base : Heap} {fa : List He.Fa} {fn : List He.DefD} {tq : TQ}
end
section
variable {Y : DX} {s : DSt} {e a b c : Expr} {es : List Expr} {pos p : Pos} {D : DE} {sts : List Stmt}
end
end Sp
set_option maxHeartbeats 4000000
namespace Sp
open PySem L2
section
variable {Y : DX} {s : DSt} {e a b c : Expr} {es : List Expr} {pos p : Pos} {D : DE} {sts : List Stmt} {x y : Str} {q : Addr}
end
end Sp
set_option maxHeartbeats 4000000
namespace Sp
open PySem L2
section
variable {Y : DX} {s : DSt} {tg iter elt : Expr} {ifs : List Expr} {pos spos py gpos p p2 : Pos} {scope : Scope} {α β : Type} [Enc α] [Enc β] {D : DE} {sts : List Stmt} {x : Str}
end
end Sp
set_option maxHeartbeats 4000000
namespace Sp
open PySem L2 PySem.Calls PyProof.Rows
abbrev lpair (v k : Value) (c : Nat) : Obj := { cls := .type "list", dict := none, data := .seq #[v, k] c, slots := #[] }
section
variable {prog : Program} {w : World} {A : Around}
structure MinS (prog : Program) (w : World) (A : Around) (I q S : Addr) (n : Nat) (Lp : Nat → Value → Value → Shared → Prop) (Md : Nat → Value → Value → Value → Shared → Prop) (Cm : Nat → Value → Value → Value → Value → Shared → Prop) (Fi : Value → Shared → Prop) : Prop where
  at_ : ∀ {j vb kb s}, Lp j vb kb s → ∃ c, s.heap.get? S = some (lpair vb kb c)
  nx : ∀ {j vb kb s}, Lp j vb kb s → j + 1 < n → ∀ (Q : Option Value → Shared → Prop) (E : Value → Shared → Prop), (∀ v s', Md j vb kb v s' → Q (some v) s') → wpAny (model prog w) A (pyNext (.ref I)) Q E s
  dn : ∀ {j vb kb s}, Lp j vb kb s → j + 1 = n → ∀ (Q : Option Value → Shared → Prop) (E : Value → Shared → Prop), (∀ s' c, s'.heap.get? S = some (lpair vb kb c) → (∀ k : Value → Shared → Prop, (∀ s2, Fi vb s2 → k vb s2) → k vb { s' with heap := s'.heap.update S (Obj.mapSeq fun _ => #[]) }) → Q none s') → wpAny (model prog w) A (pyNext (.ref I)) Q E s
  ca : ∀ {j vb kb v s}, Md j vb kb v s → ∀ (Q : Value → Shared → Prop) (E : Value → Shared → Prop), (∀ kx s', Cm j vb kb v kx s' → Q kx s') → wpAny (model prog w) A (call (.ref q) [v]) Q E s
  cm : ∀ {j vb kb v kx s}, Cm j vb kb v kx s → ∃ (b : Bool) (c : Nat), s.heap.get? S = some (lpair vb kb c) ∧ (∀ (Q : Value → Shared → Prop) (E : Value → Shared → Prop), Q (.bool b) s → wpAny (model prog w) A (richCompare .Lt kx kb) Q E s) ∧
    (b = true → Lp (j + 1) v kx { s with heap := s.heap.update S (Obj.mapSeq fun _ => #[v, kx]) }) ∧ (b = false → Lp (j + 1) vb kb s)
structure MaxS (prog : Program) (w : World) (A : Around) (I q S : Addr) (n : Nat) (Lp : Nat → Value → Value → Shared → Prop) (Md : Nat → Value → Value → Value → Shared → Prop) (Cm : Nat → Value → Value → Value → Value → Shared → Prop) (Fi : Value → Shared → Prop) : Prop where
  at_ : ∀ {j vb kb s}, Lp j vb kb s → ∃ c, s.heap.get? S = some (lpair vb kb c)
  nx : ∀ {j vb kb s}, Lp j vb kb s → j + 1 < n → ∀ (Q : Option Value → Shared → Prop) (E : Value → Shared → Prop), (∀ v s', Md j vb kb v s' → Q (some v) s') → wpAny (model prog w) A (pyNext (.ref I)) Q E s
  dn : ∀ {j vb kb s}, Lp j vb kb s → j + 1 = n → ∀ (Q : Option Value → Shared → Prop) (E : Value → Shared → Prop), (∀ s' c, s'.heap.get? S = some (lpair vb kb c) → (∀ k : Value → Shared → Prop, (∀ s2, Fi vb s2 → k vb s2) → k vb { s' with heap := s'.heap.update S (Obj.mapSeq fun _ => #[]) }) → Q none s') → wpAny (model prog w) A (pyNext (.ref I)) Q E s
  ca : ∀ {j vb kb v s}, Md j vb kb v s → ∀ (Q : Value → Shared → Prop) (E : Value → Shared → Prop), (∀ kx s', Cm j vb kb v kx s' → Q kx s') → wpAny (model prog w) A (call (.ref q) [v]) Q E s
  cm : ∀ {j vb kb v kx s}, Cm j vb kb v kx s → ∃ (b : Bool) (c : Nat), s.heap.get? S = some (lpair vb kb c) ∧ (∀ (Q : Value → Shared → Prop) (E : Value → Shared → Prop), Q (.bool b) s → wpAny (model prog w) A (richCompare .Gt kx kb) Q E s) ∧
    (b = true → Lp (j + 1) v kx { s with heap := s.heap.update S (Obj.mapSeq fun _ => #[v, kx]) }) ∧ (b = false → Lp (j + 1) vb kb s)
end
end Sp
set_option maxHeartbeats 4000000
namespace Sp
open PySem L2 PySem.Calls PyProof.Rows
open PySem.W (Datum DatumOrd SomeDatum EachIs KeyedOut)
section
variable {M : Model} {A : Around} {E : Value → Shared → Prop} {s : Shared} {name qual : Str} {params : Arguments} {body : Expr} {scope : Scope} {env : Env} {c P : Addr} {ps : Array Value} {pos : Pos} {firstLine : Nat} {mg : Str → Option Value} {clos : List (Str × Addr)} {Q : Value → Shared → Prop}
end
def CodeIs (own : Bool) (H : Hp) (c : Addr) (q : Str) : Prop := match own with
  | false => H c = some (LamX.CodeO c q)
  | true => ∃ P, H c = some (CodeT c P (some q)) ∧ H P = some (PTab P)
theorem CodeIs.ext {own : Bool} {H H' : Hp} {c : Addr} {q : Str} (h : CodeIs own H c q) (e : ∀ b φ, H b = some (.ext φ) → H' b = some (.ext φ)) : CodeIs own H' c q := by
  cases own with
  | false => exact e _ _ h
  | true =>
    obtain ⟨P, h1, h2⟩ := h
    exact ⟨P, e _ _ h1, e _ _ h2⟩
structure ParOkC (N : List Str) (sc scope : Scope) (vs : List Nat) (i : Nat) (x : Str) : Prop where
  kind : scope.kind = .function
  co : scope.isCoroutine = false
  gen : scope.isGenerator = false
  one : (scope.names.filter fun y => y.2 == .cell) = [(x, .cell)]
  par : scope.names.lookup x = some .cell
  at_ : N[i]? = some x
  free : ∀ y ∈ scope.names, y.2 = .free → sc.names.lookup y.1 = some .cell ∨ sc.names.lookup y.1 = some .free
  own : ∀ (j : Nat) (y : Str), N[j]? = some y → scope.names.lookup y = some .local → j ∈ vs
section
variable {M : Model} {A : Around} {E : Value → Shared → Prop} {s : Shared}
end
inductive TbLO (X : Cx) (T : Tb) (q : Str) (lp : Pos) : Bool → Prop
  | of (h : TbL X T q lp) : TbLO X T q lp false
  | ne (h : Tbl X T (.nest (some q))) : TbLO X T q lp true
structure LamAtO (own : Bool) (X : Cx) (T : Tb) (params : Arguments) (body : Expr) (scope : Scope) (H H1 : Hp) (f c' : Addr) (pm ctv : Value) (s' : Shared) : Prop where
  ext : LamX.ExtN H H1
  tb : TbOk T H1
  obj : s'.heap.get? f = some (PySem.W.kla_obj "<lambda>" (X.env.qual ++ "<lambda>") params body scope (cloFrom X.env.cells scope.names []) pm c' ctv)
  free : H1 f = none
  nofr : f ∉ frs X.stack
  code : CodeIs own H1 c' (X.env.qual ++ "<lambda>")
section
variable {X : Cx} {pins : List (Addr × Obj)} {σ : L2.St} {H : Hp} {s : Shared}
end
section
variable {X : Cx} {pins : List (Addr × Obj)} {σ : L2.St} {H : Hp} {s : Shared}
end
section
variable {Y : DX} {st : DSt} {σ : L2.St} {H F : Hp} {pins : List (Addr × Obj)} {s : Shared}
end
end Sp
set_option maxHeartbeats 4000000
namespace Sp
open PySem L2 PySem.Calls PyProof.Rows
open PySem.W (Datum DatumOrd SomeDatum EachIs KeyedOut)
section
variable {α κ : Type} [DecidableEq κ] [DatumOrd κ]
end
structure KJ (own : Bool) (Y : DX) (st : DSt) (σ : L2.St) (pins : List (Addr × Obj)) (f : Addr) (fo : Obj) (c I S : Addr) (F1 : Hp) (s : Shared) (H F : Hp) : Prop where
  inv : Inv Y.X ((f, fo) :: pins) σ H s
  nI : H I = none
  nS : H S = none
  ext : Ext F1 F
  sta : Sta Y st σ H F
  co : CodeIs own H c (Y.X.env.qual ++ "<lambda>")
section
variable {Y : DX} {st : DSt} {σ : L2.St} {pins : List (Addr × Obj)} {f c I S : Addr} {fo : Obj} {F1 H H0 F : Hp} {s : Shared}
end
section
variable {Y : DX} {st : DSt} {σ : L2.St} {pins : List (Addr × Obj)} {f c I S : Addr} {A0 : Pv} {α κ : Type} [Enc α] [DecidableEq κ] [Enc κ] [DatumOrd κ] [Dat κ] [Srtb κ] {k i : Nat} {vs : List Nat} {scope : Scope} {x : Str} {params : Arguments} {body : Expr} {pm ctv : Value}
end
end Sp
set_option maxHeartbeats 4000000
namespace Sp
open PySem L2 PySem.Calls PyProof.Rows
open PySem.W (Datum DatumOrd SomeDatum EachIs KeyedOut)
section
variable {Y : DX} {s : DSt} {a : Expr} {α κ : Type} [Enc α] [DecidableEq κ] [Enc κ] [DatumOrd κ] [Dat κ] [Srtb κ]
end
end Sp
set_option maxHeartbeats 4000000
namespace Sp
open PySem L2
open PySem.W (Datum DatumOrd SomeDatum)
theorem YE.nox {Y : DX} (o : YOk Y) : YE Y (fun _ => True) NoE := ⟨o, fun _ _ _ h => h.elim⟩
abbrev obc {γ : Type} [o : Ob γ] (K : Frag) (m : γ) : Cell := insc (He.ga K o.cls) (o.flds m)
section
variable {γ τ ρ : Type} [Ob γ] [Ags τ] [Enc ρ]
end
section
variable {Y : DX} {s : DSt} {e a b c o : Expr} {es : List Expr} {pos p apos : Pos} {Q : Pv → DSt → Prop} {fs : Flds} {C : Addr}
theorem sp_callP {n : Nat} {d : DSp} {σ : L2.St} {F0 H F : Hp} {vs : List V} {As : List Pv} {gs1 gs2 : Gs} (e0 : Ext F0 F) (S : Sta Y s σ H F) (r : Rvs Y.X.K F vs As) (hn : As.length = n) (hp : s.gs.Perm (gs1 ++ gs2))
    (h : d As gs1 (fun A gs' => Q A ⟨s.ρ, gs' ++ gs2⟩) (fun e gs' => ∃ l, (gs' ++ gs2).Perm l ∧ Y.ex e ⟨s.ρ, l⟩))
    (mono : ∀ (R R' : Pv → Gs → Prop) (E E' : Exc → Gs → Prop), (∀ A g, R A g → R' A g) → (∀ e g, E e g → E' e g) → d As gs1 R E → d As gs1 R' E') :
    toSp Y.X.K Y.T n d vs H (Po Y σ F0 Q) (L2.WE (wxOf Y) σ) := by
  have G := (S.perm hp).stg
  have nd := G.nd
  rw [List.map_append, List.nodup_append] at nd
  refine ⟨(Paired.length r).trans hn, As, gs1, F, r, ⟨G.ext, G.ntb, fun p hp => G.own p (List.mem_append_left _ hp), nd.1, G.tb⟩, mono _ _ _ _ (fun A g q v H' F' r' G1 c => ?_) (fun e g q cls dd H' F' r' G1 c => ?_) h⟩
  · exact ⟨A, _, F', e0.trans c.ff, r', S.called hp G1 c, q⟩
  · obtain ⟨l, hl, q⟩ := q
    exact ⟨e, ⟨s.ρ, l⟩, F', (S.called hp G1 c).perm hl, r', q⟩
theorem ev_methP {B : Pv} {m : Str} {ps : List Str} {dd : DSp} {j : Nat} {pl : Sem Bool} (G : Mt Y.X.prog Y.X.w Y.X.K Y.X.mg Y.X.base Y.T j C m ps dd) (c : Cls Y.X.K C) (ok : YOk Y) (hj : j ≤ Y.k) (ho : EvP Y s o B) (hB : IA Y s B C fs) (hf : fs.lookup m = none)
    (h : Evs Y s (e :: es) fun As s1 => As.length + 1 = ps.length ∧ ∃ gs1 gs2, s1.gs.Perm (gs1 ++ gs2) ∧ dd (B :: As) gs1 (fun A gs' => Q A ⟨s1.ρ, gs' ++ gs2⟩) (fun e gs' => ∃ l, (gs' ++ gs2).Perm l ∧ Y.ex e ⟨s1.ρ, l⟩))
    (hst : starEach (e :: es) Y.X.env = (false, eval e Y.X.env) :: starEach es Y.X.env) (hpl : (backTo pos (starEach es Y.X.env)).any (·.1) = false)
    (ht : eval (.Call (.Attribute o m apos) (e :: es) [] pos) Y.X.env = (do
      let ov ← eval o Y.X.env
      standAt apos.atName
      let (f, first) ← holding [ov] (getMethod ov m pl)
      callWith pos f first (backTo pos (starEach (e :: es) Y.X.env)) (backToKw pos (keywordEach [] Y.X.env)))) : Ev Y s (.Call (.Attribute o m apos) (e :: es) [] pos) Q := fun F0 σ H F e0 S => by
  obtain ⟨⟨f, fd, F1, hm, hb⟩, mono⟩ := G
  refine .of (pe_methS (E := L2.WE (wxOf Y)) pe_we c hm F1 (ok.room.mono hj) hb (fun σ => passAt ok.tk σ) pa_wa hst hpl ht) ?_
  refine (ho F σ H F (.refl _) S).mono fun v H1 ⟨F1, e1, r1, S1⟩ => ?_
  obtain ⟨a, dx, vs, ev, ha, rf⟩ := hB σ H1 F1 v S1 r1
  refine ⟨a, dx, vs, ev, ha, fr_no rf hf, ?_⟩
  refine (h F1 σ H1 F1 (.refl _) S1).mono fun us H2 ⟨As, s2, F2, e2, r2, S2, hl, gs1, gs2, hp, q⟩ => ?_
  exact sp_callP ((e0.trans e1).trans e2) S2 (.cons (B.mono r1 e2) r2) (by rw [List.length_cons]; exact hl) hp q (mono (B :: As) gs1)
theorem ev_methP0 {B : Pv} {m : Str} {ps : List Str} {dd : DSp} {j : Nat} {pl : Sem Bool} (G : Mt Y.X.prog Y.X.w Y.X.K Y.X.mg Y.X.base Y.T j C m ps dd) (c : Cls Y.X.K C) (ok : YOk Y) (hj : j ≤ Y.k) (ho : EvP Y s o B) (hB : IA Y s B C fs) (hf : fs.lookup m = none)
    (h : 1 = ps.length ∧ ∃ gs1 gs2, s.gs.Perm (gs1 ++ gs2) ∧ dd [B] gs1 (fun A gs' => Q A ⟨s.ρ, gs' ++ gs2⟩) (fun e gs' => ∃ l, (gs' ++ gs2).Perm l ∧ Y.ex e ⟨s.ρ, l⟩))
    (ht : eval (.Call (.Attribute o m apos) [] [] pos) Y.X.env = (do
      let ov ← eval o Y.X.env
      standAt apos.atName
      let (f, first) ← holding [ov] (getMethod ov m pl)
      callWith pos f first (backTo pos (starEach [] Y.X.env)) (backToKw pos (keywordEach [] Y.X.env)))) : Ev Y s (.Call (.Attribute o m apos) [] [] pos) Q := fun F0 σ H F e0 S => by
  obtain ⟨⟨f, fd, F1, hm, hb⟩, mono⟩ := G
  obtain ⟨hl, gs1, gs2, hp, q⟩ := h
  refine .of (pe_methS0 (E := L2.WE (wxOf Y)) pe_we c hm F1 (ok.room.mono hj) hb (fun σ => passAt ok.tk σ) ht) ?_
  refine (ho F σ H F (.refl _) S).mono fun v H1 ⟨F1, e1, r1, S1⟩ => ?_
  obtain ⟨a, dx, vs, ev, ha, rf⟩ := hB σ H1 F1 v S1 r1
  exact ⟨a, dx, vs, ev, ha, fr_no rf hf, sp_callP (e0.trans e1) S1 (.cons r1 .nil) hl hp q (mono [B] gs1)⟩
end
def EvSt (Y : DX) (s : DSt) (e : Expr) {α γ : Type} [Enc α] (put : γ → DSt) (W : (α × γ → Prop) → Prop) : Prop := ∀ k : α × γ → Prop, W k → Ev Y s e fun A s' => ∃ x m, A = pu x ∧ s' = put m ∧ k (x, m)
def EtSt (Y : DX) (s : DSt) (e : Expr) {γ : Type} (put : γ → DSt) (W : (Bool × γ → Prop) → Prop) : Prop := ∀ k : Bool × γ → Prop, W k → Et Y s e fun b s' => ∃ m, s' = put m ∧ k (b, m)
theorem perm_set {α : Type} : ∀ {l : List α} {i : Nat} {x y : α}, l[i]? = some x → ([y] ++ l.eraseIdx i).Perm (l.set i y)
  | [], i, x, y, h => by simp at h
  | z :: l, 0, x, y, h => .refl _
  | z :: l, i + 1, x, y, h => by
    have ih := perm_set (l := l) (i := i) (x := x) (y := y) (by simpa using h)
    rw [List.eraseIdx_cons_succ, List.set_cons_succ]
    exact (List.Perm.swap z y _).trans (ih.cons z)
section
variable {Y : DX} {s : DSt} {e a b c o : Expr} {es : List Expr} {pos p apos : Pos} {τ ρ α β γ : Type} [Ags τ] [Enc ρ] [Enc α] [Enc β] [og : Ob γ] {G0 : Gs → Prop} {E : Ex → Prop} {V : (τ → Prop) → Prop} {ps : List Str} {j : Nat} {y m : Str} {q : Addr} {py : Pos} {mm : γ}
end
section
variable {Y : DX} {s : DSt} {e a b c : Expr} {pos p lpos : Pos} {α β γ : Type} [Enc α] [Enc β] {put : γ → DSt} {body : Expr} {scope : Scope} {x : Str} {tg : Expr} {sts : List Stmt} {D : DE} {p2 : Pos}
theorem c_toldS {x : Str} {l : Cls_} {params : Arguments} {We : (Ex → Prop) → (α × γ → Prop) → Prop} {gp : γ → Gs} (k : Nat) (m0 : γ) (inj : α → β) (tin : Txt → β) (tl : Ex → Option Txt) (G : Told Y.X x l) (htl : ∀ e t, tl e = some t → Tell Y.X.K l (exK Y.X.K e).C t) (tb : Tbl Y.X Y.T (.plain (Y.X.env.qual ++ "<lambda>"))) (ok : YOk Y) (hk : k + 2 ≤ Y.k) (hg : Gl Y.X x) (L : LamX.LamS Y.X.env.scope scope)
    (hi : ∀ K F v (m : α), Enc.rep K F v m → Enc.rep K F v (inj m)) (ht : ∀ K F v (m : Txt), Enc.rep K F v m → Enc.rep K F v (tin m)) (h0 : gp m0 = s.gs)
    (h : ∀ (z : LZ) (E : Ex → Prop), YE (lzY Y k scope s.gs z) (fun gs => gs = s.gs) E → EvSt (lzY Y k scope s.gs z) s body (fun m => ⟨s.ρ, gp m⟩) (We E))
    (hdef : defaultsOf params Y.X.env = ([], []) := by rfl) (hbind : ∀ (q : Str) (cl : List (Str × Addr)) (pm cv ctv : Value), bindArgs (PySem.W.kla_fn "<lambda>" q params body scope cl pm cv ctv) ⟨[], []⟩ = pure [] := by intros; rfl)
    (hdb : (x == ("__debug__" : Str)) = false := by decide) : EvSt Y s (.Call (.Name x p) [.Lambda params body scope lpos] [] pos) (fun m => ⟨s.ρ, gp m⟩) fun kk => We (fun e => ∃ t, tl e = some t ∧ kk (tin t, m0)) fun r => kk (inj r.1, r.2) := fun kk w =>
  ev_as (ev_dropN (ev_told G tb ok hk hg L (fun A outer s1 Hc E0 f c' H F => by
    intro Y' ok'
    refine (h ⟨A, outer, s1, Hc, E0, f, c', H, F, _⟩ _ ⟨ok', fun e s' ⟨n, hn⟩ he => ?_⟩ _ w).mono fun A s' ⟨r, m, ea, es, hr⟩ => ?_
    · obtain ⟨t, h1, h2⟩ := he
      exact ⟨t, htl e t h1, n, pu (tin t), fun F v r => ht _ _ _ _ r, tin t, m0, rfl, by rw [hn, ← h0], h2⟩
    · subst ea es
      exact ⟨0, pu (inj r), fun F v q => hi _ _ _ _ q, inj r, m, rfl, rfl, hr⟩) hdef hbind hdb))
theorem s_exprS {R : α × γ → Prop} {W : (α × γ → Prop) → Prop} (he : EvSt Y s e put W) (next : ∀ v m, R (v, m) → Ws Y (put m) sts D) (w : W R) (hs : swapsWith e none pos.line Y.X.env = pure false := by rfl) : Ws Y s (.Expr e pos :: sts) D := ws_cons (w1_expr ((he _ w).mono fun A s' ⟨v, m, ea, es, r⟩ => by subst es; exact next v m r) hs)
theorem s_asgS {R : α × γ → Prop} {W : (α × γ → Prop) → Prop} (i : Nat) (ok : YOk Y) (hi : Y.X.N[i]? = some x) (he : EvSt Y s e put W) (next : ∀ v m, R (v, m) → Ws Y ⟨(put m).ρ.set i (some (pu v)), (put m).gs⟩ sts D) (w : W R)
    (hx : Loc Y.X.env.scope x := by first | exact .inl rfl | exact .inr rfl) (hs : swapsWith e (some (.Name x p2)) pos.line Y.X.env = pure false := by rfl) (hf : Y.X.fn x = true ∨ Y.X.env.scope.names.lookup x = some .local := by first | exact .inl rfl | exact .inr rfl) : Ws Y s (.Assign [.Name x p2] e pos :: sts) D :=
  ws_cons (w1_set i ok hi hx ((he _ w).mono fun A s' ⟨v, m, ea, es, r⟩ => by subst ea es; exact next v m r) hs hf)
end
end Sp
set_option maxHeartbeats 4000000
namespace Sp
open PySem L2
open PySem.W (Datum DatumOrd SomeDatum)
section
variable {Y : DX} {s : DSt} {e a b c : Expr} {r : List Expr} {pos p : Pos} {γ : Type} {put : γ → DSt} {sts : List Stmt} {D : DE}
theorem t_neS {δ : Type} [DecidableEq δ] [Enc δ] [Datum δ] [Dat δ] {Wa : (δ × γ → Prop) → Prop} {Wb : (δ → Prop) → Prop} (ok : YOk Y) (ha : EvSt Y s a put Wa) (hb : ∀ m, EvC Y (put m) b Wb) (hd : Datum.depth δ ≤ 60 := by decide) (h1 : behindInMarks .NotEq b = false := by first | exact nobehind _ (by decide) (by decide) | rfl) :
    EtSt Y s (.Compare a [.NotEq] [b] pos) put fun k => Wa fun i => Wb fun j => k (decide (i.1 ≠ j), i.2) := fun k w =>
  et_cmp (cmp_of (op_neT (α := δ) ok.room.units hd) ((ha _ w).mono fun A s1 ⟨i, m, ea, es, w⟩ => by
    subst ea es
    exact (hb m).q w fun j w => ⟨_, ⟨m, rfl, w⟩, fun σ H F v u Q S r1 r2 q => ⟨i, j, DA.pu σ H F v S r1, DA.pu σ H F u S r2, q⟩⟩)) h1
theorem s_ifS {B C : γ → Prop} {A1 A2 : List Stmt} {Wc : (Bool × γ → Prop) → Prop} (hc : EtSt Y s c put Wc) (h1 : ∀ m, B m → Ws Y (put m) A1 { D with nx := fun s' => Ws Y s' sts D }) (h2 : ∀ m, C m → Ws Y (put m) A2 { D with nx := fun s' => Ws Y s' sts D }) (w : Wc fun t => (t.1 = true → B t.2) ∧ (t.1 = false → C t.2)) : Ws Y s (.If c A1 A2 pos :: sts) D :=
  ws_cons (w1_if ((hc _ w).mono fun t s' ⟨m, es, w1, w2⟩ => by
    subst es
    cases t with
    | true => rw [if_pos rfl]; exact h1 m (w1 rfl)
    | false => rw [if_neg Bool.false_ne_true]; exact h2 m (w2 rfl)))
end
def EvI (Y : DX) (s : DSt) (e : Expr) (γ : Type) [Ob γ] (W : (γ → Prop) → Prop) : Prop := ∀ k : γ → Prop, W k → Ev Y s e fun A s' => ∃ q m, A = raw (.ref q) ∧ s' = ⟨s.ρ, (q, obc Y.X.K m) :: s.gs⟩ ∧ k m
section
variable {Y : DX} {s : DSt} {e a b c : Expr} {es : List Expr} {pos p : Pos} {τ α γ : Type} [Ags τ] [Enc α] [og : Ob γ] {G0 : Gs → Prop} {E : Ex → Prop} {V : (τ → Prop) → Prop} {ps : List Str} {j : Nat} {sts : List Stmt} {D : DE} {x : Str} {p2 : Pos} {tg : Expr}
theorem ev_makeI {Q : Pv → DSt → Prop} {C : Addr} {dd : DSp} (G : Mkr Y.X.prog Y.X.w Y.X.K Y.X.mg Y.X.base Y.T j x C ps dd) (ok : YOk Y) (hj : j + 1 ≤ Y.k) (hg : Gl Y.X x)
    (h : Evs Y s (e :: es) fun As s1 => As.length + 1 = ps.length ∧ ∀ q, ∃ gs1 gs2, s1.gs.Perm (gs1 ++ gs2) ∧ dd (raw (.ref q) :: As) ((q, insc C []) :: gs1)
      (fun A gs' => A = pu () ∧ Q (raw (.ref q)) ⟨s1.ρ, gs' ++ gs2⟩) (fun e gs' => Y.ex e ⟨s1.ρ, gs' ++ gs2⟩))
    (hdb : (x == ("__debug__" : Str)) = false) (he : starEach (e :: es) Y.X.env = (false, eval e Y.X.env) :: starEach es Y.X.env) (hpl : (backTo pos (starEach es Y.X.env)).any (·.1) = false) : Ev Y s (.Call (.Name x p) (e :: es) [] pos) Q := fun F0 σ H F e0 S => by
  obtain ⟨⟨f, fd, F1, M, hb⟩, hm, mono⟩ := G
  refine .of (pe_makeS (E := L2.WE (wxOf Y)) M F1 (ok.room.mono hj) hg hm hb (fun σ => passAt ok.tk σ) pa_wa hdb he hpl) ?_
  refine (h F0 σ H F e0 S).mono fun us H1 ⟨As, s1, F1, e1, r1, S1, hl, k⟩ => ?_
  intro q dx hq hdx hne
  obtain ⟨gs1, gs2, hp, hd⟩ := k q
  have S2 := S1.newF (o := .own q) hdx rfl
  have hq2 : (upd H1 dx (.own q)) q = none := by rw [upd_ne (Ne.symm hne)]; exact hq
  have S3 := S2.newO (o := .ins C dx []) (c := insc C []) hq2 rfl ⟨dx, [], rfl, .nil⟩
  have hp3 : ((q, insc C []) :: s1.gs).Perm (((q, insc C []) :: gs1) ++ gs2) := hp.cons _
  have e2 : Ext F1 (upd F1 dx (.own q)) := Ext.grow (S1.free hdx)
  have sp := sp_call (Q := fun A s' => A = pu () ∧ Q (raw (.ref q)) s') (As := raw (.ref q) :: As) (n := ps.length) (d := dd) (F0 := F0) (e1.trans e2) S3 (.cons rfl (r1.mono e2)) (by rw [List.length_cons]; exact hl) hp3 hd (mono _ _)
  obtain ⟨hlen, As', gs', F', rr, G', d'⟩ := sp
  refine ⟨hlen, As', gs', F', rr, G', mono _ _ _ _ _ _ (fun A g q3 v H' F'' ra G2 st => ?_) (fun e g q3 => q3) d'⟩
  obtain ⟨B, s4, F4, e4, r4, S4, eb, q4⟩ := q3 v H' F'' ra G2 st
  subst eb
  exact ⟨r4, raw (.ref q), _, _, e4, rfl, S4, q4⟩
theorem i_make {w : τ → (γ → Prop) → (Ex → Prop) → Prop} (n : Nat) (ye : YE Y G0 E) (G : Mkr Y.X.prog Y.X.w Y.X.K Y.X.mg Y.X.base Y.T j x (He.ga Y.X.K (Ob.cls γ)) ps (spI Y.X.K w)) (hj : j + 1 ≤ Y.k) (hg : Gl Y.X x) (h : EvA Y s (e :: es) V) (hl : ∀ t : τ, (Ags.pvs t).length + 1 = ps.length) (hn : G0 (s.gs.drop n))
    (hdb : (x == ("__debug__" : Str)) = false := by decide) (he : starEach (e :: es) Y.X.env = (false, eval e Y.X.env) :: starEach es Y.X.env := by exact star_c rfl) (hpl : (backTo pos (starEach es Y.X.env)).any (·.1) = false := by exact star_any rfl) : EvI Y s (.Call (.Name x p) (e :: es) [] pos) γ fun k => V fun t => Cl (w t) k E := fun k ww =>
  ev_makeI G ye.ok hj hg ((h _ ww).mono fun As s1 ⟨t, ea, es, R0, E0, w0, hr, hE⟩ => by
    subst ea es
    refine ⟨hl t, fun q => ⟨[], _, .refl _, q, t, rfl, rfl, R0, E0, w0, fun r qq => ⟨rfl, q, r, rfl, rfl, hr r qq⟩, fun e qq fs => ye.ex e _ ⟨n + 1, ?_⟩ (hE e qq)⟩⟩
    exact hn) hdb he hpl
theorem s_asgI {R : γ → Prop} {W : (γ → Prop) → Prop} (i : Nat) (ok : YOk Y) (hi : Y.X.N[i]? = some x) (he : EvI Y s e γ W) (next : ∀ q m, R m → Ws Y ⟨s.ρ.set i (some (raw (.ref q))), (q, obc Y.X.K m) :: s.gs⟩ sts D) (w : W R)
    (hx : Loc Y.X.env.scope x := by first | exact .inl rfl | exact .inr rfl) (hs : swapsWith e (some (.Name x p2)) pos.line Y.X.env = pure false := by rfl) (hf : Y.X.fn x = true ∨ Y.X.env.scope.names.lookup x = some .local := by first | exact .inl rfl | exact .inr rfl) : Ws Y s (.Assign [.Name x p2] e pos :: sts) D :=
  ws_cons (w1_set i ok hi hx ((he _ w).mono fun A s' ⟨q, m, ea, es, r⟩ => by subst ea es; exact next q m r) hs hf)
end
section
variable {P : Program} {w : World} {K : Frag} {mg : Str → Option Value} {base : Heap} {fa : List He.Fa} {fn : List He.DefD} {tq : TQ} {γ τ ρ : Type} [og : Ob γ] [Ags τ] [Enc ρ]
end
section
variable {Y : DX} {s : DSt} {e o : Expr} {pos : Pos} {f x : Str} {fs : Flds} {C : Addr} {sts : List Stmt} {D : DE} {p2 : Pos} {q : Addr}
end
section
variable {Y : DX} {k : Nat} {scope : Scope}
end
end Sp
set_option maxHeartbeats 4000000
namespace L2
open PySem PySem.Spec PyProof.Rows
section
variable {X : Cx} {es : List Expr} {t : TA} {pos : Pos}
variable {o e : Expr} {to : TE} {name : Str} {apos cpos : Pos} {id : String} {r : V → List V → Hp → VK → Prop}
end
end L2
namespace Sp
open PySem L2
open PySem.W (Datum DatumOrd SomeDatum)
section
variable {X : Cx} {α : Type} [DecidableEq α] [Enc α] [Datum α] [Dat α]
end
section
variable {Y : DX} {s : DSt} {e a b c o : Expr} {es : List Expr} {pos p apos : Pos}
section
variable {δ : Type} [DecidableEq δ] [Enc δ] [Datum δ] [Dat δ] {Wo : (TupN δ → Prop) → Prop} {We : (δ → Prop) → Prop}
end
section
variable {α : Type} [Enc α]
end
end
structure TupK (α : Type) where
  tup : Tup α
deriving DecidableEq
instance {α : Type} [Enc α] : Enc (TupK α) := ⟨fun K F v x => ∃ p vs, v = .ref p ∧ F p = some (.tup vs) ∧ Vs K F vs x.tup.items,
  fun ⟨p, vs, h1, h2, h4⟩ e => ⟨p, vs, h1, e _ _ h2, h4.mono e⟩⟩
instance {α : Type} : Inhabited (TupK α) := ⟨⟨⟨[]⟩⟩⟩
instance {α : Type} [Kk α] : Kt (TupK α) := ⟨fun x => x.tup.items.map Kk.key, fun {a b} h => by
  obtain ⟨⟨a⟩⟩ := a
  obtain ⟨⟨b⟩⟩ := b
  exact congrArg (fun x => TupK.mk (PySem.W.Tup.mk x)) (kk_list h)⟩
instance {α : Type} [Kk α] [Enc α] [KkV α] : KtV (TupK α) := ⟨fun {K F v k} ⟨p, vs, h1, h2, h3⟩ => ⟨p, h1, by rw [h2, vs_keys h3]; rfl⟩,
  fun {K F b k} h => ⟨b, _, rfl, h, keys_vsR k.tup.items⟩⟩
section
variable {Y : DX} {s : DSt} {e a b c o : Expr} {es : List Expr} {pos p apos : Pos} {α : Type} [Enc α]
end
end Sp
set_option maxHeartbeats 4000000
namespace L2
open PySem PySem.Spec PyProof.Rows
section
variable {P : Program} {w : World} {K : PySem.W.Frag} {d : Addr} {o : Obj} {es : Array DictEntry} {ep : Nat}
end
end L2
namespace Sp
open PySem L2
open PySem.W (Datum DatumOrd SomeDatum)
section
variable {Y : DX} {s : DSt} {a tg : Expr} {apos cpos tpos : Pos} {elts : List Expr} {kk : Nat} {κ ν : Type} [DecidableEq κ] [Kt κ] [Enc κ] [KtV κ] [Enc ν]
end
section
variable {Y : DX} {s : DSt} {a : Expr} {pos p : Pos} {α : Type} [Enc α]
end
end Sp
set_option maxHeartbeats 4000000
namespace RY
open PySem PySem.Spec PyProof.Rows RT
section
variable {prog : Program} {w : World} {A : Around} {E : Value → Shared → Prop} {s : Shared} {it : Addr} {fp : List Addr} {n : Nat} {P : Nat → Value → Prop} {St : Nat → Shared → Prop} {T : String} {G : Array GenState → Array GenState → Prop}
end
end RY
namespace Sp
open PySem L2
open PyProof.Rows (Call_ args_cons args_nil len_tuple)
section
variable {X : Cx}
end
section
variable {Y : DX} {s : DSt} {a : Expr} {pos p p2 pos2 : Pos} {α : Type} [Enc α]
end
end Sp
set_option maxHeartbeats 4000000
namespace Sp
open PySem L2 PySem.Calls PyProof.Rows
open PySem.W (Datum DatumOrd SomeDatum EachIs KeyedOut)
section
variable {Y : DX} {s : DSt} {a : Expr} {α κ : Type} [Enc α] [DecidableEq κ] [Enc κ] [DatumOrd κ] [Dat κ] [Srtb κ]
end
end Sp
set_option maxHeartbeats 4000000
namespace L2
open PySem PySem.Spec PyProof.Rows
section
variable {prog : Program} {w : World} {A : Around} {it d : Addr} {es : Array DictEntry} {ep : Nat}
end
end L2
namespace Sp
open PySem L2
open PySem.W (Datum DatumOrd SomeDatum)
section
variable {o : Expr} {p pos apos cpos : Pos}
end
section
variable {Y : DX} {s : DSt} {o : Expr} {p pos apos cpos : Pos} {κ : Type} [DecidableEq κ] [Kt κ]
end
end Sp
set_option maxHeartbeats 4000000
namespace PySem.SeqAt
open PySem PySem.Calls PyProof.Rows PySem.W
section
variable {A : Around} {s : Shared}
end
end PySem.SeqAt
namespace PySem.W
open PySem PySem.Calls PyProof.Rows PySem.SeqAt
section
variable {prog : Program} {w : World} {A : Around} {E : Value → Shared → Prop} {s : Shared}
end
end PySem.W
namespace Sp
open PySem L2 PySem.Calls PyProof.Rows
open PySem.W (Datum DatumOrd SomeDatum KeepsBut EachIs AllAlike Sortable KeyedOut SortsAt)
class Srtg (α : Type) [DecidableEq α] [Datum α] : Prop where
  kd : (∀ a : α, ∃ xs, Datum.toD a = .tuple xs) ∨ ∀ a : α, Datum.toD a ≠ .none ∧ ∀ xs, Datum.toD a ≠ .tuple xs
instance {α : Type} [DecidableEq α] [Datum α] : Srtg (Tup α) := ⟨.inl fun _ => ⟨_, rfl⟩⟩
section
variable {prog : Program} {w : World} {A : Around} {E : Value → Shared → Prop} {s : Shared} {vs : List Value} {kz : List PyData} {f : Value} {a : Addr} {n : Nat} {P : PySem.Fin → Shared → Prop}
end
section
variable {Y : DX} {st : DSt} {σ : L2.St} {H F : Hp} {pins : List (Addr × Obj)} {s : Shared}
end
section
variable {Y : DX} {s : DSt} {a : Expr} {α κ : Type} [Enc α] [DecidableEq κ] [Enc κ] [DatumOrd κ] [Dat κ] [Srtg κ]
end
end Sp
set_option maxHeartbeats 4000000
namespace Sp
open PySem L2
section
variable {X : Cx}
end
section
variable {Y : DX} {s : DSt} {e b : Expr} {pos p2 : Pos} {D : DE} {sts : List Stmt} {x : Str} {q : Addr}
end
section
variable {Y : DX} {s : DSt} {a b tg : Expr} {pos p : Pos}
end
end Sp
set_option maxHeartbeats 4000000
namespace Sp
open PySem L2
inductive LR (α : Type) where
  | fz (xs : List α)
  | rw (a : Addr)
instance {α : Type} : Inhabited (LR α) := ⟨.fz []⟩
instance {α : Type} [Enc α] : Enc (LR α) := ⟨fun K F v x => match x with
  | .fz xs => Enc.rep K F v xs
  | .rw a => v = .ref a, fun {K F F' v x} h e => match x with
  | .fz xs => Enc.mono (α := List α) h e
  | .rw a => h⟩
section
variable {κ α : Type} [DecidableEq κ] [Kk κ] [Enc α]
abbrev frz (m : List (κ × List α)) : List (κ × LR α) := m.map fun p => (p.1, .fz p.2)
end
section
variable {Y : DX} {s : DSt} {o e b : Expr} {pos p2 : Pos} {D : DE} {sts : List Stmt} {x : Str} {q : Addr}
variable {κ α : Type} [DecidableEq κ] [Kk κ] [Enc κ] [KkV κ] [Enc α]
end
end Sp
set_option maxHeartbeats 4000000
namespace Sp
open PySem L2
section
variable {Y : DX} {s : DSt} {a b c tg : Expr} {pos : Pos} {D : DE} {sts : List Stmt}
variable {α β γ : Type} [Enc α] [Enc β] [Enc γ]
end
end Sp
set_option maxHeartbeats 4000000
namespace PySem.W
open PySem PySem.Calls PyProof.Rows
section
variable {prog : Program} {w : World} {A : Around} {E : Value → Shared → Prop} {s : Shared} {vs : List Value}
end
end PySem.W
namespace Sp
open PySem L2
open PySem.W (Datum DatumOrd)
section
variable {X : Cx} {α : Type} [DecidableEq α] [Enc α]
end
section
variable {Y : DX} {s : DSt} {a : Expr} {pos p : Pos}
variable {δ : Type} [DecidableEq δ] [Enc δ] [DatumOrd δ] [Dat δ] {W : (List δ → Prop) → Prop}
end
end Sp
set_option maxHeartbeats 4000000
namespace Sp
open PySem L2
open PySem.W (Datum DatumOrd SomeDatum)
section
variable {κ κ2 ν : Type} [DecidableEq κ] [DecidableEq κ2]
def hop (m : List (κ × List (κ2 × ν))) (k : κ) : List (κ × List (κ2 × ν)) := if (dval m k).isSome = true then m else m ++ [(k, [])]
section
variable [Kk κ2] [Enc ν]
end
end
section
variable {Y : DX} {s : DSt} {o e f a b : Expr} {pos p apos cpos p2 : Pos} {D : DE} {sts : List Stmt} {Q : Pv → DSt → Prop}
variable {κ κ2 ν : Type} [DecidableEq κ] [Kk κ] [Enc κ] [KkV κ] [DecidableEq κ2] [Kk κ2] [Enc κ2] [KkV κ2] [Enc ν]
end
end Sp
set_option maxHeartbeats 4000000
namespace Sp
open PySem L2
open PySem.W (Datum DatumOrd SomeDatum)
instance : Inhabited Rf := ⟨⟨default⟩⟩
section
variable {Y : DX} {s : DSt} {o e f a b : Expr} {es : List Expr} {pos p p2 apos py : Pos} {D : DE} {sts : List Stmt} {C : Addr} {fs : Flds} {q : Addr} {x y m : Str} {ps : List Str} {j : Nat}
theorem ws_frI {γ : Type} [og : Ob γ] [Enc γ] [ObOk γ] {mm : γ} (i g : Nat) (hi : s.ρ[i]? = some (some (raw (.ref q)))) (hg : s.gs[g]? = some (q, insc (He.ga Y.X.K (Ob.cls γ)) (Ob.flds mm))) (h : Ws Y ⟨s.ρ.set i (some (pu mm)), s.gs.eraseIdx g⟩ sts D) : Ws Y s sts D := fun F0 σ H F e0 S => by
  obtain ⟨hF, oo, hoo, _, dx, vs, eo, rv⟩ := S.cell hg
  subst eo
  have S2 := S.freeze hg hoo
  obtain ⟨v, hv, rv'⟩ := S.rep.get hi
  have rv2 : v = .ref q := rv'
  subst rv2
  have S3 := S2.set (A := pu mm) (v := .ref q) (ObOk.eq.mpr ⟨q, dx, vs, rfl, upd_same, rv.mono (Ext.grow hF)⟩) i
  have eσ : σ.set i (some (V.ref q)) = σ := by
    apply List.ext_getElem?
    intro t
    by_cases z : i = t
    · subst z
      rw [List.getElem?_set_self (List.getElem?_eq_some_iff.mp hv).1, hv]
    · rw [List.getElem?_set_ne z]
  rw [eσ] at S3
  exact h F0 σ _ _ (e0.trans (Ext.grow hF)) S3
end
end Sp
set_option maxHeartbeats 4000000
namespace Sp
open PySem L2
open PySem.W (Datum DatumOrd SomeDatum)
inductive ShelfV where
  | mk (next_ones : Dct (List Nat) ShelfV) (ends : Bool) (count : Int)
def ShelfV.next_ones : ShelfV → Dct (List Nat) ShelfV | .mk n _ _ => n
def ShelfV.ends : ShelfV → Bool | .mk _ e _ => e
def ShelfV.count : ShelfV → Int | .mk _ _ c => c
instance : Inhabited ShelfV := ⟨.mk ⟨[]⟩ false 0⟩
abbrev shF (e : Enc ShelfV) (m : ShelfV) : Flds := [("next_ones", @pu _ (@encDct (List Nat) ShelfV _ e) m.next_ones), ("ends", pu m.ends), ("count", pu m.count)]
inductive ShRep : Frag → Hp → V → ShelfV → Prop
  | mk {K : Frag} {F : Hp} {v : V} {m : ShelfV} (e : Enc ShelfV) (he : ∀ K F v m, e.rep K F v m → ShRep K F v m) (h : (insP (He.ga K "Shelf") (shF e m)).rep K F v) : ShRep K F v m
instance encShelf : Enc ShelfV := ⟨ShRep, fun h x => by cases h with | mk e he h => exact .mk e he (Pv.mono _ h x)⟩
instance : Ob ShelfV := ⟨"Shelf", shF encShelf⟩
theorem paired_imp {α β : Type} {R S : α → β → Prop} {xs : List α} {ys : List β} (h : Paired R xs ys) (k : ∀ x y, R x y → S x y) : Paired S xs ys := by
  induction h with
  | nil => exact .nil
  | cons a _ ih => exact .cons (k _ _ a) ih
theorem sh_up {e : Enc ShelfV} (he : ∀ K F v m, e.rep K F v m → ShRep K F v m) {K : Frag} {F : Hp} {v : V} {m : ShelfV} (h : (insP (He.ga K "Shelf") (shF e m)).rep K F v) : (insP (He.ga K "Shelf") (shF encShelf m)).rep K F v := by
  obtain ⟨a, dx, vs, h1, h2, h3⟩ := h
  refine ⟨a, dx, vs, h1, h2, ?_⟩
  cases h3 with
  | cons p t =>
    refine .cons ⟨p.1, ?_⟩ t
    obtain ⟨q, od, kvs, g1, g2, g3⟩ := p.2
    exact ⟨q, od, kvs, g1, g2, paired_imp g3 fun x y r => ⟨r.1, he _ _ _ _ r.2⟩⟩
instance : ObOk ShelfV := ⟨⟨fun h => by cases h with | mk e he h => exact sh_up he h, fun h => .mk encShelf (fun _ _ _ _ h => h) h⟩⟩
mutual
inductive ATr where
  | mk (a d : Addr) (kids : AKs) (ends : Bool) (count : Int)
inductive AKs where
  | nil
  | cons (k : List Nat) (t : ATr) (r : AKs)
end
def ATr.a : ATr → Addr | .mk a _ _ _ _ => a
def ATr.kids : ATr → AKs | .mk _ _ k _ _ => k
mutual
def ATr.val : ATr → ShelfV
  | .mk _ _ ks e c => .mk ⟨AKs.val ks⟩ e c
def AKs.val : AKs → List (List Nat × ShelfV)
  | .nil => []
  | .cons k t r => (k, ATr.val t) :: AKs.val r
end
def AKs.refs : AKs → List (List Nat × Rf)
  | .nil => []
  | .cons k t r => (k, Rf.mk t.a) :: AKs.refs r
abbrev icell (K : Frag) (d : Addr) (e : Bool) (c : Int) : Cell := insc (He.ga K "Shelf") [("next_ones", raw (.ref d)), ("ends", pu e), ("count", pu c)]
mutual
def ATr.cells (K : Frag) : ATr → Gs
  | .mk a d ks e c => (a, icell K d e c) :: (d, dctc (AKs.refs ks)) :: AKs.cells K ks
def AKs.cells (K : Frag) : AKs → Gs
  | .nil => []
  | .cons _ t r => ATr.cells K t ++ AKs.cells K r
end
section
variable {Y : DX} {s : DSt} {e o a b iter tg : Expr} {es : List Expr} {pos p p2 apos cpos : Pos} {D : DE} {sts : List Stmt} {C : Addr} {fs : Flds} {q : Addr} {x f : Str} {ps : List Str} {j : Nat}
end
section
variable {Y : DX} {sts : List Stmt} {ρ : Rho} {σ : St} {De : Ends}
end
end Sp
set_option maxHeartbeats 4000000
namespace Sp
open PySem L2
open PySem.W (Datum DatumOrd SomeDatum)
def AKs.app : AKs → List Nat → ATr → AKs
  | .nil, k, t => .cons k t .nil
  | .cons k0 t0 r, k, t => .cons k0 t0 (AKs.app r k t)
section
variable {Y : DX} {s : DSt} {e o dx : Expr} {apos cpos p2 : Pos} {D : DE} {sts : List Stmt}
end
section
variable {Y : DX} {s : DSt} {e : Expr} {es : List Expr} {pos apos py : Pos} {C : Addr} {fs : Flds} {q : Addr} {y m : Str} {ps : List Str} {j : Nat} {Q : Pv → DSt → Prop}
end
structure WPr where
  fst : Int
  snd : Int
instance : Inhabited WPr := ⟨⟨0, 0⟩⟩
instance : Enc WPr := ⟨fun K F v x => ∃ p, v = .ref p ∧ SqT K F p [.int x.fst, .int x.snd], fun ⟨p, h1, h2⟩ e => ⟨p, h1, sqT_ex2 h2 e⟩⟩
abbrev TgD.w (a : TgD Int) (b : TgD Int) : TgD WPr := ⟨fun K => gTup K 2 (gCons (a.g K) (gCons (b.g K) gNil)), a.ws ++ b.ws, fun v ρ => b.f v.2 (a.f v.1 ρ)⟩
section
variable {Y : DX} {pos : Pos}
end
structure GWs (K : Frag) (mg : Str → Option Value) (x : Str) (vs : List WPr) : Prop where
  at_ : mg x = some (.ref (He.ga K x))
  sq : ∃ ps : List V, (∀ H, SqT K H (He.ga K x) ps) ∧ ∀ F, Vs K F ps vs
section
variable {Y : DX} {s : DSt} {pos : Pos} {x : Str} {vs : List WPr}
end
end Sp
set_option maxHeartbeats 4000000
namespace PySem
namespace ZipS
open Sem (wp)
open Builtin Builtin.Str
section
variable {prog : Program} {w : World} {A : Around} {E : Value → Shared → Prop} {s : Shared}
end
abbrev lIt (a : Addr) : Obj := { cls := .type "list_iterator", data := .fields #[.ref a, .int 0 0] }
abbrev L1 (h : Heap) (a : Addr) : Heap := h.push (lIt a)
abbrev L2 (h : Heap) (a : Addr) (y : Str) (u : Tok) : Heap := (L1 h a).push (sIt y u)
section
variable {prog : Program} {w : World} {A : Around} {E : Value → Shared → Prop} {s : Shared}
end
end ZipS
end PySem
set_option maxHeartbeats 4000000
namespace Sp
open PySem PySem.Spec PyProof.Rows L2
open PySem.W (Datum DatumOrd SomeDatum)
section
variable {Y : DX} {s : DSt} {e a b c o : Expr} {es : List Expr} {pos p tpos : Pos} {α : Type} [Enc α]
end
end Sp
set_option maxHeartbeats 4000000
namespace L2
open PySem PySem.Spec PyProof.Rows
section
variable {P : Program} {w : World} {K : PySem.W.Frag} {d : Addr} {o : Obj} {es : Array DictEntry} {ep : Nat} {tg : Expr}
end
end L2
namespace Sp
open PySem L2
open PySem.W (Datum DatumOrd SomeDatum)
section
variable {Y : DX} {s : DSt} {a tg : Expr} {κ ν : Type} [DecidableEq κ] [Kt κ] [Enc κ] [KtV κ] [Enc ν]
end
end Sp
set_option maxHeartbeats 4000000
namespace Sp
open PySem L2
open PySem.W (Datum DatumOrd SomeDatum)
section
variable {Y : DX} {s : DSt} {e a b c o tg iter elt : Expr} {es ifs : List Expr} {pos p p2 apos : Pos} {α β γ : Type} [Enc α] [Enc β] [Enc γ] {D : DE} {sts : List Stmt} {x y : Str}
end
end Sp
set_option maxHeartbeats 4000000
namespace Sp
open PySem L2
open PySem.W (Datum DatumOrd SomeDatum)
section
variable {Y : DX} {s : DSt} {e o b : Expr} {pos pa ps p2 : Pos} {D : DE} {sts : List Stmt} {C : Addr} {fs : Flds} {q q2 : Addr} {x f : Str} {κ : Type} [DecidableEq κ] [Kk κ] [Enc κ] [KkV κ] {m : List (κ × Int)}
theorem s_faugG {op : Operator} {rd : V → V → Hp → VK → Prop} {g : Nat} {W : (Int → Prop) → Prop} {Wk : (κ → Prop) → Prop} {R : Int → κ → Prop} (ok : YOk Y) (hop : InOp Y.X op rd) (ho : EvP Y s o (raw (.ref q2))) (hg : s.gs[g]? = some (q2, dctc m)) (hb : EvC Y s b Wk) (he : EvC Y s e W)
    (next : ∀ n k, R n k → m.length < sizeLine ∧ ∃ z : Int, (∀ H Q, Q (.int z) H → rd (.int (dgt m k)) (.int n) H Q) ∧ Ws Y ⟨s.ρ, s.gs.set g (q2, dctc (dput m k z))⟩ sts D) (w : Wk fun k => dhas m k = true ∧ W fun n => R n k)
    (ha : ∀ ov iv new, augStore b ov iv new = (do holding [new, ov, iv] (setItem ov iv new); release [new, ov, iv] []; pure .next) := by intros; rfl) : Ws Y s (.AugAssign (.Subscript o b ps) op e pos :: sts) D := ws_cons fun F0 σ H F e0 S => by
  refine .of (ps_daug (by have := ok.room.units; omega) pe_we pe_we pe_we hop ha) ?_
  refine (ho F σ H F (.refl _) S).mono fun v H1 ⟨F1, e1, r1, S1⟩ => ?_
  refine (hb _ w F1 σ H1 F1 (.refl _) S1).mono fun u H2 ⟨_, _, F2, e2, r2, S2, k, ek, es, hk, w9⟩ => ?_
  subst ek es
  obtain ⟨_, oo, hoo, _, zs, eo, rv⟩ := S2.cell hg
  subst eo
  have gv : valV zs (Kk.key k) = some (.int (dgt m k)) := by
    unfold dhas at hk
    unfold dgt
    rcases kvs_val rv k with ⟨h1, _⟩ | ⟨z, y, h1, h2, h3⟩
    · rw [h1] at hk; cases hk
    · rw [h1, h2]
      exact congrArg some h3
  refine ⟨q2, .int (dgt m k), r1, .inl ⟨zs, Kk.key k, .inl hoo, KkV.of r2, gv.symm⟩, ?_⟩
  refine (he _ w9 F2 σ H2 F2 (.refl _) S2).mono fun y2 H3 ⟨_, _, F3, e3, r3, S3, n, en, es, hr⟩ => ?_
  subst en es
  obtain ⟨hl, z, hz, nx⟩ := next n k hr
  have ey : y2 = .int n := r3
  subst ey
  obtain ⟨_, o3, ho3, _, zs3, eo3, rz⟩ := S3.cell hg
  subst eo3
  refine hz _ _ ⟨_, .inl ⟨zs3, Kk.key k, ho3, KkV.of r2, by rw [show zs3.length = m.length from Paired.length rz]; exact hl, rfl⟩, _, F3, ((e0.trans e1).trans e2).trans e3, ?_, nx⟩
  exact S3.write (c' := dctc (dput m k z)) hg ho3 (not_codeD rfl) rfl ⟨_, rfl, kvs_put rz (v := .int z) rfl⟩
theorem w1_fldE {o e : Expr} (c : Cls Y.X.K C) (n : NoAttr Y.X.K C f) (hl : fs.length < 1000)
    (hv : Ev Y s e fun X s1 => ∃ i, s1.gs[i]? = some (q, insc C fs) ∧ EvP Y s1 o (raw (.ref q)) ∧ D.nx ⟨s1.ρ, s1.gs.set i (q, insc C (fput f X fs))⟩)
    (hs : swapsWith e (some (.Attribute o f p2)) pos.line Y.X.env = pure false := by rfl) : W1 Y s (.Assign [.Attribute o f p2] e pos) D := fun F0 σ H F e0 S => by
  refine .of (ps_fld pe_we pe_we hs) ?_
  refine (hv F σ H F (.refl _) S).mono fun v H1 ⟨X, s1, F1, e1, r1, S1, i, hi, ho, k1⟩ => ?_
  refine (ho F1 σ H1 F1 (.refl _) S1).mono fun u H2 ⟨F2, e2, r2, S2⟩ => ?_
  obtain ⟨hF, oo, hoo, _, dx, vs, eo, rv⟩ := S2.cell hi
  subst eo
  exact ⟨q, C, dx, vs, r2, hoo, c, n, by rw [show vs.length = fs.length from Paired.length rv]; exact hl, _, F2, (e0.trans e1).trans e2, S2.write (c' := insc C (fput f X fs)) hi hoo (not_codeI rfl) rfl ⟨dx, _, rfl, fr_put rv (X.mono r1 e2)⟩, k1⟩
theorem s_fldR {e : Expr} {pn : Pos} (i g : Nat) (c : Cls Y.X.K C) (nn : NoAttr Y.X.K C f) (hN : Y.X.N[i]? = some x) (hρ : s.ρ[i]? = some (some (raw (.ref q)))) (hg : s.gs[g]? = some (q, insc C fs)) (he : Ev Y s e fun A s' => ∃ (q3 : Addr) (gs' : Gs), A = raw (.ref q3) ∧ s' = ⟨s.ρ, gs' ++ s.gs⟩ ∧ Ws Y ⟨s.ρ, gs' ++ s.gs.set g (q, insc C (fput f (raw (.ref q3)) fs))⟩ sts D) (hl : fs.length < 1000 := by decide)
    (hv : Vis Y.X.env.scope x := by first | exact .inl rfl | exact .inr (.inl rfl) | exact .inr (.inr rfl)) (hd : (x == ("__debug__" : Str)) = false := by decide) (hcd : (x == ("__classdict__" : Str)) = false := by decide) (hs : swapsWith e (some (.Attribute (.Name x pn) f p2)) pos.line Y.X.env = pure false := by rfl) : Ws Y s (.Assign [.Attribute (.Name x pn) f p2] e pos :: sts) D :=
  ws_cons (w1_fldE c nn hl (he.mono fun A s' ⟨q3, gs', ea, es, nx⟩ => by
    subst ea es
    refine ⟨gs'.length + g, ?_, evp_v i hN hρ hv hd hcd, ?_⟩
    · show (gs' ++ s.gs)[gs'.length + g]? = _
      rw [List.getElem?_append_right (Nat.le_add_right _ _), Nat.add_sub_cancel_left]; exact hg
    · show Ws Y ⟨s.ρ, (gs' ++ s.gs).set (gs'.length + g) _⟩ sts D
      rw [List.set_append_right _ _ (Nat.le_add_right _ _), Nat.add_sub_cancel_left]; exact nx) hs)
end
end Sp
set_option maxHeartbeats 4000000
namespace Sp
open PySem L2
open PySem.W (Datum DatumOrd SomeDatum)
section
variable {Y : DX} {s : DSt} {e : Expr} {es : List Expr} {pos pn pa apos p2 : Pos} {D : DE} {sts : List Stmt} {C C1 : Addr} {fs fs1 : Flds} {q q1 : Addr} {x f m : Str} {ps : List Str} {j : Nat} {gs1 gs2 : Gs}
end
end Sp
set_option maxHeartbeats 4000000
namespace Sp
open PySem L2
open PySem.W (Datum DatumOrd SomeDatum)
class Own (γ : Type) [Ob γ] where
  Pl : Type
  fl : γ → Pl → Flds
  tl : Frag → γ → Pl → Gs
section
variable {γ τ ρ : Type} [Ob γ] [Own γ] [Ags τ] [Enc ρ]
end
section
variable {Y : DX} {s : DSt} {e a b c o : Expr} {es : List Expr} {pos p apos : Pos} {τ ρ α β γ : Type} [Ags τ] [Enc ρ] [Enc α] [Enc β] [og : Ob γ] [Own γ] {G0 : Gs → Prop} {E : Ex → Prop} {V : (τ → Prop) → Prop} {ps : List Str} {j : Nat} {y m : Str} {q : Addr} {py : Pos} {mm : γ} {front : Gs} {p0 : Own.Pl γ}
end
section
variable {Y : DX} {s : DSt} {e a b c : Expr} {r : List Expr} {pos p lpos : Pos} {α β γ π : Type} [Enc α] [Enc β] {put : γ → π → DSt} {body : Expr} {scope : Scope} {x : Str} {tg : Expr} {sts : List Stmt} {D : DE} {p2 : Pos}
end
section
variable {Y : DX} {s : DSt} {e a b c : Expr} {es : List Expr} {pos p : Pos} {τ α γ : Type} [Ags τ] [Enc α] [og : Ob γ] [Own γ] {G0 : Gs → Prop} {E : Ex → Prop} {V : (τ → Prop) → Prop} {ps : List Str} {j : Nat} {sts : List Stmt} {D : DE} {x : Str} {p2 : Pos} {tg : Expr}
end
end Sp
set_option maxHeartbeats 4000000
namespace Sp
open PySem PySem.Spec L2 PyProof.Rows
open PySem.W (Datum DatumOrd SomeDatum)
def Sec {S γ : Type} (val : S → γ) : Type := {f : γ → S // ∀ v, val (f v) = v}
instance ownShelf : Own ShelfV := ⟨Addr × Sec AKs.val, fun v p => [("next_ones", raw (.ref p.1)), ("ends", pu v.ends), ("count", pu v.count)], fun K v p => (p.1, dctc (p.2.1 v.next_ones.kvs).refs) :: (p.2.1 v.next_ones.kvs).cells K⟩
instance : NoN ShelfV := ⟨fun h e => by obtain ⟨_, _, _, h, _⟩ := (ObOk.eq (γ := ShelfV)).mp h; rw [e] at h; cases h⟩
section
variable {Y : DX} {s : DSt} {e : Expr} {es : List Expr} {α τ : Type} [Enc α] [Ags τ]
end
end Sp
set_option maxHeartbeats 4000000
namespace Sp
open PySem PySem.Spec L2 PyProof.Rows
open PySem.W (Datum DatumOrd SomeDatum)
section
variable {Y : DX} {s : DSt} {e o tg : Expr} {pos p p2 apos ap2 pos2 : Pos} {D : DE} {sts : List Stmt} {x y : Str} {α : Type} [Enc α] {xs ys : List α} {q q2 : Addr}
end
end Sp
set_option maxHeartbeats 4000000
namespace Sp
open PySem PySem.Spec PySem.W PySem.Calls L2 PyProof.Rows
open PySem.W (Datum DatumOrd SomeDatum)
theorem prd_mapR {δ ε ι : Type} {R : δ → ε → Prop} {S : δ → ι → Prop} {g : ε → ι} {l : List δ} {m : List ε} (h : Paired R l m) (k : ∀ a b, R a b → S a (g b)) : Paired S l (m.map g) := by
  induction h with
  | nil => exact .nil
  | cons a _ ih => exact .cons (k _ _ a) ih
theorem prd_mapL {δ ε ι : Type} {R : δ → ε → Prop} {S : ι → ε → Prop} {g : δ → ι} {l : List δ} {m : List ε} (h : Paired R l m) (k : ∀ a b, R a b → S (g a) b) : Paired S (l.map g) m := by
  induction h with
  | nil => exact .nil
  | cons a _ ih => exact .cons (k _ _ a) ih
section
variable {X : Cx} {pins : List (Addr × Obj)} {σ : L2.St}
end
section
variable {Y : DX} {s : DSt} {σ : L2.St} {H F0 F : Hp} {α β : Type} [Enc α] [Enc β]
theorem po_pairs {H' : Hp} {p : Addr} {ts : List Addr} {ps : List (V × V)} {xs : List (α × β)} {k : List (α × β) → Prop} (e0 : Ext F0 F) (S : Sta Y s σ H F) (k1 : ∀ b o, H b = some o → H' b = some o) (k2 : H p = none) (k3 : ∀ t ∈ ts, H t = none) (k5 : H' p = some (.lst (ts.map V.ref)))
    (k6 : Paired (fun (t : Addr) (q : V × V) => H' t = some (.tup [q.1, q.2])) ts ps) (rr : ∀ F', Ext F F' → Ext F' H' → (∀ t ∈ p :: ts, F' t = H' t) → Paired (fun (q : V × V) (x : α × β) => Enc.rep Y.X.K F' q.1 x.1 ∧ Enc.rep Y.X.K F' q.2 x.2) ps xs) (w : k xs) :
    Po Y σ F0 (fun A s' => ∃ x, A = pu x ∧ s' = s ∧ k x) (.ref p) H' := by
  have at6 : ∀ t ∈ ts, ∃ q : V × V, H' t = some (.tup [q.1, q.2]) := fun t ht => by
    obtain ⟨j, q, _, _, e3⟩ := LiI.paired_ix k6 ht
    exact ⟨q, e3⟩
  obtain ⟨S2, eF⟩ := S.growAll k1 (p :: ts) fun a ha => by
    rcases List.mem_cons.mp ha with h | h
    · subst h
      exact ⟨k2, _, k5, rfl⟩
    · obtain ⟨q, hq⟩ := at6 a h
      exact ⟨k3 a h, _, hq, rfl⟩
  have hF : ∀ t ∈ p :: ts, (fun b => if b ∈ p :: ts then H' b else F b) t = H' t := fun t ht => by
    show (if t ∈ p :: ts then _ else _) = _
    rw [if_pos ht]
  have hr := rr _ eF S2.ext hF
  refine ⟨pu xs, _, _, e0.trans eF, ⟨p, ts.map V.ref, rfl, .of (by rw [← k5]; exact hF p List.mem_cons_self), ?_⟩, S2, xs, rfl, rfl, w⟩
  have key : ∀ (ts' : List Addr) (ps' : List (V × V)) (xs' : List (α × β)), (∀ t ∈ ts', t ∈ ts) → Paired (fun (t : Addr) (q : V × V) => H' t = some (.tup [q.1, q.2])) ts' ps' → Paired (fun (q : V × V) (x : α × β) => Enc.rep Y.X.K (fun b => if b ∈ p :: ts then H' b else F b) q.1 x.1 ∧ Enc.rep Y.X.K (fun b => if b ∈ p :: ts then H' b else F b) q.2 x.2) ps' xs' → Vs Y.X.K (fun b => if b ∈ p :: ts then H' b else F b) (ts'.map V.ref) xs' := by
    intro ts' ps' xs' hsub h1
    induction h1 generalizing xs' with
    | nil => intro h2; cases h2; exact .nil
    | @cons t0 q0 l1 l2 a _ ih =>
      intro h2
      cases h2 with
      | cons b r =>
        refine .cons ⟨t0, q0.1, q0.2, rfl, ?_, b.1, b.2⟩ (ih _ (fun t ht => hsub t (List.mem_cons_of_mem _ ht)) r)
        rw [← a]
        exact hF t0 (List.mem_cons_of_mem _ (hsub _ List.mem_cons_self))
  exact key ts ps xs (fun _ h => h) k6 hr
end
section
variable {X : Cx} {e : Expr} {te : TE} {p apos cpos pos : Pos}
def tLI (te : TE) : TE := fun σ H Q => te σ H fun x H1 => ∃ (d : Addr) (kvs : List (Key × V)), x = .ref d ∧ Rd H1 d (.dK kvs) ∧
  ∀ (H' : Hp) (p : Addr) (ts : List Addr), (∀ b o, H1 b = some o → H' b = some o) → H1 p = none → (∀ t ∈ ts, H1 t = none) → p ∉ ts → H' p = some (.lst (ts.map V.ref)) → Paired (fun (t : Addr) (q : Key × V) => H' t = some (.tup [kV q.1, q.2])) ts kvs → Q (.ref p) H'
theorem pe_listItemsR (hc : X.calm = true) (he : PE X e te) (hg : Gl X "list") (hm : X.mg "list" = none) (hv : bootBuiltins "list" = some (.type "list")) (hbase : attributeBase e "items" X.env (eval e X.env) = eval e X.env) (hline : (apos.endLine == cpos.line) = true)
    (hs : starEach [.Call (.Attribute e "items" apos) [] [] cpos] X.env = (false, eval (.Call (.Attribute e "items" apos) [] [] cpos) X.env) :: starEach [] X.env) :
    PE X (.Call (.Name "list" p) [.Call (.Attribute e "items" apos) [] [] cpos] [] pos) (tLI te) := by
  refine ⟨fun pins s σ H Q I hq => ?_⟩
  refine wpAny_Call_Name_kw (ld_blt I hg hm hv ?_)
  refine PyProof.Rows.callWith_type1 ?_ hs rfl
  rw [hs]
  show wpAny _ _ (spliced ((false, eval (.Call (.Attribute e "items" apos) [] [] cpos) X.env) :: backTo pos (starEach [] X.env))) _ _ s
  refine Calls.spliced_cons ?_
  refine wpAny_Call_method (T := "dict") (id := "dict.items") hbase rfl hline F.plainAttrs_dict F.slot_dict_items F.type_dict_items (thn (he.run pins s σ H _ I hq) fun u s1 ⟨x, H1, I1, rx, d, kvs, ex, hd, q⟩ => ?_)
  subst ex
  obtain rfl : u = Value.ref d := rx
  obtain ⟨hz, hs0, vs, kv, hdo⟩ := dk_rd I1.hok hd
  obtain ⟨ep, hat⟩ := hdo.dictAt
  have lk : kvs.length = vs.length := Paired.length kv
  have I2 : Inv X pins σ H1 { s1 with heap := s1.heap.push { cls := .type "dict_items", data := .fields #[.ref d] } } := I1.kept (t' := s1.toks) fun b ob q => Heap.get?_push_of_some _ q
  refine ⟨hdo.typeIs, hdo.mapOf.noDict, ?_⟩
  show wpAny _ _ (callWith cpos (.builtin "dict.items") [.ref d] [] []) _ X.xe s1
  refine method_meetsIn F.slot_dict_items F.entry_dict_items rfl (PySem.evalArgs_none ⟨rfl, hdo.typeIs, F.args_dict_items_1 _, _, meets_dict_items (mixKind X.prog X.w) d hs0, ⟨vs, hdo⟩, ?_⟩)
  refine Calls.spliced_nil ?_
  refine PySem.W.kdx_call (knd := mixKind X.prog X.w) (kvs := vs) (ep := ep) (I1.ok.hd hc) ⟨_, Heap.get?_push_size _ rfl, rfl, rfl⟩ (hat.push _) (by omega) fun h' tk acc c as hk hS hl hG hacc => ?_
  obtain ⟨H', k1, k2, k3, k4, k5, k6, J⟩ := LiI.items_laid (tk := tk) I2 hz kv hk hS hl hG hacc
  exact ⟨.ref _, H', J, rfl, q H' _ as k1 k2 k3 k4 k5 k6⟩
end
section
variable {Y : DX} {s : DSt} {e : Expr} {p apos cpos pos : Pos}
theorem c_listIt {κ ν : Type} [DecidableEq κ] [Kk κ] [Enc κ] [KkV κ] [Enc ν] {W : (List (κ × ν) → Prop) → Prop} (ok : YOk Y) (T : Bis Y.X.mg) (hg : Gl Y.X "list") (ho : EvD Y s e W) (hbase : attributeBase e "items" Y.X.env (eval e Y.X.env) = eval e Y.X.env := by exact ab_ok rfl) (hline : (apos.endLine == cpos.line) = true := by rfl)
    (hs : starEach [.Call (.Attribute e "items" apos) [] [] cpos] Y.X.env = (false, eval (.Call (.Attribute e "items" apos) [] [] cpos) Y.X.env) :: starEach [] Y.X.env := by exact star_c rfl) :
    EvC Y s (.Call (.Name "list" p) [.Call (.Attribute e "items" apos) [] [] cpos] [] pos) fun k => W fun m => k m := fun k w F0 σ H F e0 S => by
  refine .of (pe_listItemsR ok.calm pe_we hg (T.no _ (by decide)) (by decide +kernel) hbase hline hs) ?_
  refine (ho _ w F0 σ H F e0 S).mono fun v H1 ⟨A, _, F1, e1, r1, S1, m, hA, es, w⟩ => ?_
  subst es
  obtain ⟨d, kvs, ev, hd, rk⟩ := hA σ H1 F1 v S1 r1
  refine ⟨d, kvs, ev, hd, fun H' p ts k1 k2 k3 k4 k5 k6 => ?_⟩
  refine po_pairs (ps := kvs.map fun q => (kV q.1, q.2)) e1 S1 k1 k2 k3 k5 (prd_mapR k6 fun _ _ h => h) (fun F' eF _ _ => prd_mapL rk fun q x r => ⟨by show Enc.rep _ _ (kV q.1) x.1; rw [r.1]; exact KkV.rep _, Enc.mono r.2 eF⟩) w
end
section
variable {prog : Program} {w : World} {A : Around} {E : Value → Shared → Prop} {s : Shared} {r d : Addr} {es : Array DictEntry} {ep : Nat}
end
section
variable {X : Cx} {e : Expr} {te : TE} {p apos cpos pos : Pos}
end
section
variable {Y : DX} {s : DSt} {e : Expr} {p apos cpos pos : Pos}
end
end Sp
set_option maxHeartbeats 4000000
namespace PySem
namespace ZipS
open Sem (wp)
open Builtin Builtin.Str
section
variable {prog : Program} {w : World} {A : Around} {E : Value → Shared → Prop} {s : Shared}
end
structure ZMade (P1 P2 : Nat → Value → Prop) (lo : Addr) (h : Heap) (as : List Addr) : Prop where
  rise : as.Pairwise (· < ·)
  above : ∀ a ∈ as, lo < a
  pairs : ∀ (j : Nat) (a : Addr), as[j]? = some a → ∃ x y, P1 j x ∧ P2 j y ∧ IsPair h a x y
theorem ZMade.there {P1 P2 : Nat → Value → Prop} {lo : Addr} {h : Heap} {as : List Addr} (g : ZMade P1 P2 lo h as) {a : Addr} (ha : a ∈ as) : a < h.objs.size := by
  obtain ⟨j, hj⟩ := List.mem_iff_getElem?.mp ha
  obtain ⟨_, _, _, _, e⟩ := g.pairs j a hj
  exact Heap.lt_size e
section
variable {prog : Program} {w : World} {A : Around} {s : Shared} {R : Result → Shared → Prop} {z TI TO i1 i2 l1 l2 S : Addr} {n1 n2 n : Nat} {P1 P2 : Nat → Value → Prop} {S1 S2 : Nat → Heap → Prop}
end
end ZipS
end PySem
namespace Sp
open PySem PySem.Spec PySem.W PySem.Calls L2 PyProof.Rows
open PySem.W (Datum DatumOrd SomeDatum)
section
variable {X : Cx} {a b : Expr} {ta : TA} {p pz pos cpos : Pos}
end
section
variable {Y : DX} {s : DSt} {a b : Expr} {p pz pos cpos : Pos} {α : Type} [Enc α]
end
end Sp
set_option maxHeartbeats 4000000
namespace Sp
open PySem L2
open PySem.W (Datum DatumOrd SomeDatum)
def FpS (X : Cx) (b : Addr) : Prop := b ≠ X.env.locals ∧ b ∉ X.fs ∧ (b ∈ X.ex ∨ X.s_0.heap.objs.size ≤ b) ∧ (∀ x c, X.env.cells.lookup x = some c → c ≠ b) ∧ ∀ p ∈ X.pn, p.1 ≠ b
theorem FpS.ok {X : Cx} {b : Addr} {H : Hp} {pins : List (Addr × Obj)} (f : FpS X b) (h : H b = none) (hp : ∀ p ∈ pins, p.1 ≠ b) : FpOk X pins H b :=
  ⟨h, f.1, f.2.1, f.2.2.1, f.2.2.2.1, fun p q => (List.mem_append.mp q).elim (f.2.2.2.2 p) (hp p)⟩
theorem FpOk.st {X : Cx} {b : Addr} {H : Hp} {pins : List (Addr × Obj)} (f : FpOk X pins H b) : FpS X b := ⟨f.2.1, f.2.2.1, f.2.2.2.1, f.2.2.2.2.1, fun p q => f.2.2.2.2.2 p (List.mem_append_left _ q)⟩
structure GTurns2 {β β1 γ : Type} [Enc β] [Enc β1] [Enc γ] (Y : DX) (k : Nat) (s : DSt) (scope : Scope) (ow : Ow) (vs : List Nat) (tg tg1 iter1 elt : Expr) (g : TG) (ws : List Nat) (f : β → Rho → Rho) (g1 : TG) (ws1 : List Nat) (f1 : β1 → Rho → Rho) (items : List β) (inn : β → List β1) (h : β1 → γ) : Prop where
  tg : ∀ z, TgOk (genYO Y k scope ow z) tg g ws f
  sub : ∀ j ∈ ws, j ∈ vs
  it1 : ∀ z, YOk (genYO Y k scope ow z) → ∀ x ∈ items, EvIt (genYO Y k scope ow z) ⟨f x (wipeR s.ρ vs), s.gs⟩ tg1 iter1 (inn x)
  hs1 : ∀ z x, foldedSetIterable iter1 (genE Y scope z) x = pure x
  tg1 : ∀ z, TgOk (genYO Y k scope ow z) tg1 g1 ws1 f1
  sub1 : ∀ j ∈ ws1, j ∈ vs
  elt : ∀ z, YOk (genYO Y k scope ow z) → ∀ x ∈ items, ∀ y ∈ inn x, EvP (genYO Y k scope ow z) ⟨f1 y (wipeR s.ρ vs), s.gs⟩ elt (pu (h y))
section
variable {Y : DX} {k : Nat} {scope : Scope} {ow : Ow} {z : GCx} {s : DSt} {σ : St} {H F : Hp} {β β1 γ : Type} [Enc β] [Enc β1] [Enc γ] [FlatV γ] [FlatE γ]
end
end Sp
set_option maxHeartbeats 4000000
namespace Sp
open PySem L2
open PySem.W (Datum DatumOrd SomeDatum)
section
variable {Y : DX} {k : Nat} {scope : Scope} {ow : Ow} {z : GCx} {s : DSt} {σ : St} {H F : Hp} {β β1 γ : Type} [Enc β] [Enc β1] [Enc γ] [FlatV γ] [FlatE γ]
end
end Sp
set_option maxHeartbeats 4000000
namespace Sp
open PySem L2
open PySem.W (Datum DatumOrd SomeDatum)
section
variable {Y : DX} {k : Nat} {scope : Scope} {ow : Ow} {z : GCx} {s : DSt} {σ : St} {H F : Hp} {β β1 γ : Type} [Enc β] [Enc β1] [Enc γ] [FlatV γ] [FlatE γ]
end
section
variable {Y : DX} {k : Nat} {scope : Scope} {ow : Ow} {s : DSt} {σ : St} {β β1 γ : Type} [Enc β] [Enc β1] [Enc γ] [FlatV γ] [FlatE γ]
section
variable {Q : Pv → DSt → Prop} {vs ws ws1 : List Nat} {tg elt iter tg1 iter1 : Expr} {g g1 : TG} {f : β → Rho → Rho} {f1 : β1 → Rho → Rho} {items : List β} {inn : β → List β1} {gpos pos p : Pos}
end
end
end Sp
set_option maxHeartbeats 4000000
namespace PySem
namespace SeqAt
open Sem (wp)
open PySem.Calls PyProof.Rows F
end SeqAt
end PySem
namespace Sp
open PySem PySem.Spec L2 PyProof.Rows
open PySem.W (Datum DatumOrd SomeDatum)
instance {κ ν : Type} [Kt κ] [Enc ν] : NoN (DcT κ ν) := ⟨fun h e => by obtain ⟨_, _, _, h1, _⟩ := h; rw [e] at h1; cases h1⟩
section
variable {X : Cx}
end
section
variable {Y : DX} {s : DSt} {a : Expr} {p2 : Pos} {α : Type} [Enc α]
end
end Sp
namespace Sp
open PySem L2
end Sp
set_option maxHeartbeats 4000000
namespace Sp
open PySem PySem.Spec L2 PyProof.Rows
structure WPT (X : Cx) (st : Stmt) (σ : L2.St) (H : Hp) (D : Ends) : Prop where
  run : ∀ (pins : List (Addr × Obj)) (s : Shared), 1 ≤ s.toks → Inv X pins σ H s → wpAny (model X.prog X.w) X.A (exec st X.env) (SP X pins D) X.xe s
section
variable {Y : DX} {s : DSt} {tg iter : Expr} {st : Stmt} {sts : List Stmt} {D : DE} {pos : Pos}
end
end Sp
set_option maxHeartbeats 4000000
namespace Sp
open PySem PySem.Spec L2 PyProof.Rows
section
variable {X : Cx} {σ : L2.St} {H : Hp} {s : Shared} {pins : List (Addr × Obj)}
end
end Sp
set_option maxHeartbeats 4000000
namespace Sp
open PySem PySem.Spec L2 PyProof.Rows
open PySem.W (Datum DatumOrd SomeDatum)
def Evz (Y : DX) (s : DSt) (e : Expr) (Q : Pv → DSt → Prop) : Prop := ∀ F0 σ H F, Ext F0 F → Sta Y s σ H F → WET Y.X e σ H (Po Y σ F0 Q)
def WAT (X : Cx) (es : List Expr) (σ : L2.St) (H : Hp) (Q : List V → Hp → Prop) : Prop := ∀ (pos : Pos) (pins : List (Addr × Obj)) (s : Shared), 1 ≤ s.toks → Inv X pins σ H s → wpAny (model X.prog X.w) X.A (spliced (backTo pos (starEach es X.env))) (AP X pins σ Q) X.xe s
theorem WET.mono {X : Cx} {e : Expr} {σ : L2.St} {H : Hp} {Q Q' : VK} (h : WET X e σ H Q) (k : ∀ v H', Q v H' → Q' v H') : WET X e σ H Q' := fun pins s h0 I => thn (h pins s h0 I) fun _ _ ⟨v, H', J, r, q⟩ => ⟨v, H', J, r, k v H' q⟩
theorem WAT.mono {X : Cx} {es : List Expr} {σ : L2.St} {H : Hp} {Q Q' : List V → Hp → Prop} (h : WAT X es σ H Q) (k : ∀ v H', Q v H' → Q' v H') : WAT X es σ H Q' := fun pos pins s h0 I => thn (h pos pins s h0 I) fun _ _ ⟨v, H', J, r, q⟩ => ⟨v, H', J, r, k v H' q⟩
section
variable {Y : DX} {s : DSt} {e a b c o : Expr} {es : List Expr} {pos p apos : Pos} {τ ρ α β γ : Type} [Ags τ] [Enc ρ] [Enc α] [Enc β] {G0 : Gs → Prop} {E : Ex → Prop} {Vt : (τ → Prop) → Prop} {ps : List Str} {j : Nat}
end
end Sp
set_option maxHeartbeats 4000000
namespace Sp
open PySem PySem.Spec L2 PyProof.Rows
open PySem.W (Datum DatumOrd SomeDatum)
def WTsT (X : Cx) (ifs : List Expr) (σ : L2.St) (H : Hp) (Q : Bool → Hp → Prop) : Prop := ∀ (pins : List (Addr × Obj)) (s : Shared), 1 ≤ s.toks → Inv X pins σ H s →
  wpAny (model X.prog X.w) X.A (forIn ifs true fun c r => if r = true then do let ok ← isTrue c X.env (eval c X.env); pure (ForInStep.yield ok) else pure (ForInStep.yield r)) (TP X pins σ Q) X.xe s
theorem WTsT.mono {X : Cx} {ifs : List Expr} {σ : L2.St} {H : Hp} {Q Q' : Bool → Hp → Prop} (h : WTsT X ifs σ H Q) (k : ∀ b H', Q b H' → Q' b H') : WTsT X ifs σ H Q' := fun pins s h0 I => thn (h pins s h0 I) fun b _ ⟨H', J, q⟩ => ⟨H', J, k b H' q⟩
def EtsT (Y : DX) (s : DSt) (ifs : List Expr) (Q : Bool → DSt → Prop) : Prop := ∀ F0 σ H F, Ext F0 F → Sta Y s σ H F → WTsT Y.X ifs σ H (Pt Y σ F0 Q)
section
variable {Y : DX} {s : DSt} {elt tg iter a e o : Expr} {ifs : List Expr} {scope : Scope} {own : List (Str × Nat)} {pos p apos : Pos} {α β : Type} [Enc α] [Enc β] {D : DE} {sts : List Stmt}
structure LcTz (Y : DX) (s : DSt) (scope : Scope) (vs : List Nat) (tg elt : Expr) (ifs : List Expr) (g : TG) (ws : List Nat) (f : β → Rho → Rho) (items : List β) (Iv : Nat → List α → Gs → Prop) : Prop where
  tg : ∀ z, TgOk (blkY Y scope z) tg g ws f
  sub : ∀ j ∈ ws, j ∈ vs
  small : ∀ i ys gs, Iv i ys gs → i < items.length → ys.length < sizeLine
  step : ∀ z i x ys gs D, items[i]? = some x → Iv i ys gs → EtsT (blkY Y scope z) ⟨f x (wipeR s.ρ vs), (D, lstc ys) :: gs⟩ ifs fun b s2 =>
    if b = true then ∀ z', Evz (blkY Y scope z') s2 elt fun A s3 => ∃ y gs3, A = pu y ∧ s3.gs = (D, lstc ys) :: gs3 ∧ Iv (i + 1) (ys ++ [y]) gs3 else ∃ gs2, s2.gs = (D, lstc ys) :: gs2 ∧ Iv (i + 1) ys gs2
structure LcWz (Y : DX) (s : DSt) (scope : Scope) (own : List (Str × Nat)) (t : TgD β) (tg iter elt : Expr) (ifs : List Expr) {α : Type} [Enc α] (W : (List α → Prop) → Prop) : Prop where
  bk : BlkOk Y.X.N Y.X.env.scope scope own
  tg0 : ∀ z, TgOk (blkY Y scope z) tg (t.g Y.X.K) t.ws t.f
  hs : ∀ x, foldedSetIterable iter Y.X.env x = pure x
  run : ∀ k, W k → ∃ G, EvItE (β := β) Y s tg iter G ∧ ∀ items s', G items s' → ∃ Iv : Nat → List α → Gs → Prop, LcTz Y s' scope (own.map (·.2)) tg elt ifs (t.g Y.X.K) t.ws t.f items Iv ∧ Iv 0 [] s'.gs ∧ ∀ ys gs, Iv items.length ys gs → (⟨s'.ρ, gs⟩ : DSt) = s ∧ k ys
end
end Sp
set_option maxHeartbeats 4000000
namespace Sp
open PySem PySem.Spec L2 PyProof.Rows
open PySem.W (Datum DatumOrd SomeDatum)
section
variable {Y : DX} {s : DSt} {elt tg iter a e o : Expr} {ifs : List Expr} {scope : Scope} {own : List (Str × Nat)} {pos p apos spos py : Pos} {α β : Type} [Enc α] [Enc β] {D : DE} {sts : List Stmt}
end
end Sp
set_option maxHeartbeats 4000000
namespace Sp
open PySem PySem.Spec L2 PyProof.Rows
section
variable {P : Program} {w : World} {K : Frag} {mg : Str → Option Value} {base : Heap}
variable {fa : List He.Fa} {fn : List He.DefD} {tq : TQ}
end
end Sp
set_option maxHeartbeats 4000000
namespace Sp
open PySem L2 PyProof.Rows
section
variable {P : Program} {w : World} {K : Frag} {mg : Str → Option Value} {base : Heap} {fa : List He.Fa} {fn : List He.DefD} {tq : TQ}
variable {τ ρ : Type} [Ags τ] [Enc ρ]
end
end Sp
set_option maxHeartbeats 4000000
namespace Sp
open PySem PySem.Spec L2 PyProof.Rows
section
variable {Y : DX} {s : DSt} {e : Expr} {pos p1 p2 p3 : Pos} {α : Type} [Enc α] {D : DE} {sts : List Stmt}
end
end Sp
set_option maxHeartbeats 4000000
namespace Sp
open PySem L2
open PySem.W PySem.Calls PyProof.Rows
section
structure MtN (P : Program) (w : World) (K : Frag) (mg : Str → Option Value) (base : Heap) (T : Tb) (k : Nat) (C : Addr) (m : Str) (ps : List Str) (d : DSp) : Prop where
  ex : ∃ (f : Addr) (fd : FuncData), FnOk P w K mg base (L2N.CX P w) k f fd ps (toSp K T ps.length d) ∧ Meth K C m f ∧ Binds K fd ps []
  mono : DMono d
theorem MtN.mt {P : Program} {w : World} {K : Frag} {mg : Str → Option Value} {base : Heap} {T : Tb} {k : Nat} {C : Addr} {m : Str} {ps : List Str} {d : DSp} (h : MtN P w K mg base T k C m ps d) : Mt P w K mg base T k C m ps d := by
  obtain ⟨⟨f, fd, F, r⟩, m⟩ := h
  exact ⟨⟨f, fd, fnOkN F, r⟩, m⟩
end
section
variable {P : Program} {w : World} {K : Frag} {mg : Str → Option Value} {base : Heap} {fa : List He.Fa} {fn : List He.DefD} {tq : TQ}
theorem LK.mtN {k : Nat} {x m : Str} {d : He.DefD} {ps : List Str} {fd : FuncData} {dd : DSp} (L : LK w K mg base fa fn tq) (F1 : Fd K d ps fd) (h : FnOk P w K mg base (L2N.CX P w) k (He.fAd K d.at_) fd ps (toSp K (tbOf K tq) ps.length dd)) (mo : DMono dd) (i : Nat) (hi : fa[i]? = some (.meth x m) := by rfl) (hx : d.at_ = (x, some m) := by rfl) : MtN P w K mg base (tbOf K tq) k (He.ga K x) m ps dd := by
  have g := He.meth_ok (L.d.fact i hi)
  have e : He.fAd K d.at_ = He.ma K (He.ga K x) m := by rw [hx]; rfl
  exact ⟨⟨_, fd, h, by rw [e]; exact g, F1.b⟩, mo⟩
end
section
variable {Y : DX} {s : DSt} {e a b c o i0 : Expr} {es : List Expr} {pos p p2 p3 apos cpos spos : Pos} {D : DE} {sts : List Stmt} {τ ρ α β γ : Type} [Ags τ] [Enc ρ] [Enc α] [Enc β]
end
section
variable {Y : DX} {s : DSt} {o : Expr} {p pos apos cpos : Pos} {κ ν : Type} [DecidableEq κ] [Kk κ] [Enc κ] [KkV κ] [Enc ν]
end
end Sp
set_option maxHeartbeats 4000000
namespace Sp
open PySem L2
open PySem.W (Datum DatumOrd SomeDatum)
class Ow2 (γ : Type) [Ob γ] where
  fl : γ → Addr → Flds
  cl : γ → Cell
abbrev ob2 {γ : Type} [o : Ob γ] [Ow2 γ] (K : Frag) (m : γ) (r : Addr) : Cell := insc (He.ga K o.cls) (Ow2.fl m r)
abbrev gs2 {γ : Type} [o : Ob γ] [Ow2 γ] (K : Frag) (q r : Addr) (m : γ) : Gs := [(r, Ow2.cl m), (q, ob2 K m r)]
section
variable {γ τ ρ : Type} [Ob γ] [Ow2 γ] [Ags τ] [Enc ρ]
def spO2 (K : Frag) (w : γ × τ → (ρ → Prop) → (Ex → Prop) → Prop) : DSp := fun As gs R E => ∃ q a m t, As = raw (.ref q) :: Ags.pvs t ∧ gs = gs2 (γ := γ) K q a m ∧ ∃ R0 E0, w (m, t) R0 E0 ∧ (∀ r, R0 r → R (pu r) (gs2 K q a m)) ∧ ∀ e, E0 e → E (exK K e) (gs2 K q a m)
theorem spO2_mono {K : Frag} {w : γ × τ → (ρ → Prop) → (Ex → Prop) → Prop} : DMono (spO2 K w) := fun As gs R R' E E' h1 h2 ⟨q, a, m, t, e1, e2, R0, E0, hw, hr, he⟩ => ⟨q, a, m, t, e1, e2, R0, E0, hw, fun r q => h1 _ _ (hr r q), fun e q => h2 _ _ (he e q)⟩
def spM2 (K : Frag) (w : γ × τ → (ρ × γ → Prop) → (Ex → Prop) → Prop) : DSp := fun As gs R E => ∃ q a m t, As = raw (.ref q) :: Ags.pvs t ∧ gs = gs2 (γ := γ) K q a m ∧ ∃ R0 E0, w (m, t) R0 E0 ∧ (∀ r m', R0 (r, m') → R (pu r) (gs2 K q a m')) ∧ ∀ e, E0 e → E (exK K e) (gs2 K q a m)
theorem spM2_mono {K : Frag} {w : γ × τ → (ρ × γ → Prop) → (Ex → Prop) → Prop} : DMono (spM2 K w) := fun As gs R R' E E' h1 h2 ⟨q, a, m, t, e1, e2, R0, E0, hw, hr, he⟩ => ⟨q, a, m, t, e1, e2, R0, E0, hw, fun r m' q => h1 _ _ (hr r m' q), fun e q => h2 _ _ (he e q)⟩
def spI2 (K : Frag) (w : τ → (γ → Prop) → (Ex → Prop) → Prop) : DSp := fun As gs R E => ∃ q t, As = raw (.ref q) :: Ags.pvs t ∧ gs = [(q, insc (He.ga K (Ob.cls γ)) [])] ∧ ∃ R0 E0, w t R0 E0 ∧ (∀ a m, R0 m → R (pu ()) (gs2 (γ := γ) K q a m)) ∧ ∀ e, E0 e → ∀ fs, E (exK K e) [(q, insc (He.ga K (Ob.cls γ)) fs)]
theorem spI2_mono {K : Frag} {w : τ → (γ → Prop) → (Ex → Prop) → Prop} : DMono (spI2 (γ := γ) K w) := fun As gs R R' E E' h1 h2 ⟨q, t, e1, e2, R0, E0, hw, hr, he⟩ => ⟨q, t, e1, e2, R0, E0, hw, fun a m q => h1 _ _ (hr a m q), fun e q fs => h2 _ _ (he e q fs)⟩
end
theorem set_erase {α : Type} (y : α) : ∀ (l : List α) (g : Nat), (l.eraseIdx g).set g y = (l.set (g + 1) y).eraseIdx g
  | [], g => by simp
  | z :: l, 0 => by simp
  | z :: l, g + 1 => by simp [set_erase y l g]
theorem perm_front2 {α : Type} {l : List α} {g : Nat} {x y : α} (h1 : l[g]? = some x) (h2 : l[g + 1]? = some y) : l.Perm ([x, y] ++ (l.eraseIdx g).eraseIdx g) := by
  have h3 : (l.eraseIdx g)[g]? = some y := by rw [List.getElem?_eraseIdx_of_ge (Nat.le_refl g)]; exact h2
  exact (perm_front h1).trans ((perm_front h3).cons x)
theorem perm_set2 {α : Type} {l : List α} {g : Nat} {x y x2 y2 : α} (h1 : l[g]? = some x) (h2 : l[g + 1]? = some y) : ([x2, y2] ++ (l.eraseIdx g).eraseIdx g).Perm ((l.set g x2).set (g + 1) y2) := by
  have h3 : (l.eraseIdx g)[g]? = some y := by rw [List.getElem?_eraseIdx_of_ge (Nat.le_refl g)]; exact h2
  have p1 := (perm_set (y := y2) h3).cons x2
  rw [set_erase] at p1
  have h4 : (l.set (g + 1) y2)[g]? = some x := by rw [List.getElem?_set_ne (by omega)]; exact h1
  have p2 := perm_set (y := x2) h4
  rw [List.set_comm _ _ (by omega)] at p2
  exact p1.trans p2
abbrev putO2 (γ : Type) [Ob γ] [Ow2 γ] (K : Frag) (s : DSt) (g : Nat) (q r : Addr) : γ → DSt := fun m => ⟨s.ρ, (s.gs.set g (r, Ow2.cl m)).set (g + 1) (q, ob2 K m r)⟩
section
variable {Y : DX} {s : DSt} {e a b c o : Expr} {es : List Expr} {pos p apos : Pos} {τ ρ α β γ : Type} [Ags τ] [Enc ρ] [Enc α] [Enc β] [og : Ob γ] [Ow2 γ] {G0 : Gs → Prop} {E : Ex → Prop} {V : (τ → Prop) → Prop} {ps : List Str} {j : Nat} {y m : Str} {q a2 : Addr} {py : Pos} {mm : γ}
theorem c_methO2 {w : γ × τ → (ρ → Prop) → (Ex → Prop) → Prop} {pl : Sem Bool} (i g n : Nat) (ye : YE Y G0 E) (G : Mt Y.X.prog Y.X.w Y.X.K Y.X.mg Y.X.base Y.T j (He.ga Y.X.K (Ob.cls γ)) m ps (spO2 Y.X.K w)) (c : Cls Y.X.K (He.ga Y.X.K (Ob.cls γ))) (hj : j ≤ Y.k) (hN : Y.X.N[i]? = some y) (hρ : s.ρ[i]? = some (some (raw (.ref q)))) (hg2 : s.gs[g]? = some (a2, Ow2.cl mm)) (hg : s.gs[g + 1]? = some (q, ob2 Y.X.K mm a2)) (h : EvA Y s (e :: es) V) (hl : ∀ t : τ, (Ags.pvs t).length + 1 = ps.length) (hn : G0 (s.gs.drop n))
    (hf : (Ow2.fl mm a2).lookup m = none := by rfl) (hv : Vis Y.X.env.scope y := by first | exact .inl rfl | exact .inr (.inl rfl) | exact .inr (.inr rfl)) (hd : (y == ("__debug__" : Str)) = false := by decide) (hcd : (y == ("__classdict__" : Str)) = false := by decide)
    (hst : starEach (e :: es) Y.X.env = (false, eval e Y.X.env) :: starEach es Y.X.env := by exact star_c rfl) (hpl : (backTo pos (starEach es Y.X.env)).any (·.1) = false := by exact star_any rfl)
    (ht : eval (.Call (.Attribute (.Name y py) m apos) (e :: es) [] pos) Y.X.env = (do
      let ov ← eval (.Name y py) Y.X.env
      standAt apos.atName
      let (f, first) ← holding [ov] (getMethod ov m pl)
      callWith pos f first (backTo pos (starEach (e :: es) Y.X.env)) (backToKw pos (keywordEach [] Y.X.env))) := by rfl) : EvC Y s (.Call (.Attribute (.Name y py) m apos) (e :: es) [] pos) fun k => V fun t => Cl (w (mm, t)) k E := fun k ww =>
  ev_perm (ev_methP G c ye.ok hj (evp_v i hN hρ hv hd hcd) (IA.own (g + 1) hg) hf ((h _ ww).mono fun As s1 ⟨t, ea, es, R0, E0, w0, hr, hE⟩ => by
    subst ea es
    exact ⟨hl t, _, _, perm_front2 hg2 hg, q, a2, mm, t, rfl, rfl, R0, E0, w0, fun r qq => ⟨_, (perm_front2 hg2 hg).symm, r, rfl, rfl, hr r qq⟩, fun e qq => ⟨_, (perm_front2 hg2 hg).symm, ye.ex e _ ⟨n, hn⟩ (hE e qq)⟩⟩) hst hpl ht)
theorem c_methO02 {w : γ × Unit → (ρ → Prop) → (Ex → Prop) → Prop} {pl : Sem Bool} (i g n : Nat) (ye : YE Y G0 E) (G : Mt Y.X.prog Y.X.w Y.X.K Y.X.mg Y.X.base Y.T j (He.ga Y.X.K (Ob.cls γ)) m ps (spO2 Y.X.K w)) (c : Cls Y.X.K (He.ga Y.X.K (Ob.cls γ))) (hj : j ≤ Y.k) (hN : Y.X.N[i]? = some y) (hρ : s.ρ[i]? = some (some (raw (.ref q)))) (hg2 : s.gs[g]? = some (a2, Ow2.cl mm)) (hg : s.gs[g + 1]? = some (q, ob2 Y.X.K mm a2)) (hl : 1 = ps.length) (hn : G0 (s.gs.drop n))
    (hf : (Ow2.fl mm a2).lookup m = none := by rfl) (hv : Vis Y.X.env.scope y := by first | exact .inl rfl | exact .inr (.inl rfl) | exact .inr (.inr rfl)) (hd : (y == ("__debug__" : Str)) = false := by decide) (hcd : (y == ("__classdict__" : Str)) = false := by decide)
    (ht : eval (.Call (.Attribute (.Name y py) m apos) [] [] pos) Y.X.env = (do
      let ov ← eval (.Name y py) Y.X.env
      standAt apos.atName
      let (f, first) ← holding [ov] (getMethod ov m pl)
      callWith pos f first (backTo pos (starEach [] Y.X.env)) (backToKw pos (keywordEach [] Y.X.env))) := by rfl) : EvC Y s (.Call (.Attribute (.Name y py) m apos) [] [] pos) fun k => Cl (w (mm, ())) k E := fun k ⟨R0, E0, w0, hr, hE⟩ =>
  ev_perm (ev_methP0 G c ye.ok hj (evp_v i hN hρ hv hd hcd) (IA.own (g + 1) hg) hf ⟨hl, _, _, perm_front2 hg2 hg, q, a2, mm, (), rfl, rfl, R0, E0, w0, fun r qq => ⟨_, (perm_front2 hg2 hg).symm, r, rfl, rfl, hr r qq⟩, fun e qq => ⟨_, (perm_front2 hg2 hg).symm, ye.ex e _ ⟨n, hn⟩ (hE e qq)⟩⟩ ht)
theorem c_methM2 {w : γ × τ → (ρ × γ → Prop) → (Ex → Prop) → Prop} {pl : Sem Bool} (i g n : Nat) (ye : YE Y G0 E) (G : Mt Y.X.prog Y.X.w Y.X.K Y.X.mg Y.X.base Y.T j (He.ga Y.X.K (Ob.cls γ)) m ps (spM2 Y.X.K w)) (c : Cls Y.X.K (He.ga Y.X.K (Ob.cls γ))) (hj : j ≤ Y.k) (hN : Y.X.N[i]? = some y) (hρ : s.ρ[i]? = some (some (raw (.ref q)))) (hg2 : s.gs[g]? = some (a2, Ow2.cl mm)) (hg : s.gs[g + 1]? = some (q, ob2 Y.X.K mm a2)) (h : EvA Y s (e :: es) V) (hl : ∀ t : τ, (Ags.pvs t).length + 1 = ps.length) (hn : G0 (s.gs.drop n))
    (hf : (Ow2.fl mm a2).lookup m = none := by rfl) (hv : Vis Y.X.env.scope y := by first | exact .inl rfl | exact .inr (.inl rfl) | exact .inr (.inr rfl)) (hd : (y == ("__debug__" : Str)) = false := by decide) (hcd : (y == ("__classdict__" : Str)) = false := by decide)
    (hst : starEach (e :: es) Y.X.env = (false, eval e Y.X.env) :: starEach es Y.X.env := by exact star_c rfl) (hpl : (backTo pos (starEach es Y.X.env)).any (·.1) = false := by exact star_any rfl)
    (ht : eval (.Call (.Attribute (.Name y py) m apos) (e :: es) [] pos) Y.X.env = (do
      let ov ← eval (.Name y py) Y.X.env
      standAt apos.atName
      let (f, first) ← holding [ov] (getMethod ov m pl)
      callWith pos f first (backTo pos (starEach (e :: es) Y.X.env)) (backToKw pos (keywordEach [] Y.X.env))) := by rfl) : EvSt Y s (.Call (.Attribute (.Name y py) m apos) (e :: es) [] pos) (putO2 γ Y.X.K s g q a2) fun k => V fun t => Cl (w (mm, t)) k E := fun k ww =>
  ev_perm (ev_methP G c ye.ok hj (evp_v i hN hρ hv hd hcd) (IA.own (g + 1) hg) hf ((h _ ww).mono fun As s1 ⟨t, ea, es, R0, E0, w0, hr, hE⟩ => by
    subst ea es
    exact ⟨hl t, _, _, perm_front2 hg2 hg, q, a2, mm, t, rfl, rfl, R0, E0, w0, fun r m' qq => ⟨_, perm_set2 hg2 hg, r, m', rfl, rfl, hr _ qq⟩, fun e qq => ⟨_, (perm_front2 hg2 hg).symm, ye.ex e _ ⟨n, hn⟩ (hE e qq)⟩⟩) hst hpl ht)
end
def EvI2 (Y : DX) (s : DSt) (e : Expr) (γ : Type) [Ob γ] [Ow2 γ] (W : (γ → Prop) → Prop) : Prop := ∀ k : γ → Prop, W k → Ev Y s e fun A s' => ∃ q a m, A = raw (.ref q) ∧ s' = ⟨s.ρ, gs2 Y.X.K q a m ++ s.gs⟩ ∧ k m
section
variable {Y : DX} {s : DSt} {e a b c : Expr} {es : List Expr} {pos p : Pos} {τ α γ : Type} [Ags τ] [Enc α] [og : Ob γ] [Ow2 γ] {G0 : Gs → Prop} {E : Ex → Prop} {V : (τ → Prop) → Prop} {ps : List Str} {j : Nat} {sts : List Stmt} {D : DE} {x : Str} {p2 : Pos} {tg : Expr}
theorem i_make2 {w : τ → (γ → Prop) → (Ex → Prop) → Prop} (n : Nat) (ye : YE Y G0 E) (G : Mkr Y.X.prog Y.X.w Y.X.K Y.X.mg Y.X.base Y.T j x (He.ga Y.X.K (Ob.cls γ)) ps (spI2 Y.X.K w)) (hj : j + 1 ≤ Y.k) (hg : Gl Y.X x) (h : EvA Y s (e :: es) V) (hl : ∀ t : τ, (Ags.pvs t).length + 1 = ps.length) (hn : G0 (s.gs.drop n))
    (hdb : (x == ("__debug__" : Str)) = false := by decide) (he : starEach (e :: es) Y.X.env = (false, eval e Y.X.env) :: starEach es Y.X.env := by exact star_c rfl) (hpl : (backTo pos (starEach es Y.X.env)).any (·.1) = false := by exact star_any rfl) : EvI2 Y s (.Call (.Name x p) (e :: es) [] pos) γ fun k => V fun t => Cl (w t) k E := fun k ww =>
  ev_makeI G ye.ok hj hg ((h _ ww).mono fun As s1 ⟨t, ea, es, R0, E0, w0, hr, hE⟩ => by
    subst ea es
    refine ⟨hl t, fun q => ⟨[], _, .refl _, q, t, rfl, rfl, R0, E0, w0, fun a2 r qq => ⟨rfl, q, a2, r, rfl, rfl, hr r qq⟩, fun e qq fs => ye.ex e _ ⟨n + 1, ?_⟩ (hE e qq)⟩⟩
    exact hn) hdb he hpl
theorem s_asgI2 {R : γ → Prop} {W : (γ → Prop) → Prop} (i : Nat) (ok : YOk Y) (hi : Y.X.N[i]? = some x) (he : EvI2 Y s e γ W) (next : ∀ q a2 m, R m → Ws Y ⟨s.ρ.set i (some (raw (.ref q))), gs2 Y.X.K q a2 m ++ s.gs⟩ sts D) (w : W R)
    (hx : Loc Y.X.env.scope x := by first | exact .inl rfl | exact .inr rfl) (hs : swapsWith e (some (.Name x p2)) pos.line Y.X.env = pure false := by rfl) (hf : Y.X.fn x = true ∨ Y.X.env.scope.names.lookup x = some .local := by first | exact .inl rfl | exact .inr rfl) : Ws Y s (.Assign [.Name x p2] e pos :: sts) D :=
  ws_cons (w1_set i ok hi hx ((he _ w).mono fun A s' ⟨q, a2, m, ea, es, r⟩ => by subst ea es; exact next q a2 m r) hs hf)
theorem s_asgI2N {pt2 : Pos} {k2 : Nat} {R : γ → List α → Prop} {Wa : (γ → Prop) → Prop} {Wb : (List α → Prop) → Prop} (t : TgD (Rf × Rf)) (hg : TgOk Y tg (t.g Y.X.K) t.ws t.f) (ha : EvI2 Y s a γ Wa) (hb : ∀ q a2 u, EvN Y ⟨s.ρ, gs2 (γ := γ) Y.X.K q a2 u ++ s.gs⟩ b Wb)
    (next : ∀ q a2 u q2 m, R u m → Ws Y ⟨t.f (Rf.mk q, Rf.mk q2) s.ρ, (q2, lstc m) :: (gs2 Y.X.K q a2 u ++ s.gs)⟩ sts D) (w : Wa fun u => Wb fun m => R u m)
    (he : starEach [a, b] Y.X.env = (false, eval a Y.X.env) :: starEach [b] Y.X.env := by exact star_c rfl) (he2 : starEach [b] Y.X.env = (false, eval b Y.X.env) :: starEach [] Y.X.env := by exact star_c rfl)
    (hs : swapsWithSole [tg] (.Tuple [a, b] k2 pt2) pos.line Y.X.env = pure false := by rfl) (hw : swappedStores [tg] (.Tuple [a, b] k2 pt2) Y.X.env = pure none := by rfl) (h1 : (assignEach [tg] Y.X.env).map (·.2) = [assign tg Y.X.env] := by rfl) : Ws Y s (.Assign [tg] (.Tuple [a, b] k2 pt2) pos :: sts) D :=
  ws_cons (w1_asg hg (ev_tup2 (α := Rf) (β := Rf) (evs_cons ((ha _ w).mono fun A s' ⟨q, a2, u, ea, es, r⟩ => by subst ea es; exact evs_cons (((hb q a2 u) _ r).mono fun A s' ⟨q2, m, ea, es, r⟩ => by subst ea es; exact evs_nil ⟨Rf.mk q, Rf.mk q2, rfl, (Rf.mk q, Rf.mk q2), rfl, next q a2 u q2 m r⟩) he2) he)) hs hw h1)
end
section
variable {P : Program} {w : World} {K : Frag} {mg : Str → Option Value} {base : Heap} {fa : List He.Fa} {fn : List He.DefD} {tq : TQ} {γ τ ρ : Type} [og : Ob γ] [Ow2 γ] [Ags τ] [Enc ρ]
def retM2 (K : Frag) (q a : Addr) (r0 : Option ρ) (Q : ρ × γ → Prop) : DE :=
  { nx := fun s' => ∃ r m, (∃ n, s'.gs.drop n = gs2 (γ := γ) K q a m) ∧ r0 = some r ∧ Q (r, m), rt := fun A s' => ∃ r m, (∃ n, s'.gs.drop n = gs2 (γ := γ) K q a m) ∧ A = pu r ∧ Q (r, m) }
def retI2 (K : Frag) (q : Addr) (Q : γ → Prop) : DE :=
  { nx := fun s' => ∃ a m, (∃ n, s'.gs.drop n = gs2 (γ := γ) K q a m) ∧ Q m, rt := fun A s' => A = pu () ∧ ∃ a m, (∃ n, s'.gs.drop n = gs2 (γ := γ) K q a m) ∧ Q m }
theorem fn_O2 {k : Nat} {N ps : List Str} {d : He.DefD} {fd : FuncData} (r0 : Option ρ) (L : LK w K mg base fa fn tq) (F1 : Fd K d ps fd) (S : FnScope N ps d.scope) (W : γ × τ → (ρ → Prop) → (Ex → Prop) → Prop) (n0 : NoneIs r0) (hl : ∀ t : τ, (Ags.pvs t).length + 1 = ps.length)
    (body : ∀ (q a : Addr) (z : BZ) (m : γ) (t : τ) (Q : ρ → Prop) (E : Ex → Prop), W (m, t) Q E → YE (yB P w K mg base tq k N d (gs2 K q a m) z) (fun gs => gs = gs2 K q a m) E → (∀ q', (d.at_, q') ∈ tq → Tbl (yB P w K mg base tq k N d (gs2 K q a m) z).X (tbOf K tq) q') →
      Ws (yB P w K mg base tq k N d (gs2 K q a m) z) ⟨(raw (.ref q) :: Ags.pvs t).map some ++ List.replicate (N.length - ps.length) none, (gs2 K q a m)⟩ d.body (retE (fun gs => gs = gs2 K q a m) r0 Q)) :
    FnOk P w K mg base (L2.CX P w) (k + 1) (He.fAd K d.at_) fd ps (toSp K (tbOf K tq) ps.length (spO2 K W)) := by
  have h := fnOk_as (d := fun As gs R E => ∃ q a m t, As = raw (.ref q) :: Ags.pvs t ∧ gs = gs2 (γ := γ) K q a m ∧ ∃ R0 E0, W (m, t) R0 E0 ∧ (∀ r, R0 r → R (pu r) (gs2 K q a m)) ∧ (∀ r, r0 = some r → R0 r → R (pu ()) (gs2 K q a m)) ∧ ∀ e, E0 e → E (exK K e) (gs2 K q a m))
    (fun As gs R R' E E' h1 h2 ⟨q, a, m, t, e1, e2, R0, E0, hw, hr, hr', he⟩ => ⟨q, a, m, t, e1, e2, R0, E0, hw, fun r q => h1 _ _ (hr r q), fun r e q => h1 _ _ (hr' r e q), fun e q => h2 _ _ (he e q)⟩)
    (df_ok L F1 S _ (fun As gs R E ⟨q, a, m, t, e1, _⟩ => by rw [e1]; exact hl t) fun cdv A outer s H F gs E ex As R X hd hex tbl ok => by
      obtain ⟨q, a, m, t, rfl, rfl, R0, E0, hw, hr, hr', hE⟩ := hd
      refine (body q a ⟨cdv, A, outer, s, H, F, E, ex⟩ m t R0 E0 hw ⟨ok, fun e s' ⟨n, hn⟩ he => hex _ _ ⟨n, by rw [hn]; exact hE e he⟩⟩ tbl).mono (fun s' ⟨⟨n, hn⟩, r, e, q⟩ => ⟨n, by rw [hn]; exact hr' r e q⟩) (fun A s' ⟨⟨n, hn⟩, r, e, q⟩ => ⟨n, by rw [hn, e]; exact hr r q⟩) (fun _ h => h) (fun _ h => h))
  exact h.imp fun vs H Q E q => toSp_imp q fun As gs R X ⟨q, a, m, t, e1, e2, R0, E0, hw, hr, he⟩ => ⟨q, a, m, t, e1, e2, R0, E0, hw, fun r q => ⟨_, fun _ _ h => h, hr r q⟩, fun r e q => ⟨_, n0 r e K, hr r q⟩, he⟩
theorem fn_M2 {k : Nat} {N ps : List Str} {d : He.DefD} {fd : FuncData} (r0 : Option ρ) (L : LK w K mg base fa fn tq) (F1 : Fd K d ps fd) (S : FnScope N ps d.scope) (W : γ × τ → (ρ × γ → Prop) → (Ex → Prop) → Prop) (n0 : NoneIs r0) (hl : ∀ t : τ, (Ags.pvs t).length + 1 = ps.length)
    (body : ∀ (q a : Addr) (z : BZ) (m : γ) (t : τ) (Q : ρ × γ → Prop) (E : Ex → Prop), W (m, t) Q E → YE (yB P w K mg base tq k N d (gs2 K q a m) z) (fun gs => gs = gs2 K q a m) E → (∀ q', (d.at_, q') ∈ tq → Tbl (yB P w K mg base tq k N d (gs2 K q a m) z).X (tbOf K tq) q') →
      Ws (yB P w K mg base tq k N d (gs2 K q a m) z) ⟨(raw (.ref q) :: Ags.pvs t).map some ++ List.replicate (N.length - ps.length) none, (gs2 K q a m)⟩ d.body (retM2 K q a r0 Q)) :
    FnOk P w K mg base (L2.CX P w) (k + 1) (He.fAd K d.at_) fd ps (toSp K (tbOf K tq) ps.length (spM2 K W)) := by
  have h := fnOk_as (d := fun As gs R E => ∃ q a m t, As = raw (.ref q) :: Ags.pvs t ∧ gs = gs2 (γ := γ) K q a m ∧ ∃ R0 E0, W (m, t) R0 E0 ∧ (∀ r m', R0 (r, m') → R (pu r) (gs2 K q a m')) ∧ (∀ r m', r0 = some r → R0 (r, m') → R (pu ()) (gs2 K q a m')) ∧ ∀ e, E0 e → E (exK K e) (gs2 K q a m))
    (fun As gs R R' E E' h1 h2 ⟨q, a, m, t, e1, e2, R0, E0, hw, hr, hr', he⟩ => ⟨q, a, m, t, e1, e2, R0, E0, hw, fun r m' q => h1 _ _ (hr r m' q), fun r m' e q => h1 _ _ (hr' r m' e q), fun e q => h2 _ _ (he e q)⟩)
    (df_ok L F1 S _ (fun As gs R E ⟨q, a, m, t, e1, _⟩ => by rw [e1]; exact hl t) fun cdv A outer s H F gs E ex As R X hd hex tbl ok => by
      obtain ⟨q, a, m, t, rfl, rfl, R0, E0, hw, hr, hr', hE⟩ := hd
      refine (body q a ⟨cdv, A, outer, s, H, F, E, ex⟩ m t R0 E0 hw ⟨ok, fun e s' ⟨n, hn⟩ he => hex _ _ ⟨n, by rw [hn]; exact hE e he⟩⟩ tbl).mono (fun s' ⟨r, m', ⟨n, hn⟩, e, q⟩ => ⟨n, by rw [hn]; exact hr' r m' e q⟩) (fun A s' ⟨r, m', ⟨n, hn⟩, e, q⟩ => ⟨n, by rw [hn, e]; exact hr r m' q⟩) (fun _ h => h) (fun _ h => h))
  exact h.imp fun vs H Q E q => toSp_imp q fun As gs R X ⟨q, a, m, t, e1, e2, R0, E0, hw, hr, he⟩ => ⟨q, a, m, t, e1, e2, R0, E0, hw, fun r m' q => ⟨_, fun _ _ h => h, hr r m' q⟩, fun r m' e q => ⟨_, n0 r e K, hr r m' q⟩, he⟩
theorem fn_I2 {k : Nat} {N ps : List Str} {d : He.DefD} {fd : FuncData} (L : LK w K mg base fa fn tq) (F1 : Fd K d ps fd) (S : FnScope N ps d.scope) (W : τ → (γ → Prop) → (Ex → Prop) → Prop) (hl : ∀ t : τ, (Ags.pvs t).length + 1 = ps.length)
    (body : ∀ (q : Addr) (z : BZ) (t : τ) (Q : γ → Prop) (E : Ex → Prop), W t Q E → YE (yB P w K mg base tq k N d [(q, insc (He.ga K (Ob.cls γ)) [])] z) (fun gs => ∃ fs, gs = [(q, insc (He.ga K (Ob.cls γ)) fs)]) E → (∀ q', (d.at_, q') ∈ tq → Tbl (yB P w K mg base tq k N d [(q, insc (He.ga K (Ob.cls γ)) [])] z).X (tbOf K tq) q') →
      Ws (yB P w K mg base tq k N d [(q, insc (He.ga K (Ob.cls γ)) [])] z) ⟨(raw (.ref q) :: Ags.pvs t).map some ++ List.replicate (N.length - ps.length) none, [(q, insc (He.ga K (Ob.cls γ)) [])]⟩ d.body (retI2 K q Q)) :
    FnOk P w K mg base (L2.CX P w) (k + 1) (He.fAd K d.at_) fd ps (toSp K (tbOf K tq) ps.length (spI2 K W)) :=
  df_ok L F1 S _ (fun As gs R E ⟨q, t, e1, _⟩ => by rw [e1]; exact hl t) fun cdv A outer s H F gs E ex As R X hd hex tbl ok => by
    obtain ⟨q, t, rfl, rfl, R0, E0, hw, hr, hE⟩ := hd
    refine (body q ⟨cdv, A, outer, s, H, F, E, ex⟩ t R0 E0 hw ⟨ok, fun e s' ⟨n, fs, hn⟩ he => hex _ _ ⟨n, by rw [hn]; exact hE e he fs⟩⟩ tbl).mono (fun s' ⟨a, r, ⟨n, hn⟩, q⟩ => ⟨n, by rw [hn]; exact hr a r q⟩) (fun A s' ⟨ea, a, r, ⟨n, hn⟩, q⟩ => ⟨n, by rw [hn, ea]; exact hr a r q⟩) (fun _ h => h) (fun _ h => h)
end
end Sp
set_option maxHeartbeats 4000000
namespace Sp
open PySem L2
open PySem.W (Datum DatumOrd SomeDatum)
section
variable {Y : DX} {s : DSt} {e a b c d o : Expr} {sts : List Stmt} {pos p p2 apos : Pos} {D : DE} {C : Addr} {fs : Flds} {q q2 : Addr} {f x : Str} {α : Type} [Enc α] {xs : List α}
theorem l_ownF {pn : Pos} (i gi g : Nat) (c : Cls Y.X.K C) (nn : NoAttr Y.X.K C f) (hN : Y.X.N[i]? = some x) (hρ : s.ρ[i]? = some (some (raw (.ref q)))) (hi : s.gs[gi]? = some (q, insc C fs)) (l : fs.lookup f = some (raw (.ref q2))) (hg : s.gs[g]? = some (q2, lstc xs))
    (hab : attributeBase (.Name x pn) f Y.X.env (eval (.Name x pn) Y.X.env) = eval (.Name x pn) Y.X.env := by exact ab_ok rfl)
    (hv : Vis Y.X.env.scope x := by first | exact .inl rfl | exact .inr (.inl rfl) | exact .inr (.inr rfl)) (hd : (x == ("__debug__" : Str)) = false := by decide) (hcd : (x == ("__classdict__" : Str)) = false := by decide) : EvL Y s (.Attribute (.Name x pn) f pos) fun k => k xs := fun k w =>
  .of (evp_fld c nn (evp_v i hN hρ hv hd hcd) (IA.own gi hi) l hab) ⟨xs, DL.own g hg, rfl, w⟩
theorem s_flput (i gi g : Nat) {b : Expr} {W : (α → Prop) → Prop} {Wi : (Int → Prop) → Prop} {pn pa ps : Pos} (c : Cls Y.X.K C) (nn : NoAttr Y.X.K C f) (hN : Y.X.N[i]? = some x) (hρ : s.ρ[i]? = some (some (raw (.ref q)))) (hi : s.gs[gi]? = some (q, insc C fs)) (l : fs.lookup f = some (raw (.ref q2))) (hg : s.gs[g]? = some (q2, lstc xs)) (he : EvC Y s e W) (hb : EvC Y s b Wi) {R : List α → Prop} (next : ∀ v, R v → Ws Y ⟨s.ρ, s.gs.set g (q2, lstc v)⟩ sts D) (w : W fun v => Wi fun k => inR xs.length k ∧ R (xs.set (plc xs.length k) v))
    (hab : attributeBase (.Name x pn) f Y.X.env (eval (.Name x pn) Y.X.env) = eval (.Name x pn) Y.X.env := by exact ab_ok rfl)
    (hv : Vis Y.X.env.scope x := by first | exact .inl rfl | exact .inr (.inl rfl) | exact .inr (.inr rfl)) (hd : (x == ("__debug__" : Str)) = false := by decide) (hcd : (x == ("__classdict__" : Str)) = false := by decide)
    (hs : swapsWithSole [Expr.Subscript (.Attribute (.Name x pn) f pa) b ps] e pos.line Y.X.env = pure false := by rfl) (hw : swappedStores [Expr.Subscript (.Attribute (.Name x pn) f pa) b ps] e Y.X.env = pure none := by rfl) (h1 : (assignEach [Expr.Subscript (.Attribute (.Name x pn) f pa) b ps] Y.X.env).map (·.2) = [assign (Expr.Subscript (.Attribute (.Name x pn) f pa) b ps) Y.X.env] := by rfl)
    (ha : ∀ v, assign (.Subscript (.Attribute (.Name x pn) f pa) b ps) Y.X.env v = (do
      let ov ← holding [v] (eval (.Attribute (.Name x pn) f pa) Y.X.env)
      let iv ← holding [v, ov] (eval b Y.X.env)
      standAt ps
      holding [v, ov, iv] (setItem ov iv v)
      release [v, ov, iv] []) := by intro _; rfl) : Ws Y s (.Assign [.Subscript (.Attribute (.Name x pn) f pa) b ps] e pos :: sts) D := ws_cons fun F0 σ H F e0 S => by
  refine .of (ps_asg pe_we (pg_sub pe_we pe_we set_list ha) hs hw h1) ?_
  refine (he _ w F σ H F (.refl _) S).mono fun v H1 ⟨_, _, F1, e1, r1, S1, y, ey, es, w⟩ => ?_
  subst ey es
  refine (evp_fld (pos := pa) c nn (evp_v (pos := pn) i hN hρ hv hd hcd) (IA.own gi hi) l hab F1 σ H1 F1 (.refl _) S1).mono fun u H2 ⟨F2, e2, r2, S2⟩ => ?_
  refine (hb _ w F2 σ H2 F2 (.refl _) S2).mono fun z H3 ⟨_, _, F3, e3, r3, S3, k, ek, es, w⟩ => ?_
  subst ek es
  obtain ⟨hF, oo, hoo, _, zs, eo, rv⟩ := S3.cell hg
  subst eo
  refine ⟨q2, zs, k, plc xs.length k, r2, r3, hoo, by rw [show zs.length = xs.length from Paired.length rv]; exact (ixN_plc w.1).1, _, F3, ((e0.trans e1).trans e2).trans e3, ?_, next _ w.2⟩
  exact S3.write (c' := lstc (xs.set (plc xs.length k) y)) hg hoo (not_codeL rfl) rfl ⟨_, rfl, prd_set rv (Enc.mono (α := α) r1 (e2.trans e3)) _⟩
theorem s_fldN {W : (List α → Prop) → Prop} {R : List α → Prop} {pn : Pos} (i g : Nat) (c : Cls Y.X.K C) (nn : NoAttr Y.X.K C f) (hN : Y.X.N[i]? = some x) (hρ : s.ρ[i]? = some (some (raw (.ref q)))) (hg : s.gs[g]? = some (q, insc C fs)) (he : EvN Y s e W) (next : ∀ q2 v, R v → Ws Y ⟨s.ρ, (q2, lstc v) :: s.gs.set g (q, insc C (fput f (raw (.ref q2)) fs))⟩ sts D) (w : W R) (hl : fs.length < 1000 := by decide)
    (hv : Vis Y.X.env.scope x := by first | exact .inl rfl | exact .inr (.inl rfl) | exact .inr (.inr rfl)) (hd : (x == ("__debug__" : Str)) = false := by decide) (hcd : (x == ("__classdict__" : Str)) = false := by decide) (hs : swapsWith e (some (.Attribute (.Name x pn) f p2)) pos.line Y.X.env = pure false := by rfl) : Ws Y s (.Assign [.Attribute (.Name x pn) f p2] e pos :: sts) D :=
  s_fldR i g c nn hN hρ hg ((he _ w).mono fun A s' ⟨q3, v, ea, es, r⟩ => ⟨q3, [(q3, lstc v)], ea, es, next q3 v r⟩) hl hv hd hcd hs
end
section
variable {Y : DX} {s : DSt} {e o b : Expr} {pos pa ps p2 : Pos} {D : DE} {sts : List Stmt} {C : Addr} {fs : Flds} {q q2 : Addr} {x f : Str} {κ : Type} [DecidableEq κ] [Kk κ] [Enc κ] [KkV κ] {m : List (κ × Int)}
theorem s_faugSub {pn : Pos} {W : (Int → Prop) → Prop} {Wk : (κ → Prop) → Prop} {R : List (κ × Int) → Prop} (i gi g : Nat) (c : Cls Y.X.K C) (nn : NoAttr Y.X.K C f) (ok : YOk Y) (hN : Y.X.N[i]? = some x) (hρ : s.ρ[i]? = some (some (raw (.ref q)))) (hi : s.gs[gi]? = some (q, insc C fs)) (l : fs.lookup f = some (raw (.ref q2))) (hg : s.gs[g]? = some (q2, dctc m)) (hb : EvC Y s b Wk) (he : EvC Y s e W)
    (next : ∀ v, R v → Ws Y ⟨s.ρ, s.gs.set g (q2, dctc v)⟩ sts D) (w : Wk fun k => dhas m k = true ∧ W fun n => m.length < sizeLine ∧ R (dput m k (dgt m k - n)))
    (hab : attributeBase (.Name x pn) f Y.X.env (eval (.Name x pn) Y.X.env) = eval (.Name x pn) Y.X.env := by exact ab_ok rfl)
    (hv : Vis Y.X.env.scope x := by first | exact .inl rfl | exact .inr (.inl rfl) | exact .inr (.inr rfl)) (hd : (x == ("__debug__" : Str)) = false := by decide) (hcd : (x == ("__classdict__" : Str)) = false := by decide)
    (ha : ∀ ov iv new, augStore b ov iv new = (do holding [new, ov, iv] (setItem ov iv new); release [new, ov, iv] []; pure .next) := by intros; rfl) : Ws Y s (.AugAssign (.Subscript (.Attribute (.Name x pn) f pa) b ps) .Sub e pos :: sts) D :=
  s_faugG (R := fun n k => m.length < sizeLine ∧ R (dput m k (dgt m k - n))) ok iop_sub (evp_fld (pos := pa) c nn (evp_v (pos := pn) i hN hρ hv hd hcd) (IA.own gi hi) l hab) hg hb he (fun n k h => ⟨h.1, dgt m k - n, fun H Q q => ⟨_, _, rfl, rfl, q⟩, next _ h.2⟩) w ha
end
end Sp
set_option maxHeartbeats 4000000
namespace Sp
open PySem L2
open PySem.W (Datum DatumOrd SomeDatum)
section
variable {Y : DX} {s : DSt} {e a b c : Expr} {r : List Expr} {pos p : Pos} {δ : Type} [DecidableEq δ] [Enc δ] [DatumOrd δ] [Dat δ]
theorem cr_minTup {X : Cx} (hc : X.calm = true) (hu : X.A.units + 64 < cLine) (hd : Datum.depth δ ≤ 60) : CallR X (.builtin "min") (fun vs H Q => ∃ F y p zs x, ∃ xs : List δ, vs = [y] ∧ y = .ref p ∧ SqT X.K H p zs ∧ Vs X.K F zs (x :: xs) ∧ Ext F H ∧ ∀ z, Enc.rep X.K F z (PySem.W.minOf x xs) → Q z H) := by
  intro pins s σ H vs us Q I r ⟨F, y, p, zs, x, xs, ev, e, hq, hz, ex, q⟩
  subst e ev
  obtain ⟨its, rv, hl, hlen⟩ := I.tuple hq
  obtain ⟨u, rfl, ru⟩ := vals1 r
  cases ru
  refine PySem.W.min_tuple_datum (vs := its.toArray) (I.ok.hd hc) hl (vs_holds I (hz.mono ex) rv) (by omega) fun i v h' tk hv hm hk => ?_
  have J := I.kept (t' := tk) hk
  obtain ⟨z, r1, r2⟩ := pickF J hz ex rv (by simpa using hv) hm
  exact ⟨z, H, J, r2, q z r1⟩
theorem c_minH [Inhabited δ] {W : (Tup δ → Prop) → Prop} (ok : YOk Y) (T : Bis Y.X.mg) (hg : Gl Y.X "min") (ha : EvC Y s a W) (hd : Datum.depth δ ≤ 60 := by decide) (he : starEach [a] Y.X.env = (false, eval a Y.X.env) :: starEach [] Y.X.env := by exact star_c rfl) :
    EvC Y s (.Call (.Name "min" p) [a] [] pos) fun k => W fun xs => xs.items ≠ [] ∧ k (minL xs.items) := fun k w =>
  ev_B1 (cr_minTup (δ := δ) ok.calm ok.room.units hd) hg (T.no _ (by decide)) PyProof.Rows.boot_min (ha.q w fun xs w F0 σ H F v e0 S r => by
    obtain ⟨q, zs, h1, h2, h3⟩ := r
    obtain ⟨w1, w2⟩ := w
    obtain ⟨items⟩ := xs
    cases items with
    | nil => exact absurd rfl w1
    | cons x xs => exact ⟨F, v, q, zs, x, xs, rfl, h1, sqT_ex2 h2 S.ext, h3, S.ext, fun z r' => ⟨pu (PySem.W.minOf x xs), s, F, e0, r', S, _, rfl, rfl, w2⟩⟩) (by decide) (by decide) he
end
end Sp
set_option maxHeartbeats 4000000
namespace Sp
open PySem L2
open PySem.W (Datum DatumOrd SomeDatum)
def EwSt (Y : DX) (s : DSt) (e : Expr) {γ : Type} (put : γ → DSt) (W : (Bool × γ → Prop) → Prop) : Prop := ∀ k : Bool × γ → Prop, W k → Ew Y s e fun b s' => ∃ m, s' = put m ∧ k (b, m)
section
variable {Y : DX} {s : DSt} {a b c : Expr} {r : List Expr} {pos p : Pos} {γ : Type} {put : γ → DSt} {Wa : (Bool → Prop) → Prop} {V : (Bool × γ → Prop) → Prop}
theorem t_wS (h : EwSt Y s a put V) : EtSt Y s a put V := fun k w => et_w (h k w)
theorem w_orZ (h : EtSt Y s a put V) : EwSt Y s (.BoolOp .Or [a] pos) put V := fun k w => ew_or1 (h k w)
theorem w_andZ (h : EtSt Y s a put V) : EwSt Y s (.BoolOp .And [a] pos) put V := fun k w => ew_and1 (h k w)
theorem w_orL (m0 : γ) (h0 : put m0 = s) (ha : EvT Y s a Wa) (hr : EwSt Y s (.BoolOp .Or (b :: r) pos) put V) : EwSt Y s (.BoolOp .Or (a :: b :: r) pos) put fun k => Wa fun x => (x = true → k (true, m0)) ∧ (x = false → V k) := fun k w =>
  ew_or ((ha _ w).mono fun x s1 ⟨es, w1, w2⟩ => by
    subst es
    cases x with
    | true => rw [if_pos rfl]; exact ⟨m0, h0.symm, w1 rfl⟩
    | false => rw [if_neg Bool.false_ne_true]; exact hr k (w2 rfl))
theorem w_andL (m0 : γ) (h0 : put m0 = s) (ha : EvT Y s a Wa) (hr : EwSt Y s (.BoolOp .And (b :: r) pos) put V) : EwSt Y s (.BoolOp .And (a :: b :: r) pos) put fun k => Wa fun x => (x = false → k (false, m0)) ∧ (x = true → V k) := fun k w =>
  ew_and ((ha _ w).mono fun x s1 ⟨es, w1, w2⟩ => by
    subst es
    cases x with
    | true => rw [if_pos rfl]; exact hr k (w2 rfl)
    | false => rw [if_neg Bool.false_ne_true]; exact ⟨m0, h0.symm, w1 rfl⟩)
end
end Sp
set_option maxHeartbeats 4000000
namespace Sp
open PySem L2
open PySem.W (Datum DatumOrd SomeDatum)
section
variable {Y : DX} {s : DSt} {e a b c o : Expr} {es : List Expr} {pos p apos : Pos} {Q : Pv → DSt → Prop}
theorem sp_callPN {n : Nat} {d : DSp} {σ : L2.St} {F0 H F : Hp} {vs : List V} {As : List Pv} {gs1 gs2 : Gs} {Gd : DSt → Prop} {E : Ex → Prop} (e0 : Ext F0 F) (S : Sta Y s σ H F) (r : Rvs Y.X.K F vs As) (hn : As.length = n) (hp : s.gs.Perm (gs1 ++ gs2))
    (h : d As gs1 (fun A gs' => Q A ⟨s.ρ, gs' ++ gs2⟩) (fun e gs' => ∃ l ex, (gs' ++ gs2).Perm l ∧ e = exK Y.X.K ex ∧ Gd ⟨s.ρ, l⟩ ∧ E ex))
    (mono : ∀ (R R' : Pv → Gs → Prop) (E E' : Exc → Gs → Prop), (∀ A g, R A g → R' A g) → (∀ e g, E e g → E' e g) → d As gs1 R E → d As gs1 R' E') :
    toSp Y.X.K Y.T n d vs H (Po Y σ F0 Q) (L2.WE (wxS Y Gd E) σ) := by
  have G := (S.perm hp).stg
  have nd := G.nd
  rw [List.map_append, List.nodup_append] at nd
  refine ⟨(Paired.length r).trans hn, As, gs1, F, r, ⟨G.ext, G.ntb, fun p hp => G.own p (List.mem_append_left _ hp), nd.1, G.tb⟩, mono _ _ _ _ (fun A g q v H' F' r' G1 c => ?_) (fun e g q cls dd H' F' r' G1 c => ?_) h⟩
  · exact ⟨A, _, F', e0.trans c.ff, r', S.called hp G1 c, q⟩
  · obtain ⟨l, ex, hl, he, hg, q⟩ := q
    subst he
    exact ⟨ex, ⟨s.ρ, l⟩, F', (S.called hp G1 c).perm hl, r', hg, q⟩
end
section
variable {Y : DX} {s : DSt} {e a b c o : Expr} {es : List Expr} {pos p apos : Pos} {τ ρ α β γ : Type} [Ags τ] [Enc ρ] [Enc α] [Enc β] [og : Ob γ] [Ow2 γ] {G0 : Gs → Prop} {Gd : DSt → Prop} {E E' : Ex → Prop} {V : (τ → Prop) → Prop} {ps : List Str} {j : Nat} {y m : Str} {q a2 : Addr} {py : Pos} {mm : γ}
theorem c_methO2N {w : γ × τ → (ρ → Prop) → (Ex → Prop) → Prop} {pl : Sem Bool} (i g : Nat) (ye : YE Y G0 E') (yn : YN Y Gd E) (G : MtN Y.X.prog Y.X.w Y.X.K Y.X.mg Y.X.base Y.T j (He.ga Y.X.K (Ob.cls γ)) m ps (spO2 Y.X.K w)) (c : Cls Y.X.K (He.ga Y.X.K (Ob.cls γ))) (hj : j ≤ Y.k) (hN : Y.X.N[i]? = some y) (hρ : s.ρ[i]? = some (some (raw (.ref q)))) (hg2 : s.gs[g]? = some (a2, Ow2.cl mm)) (hg : s.gs[g + 1]? = some (q, ob2 Y.X.K mm a2)) (h : EvA Y s (e :: es) V) (hl : ∀ t : τ, (Ags.pvs t).length + 1 = ps.length) (hn : Gd s)
    (hf : (Ow2.fl mm a2).lookup m = none := by rfl) (hv : Vis Y.X.env.scope y := by first | exact .inl rfl | exact .inr (.inl rfl) | exact .inr (.inr rfl)) (hd : (y == ("__debug__" : Str)) = false := by decide) (hcd : (y == ("__classdict__" : Str)) = false := by decide)
    (hst : starEach (e :: es) Y.X.env = (false, eval e Y.X.env) :: starEach es Y.X.env := by exact star_c rfl) (hpl : (backTo pos (starEach es Y.X.env)).any (·.1) = false := by exact star_any rfl)
    (ht : eval (.Call (.Attribute (.Name y py) m apos) (e :: es) [] pos) Y.X.env = (do
      let ov ← eval (.Name y py) Y.X.env
      standAt apos.atName
      let (f, first) ← holding [ov] (getMethod ov m pl)
      callWith pos f first (backTo pos (starEach (e :: es) Y.X.env)) (backToKw pos (keywordEach [] Y.X.env))) := by rfl) : EvC Y s (.Call (.Attribute (.Name y py) m apos) (e :: es) [] pos) fun k => V fun t => Cl (w (mm, t)) k E := fun k ww => ev_perm fun F0 σ H F e0 S => by
  obtain ⟨⟨f, fd, F1, hm, hb⟩, mono⟩ := G
  refine .of (pe_methS (CX := L2N.CX Y.X.prog Y.X.w) (E := L2.WE (wxS Y Gd E)) pe_we c hm F1 (ye.ok.room.mono hj) hb (fun σ => L2N.passAt yn.tk σ) pa_wa hst hpl ht) ?_
  refine (evp_v (pos := py) i hN hρ hv hd hcd F σ H F (.refl _) S).mono fun v H1 ⟨F1, e1, r1, S1⟩ => ?_
  obtain ⟨a, dx, vs, ev, ha, rf⟩ := IA.own (g + 1) hg σ H1 F1 v S1 r1
  refine ⟨a, dx, vs, ev, ha, fr_no rf hf, ?_⟩
  refine (h _ ww F1 σ H1 F1 (.refl _) S1).mono fun us H2 ⟨_, _, F2, e2, r2, S2, t, ea, es, R0, E0, w0, hr, hE⟩ => ?_
  subst ea es
  have pf := perm_front2 hg2 hg
  refine sp_callPN (As := raw (.ref q) :: Ags.pvs t) (gs1 := gs2 (γ := γ) Y.X.K q a2 mm) ((e0.trans e1).trans e2) S2 (.cons ((raw (.ref q)).mono r1 e2) r2) (by rw [List.length_cons]; exact hl t) pf ?_ (mono _ _)
  exact ⟨q, a2, mm, t, rfl, rfl, R0, E0, w0, fun r qq => ⟨_, pf.symm, r, rfl, rfl, hr r qq⟩, fun e qq => ⟨_, e, pf.symm, rfl, hn, hE e qq⟩⟩
end
section
variable {P : Program} {w : World} {K : Frag} {mg : Str → Option Value} {base : Heap} {fa : List He.Fa} {fn : List He.DefD} {tq : TQ} {γ : Type} [og : Ob γ] [Ow2 γ]
theorem fn_O2N {τ ρ : Type} [Ags τ] [Enc ρ] {k : Nat} {N ps : List Str} {d : He.DefD} {fd : FuncData} (r0 : Option ρ) (L : LK w K mg base fa fn tq) (F1 : Fd K d ps fd) (S : FnScope N ps d.scope) (W : γ × τ → (ρ → Prop) → (Ex → Prop) → Prop) (n0 : NoneIs r0) (hl : ∀ t : τ, (Ags.pvs t).length + 1 = ps.length)
    (body : ∀ (q a : Addr) (z : BZ) (m : γ) (t : τ) (Q : ρ → Prop) (E : Ex → Prop), W (m, t) Q E → YE (yBN P w K mg base tq k N d (gs2 K q a m) z) (fun gs => gs = gs2 K q a m) NoE → YN (yBN P w K mg base tq k N d (gs2 K q a m) z) (lft fun gs => gs = gs2 K q a m) E → (∀ q9, (d.at_, q9) ∈ tq → Tbl (yBN P w K mg base tq k N d (gs2 K q a m) z).X (tbOf K tq) q9) →
      Ws (yBN P w K mg base tq k N d (gs2 K q a m) z) ⟨(raw (.ref q) :: Ags.pvs t).map some ++ List.replicate (N.length - ps.length) none, gs2 K q a m⟩ d.body (retE (fun gs => gs = gs2 K q a m) r0 Q)) :
    FnOk P w K mg base (L2N.CX P w) (k + 1) (He.fAd K d.at_) fd ps (toSp K (tbOf K tq) ps.length (spO2 K W)) := by
  obtain ⟨oc, od, dV, kV, doc, pm, an, cdv, ct, osl, rfl, lk, hcd, _, _⟩ := F1.F.ex
  obtain ⟨c, rfl⟩ := He.codeIn_ref hcd
  have ec : He.codeOf K d.at_ = c := He.codeOf_eq lk rfl
  refine fn_of lk hcd S (fun vs H Q E h => h.1) fun A outer s H vs Q E hr h => ?_
  obtain ⟨hn, As, gs, F, r, G, q, a, m, t, rfl, rfl, R0, E0, hw, hR, hE⟩ := h
  let z : BZ := ⟨.ref c, A, outer, s, H, F, E, fun _ _ => False⟩
  let Y : DX := yBN P w K mg base tq k N d (gs2 K q a m) z
  have tk0 : L2N.Takes Y.X (fun cls d _ H => E cls d H) := L2N.takes_of rfl rfl rfl rfl
  have ok : YOk Y := ⟨rfl, S.nd, hr, passes_of rfl, takes_no rfl⟩
  have yn : YN Y (lft fun gs => gs = gs2 K q a m) E0 := ⟨tk0.imp fun cls d' σ H' ⟨e, s', F', Sq, er, ⟨n, hn⟩, he⟩ => by
    have q := hE e he cls d' H' F' er
    have g1 := Sq.stg.drop n
    have g2 := Sq.st.sub (ads_drop n)
    rw [hn] at g1 g2
    exact q g1 g2⟩
  have tbl : ∀ q9, (d.at_, q9) ∈ tq → Tbl Y.X (tbOf K tq) q9 := fun q9 hq => by
    have h1 := L.tb _ hq
    have e1 : (He.cT K d.at_).1 = c := ec
    refine ⟨c, (He.cT K d.at_).2, by rw [← e1]; exact h1, rfl, List.mem_map.mpr ⟨_, hq, rfl⟩, fun p hp e => ?_⟩
    obtain ⟨z, hz, ez⟩ := List.mem_map.mp hp
    subst ez
    have := nd_map L.nd hz hq e
    rw [this]
  have b := body q a z m t R0 E0 hw ⟨ok, fun _ _ _ h => h.elim⟩ yn tbl
  refine ⟨_, pss_ws, ?_⟩
  have S0 : Sta Y ⟨(raw (.ref q) :: Ags.pvs t).map some ++ List.replicate (N.length - ps.length) none, gs2 K q a m⟩ (L2.start N vs) H F := by
    refine ⟨G.ext, G.ntb, ?_, G.own, G.nd, G.tb, Step.refl⟩
    unfold L2.start
    rw [hn]
    exact reps_start r _
  refine (b F (L2.start N vs) H F (.refl _) S0).mono (fun σ' H' ⟨s', F', e1, S', ⟨n, hn⟩, r', er, q⟩ => ?_) (fun v H' ⟨A', s', σ', F', e1, r', S', ⟨n, hn⟩, r2, er, q⟩ => ?_) (fun σ' H' ⟨s', F', e1, S', q⟩ => q.elim) (fun σ' H' ⟨s', F', e1, S', q⟩ => q.elim)
  · have g1 := S'.stg.drop n
    have g2 := S'.st.sub (ads_drop n)
    rw [hn] at g1 g2
    exact hR r' q .non H' F' (n0 r' er K F' .non rfl) g1 g2
  · subst er
    have g1 := S'.stg.drop n
    have g2 := S'.st.sub (ads_drop n)
    rw [hn] at g1 g2
    exact hR r2 q v H' F' r' g1 g2
end
end Sp
set_option maxHeartbeats 4000000
set_option maxHeartbeats 4000000
namespace Sp
open PySem L2
open PySem.W (DatumOrd)
theorem sl2 {n : Nat} (h : n < 1000000) : n < sizeLine := Nat.lt_of_lt_of_le h (by decide)
theorem ir {n : Nat} {i : Int} {k : Nat} (e : i = (k : Int)) (h : k < n) : inR n i := by unfold inR; omega
theorem ne_no {α : Type} [DecidableEq α] {a b : α} {A B : Prop} (h : a = b) (hB : B) : (decide (a ≠ b) = true → A) ∧ (decide (a ≠ b) = false → B) := ⟨fun g => absurd h (of_decide_eq_true g), fun _ => hB⟩
theorem no_ {A B : Prop} {b : Bool} (h : b = false) (hB : B) : (b = true → A) ∧ (b = false → B) := ⟨fun g => (by rw [h] at g; cases g), fun _ => hB⟩
theorem yes_ {A B : Prop} {b : Bool} (h : b = true) (hA : A) : (b = true → A) ∧ (b = false → B) := ⟨fun _ => hA, fun g => (by rw [h] at g; cases g)⟩
theorem nt_ {A B : Prop} {b : Bool} (h : b = true) (hB : B) : ((!b) = true → A) ∧ ((!b) = false → B) := no_ (by rw [h]; rfl) hB
theorem told_o {γ : Type} {A B : Prop} {t u : Txt} (h : t = u) (hB : B) : ((!isT (Sum.inr t : γ ⊕ Txt) u) = true → A) ∧ ((!isT (Sum.inr t : γ ⊕ Txt) u) = false → B) := no_ (by subst h; simp [isT]) hB
abbrev gt (a : Txt) (j : Nat) : Nat := a.getD j 0
theorem forR {β Z : Type} {n : Nat} {f : Nat → β} {z0 : Z} {body : β → Z → (Z → Prop) → Prop} {rest : Z → Prop} (P : Nat → Z → Prop) (h0 : P 0 z0)
    (hs : ∀ i z, i < n → P i z → ∀ k : Z → Prop, (∀ z', P (i + 1) z' → k z') → body (f i) z k) (he : ∀ z, P n z → rest z) : forW ((List.range n).map f) z0 body rest := by
  refine ⟨P, h0, fun i x z hx hp => ?_, fun z hz => ?_⟩
  · rw [List.getElem?_map] at hx
    obtain ⟨y, hy, e⟩ := Option.map_eq_some_iff.mp hx
    obtain ⟨hlt, hy2⟩ := List.getElem?_eq_some_iff.mp hy
    rw [List.length_range] at hlt
    rw [List.getElem_range] at hy2
    subst hy2 e
    exact hs i z hlt hp _ fun z' h => h
  · rw [List.length_map, List.length_range] at hz
    exact he z hz
theorem forU {α : Type} {xs : List α} {body : α → Unit → (Unit → Prop) → Prop} {rest : Unit → Prop} (hs : ∀ x ∈ xs, ∀ k : Unit → Prop, k () → body x () k) (he : rest ()) : forW xs () body rest :=
  forL (fun _ _ => True) trivial (fun l x r z e _ k hk => hs x (by rw [e]; simp) k (hk () trivial)) fun _ _ => he
theorem word_raw {ls : Txt} {lo hi : Int} {Q : Txt → Prop} (h0 : 0 ≤ lo) (h1 : lo ≤ hi) (h2 : hi ≤ 1000) (hl : 0 < ls.length) (hl2 : ls.length ≤ 1000) (q : ∀ y : Txt, (∀ c ∈ y, c ∈ ls) → lo ≤ y.length → (y.length : Int) ≤ hi → Q y) :
    ClD (rollW (((hi - lo) + (1 : Int)), ())) fun (r4 : Int) => ((-(2 ^ 62) ≤ (lo + r4) ∧ (lo + r4) < 2 ^ 62) ∧ (List.length ((List.range ((lo + r4)).toNat).map fun i : Nat => (i : Int)) ≤ sizeLine ∧ ∃ P7 : Int → Txt → Prop, (∀ x5 ∈ ((List.range ((lo + r4)).toNat).map fun i : Nat => (i : Int)), ((ls.length ≤ sizeLine ∧ ClD (rollW ((ls.length : Int), ())) fun (r6 : Int) => (ls.length ≤ sizeLine ∧ inR ls.length r6 ∧ P7 x5 (ixS ls r6))))) ∧ ∀ ys8, Each P7 ((List.range ((lo + r4)).toNat).map fun i : Nat => (i : Int)) ys8 → (lenSum ys8 + ys8.length * List.length (tx "") ≤ 16777216 ∧ Q (joinT (tx "") ys8)))) := by
  have hs : ls.length ≤ sizeLine := Nat.le_trans hl2 (by decide)
  refine ClD.roll (by omega) (by omega) fun r hr0 hr1 => ⟨⟨by omega, by omega⟩, ?_, fun _ y => ∃ c ∈ ls, y = [c], fun x hx => ⟨hs, ClD.roll (by omega) (by omega) fun i hi0 hi1 => ⟨hs, ⟨by omega, hi1⟩, ixS_mem hi0 hi1⟩⟩, fun ys hy => ?_⟩
  · rw [List.length_map, List.length_range]
    have : (lo + r).toNat ≤ 1000 := by omega
    exact Nat.le_trans this (by decide)
  · obtain ⟨f1, f2, f3⟩ := flat_one (ls := ls) (hy.all fun x _ y hy => hy)
    have hlen := hy.length
    rw [List.length_map, List.length_range] at hlen
    refine ⟨?_, ?_⟩
    · have : List.length (tx "") = 0 := rfl
      rw [this, f1, hlen]
      omega
    · show Q (joinT [] ys)
      rw [joinT_nil]
      refine q _ f3 ?_ ?_
      · rw [f2, hlen]; omega
      · rw [f2, hlen]; omega
theorem one_keys (ws : List Txt) : ((Dct.mk (dmerge [] (ws.map fun (x : Txt) => (x, (1 : Int))))).kvs.map (·.1)) = uq ws := keys_uq (fun _ => (1 : Int)) ws
theorem unlike_raw {ws : List Txt} {Q : List Txt → Prop} (h : ws.length ≤ 100000) (q : Q (srt (uq ws))) : (ws.length ≤ sizeLine ∧ (∀ x2 ∈ ws, (x2, (1 : Int)) = (x2, (1 : Int))) ∧ Q (srt ((Dct.mk (dmerge [] (ws.map (fun (x2 : Txt) => (x2, (1 : Int)))))).kvs.map (·.1)))) :=
  ⟨sl (by omega), fun _ _ => rfl, by rw [one_keys]; exact q⟩
theorem flat_raw {α : Type} {rows : List (List α)} {Q : List α → Prop} (h : rows.flatten.length ≤ 1000000) (q : Q rows.flatten) : forW rows ([] : List α) (fun x3 z4 nx6 => (z4.length + x3.length ≤ sizeLine ∧ nx6 (z4 ++ x3))) Q := by
  refine forL (fun l z => z = l.flatten) rfl (fun l x r z e hz k hk => ?_) (fun z hz => by subst hz; exact q)
  subst hz
  refine ⟨sl ?_, hk _ (by simp)⟩
  rw [e, List.flatten_append, List.flatten_cons, List.length_append, List.length_append] at h
  omega
section
variable {κ α : Type} [DecidableEq κ]
theorem gval_grp (v : α) (k j : κ) : ∀ m : List (κ × List α), gval (grp m k v) j = if k = j then gval m j ++ [v] else gval m j
  | [] => by
    show (if k = j then [v] else gval [] j) = _
    rfl
  | p :: r => by
    unfold grp
    by_cases e : p.1 = k
    · rw [if_pos e]
      by_cases ej : p.1 = j
      · have : k = j := e.symm.trans ej
        rw [if_pos this]
        show (if p.1 = j then p.2 ++ [v] else gval r j) = (if p.1 = j then p.2 else gval r j) ++ [v]
        rw [if_pos ej, if_pos ej]
      · have : ¬ k = j := fun z => ej (e.trans z)
        rw [if_neg this]
        show (if p.1 = j then p.2 ++ [v] else gval r j) = (if p.1 = j then p.2 else gval r j)
        rw [if_neg ej, if_neg ej]
    · rw [if_neg e]
      show (if p.1 = j then p.2 else gval (grp r k v) j) = _
      rw [gval_grp v k j r]
      by_cases ej : p.1 = j
      · have : ¬ k = j := fun z => e (ej.trans z.symm)
        rw [if_pos ej, if_neg this]
        show p.2 = (if p.1 = j then p.2 else gval r j)
        rw [if_pos ej]
      · rw [if_neg ej]
        show _ = if k = j then (if p.1 = j then p.2 else gval r j) ++ [v] else (if p.1 = j then p.2 else gval r j)
        rw [if_neg ej]
theorem grp_keys (v : α) (k : κ) : ∀ m : List (κ × List α), (grp m k v).map (·.1) = if k ∈ m.map (·.1) then m.map (·.1) else m.map (·.1) ++ [k]
  | [] => by simp [grp]
  | p :: r => by
    unfold grp
    by_cases e : p.1 = k
    · rw [if_pos e, if_pos (by rw [List.map_cons, List.mem_cons]; exact .inl e.symm)]
      rfl
    · rw [if_neg e, List.map_cons, grp_keys v k r, List.map_cons]
      by_cases h : k ∈ r.map (·.1)
      · rw [if_pos h, if_pos (List.mem_cons_of_mem _ h)]
      · rw [if_neg h, if_neg (by rw [List.mem_cons]; rintro (z | z); exact e z.symm; exact h z)]
        rfl
end
structure GrpOf {κ α : Type} [DecidableEq κ] (f : α → κ) (l : List α) (m : List (κ × List α)) : Prop where
  keys : m.map (·.1) = uq (l.map f)
  val : ∀ k, gval m k = l.filter fun x => decide (f x = k)
theorem GrpOf.nil {κ α : Type} [DecidableEq κ] (f : α → κ) : GrpOf f [] [] := ⟨rfl, fun _ => rfl⟩
theorem GrpOf.snoc {κ α : Type} [DecidableEq κ] {f : α → κ} {l : List α} {m : List (κ × List α)} (h : GrpOf f l m) (x : α) : GrpOf f (l ++ [x]) (grp m (f x) x) := by
  refine ⟨?_, fun k => ?_⟩
  · rw [grp_keys, h.keys, List.map_append, List.map_singleton, uq_snoc]
  · rw [gval_grp, h.val, List.filter_append]
    by_cases e : f x = k
    · rw [if_pos e, List.filter_cons_of_pos (by simpa using e), List.filter_nil]
    · rw [if_neg e, List.filter_cons_of_neg (by simpa using e), List.filter_nil, List.append_nil]
end Sp
set_option maxHeartbeats 0
set_option synthInstance.maxSize 2000
namespace K16
open PySem L2 Sp
structure SieveV where
  size : Int
  steps : (Tup Int)
  bits : (Dct Int Bool)
instance : Inhabited SieveV := ⟨⟨default, default, default⟩⟩
instance : Ob SieveV := ⟨"Sieve", fun m => [("size", pu m.size), ("steps", pu m.steps), ("bits", pu m.bits)]⟩
instance : Enc SieveV := obEnc inferInstance
instance : ObOk SieveV := ⟨Iff.rfl⟩
instance : Ow2 SieveV := ⟨fun m a => [("size", pu m.size), ("steps", pu m.steps), ("bits", raw (.ref a))], fun m => dctc m.bits.kvs⟩
structure TalliesV where
  sieve : SieveV
  counts : (Dct Int Int)
instance : Inhabited TalliesV := ⟨⟨default, default⟩⟩
instance : Ob TalliesV := ⟨"Tallies", fun m => [("sieve", pu m.sieve), ("counts", pu m.counts)]⟩
instance : Enc TalliesV := obEnc inferInstance
instance : ObOk TalliesV := ⟨Iff.rfl⟩
instance : Ow2 TalliesV := ⟨fun m a => [("sieve", pu m.sieve), ("counts", raw (.ref a))], fun m => dctc m.counts.kvs⟩
structure TableV where
  size : Int
  step : Int
  rows : (List (Option Txt))
instance : Inhabited TableV := ⟨⟨default, default, default⟩⟩
instance : Ob TableV := ⟨"Table", fun m => [("size", pu m.size), ("step", pu m.step), ("rows", pu m.rows)]⟩
instance : Enc TableV := obEnc inferInstance
instance : ObOk TableV := ⟨Iff.rfl⟩
instance : Ow2 TableV := ⟨fun m a => [("size", pu m.size), ("step", pu m.step), ("rows", raw (.ref a))], fun m => lstc m.rows⟩
def toldT : Ex → Option Txt
  | .BadWord => some (tx "word")
  | .BadRule => some (tx "rule")
  | .BadCount => some (tx "count")
  | .NoSuch => some (tx "no such")
  | .NoWay => some (tx "no way")
  | .TooLarge => some (tx "large")
  | .BadDeed => none
  | .BadText _ => some (tx "text")
  | .BadPaper _ => none
abbrev check_word_w (word1 : Txt) (Q : Unit → Prop) (E : Ex → Prop) : Prop :=
  (word1.length ≤ sizeLine ∧ ((decide ((1 : Int) ≤ (word1.length : Int)) = true → (24 : Int) = (24 : Int)) ∧ (((!(decide ((1 : Int) ≤ (word1.length : Int)) && decide ((word1.length : Int) ≤ (24 : Int)))) = false → ((word1.map fun c => [c]) = (word1.map fun c => [c]) ∧ (∀ x2 ∈ (word1.map fun c => [c]), (!tin x2 (tx "abcdefghijklmnopqrstuvwxyz")) = (!tin x2 (tx "abcdefghijklmnopqrstuvwxyz"))) ∧ ((word1.map fun c => [c]).any (fun (x2 : Txt) => (!tin x2 (tx "abcdefghijklmnopqrstuvwxyz")))) = ((word1.map fun c => [c]).any (fun (x2 : Txt) => (!tin x2 (tx "abcdefghijklmnopqrstuvwxyz")))))) ∧ ((((!(decide ((1 : Int) ≤ (word1.length : Int)) && decide ((word1.length : Int) ≤ (24 : Int)))) || ((word1.map fun c => [c]).any (fun (x2 : Txt) => (!tin x2 (tx "abcdefghijklmnopqrstuvwxyz"))))) = true → E .BadWord) ∧ (((!(decide ((1 : Int) ≤ (word1.length : Int)) && decide ((word1.length : Int) ≤ (24 : Int)))) || ((word1.map fun c => [c]).any (fun (x2 : Txt) => (!tin x2 (tx "abcdefghijklmnopqrstuvwxyz"))))) = false → Q ())))))
abbrev check_word_W (t : Txt × Unit) (Q : Unit → Prop) (E : Ex → Prop) : Prop := check_word_w t.1 Q E
abbrev word_sum_w1 (step2 : Int) (size3 : Int) (x7 : Txt) (nx10 : (Int → Prop)) (found11 : Int) : Prop :=
  (CMul found11 step2 ∧ (tin x7 (tx "abcdefghijklmnopqrstuvwxyz") = true ∧ (0 < size3 ∧ nx10 ((((found11 * step2) + (idxT (tx "abcdefghijklmnopqrstuvwxyz") x7)) + (1 : Int)) % size3))))
abbrev word_sum_w2 (found15 : Int) (Q : Int → Prop) : Prop :=
  Q found15
abbrev word_sum_w3 (word1 : Txt) (step2 : Int) (size3 : Int) (found6 : Int) (Q : Int → Prop) : Prop :=
  (forW (word1.map fun c => [c]) found6 (fun (x7 : Txt) (z8 : Int) (nx10 : Int → Prop) => (word_sum_w1 step2 size3 x7 nx10 z8)) (fun (z13 : Int) => (word_sum_w2 z13 Q)))
abbrev word_sum_w4 (word1 : Txt) (step2 : Int) (size3 : Int) (Q : Int → Prop) (E : Ex → Prop) : Prop :=
  (Cl (check_word_W (word1, ())) (fun (r4 : Unit) => (word_sum_w3 word1 step2 size3 (0 : Int) Q)) E)
abbrev word_sum_w (word1 : Txt) (step2 : Int) (size3 : Int) (Q : Int → Prop) (E : Ex → Prop) : Prop :=
  (((decide (size3 < (1 : Int))) = false → (decide (step2 < (1 : Int))) = (decide (step2 < (1 : Int)))) ∧ ((((decide (size3 < (1 : Int))) || (decide (step2 < (1 : Int)))) = true → E .BadCount) ∧ (((decide (size3 < (1 : Int))) || (decide (step2 < (1 : Int)))) = false → (word_sum_w4 word1 step2 size3 Q E))))
abbrev word_sum_W (t : Txt × Int × Int × Unit) (Q : Int → Prop) (E : Ex → Prop) : Prop := word_sum_w t.1 t.2.1 t.2.2.1 Q E
abbrev Sieve_init_w1 (steps2 : (List Int)) (size3 : Int) (Q : SieveV → Prop) : Prop :=
  Q (SieveV.mk size3 (PySem.W.Tup.mk steps2) (Dct.mk ([] : List (Int × Bool))))
abbrev Sieve_init_w (size1 : Int) (steps2 : (List Int)) (Q : SieveV → Prop) (E : Ex → Prop) : Prop :=
  ((decide ((1 : Int) ≤ size1) = true → (2000 : Int) = (2000 : Int)) ∧ (((!(decide ((1 : Int) ≤ size1) && decide (size1 ≤ (2000 : Int)))) = false → (((decide ((steps2.length : Int) = (0 : Int))) = false → (steps2 ≠ [] ∧ (decide ((minL steps2) < (1 : Int))) = (decide ((minL steps2) < (1 : Int))))) ∧ ((decide ((steps2.length : Int) = (0 : Int))) || (decide ((minL steps2) < (1 : Int)))) = ((decide ((steps2.length : Int) = (0 : Int))) || (decide ((minL steps2) < (1 : Int)))))) ∧ ((((!(decide ((1 : Int) ≤ size1) && decide (size1 ≤ (2000 : Int)))) || ((decide ((steps2.length : Int) = (0 : Int))) || (decide ((minL steps2) < (1 : Int))))) = true → E .BadCount) ∧ (((!(decide ((1 : Int) ≤ size1) && decide (size1 ≤ (2000 : Int)))) || ((decide ((steps2.length : Int) = (0 : Int))) || (decide ((minL steps2) < (1 : Int))))) = false → (Sieve_init_w1 steps2 size1 Q)))))
abbrev Sieve_init_W (t : Int × (List Int) × Unit) (Q : SieveV → Prop) (E : Ex → Prop) : Prop := Sieve_init_w t.1 t.2.1 Q E
abbrev Sieve_initP_w1 (steps2 : (List Int)) (size3 : Int) (Q : SieveV → Prop) : Prop :=
  Q (SieveV.mk size3 (PySem.W.Tup.mk steps2) (Dct.mk ([] : List (Int × Bool))))
abbrev Sieve_initP_w (size1 : Int) (steps2 : (List Int)) (Q : SieveV → Prop) (E : Ex → Prop) : Prop :=
  ((decide ((1 : Int) ≤ size1) = true → (2000 : Int) = (2000 : Int)) ∧ (((!(decide ((1 : Int) ≤ size1) && decide (size1 ≤ (2000 : Int)))) = false → (((decide ((steps2.length : Int) = (0 : Int))) = false → (steps2 ≠ [] ∧ (decide ((minL steps2) < (1 : Int))) = (decide ((minL steps2) < (1 : Int))))) ∧ ((decide ((steps2.length : Int) = (0 : Int))) || (decide ((minL steps2) < (1 : Int)))) = ((decide ((steps2.length : Int) = (0 : Int))) || (decide ((minL steps2) < (1 : Int)))))) ∧ ((((!(decide ((1 : Int) ≤ size1) && decide (size1 ≤ (2000 : Int)))) || ((decide ((steps2.length : Int) = (0 : Int))) || (decide ((minL steps2) < (1 : Int))))) = true → E .BadCount) ∧ (((!(decide ((1 : Int) ≤ size1) && decide (size1 ≤ (2000 : Int)))) || ((decide ((steps2.length : Int) = (0 : Int))) || (decide ((minL steps2) < (1 : Int))))) = false → (Sieve_initP_w1 steps2 size1 Q)))))
abbrev Sieve_initP_W (t : Int × (List Int) × Unit) (Q : SieveV → Prop) (E : Ex → Prop) : Prop := Sieve_initP_w t.1 t.2.1 Q E
abbrev Sieve_init_2_w (size1 : Int) (steps2 : (Tup Int)) (Q : SieveV → Prop) (E : Ex → Prop) : Prop :=
  ((decide ((1 : Int) ≤ size1) = true → (2000 : Int) = (2000 : Int)) ∧ (((!(decide ((1 : Int) ≤ size1) && decide (size1 ≤ (2000 : Int)))) = false → (((decide ((steps2.items.length : Int) = (0 : Int))) = false → (steps2.items ≠ [] ∧ (decide ((minL steps2.items) < (1 : Int))) = (decide ((minL steps2.items) < (1 : Int))))) ∧ ((decide ((steps2.items.length : Int) = (0 : Int))) || (decide ((minL steps2.items) < (1 : Int)))) = ((decide ((steps2.items.length : Int) = (0 : Int))) || (decide ((minL steps2.items) < (1 : Int)))))) ∧ ((((!(decide ((1 : Int) ≤ size1) && decide (size1 ≤ (2000 : Int)))) || ((decide ((steps2.items.length : Int) = (0 : Int))) || (decide ((minL steps2.items) < (1 : Int))))) = true → E .BadCount) ∧ (((!(decide ((1 : Int) ≤ size1) && decide (size1 ≤ (2000 : Int)))) || ((decide ((steps2.items.length : Int) = (0 : Int))) || (decide ((minL steps2.items) < (1 : Int))))) = false → Q (SieveV.mk size1 steps2 (Dct.mk ([] : List (Int × Bool))))))))
abbrev Sieve_init_2_W (t : Int × (Tup Int) × Unit) (Q : SieveV → Prop) (E : Ex → Prop) : Prop := Sieve_init_2_w t.1 t.2.1 Q E
abbrev Sieve_init_2P_w (size1 : Int) (steps2 : (Tup Int)) (Q : SieveV → Prop) (E : Ex → Prop) : Prop :=
  ((decide ((1 : Int) ≤ size1) = true → (2000 : Int) = (2000 : Int)) ∧ (((!(decide ((1 : Int) ≤ size1) && decide (size1 ≤ (2000 : Int)))) = false → (((decide ((steps2.items.length : Int) = (0 : Int))) = false → (steps2.items ≠ [] ∧ (decide ((minL steps2.items) < (1 : Int))) = (decide ((minL steps2.items) < (1 : Int))))) ∧ ((decide ((steps2.items.length : Int) = (0 : Int))) || (decide ((minL steps2.items) < (1 : Int)))) = ((decide ((steps2.items.length : Int) = (0 : Int))) || (decide ((minL steps2.items) < (1 : Int)))))) ∧ ((((!(decide ((1 : Int) ≤ size1) && decide (size1 ≤ (2000 : Int)))) || ((decide ((steps2.items.length : Int) = (0 : Int))) || (decide ((minL steps2.items) < (1 : Int))))) = true → E .BadCount) ∧ (((!(decide ((1 : Int) ≤ size1) && decide (size1 ≤ (2000 : Int)))) || ((decide ((steps2.items.length : Int) = (0 : Int))) || (decide ((minL steps2.items) < (1 : Int))))) = false → Q (SieveV.mk size1 steps2 (Dct.mk ([] : List (Int × Bool))))))))
abbrev Sieve_init_2P_W (t : Int × (Tup Int) × Unit) (Q : SieveV → Prop) (E : Ex → Prop) : Prop := Sieve_init_2P_w t.1 t.2.1 Q E
abbrev Sieve_marks_w1 (self1 : SieveV) (word2 : Txt) (Q : (Tup Int) → Prop) : Prop :=
  (self1.steps.items.length ≤ sizeLine ∧ ∃ h7 : Int → (Int × Int), (∀ x5 ∈ self1.steps.items, (Cl (word_sum_W (word2, x5, self1.size, ())) (fun (r6 : Int) => (r6, (1 : Int)) = h7 x5) NoE)) ∧ Q (PySem.W.Tup.mk (srt ((Dct.mk (dmerge [] (self1.steps.items.map h7))).kvs.map (·.1)))))
abbrev Sieve_marks_w (self1 : SieveV) (word2 : Txt) (Q : (Tup Int) → Prop) (E : Ex → Prop) : Prop :=
  (Cl (check_word_W (word2, ())) (fun (r3 : Unit) => (Sieve_marks_w1 self1 word2 Q)) E)
abbrev Sieve_marks_W (t : SieveV × Txt × Unit) (Q : (Tup Int) → Prop) (E : Ex → Prop) : Prop := Sieve_marks_w t.1 t.2.1 Q E
abbrev Sieve_marksP_w1 (self1 : SieveV) (word2 : Txt) (Q : (Tup Int) → Prop) : Prop :=
  (self1.steps.items.length ≤ sizeLine ∧ ∃ h7 : Int → (Int × Int), (∀ x5 ∈ self1.steps.items, (Cl (word_sum_W (word2, x5, self1.size, ())) (fun (r6 : Int) => (r6, (1 : Int)) = h7 x5) NoE)) ∧ Q (PySem.W.Tup.mk (srt ((Dct.mk (dmerge [] (self1.steps.items.map h7))).kvs.map (·.1)))))
abbrev Sieve_marksP_w (self1 : SieveV) (word2 : Txt) (Q : (Tup Int) → Prop) (E : Ex → Prop) : Prop :=
  (Cl (check_word_W (word2, ())) (fun (r3 : Unit) => (Sieve_marksP_w1 self1 word2 Q)) E)
abbrev Sieve_marksP_W (t : SieveV × Txt × Unit) (Q : (Tup Int) → Prop) (E : Ex → Prop) : Prop := Sieve_marksP_w t.1 t.2.1 Q E
abbrev Sieve_put_W (t : SieveV × Txt × Unit) (Q : Unit → Prop) (E : Ex → Prop) : Prop := Cl (Sieve_marks_W (t.1, t.2.1, ())) (fun (r : Tup Int) => forW r.items () (fun (x : Int) (z : Unit) (nx : Unit → Prop) => False) (fun (z : Unit) => False)) E
abbrev Sieve_putP_w1 (x4 : Int) (nx7 : (SieveV → Prop)) (self8 : SieveV) : Prop :=
  (self8.bits.kvs.length < sizeLine ∧ nx7 (SieveV.mk self8.size self8.steps (Dct.mk (dput self8.bits.kvs x4 true))))
abbrev Sieve_putP_w2 (self12 : SieveV) (Q : Unit × SieveV → Prop) : Prop :=
  Q ((), (SieveV.mk self12.size self12.steps (Dct.mk self12.bits.kvs)))
abbrev Sieve_putP_w (self1 : SieveV) (word2 : Txt) (Q : (Unit × SieveV) → Prop) (E : Ex → Prop) : Prop :=
  (Cl (Sieve_marksP_W ((SieveV.mk self1.size self1.steps (Dct.mk self1.bits.kvs)), word2, ())) (fun (r3 : (Tup Int)) => (forW r3.items (SieveV.mk self1.size self1.steps (Dct.mk self1.bits.kvs)) (fun (x4 : Int) (z5 : SieveV) (nx7 : SieveV → Prop) => (Sieve_putP_w1 x4 nx7 z5)) (fun (z10 : SieveV) => (Sieve_putP_w2 z10 Q)))) E)
abbrev Sieve_putP_W (t : SieveV × Txt × Unit) (Q : (Unit × SieveV) → Prop) (E : Ex → Prop) : Prop := Sieve_putP_w t.1 t.2.1 Q E
abbrev Sieve_may_have_w (self1 : SieveV) (word2 : Txt) (Q : Bool → Prop) (E : Ex → Prop) : Prop :=
  (∃ its5 : List Int, (Cl (Sieve_marks_W (self1, word2, ())) (fun (r3 : (Tup Int)) => r3.items = its5) E) ∧ ∃ h6 : Int → Bool, (∀ x4 ∈ its5, (dhas self1.bits.kvs x4) = h6 x4) ∧ Q (its5.all h6))
abbrev Sieve_may_have_W (t : SieveV × Txt × Unit) (Q : Bool → Prop) (E : Ex → Prop) : Prop := Sieve_may_have_w t.1 t.2.1 Q E
abbrev Sieve_how_full_w (self1 : SieveV) (Q : (Int × Int) → Prop) (E : Ex → Prop) : Prop :=
  Q ((self1.bits.kvs.length : Int), self1.size)
abbrev Sieve_how_full_W (t : SieveV × Unit) (Q : (Int × Int) → Prop) (E : Ex → Prop) : Prop := Sieve_how_full_w t.1 Q E
abbrev Sieve_wrongly_w1 (self1 : SieveV) (words2 : (List Txt)) (unlike5 : (List Txt)) (Q : (Tup Txt) → Prop) : Prop :=
  (unlike5.length ≤ sizeLine ∧ ∃ (c8 : Txt → Bool) (h9 : Txt → Txt), (∀ x6 ∈ unlike5, ((((niL x6 words2)) = true → (Cl (Sieve_may_have_W (self1, x6, ())) (fun (r7 : Bool) => r7 = c8 x6) NoE)) ∧ (((niL x6 words2)) = false → false = c8 x6))) ∧ (∀ x6 ∈ unlike5, c8 x6 = true → x6 = h9 x6) ∧ Q (PySem.W.Tup.mk ((unlike5.filter c8).map h9)))
abbrev Sieve_wrongly_w (self1 : SieveV) (words2 : (List Txt)) (others3 : (List Txt)) (Q : (Tup Txt) → Prop) (E : Ex → Prop) : Prop :=
  (others3.length ≤ sizeLine ∧ (∀ x4 ∈ others3, (x4, (1 : Int)) = (x4, (1 : Int))) ∧ (Sieve_wrongly_w1 self1 words2 (srt ((Dct.mk (dmerge [] (others3.map (fun (x4 : Txt) => (x4, (1 : Int)))))).kvs.map (·.1))) Q))
abbrev Sieve_wrongly_W (t : SieveV × (List Txt) × (List Txt) × Unit) (Q : (Tup Txt) → Prop) (E : Ex → Prop) : Prop := Sieve_wrongly_w t.1 t.2.1 t.2.2.1 Q E
abbrev Sieve_joined_w1 (self1 : SieveV) (other2 : SieveV) (found4 : SieveV) (Q : SieveV → Prop) : Prop :=
  (self1.bits.kvs.length + other2.bits.kvs.length ≤ sizeLine ∧ Q (SieveV.mk found4.size found4.steps (Dct.mk (dmerge [] (self1.bits.kvs ++ other2.bits.kvs)))))
abbrev Sieve_joined_w2 (self1 : SieveV) (other2 : SieveV) (Q : SieveV → Prop) (E : Ex → Prop) : Prop :=
  (Cl (Sieve_init_2_W (self1.size, self1.steps, ())) (fun (r3 : SieveV) => (Sieve_joined_w1 self1 other2 r3 Q)) E)
abbrev Sieve_joined_w (self1 : SieveV) (other2 : SieveV) (Q : SieveV → Prop) (E : Ex → Prop) : Prop :=
  (((decide ((self1.size, self1.steps) ≠ (other2.size, other2.steps))) = true → E .BadCount) ∧ ((decide ((self1.size, self1.steps) ≠ (other2.size, other2.steps))) = false → (Sieve_joined_w2 self1 other2 Q E)))
abbrev Sieve_joined_W (t : SieveV × SieveV × Unit) (Q : SieveV → Prop) (E : Ex → Prop) : Prop := Sieve_joined_w t.1 t.2.1 Q E
abbrev Sieve_folded_w1 (x6 : Int) (nx9 : (SieveV → Prop)) (found10 : SieveV) : Prop :=
  (0 < found10.size ∧ (found10.bits.kvs.length < sizeLine ∧ nx9 (SieveV.mk found10.size found10.steps (Dct.mk (dput found10.bits.kvs (x6 % found10.size) true)))))
abbrev Sieve_folded_w2 (found14 : SieveV) (Q : SieveV → Prop) : Prop :=
  Q (SieveV.mk found14.size found14.steps (Dct.mk found14.bits.kvs))
abbrev Sieve_folded_w3 (self1 : SieveV) (found3 : SieveV) (Q : SieveV → Prop) : Prop :=
  (forW (self1.bits.kvs.map (·.1)) (SieveV.mk found3.size found3.steps (Dct.mk found3.bits.kvs)) (fun (x6 : Int) (z7 : SieveV) (nx9 : SieveV → Prop) => (Sieve_folded_w1 x6 nx9 z7)) (fun (z12 : SieveV) => (Sieve_folded_w2 z12 Q)))
abbrev Sieve_folded_w4 (self1 : SieveV) (Q : SieveV → Prop) (E : Ex → Prop) : Prop :=
  (CDiv self1.size (2 : Int) ∧ (Cl (Sieve_init_2P_W ((self1.size / (2 : Int)), self1.steps, ())) (fun (r2 : SieveV) => (Sieve_folded_w3 self1 r2 Q)) E))
abbrev Sieve_folded_w (self1 : SieveV) (Q : SieveV → Prop) (E : Ex → Prop) : Prop :=
  (0 < (2 : Int) ∧ (((decide ((self1.size % (2 : Int)) = (1 : Int))) = true → E .BadCount) ∧ ((decide ((self1.size % (2 : Int)) = (1 : Int))) = false → (Sieve_folded_w4 self1 Q E))))
abbrev Sieve_folded_W (t : SieveV × Unit) (Q : SieveV → Prop) (E : Ex → Prop) : Prop := Sieve_folded_w t.1 Q E
abbrev Sieve_key_w (self1 : SieveV) (Q : (T3 Int (Tup Int) (Tup Int)) → Prop) (E : Ex → Prop) : Prop :=
  Q (PySem.W.T3.mk self1.size self1.steps (PySem.W.Tup.mk (srt (self1.bits.kvs.map (·.1)))))
abbrev Sieve_key_W (t : SieveV × Unit) (Q : (T3 Int (Tup Int) (Tup Int)) → Prop) (E : Ex → Prop) : Prop := Sieve_key_w t.1 Q E
abbrev sieve_of_w1 (x8 : Txt) (nx11 : (SieveV → Prop)) (found12 : SieveV) (E : Ex → Prop) : Prop :=
  (Cl (Sieve_putP_W ((SieveV.mk found12.size found12.steps (Dct.mk found12.bits.kvs)), x8, ())) (fun (r13 : Unit × SieveV) => nx11 (SieveV.mk r13.2.size r13.2.steps (Dct.mk r13.2.bits.kvs))) E)
abbrev sieve_of_w2 (found17 : SieveV) (Q : SieveV → Prop) : Prop :=
  Q (SieveV.mk found17.size found17.steps (Dct.mk found17.bits.kvs))
abbrev sieve_of_w3 (words1 : (List Txt)) (found5 : SieveV) (Q : SieveV → Prop) (E : Ex → Prop) : Prop :=
  (forW words1 (SieveV.mk found5.size found5.steps (Dct.mk found5.bits.kvs)) (fun (x8 : Txt) (z9 : SieveV) (nx11 : SieveV → Prop) => (sieve_of_w1 x8 nx11 z9 E)) (fun (z15 : SieveV) => (sieve_of_w2 z15 Q)))
abbrev sieve_of_w (words1 : (List Txt)) (size2 : Int) (steps3 : (List Int)) (Q : SieveV → Prop) (E : Ex → Prop) : Prop :=
  (Cl (Sieve_initP_W (size2, steps3, ())) (fun (r4 : SieveV) => (sieve_of_w3 words1 r4 Q E)) E)
abbrev sieve_of_W (t : (List Txt) × Int × (List Int) × Unit) (Q : SieveV → Prop) (E : Ex → Prop) : Prop := sieve_of_w t.1 t.2.1 t.2.2.1 Q E
abbrev Tallies_initP_w (size1 : Int) (steps2 : (List Int)) (Q : TalliesV → Prop) (E : Ex → Prop) : Prop :=
  (Cl (Sieve_init_W (size1, steps2, ())) (fun (r3 : SieveV) => Q (TalliesV.mk r3 (Dct.mk ([] : List (Int × Int))))) E)
abbrev Tallies_initP_W (t : Int × (List Int) × Unit) (Q : TalliesV → Prop) (E : Ex → Prop) : Prop := Tallies_initP_w t.1 t.2.1 Q E
abbrev Tallies_putP_w1 (x4 : Int) (nx7 : (TalliesV → Prop)) (self8 : TalliesV) : Prop :=
  (self8.counts.kvs.length < sizeLine ∧ nx7 (TalliesV.mk self8.sieve (Dct.mk (dput self8.counts.kvs x4 (((dval self8.counts.kvs x4).getD (0 : Int)) + (1 : Int))))))
abbrev Tallies_putP_w2 (self12 : TalliesV) (Q : Unit × TalliesV → Prop) : Prop :=
  Q ((), (TalliesV.mk self12.sieve (Dct.mk self12.counts.kvs)))
abbrev Tallies_putP_w (self1 : TalliesV) (word2 : Txt) (Q : (Unit × TalliesV) → Prop) (E : Ex → Prop) : Prop :=
  (Cl (Sieve_marks_W (self1.sieve, word2, ())) (fun (r3 : (Tup Int)) => (forW r3.items (TalliesV.mk self1.sieve (Dct.mk self1.counts.kvs)) (fun (x4 : Int) (z5 : TalliesV) (nx7 : TalliesV → Prop) => (Tallies_putP_w1 x4 nx7 z5)) (fun (z10 : TalliesV) => (Tallies_putP_w2 z10 Q)))) E)
abbrev Tallies_putP_W (t : TalliesV × Txt × Unit) (Q : (Unit × TalliesV) → Prop) (E : Ex → Prop) : Prop := Tallies_putP_w t.1 t.2.1 Q E
abbrev Tallies_at_mostP_w (self1 : TalliesV) (word2 : Txt) (Q : Int → Prop) (E : Ex → Prop) : Prop :=
  (Cl (Sieve_marks_W (self1.sieve, word2, ())) (fun (r3 : (Tup Int)) => (r3.items.length ≤ sizeLine ∧ (∀ x4 ∈ r3.items, ((dval self1.counts.kvs x4).getD (0 : Int)) = ((dval self1.counts.kvs x4).getD (0 : Int))) ∧ ((r3.items.map (fun (x4 : Int) => ((dval self1.counts.kvs x4).getD (0 : Int)))) ≠ [] ∧ Q (minL (r3.items.map (fun (x4 : Int) => ((dval self1.counts.kvs x4).getD (0 : Int)))))))) E)
abbrev Tallies_at_mostP_W (t : TalliesV × Txt × Unit) (Q : Int → Prop) (E : Ex → Prop) : Prop := Tallies_at_mostP_w t.1 t.2.1 Q E
abbrev Tallies_takeP_w1 (x5 : Int) (nx8 : (TalliesV → Prop)) (self9 : TalliesV) : Prop :=
  (dhas self9.counts.kvs x5 = true ∧ (self9.counts.kvs.length < sizeLine ∧ nx8 (TalliesV.mk self9.sieve (Dct.mk (dput self9.counts.kvs x5 ((dgt self9.counts.kvs x5) - (1 : Int)))))))
abbrev Tallies_takeP_w2 (self13 : TalliesV) (Q : Unit × TalliesV → Prop) : Prop :=
  Q ((), (TalliesV.mk self13.sieve (Dct.mk self13.counts.kvs)))
abbrev Tallies_takeP_w3 (self1 : TalliesV) (word2 : Txt) (Q : Unit × TalliesV → Prop) (E : Ex → Prop) : Prop :=
  (Cl (Sieve_marks_W (self1.sieve, word2, ())) (fun (r4 : (Tup Int)) => (forW r4.items (TalliesV.mk self1.sieve (Dct.mk self1.counts.kvs)) (fun (x5 : Int) (z6 : TalliesV) (nx8 : TalliesV → Prop) => (Tallies_takeP_w1 x5 nx8 z6)) (fun (z11 : TalliesV) => (Tallies_takeP_w2 z11 Q)))) E)
abbrev Tallies_takeP_w (self1 : TalliesV) (word2 : Txt) (Q : (Unit × TalliesV) → Prop) (E : Ex → Prop) : Prop :=
  (Cl (Tallies_at_mostP_W ((TalliesV.mk self1.sieve (Dct.mk self1.counts.kvs)), word2, ())) (fun (r3 : Int) => (((decide (r3 = (0 : Int))) = true → E .BadCount) ∧ ((decide (r3 = (0 : Int))) = false → (Tallies_takeP_w3 self1 word2 Q E)))) E)
abbrev Tallies_takeP_W (t : TalliesV × Txt × Unit) (Q : (Unit × TalliesV) → Prop) (E : Ex → Prop) : Prop := Tallies_takeP_w t.1 t.2.1 Q E
abbrev Tallies_sum_toldP_w (self1 : TalliesV) (Q : Int → Prop) (E : Ex → Prop) : Prop :=
  Q (self1.counts.kvs.map (fun q => q.2)).sum
abbrev Tallies_sum_toldP_W (t : TalliesV × Unit) (Q : Int → Prop) (E : Ex → Prop) : Prop := Tallies_sum_toldP_w t.1 Q E
abbrev Table_init_w1 (size1 : Int) (size3 : Int) (step4 : Int) (Q : TableV → Prop) : Prop :=
  ((-(2 ^ 63) ≤ size1 ∧ size1 < 2 ^ 63 ∧ [(none : (Option Txt))].length * (size1).toNat ≤ sizeLine) ∧ Q (TableV.mk size3 step4 (List.replicate (size1).toNat [(none : (Option Txt))]).flatten))
abbrev Table_init_w (size1 : Int) (step2 : Int) (Q : TableV → Prop) (E : Ex → Prop) : Prop :=
  ((decide ((1 : Int) ≤ size1) = true → (500 : Int) = (500 : Int)) ∧ (((!(decide ((1 : Int) ≤ size1) && decide (size1 ≤ (500 : Int)))) = false → (decide (step2 < (1 : Int))) = (decide (step2 < (1 : Int)))) ∧ ((((!(decide ((1 : Int) ≤ size1) && decide (size1 ≤ (500 : Int)))) || (decide (step2 < (1 : Int)))) = true → E .BadCount) ∧ (((!(decide ((1 : Int) ≤ size1) && decide (size1 ≤ (500 : Int)))) || (decide (step2 < (1 : Int)))) = false → (Table_init_w1 size1 size1 step2 Q)))))
abbrev Table_init_W (t : Int × Int × Unit) (Q : TableV → Prop) (E : Ex → Prop) : Prop := Table_init_w t.1 t.2.1 Q E
abbrev Table_initP_w1 (size1 : Int) (size3 : Int) (step4 : Int) (Q : TableV → Prop) : Prop :=
  ((-(2 ^ 63) ≤ size1 ∧ size1 < 2 ^ 63 ∧ [(none : (Option Txt))].length * (size1).toNat ≤ sizeLine) ∧ Q (TableV.mk size3 step4 (List.replicate (size1).toNat [(none : (Option Txt))]).flatten))
abbrev Table_initP_w (size1 : Int) (step2 : Int) (Q : TableV → Prop) (E : Ex → Prop) : Prop :=
  ((decide ((1 : Int) ≤ size1) = true → (500 : Int) = (500 : Int)) ∧ (((!(decide ((1 : Int) ≤ size1) && decide (size1 ≤ (500 : Int)))) = false → (decide (step2 < (1 : Int))) = (decide (step2 < (1 : Int)))) ∧ ((((!(decide ((1 : Int) ≤ size1) && decide (size1 ≤ (500 : Int)))) || (decide (step2 < (1 : Int)))) = true → E .BadCount) ∧ (((!(decide ((1 : Int) ≤ size1) && decide (size1 ≤ (500 : Int)))) || (decide (step2 < (1 : Int)))) = false → (Table_initP_w1 size1 size1 step2 Q)))))
abbrev Table_initP_W (t : Int × Int × Unit) (Q : TableV → Prop) (E : Ex → Prop) : Prop := Table_initP_w t.1 t.2.1 Q E
abbrev Table_placeP_w1 (self1 : TableV) (word2 : Txt) (nx10 : (Unit → Prop)) (here11 : Int) (Q : Int → Prop) : Prop :=
  (inR (self1.rows.length) here11 ∧ (((ixD self1.rows here11).isNone = false → (inR (self1.rows.length) here11 ∧ (decide ((ixD self1.rows here11) = (some word2))) = (decide ((ixD self1.rows here11) = (some word2))))) ∧ ((((ixD self1.rows here11).isNone || (decide ((ixD self1.rows here11) = (some word2)))) = true → Q here11) ∧ (((ixD self1.rows here11).isNone || (decide ((ixD self1.rows here11) = (some word2)))) = false → nx10 ()))))
abbrev Table_placeP_w2 (self1 : TableV) (word2 : Txt) (first6 : Int) (x7 : Int) (nx10 : (Unit → Prop)) (Q : Int → Prop) : Prop :=
  (0 < self1.size ∧ (Table_placeP_w1 self1 word2 nx10 ((first6 + x7) % self1.size) Q))
abbrev Table_placeP_w3 (E : Ex → Prop) : Prop :=
  E .BadCount
abbrev Table_placeP_w4 (self1 : TableV) (word2 : Txt) (first6 : Int) (Q : Int → Prop) (E : Ex → Prop) : Prop :=
  ((-(2 ^ 62) ≤ self1.size ∧ self1.size < 2 ^ 62) ∧ (forW ((List.range (self1.size).toNat).map fun i : Nat => (i : Int)) () (fun (x7 : Int) (z8 : Unit) (nx10 : Unit → Prop) => (Table_placeP_w2 self1 word2 first6 x7 nx10 Q)) (fun (z13 : Unit) => (Table_placeP_w3 E))))
abbrev Table_placeP_w5 (self1 : TableV) (word2 : Txt) (Q : Int → Prop) (E : Ex → Prop) : Prop :=
  (Cl (word_sum_W (word2, self1.step, self1.size, ())) (fun (r5 : Int) => (Table_placeP_w4 self1 word2 r5 Q E)) NoE)
abbrev Table_placeP_w (self1 : TableV) (word2 : Txt) (Q : Int → Prop) (E : Ex → Prop) : Prop :=
  (Cl (check_word_W (word2, ())) (fun (r3 : Unit) => (Table_placeP_w5 self1 word2 Q E)) NoE)
abbrev Table_placeP_W (t : TableV × Txt × Unit) (Q : Int → Prop) (E : Ex → Prop) : Prop := Table_placeP_w t.1 t.2.1 Q E
abbrev Table_putP_w1 (self1 : TableV) (word2 : Txt) (here4 : Int) (fresh5 : Bool) (Q : Bool × TableV → Prop) : Prop :=
  (inR self1.rows.length here4 ∧ Q (fresh5, (TableV.mk self1.size self1.step (List.set self1.rows (plc self1.rows.length here4) (some word2)))))
abbrev Table_putP_w2 (self1 : TableV) (word2 : Txt) (here4 : Int) (Q : Bool × TableV → Prop) : Prop :=
  (inR (self1.rows.length) here4 ∧ (Table_putP_w1 self1 word2 here4 (ixD self1.rows here4).isNone Q))
abbrev Table_putP_w (self1 : TableV) (word2 : Txt) (Q : (Bool × TableV) → Prop) (E : Ex → Prop) : Prop :=
  (Cl (Table_placeP_W ((TableV.mk self1.size self1.step self1.rows), word2, ())) (fun (r3 : Int) => (Table_putP_w2 self1 word2 r3 Q)) E)
abbrev Table_putP_W (t : TableV × Txt × Unit) (Q : (Bool × TableV) → Prop) (E : Ex → Prop) : Prop := Table_putP_w t.1 t.2.1 Q E
abbrev Table_hasP_w1 (self1 : TableV) (word2 : Txt) (Q : Bool → Prop) : Prop :=
  (Cl (Table_placeP_W ((TableV.mk self1.size self1.step self1.rows), word2, ())) (fun (r4 : Int) => (inR (self1.rows.length) r4 ∧ Q (decide ((ixD self1.rows r4) = (some word2))))) (fun e9 => e9 = .BadCount ∧ Q false))
abbrev Table_hasP_w (self1 : TableV) (word2 : Txt) (Q : Bool → Prop) (E : Ex → Prop) : Prop :=
  (Table_hasP_w1 self1 word2 Q)
abbrev Table_hasP_W (t : TableV × Txt × Unit) (Q : Bool → Prop) (E : Ex → Prop) : Prop := Table_hasP_w t.1 t.2.1 Q E
abbrev Table_takeP_w1 (nx10 : (TableV × Int → Prop)) (here12 : Int) (self17 : TableV) : Prop :=
  (0 < self17.size ∧ nx10 ((TableV.mk self17.size self17.step self17.rows), ((here12 + (1 : Int)) % self17.size)))
abbrev Table_takeP_w2 (nx10 : (TableV × Int → Prop)) (self11 : TableV) (here12 : Int) (moved14 : (Option Txt)) (rows15 : (List (Option Txt))) : Prop :=
  (moved14.isSome = true ∧ (Cl (Table_putP_W ((TableV.mk self11.size self11.step rows15), (optG moved14), ())) (fun (r16 : Bool × TableV) => (Table_takeP_w1 nx10 here12 r16.2)) NoE))
abbrev Table_takeP_w3 (nx10 : (TableV × Int → Prop)) (self11 : TableV) (here12 : Int) (moved14 : (Option Txt)) : Prop :=
  (inR self11.rows.length here12 ∧ (Table_takeP_w2 nx10 self11 here12 moved14 (List.set self11.rows (plc self11.rows.length here12) (none : (Option Txt)))))
abbrev Table_takeP_w4 (nx10 : (TableV × Int → Prop)) (self11 : TableV) (here12 : Int) : Prop :=
  (inR (self11.rows.length) here12 ∧ (Table_takeP_w3 nx10 self11 here12 (ixD self11.rows here12)))
abbrev Table_takeP_w5 (self21 : TableV) (Q : Unit × TableV → Prop) : Prop :=
  Q ((), (TableV.mk self21.size self21.step self21.rows))
abbrev Table_takeP_w6 (self1 : TableV) (rows6 : (List (Option Txt))) (here7 : Int) (Q : Unit × TableV → Prop) : Prop :=
  (whileW ((TableV.mk self1.size self1.step rows6), here7) (fun (z8 : TableV × Int) (k13 : Bool → Prop) => (inR (z8.1.rows.length) z8.2 ∧ k13 (ixD z8.1.rows z8.2).isSome)) (fun (z8 : TableV × Int) (nx10 : TableV × Int → Prop) => (Table_takeP_w4 nx10 z8.1 z8.2)) (fun (z19 : TableV × Int) => (Table_takeP_w5 z19.1 Q)))
abbrev Table_takeP_w7 (self1 : TableV) (here5 : Int) (rows6 : (List (Option Txt))) (Q : Unit × TableV → Prop) : Prop :=
  (0 < self1.size ∧ (Table_takeP_w6 self1 rows6 ((here5 + (1 : Int)) % self1.size) Q))
abbrev Table_takeP_w8 (self1 : TableV) (here5 : Int) (Q : Unit × TableV → Prop) : Prop :=
  (inR self1.rows.length here5 ∧ (Table_takeP_w7 self1 here5 (List.set self1.rows (plc self1.rows.length here5) (none : (Option Txt))) Q))
abbrev Table_takeP_w9 (self1 : TableV) (word2 : (Option Txt)) (Q : Unit × TableV → Prop) (E : Ex → Prop) : Prop :=
  (word2.isSome = true ∧ (Cl (Table_placeP_W ((TableV.mk self1.size self1.step self1.rows), (optG word2), ())) (fun (r4 : Int) => (Table_takeP_w8 self1 r4 Q)) E))
abbrev Table_takeP_w (self1 : TableV) (word2 : (Option Txt)) (Q : (Unit × TableV) → Prop) (E : Ex → Prop) : Prop :=
  (word2.isSome = true ∧ (Cl (Table_hasP_W ((TableV.mk self1.size self1.step self1.rows), (optG word2), ())) (fun (r3 : Bool) => (((!r3) = true → E .BadCount) ∧ ((!r3) = false → (Table_takeP_w9 self1 word2 Q E)))) E))
abbrev Table_takeP_W (t : TableV × (Option Txt) × Unit) (Q : (Unit × TableV) → Prop) (E : Ex → Prop) : Prop := Table_takeP_w t.1 t.2.1 Q E
abbrev Table_looksP_w1 (self1 : TableV) (word2 : Txt) (Q : Int → Prop) (E : Ex → Prop) : Prop :=
  (Cl (Table_placeP_W ((TableV.mk self1.size self1.step self1.rows), word2, ())) (fun (r4 : Int) => (Cl (word_sum_W (word2, self1.step, self1.size, ())) (fun (r5 : Int) => (0 < self1.size ∧ Q (((r4 - r5) % self1.size) + (1 : Int)))) E)) E)
abbrev Table_looksP_w (self1 : TableV) (word2 : Txt) (Q : Int → Prop) (E : Ex → Prop) : Prop :=
  (Cl (Table_hasP_W ((TableV.mk self1.size self1.step self1.rows), word2, ())) (fun (r3 : Bool) => (((!r3) = true → E .BadCount) ∧ ((!r3) = false → (Table_looksP_w1 self1 word2 Q E)))) E)
abbrev Table_looksP_W (t : TableV × Txt × Unit) (Q : Int → Prop) (E : Ex → Prop) : Prop := Table_looksP_w t.1 t.2.1 Q E
abbrev best_step_w1 (steps3 : (List Int)) (counts11 : (List Int)) (Q : (Int × Int) → Prop) : Prop :=
  (counts11 ≠ [] ∧ ((minL counts11) ∈ counts11 ∧ (inR (steps3.length) (idx counts11 (minL counts11) : Int) ∧ (counts11 ≠ [] ∧ Q ((ixD steps3 (idx counts11 (minL counts11) : Int)), (minL counts11))))))
abbrev best_step_w2 (size2 : Int) (steps3 : (List Int)) (unlike5 : (List Txt)) (Q : (Int × Int) → Prop) : Prop :=
  (steps3.length ≤ sizeLine ∧ ∃ h10 : Int → Int, (∀ x6 ∈ steps3, (unlike5.length ≤ sizeLine ∧ ∃ h9 : Txt → (Int × Int), (∀ x7 ∈ unlike5, (Cl (word_sum_W (x7, x6, size2, ())) (fun (r8 : Int) => (r8, (1 : Int)) = h9 x7) NoE)) ∧ ((unlike5.length : Int) - (List.length (Dct.mk (dmerge [] (unlike5.map h9))).kvs : Int)) = h10 x6)) ∧ (best_step_w1 steps3 (steps3.map h10) Q))
abbrev best_step_w3 (words1 : (List Txt)) (size2 : Int) (steps3 : (List Int)) (Q : (Int × Int) → Prop) : Prop :=
  (words1.length ≤ sizeLine ∧ (∀ x4 ∈ words1, (x4, (1 : Int)) = (x4, (1 : Int))) ∧ (best_step_w2 size2 steps3 (srt ((Dct.mk (dmerge [] (words1.map (fun (x4 : Txt) => (x4, (1 : Int)))))).kvs.map (·.1))) Q))
abbrev best_step_w (words1 : (List Txt)) (size2 : Int) (steps3 : (List Int)) (Q : (Int × Int) → Prop) (E : Ex → Prop) : Prop :=
  (((decide ((steps3.length : Int) = (0 : Int))) = true → E .BadCount) ∧ ((decide ((steps3.length : Int) = (0 : Int))) = false → (best_step_w3 words1 size2 steps3 Q)))
abbrev best_step_W (t : (List Txt) × Int × (List Int) × Unit) (Q : (Int × Int) → Prop) (E : Ex → Prop) : Prop := best_step_w t.1 t.2.1 t.2.2.1 Q E
abbrev law_flat_w1 (x3 : (List Int)) (nx6 : ((List Int) → Prop)) (found7 : (List Int)) : Prop :=
  (found7.length + x3.length ≤ sizeLine ∧ nx6 (found7 ++ x3))
abbrev law_flat_w2 (found11 : (List Int)) (Q : (List Int) → Prop) : Prop :=
  Q found11
abbrev law_flat_w3 (rows1 : (List (List Int))) (found2 : (List Int)) (Q : (List Int) → Prop) : Prop :=
  (forW rows1 found2 (fun (x3 : (List Int)) (z4 : (List Int)) (nx6 : (List Int) → Prop) => (law_flat_w1 x3 nx6 z4)) (fun (z9 : (List Int)) => (law_flat_w2 z9 Q)))
abbrev law_flat_w (rows1 : (List (List Int))) (Q : (List Int) → Prop) (E : Ex → Prop) : Prop :=
  (law_flat_w3 rows1 ([] : List Int) Q)
abbrev law_flat_W (t : (List (List Int)) × Unit) (Q : (List Int) → Prop) (E : Ex → Prop) : Prop := law_flat_w t.1 Q E
abbrev law_word_w (letters1 : Txt) (least2 : Int) (most3 : Int) (Q : Txt → Prop) (E : Ex → Prop) : Prop :=
  (ClD (rollW (((most3 - least2) + (1 : Int)), ())) fun (r4 : Int) => ((-(2 ^ 62) ≤ (least2 + r4) ∧ (least2 + r4) < 2 ^ 62) ∧ (List.length ((List.range ((least2 + r4)).toNat).map fun i : Nat => (i : Int)) ≤ sizeLine ∧ ∃ P7 : Int → Txt → Prop, (∀ x5 ∈ ((List.range ((least2 + r4)).toNat).map fun i : Nat => (i : Int)), ((letters1.length ≤ sizeLine ∧ ClD (rollW ((letters1.length : Int), ())) fun (r6 : Int) => (letters1.length ≤ sizeLine ∧ inR letters1.length r6 ∧ P7 x5 (ixS letters1 r6))))) ∧ ∀ ys8, Each P7 ((List.range ((least2 + r4)).toNat).map fun i : Nat => (i : Int)) ys8 → (lenSum ys8 + ys8.length * List.length (tx "") ≤ 16777216 ∧ Q (joinT (tx "") ys8)))))
abbrev law_word_W (t : Txt × Int × Int × Unit) (Q : Txt → Prop) (E : Ex → Prop) : Prop := law_word_w t.1 t.2.1 t.2.2.1 Q E
abbrev law_unlike_w (words1 : (List Int)) (Q : (List Int) → Prop) (E : Ex → Prop) : Prop :=
  (words1.length ≤ sizeLine ∧ (∀ x2 ∈ words1, (x2, (1 : Int)) = (x2, (1 : Int))) ∧ Q (srt ((Dct.mk (dmerge [] (words1.map (fun (x2 : Int) => (x2, (1 : Int)))))).kvs.map (·.1))))
abbrev law_unlike_W (t : (List Int) × Unit) (Q : (List Int) → Prop) (E : Ex → Prop) : Prop := law_unlike_w t.1 Q E
abbrev law_unlike_2_w (words1 : (List Txt)) (Q : (List Txt) → Prop) (E : Ex → Prop) : Prop :=
  (words1.length ≤ sizeLine ∧ (∀ x2 ∈ words1, (x2, (1 : Int)) = (x2, (1 : Int))) ∧ Q (srt ((Dct.mk (dmerge [] (words1.map (fun (x2 : Txt) => (x2, (1 : Int)))))).kvs.map (·.1))))
abbrev law_unlike_2_W (t : (List Txt) × Unit) (Q : (List Txt) → Prop) (E : Ex → Prop) : Prop := law_unlike_2_w t.1 Q E
abbrev law_sum_w1 (step2 : Int) (size3 : Int) (x5 : Txt) (nx8 : (Int → Prop)) (found9 : Int) : Prop :=
  (CMul found9 step2 ∧ (tin x5 (tx "abcdefghijklmnopqrstuvwxyz") = true ∧ (0 < size3 ∧ nx8 ((((found9 * step2) + (idxT (tx "abcdefghijklmnopqrstuvwxyz") x5)) + (1 : Int)) % size3))))
abbrev law_sum_w2 (found13 : Int) (Q : Int → Prop) : Prop :=
  Q found13
abbrev law_sum_w3 (word1 : Txt) (step2 : Int) (size3 : Int) (found4 : Int) (Q : Int → Prop) : Prop :=
  (forW (word1.map fun c => [c]) found4 (fun (x5 : Txt) (z6 : Int) (nx8 : Int → Prop) => (law_sum_w1 step2 size3 x5 nx8 z6)) (fun (z11 : Int) => (law_sum_w2 z11 Q)))
abbrev law_sum_w (word1 : Txt) (step2 : Int) (size3 : Int) (Q : Int → Prop) (E : Ex → Prop) : Prop :=
  (law_sum_w3 word1 step2 size3 (0 : Int) Q)
abbrev law_sum_W (t : Txt × Int × Int × Unit) (Q : Int → Prop) (E : Ex → Prop) : Prop := law_sum_w t.1 t.2.1 t.2.2.1 Q E
abbrev law_cases1_w1 (Q : Bool → Prop) : Prop :=
  (Cl (word_sum_W ((tx "a"), (0 : Int), (5 : Int), ())) (fun (r10 : Int) => (((decide ((Sum.inl r10 : (Int ⊕ Txt)) ≠ (Sum.inr (tx "count") : (Int ⊕ Txt)))) = true → Q false) ∧ ((decide ((Sum.inl r10 : (Int ⊕ Txt)) ≠ (Sum.inr (tx "count") : (Int ⊕ Txt)))) = false → Q true))) (fun e => ∃ t11, toldT e = some t11 ∧ (((decide ((Sum.inr t11 : (Int ⊕ Txt)) ≠ (Sum.inr (tx "count") : (Int ⊕ Txt)))) = true → Q false) ∧ ((decide ((Sum.inr t11 : (Int ⊕ Txt)) ≠ (Sum.inr (tx "count") : (Int ⊕ Txt)))) = false → Q true))))
abbrev law_cases1_w2 (Q : Bool → Prop) : Prop :=
  (Cl (Table_init_W ((0 : Int), (1 : Int), ())) (fun (r7 : TableV) => (((!isT (Sum.inl r7 : (TableV ⊕ Txt)) (tx "count")) = true → Q false) ∧ ((!isT (Sum.inl r7 : (TableV ⊕ Txt)) (tx "count")) = false → (law_cases1_w1 Q)))) (fun e => ∃ t8, toldT e = some t8 ∧ (((!isT (Sum.inr t8 : (TableV ⊕ Txt)) (tx "count")) = true → Q false) ∧ ((!isT (Sum.inr t8 : (TableV ⊕ Txt)) (tx "count")) = false → (law_cases1_w1 Q)))))
abbrev law_cases1_w3 (Q : Bool → Prop) : Prop :=
  (Cl (Sieve_init_W ((5 : Int), ([] : List Int), ())) (fun (r4 : SieveV) => (((!isT (Sum.inl r4 : (SieveV ⊕ Txt)) (tx "count")) = true → Q false) ∧ ((!isT (Sum.inl r4 : (SieveV ⊕ Txt)) (tx "count")) = false → (law_cases1_w2 Q)))) (fun e => ∃ t5, toldT e = some t5 ∧ (((!isT (Sum.inr t5 : (SieveV ⊕ Txt)) (tx "count")) = true → Q false) ∧ ((!isT (Sum.inr t5 : (SieveV ⊕ Txt)) (tx "count")) = false → (law_cases1_w2 Q)))))
abbrev law_cases1_w  (Q : Bool → Prop) (E : Ex → Prop) : Prop :=
  (Cl (Sieve_init_W ((0 : Int), [(1 : Int)], ())) (fun (r1 : SieveV) => (((!isT (Sum.inl r1 : (SieveV ⊕ Txt)) (tx "count")) = true → Q false) ∧ ((!isT (Sum.inl r1 : (SieveV ⊕ Txt)) (tx "count")) = false → (law_cases1_w3 Q)))) (fun e => ∃ t2, toldT e = some t2 ∧ (((!isT (Sum.inr t2 : (SieveV ⊕ Txt)) (tx "count")) = true → Q false) ∧ ((!isT (Sum.inr t2 : (SieveV ⊕ Txt)) (tx "count")) = false → (law_cases1_w3 Q)))))
abbrev law_cases1_W (t : Unit) (Q : Bool → Prop) (E : Ex → Prop) : Prop := law_cases1_w  Q E
abbrev law_rest2_w1 (sieve4 : SieveV) (Q : Bool → Prop) : Prop :=
  (Cl (Sieve_put_W (sieve4, (tx "A"), ())) (fun (r29 : Unit) => (((decide ((Sum.inl r29 : (Unit ⊕ Txt)) ≠ (Sum.inr (tx "word") : (Unit ⊕ Txt)))) = true → Q false) ∧ ((decide ((Sum.inl r29 : (Unit ⊕ Txt)) ≠ (Sum.inr (tx "word") : (Unit ⊕ Txt)))) = false → Q true))) (fun e => ∃ t30, toldT e = some t30 ∧ (((decide ((Sum.inr t30 : (Unit ⊕ Txt)) ≠ (Sum.inr (tx "word") : (Unit ⊕ Txt)))) = true → Q false) ∧ ((decide ((Sum.inr t30 : (Unit ⊕ Txt)) ≠ (Sum.inr (tx "word") : (Unit ⊕ Txt)))) = false → Q true))))
abbrev law_rest2_w2 (words3 : (List Txt)) (sieve4 : SieveV) (Q : Bool → Prop) : Prop :=
  (Cl (best_step_W (words3, (5 : Int), ([] : List Int), ())) (fun (r26 : (Int × Int)) => (((decide ((Sum.inl r26 : ((Int × Int) ⊕ Txt)) ≠ (Sum.inr (tx "count") : ((Int × Int) ⊕ Txt)))) = true → Q false) ∧ ((decide ((Sum.inl r26 : ((Int × Int) ⊕ Txt)) ≠ (Sum.inr (tx "count") : ((Int × Int) ⊕ Txt)))) = false → (law_rest2_w1 sieve4 Q)))) (fun e => ∃ t27, toldT e = some t27 ∧ (((decide ((Sum.inr t27 : ((Int × Int) ⊕ Txt)) ≠ (Sum.inr (tx "count") : ((Int × Int) ⊕ Txt)))) = true → Q false) ∧ ((decide ((Sum.inr t27 : ((Int × Int) ⊕ Txt)) ≠ (Sum.inr (tx "count") : ((Int × Int) ⊕ Txt)))) = false → (law_rest2_w1 sieve4 Q)))))
abbrev law_rest2_w3 (size1 : Int) (steps2 : (List Int)) (words3 : (List Txt)) (sieve4 : SieveV) (Q : Bool → Prop) : Prop :=
  (Cl (Sieve_init_W ((size1 + (2 : Int)), steps2, ())) (fun (r23 : SieveV) => (Cl (Sieve_joined_W (sieve4, r23, ())) (fun (r22 : SieveV) => (((!isT (Sum.inl r22 : (SieveV ⊕ Txt)) (tx "count")) = true → Q false) ∧ ((!isT (Sum.inl r22 : (SieveV ⊕ Txt)) (tx "count")) = false → (law_rest2_w2 words3 sieve4 Q)))) (fun e => ∃ t24, toldT e = some t24 ∧ (((!isT (Sum.inr t24 : (SieveV ⊕ Txt)) (tx "count")) = true → Q false) ∧ ((!isT (Sum.inr t24 : (SieveV ⊕ Txt)) (tx "count")) = false → (law_rest2_w2 words3 sieve4 Q)))))) (fun e => ∃ t24, toldT e = some t24 ∧ (((!isT (Sum.inr t24 : (SieveV ⊕ Txt)) (tx "count")) = true → Q false) ∧ ((!isT (Sum.inr t24 : (SieveV ⊕ Txt)) (tx "count")) = false → (law_rest2_w2 words3 sieve4 Q)))))
abbrev law_rest2_w4 (size1 : Int) (steps2 : (List Int)) (words3 : (List Txt)) (sieve4 : SieveV) (Q : Bool → Prop) : Prop :=
  (Cl (Sieve_init_W ((5 : Int), [(1 : Int)], ())) (fun (r18 : SieveV) => (Cl (Sieve_folded_W (r18, ())) (fun (r19 : SieveV) => (((!isT (Sum.inl r19 : (SieveV ⊕ Txt)) (tx "count")) = true → Q false) ∧ ((!isT (Sum.inl r19 : (SieveV ⊕ Txt)) (tx "count")) = false → (law_rest2_w3 size1 steps2 words3 sieve4 Q)))) (fun e => ∃ t20, toldT e = some t20 ∧ (((!isT (Sum.inr t20 : (SieveV ⊕ Txt)) (tx "count")) = true → Q false) ∧ ((!isT (Sum.inr t20 : (SieveV ⊕ Txt)) (tx "count")) = false → (law_rest2_w3 size1 steps2 words3 sieve4 Q)))))) (fun e => ∃ t20, toldT e = some t20 ∧ (((!isT (Sum.inr t20 : (SieveV ⊕ Txt)) (tx "count")) = true → Q false) ∧ ((!isT (Sum.inr t20 : (SieveV ⊕ Txt)) (tx "count")) = false → (law_rest2_w3 size1 steps2 words3 sieve4 Q)))))
abbrev law_rest2_w5 (size1 : Int) (steps2 : (List Int)) (words3 : (List Txt)) (sieve4 : SieveV) (Q : Bool → Prop) (E : Ex → Prop) : Prop :=
  (Cl (law_cases1_W ()) (fun (r16 : Bool) => (((!r16) = true → Q false) ∧ ((!r16) = false → (law_rest2_w4 size1 steps2 words3 sieve4 Q)))) E)
abbrev law_rest2_w6 (size1 : Int) (steps2 : (List Int)) (words3 : (List Txt)) (sieve4 : SieveV) (meets13 : (List Int)) (Q : Bool → Prop) (E : Ex → Prop) : Prop :=
  (Cl (best_step_W (words3, size1, steps2, ())) (fun (r14 : (Int × Int)) => (meets13 ≠ [] ∧ ((minL meets13) ∈ meets13 ∧ (inR (steps2.length) (idx meets13 (minL meets13) : Int) ∧ (meets13 ≠ [] ∧ (((decide (r14 ≠ ((ixD steps2 (idx meets13 (minL meets13) : Int)), (minL meets13)))) = true → Q false) ∧ ((decide (r14 ≠ ((ixD steps2 (idx meets13 (minL meets13) : Int)), (minL meets13)))) = false → (law_rest2_w5 size1 steps2 words3 sieve4 Q E)))))))) E)
abbrev law_rest2_w7 (size1 : Int) (steps2 : (List Int)) (words3 : (List Txt)) (sieve4 : SieveV) (unlike6 : (List Txt)) (Q : Bool → Prop) (E : Ex → Prop) : Prop :=
  (steps2.length ≤ sizeLine ∧ ∃ h12 : Int → Int, (∀ x7 ∈ steps2, (unlike6.length ≤ sizeLine ∧ ∃ h10 : Txt → Int, (∀ x8 ∈ unlike6, (Cl (law_sum_W (x8, x7, size1, ())) (fun (r9 : Int) => r9 = h10 x8) NoE)) ∧ (Cl (law_unlike_W ((unlike6.map h10), ())) (fun (r11 : (List Int)) => ((unlike6.length : Int) - (r11.length : Int)) = h12 x7) NoE))) ∧ (law_rest2_w6 size1 steps2 words3 sieve4 (steps2.map h12) Q E))
abbrev law_rest2_w (size1 : Int) (steps2 : (List Int)) (words3 : (List Txt)) (sieve4 : SieveV) (Q : Bool → Prop) (E : Ex → Prop) : Prop :=
  (Cl (law_unlike_2_W (words3, ())) (fun (r5 : (List Txt)) => (law_rest2_w7 size1 steps2 words3 sieve4 r5 Q E)) E)
abbrev law_rest2_W (t : Int × (List Int) × (List Txt) × SieveV × Unit) (Q : Bool → Prop) (E : Ex → Prop) : Prop := law_rest2_w t.1 t.2.1 t.2.2.1 t.2.2.2.1 Q E
abbrev law_rest1_w1 (x14 : Txt) (rows19 : (List (Option Txt))) (free25 : (List Int)) (nx33 : ((List (Option Txt)) → Prop)) : Prop :=
  (inR (free25.length) (0 : Int) ∧ (inR rows19.length (ixD free25 (0 : Int)) ∧ nx33 (rows19.set (plc rows19.length (ixD free25 (0 : Int))) (some x14))))
abbrev law_rest1_w2 (nx17 : (TableV × (List (Option Txt)) → Prop)) (shelfy29 : TableV) (rows35 : (List (Option Txt))) : Prop :=
  nx17 ((TableV.mk shelfy29.size shelfy29.step shelfy29.rows), rows35)
abbrev law_rest1_w3 (x14 : Txt) (nx17 : (TableV × (List (Option Txt)) → Prop)) (rows19 : (List (Option Txt))) (free25 : (List Int)) (shelfy29 : TableV) : Prop :=
  (ifJ (decide (free25 ≠ ([] : List Int))) (fun (nx33 : (List (Option Txt)) → Prop) => (law_rest1_w1 x14 rows19 free25 nx33)) (fun (nx33 : (List (Option Txt)) → Prop) => nx33 rows19) (fun (z31 : (List (Option Txt))) => (law_rest1_w2 nx17 shelfy29 z31)))
abbrev law_rest1_w4 (x14 : Txt) (nx17 : (TableV × (List (Option Txt)) → Prop)) (rows19 : (List (Option Txt))) (free25 : (List Int)) (told28 : (Bool ⊕ Txt)) (shelfy29 : TableV) (Q : Bool → Prop) : Prop :=
  (((decide (free25 = ([] : List Int))) = true → (Sum.inr (tx "count") : (Bool ⊕ Txt)) = (Sum.inr (tx "count") : (Bool ⊕ Txt))) ∧ ((decide (free25 = ([] : List Int))) = false → (inR (free25.length) (0 : Int) ∧ (inR (rows19.length) (ixD free25 (0 : Int)) ∧ (Sum.inl (ixD rows19 (ixD free25 (0 : Int))).isNone : (Bool ⊕ Txt)) = (Sum.inl (ixD rows19 (ixD free25 (0 : Int))).isNone : (Bool ⊕ Txt))))) ∧ (((decide (told28 ≠ (if (decide (free25 = ([] : List Int))) = true then (Sum.inr (tx "count") : (Bool ⊕ Txt)) else (Sum.inl (ixD rows19 (ixD free25 (0 : Int))).isNone : (Bool ⊕ Txt))))) = true → Q false) ∧ ((decide (told28 ≠ (if (decide (free25 = ([] : List Int))) = true then (Sum.inr (tx "count") : (Bool ⊕ Txt)) else (Sum.inl (ixD rows19 (ixD free25 (0 : Int))).isNone : (Bool ⊕ Txt))))) = false → (law_rest1_w3 x14 nx17 rows19 free25 shelfy29))))
abbrev law_rest1_w5 (x14 : Txt) (nx17 : (TableV × (List (Option Txt)) → Prop)) (shelfy18 : TableV) (rows19 : (List (Option Txt))) (free25 : (List Int)) (Q : Bool → Prop) : Prop :=
  (Cl (Table_putP_W ((TableV.mk shelfy18.size shelfy18.step shelfy18.rows), x14, ())) (fun (r26 : Bool × TableV) => (law_rest1_w4 x14 nx17 rows19 free25 (Sum.inl r26.1 : (Bool ⊕ Txt)) r26.2 Q)) (fun e => ∃ t27, toldT e = some t27 ∧ (law_rest1_w4 x14 nx17 rows19 free25 (Sum.inr t27 : (Bool ⊕ Txt)) (TableV.mk shelfy18.size shelfy18.step shelfy18.rows) Q)))
abbrev law_rest1_w6 (x14 : Txt) (nx17 : (TableV × (List (Option Txt)) → Prop)) (shelfy18 : TableV) (rows19 : (List (Option Txt))) (spots23 : (List Int)) (Q : Bool → Prop) : Prop :=
  (spots23.length ≤ sizeLine ∧ (∀ x24 ∈ spots23, (inR (rows19.length) x24 ∧ ((inL (ixD rows19 x24) [(none : (Option Txt)), (some x14)])) = ((inL (ixD rows19 x24) [(none : (Option Txt)), (some x14)])))) ∧ (∀ x24 ∈ spots23, ((inL (ixD rows19 x24) [(none : (Option Txt)), (some x14)])) = true → x24 = x24) ∧ (law_rest1_w5 x14 nx17 shelfy18 rows19 ((spots23.filter (fun (x24 : Int) => ((inL (ixD rows19 x24) [(none : (Option Txt)), (some x14)])))).map (fun (x24 : Int) => x24)) Q))
abbrev law_rest1_w7 (room7 : Int) (x14 : Txt) (nx17 : (TableV × (List (Option Txt)) → Prop)) (shelfy18 : TableV) (rows19 : (List (Option Txt))) (first21 : Int) (Q : Bool → Prop) : Prop :=
  ((-(2 ^ 62) ≤ room7 ∧ room7 < 2 ^ 62) ∧ (List.length ((List.range (room7).toNat).map fun i : Nat => (i : Int)) ≤ sizeLine ∧ (∀ x22 ∈ ((List.range (room7).toNat).map fun i : Nat => (i : Int)), (0 < room7 ∧ ((first21 + x22) % room7) = ((first21 + x22) % room7))) ∧ (law_rest1_w6 x14 nx17 shelfy18 rows19 (((List.range (room7).toNat).map fun i : Nat => (i : Int)).map (fun (x22 : Int) => ((first21 + x22) % room7))) Q)))
abbrev law_rest1_w8 (steps2 : (List Int)) (room7 : Int) (x14 : Txt) (nx17 : (TableV × (List (Option Txt)) → Prop)) (shelfy18 : TableV) (rows19 : (List (Option Txt))) (Q : Bool → Prop) : Prop :=
  (inR (steps2.length) (0 : Int) ∧ (Cl (law_sum_W (x14, (ixD steps2 (0 : Int)), room7, ())) (fun (r20 : Int) => (law_rest1_w7 room7 x14 nx17 shelfy18 rows19 r20 Q)) NoE))
abbrev law_rest1_w9 (steps2 : (List Int)) (room7 : Int) (shelfy38 : TableV) (rows39 : (List (Option Txt))) (inside42 : (List (Option Txt))) (x44 : Txt) (nx47 : (Unit → Prop)) (Q : Bool → Prop) : Prop :=
  ((((inL (some x44) inside42)) = true → (Cl (Table_looksP_W ((TableV.mk shelfy38.size shelfy38.step shelfy38.rows), x44, ())) (fun (r50 : Int) => ((some x44) ∈ rows39 ∧ (inR (steps2.length) (0 : Int) ∧ (Cl (law_sum_W (x44, (ixD steps2 (0 : Int)), room7, ())) (fun (r51 : Int) => (0 < room7 ∧ (((decide (r50 ≠ ((((idx rows39 (some x44) : Int) - r51) % room7) + (1 : Int)))) = true → Q false) ∧ ((decide (r50 ≠ ((((idx rows39 (some x44) : Int) - r51) % room7) + (1 : Int)))) = false → nx47 ())))) NoE)))) NoE)) ∧ (((inL (some x44) inside42)) = false → ((false = true → Q false) ∧ (false = false → nx47 ()))))
abbrev law_rest1_w10 (steps2 : (List Int)) (room7 : Int) (shelfy38 : TableV) (rows39 : (List (Option Txt))) (inside42 : (List (Option Txt))) (x44 : Txt) (nx47 : (Unit → Prop)) (Q : Bool → Prop) : Prop :=
  (Cl (Table_hasP_W ((TableV.mk shelfy38.size shelfy38.step shelfy38.rows), x44, ())) (fun (r48 : Bool) => (((decide (r48 ≠ ((inL (some x44) inside42)))) = true → Q false) ∧ ((decide (r48 ≠ ((inL (some x44) inside42)))) = false → (law_rest1_w9 steps2 room7 shelfy38 rows39 inside42 x44 nx47 Q)))) NoE)
abbrev law_rest1_w11 (inside42 : (List (Option Txt))) (nx57 : (TableV → Prop)) (gone59 : (Option Txt)) (shelfy61 : TableV) (Q : Bool → Prop) : Prop :=
  (gone59.isSome = true ∧ (Cl (Table_hasP_W ((TableV.mk shelfy61.size shelfy61.step shelfy61.rows), (optG gone59), ())) (fun (r62 : Bool) => ((r62 = true → ((true = true → Q false) ∧ (true = false → nx57 (TableV.mk (TableV.mk shelfy61.size shelfy61.step shelfy61.rows).size (TableV.mk shelfy61.size shelfy61.step shelfy61.rows).step (TableV.mk shelfy61.size shelfy61.step shelfy61.rows).rows)))) ∧ (r62 = false → (inside42.length ≤ sizeLine ∧ ∃ (c65 : (Option Txt) → Bool) (h66 : (Option Txt) → (Option Txt)), (∀ x63 ∈ inside42, (((decide (x63 ≠ gone59)) = true → (x63.isSome = true ∧ (Cl (Table_hasP_W ((TableV.mk shelfy61.size shelfy61.step shelfy61.rows), (optG x63), ())) (fun (r64 : Bool) => (!r64) = c65 x63) NoE))) ∧ ((decide (x63 ≠ gone59)) = false → false = c65 x63))) ∧ (∀ x63 ∈ inside42, c65 x63 = true → x63 = h66 x63) ∧ (((decide (((inside42.filter c65).map h66) ≠ ([] : List (Option Txt)))) = true → ((true = true → Q false) ∧ (true = false → nx57 (TableV.mk (TableV.mk shelfy61.size shelfy61.step shelfy61.rows).size (TableV.mk shelfy61.size shelfy61.step shelfy61.rows).step (TableV.mk shelfy61.size shelfy61.step shelfy61.rows).rows)))) ∧ ((decide (((inside42.filter c65).map h66) ≠ ([] : List (Option Txt)))) = false → (Cl (Table_takeP_W ((TableV.mk shelfy61.size shelfy61.step shelfy61.rows), gone59, ())) (fun (r67 : Unit × TableV) => (((decide ((Sum.inl r67.1 : (Unit ⊕ Txt)) ≠ (Sum.inr (tx "count") : (Unit ⊕ Txt)))) = true → Q false) ∧ ((decide ((Sum.inl r67.1 : (Unit ⊕ Txt)) ≠ (Sum.inr (tx "count") : (Unit ⊕ Txt)))) = false → nx57 (TableV.mk r67.2.size r67.2.step r67.2.rows)))) (fun e => ∃ t68, toldT e = some t68 ∧ (((decide ((Sum.inr t68 : (Unit ⊕ Txt)) ≠ (Sum.inr (tx "count") : (Unit ⊕ Txt)))) = true → Q false) ∧ ((decide ((Sum.inr t68 : (Unit ⊕ Txt)) ≠ (Sum.inr (tx "count") : (Unit ⊕ Txt)))) = false → nx57 (TableV.mk (TableV.mk shelfy61.size shelfy61.step shelfy61.rows).size (TableV.mk shelfy61.size shelfy61.step shelfy61.rows).step (TableV.mk shelfy61.size shelfy61.step shelfy61.rows).rows))))))))))) NoE))
abbrev law_rest1_w12 (shelfy38 : TableV) (inside42 : (List (Option Txt))) (nx57 : (TableV → Prop)) (gone59 : (Option Txt)) (Q : Bool → Prop) : Prop :=
  (Cl (Table_takeP_W ((TableV.mk shelfy38.size shelfy38.step shelfy38.rows), gone59, ())) (fun (r60 : Unit × TableV) => (law_rest1_w11 inside42 nx57 gone59 r60.2 Q)) NoE)
abbrev law_rest1_w13 (shelfy38 : TableV) (inside42 : (List (Option Txt))) (nx57 : (TableV → Prop)) (Q : Bool → Prop) : Prop :=
  (ClD (rollW ((inside42.length : Int), ())) fun (r58 : Int) => (inR (inside42.length) r58 ∧ (law_rest1_w12 shelfy38 inside42 nx57 (ixD inside42 r58) Q)))
abbrev law_rest1_w14 (size1 : Int) (steps2 : (List Int)) (words3 : (List Txt)) (sieve5 : SieveV) (Q : Bool → Prop) : Prop :=
  (Cl (law_rest2_W (size1, steps2, words3, sieve5, ())) (fun (r73 : Bool) => Q r73) NoE)
abbrev law_rest1_w15 (size1 : Int) (steps2 : (List Int)) (words3 : (List Txt)) (sieve5 : SieveV) (room7 : Int) (shelfy71 : TableV) (Q : Bool → Prop) : Prop :=
  (((decide ((shelfy71.rows.length : Int) ≠ room7)) = true → Q false) ∧ ((decide ((shelfy71.rows.length : Int) ≠ room7)) = false → (law_rest1_w14 size1 steps2 words3 sieve5 Q)))
abbrev law_rest1_w16 (size1 : Int) (steps2 : (List Int)) (words3 : (List Txt)) (sieve5 : SieveV) (room7 : Int) (shelfy38 : TableV) (inside42 : (List (Option Txt))) (Q : Bool → Prop) : Prop :=
  (ifJ (decide (inside42 ≠ ([] : List (Option Txt)))) (fun (nx57 : TableV → Prop) => (law_rest1_w13 shelfy38 inside42 nx57 Q)) (fun (nx57 : TableV → Prop) => nx57 (TableV.mk shelfy38.size shelfy38.step shelfy38.rows)) (fun (z55 : TableV) => (law_rest1_w15 size1 steps2 words3 sieve5 room7 z55 Q)))
abbrev law_rest1_w17 (size1 : Int) (steps2 : (List Int)) (words3 : (List Txt)) (others4 : (List Txt)) (sieve5 : SieveV) (room7 : Int) (shelfy38 : TableV) (rows39 : (List (Option Txt))) (inside42 : (List (Option Txt))) (Q : Bool → Prop) : Prop :=
  (words3.length + others4.length ≤ sizeLine ∧ (Cl (law_unlike_2_W ((words3 ++ others4), ())) (fun (r43 : (List Txt)) => (forW r43 () (fun (x44 : Txt) (z45 : Unit) (nx47 : Unit → Prop) => (law_rest1_w10 steps2 room7 shelfy38 rows39 inside42 x44 nx47 Q)) (fun (z53 : Unit) => (law_rest1_w16 size1 steps2 words3 sieve5 room7 shelfy38 inside42 Q)))) NoE))
abbrev law_rest1_w18 (size1 : Int) (steps2 : (List Int)) (words3 : (List Txt)) (others4 : (List Txt)) (sieve5 : SieveV) (room7 : Int) (shelfy38 : TableV) (rows39 : (List (Option Txt))) (Q : Bool → Prop) : Prop :=
  (rows39.length ≤ sizeLine ∧ (∀ x41 ∈ rows39, x41.isSome = x41.isSome) ∧ (∀ x41 ∈ rows39, x41.isSome = true → x41 = x41) ∧ (law_rest1_w17 size1 steps2 words3 others4 sieve5 room7 shelfy38 rows39 ((rows39.filter (fun (x41 : (Option Txt)) => x41.isSome)).map (fun (x41 : (Option Txt)) => x41)) Q))
abbrev law_rest1_w19 (size1 : Int) (steps2 : (List Int)) (words3 : (List Txt)) (others4 : (List Txt)) (sieve5 : SieveV) (room7 : Int) (shelfy38 : TableV) (rows39 : (List (Option Txt))) (Q : Bool → Prop) : Prop :=
  (((decide (shelfy38.rows ≠ rows39)) = true → Q false) ∧ ((decide (shelfy38.rows ≠ rows39)) = false → (law_rest1_w18 size1 steps2 words3 others4 sieve5 room7 shelfy38 rows39 Q)))
abbrev law_rest1_w20 (size1 : Int) (steps2 : (List Int)) (words3 : (List Txt)) (others4 : (List Txt)) (sieve5 : SieveV) (room7 : Int) (shelfy9 : TableV) (rows10 : (List (Option Txt))) (Q : Bool → Prop) : Prop :=
  (forW words3 ((TableV.mk shelfy9.size shelfy9.step shelfy9.rows), rows10) (fun (x14 : Txt) (z15 : TableV × (List (Option Txt))) (nx17 : TableV × (List (Option Txt)) → Prop) => (law_rest1_w8 steps2 room7 x14 nx17 z15.1 z15.2 Q)) (fun (z36 : TableV × (List (Option Txt))) => (law_rest1_w19 size1 steps2 words3 others4 sieve5 room7 z36.1 z36.2 Q)))
abbrev law_rest1_w21 (size1 : Int) (steps2 : (List Int)) (words3 : (List Txt)) (others4 : (List Txt)) (sieve5 : SieveV) (room7 : Int) (Q : Bool → Prop) : Prop :=
  (inR (steps2.length) (0 : Int) ∧ (Cl (Table_initP_W (room7, (ixD steps2 (0 : Int)), ())) (fun (r8 : TableV) => ((-(2 ^ 63) ≤ room7 ∧ room7 < 2 ^ 63 ∧ [(none : (Option Txt))].length * (room7).toNat ≤ sizeLine) ∧ (law_rest1_w20 size1 steps2 words3 others4 sieve5 room7 r8 (List.replicate (room7).toNat [(none : (Option Txt))]).flatten Q))) NoE))
abbrev law_rest1_w (size1 : Int) (steps2 : (List Int)) (words3 : (List Txt)) (others4 : (List Txt)) (sieve5 : SieveV) (Q : Bool → Prop) (E : Ex → Prop) : Prop :=
  (ClD (rollW ((12 : Int), ())) fun (r6 : Int) => (law_rest1_w21 size1 steps2 words3 others4 sieve5 ((1 : Int) + r6) Q))
abbrev law_rest1_W (t : Int × (List Int) × (List Txt) × (List Txt) × SieveV × Unit) (Q : Bool → Prop) (E : Ex → Prop) : Prop := law_rest1_w t.1 t.2.1 t.2.2.1 t.2.2.2.1 t.2.2.2.2.1 Q E
abbrev law_rest3_w1 (nx25 : (TalliesV × (List Txt) → Prop)) (tallies27 : TalliesV) (there28 : (List Txt)) : Prop :=
  nx25 ((TalliesV.mk tallies27.sieve (Dct.mk tallies27.counts.kvs)), there28)
abbrev law_rest3_w2 (there18 : (List Txt)) (v21 : Txt) (nx25 : (TalliesV × (List Txt) → Prop)) (tallies27 : TalliesV) : Prop :=
  (law_rest3_w1 nx25 tallies27 (cutD (there18 ++ [v21]) (some (1 : Int)) none))
abbrev law_rest3_w3 (there18 : (List Txt)) (tallies20 : TalliesV) (v21 : Txt) (nx25 : (TalliesV × (List Txt) → Prop)) : Prop :=
  (inR (List.length (there18 ++ [v21])) (0 : Int) ∧ (Cl (Tallies_takeP_W ((TalliesV.mk tallies20.sieve (Dct.mk tallies20.counts.kvs)), (ixD (there18 ++ [v21]) (0 : Int)), ())) (fun (r26 : Unit × TalliesV) => (law_rest3_w2 there18 v21 nx25 r26.2)) NoE))
abbrev law_rest3_w4 (there18 : (List Txt)) (tallies20 : TalliesV) (v21 : Txt) (nx25 : (TalliesV × (List Txt) → Prop)) : Prop :=
  nx25 ((TalliesV.mk tallies20.sieve (Dct.mk tallies20.counts.kvs)), (there18 ++ [v21]))
abbrev law_rest3_w5 (nx16 : (TalliesV × (List Txt) → Prop)) (tallies30 : TalliesV) (there31 : (List Txt)) : Prop :=
  nx16 ((TalliesV.mk tallies30.sieve (Dct.mk tallies30.counts.kvs)), there31)
abbrev law_rest3_w6 (nx16 : (TalliesV × (List Txt) → Prop)) (there18 : (List Txt)) (tallies20 : TalliesV) (v21 : Txt) : Prop :=
  (ClD (rollW ((3 : Int), ())) fun (r22 : Int) => (ifJ (decide (r22 = (0 : Int))) (fun (nx25 : TalliesV × (List Txt) → Prop) => (law_rest3_w3 there18 tallies20 v21 nx25)) (fun (nx25 : TalliesV × (List Txt) → Prop) => (law_rest3_w4 there18 tallies20 v21 nx25)) (fun (z23 : TalliesV × (List Txt)) => (law_rest3_w5 nx16 z23.1 z23.2))))
abbrev law_rest3_w7 (x13 : Txt) (nx16 : (TalliesV × (List Txt) → Prop)) (there18 : (List Txt)) (tallies20 : TalliesV) : Prop :=
  (there18.length < sizeLine ∧ (law_rest3_w6 nx16 there18 tallies20 x13))
abbrev law_rest3_w8 (x13 : Txt) (nx16 : (TalliesV × (List Txt) → Prop)) (tallies17 : TalliesV) (there18 : (List Txt)) : Prop :=
  (Cl (Tallies_putP_W ((TalliesV.mk tallies17.sieve (Dct.mk tallies17.counts.kvs)), x13, ())) (fun (r19 : Unit × TalliesV) => (law_rest3_w7 x13 nx16 there18 r19.2)) NoE)
abbrev law_rest3_w9 (x41 : Txt) (nx44 : (TalliesV → Prop)) (tallies45 : TalliesV) (least47 : Int) (Q : Bool → Prop) : Prop :=
  (((decide (least47 = (0 : Int))) = false → ((false = true → Q false) ∧ (false = false → nx44 (TalliesV.mk (TalliesV.mk tallies45.sieve (Dct.mk tallies45.counts.kvs)).sieve (Dct.mk (TalliesV.mk tallies45.sieve (Dct.mk tallies45.counts.kvs)).counts.kvs))))) ∧ ((decide (least47 = (0 : Int))) = true → (Cl (Tallies_takeP_W ((TalliesV.mk tallies45.sieve (Dct.mk tallies45.counts.kvs)), x41, ())) (fun (r50 : Unit × TalliesV) => (((decide ((Sum.inl r50.1 : (Unit ⊕ Txt)) ≠ (Sum.inr (tx "count") : (Unit ⊕ Txt)))) = true → Q false) ∧ ((decide ((Sum.inl r50.1 : (Unit ⊕ Txt)) ≠ (Sum.inr (tx "count") : (Unit ⊕ Txt)))) = false → nx44 (TalliesV.mk r50.2.sieve (Dct.mk r50.2.counts.kvs))))) (fun e => ∃ t51, toldT e = some t51 ∧ (((decide ((Sum.inr t51 : (Unit ⊕ Txt)) ≠ (Sum.inr (tx "count") : (Unit ⊕ Txt)))) = true → Q false) ∧ ((decide ((Sum.inr t51 : (Unit ⊕ Txt)) ≠ (Sum.inr (tx "count") : (Unit ⊕ Txt)))) = false → nx44 (TalliesV.mk (TalliesV.mk tallies45.sieve (Dct.mk tallies45.counts.kvs)).sieve (Dct.mk (TalliesV.mk tallies45.sieve (Dct.mk tallies45.counts.kvs)).counts.kvs))))))))
abbrev law_rest3_w10 (there35 : (List Txt)) (x41 : Txt) (nx44 : (TalliesV → Prop)) (tallies45 : TalliesV) (least47 : Int) (Q : Bool → Prop) : Prop :=
  (Cl (Tallies_at_mostP_W ((TalliesV.mk tallies45.sieve (Dct.mk tallies45.counts.kvs)), x41, ())) (fun (r48 : Int) => (((decide (r48 ≠ least47)) = false → (decide (least47 < (cnt there35 x41 : Int))) = (decide (least47 < (cnt there35 x41 : Int)))) ∧ ((((decide (r48 ≠ least47)) || (decide (least47 < (cnt there35 x41 : Int)))) = true → Q false) ∧ (((decide (r48 ≠ least47)) || (decide (least47 < (cnt there35 x41 : Int)))) = false → (law_rest3_w9 x41 nx44 tallies45 least47 Q))))) NoE)
abbrev law_rest3_w11 (marks5 : (Dct Txt (List Int))) (there35 : (List Txt)) (flat38 : (List Int)) (x41 : Txt) (nx44 : (TalliesV → Prop)) (tallies45 : TalliesV) (Q : Bool → Prop) : Prop :=
  (dhas marks5.kvs x41 = true ∧ (List.length (dgt marks5.kvs x41) ≤ sizeLine ∧ (∀ x46 ∈ (dgt marks5.kvs x41), (cnt flat38 x46 : Int) = (cnt flat38 x46 : Int)) ∧ (((dgt marks5.kvs x41).map (fun (x46 : Int) => (cnt flat38 x46 : Int))) ≠ [] ∧ (law_rest3_w10 there35 x41 nx44 tallies45 (minL ((dgt marks5.kvs x41).map (fun (x46 : Int) => (cnt flat38 x46 : Int)))) Q))))
abbrev law_rest3_w12 (size1 : Int) (steps2 : (List Int)) (words3 : (List Txt)) (others4 : (List Txt)) (sieve6 : SieveV) (Q : Bool → Prop) : Prop :=
  (ClD (law_rest1_W (size1, steps2, words3, others4, sieve6, ())) fun (r57 : Bool) => (((!r57) = true → Q false) ∧ ((!r57) = false → Q true)))
abbrev law_rest3_w13 (size1 : Int) (steps2 : (List Int)) (words3 : (List Txt)) (others4 : (List Txt)) (marks5 : (Dct Txt (List Int))) (sieve6 : SieveV) (tallies34 : TalliesV) (there35 : (List Txt)) (flat38 : (List Int)) (Q : Bool → Prop) : Prop :=
  (others4.length + words3.length ≤ sizeLine ∧ (forW (others4 ++ words3) (TalliesV.mk tallies34.sieve (Dct.mk tallies34.counts.kvs)) (fun (x41 : Txt) (z42 : TalliesV) (nx44 : TalliesV → Prop) => (law_rest3_w11 marks5 there35 flat38 x41 nx44 z42 Q)) (fun (z54 : TalliesV) => (law_rest3_w12 size1 steps2 words3 others4 sieve6 Q))))
abbrev law_rest3_w14 (size1 : Int) (steps2 : (List Int)) (words3 : (List Txt)) (others4 : (List Txt)) (marks5 : (Dct Txt (List Int))) (sieve6 : SieveV) (tallies34 : TalliesV) (there35 : (List Txt)) (flat38 : (List Int)) (Q : Bool → Prop) : Prop :=
  (Cl (Tallies_sum_toldP_W ((TalliesV.mk tallies34.sieve (Dct.mk tallies34.counts.kvs)), ())) (fun (r39 : Int) => (((decide (r39 ≠ (flat38.length : Int))) = true → Q false) ∧ ((decide (r39 ≠ (flat38.length : Int))) = false → (law_rest3_w13 size1 steps2 words3 others4 marks5 sieve6 tallies34 there35 flat38 Q)))) NoE)
abbrev law_rest3_w15 (size1 : Int) (steps2 : (List Int)) (words3 : (List Txt)) (others4 : (List Txt)) (marks5 : (Dct Txt (List Int))) (sieve6 : SieveV) (tallies34 : TalliesV) (there35 : (List Txt)) (Q : Bool → Prop) : Prop :=
  (there35.length ≤ sizeLine ∧ (∀ x36 ∈ there35, (dhas marks5.kvs x36 = true ∧ (dgt marks5.kvs x36) = (dgt marks5.kvs x36))) ∧ (Cl (law_flat_W ((there35.map (fun (x36 : Txt) => (dgt marks5.kvs x36))), ())) (fun (r37 : (List Int)) => (law_rest3_w14 size1 steps2 words3 others4 marks5 sieve6 tallies34 there35 r37 Q)) NoE))
abbrev law_rest3_w16 (size1 : Int) (steps2 : (List Int)) (words3 : (List Txt)) (others4 : (List Txt)) (marks5 : (Dct Txt (List Int))) (sieve6 : SieveV) (tallies8 : TalliesV) (there9 : (List Txt)) (Q : Bool → Prop) : Prop :=
  (forW words3 ((TalliesV.mk tallies8.sieve (Dct.mk tallies8.counts.kvs)), there9) (fun (x13 : Txt) (z14 : TalliesV × (List Txt)) (nx16 : TalliesV × (List Txt) → Prop) => (law_rest3_w8 x13 nx16 z14.1 z14.2)) (fun (z32 : TalliesV × (List Txt)) => (law_rest3_w15 size1 steps2 words3 others4 marks5 sieve6 z32.1 z32.2 Q)))
abbrev law_rest3_w (size1 : Int) (steps2 : (List Int)) (words3 : (List Txt)) (others4 : (List Txt)) (marks5 : (Dct Txt (List Int))) (sieve6 : SieveV) (Q : Bool → Prop) (E : Ex → Prop) : Prop :=
  (Cl (Tallies_initP_W (size1, steps2, ())) (fun (r7 : TalliesV) => (law_rest3_w16 size1 steps2 words3 others4 marks5 sieve6 r7 ([] : List Txt) Q)) NoE)
abbrev law_rest3_W (t : Int × (List Int) × (List Txt) × (List Txt) × (Dct Txt (List Int)) × SieveV × Unit) (Q : Bool → Prop) (E : Ex → Prop) : Prop := law_rest3_w t.1 t.2.1 t.2.2.1 t.2.2.2.1 t.2.2.2.2.1 t.2.2.2.2.2.1 Q E
abbrev law_w1 (u9 : (Int × (List Int))) (u19 : ((List Txt) × (List Txt))) (marks26 : (Dct Txt (List Int))) (sieve28 : SieveV) (Q : Bool → Prop) : Prop :=
  (ClD (law_rest3_W (u9.1, u9.2, u19.1, u19.2, marks26, sieve28, ())) fun (r76 : Bool) => (((!r76) = true → Q false) ∧ ((!r76) = false → Q true)))
abbrev law_w2 (u9 : (Int × (List Int))) (u19 : ((List Txt) × (List Txt))) (marks26 : (Dct Txt (List Int))) (sieve28 : SieveV) (half66 : SieveV) (Q : Bool → Prop) : Prop :=
  (u19.1.length ≤ sizeLine ∧ ∃ (c73 : Txt → Bool) (h74 : Txt → Txt), (∀ x71 ∈ u19.1, (Cl (Sieve_may_have_W (half66, x71, ())) (fun (r72 : Bool) => (!r72) = c73 x71) NoE)) ∧ (∀ x71 ∈ u19.1, c73 x71 = true → x71 = h74 x71) ∧ (((decide (((u19.1.filter c73).map h74) ≠ ([] : List Txt))) = true → Q false) ∧ ((decide (((u19.1.filter c73).map h74) ≠ ([] : List Txt))) = false → (law_w1 u9 u19 marks26 sieve28 Q))))
abbrev law_w3 (u9 : (Int × (List Int))) (u19 : ((List Txt) × (List Txt))) (marks26 : (Dct Txt (List Int))) (sieve28 : SieveV) (bits39 : (List Int)) (half66 : SieveV) (Q : Bool → Prop) (E : Ex → Prop) : Prop :=
  (Cl (Sieve_key_W (half66, ())) (fun (r67 : (T3 Int (Tup Int) (Tup Int))) => (CDiv u9.1 (2 : Int) ∧ (bits39.length ≤ sizeLine ∧ (∀ x68 ∈ bits39, (CDiv u9.1 (2 : Int) ∧ (0 < (u9.1 / (2 : Int)) ∧ (x68 % (u9.1 / (2 : Int))) = (x68 % (u9.1 / (2 : Int)))))) ∧ (Cl (law_unlike_W ((bits39.map (fun (x68 : Int) => (x68 % (u9.1 / (2 : Int))))), ())) (fun (r69 : (List Int)) => (((decide (r67 ≠ (PySem.W.T3.mk (u9.1 / (2 : Int)) (PySem.W.Tup.mk u9.2) (PySem.W.Tup.mk r69)))) = true → Q false) ∧ ((decide (r67 ≠ (PySem.W.T3.mk (u9.1 / (2 : Int)) (PySem.W.Tup.mk u9.2) (PySem.W.Tup.mk r69)))) = false → (law_w2 u9 u19 marks26 sieve28 half66 Q)))) E)))) E)
abbrev law_w4 (u9 : (Int × (List Int))) (u19 : ((List Txt) × (List Txt))) (marks26 : (Dct Txt (List Int))) (sieve28 : SieveV) (bits39 : (List Int)) (Q : Bool → Prop) (E : Ex → Prop) : Prop :=
  (Cl (Sieve_folded_W (sieve28, ())) (fun (r65 : SieveV) => (law_w3 u9 u19 marks26 sieve28 bits39 r65 Q E)) E)
abbrev law_w5 (u9 : (Int × (List Int))) (u19 : ((List Txt) × (List Txt))) (marks26 : (Dct Txt (List Int))) (sieve28 : SieveV) (bits39 : (List Int)) (both60 : SieveV) (Q : Bool → Prop) (E : Ex → Prop) : Prop :=
  (Cl (Sieve_key_W (both60, ())) (fun (r61 : (T3 Int (Tup Int) (Tup Int))) => (u19.1.length + u19.2.length ≤ sizeLine ∧ (Cl (sieve_of_W ((u19.1 ++ u19.2), u9.1, u9.2, ())) (fun (r62 : SieveV) => (Cl (Sieve_key_W (r62, ())) (fun (r63 : (T3 Int (Tup Int) (Tup Int))) => (((decide (r61 ≠ r63)) = true → Q false) ∧ ((decide (r61 ≠ r63)) = false → (law_w4 u9 u19 marks26 sieve28 bits39 Q E)))) E)) E))) E)
abbrev law_w6 (u9 : (Int × (List Int))) (u19 : ((List Txt) × (List Txt))) (marks26 : (Dct Txt (List Int))) (sieve28 : SieveV) (bits39 : (List Int)) (Q : Bool → Prop) (E : Ex → Prop) : Prop :=
  (Cl (sieve_of_W (u19.2, u9.1, u9.2, ())) (fun (r59 : SieveV) => (Cl (Sieve_joined_W (sieve28, r59, ())) (fun (r58 : SieveV) => (law_w5 u9 u19 marks26 sieve28 bits39 r58 Q E)) E)) E)
abbrev law_w7 (u9 : (Int × (List Int))) (u19 : ((List Txt) × (List Txt))) (marks26 : (Dct Txt (List Int))) (sieve28 : SieveV) (bits39 : (List Int)) (seem48 : (Dct Txt Bool)) (Q : Bool → Prop) (E : Ex → Prop) : Prop :=
  (Cl (Sieve_wrongly_W (sieve28, u19.1, u19.2, ())) (fun (r54 : (Tup Txt)) => (Cl (law_unlike_2_W (u19.2, ())) (fun (r55 : (List Txt)) => (r55.length ≤ sizeLine ∧ (∀ x56 ∈ r55, (dhas seem48.kvs x56 = true ∧ (((dgt seem48.kvs x56) = true → ((niL x56 u19.1)) = ((niL x56 u19.1))) ∧ ((dgt seem48.kvs x56) && ((niL x56 u19.1))) = ((dgt seem48.kvs x56) && ((niL x56 u19.1)))))) ∧ (∀ x56 ∈ r55, ((dgt seem48.kvs x56) && ((niL x56 u19.1))) = true → x56 = x56) ∧ (((decide (r54.items ≠ ((r55.filter (fun (x56 : Txt) => ((dgt seem48.kvs x56) && ((niL x56 u19.1))))).map (fun (x56 : Txt) => x56)))) = true → Q false) ∧ ((decide (r54.items ≠ ((r55.filter (fun (x56 : Txt) => ((dgt seem48.kvs x56) && ((niL x56 u19.1))))).map (fun (x56 : Txt) => x56)))) = false → (law_w6 u9 u19 marks26 sieve28 bits39 Q E))))) E)) E)
abbrev law_w8 (u9 : (Int × (List Int))) (u19 : ((List Txt) × (List Txt))) (marks26 : (Dct Txt (List Int))) (sieve28 : SieveV) (bits39 : (List Int)) (seem48 : (Dct Txt Bool)) (Q : Bool → Prop) (E : Ex → Prop) : Prop :=
  (u19.2.length ≤ sizeLine ∧ ∃ (c51 : Txt → Bool) (h52 : Txt → Txt), (∀ x49 ∈ u19.2, (Cl (Sieve_may_have_W (sieve28, x49, ())) (fun (r50 : Bool) => (dhas seem48.kvs x49 = true ∧ (decide (r50 ≠ (dgt seem48.kvs x49))) = c51 x49)) NoE)) ∧ (∀ x49 ∈ u19.2, c51 x49 = true → x49 = h52 x49) ∧ (((decide (((u19.2.filter c51).map h52) ≠ ([] : List Txt))) = true → Q false) ∧ ((decide (((u19.2.filter c51).map h52) ≠ ([] : List Txt))) = false → (law_w7 u9 u19 marks26 sieve28 bits39 seem48 Q E))))
abbrev law_w9 (u9 : (Int × (List Int))) (u19 : ((List Txt) × (List Txt))) (marks26 : (Dct Txt (List Int))) (sieve28 : SieveV) (bits39 : (List Int)) (Q : Bool → Prop) (E : Ex → Prop) : Prop :=
  (u19.2.length ≤ sizeLine ∧ (∀ x46 ∈ u19.2, (dhas marks26.kvs x46 = true ∧ (List.length (dgt marks26.kvs x46) ≤ sizeLine ∧ (∀ x47 ∈ (dgt marks26.kvs x46), ((niL x47 bits39)) = ((niL x47 bits39))) ∧ (∀ x47 ∈ (dgt marks26.kvs x46), ((niL x47 bits39)) = true → x47 = x47) ∧ (x46, (decide ((((dgt marks26.kvs x46).filter (fun (x47 : Int) => ((niL x47 bits39)))).map (fun (x47 : Int) => x47)) = ([] : List Int)))) = (x46, (decide ((((dgt marks26.kvs x46).filter (fun (x47 : Int) => ((niL x47 bits39)))).map (fun (x47 : Int) => x47)) = ([] : List Int))))))) ∧ (law_w8 u9 u19 marks26 sieve28 bits39 (Dct.mk (dmerge [] (u19.2.map (fun (x46 : Txt) => (x46, (decide ((((dgt marks26.kvs x46).filter (fun (x47 : Int) => ((niL x47 bits39)))).map (fun (x47 : Int) => x47)) = ([] : List Int)))))))) Q E))
abbrev law_w10 (u9 : (Int × (List Int))) (u19 : ((List Txt) × (List Txt))) (marks26 : (Dct Txt (List Int))) (sieve28 : SieveV) (bits39 : (List Int)) (Q : Bool → Prop) (E : Ex → Prop) : Prop :=
  (u19.1.length ≤ sizeLine ∧ ∃ (c42 : Txt → Bool) (h43 : Txt → Txt), (∀ x40 ∈ u19.1, (Cl (Sieve_may_have_W (sieve28, x40, ())) (fun (r41 : Bool) => (!r41) = c42 x40) NoE)) ∧ (∀ x40 ∈ u19.1, c42 x40 = true → x40 = h43 x40) ∧ (((decide (((u19.1.filter c42).map h43) ≠ ([] : List Txt))) = true → ((true = true → Q false) ∧ (true = false → (law_w9 u9 u19 marks26 sieve28 bits39 Q E)))) ∧ ((decide (((u19.1.filter c42).map h43) ≠ ([] : List Txt))) = false → (Cl (Sieve_how_full_W (sieve28, ())) (fun (r44 : (Int × Int)) => (((decide (r44 ≠ ((bits39.length : Int), u9.1))) = true → Q false) ∧ ((decide (r44 ≠ ((bits39.length : Int), u9.1))) = false → (law_w9 u9 u19 marks26 sieve28 bits39 Q E)))) E))))
abbrev law_w11 (u9 : (Int × (List Int))) (u19 : ((List Txt) × (List Txt))) (marks26 : (Dct Txt (List Int))) (sieve28 : SieveV) (Q : Bool → Prop) (E : Ex → Prop) : Prop :=
  (u19.1.length ≤ sizeLine ∧ (∀ x36 ∈ u19.1, (dhas marks26.kvs x36 = true ∧ (dgt marks26.kvs x36) = (dgt marks26.kvs x36))) ∧ (Cl (law_flat_W ((u19.1.map (fun (x36 : Txt) => (dgt marks26.kvs x36))), ())) (fun (r37 : (List Int)) => (Cl (law_unlike_W (r37, ())) (fun (r38 : (List Int)) => (law_w10 u9 u19 marks26 sieve28 r38 Q E)) E)) E))
abbrev law_w12 (u9 : (Int × (List Int))) (u19 : ((List Txt) × (List Txt))) (marks26 : (Dct Txt (List Int))) (sieve28 : SieveV) (Q : Bool → Prop) (E : Ex → Prop) : Prop :=
  (List.length (marks26.kvs.map (·.1)) ≤ sizeLine ∧ ∃ (c33 : Txt → Bool) (h34 : Txt → Txt), (∀ x29 ∈ (marks26.kvs.map (·.1)), (Cl (Sieve_marks_W (sieve28, x29, ())) (fun (r30 : (Tup Int)) => (dhas marks26.kvs x29 = true ∧ (((decide (r30.items ≠ (dgt marks26.kvs x29))) = true → true = c33 x29) ∧ ((decide (r30.items ≠ (dgt marks26.kvs x29))) = false → (inR (u9.2.length) (0 : Int) ∧ (Cl (word_sum_W (x29, (ixD u9.2 (0 : Int)), u9.1, ())) (fun (r31 : Int) => (inR (u9.2.length) (0 : Int) ∧ (Cl (law_sum_W (x29, (ixD u9.2 (0 : Int)), u9.1, ())) (fun (r32 : Int) => (decide (r31 ≠ r32)) = c33 x29) NoE))) NoE)))))) NoE)) ∧ (∀ x29 ∈ (marks26.kvs.map (·.1)), c33 x29 = true → x29 = h34 x29) ∧ (((decide ((((marks26.kvs.map (·.1)).filter c33).map h34) ≠ ([] : List Txt))) = true → Q false) ∧ ((decide ((((marks26.kvs.map (·.1)).filter c33).map h34) ≠ ([] : List Txt))) = false → (law_w11 u9 u19 marks26 sieve28 Q E))))
abbrev law_w13 (u9 : (Int × (List Int))) (u19 : ((List Txt) × (List Txt))) (marks26 : (Dct Txt (List Int))) (Q : Bool → Prop) (E : Ex → Prop) : Prop :=
  (Cl (sieve_of_W (u19.1, u9.1, u9.2, ())) (fun (r27 : SieveV) => (law_w12 u9 u19 marks26 r27 Q E)) E)
abbrev law_w14 (u9 : (Int × (List Int))) (u19 : ((List Txt) × (List Txt))) (Q : Bool → Prop) (E : Ex → Prop) : Prop :=
  (u19.1.length + u19.2.length ≤ sizeLine ∧ (List.length (u19.1 ++ u19.2) ≤ sizeLine ∧ ∃ h25 : Txt → (Txt × (List Int)), (∀ x20 ∈ (u19.1 ++ u19.2), (u9.2.length ≤ sizeLine ∧ ∃ h23 : Int → Int, (∀ x21 ∈ u9.2, (Cl (law_sum_W (x20, x21, u9.1, ())) (fun (r22 : Int) => r22 = h23 x21) NoE)) ∧ (Cl (law_unlike_W ((u9.2.map h23), ())) (fun (r24 : (List Int)) => (x20, r24) = h25 x20) NoE))) ∧ (law_w13 u9 u19 (Dct.mk (dmerge [] ((u19.1 ++ u19.2).map h25))) Q E)))
abbrev law_w15 (u9 : (Int × (List Int))) (Q : Bool → Prop) (E : Ex → Prop) : Prop :=
  (ClD (rollW ((11 : Int), ())) fun (r10 : Int) => ((-(2 ^ 62) ≤ r10 ∧ r10 < 2 ^ 62) ∧ (List.length ((List.range (r10).toNat).map fun i : Nat => (i : Int)) ≤ sizeLine ∧ ∃ P13 : Int → Txt → Prop, (∀ x11 ∈ ((List.range (r10).toNat).map fun i : Nat => (i : Int)), (ClD (law_word_W ((tx "abcd"), (1 : Int), (4 : Int), ())) fun (r12 : Txt) => P13 x11 r12)) ∧ ∀ ys14, Each P13 ((List.range (r10).toNat).map fun i : Nat => (i : Int)) ys14 → ((-(2 ^ 62) ≤ (6 : Int) ∧ (6 : Int) < 2 ^ 62) ∧ (List.length ((List.range ((6 : Int)).toNat).map fun i : Nat => (i : Int)) ≤ sizeLine ∧ ∃ P17 : Int → Txt → Prop, (∀ x15 ∈ ((List.range ((6 : Int)).toNat).map fun i : Nat => (i : Int)), (ClD (law_word_W ((tx "abcd"), (1 : Int), (4 : Int), ())) fun (r16 : Txt) => P17 x15 r16)) ∧ ∀ ys18, Each P17 ((List.range ((6 : Int)).toNat).map fun i : Nat => (i : Int)) ys18 → (law_w14 u9 (ys14, ys18) Q E))))))
abbrev law_w16 (Q : Bool → Prop) (E : Ex → Prop) : Prop :=
  (ClD (rollW ((30 : Int), ())) fun (r3 : Int) => (CMul (2 : Int) ((1 : Int) + r3) ∧ (ClD (rollW ((3 : Int), ())) fun (r4 : Int) => ((-(2 ^ 62) ≤ ((1 : Int) + r4) ∧ ((1 : Int) + r4) < 2 ^ 62) ∧ (List.length ((List.range (((1 : Int) + r4)).toNat).map fun i : Nat => (i : Int)) ≤ sizeLine ∧ ∃ P7 : Int → Int → Prop, (∀ x5 ∈ ((List.range (((1 : Int) + r4)).toNat).map fun i : Nat => (i : Int)), (ClD (rollW ((40 : Int), ())) fun (r6 : Int) => P7 x5 ((1 : Int) + r6))) ∧ ∀ ys8, Each P7 ((List.range (((1 : Int) + r4)).toNat).map fun i : Nat => (i : Int)) ys8 → (law_w15 (((2 : Int) * ((1 : Int) + r3)), ys8) Q E))))))
abbrev law_w (script1 : (List Int)) (Q : Bool → Prop) (E : Ex → Prop) : Prop :=
  (law_w16 Q E)
abbrev law_W (t : (List Int) × Unit) (Q : Bool → Prop) (E : Ex → Prop) : Prop := law_w t.1 Q E
end K16
set_option maxHeartbeats 0
set_option synthInstance.maxSize 2000
namespace K16
open PySem L2 Sp
abbrev top (i : Nat) : Stmt := PySem.Challenge.pw_spellhall_k16_sieves.main.body.getD i (.Pass ⟨0, 0, 0, 0⟩)
def d_check_word : He.DefD := ⟨("check_word", none), "check_word", "check_word", defArgs (top 11), defBody (top 11), defScope (top 11), [], []⟩
def d_word_sum : He.DefD := ⟨("word_sum", none), "word_sum", "word_sum", defArgs (top 13), defBody (top 13), defScope (top 13), [], []⟩
def d_Sieve_init : He.DefD := ⟨("Sieve", some "__init__"), "__init__", "Sieve.__init__", defArgs (inClass (top 14) 0), defBody (inClass (top 14) 0), defScope (inClass (top 14) 0), [], []⟩
def d_Sieve_marks : He.DefD := ⟨("Sieve", some "marks"), "marks", "Sieve.marks", defArgs (inClass (top 14) 1), defBody (inClass (top 14) 1), defScope (inClass (top 14) 1), [], []⟩
def d_Sieve_put : He.DefD := ⟨("Sieve", some "put"), "put", "Sieve.put", defArgs (inClass (top 14) 2), defBody (inClass (top 14) 2), defScope (inClass (top 14) 2), [], []⟩
def d_Sieve_may_have : He.DefD := ⟨("Sieve", some "may_have"), "may_have", "Sieve.may_have", defArgs (inClass (top 14) 3), defBody (inClass (top 14) 3), defScope (inClass (top 14) 3), [], []⟩
def d_Sieve_how_full : He.DefD := ⟨("Sieve", some "how_full"), "how_full", "Sieve.how_full", defArgs (inClass (top 14) 4), defBody (inClass (top 14) 4), defScope (inClass (top 14) 4), [], []⟩
def d_Sieve_wrongly : He.DefD := ⟨("Sieve", some "wrongly"), "wrongly", "Sieve.wrongly", defArgs (inClass (top 14) 5), defBody (inClass (top 14) 5), defScope (inClass (top 14) 5), [], []⟩
def d_Sieve_joined : He.DefD := ⟨("Sieve", some "joined"), "joined", "Sieve.joined", defArgs (inClass (top 14) 6), defBody (inClass (top 14) 6), defScope (inClass (top 14) 6), [], []⟩
def d_Sieve_folded : He.DefD := ⟨("Sieve", some "folded"), "folded", "Sieve.folded", defArgs (inClass (top 14) 7), defBody (inClass (top 14) 7), defScope (inClass (top 14) 7), [], []⟩
def d_Sieve_key : He.DefD := ⟨("Sieve", some "key"), "key", "Sieve.key", defArgs (inClass (top 14) 8), defBody (inClass (top 14) 8), defScope (inClass (top 14) 8), [], []⟩
def d_sieve_of : He.DefD := ⟨("sieve_of", none), "sieve_of", "sieve_of", defArgs (top 15), defBody (top 15), defScope (top 15), [], []⟩
def d_Tallies_init : He.DefD := ⟨("Tallies", some "__init__"), "__init__", "Tallies.__init__", defArgs (inClass (top 16) 0), defBody (inClass (top 16) 0), defScope (inClass (top 16) 0), [], []⟩
def d_Tallies_put : He.DefD := ⟨("Tallies", some "put"), "put", "Tallies.put", defArgs (inClass (top 16) 1), defBody (inClass (top 16) 1), defScope (inClass (top 16) 1), [], []⟩
def d_Tallies_take : He.DefD := ⟨("Tallies", some "take"), "take", "Tallies.take", defArgs (inClass (top 16) 2), defBody (inClass (top 16) 2), defScope (inClass (top 16) 2), [], []⟩
def d_Tallies_at_most : He.DefD := ⟨("Tallies", some "at_most"), "at_most", "Tallies.at_most", defArgs (inClass (top 16) 3), defBody (inClass (top 16) 3), defScope (inClass (top 16) 3), [], []⟩
def d_Tallies_sum_told : He.DefD := ⟨("Tallies", some "sum_told"), "sum_told", "Tallies.sum_told", defArgs (inClass (top 16) 4), defBody (inClass (top 16) 4), defScope (inClass (top 16) 4), [], []⟩
def d_Table_init : He.DefD := ⟨("Table", some "__init__"), "__init__", "Table.__init__", defArgs (inClass (top 17) 0), defBody (inClass (top 17) 0), defScope (inClass (top 17) 0), [], []⟩
def d_Table_place : He.DefD := ⟨("Table", some "place"), "place", "Table.place", defArgs (inClass (top 17) 1), defBody (inClass (top 17) 1), defScope (inClass (top 17) 1), [], []⟩
def d_Table_put : He.DefD := ⟨("Table", some "put"), "put", "Table.put", defArgs (inClass (top 17) 2), defBody (inClass (top 17) 2), defScope (inClass (top 17) 2), [], []⟩
def d_Table_has : He.DefD := ⟨("Table", some "has"), "has", "Table.has", defArgs (inClass (top 17) 3), defBody (inClass (top 17) 3), defScope (inClass (top 17) 3), [], []⟩
def d_Table_take : He.DefD := ⟨("Table", some "take"), "take", "Table.take", defArgs (inClass (top 17) 4), defBody (inClass (top 17) 4), defScope (inClass (top 17) 4), [], []⟩
def d_Table_looks : He.DefD := ⟨("Table", some "looks"), "looks", "Table.looks", defArgs (inClass (top 17) 5), defBody (inClass (top 17) 5), defScope (inClass (top 17) 5), [], []⟩
def d_best_step : He.DefD := ⟨("best_step", none), "best_step", "best_step", defArgs (top 18), defBody (top 18), defScope (top 18), [], []⟩
def d__law_flat : He.DefD := ⟨("_law_flat", none), "_law_flat", "_law_flat", defArgs (top 20), defBody (top 20), defScope (top 20), [], []⟩
def d__law_dice : He.DefD := ⟨("_law_dice", none), "_law_dice", "_law_dice", defArgs (top 21), defBody (top 21), defScope (top 21), [], []⟩
def d__law_roll : He.DefD := ⟨("_law_roll", none), "_law_roll", "_law_roll", defArgs (top 22), defBody (top 22), defScope (top 22), [], []⟩
def d__law_rounds : He.DefD := ⟨("_law_rounds", none), "_law_rounds", "_law_rounds", defArgs (top 23), defBody (top 23), defScope (top 23), [], []⟩
def d__law_told : He.DefD := ⟨("_law_told", none), "_law_told", "_law_told", defArgs (top 24), defBody (top 24), defScope (top 24), [], []⟩
def d__law_word : He.DefD := ⟨("_law_word", none), "_law_word", "_law_word", defArgs (top 25), defBody (top 25), defScope (top 25), [], []⟩
def d__law_unlike : He.DefD := ⟨("_law_unlike", none), "_law_unlike", "_law_unlike", defArgs (top 26), defBody (top 26), defScope (top 26), [], []⟩
def d__law_sum : He.DefD := ⟨("_law_sum", none), "_law_sum", "_law_sum", defArgs (top 27), defBody (top 27), defScope (top 27), [], []⟩
def d__law_cases1 : He.DefD := ⟨("_law_cases1", none), "_law_cases1", "_law_cases1", defArgs (top 28), defBody (top 28), defScope (top 28), [], []⟩
def d__law_rest2 : He.DefD := ⟨("_law_rest2", none), "_law_rest2", "_law_rest2", defArgs (top 29), defBody (top 29), defScope (top 29), [], []⟩
def d__law_rest1 : He.DefD := ⟨("_law_rest1", none), "_law_rest1", "_law_rest1", defArgs (top 30), defBody (top 30), defScope (top 30), [], []⟩
def d__law_rest3 : He.DefD := ⟨("_law_rest3", none), "_law_rest3", "_law_rest3", defArgs (top 31), defBody (top 31), defScope (top 31), [], []⟩
def d_law : He.DefD := ⟨("law", none), "law", "law", defArgs (top 32), defBody (top 32), defScope (top 32), [], []⟩
def fn : List He.DefD := [d_check_word, d_word_sum, d_Sieve_init, d_Sieve_marks, d_Sieve_put, d_Sieve_may_have, d_Sieve_how_full, d_Sieve_wrongly, d_Sieve_joined, d_Sieve_folded, d_Sieve_key, d_sieve_of, d_Tallies_init, d_Tallies_put, d_Tallies_take, d_Tallies_at_most, d_Tallies_sum_told, d_Table_init, d_Table_place, d_Table_put, d_Table_has, d_Table_take, d_Table_looks, d_best_step, d__law_flat, d__law_dice, d__law_roll, d__law_rounds, d__law_told, d__law_word, d__law_unlike, d__law_sum, d__law_cases1, d__law_rest2, d__law_rest1, d__law_rest3, d_law]
def fa0 : List He.Fa := [.glo "check_word", .glo "word_sum", .glo "sieve_of", .glo "best_step", .glo "_law_flat", .glo "_law_dice", .glo "_law_roll", .glo "_law_rounds", .glo "_law_told", .glo "_law_word", .glo "_law_unlike", .glo "_law_sum", .glo "_law_cases1", .glo "_law_rest2", .glo "_law_rest1", .glo "_law_rest3", .glo "law", .glo "Sieve", .glo "Tallies", .glo "Table", .glo "SpellFault", .glo "BadWord", .glo "BadRule", .glo "BadCount", .glo "NoSuch", .glo "NoWay", .glo "TooLarge", .glo "BadText", .free "len", .free "range"]
def fa1 : List He.Fa := [.free "sorted", .free "list", .free "tuple", .free "dict", .free "int", .free "str", .free "abs", .free "min", .free "max", .free "sum", .free "any", .free "all", .free "enumerate", .free "zip", .free "reversed", .free "isinstance", .free "super", .str "LETTERS" "abcdefghijklmnopqrstuvwxyz", .cls "Sieve", .mkr "Sieve", .noat "Sieve" "size", .noat "Sieve" "steps", .noat "Sieve" "bits", .meth "Sieve" "marks", .meth "Sieve" "put", .meth "Sieve" "may_have", .meth "Sieve" "how_full", .meth "Sieve" "wrongly", .meth "Sieve" "joined", .meth "Sieve" "folded"]
def fa2 : List He.Fa := [.meth "Sieve" "key", .cls "Tallies", .mkr "Tallies", .noat "Tallies" "sieve", .noat "Tallies" "counts", .meth "Tallies" "put", .meth "Tallies" "take", .meth "Tallies" "at_most", .meth "Tallies" "sum_told", .cls "Table", .mkr "Table", .noat "Table" "size", .noat "Table" "step", .noat "Table" "rows", .meth "Table" "place", .meth "Table" "put", .meth "Table" "has", .meth "Table" "take", .meth "Table" "looks", .exc "SpellFault", .exc "BadWord", .exc "BadRule", .exc "BadCount", .exc "NoSuch", .exc "NoWay", .exc "TooLarge", .exm "BadWord" "BadCount" false, .exm "BadWord" "BadRule" false, .exm "BadWord" "BadWord" true, .exm "BadWord" "NoSuch" false]
def fa3 : List He.Fa := [.exm "BadWord" "NoWay" false, .exm "BadWord" "TooLarge" false, .exm "BadWord" "BadText" false, .exm "BadRule" "BadCount" false, .exm "BadRule" "BadRule" true, .exm "BadRule" "BadWord" false, .exm "BadRule" "NoSuch" false, .exm "BadRule" "NoWay" false, .exm "BadRule" "TooLarge" false, .exm "BadRule" "BadText" false, .exm "BadCount" "BadCount" true, .exm "BadCount" "BadRule" false, .exm "BadCount" "BadWord" false, .exm "BadCount" "NoSuch" false, .exm "BadCount" "NoWay" false, .exm "BadCount" "TooLarge" false, .exm "BadCount" "BadText" false, .exm "NoSuch" "BadCount" false, .exm "NoSuch" "BadRule" false, .exm "NoSuch" "BadWord" false, .exm "NoSuch" "NoSuch" true, .exm "NoSuch" "NoWay" false, .exm "NoSuch" "TooLarge" false, .exm "NoSuch" "BadText" false, .exm "NoWay" "BadCount" false, .exm "NoWay" "BadRule" false, .exm "NoWay" "BadWord" false, .exm "NoWay" "NoSuch" false, .exm "NoWay" "NoWay" true, .exm "NoWay" "TooLarge" false]
def fa4 : List He.Fa := [.exm "NoWay" "BadText" false, .exm "TooLarge" "BadCount" false, .exm "TooLarge" "BadRule" false, .exm "TooLarge" "BadWord" false, .exm "TooLarge" "NoSuch" false, .exm "TooLarge" "NoWay" false, .exm "TooLarge" "TooLarge" true, .exm "TooLarge" "BadText" false, .exm "BadText" "BadCount" false, .exm "BadText" "BadRule" false, .exm "BadText" "BadWord" false, .exm "BadText" "NoSuch" false, .exm "BadText" "NoWay" false, .exm "BadText" "TooLarge" false, .exm "BadText" "BadText" true, .exm "BadWord" "SpellFault" true, .exm "BadRule" "SpellFault" true, .exm "BadCount" "SpellFault" true, .exm "NoSuch" "SpellFault" true, .exm "NoWay" "SpellFault" true, .exm "TooLarge" "SpellFault" true, .exm "BadText" "SpellFault" true]
def fa : List He.Fa := fa0 ++ (fa1 ++ (fa2 ++ (fa3 ++ (fa4))))
def tq : TQ := [(("check_word", none), .plain ((("check_word" : Str) ++ ".<locals>.") ++ "<genexpr>")), (("Sieve", some "may_have"), .plain ((("Sieve.may_have" : Str) ++ ".<locals>.") ++ "<genexpr>")), (("_law_cases1", none), .plain ((("_law_cases1" : Str) ++ ".<locals>.") ++ "<lambda>")), (("_law_rest2", none), .plain ((("_law_rest2" : Str) ++ ".<locals>.") ++ "<lambda>")), (("_law_rest1", none), .plain ((("_law_rest1" : Str) ++ ".<locals>.") ++ "<lambda>")), (("_law_rest3", none), .plain ((("_law_rest3" : Str) ++ ".<locals>.") ++ "<lambda>"))]
def names : List PySem.Str := ["SpellFault", "BadWord", "BadRule", "BadCount", "NoSuch", "NoWay", "TooLarge", "BadText", "LETTERS", "check_word", "word_sum", "Sieve", "sieve_of", "Tallies", "Table", "best_step", "_law_flat", "_law_dice", "_law_roll", "_law_rounds", "_law_told", "_law_word", "_law_unlike", "_law_sum", "_law_cases1", "_law_rest2", "_law_rest1", "_law_rest3"]
abbrev R : PySem.W.OpenRow := PySem.W.OpenLaw.row PySem.Challenge.rw_spellhall_k16_sieves
def cmc : List PySem.Str := ["Sieve", "Table"]
def nums : List (PySem.Str × PySem.Str) := []
def tabs : List (PySem.Str × TabT) := []
def ts : List He.Tab := tabs.map fun t => ((fun K => He.ga K t.1), t.2.map (·.1))
def ndTab (K : PySem.W.Frag) : Bool := ((decide (tq.map fun p => (He.cT K p.1).2).Nodup && cmc.all fun c => HN.cmpB K (He.ga K c)) && nums.all fun c => numB PySem.Challenge.pw_spellhall_k16_sieves.main.file K (He.ga K c.1) c.2 c.2) && tabs.all fun t => tabB K (He.ga K t.1) t.2
abbrev hk : PySem.W.Hook := Sp.hookY 5 fa fn ts (tq.map (·.1)) ndTab
def ob (s : PySem.W.SharedT) : He.AlX := Sp.obsY 5 fa fn ts (tq.map (·.1)) ndTab (HandSHeadRun.getT s)
theorem ob_eq (s : PySem.W.SharedT) : ob s = hk.obs s.abs := Sp.obsY_eq (HandSHeadRun.getT_eq s)
theorem run (w : World) : HandSHeadRun.RunEq R (PySem.W.view R.prog [32]) hk ob 4000 names w := by
  intro os
  kernel_rfl
end K16
set_option maxHeartbeats 0
set_option synthInstance.maxSize 2000
namespace K16
open PySem L2 Sp
section
variable {P : Program} {w : World} {K : Frag} {mg : Str → Option Value} {base : Heap}
theorem dice_S : FnScope ["cell"] ["cell"] d__law_dice.scope := ⟨rfl, rfl, rfl, by decide +kernel, rfl, by decide +kernel, by decide +kernel⟩
theorem ok_dice (B : Bis mg) (L : LK w K mg base fa fn tq) {fd : FuncData} (F1 : Fd K d__law_dice ["cell"] fd) : FnOk P w K mg base (L2.CX P w) 1 (He.fAd K d__law_dice.at_) fd ["cell"] (toSp K (tbOf K tq) 1 dDiceA) := by
  refine dice_D (df_ok (k := 0) L F1 dice_S dDice0 (fun As gs R E ⟨_, e, _⟩ => by rw [e]; rfl) fun cdv A outer s H F gs E ex As R X hd hex tbl ok => ?_)
  obtain ⟨c, rfl, rfl, k⟩ := hd
  refine ws_cons (w1_if (.of (etp_ltlt (evp_sub evp_int evp_int) (evp_var 0 rfl (.inl rfl) rfl) evp_int) ?_))
  by_cases h : (decide ((0 : Int) - 10 < c) && decide (c < 10)) = true
  · rw [if_pos h]
    refine ws_one (w1_ret (ev_listO (α := Int) (.of (evsp_cons (evp_abs B (by rfl) (evp_var 0 rfl (.inl rfl) rfl)) (evsp_cons evp_int (evsp_cons evp_int evsp_nil))) ⟨[_, _, _], rfl, (show 3 ≤ _ by decide), fun q => ⟨0, k _ _ _ _⟩⟩)))
  · rw [if_neg h]
    refine ws_nil ?_
    refine ws_one (w1_ret (ev_listO (α := Int) (.of (evsp_cons (evp_var 0 rfl (.inl rfl) rfl) (evsp_cons (evp_add evp_int (evp_mod (evp_int1 B (by rfl) (evp_var 0 rfl (.inl rfl) rfl)) evp_int (by decide))) (evsp_cons (evp_intB B (by rfl) (evp_cmp (cmp_ge (evp_var 0 rfl (.inl rfl) rfl) (evp_pow evp_int evp_int ⟨by decide, by decide, by decide⟩)))) evsp_nil))) ⟨[_, _, _], rfl, (show 3 ≤ _ by decide), fun q => ⟨0, k _ _ _ _⟩⟩)))
theorem roll_S : FnScope ["dice", "many", "found"] ["dice", "many"] d__law_roll.scope := ⟨rfl, rfl, rfl, by decide +kernel, rfl, by decide +kernel, by decide +kernel⟩
theorem ok_roll (B : Bis mg) (L : LK w K mg base fa fn tq) {fd : FuncData} (F1 : Fd K d__law_roll ["dice", "many"] fd) : FnOk P w K mg base (L2.CX P w) 1 (He.fAd K d__law_roll.at_) fd ["dice", "many"] (toSp K (tbOf K tq) 2 (spD rollW)) := by
  refine roll_D (df_ok (k := 0) L F1 roll_S dRollA (fun As gs R E ⟨_, _, _, _, _, e, _⟩ => by rw [e]; rfl) fun cdv A outer s H F gs E ex As R X hd hex tbl ok => ?_)
  obtain ⟨q, i, j, k, many, rfl, rfl, h0, h1, kk⟩ := hd
  have red : ∀ (r : Int), 0 ≤ r % many ∧ r % many < many := fun r => ⟨Int.emod_nonneg _ (by omega), Int.emod_lt_of_pos _ h0⟩
  refine ws_cons (w1_if (.of (etp_w (ewp_or (etp_cmp (cmp_eq (α := Int) ok (evp_own 0 0 rfl rfl rfl rfl) .pu evp_int .pu)) fun _ => ewp_or1 (etp_w (ewp_and (etp_cmp (cmp_eq (α := Int) ok (evp_own 0 0 rfl rfl rfl rfl) .pu evp_int .pu)) fun _ => ewp_and1 (etp_cmp (cmp_gt (evp_own 0 0 rfl rfl rfl rfl) evp_int)))))) ?_))
  by_cases h : (decide (k = 2) || (decide (k = 1) && decide (0 < i))) = true
  · rw [if_pos h]
    refine ws_cons (w1_set 2 ok rfl (.inl rfl) (.of (evp_mod (evp_int1 B (by rfl) (evp_own 0 0 rfl rfl rfl rfl)) (evp_var 1 rfl (.inl rfl) rfl) h0) ?_))
    refine ws_cons (w1_lput (α := Int) 0 (.of (evp_fdiv (evp_own 0 0 rfl rfl rfl rfl) (evp_var 1 rfl (.inl rfl) rfl) ⟨h0, h1⟩) ⟨_, _, 0, 0, rfl, rfl, evp_var 0 rfl (.inl rfl) rfl, evp_int, rfl, ?_⟩))
    exact ws_one (w1_ret (.of (evp_var 2 rfl (.inl rfl) rfl) ⟨0, kk _ _ _ _ (red i).1 (red i).2⟩))
  · rw [if_neg h]
    refine ws_nil ?_
    refine ws_cons (w1_lput (α := Int) 0 (.of evp_int ⟨_, _, 2, 2, rfl, rfl, evp_var 0 rfl (.inl rfl) rfl, evp_int, rfl, ?_⟩))
    refine ws_cons (w1_lput (α := Int) 0 (.of (evp_mod (evp_int1 B (by rfl) (evp_add (evp_add (evp_mul (evp_own 0 0 rfl rfl rfl rfl) evp_int (.inr (by decide))) (evp_mul (evp_own 0 0 rfl rfl rfl rfl) evp_int (.inr (by decide)))) evp_int)) evp_int (by decide)) ⟨_, _, 0, 0, rfl, rfl, evp_var 0 rfl (.inl rfl) rfl, evp_int, rfl, ?_⟩))
    refine ws_cons (w1_lput (α := Int) 0 (.of (evp_add (evp_own 0 0 rfl rfl rfl rfl) evp_int) ⟨_, _, 1, 1, rfl, rfl, evp_var 0 rfl (.inl rfl) rfl, evp_int, rfl, ?_⟩))
    exact ws_one (w1_ret (.of (evp_mod (evp_int1 B (by rfl) (evp_add (evp_fdiv (evp_own 0 0 rfl rfl rfl rfl) evp_int ⟨by decide, by decide⟩) (evp_own 0 0 rfl rfl rfl rfl))) (evp_var 1 rfl (.inl rfl) rfl) h0) ⟨0, kk _ _ _ _ (red _).1 (red _).2⟩))
theorem cut1 : ∀ ns : List Int, (cutD ns none (some 1) = [] ∨ ∃ c, cutD ns none (some 1) = [c])
  | [] => .inl (by decide)
  | c :: r => .inr ⟨c, by
    unfold cutD HT.sIx
    simp⟩
theorem rounds_S : FnScope ["script", "most", "cells", "cell"] ["script", "most"] d__law_rounds.scope := ⟨rfl, rfl, rfl, by decide +kernel, rfl, by decide +kernel, by decide +kernel⟩
theorem ok_rounds (B : Bis mg) (L : LK w K mg base fa fn tq) {fd : FuncData} (F1 : Fd K d__law_rounds ["script", "most"] fd) (G1 : Df P w K mg base (tbOf K tq) 1 "_law_dice" ["cell"] dDiceA) : FnOk P w K mg base (L2.CX P w) 2 (He.fAd K d__law_rounds.at_) fd ["script", "most"] (toSp K (tbOf K tq) 2 dRoundsA) := by
  refine df_ok (k := 1) L F1 rounds_S dRoundsA (fun As gs R E ⟨_, e, _⟩ => by rw [e]; rfl) fun cdv A outer s H F gs E ex As R X hd hex tbl ok => ?_
  obtain ⟨ns, rfl, rfl, kk⟩ := hd
  refine ws_cons (w1_set 2 ok rfl (.inl rfl) (.of (evp_slL (evp_var 0 rfl (.inl rfl) rfl) .pu evo_no (evo_at (evp_var 1 rfl (.inl rfl) rfl))) ?_))
  refine ws_cons (w1_if (.of (etp_cmp (cmp_eq (α := List Int) ok (evp_var 2 rfl (.inl rfl) rfl) .pu (evp_list (xs := ([] : List Int)) evsp_nil) .pu)) ?_))
  have tail : ∀ c : Int, Ws (bodyY P w K mg base (tbOf K tq) 1 ["script", "most", "cells", "cell"] d__law_rounds.qual d__law_rounds.scope (He.fAd K d__law_rounds.at_) cdv A outer s H F [] E ex) ⟨[some (pu ns), some (pu (1 : Int)), some (pu [c]), none], []⟩ (d__law_rounds.body.drop 2) { nx := fun s' => ∃ n, R (pu ()) (s'.gs.drop n), rt := fun A s' => ∃ n, R A (s'.gs.drop n) } := fun c => by
    refine ws_one (w1_ret (ev_lcT (α := Rf) [("cell", 3)] ok (it_list (xs := [c]) (evp_var 2 rfl (.inl rfl) rfl)) (show BlkOk ["script", "most", "cells", "cell"] d__law_rounds.scope _ _ from blk_by (by decide +kernel)) (fun z => tg_name ok.blk.nd 3 rfl (.inl rfl))
      (fun (i : Nat) (ys : List Rf) (gs' : Gs) => (i = 0 ∧ ys = [] ∧ gs' = []) ∨ (i = 1 ∧ ∃ (q : Addr), ys = [Rf.mk q] ∧ gs' = [(q, dicec)])) (.inl ⟨rfl, rfl, rfl⟩) (fun i ys gs' h hi => ?_) (fun z i x ys gs' D hx h => ?_) ?_))
    · rcases h with ⟨_, e, _⟩ | ⟨_, q, e, _⟩ <;> subst e
      · exact (show 0 < sizeLine by decide)
      · exact (show 1 < sizeLine by decide)
    · rcases h with ⟨rfl, rfl, rfl⟩ | ⟨rfl, _⟩
      · cases hx
        refine ets_nil ?_
        rw [if_pos rfl]
        intro z'
        refine ev_perm (ev_call G1 ok.blk (show 1 ≤ 1 by decide) rfl (.of (evsp_cons (evp_var 3 rfl (.inl rfl) rfl) evsp_nil) ⟨rfl, [], _, .refl _, c, rfl, rfl, fun q => ?_⟩))
        exact ⟨_, .swap _ _ _, Rf.mk q, _, rfl, rfl, .inr ⟨rfl, q, rfl, rfl⟩⟩
      · cases hx
    · intro ys gs' h
      rcases h with ⟨h, _⟩ | ⟨_, q, rfl, rfl⟩
      · cases h
      · exact ⟨0, kk _⟩
  rcases cut1 ns with e | ⟨c, e⟩
  · rw [e]
    refine ws_one (w1_set 2 ok rfl (.inl rfl) (.of (evp_list (α := Int) (xs := [0]) (evsp_cons evp_int evsp_nil)) ?_))
    exact tail 0
  · rw [e]
    rw [if_neg (by simp)]
    exact ws_nil (tail c)
def cls (K : Frag) : Cls_ := [(He.ga K "BadCount", tx "count"), (He.ga K "BadRule", tx "rule"), (He.ga K "BadWord", tx "word"), (He.ga K "NoSuch", tx "no such"), (He.ga K "NoWay", tx "no way"), (He.ga K "TooLarge", tx "large"), (He.ga K "BadText", tx "text")]
theorem ok_told {X : Cx} (L : LK w X.K X.mg base fa fn tq) {fd : FuncData} (F1 : Fd X.K d__law_told ["what"] fd) : Told X "_law_told" (cls X.K) := by
  have g : ∀ i (x : Str), fa[i]? = some (He.Fa.glo x) → X.mg x = some (.ref (He.ga X.K x)) := fun i x h => He.glo_ok L.X L.G (L.d.fact i h)
  exact told_of (Ng := ["what"]) F1 (g 8 _ rfl) rfl rfl ⟨rfl, rfl, rfl, by decide +kernel, rfl, by decide +kernel, by decide +kernel⟩ rfl
    (.cons rfl (g 23 _ rfl) (by decide) (toStr_tx _) (.cons rfl (g 22 _ rfl) (by decide) (toStr_tx _) (.cons rfl (g 21 _ rfl) (by decide) (toStr_tx _) (.cons rfl (g 24 _ rfl) (by decide) (toStr_tx _) (.cons rfl (g 25 _ rfl) (by decide) (toStr_tx _) (.cons rfl (g 26 _ rfl) (by decide) (toStr_tx _) (.cons rfl (g 27 _ rfl) (by decide) (toStr_tx _) .nil)))))))
    rfl (.inl rfl) (by decide) (by decide) (fun f => rfl)
theorem told_tells (c : He.SaysD fa fn K) : ∀ e t, toldT e = some t → Tell K (cls K) (exK K e).C t
  | .BadWord, t, h => by cases h; exact .no (He.exm_ok (c.fact 86 rfl)) (.no (He.exm_ok (c.fact 87 rfl)) (.yes (He.exm_ok (c.fact 88 rfl))))
  | .BadRule, t, h => by cases h; exact .no (He.exm_ok (c.fact 93 rfl)) (.yes (He.exm_ok (c.fact 94 rfl)))
  | .BadCount, t, h => by cases h; exact .yes (He.exm_ok (c.fact 100 rfl))
  | .NoSuch, t, h => by cases h; exact .no (He.exm_ok (c.fact 107 rfl)) (.no (He.exm_ok (c.fact 108 rfl)) (.no (He.exm_ok (c.fact 109 rfl)) (.yes (He.exm_ok (c.fact 110 rfl)))))
  | .NoWay, t, h => by cases h; exact .no (He.exm_ok (c.fact 114 rfl)) (.no (He.exm_ok (c.fact 115 rfl)) (.no (He.exm_ok (c.fact 116 rfl)) (.no (He.exm_ok (c.fact 117 rfl)) (.yes (He.exm_ok (c.fact 118 rfl))))))
  | .TooLarge, t, h => by cases h; exact .no (He.exm_ok (c.fact 121 rfl)) (.no (He.exm_ok (c.fact 122 rfl)) (.no (He.exm_ok (c.fact 123 rfl)) (.no (He.exm_ok (c.fact 124 rfl)) (.no (He.exm_ok (c.fact 125 rfl)) (.yes (He.exm_ok (c.fact 126 rfl)))))))
  | .BadDeed, t, h => by cases h
  | .BadText _, t, h => by cases h; exact .no (He.exm_ok (c.fact 128 rfl)) (.no (He.exm_ok (c.fact 129 rfl)) (.no (He.exm_ok (c.fact 130 rfl)) (.no (He.exm_ok (c.fact 131 rfl)) (.no (He.exm_ok (c.fact 132 rfl)) (.no (He.exm_ok (c.fact 133 rfl)) (.yes (He.exm_ok (c.fact 134 rfl))))))))
  | .BadPaper _, t, h => by cases h
abbrev check_word_N : List Str := ["word", "sign"]
theorem check_word_S : FnScope check_word_N ["word"] d_check_word.scope := ⟨rfl, rfl, rfl, by decide +kernel, rfl, by decide +kernel, by decide +kernel⟩
theorem ok_check_word (B : Bis mg) (L : LK w K mg base fa fn tq) {fd : FuncData} (F1 : Fd K d_check_word ["word"] fd)  : FnOk P w K mg base (L2.CX P w) 3 (He.fAd K d_check_word.at_) fd ["word"] (toSp K (tbOf K tq) 1 (spF K check_word_W)) := by
  refine fn_F (k := 2) (some ()) L F1 check_word_S check_word_W noneUnit (fun _ => rfl) ?_
  intro z t Q E h ye tbl
  obtain ⟨word1, ⟨⟩⟩ := t
  show Ws _ (⟨[some (pu word1), none], []⟩ : DSt) _ _
  refine s_if (B := E .BadWord) (C := Q ()) (t_w (w_orP (y := ((word1.map fun c => [c]).any (fun (x2 : Txt) => (!tin x2 (tx "abcdefghijklmnopqrstuvwxyz"))))) (t_not (t_chainV (24 : Int) c_int (c_lenS B (by rfl) (c_v 0 rfl rfl)) c_int op_le op_le)) (w_or1 (t_v (fun _ => rfl) (c_any0 (.n 1) 0 [1] (word1.map fun c => [c]) (fun (x2 : Txt) => (!tin x2 (tx "abcdefghijklmnopqrstuvwxyz"))) ye.ok B (by rfl) (Nat.le_of_ble_eq_true rfl) (i_txt (c_v 0 rfl rfl)) (show GenOk check_word_N d_check_word.scope _ _ from genOk_by (by decide +kernel)) (.pl (tbl _ (List.mem_of_getElem? (i := 0) rfl))) (fun z => (tg_gen ye.ok z 1 rfl)) (fun _ o (x2 : Txt) => (c_k (k_ninS (c_v 1 rfl rfl) (c_gs rfl (He.str_ok L.X L.G (L.d.fact 47 rfl))))))))))) ?_ ?_ (by exact h)
  · intro h
    exact s_raise 0 .BadWord ye (L.err 80 21) rfl rfl rfl (by exact h)
  intro h
  refine ws_nil ?_
  exact ws_nil ⟨⟨0, rfl⟩, _, rfl, h⟩
abbrev word_sum_N : List Str := ["word", "step", "size", "found", "letter"]
theorem word_sum_S : FnScope word_sum_N ["word", "step", "size"] d_word_sum.scope := ⟨rfl, rfl, rfl, by decide +kernel, rfl, by decide +kernel, by decide +kernel⟩
theorem ok_word_sum (B : Bis mg) (L : LK w K mg base fa fn tq) {fd : FuncData} (F1 : Fd K d_word_sum ["word", "step", "size"] fd) (G_check_word : Df P w K mg base (tbOf K tq) 3 "check_word" ["word"] (spF K check_word_W)) : FnOk P w K mg base (L2.CX P w) 4 (He.fAd K d_word_sum.at_) fd ["word", "step", "size"] (toSp K (tbOf K tq) 3 (spF K word_sum_W)) := by
  refine fn_F (k := 3) none L F1 word_sum_S word_sum_W noneNo (fun _ => rfl) ?_
  intro z t Q E h ye tbl
  obtain ⟨word1, step2, size3, ⟨⟩⟩ := t
  show Ws _ (⟨[some (pu word1), some (pu step2), some (pu size3), none, none], []⟩ : DSt) _ _
  refine s_if (B := E .BadCount) (C := (word_sum_w4 word1 step2 size3 Q E)) (t_w (w_orP (y := (decide (step2 < (1 : Int)))) (t_k (k_lt (c_v 2 rfl rfl) c_int)) (w_or1 (t_k (k_lt (c_v 1 rfl rfl) c_int))))) ?_ ?_ (by exact h)
  · intro h
    exact s_raise 0 .BadCount ye (L.err 82 23) rfl rfl rfl (by exact h)
  intro h
  refine ws_nil ?_
  refine s_expr (R := fun (v5 : Unit) => (word_sum_w3 word1 step2 size3 (0 : Int) Q)) (c_call (w := check_word_W) 0 ye G_check_word (Nat.le_of_ble_eq_true rfl) rfl (a_cons (c_v 0 rfl rfl) a_nil) (fun _ => rfl) rfl) ?_ (by exact h)
  intro v5 h
  try dsimp only
  refine s_asg (R := fun (found6 : Int) => (word_sum_w3 word1 step2 size3 found6 Q)) 3 ye.ok rfl c_int ?_ (by exact h)
  intro found6 h
  try dsimp only
  show Ws _ (⟨[some (pu word1), some (pu step2), some (pu size3), some (pu found6), none], []⟩ : DSt) _ _
  refine s_for (Z := Int) (J := Option Pv) (Body := (fun (x7 : Txt) (z8 : Int) (nx10 : Int → Prop) => (word_sum_w1 step2 size3 x7 nx10 z8))) (Rest := (fun (z13 : Int) => (word_sum_w2 z13 Q))) (.n 4) (fun (z8 : Int) (j9 : Option Pv) => (⟨[some (pu word1), some (pu step2), some (pu size3), some (pu (z8 : Int)), j9], []⟩ : DSt)) found6 none ye.ok (i_txt (c_v 0 rfl rfl)) (tg_nm ye.ok.nd 4 rfl) rfl ?_ ?_ (by exact h)
  · intro x7 found11 j9 nx10 h
    try dsimp only
    show Ws _ (⟨[some (pu word1), some (pu step2), some (pu size3), some (pu found11), some (pu x7)], []⟩ : DSt) _ _
    refine s_asg (R := fun (found12 : Int) => nx10 found12) 3 ye.ok rfl (c_mod (c_add (c_add (c_mul (c_v 3 rfl rfl) (c_v 1 rfl rfl)) (c_idxS (c_gs rfl (He.str_ok L.X L.G (L.d.fact 47 rfl))) (c_v 4 rfl rfl))) c_int) (c_v 2 rfl rfl)) ?_ (by exact h)
    intro found12 h
    try dsimp only
    show Ws _ (⟨[some (pu word1), some (pu step2), some (pu size3), some (pu found12), some (pu x7)], []⟩ : DSt) _ _
    exact ws_nil ⟨found12, some (pu x7), rfl, h⟩
  intro found15 j14 h
  try dsimp only
  show Ws _ (⟨[some (pu word1), some (pu step2), some (pu size3), some (pu found15), j14], []⟩ : DSt) _ _
  refine s_ret (R := fun (v16 : Int) => Q v16) (c_v 3 rfl rfl) (by exact h) ?_
  intro v16 h
  try dsimp only
  exact ⟨⟨0, rfl⟩, _, rfl, h⟩
abbrev Sieve_init_N : List Str := ["self", "size", "steps"]
theorem Sieve_init_S : FnScope Sieve_init_N ["self", "size", "steps"] d_Sieve_init.scope := ⟨rfl, rfl, rfl, by decide +kernel, rfl, by decide +kernel, by decide +kernel⟩
theorem ok_Sieve_init (B : Bis mg) (L : LK w K mg base fa fn tq) {fd : FuncData} (F1 : Fd K d_Sieve_init ["self", "size", "steps"] fd)  : FnOk P w K mg base (L2.CX P w) 1 (He.fAd K d_Sieve_init.at_) fd ["self", "size", "steps"] (toSp K (tbOf K tq) 3 (spI K Sieve_init_W)) := by
  refine fn_I (γ := SieveV) (k := 0) L F1 Sieve_init_S Sieve_init_W (fun _ => rfl) ?_
  intro q0 z t Q E h ye tbl
  obtain ⟨size1, steps2, ⟨⟩⟩ := t
  show Ws _ (⟨[some (raw (.ref q0)), some (pu size1), some (pu steps2)], [_]⟩ : DSt) _ _
  refine s_if (B := E .BadCount) (C := (Sieve_init_w1 steps2 size1 Q)) (t_w (w_orP (y := ((decide ((steps2.length : Int) = (0 : Int))) || (decide ((minL steps2) < (1 : Int))))) (t_not (t_chainV (2000 : Int) c_int (c_v 1 rfl rfl) c_int op_le op_le)) (w_orP (y := (decide ((minL steps2) < (1 : Int)))) (t_k (k_eq ye.ok (c_lenL B (by rfl) (c_l (c_v 2 rfl rfl))) c_int)) (w_or1 (t_k (k_lt (c_min ye.ok B (by rfl) (c_l (c_v 2 rfl rfl))) c_int)))))) ?_ ?_ (by exact h)
  · intro h
    exact s_raise 0 .BadCount ye (L.err 82 23) rfl rfl ⟨_, rfl⟩ (by exact h)
  intro h
  refine ws_nil ?_
  refine s_fld (hl := by first | decide | exact of_decide_eq_true rfl) (R := fun (size3 : Int) => (Sieve_init_w1 steps2 size3 Q)) 0 0 (He.cls_ok (L.d.fact 48 rfl)) (He.noat_ok (L.d.fact 50 rfl)) rfl rfl rfl (c_v 1 rfl rfl) ?_ (by exact h)
  intro size3 h
  try dsimp only
  show Ws _ (⟨[some (raw (.ref q0)), some (pu size1), some (pu steps2)], [_]⟩ : DSt) _ _
  refine s_fld (hl := by first | decide | exact of_decide_eq_true rfl) (R := fun (steps4 : (Tup Int)) => Q (SieveV.mk size3 steps4 (Dct.mk ([] : List (Int × Bool))))) 0 0 (He.cls_ok (L.d.fact 48 rfl)) (He.noat_ok (L.d.fact 51 rfl)) rfl rfl rfl (c_tupL B (by rfl) (c_l (c_v 2 rfl rfl))) ?_ (by exact h)
  intro steps4 h
  try dsimp only
  show Ws _ (⟨[some (raw (.ref q0)), some (pu size1), some (pu steps2)], [_]⟩ : DSt) _ _
  refine s_fld (hl := by first | decide | exact of_decide_eq_true rfl) (R := fun (bits5 : (Dct Int Bool)) => Q (SieveV.mk size3 steps4 bits5)) 0 0 (He.cls_ok (L.d.fact 48 rfl)) (He.noat_ok (L.d.fact 52 rfl)) rfl rfl rfl (c_dnew (κ := Int) (ν := Bool)) ?_ (by exact h)
  intro bits5 h
  try dsimp only
  show Ws _ (⟨[some (raw (.ref q0)), some (pu size1), some (pu steps2)], [_]⟩ : DSt) _ _
  exact ws_nil ⟨(SieveV.mk size3 steps4 bits5), ⟨0, rfl⟩, h⟩
abbrev Sieve_initP_N : List Str := ["self", "size", "steps"]
theorem Sieve_initP_S : FnScope Sieve_initP_N ["self", "size", "steps"] d_Sieve_init.scope := ⟨rfl, rfl, rfl, by decide +kernel, rfl, by decide +kernel, by decide +kernel⟩
theorem ok_Sieve_initP (B : Bis mg) (L : LK w K mg base fa fn tq) {fd : FuncData} (F1 : Fd K d_Sieve_init ["self", "size", "steps"] fd)  : FnOk P w K mg base (L2.CX P w) 1 (He.fAd K d_Sieve_init.at_) fd ["self", "size", "steps"] (toSp K (tbOf K tq) 3 (spI2 K Sieve_initP_W)) := by
  refine fn_I2 (γ := SieveV) (k := 0) L F1 Sieve_initP_S Sieve_initP_W (fun _ => rfl) ?_
  intro q0 z t Q E h ye tbl
  obtain ⟨size1, steps2, ⟨⟩⟩ := t
  show Ws _ (⟨[some (raw (.ref q0)), some (pu size1), some (pu steps2)], [_]⟩ : DSt) _ _
  refine s_if (B := E .BadCount) (C := (Sieve_initP_w1 steps2 size1 Q)) (t_w (w_orP (y := ((decide ((steps2.length : Int) = (0 : Int))) || (decide ((minL steps2) < (1 : Int))))) (t_not (t_chainV (2000 : Int) c_int (c_v 1 rfl rfl) c_int op_le op_le)) (w_orP (y := (decide ((minL steps2) < (1 : Int)))) (t_k (k_eq ye.ok (c_lenL B (by rfl) (c_l (c_v 2 rfl rfl))) c_int)) (w_or1 (t_k (k_lt (c_min ye.ok B (by rfl) (c_l (c_v 2 rfl rfl))) c_int)))))) ?_ ?_ (by exact h)
  · intro h
    exact s_raise 0 .BadCount ye (L.err 82 23) rfl rfl ⟨_, rfl⟩ (by exact h)
  intro h
  refine ws_nil ?_
  refine s_fld (hl := by first | decide | exact of_decide_eq_true rfl) (R := fun (size3 : Int) => (Sieve_initP_w1 steps2 size3 Q)) 0 0 (He.cls_ok (L.d.fact 48 rfl)) (He.noat_ok (L.d.fact 50 rfl)) rfl rfl rfl (c_v 1 rfl rfl) ?_ (by exact h)
  intro size3 h
  try dsimp only
  show Ws _ (⟨[some (raw (.ref q0)), some (pu size1), some (pu steps2)], [_]⟩ : DSt) _ _
  refine s_fld (hl := by first | decide | exact of_decide_eq_true rfl) (R := fun (steps4 : (Tup Int)) => Q (SieveV.mk size3 steps4 (Dct.mk ([] : List (Int × Bool))))) 0 0 (He.cls_ok (L.d.fact 48 rfl)) (He.noat_ok (L.d.fact 51 rfl)) rfl rfl rfl (c_tupL B (by rfl) (c_l (c_v 2 rfl rfl))) ?_ (by exact h)
  intro steps4 h
  try dsimp only
  show Ws _ (⟨[some (raw (.ref q0)), some (pu size1), some (pu steps2)], [_]⟩ : DSt) _ _
  refine s_fldM (hl := by first | decide | exact of_decide_eq_true rfl) (R := fun (bits5 : List (Int × Bool)) => Q (SieveV.mk size3 steps4 (Dct.mk bits5))) 0 0 (He.cls_ok (L.d.fact 48 rfl)) (He.noat_ok (L.d.fact 52 rfl)) rfl rfl rfl (m_new (κ := Int) (ν := Bool)) ?_ (by exact h)
  intro q6 bits5 h
  try dsimp only
  show Ws _ (⟨[some (raw (.ref q0)), some (pu size1), some (pu steps2)], [(q6, dctc bits5), _]⟩ : DSt) _ _
  exact ws_nil ⟨_, (SieveV.mk size3 steps4 (Dct.mk bits5)), ⟨0, rfl⟩, h⟩
abbrev Sieve_init_2_N : List Str := ["self", "size", "steps"]
theorem Sieve_init_2_S : FnScope Sieve_init_2_N ["self", "size", "steps"] d_Sieve_init.scope := ⟨rfl, rfl, rfl, by decide +kernel, rfl, by decide +kernel, by decide +kernel⟩
theorem ok_Sieve_init_2 (B : Bis mg) (L : LK w K mg base fa fn tq) {fd : FuncData} (F1 : Fd K d_Sieve_init ["self", "size", "steps"] fd)  : FnOk P w K mg base (L2.CX P w) 1 (He.fAd K d_Sieve_init.at_) fd ["self", "size", "steps"] (toSp K (tbOf K tq) 3 (spI K Sieve_init_2_W)) := by
  refine fn_I (γ := SieveV) (k := 0) L F1 Sieve_init_2_S Sieve_init_2_W (fun _ => rfl) ?_
  intro q0 z t Q E h ye tbl
  obtain ⟨size1, steps2, ⟨⟩⟩ := t
  show Ws _ (⟨[some (raw (.ref q0)), some (pu size1), some (pu steps2)], [_]⟩ : DSt) _ _
  refine s_if (B := E .BadCount) (C := Q (SieveV.mk size1 steps2 (Dct.mk ([] : List (Int × Bool))))) (t_w (w_orP (y := ((decide ((steps2.items.length : Int) = (0 : Int))) || (decide ((minL steps2.items) < (1 : Int))))) (t_not (t_chainV (2000 : Int) c_int (c_v 1 rfl rfl) c_int op_le op_le)) (w_orP (y := (decide ((minL steps2.items) < (1 : Int)))) (t_k (k_eq ye.ok (c_lenH B (by rfl) (c_v 2 rfl rfl)) c_int)) (w_or1 (t_k (k_lt (c_minH ye.ok B (by rfl) (c_v 2 rfl rfl)) c_int)))))) ?_ ?_ (by exact h)
  · intro h
    exact s_raise 0 .BadCount ye (L.err 82 23) rfl rfl ⟨_, rfl⟩ (by exact h)
  intro h
  refine ws_nil ?_
  refine s_fld (hl := by first | decide | exact of_decide_eq_true rfl) (R := fun (size3 : Int) => Q (SieveV.mk size3 steps2 (Dct.mk ([] : List (Int × Bool))))) 0 0 (He.cls_ok (L.d.fact 48 rfl)) (He.noat_ok (L.d.fact 50 rfl)) rfl rfl rfl (c_v 1 rfl rfl) ?_ (by exact h)
  intro size3 h
  try dsimp only
  show Ws _ (⟨[some (raw (.ref q0)), some (pu size1), some (pu steps2)], [_]⟩ : DSt) _ _
  refine s_fld (hl := by first | decide | exact of_decide_eq_true rfl) (R := fun (steps4 : (Tup Int)) => Q (SieveV.mk size3 steps4 (Dct.mk ([] : List (Int × Bool))))) 0 0 (He.cls_ok (L.d.fact 48 rfl)) (He.noat_ok (L.d.fact 51 rfl)) rfl rfl rfl (c_tupT B (by rfl) (c_v 2 rfl rfl)) ?_ (by exact h)
  intro steps4 h
  try dsimp only
  show Ws _ (⟨[some (raw (.ref q0)), some (pu size1), some (pu steps2)], [_]⟩ : DSt) _ _
  refine s_fld (hl := by first | decide | exact of_decide_eq_true rfl) (R := fun (bits5 : (Dct Int Bool)) => Q (SieveV.mk size3 steps4 bits5)) 0 0 (He.cls_ok (L.d.fact 48 rfl)) (He.noat_ok (L.d.fact 52 rfl)) rfl rfl rfl (c_dnew (κ := Int) (ν := Bool)) ?_ (by exact h)
  intro bits5 h
  try dsimp only
  show Ws _ (⟨[some (raw (.ref q0)), some (pu size1), some (pu steps2)], [_]⟩ : DSt) _ _
  exact ws_nil ⟨(SieveV.mk size3 steps4 bits5), ⟨0, rfl⟩, h⟩
abbrev Sieve_init_2P_N : List Str := ["self", "size", "steps"]
theorem Sieve_init_2P_S : FnScope Sieve_init_2P_N ["self", "size", "steps"] d_Sieve_init.scope := ⟨rfl, rfl, rfl, by decide +kernel, rfl, by decide +kernel, by decide +kernel⟩
theorem ok_Sieve_init_2P (B : Bis mg) (L : LK w K mg base fa fn tq) {fd : FuncData} (F1 : Fd K d_Sieve_init ["self", "size", "steps"] fd)  : FnOk P w K mg base (L2.CX P w) 1 (He.fAd K d_Sieve_init.at_) fd ["self", "size", "steps"] (toSp K (tbOf K tq) 3 (spI2 K Sieve_init_2P_W)) := by
  refine fn_I2 (γ := SieveV) (k := 0) L F1 Sieve_init_2P_S Sieve_init_2P_W (fun _ => rfl) ?_
  intro q0 z t Q E h ye tbl
  obtain ⟨size1, steps2, ⟨⟩⟩ := t
  show Ws _ (⟨[some (raw (.ref q0)), some (pu size1), some (pu steps2)], [_]⟩ : DSt) _ _
  refine s_if (B := E .BadCount) (C := Q (SieveV.mk size1 steps2 (Dct.mk ([] : List (Int × Bool))))) (t_w (w_orP (y := ((decide ((steps2.items.length : Int) = (0 : Int))) || (decide ((minL steps2.items) < (1 : Int))))) (t_not (t_chainV (2000 : Int) c_int (c_v 1 rfl rfl) c_int op_le op_le)) (w_orP (y := (decide ((minL steps2.items) < (1 : Int)))) (t_k (k_eq ye.ok (c_lenH B (by rfl) (c_v 2 rfl rfl)) c_int)) (w_or1 (t_k (k_lt (c_minH ye.ok B (by rfl) (c_v 2 rfl rfl)) c_int)))))) ?_ ?_ (by exact h)
  · intro h
    exact s_raise 0 .BadCount ye (L.err 82 23) rfl rfl ⟨_, rfl⟩ (by exact h)
  intro h
  refine ws_nil ?_
  refine s_fld (hl := by first | decide | exact of_decide_eq_true rfl) (R := fun (size3 : Int) => Q (SieveV.mk size3 steps2 (Dct.mk ([] : List (Int × Bool))))) 0 0 (He.cls_ok (L.d.fact 48 rfl)) (He.noat_ok (L.d.fact 50 rfl)) rfl rfl rfl (c_v 1 rfl rfl) ?_ (by exact h)
  intro size3 h
  try dsimp only
  show Ws _ (⟨[some (raw (.ref q0)), some (pu size1), some (pu steps2)], [_]⟩ : DSt) _ _
  refine s_fld (hl := by first | decide | exact of_decide_eq_true rfl) (R := fun (steps4 : (Tup Int)) => Q (SieveV.mk size3 steps4 (Dct.mk ([] : List (Int × Bool))))) 0 0 (He.cls_ok (L.d.fact 48 rfl)) (He.noat_ok (L.d.fact 51 rfl)) rfl rfl rfl (c_tupT B (by rfl) (c_v 2 rfl rfl)) ?_ (by exact h)
  intro steps4 h
  try dsimp only
  show Ws _ (⟨[some (raw (.ref q0)), some (pu size1), some (pu steps2)], [_]⟩ : DSt) _ _
  refine s_fldM (hl := by first | decide | exact of_decide_eq_true rfl) (R := fun (bits5 : List (Int × Bool)) => Q (SieveV.mk size3 steps4 (Dct.mk bits5))) 0 0 (He.cls_ok (L.d.fact 48 rfl)) (He.noat_ok (L.d.fact 52 rfl)) rfl rfl rfl (m_new (κ := Int) (ν := Bool)) ?_ (by exact h)
  intro q6 bits5 h
  try dsimp only
  show Ws _ (⟨[some (raw (.ref q0)), some (pu size1), some (pu steps2)], [(q6, dctc bits5), _]⟩ : DSt) _ _
  exact ws_nil ⟨_, (SieveV.mk size3 steps4 (Dct.mk bits5)), ⟨0, rfl⟩, h⟩
abbrev Sieve_marks_N : List Str := ["self", "word", "step"]
theorem Sieve_marks_S : FnScope Sieve_marks_N ["self", "word"] d_Sieve_marks.scope := ⟨rfl, rfl, rfl, by decide +kernel, rfl, by decide +kernel, by decide +kernel⟩
theorem ok_Sieve_marks (B : Bis mg) (L : LK w K mg base fa fn tq) {fd : FuncData} (F1 : Fd K d_Sieve_marks ["self", "word"] fd) (G_check_word : Df P w K mg base (tbOf K tq) 3 "check_word" ["word"] (spF K check_word_W)) (G_word_sum : Df P w K mg base (tbOf K tq) 4 "word_sum" ["word", "step", "size"] (spF K word_sum_W)) : FnOk P w K mg base (L2.CX P w) 5 (He.fAd K d_Sieve_marks.at_) fd ["self", "word"] (toSp K (tbOf K tq) 2 (spF K Sieve_marks_W)) := by
  refine fn_F (k := 4) none L F1 Sieve_marks_S Sieve_marks_W noneNo (fun _ => rfl) ?_
  intro z t Q E h ye tbl
  obtain ⟨self1, word2, ⟨⟩⟩ := t
  show Ws _ (⟨[some (pu self1), some (pu word2), none], []⟩ : DSt) _ _
  refine s_expr (R := fun (v4 : Unit) => (Sieve_marks_w1 self1 word2 Q)) (c_call (w := check_word_W) 0 ye G_check_word (Nat.le_of_ble_eq_true rfl) rfl (a_cons (c_v 1 rfl rfl) a_nil) (fun _ => rfl) rfl) ?_ (by exact h)
  intro v4 h
  try dsimp only
  refine s_ret (R := fun (v8 : (Tup Int)) => Q v8) (c_tupL B (by rfl) (c_l (c_sortedD ye.ok B (by rfl) (c_d (c_dictL ye.ok B (by rfl) (c_l (c_L ye.ok (l_lcX0 (.n 2) [("step", 2)] ye.ok (i_tup (c_fld SieveV.steps (He.cls_ok (L.d.fact 48 rfl)) (He.noat_ok (L.d.fact 51 rfl)) (c_v 0 rfl rfl))) (show BlkOk Sieve_marks_N d_Sieve_marks.scope _ _ from blk_by (by decide +kernel)) (fun z => (tg_blk ye.ok z 2 rfl)) (fun _ (x5 : Int) _ _ => (c_tup2 (a_cons (c_call (w := word_sum_W) 0 ye.blk G_word_sum (Nat.le_of_ble_eq_true rfl) rfl (a_cons (c_v 1 rfl rfl) (a_cons (c_v 2 rfl rfl) (a_cons (c_fld SieveV.size (He.cls_ok (L.d.fact 48 rfl)) (He.noat_ok (L.d.fact 50 rfl)) (c_v 0 rfl rfl)) a_nil))) (fun _ => rfl) trivial) (a_cons c_int a_nil)))))))))))) (by exact h) ?_
  intro v8 h
  try dsimp only
  exact ⟨⟨0, rfl⟩, _, rfl, h⟩
abbrev Sieve_marksP_N : List Str := ["self", "word", "step"]
theorem Sieve_marksP_S : FnScope Sieve_marksP_N ["self", "word"] d_Sieve_marks.scope := ⟨rfl, rfl, rfl, by decide +kernel, rfl, by decide +kernel, by decide +kernel⟩
theorem ok_Sieve_marksP (B : Bis mg) (L : LK w K mg base fa fn tq) {fd : FuncData} (F1 : Fd K d_Sieve_marks ["self", "word"] fd) (G_check_word : Df P w K mg base (tbOf K tq) 3 "check_word" ["word"] (spF K check_word_W)) (G_word_sum : Df P w K mg base (tbOf K tq) 4 "word_sum" ["word", "step", "size"] (spF K word_sum_W)) : FnOk P w K mg base (L2.CX P w) 5 (He.fAd K d_Sieve_marks.at_) fd ["self", "word"] (toSp K (tbOf K tq) 2 (spO2 K Sieve_marksP_W)) := by
  refine fn_O2 (γ := SieveV) (k := 4) none L F1 Sieve_marksP_S Sieve_marksP_W noneNo (fun _ => rfl) ?_
  intro q0 a0 z self1 t Q E h ye tbl
  obtain ⟨word2, ⟨⟩⟩ := t
  show Ws _ (⟨[some (raw (.ref q0)), some (pu word2), none], [(a0, dctc self1.bits.kvs), _]⟩ : DSt) _ _
  refine s_expr (R := fun (v4 : Unit) => (Sieve_marksP_w1 self1 word2 Q)) (c_call (w := check_word_W) 0 ye G_check_word (Nat.le_of_ble_eq_true rfl) rfl (a_cons (c_v 1 rfl rfl) a_nil) (fun _ => rfl) rfl) ?_ (by exact h)
  intro v4 h
  try dsimp only
  refine s_ret (R := fun (v8 : (Tup Int)) => Q v8) (c_tupL B (by rfl) (c_l (c_sortedD ye.ok B (by rfl) (c_d (c_dictL ye.ok B (by rfl) (c_l (c_L ye.ok (l_lcX0 (.n 2) [("step", 2)] ye.ok (i_tup (c_fldO 0 1 (He.cls_ok (L.d.fact 48 rfl)) (He.noat_ok (L.d.fact 51 rfl)) rfl rfl rfl rfl)) (show BlkOk Sieve_marksP_N d_Sieve_marks.scope _ _ from blk_by (by decide +kernel)) (fun z => (tg_blk ye.ok z 2 rfl)) (fun _ (x5 : Int) _ _ => (c_tup2 (a_cons (c_call (w := word_sum_W) 0 ye.blk G_word_sum (Nat.le_of_ble_eq_true rfl) rfl (a_cons (c_v 1 rfl rfl) (a_cons (c_v 2 rfl rfl) (a_cons (c_fldO 0 2 (He.cls_ok (L.d.fact 48 rfl)) (He.noat_ok (L.d.fact 50 rfl)) rfl rfl rfl rfl) a_nil))) (fun _ => rfl) trivial) (a_cons c_int a_nil)))))))))))) (by exact h) ?_
  intro v8 h
  try dsimp only
  exact ⟨⟨0, rfl⟩, _, rfl, h⟩
abbrev Sieve_put_N : List Str := ["self", "word", "mark"]
theorem Sieve_put_S : FnScope Sieve_put_N ["self", "word"] d_Sieve_put.scope := ⟨rfl, rfl, rfl, by decide +kernel, rfl, by decide +kernel, by decide +kernel⟩
theorem ok_Sieve_put (B : Bis mg) (L : LK w K mg base fa fn tq) {fd : FuncData} (F1 : Fd K d_Sieve_put ["self", "word"] fd) (G_Sieve_marks : Mt P w K mg base (tbOf K tq) 5 (He.ga K "Sieve") "marks" ["self", "word"] (spF K Sieve_marks_W)) : FnOk P w K mg base (L2.CX P w) 6 (He.fAd K d_Sieve_put.at_) fd ["self", "word"] (toSp K (tbOf K tq) 2 (spF K Sieve_put_W)) := by
  refine fn_F (k := 5) (some ()) L F1 Sieve_put_S Sieve_put_W noneUnit (fun _ => rfl) ?_
  intro z t Q E h ye tbl
  obtain ⟨self1, word2, ⟨⟩⟩ := t
  show Ws _ (⟨[some (pu self1), some (pu word2), none], []⟩ : DSt) _ _
  refine s_for (β := Int) (Z := Unit) (J := Unit) (Body := fun (x : Int) (z : Unit) (nx : Unit → Prop) => False) (Rest := fun (z : Unit) => False) (.n 2) (fun (z : Unit) (j : Unit) => (⟨[some (pu self1), some (pu word2), none], []⟩ : DSt)) () () ye.ok (i_tup (c_meth (w := Sieve_marks_W) 0 ye G_Sieve_marks (He.cls_ok (L.d.fact 48 rfl)) (Nat.le_of_ble_eq_true rfl) (c_v 0 rfl rfl) (a_cons (c_v 1 rfl rfl) a_nil) (fun _ => rfl) rfl)) (tg_nm ye.ok.nd 2 rfl) rfl (fun _ _ _ _ h => h.elim) (fun _ _ h => h.elim) (by exact h)
abbrev Sieve_putP_N : List Str := ["self", "word", "mark"]
theorem Sieve_putP_S : FnScope Sieve_putP_N ["self", "word"] d_Sieve_put.scope := ⟨rfl, rfl, rfl, by decide +kernel, rfl, by decide +kernel, by decide +kernel⟩
theorem ok_Sieve_putP (B : Bis mg) (L : LK w K mg base fa fn tq) {fd : FuncData} (F1 : Fd K d_Sieve_put ["self", "word"] fd) (G_Sieve_marksP : Mt P w K mg base (tbOf K tq) 5 (He.ga K "Sieve") "marks" ["self", "word"] (spO2 K Sieve_marksP_W)) : FnOk P w K mg base (L2.CX P w) 6 (He.fAd K d_Sieve_put.at_) fd ["self", "word"] (toSp K (tbOf K tq) 2 (spM2 K Sieve_putP_W)) := by
  refine fn_M2 (γ := SieveV) (k := 5) (some ()) L F1 Sieve_putP_S Sieve_putP_W noneUnit (fun _ => rfl) ?_
  intro q0 a0 z self1 t Q E h ye tbl
  obtain ⟨word2, ⟨⟩⟩ := t
  show Ws _ (⟨[some (raw (.ref q0)), some (pu word2), none], [(a0, dctc self1.bits.kvs), _]⟩ : DSt) _ _
  refine s_for (Z := SieveV) (J := Option Pv) (Body := (fun (x4 : Int) (z5 : SieveV) (nx7 : SieveV → Prop) => (Sieve_putP_w1 x4 nx7 z5))) (Rest := (fun (z10 : SieveV) => (Sieve_putP_w2 z10 Q))) (.n 2) (fun (z5 : SieveV) (j6 : Option Pv) => (⟨[some (raw (.ref q0)), some (pu word2), j6], [(a0, dctc z5.bits.kvs), (q0, insc (He.ga K "Sieve") [("size", pu z5.size), ("steps", pu z5.steps), ("bits", raw (.ref a0))])]⟩ : DSt)) (SieveV.mk self1.size self1.steps (Dct.mk self1.bits.kvs)) none ye.ok (i_tup (c_methO2 (mm := (SieveV.mk self1.size self1.steps (Dct.mk self1.bits.kvs))) (w := Sieve_marksP_W) 0 0 0 ye G_Sieve_marksP (He.cls_ok (L.d.fact 48 rfl)) (Nat.le_of_ble_eq_true rfl) rfl rfl rfl rfl (a_cons (c_v 1 rfl rfl) a_nil) (fun _ => rfl) rfl)) (tg_nm ye.ok.nd 2 rfl) rfl ?_ ?_ (by exact h)
  · intro x4 self8 j6 nx7 h
    try dsimp only
    show Ws _ (⟨[some (raw (.ref q0)), some (pu word2), some (pu x4)], [(a0, dctc self8.bits.kvs), _]⟩ : DSt) _ _
    refine s_fput (R := fun (self_bits9 : List (Int × Bool)) => nx7 (SieveV.mk self8.size self8.steps (Dct.mk self_bits9))) 0 1 0 (He.cls_ok (L.d.fact 48 rfl)) (He.noat_ok (L.d.fact 52 rfl)) ye.ok rfl rfl rfl rfl rfl c_bl (c_v 2 rfl rfl) ?_ (by exact h)
    intro self_bits9 h
    try dsimp only
    show Ws _ (⟨[some (raw (.ref q0)), some (pu word2), some (pu x4)], [(a0, dctc self_bits9), _]⟩ : DSt) _ _
    exact ws_nil ⟨(SieveV.mk self8.size self8.steps (Dct.mk self_bits9)), some (pu x4), rfl, h⟩
  intro self12 j11 h
  try dsimp only
  show Ws _ (⟨[some (raw (.ref q0)), some (pu word2), j11], [(a0, dctc self12.bits.kvs), _]⟩ : DSt) _ _
  exact ws_nil ⟨(), (SieveV.mk self12.size self12.steps (Dct.mk self12.bits.kvs)), ⟨0, rfl⟩, rfl, h⟩
abbrev Sieve_may_have_N : List Str := ["self", "word", "mark"]
theorem Sieve_may_have_S : FnScope Sieve_may_have_N ["self", "word"] d_Sieve_may_have.scope := ⟨rfl, rfl, rfl, by decide +kernel, rfl, by decide +kernel, by decide +kernel⟩
theorem ok_Sieve_may_have (B : Bis mg) (L : LK w K mg base fa fn tq) {fd : FuncData} (F1 : Fd K d_Sieve_may_have ["self", "word"] fd) (G_Sieve_marks : Mt P w K mg base (tbOf K tq) 5 (He.ga K "Sieve") "marks" ["self", "word"] (spF K Sieve_marks_W)) : FnOk P w K mg base (L2.CX P w) 6 (He.fAd K d_Sieve_may_have.at_) fd ["self", "word"] (toSp K (tbOf K tq) 2 (spF K Sieve_may_have_W)) := by
  refine fn_F (k := 5) none L F1 Sieve_may_have_S Sieve_may_have_W noneNo (fun _ => rfl) ?_
  intro z t Q E h ye tbl
  obtain ⟨self1, word2, ⟨⟩⟩ := t
  show Ws _ (⟨[some (pu self1), some (pu word2), none], []⟩ : DSt) _ _
  refine s_ret (R := fun (v7 : Bool) => Q v7) (c_allX0 (.n 2) 0 [2] ye.ok B (by rfl) (Nat.le_of_ble_eq_true rfl) (i_tup (c_meth (w := Sieve_marks_W) 0 ye G_Sieve_marks (He.cls_ok (L.d.fact 48 rfl)) (Nat.le_of_ble_eq_true rfl) (c_v 0 rfl rfl) (a_cons (c_v 1 rfl rfl) a_nil) (fun _ => rfl) rfl)) (show GenOk Sieve_may_have_N d_Sieve_may_have.scope _ _ from genOk_by (by decide +kernel)) (.pl (tbl _ (List.mem_of_getElem? (i := 1) rfl))) (fun z => (tg_gen ye.ok z 2 rfl)) (fun _ o (x4 : Int) => (c_k (k_inD o (c_v 2 rfl rfl) (c_d (c_fld SieveV.bits (He.cls_ok (L.d.fact 48 rfl)) (He.noat_ok (L.d.fact 52 rfl)) (c_v 0 rfl rfl))))))) (by exact h) ?_
  intro v7 h
  try dsimp only
  exact ⟨⟨0, rfl⟩, _, rfl, h⟩
abbrev Sieve_how_full_N : List Str := ["self"]
theorem Sieve_how_full_S : FnScope Sieve_how_full_N ["self"] d_Sieve_how_full.scope := ⟨rfl, rfl, rfl, by decide +kernel, rfl, by decide +kernel, by decide +kernel⟩
theorem ok_Sieve_how_full (B : Bis mg) (L : LK w K mg base fa fn tq) {fd : FuncData} (F1 : Fd K d_Sieve_how_full ["self"] fd)  : FnOk P w K mg base (L2.CX P w) 1 (He.fAd K d_Sieve_how_full.at_) fd ["self"] (toSp K (tbOf K tq) 1 (spF K Sieve_how_full_W)) := by
  refine fn_F (k := 0) none L F1 Sieve_how_full_S Sieve_how_full_W noneNo (fun _ => rfl) ?_
  intro z t Q E h ye tbl
  obtain ⟨self1, ⟨⟩⟩ := t
  show Ws _ (⟨[some (pu self1)], []⟩ : DSt) _ _
  refine s_ret (R := fun (v2 : (Int × Int)) => Q v2) (c_tup2 (a_cons (c_lenD B (by rfl) (c_d (c_fld SieveV.bits (He.cls_ok (L.d.fact 48 rfl)) (He.noat_ok (L.d.fact 52 rfl)) (c_v 0 rfl rfl)))) (a_cons (c_fld SieveV.size (He.cls_ok (L.d.fact 48 rfl)) (He.noat_ok (L.d.fact 50 rfl)) (c_v 0 rfl rfl)) a_nil))) (by exact h) ?_
  intro v2 h
  try dsimp only
  exact ⟨⟨0, rfl⟩, _, rfl, h⟩
abbrev Sieve_wrongly_N : List Str := ["self", "words", "others", "unlike", "one", "word"]
theorem Sieve_wrongly_S : FnScope Sieve_wrongly_N ["self", "words", "others"] d_Sieve_wrongly.scope := ⟨rfl, rfl, rfl, by decide +kernel, rfl, by decide +kernel, by decide +kernel⟩
theorem ok_Sieve_wrongly (B : Bis mg) (L : LK w K mg base fa fn tq) {fd : FuncData} (F1 : Fd K d_Sieve_wrongly ["self", "words", "others"] fd) (G_Sieve_may_have : Mt P w K mg base (tbOf K tq) 6 (He.ga K "Sieve") "may_have" ["self", "word"] (spF K Sieve_may_have_W)) : FnOk P w K mg base (L2.CX P w) 7 (He.fAd K d_Sieve_wrongly.at_) fd ["self", "words", "others"] (toSp K (tbOf K tq) 3 (spF K Sieve_wrongly_W)) := by
  refine fn_F (k := 6) none L F1 Sieve_wrongly_S Sieve_wrongly_W noneNo (fun _ => rfl) ?_
  intro z t Q E h ye tbl
  obtain ⟨self1, words2, others3, ⟨⟩⟩ := t
  show Ws _ (⟨[some (pu self1), some (pu words2), some (pu others3), none, none, none], []⟩ : DSt) _ _
  refine s_asg (R := fun (unlike5 : (List Txt)) => (Sieve_wrongly_w1 self1 words2 unlike5 Q)) 3 ye.ok rfl (c_sortedD ye.ok B (by rfl) (c_d (c_dictL ye.ok B (by rfl) (c_l (c_L ye.ok (l_lc0 (.n 4) [("one", 4)] (fun (x4 : Txt) => (x4, (1 : Int))) ye.ok (i_list (c_v 2 rfl rfl)) (show BlkOk Sieve_wrongly_N d_Sieve_wrongly.scope _ _ from blk_by (by decide +kernel)) (fun z => (tg_blk ye.ok z 4 rfl)) (fun _ (x4 : Txt) _ _ => (c_tup2 (a_cons (c_v 4 rfl rfl) (a_cons c_int a_nil)))))))))) ?_ (by exact h)
  intro unlike5 h
  try dsimp only
  show Ws _ (⟨[some (pu self1), some (pu words2), some (pu others3), some (pu unlike5), none, none], []⟩ : DSt) _ _
  refine s_ret (R := fun (v10 : (Tup Txt)) => Q v10) (c_tupL B (by rfl) (c_l (c_L ye.ok (l_lcX (.n 5) [("word", 5)] ye.ok (i_list (c_v 3 rfl rfl)) (show BlkOk Sieve_wrongly_N d_Sieve_wrongly.scope _ _ from blk_by (by decide +kernel)) (fun z => (tg_blk ye.ok z 5 rfl)) (fun _ (x6 : Txt) _ _ => ts_one (t_w (w_and (t_k (k_nin ye.ok.blk (c_v 5 rfl rfl) (c_l (c_v 1 rfl rfl)))) (w_and1 (t_v (fun _ => rfl) (c_meth (w := Sieve_may_have_W) 0 ye.blk G_Sieve_may_have (He.cls_ok (L.d.fact 48 rfl)) (Nat.le_of_ble_eq_true rfl) (c_v 0 rfl rfl) (a_cons (c_v 5 rfl rfl) a_nil) (fun _ => rfl) trivial)))))) (fun _ (x6 : Txt) _ _ => (c_v 5 rfl rfl)))))) (by exact h) ?_
  intro v10 h
  try dsimp only
  exact ⟨⟨0, rfl⟩, _, rfl, h⟩
abbrev Sieve_joined_N : List Str := ["self", "other", "found"]
theorem Sieve_joined_S : FnScope Sieve_joined_N ["self", "other"] d_Sieve_joined.scope := ⟨rfl, rfl, rfl, by decide +kernel, rfl, by decide +kernel, by decide +kernel⟩
theorem ok_Sieve_joined (B : Bis mg) (L : LK w K mg base fa fn tq) {fd : FuncData} (F1 : Fd K d_Sieve_joined ["self", "other"] fd) (G_Sieve_init_2 : Mkr P w K mg base (tbOf K tq) 1 "Sieve" (He.ga K "Sieve") ["self", "size", "steps"] (spI K Sieve_init_2_W)) : FnOk P w K mg base (L2.CX P w) 3 (He.fAd K d_Sieve_joined.at_) fd ["self", "other"] (toSp K (tbOf K tq) 2 (spF K Sieve_joined_W)) := by
  refine fn_F (k := 2) none L F1 Sieve_joined_S Sieve_joined_W noneNo (fun _ => rfl) ?_
  intro z t Q E h ye tbl
  obtain ⟨self1, other2, ⟨⟩⟩ := t
  show Ws _ (⟨[some (pu self1), some (pu other2), none], []⟩ : DSt) _ _
  refine s_if (B := E .BadCount) (C := (Sieve_joined_w2 self1 other2 Q E)) (t_k (k_ne ye.ok (c_tup2 (a_cons (c_fld SieveV.size (He.cls_ok (L.d.fact 48 rfl)) (He.noat_ok (L.d.fact 50 rfl)) (c_v 0 rfl rfl)) (a_cons (c_fld SieveV.steps (He.cls_ok (L.d.fact 48 rfl)) (He.noat_ok (L.d.fact 51 rfl)) (c_v 0 rfl rfl)) a_nil))) (c_tup2 (a_cons (c_fld SieveV.size (He.cls_ok (L.d.fact 48 rfl)) (He.noat_ok (L.d.fact 50 rfl)) (c_v 1 rfl rfl)) (a_cons (c_fld SieveV.steps (He.cls_ok (L.d.fact 48 rfl)) (He.noat_ok (L.d.fact 51 rfl)) (c_v 1 rfl rfl)) a_nil))))) ?_ ?_ (by exact h)
  · intro h
    exact s_raise 0 .BadCount ye (L.err 82 23) rfl rfl rfl (by exact h)
  intro h
  refine ws_nil ?_
  refine s_asgI (R := fun (found4 : SieveV) => (Sieve_joined_w1 self1 other2 found4 Q)) 2 ye.ok rfl (i_make (γ := SieveV) (w := Sieve_init_2_W) 0 ye G_Sieve_init_2 (Nat.le_of_ble_eq_true rfl) rfl (a_cons (c_fld SieveV.size (He.cls_ok (L.d.fact 48 rfl)) (He.noat_ok (L.d.fact 50 rfl)) (c_v 0 rfl rfl)) (a_cons (c_fld SieveV.steps (He.cls_ok (L.d.fact 48 rfl)) (He.noat_ok (L.d.fact 51 rfl)) (c_v 0 rfl rfl)) a_nil)) (fun _ => rfl) rfl) ?_ (by exact h)
  intro q5 found4 h
  try dsimp only
  show Ws _ (⟨[some (pu self1), some (pu other2), some (raw (.ref q5))], [_]⟩ : DSt) _ _
  refine s_fld (hl := by first | decide | exact of_decide_eq_true rfl) (R := fun (bits6 : (Dct Int Bool)) => Q (SieveV.mk found4.size found4.steps bits6)) 2 0 (He.cls_ok (L.d.fact 48 rfl)) (He.noat_ok (L.d.fact 52 rfl)) rfl rfl rfl (c_dictL ye.ok B (by rfl) (c_l (c_catL (c_l (c_listIt ye.ok B (by rfl) (c_d (c_fld SieveV.bits (He.cls_ok (L.d.fact 48 rfl)) (He.noat_ok (L.d.fact 52 rfl)) (c_v 0 rfl rfl))))) (c_l (c_listIt ye.ok B (by rfl) (c_d (c_fld SieveV.bits (He.cls_ok (L.d.fact 48 rfl)) (He.noat_ok (L.d.fact 52 rfl)) (c_v 1 rfl rfl)))))))) ?_ (by exact h)
  intro bits6 h
  try dsimp only
  show Ws _ (⟨[some (pu self1), some (pu other2), some (raw (.ref q5))], [_]⟩ : DSt) _ _
  refine ws_frI (mm := (SieveV.mk found4.size found4.steps bits6)) 2 0 rfl rfl ?_
  refine s_ret (R := fun (v7 : SieveV) => Q v7) (c_v 2 rfl rfl) (by exact h) ?_
  intro v7 h
  try dsimp only
  exact ⟨⟨0, rfl⟩, _, rfl, h⟩
abbrev Sieve_folded_N : List Str := ["self", "found", "mark"]
theorem Sieve_folded_S : FnScope Sieve_folded_N ["self"] d_Sieve_folded.scope := ⟨rfl, rfl, rfl, by decide +kernel, rfl, by decide +kernel, by decide +kernel⟩
theorem ok_Sieve_folded (B : Bis mg) (L : LK w K mg base fa fn tq) {fd : FuncData} (F1 : Fd K d_Sieve_folded ["self"] fd) (G_Sieve_init_2P : Mkr P w K mg base (tbOf K tq) 1 "Sieve" (He.ga K "Sieve") ["self", "size", "steps"] (spI2 K Sieve_init_2P_W)) : FnOk P w K mg base (L2.CX P w) 3 (He.fAd K d_Sieve_folded.at_) fd ["self"] (toSp K (tbOf K tq) 1 (spF K Sieve_folded_W)) := by
  refine fn_F (k := 2) none L F1 Sieve_folded_S Sieve_folded_W noneNo (fun _ => rfl) ?_
  intro z t Q E h ye tbl
  obtain ⟨self1, ⟨⟩⟩ := t
  show Ws _ (⟨[some (pu self1), none, none], []⟩ : DSt) _ _
  refine s_if (B := E .BadCount) (C := (Sieve_folded_w4 self1 Q E)) (t_k (k_eq ye.ok (c_mod (c_fld SieveV.size (He.cls_ok (L.d.fact 48 rfl)) (He.noat_ok (L.d.fact 50 rfl)) (c_v 0 rfl rfl)) c_int) c_int)) ?_ ?_ (by exact h)
  · intro h
    exact s_raise 0 .BadCount ye (L.err 82 23) rfl rfl rfl (by exact h)
  intro h
  refine ws_nil ?_
  refine s_asgI2 (R := fun (found3 : SieveV) => (Sieve_folded_w3 self1 found3 Q)) 1 ye.ok rfl (i_make2 (γ := SieveV) (w := Sieve_init_2P_W) 0 ye G_Sieve_init_2P (Nat.le_of_ble_eq_true rfl) rfl (a_cons (c_fdiv (c_fld SieveV.size (He.cls_ok (L.d.fact 48 rfl)) (He.noat_ok (L.d.fact 50 rfl)) (c_v 0 rfl rfl)) c_int) (a_cons (c_fld SieveV.steps (He.cls_ok (L.d.fact 48 rfl)) (He.noat_ok (L.d.fact 51 rfl)) (c_v 0 rfl rfl)) a_nil)) (fun _ => rfl) rfl) ?_ (by exact h)
  intro q4 a5 found3 h
  try dsimp only
  show Ws _ (⟨[some (pu self1), some (raw (.ref q4)), none], [(a5, dctc found3.bits.kvs), _]⟩ : DSt) _ _
  refine s_for (Z := SieveV) (J := Option Pv) (Body := (fun (x6 : Int) (z7 : SieveV) (nx9 : SieveV → Prop) => (Sieve_folded_w1 x6 nx9 z7))) (Rest := (fun (z12 : SieveV) => (Sieve_folded_w2 z12 Q))) (.n 2) (fun (z7 : SieveV) (j8 : Option Pv) => (⟨[some (pu self1), some (raw (.ref q4)), j8], [(a5, dctc z7.bits.kvs), (q4, insc (He.ga K "Sieve") [("size", pu z7.size), ("steps", pu z7.steps), ("bits", raw (.ref a5))])]⟩ : DSt)) (SieveV.mk found3.size found3.steps (Dct.mk found3.bits.kvs)) none ye.ok (i_keys (c_fld SieveV.bits (He.cls_ok (L.d.fact 48 rfl)) (He.noat_ok (L.d.fact 52 rfl)) (c_v 0 rfl rfl))) (tg_nm ye.ok.nd 2 rfl) rfl ?_ ?_ (by exact h)
  · intro x6 found10 j8 nx9 h
    try dsimp only
    show Ws _ (⟨[some (pu self1), some (raw (.ref q4)), some (pu x6)], [(a5, dctc found10.bits.kvs), _]⟩ : DSt) _ _
    refine s_fput (R := fun (found_bits11 : List (Int × Bool)) => nx9 (SieveV.mk found10.size found10.steps (Dct.mk found_bits11))) 1 1 0 (He.cls_ok (L.d.fact 48 rfl)) (He.noat_ok (L.d.fact 52 rfl)) ye.ok rfl rfl rfl rfl rfl c_bl (c_mod (c_v 2 rfl rfl) (c_fldO 1 1 (He.cls_ok (L.d.fact 48 rfl)) (He.noat_ok (L.d.fact 50 rfl)) rfl rfl rfl rfl)) ?_ (by exact h)
    intro found_bits11 h
    try dsimp only
    show Ws _ (⟨[some (pu self1), some (raw (.ref q4)), some (pu x6)], [(a5, dctc found_bits11), _]⟩ : DSt) _ _
    exact ws_nil ⟨(SieveV.mk found10.size found10.steps (Dct.mk found_bits11)), some (pu x6), rfl, h⟩
  intro found14 j13 h
  try dsimp only
  show Ws _ (⟨[some (pu self1), some (raw (.ref q4)), j13], [(a5, dctc found14.bits.kvs), _]⟩ : DSt) _ _
  refine ws_frFD (f := "bits") 1 0 (by decide) rfl rfl rfl ?_
  refine ws_frI (mm := (SieveV.mk found14.size found14.steps (Dct.mk found14.bits.kvs))) 1 0 rfl rfl ?_
  refine s_ret (R := fun (v15 : SieveV) => Q v15) (c_v 1 rfl rfl) (by exact h) ?_
  intro v15 h
  try dsimp only
  exact ⟨⟨0, rfl⟩, _, rfl, h⟩
abbrev Sieve_key_N : List Str := ["self"]
theorem Sieve_key_S : FnScope Sieve_key_N ["self"] d_Sieve_key.scope := ⟨rfl, rfl, rfl, by decide +kernel, rfl, by decide +kernel, by decide +kernel⟩
theorem ok_Sieve_key (B : Bis mg) (L : LK w K mg base fa fn tq) {fd : FuncData} (F1 : Fd K d_Sieve_key ["self"] fd)  : FnOk P w K mg base (L2.CX P w) 1 (He.fAd K d_Sieve_key.at_) fd ["self"] (toSp K (tbOf K tq) 1 (spF K Sieve_key_W)) := by
  refine fn_F (k := 0) none L F1 Sieve_key_S Sieve_key_W noneNo (fun _ => rfl) ?_
  intro z t Q E h ye tbl
  obtain ⟨self1, ⟨⟩⟩ := t
  show Ws _ (⟨[some (pu self1)], []⟩ : DSt) _ _
  refine s_ret (R := fun (v2 : (T3 Int (Tup Int) (Tup Int))) => Q v2) (c_tup3 (a_cons (c_fld SieveV.size (He.cls_ok (L.d.fact 48 rfl)) (He.noat_ok (L.d.fact 50 rfl)) (c_v 0 rfl rfl)) (a_cons (c_fld SieveV.steps (He.cls_ok (L.d.fact 48 rfl)) (He.noat_ok (L.d.fact 51 rfl)) (c_v 0 rfl rfl)) (a_cons (c_tupL B (by rfl) (c_l (c_sortedD ye.ok B (by rfl) (c_d (c_fld SieveV.bits (He.cls_ok (L.d.fact 48 rfl)) (He.noat_ok (L.d.fact 52 rfl)) (c_v 0 rfl rfl)))))) a_nil)))) (by exact h) ?_
  intro v2 h
  try dsimp only
  exact ⟨⟨0, rfl⟩, _, rfl, h⟩
abbrev sieve_of_N : List Str := ["words", "size", "steps", "found", "word"]
theorem sieve_of_S : FnScope sieve_of_N ["words", "size", "steps"] d_sieve_of.scope := ⟨rfl, rfl, rfl, by decide +kernel, rfl, by decide +kernel, by decide +kernel⟩
theorem ok_sieve_of (B : Bis mg) (L : LK w K mg base fa fn tq) {fd : FuncData} (F1 : Fd K d_sieve_of ["words", "size", "steps"] fd) (G_Sieve_initP : Mkr P w K mg base (tbOf K tq) 1 "Sieve" (He.ga K "Sieve") ["self", "size", "steps"] (spI2 K Sieve_initP_W)) (G_Sieve_putP : Mt P w K mg base (tbOf K tq) 6 (He.ga K "Sieve") "put" ["self", "word"] (spM2 K Sieve_putP_W)) : FnOk P w K mg base (L2.CX P w) 7 (He.fAd K d_sieve_of.at_) fd ["words", "size", "steps"] (toSp K (tbOf K tq) 3 (spF K sieve_of_W)) := by
  refine fn_F (k := 6) none L F1 sieve_of_S sieve_of_W noneNo (fun _ => rfl) ?_
  intro z t Q E h ye tbl
  obtain ⟨words1, size2, steps3, ⟨⟩⟩ := t
  show Ws _ (⟨[some (pu words1), some (pu size2), some (pu steps3), none, none], []⟩ : DSt) _ _
  refine s_asgI2 (R := fun (found5 : SieveV) => (sieve_of_w3 words1 found5 Q E)) 3 ye.ok rfl (i_make2 (γ := SieveV) (w := Sieve_initP_W) 0 ye G_Sieve_initP (Nat.le_of_ble_eq_true rfl) rfl (a_cons (c_v 1 rfl rfl) (a_cons (c_v 2 rfl rfl) a_nil)) (fun _ => rfl) rfl) ?_ (by exact h)
  intro q6 a7 found5 h
  try dsimp only
  show Ws _ (⟨[some (pu words1), some (pu size2), some (pu steps3), some (raw (.ref q6)), none], [(a7, dctc found5.bits.kvs), _]⟩ : DSt) _ _
  refine s_for (Z := SieveV) (J := Option Pv) (Body := (fun (x8 : Txt) (z9 : SieveV) (nx11 : SieveV → Prop) => (sieve_of_w1 x8 nx11 z9 E))) (Rest := (fun (z15 : SieveV) => (sieve_of_w2 z15 Q))) (.n 4) (fun (z9 : SieveV) (j10 : Option Pv) => (⟨[some (pu words1), some (pu size2), some (pu steps3), some (raw (.ref q6)), j10], [(a7, dctc z9.bits.kvs), (q6, insc (He.ga K "Sieve") [("size", pu z9.size), ("steps", pu z9.steps), ("bits", raw (.ref a7))])]⟩ : DSt)) (SieveV.mk found5.size found5.steps (Dct.mk found5.bits.kvs)) none ye.ok (i_list (c_v 0 rfl rfl)) (tg_nm ye.ok.nd 4 rfl) rfl ?_ ?_ (by exact h)
  · intro x8 found12 j10 nx11 h
    try dsimp only
    show Ws _ (⟨[some (pu words1), some (pu size2), some (pu steps3), some (raw (.ref q6)), some (pu x8)], [(a7, dctc found12.bits.kvs), _]⟩ : DSt) _ _
    refine s_exprS (R := fun (z9 : Unit × SieveV) => nx11 (SieveV.mk z9.2.size z9.2.steps (Dct.mk z9.2.bits.kvs))) (c_methM2 (mm := (SieveV.mk found12.size found12.steps (Dct.mk found12.bits.kvs))) (w := Sieve_putP_W) 3 0 2 ye G_Sieve_putP (He.cls_ok (L.d.fact 48 rfl)) (Nat.le_of_ble_eq_true rfl) rfl rfl rfl rfl (a_cons (c_v 4 rfl rfl) a_nil) (fun _ => rfl) rfl) ?_ (by exact h)
    intro v9 found14 h
    try dsimp only
    show Ws _ (⟨[some (pu words1), some (pu size2), some (pu steps3), some (raw (.ref q6)), some (pu x8)], [(a7, dctc found14.bits.kvs), _]⟩ : DSt) _ _
    exact ws_nil ⟨(SieveV.mk found14.size found14.steps (Dct.mk found14.bits.kvs)), some (pu x8), rfl, h⟩
  intro found17 j16 h
  try dsimp only
  show Ws _ (⟨[some (pu words1), some (pu size2), some (pu steps3), some (raw (.ref q6)), j16], [(a7, dctc found17.bits.kvs), _]⟩ : DSt) _ _
  refine ws_frFD (f := "bits") 1 0 (by decide) rfl rfl rfl ?_
  refine ws_frI (mm := (SieveV.mk found17.size found17.steps (Dct.mk found17.bits.kvs))) 3 0 rfl rfl ?_
  refine s_ret (R := fun (v18 : SieveV) => Q v18) (c_v 3 rfl rfl) (by exact h) ?_
  intro v18 h
  try dsimp only
  exact ⟨⟨0, rfl⟩, _, rfl, h⟩
abbrev Tallies_initP_N : List Str := ["self", "size", "steps"]
theorem Tallies_initP_S : FnScope Tallies_initP_N ["self", "size", "steps"] d_Tallies_init.scope := ⟨rfl, rfl, rfl, by decide +kernel, rfl, by decide +kernel, by decide +kernel⟩
theorem ok_Tallies_initP (B : Bis mg) (L : LK w K mg base fa fn tq) {fd : FuncData} (F1 : Fd K d_Tallies_init ["self", "size", "steps"] fd) (G_Sieve_init : Mkr P w K mg base (tbOf K tq) 1 "Sieve" (He.ga K "Sieve") ["self", "size", "steps"] (spI K Sieve_init_W)) : FnOk P w K mg base (L2.CX P w) 3 (He.fAd K d_Tallies_init.at_) fd ["self", "size", "steps"] (toSp K (tbOf K tq) 3 (spI2 K Tallies_initP_W)) := by
  refine fn_I2 (γ := TalliesV) (k := 2) L F1 Tallies_initP_S Tallies_initP_W (fun _ => rfl) ?_
  intro q0 z t Q E h ye tbl
  obtain ⟨size1, steps2, ⟨⟩⟩ := t
  show Ws _ (⟨[some (raw (.ref q0)), some (pu size1), some (pu steps2)], [_]⟩ : DSt) _ _
  refine s_fld (hl := by first | decide | exact of_decide_eq_true rfl) (R := fun (sieve4 : SieveV) => Q (TalliesV.mk sieve4 (Dct.mk ([] : List (Int × Int))))) 0 0 (He.cls_ok (L.d.fact 61 rfl)) (He.noat_ok (L.d.fact 63 rfl)) rfl rfl rfl (c_make (γ := SieveV) (w := Sieve_init_W) 0 ye G_Sieve_init (Nat.le_of_ble_eq_true rfl) rfl (a_cons (c_v 1 rfl rfl) (a_cons (c_v 2 rfl rfl) a_nil)) (fun _ => rfl) ⟨_, rfl⟩) ?_ (by exact h)
  intro sieve4 h
  try dsimp only
  show Ws _ (⟨[some (raw (.ref q0)), some (pu size1), some (pu steps2)], [_]⟩ : DSt) _ _
  refine s_fldM (hl := by first | decide | exact of_decide_eq_true rfl) (R := fun (counts5 : List (Int × Int)) => Q (TalliesV.mk sieve4 (Dct.mk counts5))) 0 0 (He.cls_ok (L.d.fact 61 rfl)) (He.noat_ok (L.d.fact 64 rfl)) rfl rfl rfl (m_new (κ := Int) (ν := Int)) ?_ (by exact h)
  intro q6 counts5 h
  try dsimp only
  show Ws _ (⟨[some (raw (.ref q0)), some (pu size1), some (pu steps2)], [(q6, dctc counts5), _]⟩ : DSt) _ _
  exact ws_nil ⟨_, (TalliesV.mk sieve4 (Dct.mk counts5)), ⟨0, rfl⟩, h⟩
abbrev Tallies_putP_N : List Str := ["self", "word", "mark"]
theorem Tallies_putP_S : FnScope Tallies_putP_N ["self", "word"] d_Tallies_put.scope := ⟨rfl, rfl, rfl, by decide +kernel, rfl, by decide +kernel, by decide +kernel⟩
theorem ok_Tallies_putP (B : Bis mg) (L : LK w K mg base fa fn tq) {fd : FuncData} (F1 : Fd K d_Tallies_put ["self", "word"] fd) (G_Sieve_marks : Mt P w K mg base (tbOf K tq) 5 (He.ga K "Sieve") "marks" ["self", "word"] (spF K Sieve_marks_W)) : FnOk P w K mg base (L2.CX P w) 6 (He.fAd K d_Tallies_put.at_) fd ["self", "word"] (toSp K (tbOf K tq) 2 (spM2 K Tallies_putP_W)) := by
  refine fn_M2 (γ := TalliesV) (k := 5) (some ()) L F1 Tallies_putP_S Tallies_putP_W noneUnit (fun _ => rfl) ?_
  intro q0 a0 z self1 t Q E h ye tbl
  obtain ⟨word2, ⟨⟩⟩ := t
  show Ws _ (⟨[some (raw (.ref q0)), some (pu word2), none], [(a0, dctc self1.counts.kvs), _]⟩ : DSt) _ _
  refine s_for (Z := TalliesV) (J := Option Pv) (Body := (fun (x4 : Int) (z5 : TalliesV) (nx7 : TalliesV → Prop) => (Tallies_putP_w1 x4 nx7 z5))) (Rest := (fun (z10 : TalliesV) => (Tallies_putP_w2 z10 Q))) (.n 2) (fun (z5 : TalliesV) (j6 : Option Pv) => (⟨[some (raw (.ref q0)), some (pu word2), j6], [(a0, dctc z5.counts.kvs), (q0, insc (He.ga K "Tallies") [("sieve", pu z5.sieve), ("counts", raw (.ref a0))])]⟩ : DSt)) (TalliesV.mk self1.sieve (Dct.mk self1.counts.kvs)) none ye.ok (i_tup (c_meth (w := Sieve_marks_W) 0 ye G_Sieve_marks (He.cls_ok (L.d.fact 48 rfl)) (Nat.le_of_ble_eq_true rfl) (c_fldO 0 1 (He.cls_ok (L.d.fact 61 rfl)) (He.noat_ok (L.d.fact 63 rfl)) rfl rfl rfl rfl) (a_cons (c_v 1 rfl rfl) a_nil) (fun _ => rfl) rfl)) (tg_nm ye.ok.nd 2 rfl) rfl ?_ ?_ (by exact h)
  · intro x4 self8 j6 nx7 h
    try dsimp only
    show Ws _ (⟨[some (raw (.ref q0)), some (pu word2), some (pu x4)], [(a0, dctc self8.counts.kvs), _]⟩ : DSt) _ _
    refine s_fput (R := fun (self_counts9 : List (Int × Int)) => nx7 (TalliesV.mk self8.sieve (Dct.mk self_counts9))) 0 1 0 (He.cls_ok (L.d.fact 61 rfl)) (He.noat_ok (L.d.fact 64 rfl)) ye.ok rfl rfl rfl rfl rfl (c_add (c_dget2 ye.ok (d_ownF 0 1 0 (He.cls_ok (L.d.fact 61 rfl)) (He.noat_ok (L.d.fact 64 rfl)) rfl rfl rfl rfl rfl) (c_v 2 rfl rfl) c_int) c_int) (c_v 2 rfl rfl) ?_ (by exact h)
    intro self_counts9 h
    try dsimp only
    show Ws _ (⟨[some (raw (.ref q0)), some (pu word2), some (pu x4)], [(a0, dctc self_counts9), _]⟩ : DSt) _ _
    exact ws_nil ⟨(TalliesV.mk self8.sieve (Dct.mk self_counts9)), some (pu x4), rfl, h⟩
  intro self12 j11 h
  try dsimp only
  show Ws _ (⟨[some (raw (.ref q0)), some (pu word2), j11], [(a0, dctc self12.counts.kvs), _]⟩ : DSt) _ _
  exact ws_nil ⟨(), (TalliesV.mk self12.sieve (Dct.mk self12.counts.kvs)), ⟨0, rfl⟩, rfl, h⟩
abbrev Tallies_at_mostP_N : List Str := ["self", "word", "mark"]
theorem Tallies_at_mostP_S : FnScope Tallies_at_mostP_N ["self", "word"] d_Tallies_at_most.scope := ⟨rfl, rfl, rfl, by decide +kernel, rfl, by decide +kernel, by decide +kernel⟩
theorem ok_Tallies_at_mostP (B : Bis mg) (L : LK w K mg base fa fn tq) {fd : FuncData} (F1 : Fd K d_Tallies_at_most ["self", "word"] fd) (G_Sieve_marks : Mt P w K mg base (tbOf K tq) 5 (He.ga K "Sieve") "marks" ["self", "word"] (spF K Sieve_marks_W)) : FnOk P w K mg base (L2.CX P w) 6 (He.fAd K d_Tallies_at_most.at_) fd ["self", "word"] (toSp K (tbOf K tq) 2 (spO2 K Tallies_at_mostP_W)) := by
  refine fn_O2 (γ := TalliesV) (k := 5) none L F1 Tallies_at_mostP_S Tallies_at_mostP_W noneNo (fun _ => rfl) ?_
  intro q0 a0 z self1 t Q E h ye tbl
  obtain ⟨word2, ⟨⟩⟩ := t
  show Ws _ (⟨[some (raw (.ref q0)), some (pu word2), none], [(a0, dctc self1.counts.kvs), _]⟩ : DSt) _ _
  refine s_ret (R := fun (v5 : Int) => Q v5) (c_min ye.ok B (by rfl) (c_l (c_L ye.ok (l_lc0 (.n 2) [("mark", 2)] (fun (x4 : Int) => ((dval self1.counts.kvs x4).getD (0 : Int))) ye.ok (i_tup (c_meth (w := Sieve_marks_W) 0 ye G_Sieve_marks (He.cls_ok (L.d.fact 48 rfl)) (Nat.le_of_ble_eq_true rfl) (c_fldO 0 1 (He.cls_ok (L.d.fact 61 rfl)) (He.noat_ok (L.d.fact 63 rfl)) rfl rfl rfl rfl) (a_cons (c_v 1 rfl rfl) a_nil) (fun _ => rfl) rfl)) (show BlkOk Tallies_at_mostP_N d_Tallies_at_most.scope _ _ from blk_by (by decide +kernel)) (fun z => (tg_blk ye.ok z 2 rfl)) (fun _ (x4 : Int) _ _ => (c_dget2 ye.ok.blk (d_ownF 0 2 1 (He.cls_ok (L.d.fact 61 rfl)) (He.noat_ok (L.d.fact 64 rfl)) rfl rfl rfl rfl rfl) (c_v 2 rfl rfl) c_int)))))) (by exact h) ?_
  intro v5 h
  try dsimp only
  exact ⟨⟨0, rfl⟩, _, rfl, h⟩
abbrev Tallies_takeP_N : List Str := ["self", "word", "mark"]
theorem Tallies_takeP_S : FnScope Tallies_takeP_N ["self", "word"] d_Tallies_take.scope := ⟨rfl, rfl, rfl, by decide +kernel, rfl, by decide +kernel, by decide +kernel⟩
theorem ok_Tallies_takeP (B : Bis mg) (L : LK w K mg base fa fn tq) {fd : FuncData} (F1 : Fd K d_Tallies_take ["self", "word"] fd) (G_Tallies_at_mostP : Mt P w K mg base (tbOf K tq) 6 (He.ga K "Tallies") "at_most" ["self", "word"] (spO2 K Tallies_at_mostP_W)) (G_Sieve_marks : Mt P w K mg base (tbOf K tq) 5 (He.ga K "Sieve") "marks" ["self", "word"] (spF K Sieve_marks_W)) : FnOk P w K mg base (L2.CX P w) 7 (He.fAd K d_Tallies_take.at_) fd ["self", "word"] (toSp K (tbOf K tq) 2 (spM2 K Tallies_takeP_W)) := by
  refine fn_M2 (γ := TalliesV) (k := 6) (some ()) L F1 Tallies_takeP_S Tallies_takeP_W noneUnit (fun _ => rfl) ?_
  intro q0 a0 z self1 t Q E h ye tbl
  obtain ⟨word2, ⟨⟩⟩ := t
  show Ws _ (⟨[some (raw (.ref q0)), some (pu word2), none], [(a0, dctc self1.counts.kvs), _]⟩ : DSt) _ _
  refine s_if (B := E .BadCount) (C := (Tallies_takeP_w3 self1 word2 Q E)) (t_k (k_eq ye.ok (c_methO2 (mm := (TalliesV.mk self1.sieve (Dct.mk self1.counts.kvs))) (w := Tallies_at_mostP_W) 0 0 0 ye G_Tallies_at_mostP (He.cls_ok (L.d.fact 61 rfl)) (Nat.le_of_ble_eq_true rfl) rfl rfl rfl rfl (a_cons (c_v 1 rfl rfl) a_nil) (fun _ => rfl) rfl) c_int)) ?_ ?_ (by exact h)
  · intro h
    exact s_raise 0 .BadCount ye (L.err 82 23) rfl rfl rfl (by exact h)
  intro h
  refine ws_nil ?_
  refine s_for (Z := TalliesV) (J := Option Pv) (Body := (fun (x5 : Int) (z6 : TalliesV) (nx8 : TalliesV → Prop) => (Tallies_takeP_w1 x5 nx8 z6))) (Rest := (fun (z11 : TalliesV) => (Tallies_takeP_w2 z11 Q))) (.n 2) (fun (z6 : TalliesV) (j7 : Option Pv) => (⟨[some (raw (.ref q0)), some (pu word2), j7], [(a0, dctc z6.counts.kvs), (q0, insc (He.ga K "Tallies") [("sieve", pu z6.sieve), ("counts", raw (.ref a0))])]⟩ : DSt)) (TalliesV.mk self1.sieve (Dct.mk self1.counts.kvs)) none ye.ok (i_tup (c_meth (w := Sieve_marks_W) 0 ye G_Sieve_marks (He.cls_ok (L.d.fact 48 rfl)) (Nat.le_of_ble_eq_true rfl) (c_fldO 0 1 (He.cls_ok (L.d.fact 61 rfl)) (He.noat_ok (L.d.fact 63 rfl)) rfl rfl rfl rfl) (a_cons (c_v 1 rfl rfl) a_nil) (fun _ => rfl) rfl)) (tg_nm ye.ok.nd 2 rfl) rfl ?_ ?_ (by exact h)
  · intro x5 self9 j7 nx8 h
    try dsimp only
    show Ws _ (⟨[some (raw (.ref q0)), some (pu word2), some (pu x5)], [(a0, dctc self9.counts.kvs), _]⟩ : DSt) _ _
    refine s_faugSub (R := fun (counts10 : List (Int × Int)) => nx8 (TalliesV.mk self9.sieve (Dct.mk counts10))) 0 1 0 (He.cls_ok (L.d.fact 61 rfl)) (He.noat_ok (L.d.fact 64 rfl)) ye.ok rfl rfl rfl rfl rfl (c_v 2 rfl rfl) c_int ?_ (by exact h)
    intro counts10 h
    try dsimp only
    show Ws _ (⟨[some (raw (.ref q0)), some (pu word2), some (pu x5)], [(a0, dctc counts10), _]⟩ : DSt) _ _
    exact ws_nil ⟨(TalliesV.mk self9.sieve (Dct.mk counts10)), some (pu x5), rfl, h⟩
  intro self13 j12 h
  try dsimp only
  show Ws _ (⟨[some (raw (.ref q0)), some (pu word2), j12], [(a0, dctc self13.counts.kvs), _]⟩ : DSt) _ _
  exact ws_nil ⟨(), (TalliesV.mk self13.sieve (Dct.mk self13.counts.kvs)), ⟨0, rfl⟩, rfl, h⟩
abbrev Tallies_sum_toldP_N : List Str := ["self"]
theorem Tallies_sum_toldP_S : FnScope Tallies_sum_toldP_N ["self"] d_Tallies_sum_told.scope := ⟨rfl, rfl, rfl, by decide +kernel, rfl, by decide +kernel, by decide +kernel⟩
theorem ok_Tallies_sum_toldP (B : Bis mg) (L : LK w K mg base fa fn tq) {fd : FuncData} (F1 : Fd K d_Tallies_sum_told ["self"] fd)  : FnOk P w K mg base (L2.CX P w) 1 (He.fAd K d_Tallies_sum_told.at_) fd ["self"] (toSp K (tbOf K tq) 1 (spO2 K Tallies_sum_toldP_W)) := by
  refine fn_O2 (γ := TalliesV) (k := 0) none L F1 Tallies_sum_toldP_S Tallies_sum_toldP_W noneNo (fun _ => rfl) ?_
  intro q0 a0 z self1 t Q E h ye tbl
  show Ws _ (⟨[some (raw (.ref q0))], [(a0, dctc self1.counts.kvs), _]⟩ : DSt) _ _
  refine s_ret (R := fun (v2 : Int) => Q v2) (c_sumV ye.ok B (by rfl) (d_ownF 0 1 0 (He.cls_ok (L.d.fact 61 rfl)) (He.noat_ok (L.d.fact 64 rfl)) rfl rfl rfl rfl rfl)) (by exact h) ?_
  intro v2 h
  try dsimp only
  exact ⟨⟨0, rfl⟩, _, rfl, h⟩
abbrev Table_init_N : List Str := ["self", "size", "step"]
theorem Table_init_S : FnScope Table_init_N ["self", "size", "step"] d_Table_init.scope := ⟨rfl, rfl, rfl, by decide +kernel, rfl, by decide +kernel, by decide +kernel⟩
theorem ok_Table_init (B : Bis mg) (L : LK w K mg base fa fn tq) {fd : FuncData} (F1 : Fd K d_Table_init ["self", "size", "step"] fd)  : FnOk P w K mg base (L2.CX P w) 1 (He.fAd K d_Table_init.at_) fd ["self", "size", "step"] (toSp K (tbOf K tq) 3 (spI K Table_init_W)) := by
  refine fn_I (γ := TableV) (k := 0) L F1 Table_init_S Table_init_W (fun _ => rfl) ?_
  intro q0 z t Q E h ye tbl
  obtain ⟨size1, step2, ⟨⟩⟩ := t
  show Ws _ (⟨[some (raw (.ref q0)), some (pu size1), some (pu step2)], [_]⟩ : DSt) _ _
  refine s_if (B := E .BadCount) (C := (Table_init_w1 size1 size1 step2 Q)) (t_w (w_orP (y := (decide (step2 < (1 : Int)))) (t_not (t_chainV (500 : Int) c_int (c_v 1 rfl rfl) c_int op_le op_le)) (w_or1 (t_k (k_lt (c_v 2 rfl rfl) c_int))))) ?_ ?_ (by exact h)
  · intro h
    exact s_raise 0 .BadCount ye (L.err 82 23) rfl rfl ⟨_, rfl⟩ (by exact h)
  intro h
  refine ws_nil ?_
  refine s_fld (hl := by first | decide | exact of_decide_eq_true rfl) (R := fun (size3 : Int) => (Table_init_w1 size1 size3 step2 Q)) 0 0 (He.cls_ok (L.d.fact 69 rfl)) (He.noat_ok (L.d.fact 71 rfl)) rfl rfl rfl (c_v 1 rfl rfl) ?_ (by exact h)
  intro size3 h
  try dsimp only
  show Ws _ (⟨[some (raw (.ref q0)), some (pu size1), some (pu step2)], [_]⟩ : DSt) _ _
  refine s_fld (hl := by first | decide | exact of_decide_eq_true rfl) (R := fun (step4 : Int) => (Table_init_w1 size1 size3 step4 Q)) 0 0 (He.cls_ok (L.d.fact 69 rfl)) (He.noat_ok (L.d.fact 72 rfl)) rfl rfl rfl (c_v 2 rfl rfl) ?_ (by exact h)
  intro step4 h
  try dsimp only
  show Ws _ (⟨[some (raw (.ref q0)), some (pu size1), some (pu step2)], [_]⟩ : DSt) _ _
  refine s_fld (hl := by first | decide | exact of_decide_eq_true rfl) (R := fun (rows5 : (List (Option Txt))) => Q (TableV.mk size3 step4 rows5)) 0 0 (He.cls_ok (L.d.fact 69 rfl)) (He.noat_ok (L.d.fact 73 rfl)) rfl rfl rfl (c_repL (s_cons (c_none (α := Txt)) (s_nil)) (fun _ _ => (c_v 1 rfl rfl))) ?_ (by exact h)
  intro rows5 h
  try dsimp only
  show Ws _ (⟨[some (raw (.ref q0)), some (pu size1), some (pu step2)], [_]⟩ : DSt) _ _
  exact ws_nil ⟨(TableV.mk size3 step4 rows5), ⟨0, rfl⟩, h⟩
abbrev Table_initP_N : List Str := ["self", "size", "step"]
theorem Table_initP_S : FnScope Table_initP_N ["self", "size", "step"] d_Table_init.scope := ⟨rfl, rfl, rfl, by decide +kernel, rfl, by decide +kernel, by decide +kernel⟩
theorem ok_Table_initP (B : Bis mg) (L : LK w K mg base fa fn tq) {fd : FuncData} (F1 : Fd K d_Table_init ["self", "size", "step"] fd)  : FnOk P w K mg base (L2.CX P w) 1 (He.fAd K d_Table_init.at_) fd ["self", "size", "step"] (toSp K (tbOf K tq) 3 (spI2 K Table_initP_W)) := by
  refine fn_I2 (γ := TableV) (k := 0) L F1 Table_initP_S Table_initP_W (fun _ => rfl) ?_
  intro q0 z t Q E h ye tbl
  obtain ⟨size1, step2, ⟨⟩⟩ := t
  show Ws _ (⟨[some (raw (.ref q0)), some (pu size1), some (pu step2)], [_]⟩ : DSt) _ _
  refine s_if (B := E .BadCount) (C := (Table_initP_w1 size1 size1 step2 Q)) (t_w (w_orP (y := (decide (step2 < (1 : Int)))) (t_not (t_chainV (500 : Int) c_int (c_v 1 rfl rfl) c_int op_le op_le)) (w_or1 (t_k (k_lt (c_v 2 rfl rfl) c_int))))) ?_ ?_ (by exact h)
  · intro h
    exact s_raise 0 .BadCount ye (L.err 82 23) rfl rfl ⟨_, rfl⟩ (by exact h)
  intro h
  refine ws_nil ?_
  refine s_fld (hl := by first | decide | exact of_decide_eq_true rfl) (R := fun (size3 : Int) => (Table_initP_w1 size1 size3 step2 Q)) 0 0 (He.cls_ok (L.d.fact 69 rfl)) (He.noat_ok (L.d.fact 71 rfl)) rfl rfl rfl (c_v 1 rfl rfl) ?_ (by exact h)
  intro size3 h
  try dsimp only
  show Ws _ (⟨[some (raw (.ref q0)), some (pu size1), some (pu step2)], [_]⟩ : DSt) _ _
  refine s_fld (hl := by first | decide | exact of_decide_eq_true rfl) (R := fun (step4 : Int) => (Table_initP_w1 size1 size3 step4 Q)) 0 0 (He.cls_ok (L.d.fact 69 rfl)) (He.noat_ok (L.d.fact 72 rfl)) rfl rfl rfl (c_v 2 rfl rfl) ?_ (by exact h)
  intro step4 h
  try dsimp only
  show Ws _ (⟨[some (raw (.ref q0)), some (pu size1), some (pu step2)], [_]⟩ : DSt) _ _
  refine s_fldN (hl := by first | decide | exact of_decide_eq_true rfl) (R := fun (rows5 : List (Option Txt)) => Q (TableV.mk size3 step4 rows5)) 0 0 (He.cls_ok (L.d.fact 69 rfl)) (He.noat_ok (L.d.fact 73 rfl)) rfl rfl rfl (n_rep (s_cons (c_none (α := Txt)) (s_nil)) (fun _ _ => (c_v 1 rfl rfl))) ?_ (by exact h)
  intro q6 rows5 h
  try dsimp only
  show Ws _ (⟨[some (raw (.ref q0)), some (pu size1), some (pu step2)], [(q6, lstc rows5), _]⟩ : DSt) _ _
  exact ws_nil ⟨_, (TableV.mk size3 step4 rows5), ⟨0, rfl⟩, h⟩
abbrev Table_placeP_N : List Str := ["self", "word", "first", "k", "here"]
theorem Table_placeP_S : FnScope Table_placeP_N ["self", "word"] d_Table_place.scope := ⟨rfl, rfl, rfl, by decide +kernel, rfl, by decide +kernel, by decide +kernel⟩
theorem ok_Table_placeP (B : Bis mg) (L : LK w K mg base fa fn tq) {fd : FuncData} (F1 : Fd K d_Table_place ["self", "word"] fd) (G_check_word : Df P w K mg base (tbOf K tq) 3 "check_word" ["word"] (spF K check_word_W)) (G_word_sum : Df P w K mg base (tbOf K tq) 4 "word_sum" ["word", "step", "size"] (spF K word_sum_W)) : FnOk P w K mg base (L2N.CX P w) 5 (He.fAd K d_Table_place.at_) fd ["self", "word"] (toSp K (tbOf K tq) 2 (spO2 K Table_placeP_W)) := by
  refine fn_O2N (γ := TableV) (k := 4) none L F1 Table_placeP_S Table_placeP_W noneNo (fun _ => rfl) ?_
  intro q0 a0 z self1 t Q E h ye yn tbl
  obtain ⟨word2, ⟨⟩⟩ := t
  show Ws _ (⟨[some (raw (.ref q0)), some (pu word2), none, none, none], [(a0, lstc self1.rows), _]⟩ : DSt) _ _
  refine s_expr (R := fun (v4 : Unit) => (Table_placeP_w5 self1 word2 Q E)) (c_call (w := check_word_W) 0 ye G_check_word (Nat.le_of_ble_eq_true rfl) rfl (a_cons (c_v 1 rfl rfl) a_nil) (fun _ => rfl) rfl) ?_ (by exact h)
  intro v4 h
  try dsimp only
  refine s_asg (R := fun (first6 : Int) => (Table_placeP_w4 self1 word2 first6 Q E)) 2 ye.ok rfl (c_call (w := word_sum_W) 0 ye G_word_sum (Nat.le_of_ble_eq_true rfl) rfl (a_cons (c_v 1 rfl rfl) (a_cons (c_fldO 0 1 (He.cls_ok (L.d.fact 69 rfl)) (He.noat_ok (L.d.fact 72 rfl)) rfl rfl rfl rfl) (a_cons (c_fldO 0 1 (He.cls_ok (L.d.fact 69 rfl)) (He.noat_ok (L.d.fact 71 rfl)) rfl rfl rfl rfl) a_nil))) (fun _ => rfl) rfl) ?_ (by exact h)
  intro first6 h
  try dsimp only
  show Ws _ (⟨[some (raw (.ref q0)), some (pu word2), some (pu first6), none, none], [(a0, lstc self1.rows), _]⟩ : DSt) _ _
  refine s_for (Z := Unit) (J := Option Pv × Option Pv) (Body := (fun (x7 : Int) (z8 : Unit) (nx10 : Unit → Prop) => (Table_placeP_w2 self1 word2 first6 x7 nx10 Q))) (Rest := (fun (z13 : Unit) => (Table_placeP_w3 E))) (.n 3) (fun (z8 : Unit) (j9 : Option Pv × Option Pv) => (⟨[some (raw (.ref q0)), some (pu word2), some (pu first6), j9.1, j9.2], [(a0, lstc self1.rows), (q0, insc (He.ga K "Table") [("size", pu self1.size), ("step", pu self1.step), ("rows", raw (.ref a0))])]⟩ : DSt)) () (none, none) ye.ok (i_range1 ye.ok B (by rfl) (c_fldO 0 1 (He.cls_ok (L.d.fact 69 rfl)) (He.noat_ok (L.d.fact 71 rfl)) rfl rfl rfl rfl)) (tg_nm ye.ok.nd 3 rfl) rfl ?_ ?_ (by exact h)
  · intro x7 z8 j9 nx10 h
    try dsimp only
    show Ws _ (⟨[some (raw (.ref q0)), some (pu word2), some (pu first6), some (pu x7), j9.2], [(a0, lstc self1.rows), _]⟩ : DSt) _ _
    refine s_asg (R := fun (here11 : Int) => (Table_placeP_w1 self1 word2 nx10 here11 Q)) 4 ye.ok rfl (c_mod (c_add (c_v 2 rfl rfl) (c_v 3 rfl rfl)) (c_fldO 0 1 (He.cls_ok (L.d.fact 69 rfl)) (He.noat_ok (L.d.fact 71 rfl)) rfl rfl rfl rfl)) ?_ (by exact h)
    intro here11 h
    try dsimp only
    show Ws _ (⟨[some (raw (.ref q0)), some (pu word2), some (pu first6), some (pu x7), some (pu here11)], [(a0, lstc self1.rows), _]⟩ : DSt) _ _
    refine s_if (B := Q here11) (C := nx10 ()) (t_w (w_orP (y := (decide ((ixD self1.rows here11) = (some word2)))) (t_k (k_isN (c_ixL (l_ownF 0 1 0 (He.cls_ok (L.d.fact 69 rfl)) (He.noat_ok (L.d.fact 73 rfl)) rfl rfl rfl rfl rfl) (c_v 4 rfl rfl)))) (w_or1 (t_k (k_eq ye.ok (c_ixL (l_ownF 0 1 0 (He.cls_ok (L.d.fact 69 rfl)) (He.noat_ok (L.d.fact 73 rfl)) rfl rfl rfl rfl rfl) (c_v 4 rfl rfl)) (c_some (c_v 1 rfl rfl))))))) ?_ ?_ (by exact h)
    · intro h
      refine s_ret (R := fun (v12 : Int) => Q v12) (c_v 4 rfl rfl) (by exact h) ?_
      intro v12 h
      try dsimp only
      exact ⟨⟨0, rfl⟩, _, rfl, h⟩
    intro h
    refine ws_nil ?_
    exact ws_nil ⟨(), (some (pu x7), some (pu here11)), rfl, h⟩
  intro z13 j14 h
  try dsimp only
  show Ws _ (⟨[some (raw (.ref q0)), some (pu word2), some (pu first6), j14.1, j14.2], [(a0, lstc self1.rows), _]⟩ : DSt) _ _
  exact s_raise0N .BadCount ye yn (L.err 82 23) rfl rfl ⟨0, rfl⟩ (by exact h)
abbrev Table_putP_N : List Str := ["self", "word", "here", "fresh"]
theorem Table_putP_S : FnScope Table_putP_N ["self", "word"] d_Table_put.scope := ⟨rfl, rfl, rfl, by decide +kernel, rfl, by decide +kernel, by decide +kernel⟩
theorem ok_Table_putP (B : Bis mg) (L : LK w K mg base fa fn tq) {fd : FuncData} (F1 : Fd K d_Table_put ["self", "word"] fd) (G_Table_placeP : MtN P w K mg base (tbOf K tq) 5 (He.ga K "Table") "place" ["self", "word"] (spO2 K Table_placeP_W)) : FnOk P w K mg base (L2.CX P w) 6 (He.fAd K d_Table_put.at_) fd ["self", "word"] (toSp K (tbOf K tq) 2 (spM2 K Table_putP_W)) := by
  refine fn_M2 (γ := TableV) (k := 5) none L F1 Table_putP_S Table_putP_W noneNo (fun _ => rfl) ?_
  intro q0 a0 z self1 t Q E h ye tbl
  obtain ⟨word2, ⟨⟩⟩ := t
  show Ws _ (⟨[some (raw (.ref q0)), some (pu word2), none, none], [(a0, lstc self1.rows), _]⟩ : DSt) _ _
  refine s_asg (R := fun (here4 : Int) => (Table_putP_w2 self1 word2 here4 Q)) 2 ye.ok rfl (c_methO2 (mm := (TableV.mk self1.size self1.step self1.rows)) (w := Table_placeP_W) 0 0 0 ye (MtN.mt G_Table_placeP) (He.cls_ok (L.d.fact 69 rfl)) (Nat.le_of_ble_eq_true rfl) rfl rfl rfl rfl (a_cons (c_v 1 rfl rfl) a_nil) (fun _ => rfl) rfl) ?_ (by exact h)
  intro here4 h
  try dsimp only
  show Ws _ (⟨[some (raw (.ref q0)), some (pu word2), some (pu here4), none], [(a0, lstc self1.rows), _]⟩ : DSt) _ _
  refine s_asg (R := fun (fresh5 : Bool) => (Table_putP_w1 self1 word2 here4 fresh5 Q)) 3 ye.ok rfl (c_k (k_isN (c_ixL (l_ownF 0 1 0 (He.cls_ok (L.d.fact 69 rfl)) (He.noat_ok (L.d.fact 73 rfl)) rfl rfl rfl rfl rfl) (c_v 2 rfl rfl)))) ?_ (by exact h)
  intro fresh5 h
  try dsimp only
  show Ws _ (⟨[some (raw (.ref q0)), some (pu word2), some (pu here4), some (pu fresh5)], [(a0, lstc self1.rows), _]⟩ : DSt) _ _
  refine s_flput (R := fun (rows6 : List (Option Txt)) => Q (fresh5, (TableV.mk self1.size self1.step rows6))) 0 1 0 (He.cls_ok (L.d.fact 69 rfl)) (He.noat_ok (L.d.fact 73 rfl)) rfl rfl rfl rfl rfl (c_some (c_v 1 rfl rfl)) (c_v 2 rfl rfl) ?_ (by exact h)
  intro rows6 h
  try dsimp only
  show Ws _ (⟨[some (raw (.ref q0)), some (pu word2), some (pu here4), some (pu fresh5)], [(a0, lstc rows6), _]⟩ : DSt) _ _
  refine s_ret (R := fun (v7 : Bool) => Q (v7, (TableV.mk self1.size self1.step rows6))) (c_v 3 rfl rfl) (by exact h) ?_
  intro v7 h
  try dsimp only
  exact ⟨v7, (TableV.mk self1.size self1.step rows6), ⟨0, rfl⟩, rfl, h⟩
abbrev Table_hasP_N : List Str := ["self", "word"]
theorem Table_hasP_S : FnScope Table_hasP_N ["self", "word"] d_Table_has.scope := ⟨rfl, rfl, rfl, by decide +kernel, rfl, by decide +kernel, by decide +kernel⟩
theorem ok_Table_hasP (B : Bis mg) (L : LK w K mg base fa fn tq) {fd : FuncData} (F1 : Fd K d_Table_has ["self", "word"] fd) (G_Table_placeP : MtN P w K mg base (tbOf K tq) 5 (He.ga K "Table") "place" ["self", "word"] (spO2 K Table_placeP_W)) : FnOk P w K mg base (L2.CX P w) 6 (He.fAd K d_Table_has.at_) fd ["self", "word"] (toSp K (tbOf K tq) 2 (spO2 K Table_hasP_W)) := by
  refine fn_O2 (γ := TableV) (k := 5) none L F1 Table_hasP_S Table_hasP_W noneNo (fun _ => rfl) ?_
  intro q0 a0 z self1 t Q E h ye tbl
  obtain ⟨word2, ⟨⟩⟩ := t
  show Ws _ (⟨[some (raw (.ref q0)), some (pu word2)], [(a0, lstc self1.rows), _]⟩ : DSt) _ _
  refine ws_cons (w1_tryX (E := fun e9 => e9 = .BadCount ∧ Q false) (Gd := fun s9 => s9 = (⟨[some (raw (.ref q0)), some (pu word2)], [(a0, lstc self1.rows), (q0, insc (He.ga K "Table") [("size", pu self1.size), ("step", pu self1.step), ("rows", raw (.ref a0))])]⟩ : DSt)) ye.ok rfl rfl ⟨rfl, by decide, .inl (He.glo_ok L.X L.G (L.d.fact 23 rfl))⟩ (L2H.passesAt_of rfl) (fun e9 he9 => by obtain ⟨rfl, _⟩ := he9; exact He.exm_ok (L.d.fact 100 rfl)) ?_ ?_)
  · intro pn9 xe9 H9 F9 okT ynT9
    have ynT : YN _ _ _ := ⟨ynT9⟩
    have yeO := ye
    have ye : YE _ (fun _ => True) NoE := ⟨okT, fun _ _ _ h => h.elim⟩
    show Ws _ (⟨[some (raw (.ref q0)), some (pu word2)], [(a0, lstc self1.rows), _]⟩ : DSt) _ _
    refine s_ret (R := fun (v5 : Bool) => Q v5) (c_k (k_eq ye.ok (c_ixL (l_ownF 0 1 0 (He.cls_ok (L.d.fact 69 rfl)) (He.noat_ok (L.d.fact 73 rfl)) rfl rfl rfl rfl rfl) (c_methO2N (mm := (TableV.mk self1.size self1.step self1.rows)) (w := Table_placeP_W) 0 0 ye ynT G_Table_placeP (He.cls_ok (L.d.fact 69 rfl)) (Nat.le_of_ble_eq_true rfl) rfl rfl rfl rfl (a_cons (c_v 1 rfl rfl) a_nil) (fun _ => rfl) rfl)) (c_some (c_v 1 rfl rfl)))) (by exact h) ?_
    intro v5 h
    try dsimp only
    exact ⟨⟨0, rfl⟩, _, rfl, h⟩
  · intro e9 s9 a9 oe9 pn9 he9 hs9 hot9 tk9
    subst hs9
    obtain ⟨_, h⟩ := he9
    have uH : _ + 64 < cLine := ye.ok.room.units
    show Ws _ (⟨[some (raw (.ref q0)), some (pu word2)], [(a0, lstc self1.rows), _]⟩ : DSt) _ _
    refine s_ret (R := fun (v3 : Bool) => Q v3) c_bl (by exact h) ?_
    intro v3 h
    try dsimp only
    exact ⟨⟨0, rfl⟩, _, rfl, h⟩
abbrev Table_takeP_N : List Str := ["self", "word", "here", "moved"]
theorem Table_takeP_S : FnScope Table_takeP_N ["self", "word"] d_Table_take.scope := ⟨rfl, rfl, rfl, by decide +kernel, rfl, by decide +kernel, by decide +kernel⟩
theorem ok_Table_takeP (B : Bis mg) (L : LK w K mg base fa fn tq) {fd : FuncData} (F1 : Fd K d_Table_take ["self", "word"] fd) (G_Table_hasP : Mt P w K mg base (tbOf K tq) 6 (He.ga K "Table") "has" ["self", "word"] (spO2 K Table_hasP_W)) (G_Table_placeP : MtN P w K mg base (tbOf K tq) 5 (He.ga K "Table") "place" ["self", "word"] (spO2 K Table_placeP_W)) (G_Table_putP : Mt P w K mg base (tbOf K tq) 6 (He.ga K "Table") "put" ["self", "word"] (spM2 K Table_putP_W)) : FnOk P w K mg base (L2.CX P w) 7 (He.fAd K d_Table_take.at_) fd ["self", "word"] (toSp K (tbOf K tq) 2 (spM2 K Table_takeP_W)) := by
  refine fn_M2 (γ := TableV) (k := 6) (some ()) L F1 Table_takeP_S Table_takeP_W noneUnit (fun _ => rfl) ?_
  intro q0 a0 z self1 t Q E h ye tbl
  obtain ⟨word2, ⟨⟩⟩ := t
  show Ws _ (⟨[some (raw (.ref q0)), some (pu word2), none, none], [(a0, lstc self1.rows), _]⟩ : DSt) _ _
  refine s_if (B := E .BadCount) (C := (Table_takeP_w9 self1 word2 Q E)) (t_not (t_v (fun _ => rfl) (c_methO2 (mm := (TableV.mk self1.size self1.step self1.rows)) (w := Table_hasP_W) 0 0 0 ye G_Table_hasP (He.cls_ok (L.d.fact 69 rfl)) (Nat.le_of_ble_eq_true rfl) rfl rfl rfl rfl (a_cons (c_optG (c_v 1 rfl rfl)) a_nil) (fun _ => rfl) rfl))) ?_ ?_ (by exact h)
  · intro h
    exact s_raise 0 .BadCount ye (L.err 82 23) rfl rfl rfl (by exact h)
  intro h
  refine ws_nil ?_
  refine s_asg (R := fun (here5 : Int) => (Table_takeP_w8 self1 here5 Q)) 2 ye.ok rfl (c_methO2 (mm := (TableV.mk self1.size self1.step self1.rows)) (w := Table_placeP_W) 0 0 0 ye (MtN.mt G_Table_placeP) (He.cls_ok (L.d.fact 69 rfl)) (Nat.le_of_ble_eq_true rfl) rfl rfl rfl rfl (a_cons (c_optG (c_v 1 rfl rfl)) a_nil) (fun _ => rfl) rfl) ?_ (by exact h)
  intro here5 h
  try dsimp only
  show Ws _ (⟨[some (raw (.ref q0)), some (pu word2), some (pu here5), none], [(a0, lstc self1.rows), _]⟩ : DSt) _ _
  refine s_flput (R := fun (rows6 : List (Option Txt)) => (Table_takeP_w7 self1 here5 rows6 Q)) 0 1 0 (He.cls_ok (L.d.fact 69 rfl)) (He.noat_ok (L.d.fact 73 rfl)) rfl rfl rfl rfl rfl (c_none (α := Txt)) (c_v 2 rfl rfl) ?_ (by exact h)
  intro rows6 h
  try dsimp only
  show Ws _ (⟨[some (raw (.ref q0)), some (pu word2), some (pu here5), none], [(a0, lstc rows6), _]⟩ : DSt) _ _
  refine s_asg (R := fun (here7 : Int) => (Table_takeP_w6 self1 rows6 here7 Q)) 2 ye.ok rfl (c_mod (c_add (c_v 2 rfl rfl) c_int) (c_fldO 0 1 (He.cls_ok (L.d.fact 69 rfl)) (He.noat_ok (L.d.fact 71 rfl)) rfl rfl rfl rfl)) ?_ (by exact h)
  intro here7 h
  try dsimp only
  show Ws _ (⟨[some (raw (.ref q0)), some (pu word2), some (pu here7), none], [(a0, lstc rows6), _]⟩ : DSt) _ _
  refine s_while (Z := TableV × Int) (J := Option Pv) (Cond := (fun (z8 : TableV × Int) (k13 : Bool → Prop) => (inR (z8.1.rows.length) z8.2 ∧ k13 (ixD z8.1.rows z8.2).isSome))) (Body := (fun (z8 : TableV × Int) (nx10 : TableV × Int → Prop) => (Table_takeP_w4 nx10 z8.1 z8.2))) (Rest := (fun (z19 : TableV × Int) => (Table_takeP_w5 z19.1 Q))) (fun (z8 : TableV × Int) (j9 : Option Pv) => (⟨[some (raw (.ref q0)), some (pu word2), some (pu (z8.2 : Int)), j9], [(a0, lstc (z8.1).rows), (q0, insc (He.ga K "Table") [("size", pu (z8.1).size), ("step", pu (z8.1).step), ("rows", raw (.ref a0))])]⟩ : DSt)) ((TableV.mk self1.size self1.step rows6), here7) none ye.ok rfl (fun z8 j9 => (t_k (k_notN (c_ixL (l_ownF 0 1 0 (He.cls_ok (L.d.fact 69 rfl)) (He.noat_ok (L.d.fact 73 rfl)) rfl rfl rfl rfl rfl) (c_v 2 rfl rfl))))) ?_ ?_ (by exact h)
  · intro z8 j9 nx10 h
    try dsimp only
    obtain ⟨self11, here12⟩ := z8
    show Ws _ (⟨[some (raw (.ref q0)), some (pu word2), some (pu here12), j9], [(a0, lstc self11.rows), _]⟩ : DSt) _ _
    refine s_asg (R := fun (moved14 : (Option Txt)) => (Table_takeP_w3 nx10 self11 here12 moved14)) 3 ye.ok rfl (c_ixL (l_ownF 0 1 0 (He.cls_ok (L.d.fact 69 rfl)) (He.noat_ok (L.d.fact 73 rfl)) rfl rfl rfl rfl rfl) (c_v 2 rfl rfl)) ?_ (by exact h)
    intro moved14 h
    try dsimp only
    show Ws _ (⟨[some (raw (.ref q0)), some (pu word2), some (pu here12), some (pu moved14)], [(a0, lstc self11.rows), _]⟩ : DSt) _ _
    refine s_flput (R := fun (rows15 : List (Option Txt)) => (Table_takeP_w2 nx10 self11 here12 moved14 rows15)) 0 1 0 (He.cls_ok (L.d.fact 69 rfl)) (He.noat_ok (L.d.fact 73 rfl)) rfl rfl rfl rfl rfl (c_none (α := Txt)) (c_v 2 rfl rfl) ?_ (by exact h)
    intro rows15 h
    try dsimp only
    show Ws _ (⟨[some (raw (.ref q0)), some (pu word2), some (pu here12), some (pu moved14)], [(a0, lstc rows15), _]⟩ : DSt) _ _
    refine s_exprS (R := fun (z9 : Bool × TableV) => (Table_takeP_w1 nx10 here12 z9.2)) (c_methM2 (mm := (TableV.mk self11.size self11.step rows15)) (w := Table_putP_W) 0 0 0 (YE.nox ye.ok) G_Table_putP (He.cls_ok (L.d.fact 69 rfl)) (Nat.le_of_ble_eq_true rfl) rfl rfl rfl rfl (a_cons (c_optG (c_v 3 rfl rfl)) a_nil) (fun _ => rfl) trivial) ?_ (by exact h)
    intro v9 self17 h
    try dsimp only
    show Ws _ (⟨[some (raw (.ref q0)), some (pu word2), some (pu here12), some (pu moved14)], [(a0, lstc self17.rows), _]⟩ : DSt) _ _
    refine s_asg (R := fun (here18 : Int) => nx10 ((TableV.mk self17.size self17.step self17.rows), here18)) 2 ye.ok rfl (c_mod (c_add (c_v 2 rfl rfl) c_int) (c_fldO 0 1 (He.cls_ok (L.d.fact 69 rfl)) (He.noat_ok (L.d.fact 71 rfl)) rfl rfl rfl rfl)) ?_ (by exact h)
    intro here18 h
    try dsimp only
    show Ws _ (⟨[some (raw (.ref q0)), some (pu word2), some (pu here18), some (pu moved14)], [(a0, lstc self17.rows), _]⟩ : DSt) _ _
    exact ws_nil ⟨((TableV.mk self17.size self17.step self17.rows), here18), some (pu moved14), rfl, h⟩
  intro z19 j20 h
  try dsimp only
  obtain ⟨self21, here22⟩ := z19
  show Ws _ (⟨[some (raw (.ref q0)), some (pu word2), some (pu here22), j20], [(a0, lstc self21.rows), _]⟩ : DSt) _ _
  exact ws_nil ⟨(), (TableV.mk self21.size self21.step self21.rows), ⟨0, rfl⟩, rfl, h⟩
abbrev Table_looksP_N : List Str := ["self", "word"]
theorem Table_looksP_S : FnScope Table_looksP_N ["self", "word"] d_Table_looks.scope := ⟨rfl, rfl, rfl, by decide +kernel, rfl, by decide +kernel, by decide +kernel⟩
theorem ok_Table_looksP (B : Bis mg) (L : LK w K mg base fa fn tq) {fd : FuncData} (F1 : Fd K d_Table_looks ["self", "word"] fd) (G_Table_hasP : Mt P w K mg base (tbOf K tq) 6 (He.ga K "Table") "has" ["self", "word"] (spO2 K Table_hasP_W)) (G_Table_placeP : MtN P w K mg base (tbOf K tq) 5 (He.ga K "Table") "place" ["self", "word"] (spO2 K Table_placeP_W)) (G_word_sum : Df P w K mg base (tbOf K tq) 4 "word_sum" ["word", "step", "size"] (spF K word_sum_W)) : FnOk P w K mg base (L2.CX P w) 7 (He.fAd K d_Table_looks.at_) fd ["self", "word"] (toSp K (tbOf K tq) 2 (spO2 K Table_looksP_W)) := by
  refine fn_O2 (γ := TableV) (k := 6) none L F1 Table_looksP_S Table_looksP_W noneNo (fun _ => rfl) ?_
  intro q0 a0 z self1 t Q E h ye tbl
  obtain ⟨word2, ⟨⟩⟩ := t
  show Ws _ (⟨[some (raw (.ref q0)), some (pu word2)], [(a0, lstc self1.rows), _]⟩ : DSt) _ _
  refine s_if (B := E .BadCount) (C := (Table_looksP_w1 self1 word2 Q E)) (t_not (t_v (fun _ => rfl) (c_methO2 (mm := (TableV.mk self1.size self1.step self1.rows)) (w := Table_hasP_W) 0 0 0 ye G_Table_hasP (He.cls_ok (L.d.fact 69 rfl)) (Nat.le_of_ble_eq_true rfl) rfl rfl rfl rfl (a_cons (c_v 1 rfl rfl) a_nil) (fun _ => rfl) rfl))) ?_ ?_ (by exact h)
  · intro h
    exact s_raise 0 .BadCount ye (L.err 82 23) rfl rfl rfl (by exact h)
  intro h
  refine ws_nil ?_
  refine s_ret (R := fun (v6 : Int) => Q v6) (c_add (c_mod (c_sub (c_methO2 (mm := (TableV.mk self1.size self1.step self1.rows)) (w := Table_placeP_W) 0 0 0 ye (MtN.mt G_Table_placeP) (He.cls_ok (L.d.fact 69 rfl)) (Nat.le_of_ble_eq_true rfl) rfl rfl rfl rfl (a_cons (c_v 1 rfl rfl) a_nil) (fun _ => rfl) rfl) (c_call (w := word_sum_W) 0 ye G_word_sum (Nat.le_of_ble_eq_true rfl) rfl (a_cons (c_v 1 rfl rfl) (a_cons (c_fldO 0 1 (He.cls_ok (L.d.fact 69 rfl)) (He.noat_ok (L.d.fact 72 rfl)) rfl rfl rfl rfl) (a_cons (c_fldO 0 1 (He.cls_ok (L.d.fact 69 rfl)) (He.noat_ok (L.d.fact 71 rfl)) rfl rfl rfl rfl) a_nil))) (fun _ => rfl) rfl)) (c_fldO 0 1 (He.cls_ok (L.d.fact 69 rfl)) (He.noat_ok (L.d.fact 71 rfl)) rfl rfl rfl rfl)) c_int) (by exact h) ?_
  intro v6 h
  try dsimp only
  exact ⟨⟨0, rfl⟩, _, rfl, h⟩
abbrev best_step_N : List Str := ["words", "size", "steps", "unlike", "word", "counts", "step"]
theorem best_step_S : FnScope best_step_N ["words", "size", "steps"] d_best_step.scope := ⟨rfl, rfl, rfl, by decide +kernel, rfl, by decide +kernel, by decide +kernel⟩
theorem ok_best_step (B : Bis mg) (L : LK w K mg base fa fn tq) {fd : FuncData} (F1 : Fd K d_best_step ["words", "size", "steps"] fd) (G_word_sum : Df P w K mg base (tbOf K tq) 4 "word_sum" ["word", "step", "size"] (spF K word_sum_W)) : FnOk P w K mg base (L2.CX P w) 5 (He.fAd K d_best_step.at_) fd ["words", "size", "steps"] (toSp K (tbOf K tq) 3 (spF K best_step_W)) := by
  refine fn_F (k := 4) none L F1 best_step_S best_step_W noneNo (fun _ => rfl) ?_
  intro z t Q E h ye tbl
  obtain ⟨words1, size2, steps3, ⟨⟩⟩ := t
  show Ws _ (⟨[some (pu words1), some (pu size2), some (pu steps3), none, none, none, none], []⟩ : DSt) _ _
  refine s_if (B := E .BadCount) (C := (best_step_w3 words1 size2 steps3 Q)) (t_k (k_eq ye.ok (c_lenL B (by rfl) (c_l (c_v 2 rfl rfl))) c_int)) ?_ ?_ (by exact h)
  · intro h
    exact s_raise 0 .BadCount ye (L.err 82 23) rfl rfl rfl (by exact h)
  intro h
  refine ws_nil ?_
  refine s_asg (R := fun (unlike5 : (List Txt)) => (best_step_w2 size2 steps3 unlike5 Q)) 3 ye.ok rfl (c_sortedD ye.ok B (by rfl) (c_d (c_dictL ye.ok B (by rfl) (c_l (c_L ye.ok (l_lc0 (.n 4) [("word", 4)] (fun (x4 : Txt) => (x4, (1 : Int))) ye.ok (i_list (c_v 0 rfl rfl)) (show BlkOk best_step_N d_best_step.scope _ _ from blk_by (by decide +kernel)) (fun z => (tg_blk ye.ok z 4 rfl)) (fun _ (x4 : Txt) _ _ => (c_tup2 (a_cons (c_v 4 rfl rfl) (a_cons c_int a_nil)))))))))) ?_ (by exact h)
  intro unlike5 h
  try dsimp only
  show Ws _ (⟨[some (pu words1), some (pu size2), some (pu steps3), some (pu unlike5), none, none, none], []⟩ : DSt) _ _
  refine s_asgL (R := fun (counts11 : (List Int)) => (best_step_w1 steps3 counts11 Q)) 5 ye.ok rfl (l_lcX0 (.n 6) [("step", 6)] ye.ok (i_list (c_v 2 rfl rfl)) (show BlkOk best_step_N d_best_step.scope _ _ from blk_by (by decide +kernel)) (fun z => (tg_blk ye.ok z 6 rfl)) (fun _ (x6 : Int) _ _ => (c_sub (c_lenL B (by rfl) (c_l (c_v 3 rfl rfl))) (c_lenD B (by rfl) (c_d (c_dictL ye.ok.blk B (by rfl) (c_l (c_L ye.ok.blk (l_lcX0 (.n 4) [("word", 4)] ye.ok.blk (i_list (c_v 3 rfl rfl)) (blk_by (by first | decide +kernel | rfl)) (fun z => (tg_blk ye.ok.blk z 4 rfl)) (fun _ (x7 : Txt) _ _ => (c_tup2 (a_cons (c_call (w := word_sum_W) 0 ye.blk.blk G_word_sum (Nat.le_of_ble_eq_true rfl) rfl (a_cons (c_v 4 rfl rfl) (a_cons (c_v 6 rfl rfl) (a_cons (c_v 1 rfl rfl) a_nil))) (fun _ => rfl) trivial) (a_cons c_int a_nil))))))))))))) ?_ (by exact h)
  intro counts11 h
  try dsimp only
  show Ws _ (⟨[some (pu words1), some (pu size2), some (pu steps3), some (pu unlike5), none, some (pu counts11), none], []⟩ : DSt) _ _
  refine s_ret (R := fun (v12 : (Int × Int)) => Q v12) (c_tup2 (a_cons (c_ixL (c_l (c_v 2 rfl rfl)) (c_idxL ye.ok (c_l (c_v 5 rfl rfl)) (c_min ye.ok B (by rfl) (c_l (c_v 5 rfl rfl))))) (a_cons (c_min ye.ok B (by rfl) (c_l (c_v 5 rfl rfl))) a_nil))) (by exact h) ?_
  intro v12 h
  try dsimp only
  exact ⟨⟨0, rfl⟩, _, rfl, h⟩
abbrev law_flat_N : List Str := ["rows", "found", "row"]
theorem law_flat_S : FnScope law_flat_N ["rows"] d__law_flat.scope := ⟨rfl, rfl, rfl, by decide +kernel, rfl, by decide +kernel, by decide +kernel⟩
theorem ok_law_flat (B : Bis mg) (L : LK w K mg base fa fn tq) {fd : FuncData} (F1 : Fd K d__law_flat ["rows"] fd)  : FnOk P w K mg base (L2.CX P w) 1 (He.fAd K d__law_flat.at_) fd ["rows"] (toSp K (tbOf K tq) 1 (spF K law_flat_W)) := by
  refine fn_F (k := 0) none L F1 law_flat_S law_flat_W noneNo (fun _ => rfl) ?_
  intro z t Q E h ye tbl
  obtain ⟨rows1, ⟨⟩⟩ := t
  show Ws _ (⟨[some (pu rows1), none, none], []⟩ : DSt) _ _
  refine s_asg (R := fun (found2 : (List Int)) => (law_flat_w3 rows1 found2 Q)) 1 ye.ok rfl (c_list (s_nil (α := Int))) ?_ (by exact h)
  intro found2 h
  try dsimp only
  show Ws _ (⟨[some (pu rows1), some (pu found2), none], []⟩ : DSt) _ _
  refine s_for (Z := (List Int)) (J := Option Pv) (Body := (fun (x3 : (List Int)) (z4 : (List Int)) (nx6 : (List Int) → Prop) => (law_flat_w1 x3 nx6 z4))) (Rest := (fun (z9 : (List Int)) => (law_flat_w2 z9 Q))) (.n 2) (fun (z4 : (List Int)) (j5 : Option Pv) => (⟨[some (pu rows1), some (pu (z4 : (List Int))), j5], []⟩ : DSt)) found2 none ye.ok (i_list (c_v 0 rfl rfl)) (tg_nm ye.ok.nd 2 rfl) rfl ?_ ?_ (by exact h)
  · intro x3 found7 j5 nx6 h
    try dsimp only
    show Ws _ (⟨[some (pu rows1), some (pu found7), some (pu x3)], []⟩ : DSt) _ _
    refine s_asg (R := fun (found8 : (List Int)) => nx6 found8) 1 ye.ok rfl (c_catL (c_l (c_v 1 rfl rfl)) (c_l (c_v 2 rfl rfl))) ?_ (by exact h)
    intro found8 h
    try dsimp only
    show Ws _ (⟨[some (pu rows1), some (pu found8), some (pu x3)], []⟩ : DSt) _ _
    exact ws_nil ⟨found8, some (pu x3), rfl, h⟩
  intro found11 j10 h
  try dsimp only
  show Ws _ (⟨[some (pu rows1), some (pu found11), j10], []⟩ : DSt) _ _
  refine s_ret (R := fun (v12 : (List Int)) => Q v12) (c_v 1 rfl rfl) (by exact h) ?_
  intro v12 h
  try dsimp only
  exact ⟨⟨0, rfl⟩, _, rfl, h⟩
abbrev law_word_N : List Str := ["dice", "letters", "least", "most", "k"]
theorem law_word_S : FnScope law_word_N ["dice", "letters", "least", "most"] d__law_word.scope := ⟨rfl, rfl, rfl, by decide +kernel, rfl, by decide +kernel, by decide +kernel⟩
theorem ok_law_word (B : Bis mg) (L : LK w K mg base fa fn tq) {fd : FuncData} (F1 : Fd K d__law_word ["dice", "letters", "least", "most"] fd) (G_law_roll : Df P w K mg base (tbOf K tq) 1 "_law_roll" ["dice", "many"] (spD rollW)) : FnOk P w K mg base (L2.CX P w) 2 (He.fAd K d__law_word.at_) fd ["dice", "letters", "least", "most"] (toSp K (tbOf K tq) 4 (spD law_word_W)) := by
  refine fn_D (k := 1) none L F1 law_word_S law_word_W noneNo (fun _ => rfl) ?_
  intro q0 z t Q h ye tbl
  obtain ⟨letters1, least2, most3, ⟨⟩⟩ := t
  show Ws _ (⟨[some (raw (.ref q0)), some (pu letters1), some (pu least2), some (pu most3), none], [(q0, dicec)]⟩ : DSt) _ _
  refine s_ret (R := fun (v9 : Txt) => Q v9) (c_join c_tx (c_l (c_L ye.ok (l_lcN (.n 4) [("k", 4)] ye.ok (i_range1 ye.ok B (by rfl) (c_add (c_v 2 rfl rfl) (c_callD 0 0 ye.ok G_law_roll (Nat.le_of_ble_eq_true rfl) rfl (a_cons (c_add (c_sub (c_v 3 rfl rfl) (c_v 2 rfl rfl)) c_int) a_nil) rfl rfl rfl (fun _ => rfl)))) (show BlkOk law_word_N d__law_word.scope _ _ from blk_by (by decide +kernel)) (fun z => (tg_blk ye.ok z 4 rfl)) (fun _ (x5 : Int) _ _ => (c_ixS (c_v 1 rfl rfl) (c_callD 0 1 ye.ok.blk G_law_roll (Nat.le_of_ble_eq_true rfl) rfl (a_cons (c_lenS B (by rfl) (c_v 1 rfl rfl)) a_nil) rfl rfl rfl (fun _ => rfl)))))))) (by exact h) ?_
  intro v9 h
  try dsimp only
  exact ⟨⟨0, rfl⟩, _, rfl, h⟩
abbrev law_unlike_N : List Str := ["words", "word"]
theorem law_unlike_S : FnScope law_unlike_N ["words"] d__law_unlike.scope := ⟨rfl, rfl, rfl, by decide +kernel, rfl, by decide +kernel, by decide +kernel⟩
theorem ok_law_unlike (B : Bis mg) (L : LK w K mg base fa fn tq) {fd : FuncData} (F1 : Fd K d__law_unlike ["words"] fd)  : FnOk P w K mg base (L2.CX P w) 1 (He.fAd K d__law_unlike.at_) fd ["words"] (toSp K (tbOf K tq) 1 (spF K law_unlike_W)) := by
  refine fn_F (k := 0) none L F1 law_unlike_S law_unlike_W noneNo (fun _ => rfl) ?_
  intro z t Q E h ye tbl
  obtain ⟨words1, ⟨⟩⟩ := t
  show Ws _ (⟨[some (pu words1), none], []⟩ : DSt) _ _
  refine s_ret (R := fun (v3 : (List Int)) => Q v3) (c_sortedD ye.ok B (by rfl) (c_d (c_dictL ye.ok B (by rfl) (c_l (c_L ye.ok (l_lc0 (.n 1) [("word", 1)] (fun (x2 : Int) => (x2, (1 : Int))) ye.ok (i_list (c_v 0 rfl rfl)) (show BlkOk law_unlike_N d__law_unlike.scope _ _ from blk_by (by decide +kernel)) (fun z => (tg_blk ye.ok z 1 rfl)) (fun _ (x2 : Int) _ _ => (c_tup2 (a_cons (c_v 1 rfl rfl) (a_cons c_int a_nil)))))))))) (by exact h) ?_
  intro v3 h
  try dsimp only
  exact ⟨⟨0, rfl⟩, _, rfl, h⟩
abbrev law_unlike_2_N : List Str := ["words", "word"]
theorem law_unlike_2_S : FnScope law_unlike_2_N ["words"] d__law_unlike.scope := ⟨rfl, rfl, rfl, by decide +kernel, rfl, by decide +kernel, by decide +kernel⟩
theorem ok_law_unlike_2 (B : Bis mg) (L : LK w K mg base fa fn tq) {fd : FuncData} (F1 : Fd K d__law_unlike ["words"] fd)  : FnOk P w K mg base (L2.CX P w) 1 (He.fAd K d__law_unlike.at_) fd ["words"] (toSp K (tbOf K tq) 1 (spF K law_unlike_2_W)) := by
  refine fn_F (k := 0) none L F1 law_unlike_2_S law_unlike_2_W noneNo (fun _ => rfl) ?_
  intro z t Q E h ye tbl
  obtain ⟨words1, ⟨⟩⟩ := t
  show Ws _ (⟨[some (pu words1), none], []⟩ : DSt) _ _
  refine s_ret (R := fun (v3 : (List Txt)) => Q v3) (c_sortedD ye.ok B (by rfl) (c_d (c_dictL ye.ok B (by rfl) (c_l (c_L ye.ok (l_lc0 (.n 1) [("word", 1)] (fun (x2 : Txt) => (x2, (1 : Int))) ye.ok (i_list (c_v 0 rfl rfl)) (show BlkOk law_unlike_2_N d__law_unlike.scope _ _ from blk_by (by decide +kernel)) (fun z => (tg_blk ye.ok z 1 rfl)) (fun _ (x2 : Txt) _ _ => (c_tup2 (a_cons (c_v 1 rfl rfl) (a_cons c_int a_nil)))))))))) (by exact h) ?_
  intro v3 h
  try dsimp only
  exact ⟨⟨0, rfl⟩, _, rfl, h⟩
abbrev law_sum_N : List Str := ["word", "step", "size", "found", "letter"]
theorem law_sum_S : FnScope law_sum_N ["word", "step", "size"] d__law_sum.scope := ⟨rfl, rfl, rfl, by decide +kernel, rfl, by decide +kernel, by decide +kernel⟩
theorem ok_law_sum (B : Bis mg) (L : LK w K mg base fa fn tq) {fd : FuncData} (F1 : Fd K d__law_sum ["word", "step", "size"] fd)  : FnOk P w K mg base (L2.CX P w) 1 (He.fAd K d__law_sum.at_) fd ["word", "step", "size"] (toSp K (tbOf K tq) 3 (spF K law_sum_W)) := by
  refine fn_F (k := 0) none L F1 law_sum_S law_sum_W noneNo (fun _ => rfl) ?_
  intro z t Q E h ye tbl
  obtain ⟨word1, step2, size3, ⟨⟩⟩ := t
  show Ws _ (⟨[some (pu word1), some (pu step2), some (pu size3), none, none], []⟩ : DSt) _ _
  refine s_asg (R := fun (found4 : Int) => (law_sum_w3 word1 step2 size3 found4 Q)) 3 ye.ok rfl c_int ?_ (by exact h)
  intro found4 h
  try dsimp only
  show Ws _ (⟨[some (pu word1), some (pu step2), some (pu size3), some (pu found4), none], []⟩ : DSt) _ _
  refine s_for (Z := Int) (J := Option Pv) (Body := (fun (x5 : Txt) (z6 : Int) (nx8 : Int → Prop) => (law_sum_w1 step2 size3 x5 nx8 z6))) (Rest := (fun (z11 : Int) => (law_sum_w2 z11 Q))) (.n 4) (fun (z6 : Int) (j7 : Option Pv) => (⟨[some (pu word1), some (pu step2), some (pu size3), some (pu (z6 : Int)), j7], []⟩ : DSt)) found4 none ye.ok (i_txt (c_v 0 rfl rfl)) (tg_nm ye.ok.nd 4 rfl) rfl ?_ ?_ (by exact h)
  · intro x5 found9 j7 nx8 h
    try dsimp only
    show Ws _ (⟨[some (pu word1), some (pu step2), some (pu size3), some (pu found9), some (pu x5)], []⟩ : DSt) _ _
    refine s_asg (R := fun (found10 : Int) => nx8 found10) 3 ye.ok rfl (c_mod (c_add (c_add (c_mul (c_v 3 rfl rfl) (c_v 1 rfl rfl)) (c_idxS c_tx (c_v 4 rfl rfl))) c_int) (c_v 2 rfl rfl)) ?_ (by exact h)
    intro found10 h
    try dsimp only
    show Ws _ (⟨[some (pu word1), some (pu step2), some (pu size3), some (pu found10), some (pu x5)], []⟩ : DSt) _ _
    exact ws_nil ⟨found10, some (pu x5), rfl, h⟩
  intro found13 j12 h
  try dsimp only
  show Ws _ (⟨[some (pu word1), some (pu step2), some (pu size3), some (pu found13), j12], []⟩ : DSt) _ _
  refine s_ret (R := fun (v14 : Int) => Q v14) (c_v 3 rfl rfl) (by exact h) ?_
  intro v14 h
  try dsimp only
  exact ⟨⟨0, rfl⟩, _, rfl, h⟩
abbrev law_cases1_N : List Str := []
theorem law_cases1_S : FnScope law_cases1_N [] d__law_cases1.scope := ⟨rfl, rfl, rfl, by decide +kernel, rfl, by decide +kernel, by decide +kernel⟩
theorem ok_law_cases1 (B : Bis mg) (L : LK w K mg base fa fn tq) {fd : FuncData} (F1 : Fd K d__law_cases1 [] fd) {fd_told : FuncData} (FD_told : Fd K d__law_told ["what"] fd_told) (CM_Sieve : HN.cmpK K (He.ga K "Sieve")) (CM_Table : HN.cmpK K (He.ga K "Table")) (G_Sieve_init : Mkr P w K mg base (tbOf K tq) 1 "Sieve" (He.ga K "Sieve") ["self", "size", "steps"] (spI K Sieve_init_W)) (G_Table_init : Mkr P w K mg base (tbOf K tq) 1 "Table" (He.ga K "Table") ["self", "size", "step"] (spI K Table_init_W)) (G_word_sum : Df P w K mg base (tbOf K tq) 4 "word_sum" ["word", "step", "size"] (spF K word_sum_W)) : FnOk P w K mg base (L2.CX P w) 7 (He.fAd K d__law_cases1.at_) fd [] (toSp K (tbOf K tq) 0 (spF K law_cases1_W)) := by
  refine fn_F (k := 6) none L F1 law_cases1_S law_cases1_W noneNo (fun _ => rfl) ?_
  intro z t Q E h ye tbl
  show Ws _ (⟨[], []⟩ : DSt) _ _
  refine s_if (B := Q false) (C := (law_cases1_w3 Q)) (t_k (k_neT (γ := SieveV) ye.ok CM_Sieve (c_told 2 (Sum.inl : SieveV → (SieveV ⊕ Txt)) (Sum.inr : Txt → (SieveV ⊕ Txt)) toldT (ok_told L FD_told) (told_tells L.d) (tbl _ (List.mem_of_getElem? (i := 2) rfl)) ye.ok (Nat.le_of_ble_eq_true rfl) rfl (show LamX.LamS d__law_cases1.scope _ from LamX.lamS_by (by decide +kernel)) (fun _ _ _ _ h => h) (fun _ _ _ _ h => h) (fun z E_ ye' => (c_make (γ := SieveV) (w := Sieve_init_W) 0 ye' G_Sieve_init (Nat.le_of_ble_eq_true rfl) rfl (a_cons c_int (a_cons (c_list (s_cons c_int (s_nil))) a_nil)) (fun _ => rfl) rfl))) c_tx)) ?_ ?_ (by exact h)
  · intro h
    refine s_ret (R := fun (v3 : Bool) => Q v3) c_bl (by exact h) ?_
    intro v3 h
    try dsimp only
    exact ⟨⟨0, rfl⟩, _, rfl, h⟩
  intro h
  refine ws_nil ?_
  refine s_if (B := Q false) (C := (law_cases1_w2 Q)) (t_k (k_neT (γ := SieveV) ye.ok CM_Sieve (c_told 2 (Sum.inl : SieveV → (SieveV ⊕ Txt)) (Sum.inr : Txt → (SieveV ⊕ Txt)) toldT (ok_told L FD_told) (told_tells L.d) (tbl _ (List.mem_of_getElem? (i := 2) rfl)) ye.ok (Nat.le_of_ble_eq_true rfl) rfl (show LamX.LamS d__law_cases1.scope _ from LamX.lamS_by (by decide +kernel)) (fun _ _ _ _ h => h) (fun _ _ _ _ h => h) (fun z E_ ye' => (c_make (γ := SieveV) (w := Sieve_init_W) 0 ye' G_Sieve_init (Nat.le_of_ble_eq_true rfl) rfl (a_cons c_int (a_cons (c_list (s_nil (α := Int))) a_nil)) (fun _ => rfl) rfl))) c_tx)) ?_ ?_ (by exact h)
  · intro h
    refine s_ret (R := fun (v6 : Bool) => Q v6) c_bl (by exact h) ?_
    intro v6 h
    try dsimp only
    exact ⟨⟨0, rfl⟩, _, rfl, h⟩
  intro h
  refine ws_nil ?_
  refine s_if (B := Q false) (C := (law_cases1_w1 Q)) (t_k (k_neT (γ := TableV) ye.ok CM_Table (c_told 2 (Sum.inl : TableV → (TableV ⊕ Txt)) (Sum.inr : Txt → (TableV ⊕ Txt)) toldT (ok_told L FD_told) (told_tells L.d) (tbl _ (List.mem_of_getElem? (i := 2) rfl)) ye.ok (Nat.le_of_ble_eq_true rfl) rfl (show LamX.LamS d__law_cases1.scope _ from LamX.lamS_by (by decide +kernel)) (fun _ _ _ _ h => h) (fun _ _ _ _ h => h) (fun z E_ ye' => (c_make (γ := TableV) (w := Table_init_W) 0 ye' G_Table_init (Nat.le_of_ble_eq_true rfl) rfl (a_cons c_int (a_cons c_int a_nil)) (fun _ => rfl) rfl))) c_tx)) ?_ ?_ (by exact h)
  · intro h
    refine s_ret (R := fun (v9 : Bool) => Q v9) c_bl (by exact h) ?_
    intro v9 h
    try dsimp only
    exact ⟨⟨0, rfl⟩, _, rfl, h⟩
  intro h
  refine ws_nil ?_
  refine s_if (B := Q false) (C := Q true) (t_k (k_ne ye.ok (c_told 4 (Sum.inl : Int → (Int ⊕ Txt)) (Sum.inr : Txt → (Int ⊕ Txt)) toldT (ok_told L FD_told) (told_tells L.d) (tbl _ (List.mem_of_getElem? (i := 2) rfl)) ye.ok (Nat.le_of_ble_eq_true rfl) rfl (show LamX.LamS d__law_cases1.scope _ from LamX.lamS_by (by decide +kernel)) (fun _ _ _ _ h => h) (fun _ _ _ _ h => h) (fun z E_ ye' => (c_call (w := word_sum_W) 0 ye' G_word_sum (Nat.le_of_ble_eq_true rfl) rfl (a_cons c_tx (a_cons c_int (a_cons c_int a_nil))) (fun _ => rfl) rfl))) (c_inr (α := Int) (β := Txt) c_tx))) ?_ ?_ (by exact h)
  · intro h
    refine s_ret (R := fun (v12 : Bool) => Q v12) c_bl (by exact h) ?_
    intro v12 h
    try dsimp only
    exact ⟨⟨0, rfl⟩, _, rfl, h⟩
  intro h
  refine ws_nil ?_
  refine s_ret (R := fun (v13 : Bool) => Q v13) c_bl (by exact h) ?_
  intro v13 h
  try dsimp only
  exact ⟨⟨0, rfl⟩, _, rfl, h⟩
abbrev law_rest2_N : List Str := ["size", "steps", "words", "sieve", "unlike", "meets", "word", "step"]
theorem law_rest2_S : FnScope law_rest2_N ["size", "steps", "words", "sieve"] d__law_rest2.scope := ⟨rfl, rfl, rfl, by decide +kernel, rfl, by decide +kernel, by decide +kernel⟩
theorem ok_law_rest2 (B : Bis mg) (L : LK w K mg base fa fn tq) {fd : FuncData} (F1 : Fd K d__law_rest2 ["size", "steps", "words", "sieve"] fd) {fd_told : FuncData} (FD_told : Fd K d__law_told ["what"] fd_told) (CM_Sieve : HN.cmpK K (He.ga K "Sieve")) (G_law_unlike_2 : Df P w K mg base (tbOf K tq) 1 "_law_unlike" ["words"] (spF K law_unlike_2_W)) (G_law_unlike : Df P w K mg base (tbOf K tq) 1 "_law_unlike" ["words"] (spF K law_unlike_W)) (G_law_sum : Df P w K mg base (tbOf K tq) 1 "_law_sum" ["word", "step", "size"] (spF K law_sum_W)) (G_best_step : Df P w K mg base (tbOf K tq) 5 "best_step" ["words", "size", "steps"] (spF K best_step_W)) (G_law_cases1 : Df P w K mg base (tbOf K tq) 7 "_law_cases1" [] (spF K law_cases1_W)) (G_Sieve_init : Mkr P w K mg base (tbOf K tq) 1 "Sieve" (He.ga K "Sieve") ["self", "size", "steps"] (spI K Sieve_init_W)) (G_Sieve_folded : Mt P w K mg base (tbOf K tq) 3 (He.ga K "Sieve") "folded" ["self"] (spF K Sieve_folded_W)) (G_Sieve_joined : Mt P w K mg base (tbOf K tq) 3 (He.ga K "Sieve") "joined" ["self", "other"] (spF K Sieve_joined_W)) (G_Sieve_put : Mt P w K mg base (tbOf K tq) 6 (He.ga K "Sieve") "put" ["self", "word"] (spF K Sieve_put_W)) : FnOk P w K mg base (L2.CX P w) 9 (He.fAd K d__law_rest2.at_) fd ["size", "steps", "words", "sieve"] (toSp K (tbOf K tq) 4 (spF K law_rest2_W)) := by
  refine fn_F (k := 8) none L F1 law_rest2_S law_rest2_W noneNo (fun _ => rfl) ?_
  intro z t Q E h ye tbl
  obtain ⟨size1, steps2, words3, sieve4, ⟨⟩⟩ := t
  show Ws _ (⟨[some (pu size1), some (pu steps2), some (pu words3), some (pu sieve4), none, none, none, none], []⟩ : DSt) _ _
  refine s_asg (R := fun (unlike6 : (List Txt)) => (law_rest2_w7 size1 steps2 words3 sieve4 unlike6 Q E)) 4 ye.ok rfl (c_call (w := law_unlike_2_W) 0 ye G_law_unlike_2 (Nat.le_of_ble_eq_true rfl) rfl (a_cons (c_v 2 rfl rfl) a_nil) (fun _ => rfl) rfl) ?_ (by exact h)
  intro unlike6 h
  try dsimp only
  show Ws _ (⟨[some (pu size1), some (pu steps2), some (pu words3), some (pu sieve4), some (pu unlike6), none, none, none], []⟩ : DSt) _ _
  refine s_asgL (R := fun (meets13 : (List Int)) => (law_rest2_w6 size1 steps2 words3 sieve4 meets13 Q E)) 5 ye.ok rfl (l_lcX0 (.n 7) [("step", 7)] ye.ok (i_list (c_v 1 rfl rfl)) (show BlkOk law_rest2_N d__law_rest2.scope _ _ from blk_by (by decide +kernel)) (fun z => (tg_blk ye.ok z 7 rfl)) (fun _ (x7 : Int) _ _ => (c_sub (c_lenL B (by rfl) (c_l (c_v 4 rfl rfl))) (c_lenL B (by rfl) (c_l (c_call (w := law_unlike_W) 0 ye.blk G_law_unlike (Nat.le_of_ble_eq_true rfl) rfl (a_cons (c_L ye.ok.blk (l_lcX0 (.n 6) [("word", 6)] ye.ok.blk (i_list (c_v 4 rfl rfl)) (blk_by (by first | decide +kernel | rfl)) (fun z => (tg_blk ye.ok.blk z 6 rfl)) (fun _ (x8 : Txt) _ _ => (c_call (w := law_sum_W) 0 ye.blk.blk G_law_sum (Nat.le_of_ble_eq_true rfl) rfl (a_cons (c_v 6 rfl rfl) (a_cons (c_v 7 rfl rfl) (a_cons (c_v 0 rfl rfl) a_nil))) (fun _ => rfl) trivial)))) a_nil) (fun _ => rfl) trivial)))))) ?_ (by exact h)
  intro meets13 h
  try dsimp only
  show Ws _ (⟨[some (pu size1), some (pu steps2), some (pu words3), some (pu sieve4), some (pu unlike6), some (pu meets13), none, none], []⟩ : DSt) _ _
  refine s_if (B := Q false) (C := (law_rest2_w5 size1 steps2 words3 sieve4 Q E)) (t_k (k_ne ye.ok (c_call (w := best_step_W) 0 ye G_best_step (Nat.le_of_ble_eq_true rfl) rfl (a_cons (c_v 2 rfl rfl) (a_cons (c_v 0 rfl rfl) (a_cons (c_v 1 rfl rfl) a_nil))) (fun _ => rfl) rfl) (c_tup2 (a_cons (c_ixL (c_l (c_v 1 rfl rfl)) (c_idxL ye.ok (c_l (c_v 5 rfl rfl)) (c_min ye.ok B (by rfl) (c_l (c_v 5 rfl rfl))))) (a_cons (c_min ye.ok B (by rfl) (c_l (c_v 5 rfl rfl))) a_nil))))) ?_ ?_ (by exact h)
  · intro h
    refine s_ret (R := fun (v15 : Bool) => Q v15) c_bl (by exact h) ?_
    intro v15 h
    try dsimp only
    exact ⟨⟨0, rfl⟩, _, rfl, h⟩
  intro h
  refine ws_nil ?_
  refine s_if (B := Q false) (C := (law_rest2_w4 size1 steps2 words3 sieve4 Q)) (t_not (t_v (fun _ => rfl) (c_call0 (w := law_cases1_W) 0 ye G_law_cases1 (Nat.le_of_ble_eq_true rfl) rfl rfl rfl))) ?_ ?_ (by exact h)
  · intro h
    refine s_ret (R := fun (v17 : Bool) => Q v17) c_bl (by exact h) ?_
    intro v17 h
    try dsimp only
    exact ⟨⟨0, rfl⟩, _, rfl, h⟩
  intro h
  refine ws_nil ?_
  refine s_if (B := Q false) (C := (law_rest2_w3 size1 steps2 words3 sieve4 Q)) (t_k (k_neT (γ := SieveV) ye.ok CM_Sieve (c_told 3 (Sum.inl : SieveV → (SieveV ⊕ Txt)) (Sum.inr : Txt → (SieveV ⊕ Txt)) toldT (ok_told L FD_told) (told_tells L.d) (tbl _ (List.mem_of_getElem? (i := 3) rfl)) ye.ok (Nat.le_of_ble_eq_true rfl) rfl (show LamX.LamS d__law_rest2.scope _ from LamX.lamS_by (by decide +kernel)) (fun _ _ _ _ h => h) (fun _ _ _ _ h => h) (fun z E_ ye' => (c_meth0 (w := Sieve_folded_W) 0 ye' G_Sieve_folded (He.cls_ok (L.d.fact 48 rfl)) (Nat.le_of_ble_eq_true rfl) (c_make (γ := SieveV) (w := Sieve_init_W) 0 ye' G_Sieve_init (Nat.le_of_ble_eq_true rfl) rfl (a_cons c_int (a_cons (c_list (s_cons c_int (s_nil))) a_nil)) (fun _ => rfl) rfl) rfl rfl))) c_tx)) ?_ ?_ (by exact h)
  · intro h
    refine s_ret (R := fun (v21 : Bool) => Q v21) c_bl (by exact h) ?_
    intro v21 h
    try dsimp only
    exact ⟨⟨0, rfl⟩, _, rfl, h⟩
  intro h
  refine ws_nil ?_
  refine s_if (B := Q false) (C := (law_rest2_w2 words3 sieve4 Q)) (t_k (k_neT (γ := SieveV) ye.ok CM_Sieve (c_told 3 (Sum.inl : SieveV → (SieveV ⊕ Txt)) (Sum.inr : Txt → (SieveV ⊕ Txt)) toldT (ok_told L FD_told) (told_tells L.d) (tbl _ (List.mem_of_getElem? (i := 3) rfl)) ye.ok (Nat.le_of_ble_eq_true rfl) rfl (show LamX.LamS d__law_rest2.scope _ from LamX.lamS_by (by decide +kernel)) (fun _ _ _ _ h => h) (fun _ _ _ _ h => h) (fun z E_ ye' => (c_meth (w := Sieve_joined_W) 0 ye' G_Sieve_joined (He.cls_ok (L.d.fact 48 rfl)) (Nat.le_of_ble_eq_true rfl) (c_v 3 rfl rfl) (a_cons (c_make (γ := SieveV) (w := Sieve_init_W) 0 ye' G_Sieve_init (Nat.le_of_ble_eq_true rfl) rfl (a_cons (c_add (c_v 0 rfl rfl) c_int) (a_cons (c_v 1 rfl rfl) a_nil)) (fun _ => rfl) rfl) a_nil) (fun _ => rfl) rfl))) c_tx)) ?_ ?_ (by exact h)
  · intro h
    refine s_ret (R := fun (v25 : Bool) => Q v25) c_bl (by exact h) ?_
    intro v25 h
    try dsimp only
    exact ⟨⟨0, rfl⟩, _, rfl, h⟩
  intro h
  refine ws_nil ?_
  refine s_if (B := Q false) (C := (law_rest2_w1 sieve4 Q)) (t_k (k_ne ye.ok (c_told 5 (Sum.inl : (Int × Int) → ((Int × Int) ⊕ Txt)) (Sum.inr : Txt → ((Int × Int) ⊕ Txt)) toldT (ok_told L FD_told) (told_tells L.d) (tbl _ (List.mem_of_getElem? (i := 3) rfl)) ye.ok (Nat.le_of_ble_eq_true rfl) rfl (show LamX.LamS d__law_rest2.scope _ from LamX.lamS_by (by decide +kernel)) (fun _ _ _ _ h => h) (fun _ _ _ _ h => h) (fun z E_ ye' => (c_call (w := best_step_W) 0 ye' G_best_step (Nat.le_of_ble_eq_true rfl) rfl (a_cons (c_v 2 rfl rfl) (a_cons c_int (a_cons (c_list (s_nil (α := Int))) a_nil))) (fun _ => rfl) rfl))) (c_inr (α := (Int × Int)) (β := Txt) c_tx))) ?_ ?_ (by exact h)
  · intro h
    refine s_ret (R := fun (v28 : Bool) => Q v28) c_bl (by exact h) ?_
    intro v28 h
    try dsimp only
    exact ⟨⟨0, rfl⟩, _, rfl, h⟩
  intro h
  refine ws_nil ?_
  refine s_if (B := Q false) (C := Q true) (t_k (k_ne ye.ok (c_told 6 (Sum.inl : Unit → (Unit ⊕ Txt)) (Sum.inr : Txt → (Unit ⊕ Txt)) toldT (ok_told L FD_told) (told_tells L.d) (tbl _ (List.mem_of_getElem? (i := 3) rfl)) ye.ok (Nat.le_of_ble_eq_true rfl) rfl (show LamX.LamS d__law_rest2.scope _ from LamX.lamS_by (by decide +kernel)) (fun _ _ _ _ h => h) (fun _ _ _ _ h => h) (fun z E_ ye' => (c_meth (w := Sieve_put_W) 0 ye' G_Sieve_put (He.cls_ok (L.d.fact 48 rfl)) (Nat.le_of_ble_eq_true rfl) (c_v 3 rfl rfl) (a_cons c_tx a_nil) (fun _ => rfl) rfl))) (c_inr (α := Unit) (β := Txt) c_tx))) ?_ ?_ (by exact h)
  · intro h
    refine s_ret (R := fun (v31 : Bool) => Q v31) c_bl (by exact h) ?_
    intro v31 h
    try dsimp only
    exact ⟨⟨0, rfl⟩, _, rfl, h⟩
  intro h
  refine ws_nil ?_
  refine s_ret (R := fun (v32 : Bool) => Q v32) c_bl (by exact h) ?_
  intro v32 h
  try dsimp only
  exact ⟨⟨0, rfl⟩, _, rfl, h⟩
abbrev law_rest1_N : List Str := ["dice", "size", "steps", "words", "others", "sieve", "room", "shelfy", "rows", "word", "first", "spots", "k", "free", "spot", "told", "inside", "gone"]
theorem law_rest1_S : FnScope law_rest1_N ["dice", "size", "steps", "words", "others", "sieve"] d__law_rest1.scope := ⟨rfl, rfl, rfl, by decide +kernel, rfl, by decide +kernel, by decide +kernel⟩
theorem ok_law_rest1 (B : Bis mg) (L : LK w K mg base fa fn tq) {fd : FuncData} (F1 : Fd K d__law_rest1 ["dice", "size", "steps", "words", "others", "sieve"] fd) {fd_told : FuncData} (FD_told : Fd K d__law_told ["what"] fd_told) (G_law_roll : Df P w K mg base (tbOf K tq) 1 "_law_roll" ["dice", "many"] (spD rollW)) (G_Table_initP : Mkr P w K mg base (tbOf K tq) 1 "Table" (He.ga K "Table") ["self", "size", "step"] (spI2 K Table_initP_W)) (G_law_sum : Df P w K mg base (tbOf K tq) 1 "_law_sum" ["word", "step", "size"] (spF K law_sum_W)) (G_Table_putP : Mt P w K mg base (tbOf K tq) 6 (He.ga K "Table") "put" ["self", "word"] (spM2 K Table_putP_W)) (G_law_unlike_2 : Df P w K mg base (tbOf K tq) 1 "_law_unlike" ["words"] (spF K law_unlike_2_W)) (G_Table_hasP : Mt P w K mg base (tbOf K tq) 6 (He.ga K "Table") "has" ["self", "word"] (spO2 K Table_hasP_W)) (G_Table_looksP : Mt P w K mg base (tbOf K tq) 7 (He.ga K "Table") "looks" ["self", "word"] (spO2 K Table_looksP_W)) (G_Table_takeP : Mt P w K mg base (tbOf K tq) 7 (He.ga K "Table") "take" ["self", "word"] (spM2 K Table_takeP_W)) (G_law_rest2 : Df P w K mg base (tbOf K tq) 9 "_law_rest2" ["size", "steps", "words", "sieve"] (spF K law_rest2_W)) : FnOk P w K mg base (L2.CX P w) 10 (He.fAd K d__law_rest1.at_) fd ["dice", "size", "steps", "words", "others", "sieve"] (toSp K (tbOf K tq) 6 (spD law_rest1_W)) := by
  refine fn_D (k := 9) none L F1 law_rest1_S law_rest1_W noneNo (fun _ => rfl) ?_
  intro q0 z t Q h ye tbl
  obtain ⟨size1, steps2, words3, others4, sieve5, ⟨⟩⟩ := t
  show Ws _ (⟨[some (raw (.ref q0)), some (pu size1), some (pu steps2), some (pu words3), some (pu others4), some (pu sieve5), none, none, none, none, none, none, none, none, none, none, none, none], [(q0, dicec)]⟩ : DSt) _ _
  refine s_asg (R := fun (room7 : Int) => (law_rest1_w21 size1 steps2 words3 others4 sieve5 room7 Q)) 6 ye.ok rfl (c_add c_int (c_callD 0 0 ye.ok G_law_roll (Nat.le_of_ble_eq_true rfl) rfl (a_cons c_int a_nil) rfl rfl rfl (fun _ => rfl))) ?_ (by exact h)
  intro room7 h
  try dsimp only
  show Ws _ (⟨[some (raw (.ref q0)), some (pu size1), some (pu steps2), some (pu words3), some (pu others4), some (pu sieve5), some (pu room7), none, none, none, none, none, none, none, none, none, none, none], [(q0, dicec)]⟩ : DSt) _ _
  refine s_asgI2N (R := fun (shelfy9 : TableV) (rows10 : (List (Option Txt))) => (law_rest1_w20 size1 steps2 words3 others4 sieve5 room7 shelfy9 rows10 Q)) (.p (.n 7) (.n 8)) (tg_pair ye.ok.calm (tg_nm ye.ok.nd 7 rfl) (tg_nm ye.ok.nd 8 rfl)) (i_make2 (γ := TableV) (w := Table_initP_W) 0 ye G_Table_initP (Nat.le_of_ble_eq_true rfl) rfl (a_cons (c_v 6 rfl rfl) (a_cons (c_ixL (c_l (c_v 2 rfl rfl)) c_int) a_nil)) (fun _ => rfl) rfl) (fun _ _ _ => (n_rep (s_cons (c_none (α := Txt)) (s_nil)) (fun _ _ => (c_v 6 rfl rfl)))) ?_ (by exact h)
  intro q11 a12 shelfy9 q13 rows10 h
  try dsimp only
  show Ws _ (⟨[some (raw (.ref q0)), some (pu size1), some (pu steps2), some (pu words3), some (pu others4), some (pu sieve5), some (pu room7), some (raw (.ref q11)), some (raw (.ref q13)), none, none, none, none, none, none, none, none, none], [(q13, lstc rows10), (a12, lstc shelfy9.rows), _, (q0, dicec)]⟩ : DSt) _ _
  refine s_for (Z := TableV × (List (Option Txt))) (J := Option Pv × Option Pv × Option Pv × Option Pv × Option Pv) (Body := (fun (x14 : Txt) (z15 : TableV × (List (Option Txt))) (nx17 : TableV × (List (Option Txt)) → Prop) => (law_rest1_w8 steps2 room7 x14 nx17 z15.1 z15.2 Q))) (Rest := (fun (z36 : TableV × (List (Option Txt))) => (law_rest1_w19 size1 steps2 words3 others4 sieve5 room7 z36.1 z36.2 Q))) (.n 9) (fun (z15 : TableV × (List (Option Txt))) (j16 : Option Pv × Option Pv × Option Pv × Option Pv × Option Pv) => (⟨[some (raw (.ref q0)), some (pu size1), some (pu steps2), some (pu words3), some (pu others4), some (pu sieve5), some (pu room7), some (raw (.ref q11)), some (raw (.ref q13)), j16.1, j16.2.1, j16.2.2.1, none, j16.2.2.2.1, none, j16.2.2.2.2, none, none], [(q13, lstc (z15.2)), (a12, lstc (z15.1).rows), (q11, insc (He.ga K "Table") [("size", pu (z15.1).size), ("step", pu (z15.1).step), ("rows", raw (.ref a12))]), (q0, dicec)]⟩ : DSt)) ((TableV.mk shelfy9.size shelfy9.step shelfy9.rows), rows10) (none, none, none, none, none) ye.ok (i_list (c_v 3 rfl rfl)) (tg_nm ye.ok.nd 9 rfl) rfl ?_ ?_ (by exact h)
  · intro x14 z15 j16 nx17 h
    try dsimp only
    obtain ⟨shelfy18, rows19⟩ := z15
    show Ws _ (⟨[some (raw (.ref q0)), some (pu size1), some (pu steps2), some (pu words3), some (pu others4), some (pu sieve5), some (pu room7), some (raw (.ref q11)), some (raw (.ref q13)), some (pu x14), j16.2.1, j16.2.2.1, none, j16.2.2.2.1, none, j16.2.2.2.2, none, none], [(q13, lstc rows19), (a12, lstc shelfy18.rows), _, (q0, dicec)]⟩ : DSt) _ _
    refine s_asg (R := fun (first21 : Int) => (law_rest1_w7 room7 x14 nx17 shelfy18 rows19 first21 Q)) 10 ye.ok rfl (c_call (w := law_sum_W) 3 ye G_law_sum (Nat.le_of_ble_eq_true rfl) rfl (a_cons (c_v 9 rfl rfl) (a_cons (c_ixL (c_l (c_v 2 rfl rfl)) c_int) (a_cons (c_v 6 rfl rfl) a_nil))) (fun _ => rfl) rfl) ?_ (by exact h)
    intro first21 h
    try dsimp only
    show Ws _ (⟨[some (raw (.ref q0)), some (pu size1), some (pu steps2), some (pu words3), some (pu others4), some (pu sieve5), some (pu room7), some (raw (.ref q11)), some (raw (.ref q13)), some (pu x14), some (pu first21), j16.2.2.1, none, j16.2.2.2.1, none, j16.2.2.2.2, none, none], [(q13, lstc rows19), (a12, lstc shelfy18.rows), _, (q0, dicec)]⟩ : DSt) _ _
    refine s_asgL (R := fun (spots23 : (List Int)) => (law_rest1_w6 x14 nx17 shelfy18 rows19 spots23 Q)) 11 ye.ok rfl (l_lc0 (.n 12) [("k", 12)] (fun (x22 : Int) => ((first21 + x22) % room7)) ye.ok (i_range1 ye.ok B (by rfl) (c_v 6 rfl rfl)) (show BlkOk law_rest1_N d__law_rest1.scope _ _ from blk_by (by decide +kernel)) (fun z => (tg_blk ye.ok z 12 rfl)) (fun _ (x22 : Int) _ _ => (c_mod (c_add (c_v 10 rfl rfl) (c_v 12 rfl rfl)) (c_v 6 rfl rfl)))) ?_ (by exact h)
    intro spots23 h
    try dsimp only
    show Ws _ (⟨[some (raw (.ref q0)), some (pu size1), some (pu steps2), some (pu words3), some (pu others4), some (pu sieve5), some (pu room7), some (raw (.ref q11)), some (raw (.ref q13)), some (pu x14), some (pu first21), some (pu spots23), none, j16.2.2.2.1, none, j16.2.2.2.2, none, none], [(q13, lstc rows19), (a12, lstc shelfy18.rows), _, (q0, dicec)]⟩ : DSt) _ _
    refine s_asgL (R := fun (free25 : (List Int)) => (law_rest1_w5 x14 nx17 shelfy18 rows19 free25 Q)) 13 ye.ok rfl (l_lc (.n 14) [("spot", 14)] (fun (x24 : Int) => ((inL (ixD rows19 x24) [(none : (Option Txt)), (some x14)]))) (fun (x24 : Int) => x24) ye.ok (i_list (c_v 11 rfl rfl)) (show BlkOk law_rest1_N d__law_rest1.scope _ _ from blk_by (by decide +kernel)) (fun z => (tg_blk ye.ok z 14 rfl)) (fun _ (x24 : Int) _ _ => ts_one (t_k (k_in ye.ok.blk (c_ixL (l_own 8 1 rfl rfl rfl) (c_v 14 rfl rfl)) (c_l (c_list (s_cons (c_none (α := Txt)) (s_cons (c_some (c_v 9 rfl rfl)) (s_nil)))))))) (fun _ (x24 : Int) _ _ => (c_v 14 rfl rfl))) ?_ (by exact h)
    intro free25 h
    try dsimp only
    show Ws _ (⟨[some (raw (.ref q0)), some (pu size1), some (pu steps2), some (pu words3), some (pu others4), some (pu sieve5), some (pu room7), some (raw (.ref q11)), some (raw (.ref q13)), some (pu x14), some (pu first21), some (pu spots23), none, some (pu free25), none, j16.2.2.2.2, none, none], [(q13, lstc rows19), (a12, lstc shelfy18.rows), _, (q0, dicec)]⟩ : DSt) _ _
    refine s_asgS (R := fun (z9 : (Bool ⊕ Txt) × TableV) => (law_rest1_w4 x14 nx17 rows19 free25 z9.1 z9.2 Q)) 15 ye.ok rfl (c_toldS (gp := fun (m9 : TableV) => List.set (List.set ([(q13, lstc rows19), (a12, lstc shelfy18.rows), (q11, insc (He.ga K "Table") [("size", pu shelfy18.size), ("step", pu shelfy18.step), ("rows", raw (.ref a12))]), (q0, dicec)]) 1 (a12, Ow2.cl m9)) (1 + 1) (q11, ob2 K m9 a12)) 6 (TableV.mk shelfy18.size shelfy18.step shelfy18.rows) (Sum.inl : Bool → (Bool ⊕ Txt)) (Sum.inr : Txt → (Bool ⊕ Txt)) toldT (ok_told L FD_told) (told_tells L.d) (tbl _ (List.mem_of_getElem? (i := 4) rfl)) ye.ok (Nat.le_of_ble_eq_true rfl) rfl (show LamX.LamS d__law_rest1.scope _ from LamX.lamS_by (by decide +kernel)) (fun _ _ _ _ h => h) (fun _ _ _ _ h => h) rfl (fun z E_ ye' => (c_methM2 (mm := (TableV.mk shelfy18.size shelfy18.step shelfy18.rows)) (w := Table_putP_W) 7 1 0 ye' G_Table_putP (He.cls_ok (L.d.fact 69 rfl)) (Nat.le_of_ble_eq_true rfl) rfl rfl rfl rfl (a_cons (c_v 9 rfl rfl) a_nil) (fun _ => rfl) rfl))) ?_ (by exact h)
    intro told28 shelfy29 h
    try dsimp only
    show Ws _ (⟨[some (raw (.ref q0)), some (pu size1), some (pu steps2), some (pu words3), some (pu others4), some (pu sieve5), some (pu room7), some (raw (.ref q11)), some (raw (.ref q13)), some (pu x14), some (pu first21), some (pu spots23), none, some (pu free25), none, some (pu told28), none, none], [(q13, lstc rows19), (a12, lstc shelfy29.rows), _, (q0, dicec)]⟩ : DSt) _ _
    refine s_if (B := Q false) (C := (law_rest1_w3 x14 nx17 rows19 free25 shelfy29)) (t_k (k_ne ye.ok (c_v 15 rfl rfl) (c_ifP (u := (Sum.inr (tx "count") : (Bool ⊕ Txt))) (w := (Sum.inl (ixD rows19 (ixD free25 (0 : Int))).isNone : (Bool ⊕ Txt))) (t_k (k_eqL ye.ok (c_l (c_v 13 rfl rfl)) (c_l (c_list (s_nil (α := Int)))))) (c_inr (α := Bool) (β := Txt) c_tx) (c_inl (α := Bool) (β := Txt) (c_k (k_isN (c_ixL (l_own 8 0 rfl rfl rfl) (c_ixL (c_l (c_v 13 rfl rfl)) c_int)))))))) ?_ ?_ (by exact h)
    · intro h
      refine s_ret (R := fun (v30 : Bool) => Q v30) c_bl (by exact h) ?_
      intro v30 h
      try dsimp only
      exact ⟨⟨3, rfl⟩, _, rfl, h⟩
    intro h
    refine ws_nil ?_
    refine s_ifJ (Z := (List (Option Txt))) (J := Unit) (Rest := (fun (z31 : (List (Option Txt))) => (law_rest1_w2 nx17 shelfy29 z31))) (B := fun nx33 => (law_rest1_w1 x14 rows19 free25 nx33)) (C := fun nx33 => nx33 rows19) (fun (z31 : (List (Option Txt))) (j32 : Unit) => (⟨[some (raw (.ref q0)), some (pu size1), some (pu steps2), some (pu words3), some (pu others4), some (pu sieve5), some (pu room7), some (raw (.ref q11)), some (raw (.ref q13)), some (pu x14), some (pu first21), some (pu spots23), none, some (pu free25), none, some (pu told28), none, none], [(q13, lstc z31), (a12, lstc shelfy29.rows), (q11, insc (He.ga K "Table") [("size", pu shelfy29.size), ("step", pu shelfy29.step), ("rows", raw (.ref a12))]), (q0, dicec)]⟩ : DSt)) (t_k (k_neL ye.ok (c_l (c_v 13 rfl rfl)) (c_l (c_list (s_nil (α := Int)))))) ?_ ?_ ?_ (by exact h)
    · intro nx33 h
      try dsimp only
      refine s_lput (R := fun (rows34 : List (Option Txt)) => nx33 rows34) 8 0 rfl rfl rfl (c_some (c_v 9 rfl rfl)) (c_ixL (c_l (c_v 13 rfl rfl)) c_int) ?_ (by exact h)
      intro rows34 h
      try dsimp only
      show Ws _ (⟨[some (raw (.ref q0)), some (pu size1), some (pu steps2), some (pu words3), some (pu others4), some (pu sieve5), some (pu room7), some (raw (.ref q11)), some (raw (.ref q13)), some (pu x14), some (pu first21), some (pu spots23), none, some (pu free25), none, some (pu told28), none, none], [(q13, lstc rows34), (a12, lstc shelfy29.rows), _, (q0, dicec)]⟩ : DSt) _ _
      exact ws_nil ⟨rows34, (), rfl, h⟩
    · intro nx33 h
      try dsimp only
      exact ws_nil ⟨rows19, (), rfl, h⟩
    intro rows35 j32 h
    try dsimp only
    show Ws _ (⟨[some (raw (.ref q0)), some (pu size1), some (pu steps2), some (pu words3), some (pu others4), some (pu sieve5), some (pu room7), some (raw (.ref q11)), some (raw (.ref q13)), some (pu x14), some (pu first21), some (pu spots23), none, some (pu free25), none, some (pu told28), none, none], [(q13, lstc rows35), (a12, lstc shelfy29.rows), _, (q0, dicec)]⟩ : DSt) _ _
    exact ws_nil ⟨((TableV.mk shelfy29.size shelfy29.step shelfy29.rows), rows35), (some (pu x14), some (pu first21), some (pu spots23), some (pu free25), some (pu told28)), rfl, h⟩
  intro z36 j37 h
  try dsimp only
  obtain ⟨shelfy38, rows39⟩ := z36
  show Ws _ (⟨[some (raw (.ref q0)), some (pu size1), some (pu steps2), some (pu words3), some (pu others4), some (pu sieve5), some (pu room7), some (raw (.ref q11)), some (raw (.ref q13)), j37.1, j37.2.1, j37.2.2.1, none, j37.2.2.2.1, none, j37.2.2.2.2, none, none], [(q13, lstc rows39), (a12, lstc shelfy38.rows), _, (q0, dicec)]⟩ : DSt) _ _
  refine s_if (B := Q false) (C := (law_rest1_w18 size1 steps2 words3 others4 sieve5 room7 shelfy38 rows39 Q)) (t_k (k_neL ye.ok (l_ownF 7 2 1 (He.cls_ok (L.d.fact 69 rfl)) (He.noat_ok (L.d.fact 73 rfl)) rfl rfl rfl rfl rfl) (l_own 8 0 rfl rfl rfl))) ?_ ?_ (by exact h)
  · intro h
    refine s_ret (R := fun (v40 : Bool) => Q v40) c_bl (by exact h) ?_
    intro v40 h
    try dsimp only
    exact ⟨⟨3, rfl⟩, _, rfl, h⟩
  intro h
  refine ws_nil ?_
  refine ws_frL 8 0 rfl rfl ?_
  refine s_asgL (R := fun (inside42 : (List (Option Txt))) => (law_rest1_w17 size1 steps2 words3 others4 sieve5 room7 shelfy38 rows39 inside42 Q)) 16 ye.ok rfl (l_lc (.n 9) [("word", 9)] (fun (x41 : (Option Txt)) => x41.isSome) (fun (x41 : (Option Txt)) => x41) ye.ok (i_list (c_v 8 rfl rfl)) (show BlkOk law_rest1_N d__law_rest1.scope _ _ from blk_by (by decide +kernel)) (fun z => (tg_blk ye.ok z 9 rfl)) (fun _ (x41 : (Option Txt)) _ _ => ts_one (t_k (k_notN (c_v 9 rfl rfl)))) (fun _ (x41 : (Option Txt)) _ _ => (c_v 9 rfl rfl))) ?_ (by exact h)
  intro inside42 h
  try dsimp only
  show Ws _ (⟨[some (raw (.ref q0)), some (pu size1), some (pu steps2), some (pu words3), some (pu others4), some (pu sieve5), some (pu room7), some (raw (.ref q11)), some (pu rows39), j37.1, j37.2.1, j37.2.2.1, none, j37.2.2.2.1, none, j37.2.2.2.2, some (pu inside42), none], [(a12, lstc shelfy38.rows), _, (q0, dicec)]⟩ : DSt) _ _
  refine s_for (Z := Unit) (J := Option Pv) (Body := (fun (x44 : Txt) (z45 : Unit) (nx47 : Unit → Prop) => (law_rest1_w10 steps2 room7 shelfy38 rows39 inside42 x44 nx47 Q))) (Rest := (fun (z53 : Unit) => (law_rest1_w16 size1 steps2 words3 sieve5 room7 shelfy38 inside42 Q))) (.n 9) (fun (z45 : Unit) (j46 : Option Pv) => (⟨[some (raw (.ref q0)), some (pu size1), some (pu steps2), some (pu words3), some (pu others4), some (pu sieve5), some (pu room7), some (raw (.ref q11)), some (pu rows39), j46, j37.2.1, j37.2.2.1, none, j37.2.2.2.1, none, j37.2.2.2.2, some (pu inside42), none], [(a12, lstc shelfy38.rows), (q11, insc (He.ga K "Table") [("size", pu shelfy38.size), ("step", pu shelfy38.step), ("rows", raw (.ref a12))]), (q0, dicec)]⟩ : DSt)) () j37.1 ye.ok (i_list (c_call (w := law_unlike_2_W) 2 ye G_law_unlike_2 (Nat.le_of_ble_eq_true rfl) rfl (a_cons (c_catL (c_l (c_v 3 rfl rfl)) (c_l (c_v 4 rfl rfl))) a_nil) (fun _ => rfl) rfl)) (tg_nm ye.ok.nd 9 rfl) rfl ?_ ?_ (by exact h)
  · intro x44 z45 j46 nx47 h
    try dsimp only
    show Ws _ (⟨[some (raw (.ref q0)), some (pu size1), some (pu steps2), some (pu words3), some (pu others4), some (pu sieve5), some (pu room7), some (raw (.ref q11)), some (pu rows39), some (pu x44), j37.2.1, j37.2.2.1, none, j37.2.2.2.1, none, j37.2.2.2.2, some (pu inside42), none], [(a12, lstc shelfy38.rows), _, (q0, dicec)]⟩ : DSt) _ _
    refine s_if (B := Q false) (C := (law_rest1_w9 steps2 room7 shelfy38 rows39 inside42 x44 nx47 Q)) (t_k (k_ne ye.ok (c_methO2 (mm := (TableV.mk shelfy38.size shelfy38.step shelfy38.rows)) (w := Table_hasP_W) 7 0 2 ye G_Table_hasP (He.cls_ok (L.d.fact 69 rfl)) (Nat.le_of_ble_eq_true rfl) rfl rfl rfl rfl (a_cons (c_v 9 rfl rfl) a_nil) (fun _ => rfl) rfl) (c_k (k_in ye.ok (c_some (c_v 9 rfl rfl)) (c_l (c_v 16 rfl rfl)))))) ?_ ?_ (by exact h)
    · intro h
      refine s_ret (R := fun (v49 : Bool) => Q v49) c_bl (by exact h) ?_
      intro v49 h
      try dsimp only
      exact ⟨⟨2, rfl⟩, _, rfl, h⟩
    intro h
    refine ws_nil ?_
    refine s_if (B := Q false) (C := nx47 ()) (t_w (w_and (t_k (k_in ye.ok (c_some (c_v 9 rfl rfl)) (c_l (c_v 16 rfl rfl)))) (w_and1 (t_k (k_ne ye.ok (c_methO2 (mm := (TableV.mk shelfy38.size shelfy38.step shelfy38.rows)) (w := Table_looksP_W) 7 0 2 ye G_Table_looksP (He.cls_ok (L.d.fact 69 rfl)) (Nat.le_of_ble_eq_true rfl) rfl rfl rfl rfl (a_cons (c_v 9 rfl rfl) a_nil) (fun _ => rfl) rfl) (c_add (c_mod (c_sub (c_idxL ye.ok (c_l (c_v 8 rfl rfl)) (c_some (c_v 9 rfl rfl))) (c_call (w := law_sum_W) 2 ye G_law_sum (Nat.le_of_ble_eq_true rfl) rfl (a_cons (c_v 9 rfl rfl) (a_cons (c_ixL (c_l (c_v 2 rfl rfl)) c_int) (a_cons (c_v 6 rfl rfl) a_nil))) (fun _ => rfl) rfl)) (c_v 6 rfl rfl)) c_int)))))) ?_ ?_ (by exact h)
    · intro h
      refine s_ret (R := fun (v52 : Bool) => Q v52) c_bl (by exact h) ?_
      intro v52 h
      try dsimp only
      exact ⟨⟨2, rfl⟩, _, rfl, h⟩
    intro h
    refine ws_nil ?_
    exact ws_nil ⟨(), some (pu x44), rfl, h⟩
  intro z53 j54 h
  try dsimp only
  show Ws _ (⟨[some (raw (.ref q0)), some (pu size1), some (pu steps2), some (pu words3), some (pu others4), some (pu sieve5), some (pu room7), some (raw (.ref q11)), some (pu rows39), j54, j37.2.1, j37.2.2.1, none, j37.2.2.2.1, none, j37.2.2.2.2, some (pu inside42), none], [(a12, lstc shelfy38.rows), _, (q0, dicec)]⟩ : DSt) _ _
  refine s_ifJ (Z := TableV) (J := Option Pv) (Rest := (fun (z55 : TableV) => (law_rest1_w15 size1 steps2 words3 sieve5 room7 z55 Q))) (B := fun nx57 => (law_rest1_w13 shelfy38 inside42 nx57 Q)) (C := fun nx57 => nx57 (TableV.mk shelfy38.size shelfy38.step shelfy38.rows)) (fun (z55 : TableV) (j56 : Option Pv) => (⟨[some (raw (.ref q0)), some (pu size1), some (pu steps2), some (pu words3), some (pu others4), some (pu sieve5), some (pu room7), some (raw (.ref q11)), some (pu rows39), j54, j37.2.1, j37.2.2.1, none, j37.2.2.2.1, none, j37.2.2.2.2, some (pu inside42), j56], [(a12, lstc z55.rows), (q11, insc (He.ga K "Table") [("size", pu z55.size), ("step", pu z55.step), ("rows", raw (.ref a12))]), (q0, dicec)]⟩ : DSt)) (t_k (k_neL ye.ok (c_l (c_v 16 rfl rfl)) (c_l (c_list (s_nil (α := (Option Txt))))))) ?_ ?_ ?_ (by exact h)
  · intro nx57 h
    try dsimp only
    refine s_asg (R := fun (gone59 : (Option Txt)) => (law_rest1_w12 shelfy38 inside42 nx57 gone59 Q)) 17 ye.ok rfl (c_ixL (c_l (c_v 16 rfl rfl)) (c_callD 0 2 ye.ok G_law_roll (Nat.le_of_ble_eq_true rfl) rfl (a_cons (c_lenL B (by rfl) (c_l (c_v 16 rfl rfl))) a_nil) rfl rfl rfl (fun _ => rfl))) ?_ (by exact h)
    intro gone59 h
    try dsimp only
    show Ws _ (⟨[some (raw (.ref q0)), some (pu size1), some (pu steps2), some (pu words3), some (pu others4), some (pu sieve5), some (pu room7), some (raw (.ref q11)), some (pu rows39), j54, j37.2.1, j37.2.2.1, none, j37.2.2.2.1, none, j37.2.2.2.2, some (pu inside42), some (pu gone59)], [(a12, lstc shelfy38.rows), _, (q0, dicec)]⟩ : DSt) _ _
    refine s_exprS (R := fun (z9 : Unit × TableV) => (law_rest1_w11 inside42 nx57 gone59 z9.2 Q)) (c_methM2 (mm := (TableV.mk shelfy38.size shelfy38.step shelfy38.rows)) (w := Table_takeP_W) 7 0 2 ye G_Table_takeP (He.cls_ok (L.d.fact 69 rfl)) (Nat.le_of_ble_eq_true rfl) rfl rfl rfl rfl (a_cons (c_v 17 rfl rfl) a_nil) (fun _ => rfl) rfl) ?_ (by exact h)
    intro v9 shelfy61 h
    try dsimp only
    show Ws _ (⟨[some (raw (.ref q0)), some (pu size1), some (pu steps2), some (pu words3), some (pu others4), some (pu sieve5), some (pu room7), some (raw (.ref q11)), some (pu rows39), j54, j37.2.1, j37.2.2.1, none, j37.2.2.2.1, none, j37.2.2.2.2, some (pu inside42), some (pu gone59)], [(a12, lstc shelfy61.rows), _, (q0, dicec)]⟩ : DSt) _ _
    refine s_ifS (B := fun (shelfy69 : TableV) => Q false) (C := fun (shelfy69 : TableV) => nx57 (TableV.mk shelfy69.size shelfy69.step shelfy69.rows)) (t_wS (w_orL (TableV.mk shelfy61.size shelfy61.step shelfy61.rows) rfl (t_v (fun _ => rfl) (c_methO2 (mm := (TableV.mk shelfy61.size shelfy61.step shelfy61.rows)) (w := Table_hasP_W) 7 0 2 ye G_Table_hasP (He.cls_ok (L.d.fact 69 rfl)) (Nat.le_of_ble_eq_true rfl) rfl rfl rfl rfl (a_cons (c_optG (c_v 17 rfl rfl)) a_nil) (fun _ => rfl) rfl)) (w_orL (TableV.mk shelfy61.size shelfy61.step shelfy61.rows) rfl (t_k (k_neL ye.ok (c_l (c_L ye.ok (l_lcX (.n 9) [("word", 9)] ye.ok (i_list (c_v 16 rfl rfl)) (show BlkOk law_rest1_N d__law_rest1.scope _ _ from blk_by (by decide +kernel)) (fun z => (tg_blk ye.ok z 9 rfl)) (fun _ (x63 : (Option Txt)) _ _ => ts_one (t_w (w_and (t_k (k_ne ye.ok.blk (c_v 9 rfl rfl) (c_v 17 rfl rfl))) (w_and1 (t_not (t_v (fun _ => rfl) (c_methO2 (mm := (TableV.mk shelfy61.size shelfy61.step shelfy61.rows)) (w := Table_hasP_W) 7 1 2 ye.blk G_Table_hasP (He.cls_ok (L.d.fact 69 rfl)) (Nat.le_of_ble_eq_true rfl) rfl rfl rfl rfl (a_cons (c_optG (c_v 9 rfl rfl)) a_nil) (fun _ => rfl) trivial))))))) (fun _ (x63 : (Option Txt)) _ _ => (c_v 9 rfl rfl))))) (c_l (c_list (s_nil (α := (Option Txt))))))) (w_orZ (t_neS ye.ok (c_toldS (gp := fun (m9 : TableV) => List.set (List.set ([(a12, lstc shelfy61.rows), (q11, insc (He.ga K "Table") [("size", pu shelfy61.size), ("step", pu shelfy61.step), ("rows", raw (.ref a12))]), (q0, dicec)]) 0 (a12, Ow2.cl m9)) (0 + 1) (q11, ob2 K m9 a12)) 7 (TableV.mk shelfy61.size shelfy61.step shelfy61.rows) (Sum.inl : Unit → (Unit ⊕ Txt)) (Sum.inr : Txt → (Unit ⊕ Txt)) toldT (ok_told L FD_told) (told_tells L.d) (tbl _ (List.mem_of_getElem? (i := 4) rfl)) ye.ok (Nat.le_of_ble_eq_true rfl) rfl (show LamX.LamS d__law_rest1.scope _ from LamX.lamS_by (by decide +kernel)) (fun _ _ _ _ h => h) (fun _ _ _ _ h => h) rfl (fun z E_ ye' => (c_methM2 (mm := (TableV.mk shelfy61.size shelfy61.step shelfy61.rows)) (w := Table_takeP_W) 7 0 0 ye' G_Table_takeP (He.cls_ok (L.d.fact 69 rfl)) (Nat.le_of_ble_eq_true rfl) rfl rfl rfl rfl (a_cons (c_v 17 rfl rfl) a_nil) (fun _ => rfl) rfl))) (fun _ => (c_inr (α := Unit) (β := Txt) c_tx))))))) ?_ ?_ (by exact h)
    · intro shelfy69 h
      try dsimp only
      show Ws _ (⟨[some (raw (.ref q0)), some (pu size1), some (pu steps2), some (pu words3), some (pu others4), some (pu sieve5), some (pu room7), some (raw (.ref q11)), some (pu rows39), j54, j37.2.1, j37.2.2.1, none, j37.2.2.2.1, none, j37.2.2.2.2, some (pu inside42), some (pu gone59)], [(a12, lstc shelfy69.rows), _, (q0, dicec)]⟩ : DSt) _ _
      refine s_ret (R := fun (v70 : Bool) => Q v70) c_bl (by exact h) ?_
      intro v70 h
      try dsimp only
      exact ⟨⟨2, rfl⟩, _, rfl, h⟩
    intro shelfy69 h
    try dsimp only
    refine ws_nil ?_
    show Ws _ (⟨[some (raw (.ref q0)), some (pu size1), some (pu steps2), some (pu words3), some (pu others4), some (pu sieve5), some (pu room7), some (raw (.ref q11)), some (pu rows39), j54, j37.2.1, j37.2.2.1, none, j37.2.2.2.1, none, j37.2.2.2.2, some (pu inside42), some (pu gone59)], [(a12, lstc shelfy69.rows), _, (q0, dicec)]⟩ : DSt) _ _
    exact ws_nil ⟨(TableV.mk shelfy69.size shelfy69.step shelfy69.rows), some (pu gone59), rfl, h⟩
  · intro nx57 h
    try dsimp only
    exact ws_nil ⟨(TableV.mk shelfy38.size shelfy38.step shelfy38.rows), none, rfl, h⟩
  intro shelfy71 j56 h
  try dsimp only
  show Ws _ (⟨[some (raw (.ref q0)), some (pu size1), some (pu steps2), some (pu words3), some (pu others4), some (pu sieve5), some (pu room7), some (raw (.ref q11)), some (pu rows39), j54, j37.2.1, j37.2.2.1, none, j37.2.2.2.1, none, j37.2.2.2.2, some (pu inside42), j56], [(a12, lstc shelfy71.rows), _, (q0, dicec)]⟩ : DSt) _ _
  refine s_if (B := Q false) (C := (law_rest1_w14 size1 steps2 words3 sieve5 Q)) (t_k (k_ne ye.ok (c_lenL B (by rfl) (l_ownF 7 1 0 (He.cls_ok (L.d.fact 69 rfl)) (He.noat_ok (L.d.fact 73 rfl)) rfl rfl rfl rfl rfl)) (c_v 6 rfl rfl))) ?_ ?_ (by exact h)
  · intro h
    refine s_ret (R := fun (v72 : Bool) => Q v72) c_bl (by exact h) ?_
    intro v72 h
    try dsimp only
    exact ⟨⟨2, rfl⟩, _, rfl, h⟩
  intro h
  refine ws_nil ?_
  refine s_ret (R := fun (v74 : Bool) => Q v74) (c_call (w := law_rest2_W) 2 ye G_law_rest2 (Nat.le_of_ble_eq_true rfl) rfl (a_cons (c_v 1 rfl rfl) (a_cons (c_v 2 rfl rfl) (a_cons (c_v 3 rfl rfl) (a_cons (c_v 5 rfl rfl) a_nil)))) (fun _ => rfl) rfl) (by exact h) ?_
  intro v74 h
  try dsimp only
  exact ⟨⟨2, rfl⟩, _, rfl, h⟩
abbrev law_rest3_N : List Str := ["dice", "size", "steps", "words", "others", "marks", "sieve", "tallies", "there", "word", "flat", "least", "mark"]
theorem law_rest3_S : FnScope law_rest3_N ["dice", "size", "steps", "words", "others", "marks", "sieve"] d__law_rest3.scope := ⟨rfl, rfl, rfl, by decide +kernel, rfl, by decide +kernel, by decide +kernel⟩
theorem ok_law_rest3 (B : Bis mg) (L : LK w K mg base fa fn tq) {fd : FuncData} (F1 : Fd K d__law_rest3 ["dice", "size", "steps", "words", "others", "marks", "sieve"] fd) {fd_told : FuncData} (FD_told : Fd K d__law_told ["what"] fd_told) (G_Tallies_initP : Mkr P w K mg base (tbOf K tq) 3 "Tallies" (He.ga K "Tallies") ["self", "size", "steps"] (spI2 K Tallies_initP_W)) (G_Tallies_putP : Mt P w K mg base (tbOf K tq) 6 (He.ga K "Tallies") "put" ["self", "word"] (spM2 K Tallies_putP_W)) (G_law_roll : Df P w K mg base (tbOf K tq) 1 "_law_roll" ["dice", "many"] (spD rollW)) (G_Tallies_takeP : Mt P w K mg base (tbOf K tq) 7 (He.ga K "Tallies") "take" ["self", "word"] (spM2 K Tallies_takeP_W)) (G_law_flat : Df P w K mg base (tbOf K tq) 1 "_law_flat" ["rows"] (spF K law_flat_W)) (G_Tallies_sum_toldP : Mt P w K mg base (tbOf K tq) 1 (He.ga K "Tallies") "sum_told" ["self"] (spO2 K Tallies_sum_toldP_W)) (G_Tallies_at_mostP : Mt P w K mg base (tbOf K tq) 6 (He.ga K "Tallies") "at_most" ["self", "word"] (spO2 K Tallies_at_mostP_W)) (G_law_rest1 : Df P w K mg base (tbOf K tq) 10 "_law_rest1" ["dice", "size", "steps", "words", "others", "sieve"] (spD law_rest1_W)) : FnOk P w K mg base (L2.CX P w) 11 (He.fAd K d__law_rest3.at_) fd ["dice", "size", "steps", "words", "others", "marks", "sieve"] (toSp K (tbOf K tq) 7 (spD law_rest3_W)) := by
  refine fn_D (k := 10) none L F1 law_rest3_S law_rest3_W noneNo (fun _ => rfl) ?_
  intro q0 z t Q h ye tbl
  obtain ⟨size1, steps2, words3, others4, marks5, sieve6, ⟨⟩⟩ := t
  show Ws _ (⟨[some (raw (.ref q0)), some (pu size1), some (pu steps2), some (pu words3), some (pu others4), some (pu marks5), some (pu sieve6), none, none, none, none, none, none], [(q0, dicec)]⟩ : DSt) _ _
  refine s_asgI2N (R := fun (tallies8 : TalliesV) (there9 : (List Txt)) => (law_rest3_w16 size1 steps2 words3 others4 marks5 sieve6 tallies8 there9 Q)) (.p (.n 7) (.n 8)) (tg_pair ye.ok.calm (tg_nm ye.ok.nd 7 rfl) (tg_nm ye.ok.nd 8 rfl)) (i_make2 (γ := TalliesV) (w := Tallies_initP_W) 0 ye G_Tallies_initP (Nat.le_of_ble_eq_true rfl) rfl (a_cons (c_v 1 rfl rfl) (a_cons (c_v 2 rfl rfl) a_nil)) (fun _ => rfl) rfl) (fun _ _ _ => (n_list (s_nil (α := Txt)))) ?_ (by exact h)
  intro q10 a11 tallies8 q12 there9 h
  try dsimp only
  show Ws _ (⟨[some (raw (.ref q0)), some (pu size1), some (pu steps2), some (pu words3), some (pu others4), some (pu marks5), some (pu sieve6), some (raw (.ref q10)), some (raw (.ref q12)), none, none, none, none], [(q12, lstc there9), (a11, dctc tallies8.counts.kvs), _, (q0, dicec)]⟩ : DSt) _ _
  refine s_for (Z := TalliesV × (List Txt)) (J := Option Pv × Addr) (Body := (fun (x13 : Txt) (z14 : TalliesV × (List Txt)) (nx16 : TalliesV × (List Txt) → Prop) => (law_rest3_w8 x13 nx16 z14.1 z14.2))) (Rest := (fun (z32 : TalliesV × (List Txt)) => (law_rest3_w15 size1 steps2 words3 others4 marks5 sieve6 z32.1 z32.2 Q))) (.n 9) (fun (z14 : TalliesV × (List Txt)) (j15 : Option Pv × Addr) => (⟨[some (raw (.ref q0)), some (pu size1), some (pu steps2), some (pu words3), some (pu others4), some (pu marks5), some (pu sieve6), some (raw (.ref q10)), some (raw (.ref (j15.2))), j15.1, none, none, none], [((j15.2), lstc (z14.2)), (a11, dctc (z14.1).counts.kvs), (q10, insc (He.ga K "Tallies") [("sieve", pu (z14.1).sieve), ("counts", raw (.ref a11))]), (q0, dicec)]⟩ : DSt)) ((TalliesV.mk tallies8.sieve (Dct.mk tallies8.counts.kvs)), there9) (none, q12) ye.ok (i_list (c_v 3 rfl rfl)) (tg_nm ye.ok.nd 9 rfl) rfl ?_ ?_ (by exact h)
  · intro x13 z14 j15 nx16 h
    try dsimp only
    obtain ⟨tallies17, there18⟩ := z14
    show Ws _ (⟨[some (raw (.ref q0)), some (pu size1), some (pu steps2), some (pu words3), some (pu others4), some (pu marks5), some (pu sieve6), some (raw (.ref q10)), some (raw (.ref (j15.2))), some (pu x13), none, none, none], [((j15.2), lstc there18), (a11, dctc tallies17.counts.kvs), _, (q0, dicec)]⟩ : DSt) _ _
    refine s_exprS (R := fun (z9 : Unit × TalliesV) => (law_rest3_w7 x13 nx16 there18 z9.2)) (c_methM2 (mm := (TalliesV.mk tallies17.sieve (Dct.mk tallies17.counts.kvs))) (w := Tallies_putP_W) 7 1 3 ye G_Tallies_putP (He.cls_ok (L.d.fact 61 rfl)) (Nat.le_of_ble_eq_true rfl) rfl rfl rfl rfl (a_cons (c_v 9 rfl rfl) a_nil) (fun _ => rfl) rfl) ?_ (by exact h)
    intro v9 tallies20 h
    try dsimp only
    show Ws _ (⟨[some (raw (.ref q0)), some (pu size1), some (pu steps2), some (pu words3), some (pu others4), some (pu marks5), some (pu sieve6), some (raw (.ref q10)), some (raw (.ref (j15.2))), some (pu x13), none, none, none], [((j15.2), lstc there18), (a11, dctc tallies20.counts.kvs), _, (q0, dicec)]⟩ : DSt) _ _
    refine s_append (R := fun (v21 : Txt) => (law_rest3_w6 nx16 there18 tallies20 v21)) 8 0 rfl rfl rfl (c_v 9 rfl rfl) ?_ (by exact h)
    intro v21 h
    try dsimp only
    show Ws _ (⟨[some (raw (.ref q0)), some (pu size1), some (pu steps2), some (pu words3), some (pu others4), some (pu marks5), some (pu sieve6), some (raw (.ref q10)), some (raw (.ref (j15.2))), some (pu x13), none, none, none], [((j15.2), lstc (there18 ++ [v21])), (a11, dctc tallies20.counts.kvs), _, (q0, dicec)]⟩ : DSt) _ _
    refine s_ifJ (Z := TalliesV × (List Txt)) (J := Addr) (Rest := (fun (z23 : TalliesV × (List Txt)) => (law_rest3_w5 nx16 z23.1 z23.2))) (B := fun nx25 => (law_rest3_w3 there18 tallies20 v21 nx25)) (C := fun nx25 => (law_rest3_w4 there18 tallies20 v21 nx25)) (fun (z23 : TalliesV × (List Txt)) (j24 : Addr) => (⟨[some (raw (.ref q0)), some (pu size1), some (pu steps2), some (pu words3), some (pu others4), some (pu marks5), some (pu sieve6), some (raw (.ref q10)), some (raw (.ref (j24))), some (pu x13), none, none, none], [((j24), lstc (z23.2)), (a11, dctc (z23.1).counts.kvs), (q10, insc (He.ga K "Tallies") [("sieve", pu (z23.1).sieve), ("counts", raw (.ref a11))]), (q0, dicec)]⟩ : DSt)) (t_k (k_eq ye.ok (c_callD 0 3 ye.ok G_law_roll (Nat.le_of_ble_eq_true rfl) rfl (a_cons c_int a_nil) rfl rfl rfl (fun _ => rfl)) c_int)) ?_ ?_ ?_ (by exact h)
    · intro nx25 h
      try dsimp only
      refine s_exprS (R := fun (z9 : Unit × TalliesV) => (law_rest3_w2 there18 v21 nx25 z9.2)) (c_methM2 (mm := (TalliesV.mk tallies20.sieve (Dct.mk tallies20.counts.kvs))) (w := Tallies_takeP_W) 7 1 3 ye G_Tallies_takeP (He.cls_ok (L.d.fact 61 rfl)) (Nat.le_of_ble_eq_true rfl) rfl rfl rfl rfl (a_cons (c_ixL (l_own 8 0 rfl rfl rfl) c_int) a_nil) (fun _ => rfl) rfl) ?_ (by exact h)
      intro v9 tallies27 h
      try dsimp only
      show Ws _ (⟨[some (raw (.ref q0)), some (pu size1), some (pu steps2), some (pu words3), some (pu others4), some (pu marks5), some (pu sieve6), some (raw (.ref q10)), some (raw (.ref (j15.2))), some (pu x13), none, none, none], [((j15.2), lstc (there18 ++ [v21])), (a11, dctc tallies27.counts.kvs), _, (q0, dicec)]⟩ : DSt) _ _
      refine s_asgN (R := fun (there28 : List Txt) => (law_rest3_w1 nx25 tallies27 there28)) 8 ye.ok rfl (n_slL (l_own 8 0 rfl rfl rfl) (o_at c_int) o_no) ?_ (by exact h)
      intro q29 there28 h
      try dsimp only
      show Ws _ (⟨[some (raw (.ref q0)), some (pu size1), some (pu steps2), some (pu words3), some (pu others4), some (pu marks5), some (pu sieve6), some (raw (.ref q10)), some (raw (.ref q29)), some (pu x13), none, none, none], [(q29, lstc there28), _, (a11, dctc tallies27.counts.kvs), _, (q0, dicec)]⟩ : DSt) _ _
      refine ws_drop 1 ?_
      exact ws_nil ⟨((TalliesV.mk tallies27.sieve (Dct.mk tallies27.counts.kvs)), there28), q29, rfl, h⟩
    · intro nx25 h
      try dsimp only
      exact ws_nil ⟨((TalliesV.mk tallies20.sieve (Dct.mk tallies20.counts.kvs)), (there18 ++ [v21])), (j15.2), rfl, h⟩
    intro z23 j24 h
    try dsimp only
    obtain ⟨tallies30, there31⟩ := z23
    show Ws _ (⟨[some (raw (.ref q0)), some (pu size1), some (pu steps2), some (pu words3), some (pu others4), some (pu marks5), some (pu sieve6), some (raw (.ref q10)), some (raw (.ref (j24))), some (pu x13), none, none, none], [((j24), lstc there31), (a11, dctc tallies30.counts.kvs), _, (q0, dicec)]⟩ : DSt) _ _
    exact ws_nil ⟨((TalliesV.mk tallies30.sieve (Dct.mk tallies30.counts.kvs)), there31), (some (pu x13), (j24)), rfl, h⟩
  intro z32 j33 h
  try dsimp only
  obtain ⟨tallies34, there35⟩ := z32
  show Ws _ (⟨[some (raw (.ref q0)), some (pu size1), some (pu steps2), some (pu words3), some (pu others4), some (pu marks5), some (pu sieve6), some (raw (.ref q10)), some (raw (.ref (j33.2))), j33.1, none, none, none], [((j33.2), lstc there35), (a11, dctc tallies34.counts.kvs), _, (q0, dicec)]⟩ : DSt) _ _
  refine ws_frL 8 0 rfl rfl ?_
  refine s_asg (R := fun (flat38 : (List Int)) => (law_rest3_w14 size1 steps2 words3 others4 marks5 sieve6 tallies34 there35 flat38 Q)) 10 ye.ok rfl (c_call (w := law_flat_W) 2 ye G_law_flat (Nat.le_of_ble_eq_true rfl) rfl (a_cons (c_L ye.ok (l_lc0 (.n 9) [("word", 9)] (fun (x36 : Txt) => (dgt marks5.kvs x36)) ye.ok (i_list (c_v 8 rfl rfl)) (show BlkOk law_rest3_N d__law_rest3.scope _ _ from blk_by (by decide +kernel)) (fun z => (tg_blk ye.ok z 9 rfl)) (fun _ (x36 : Txt) _ _ => (c_dget ye.ok.blk (c_d (c_v 5 rfl rfl)) (c_v 9 rfl rfl))))) a_nil) (fun _ => rfl) rfl) ?_ (by exact h)
  intro flat38 h
  try dsimp only
  show Ws _ (⟨[some (raw (.ref q0)), some (pu size1), some (pu steps2), some (pu words3), some (pu others4), some (pu marks5), some (pu sieve6), some (raw (.ref q10)), some (pu there35), j33.1, some (pu flat38), none, none], [(a11, dctc tallies34.counts.kvs), _, (q0, dicec)]⟩ : DSt) _ _
  refine s_if (B := Q false) (C := (law_rest3_w13 size1 steps2 words3 others4 marks5 sieve6 tallies34 there35 flat38 Q)) (t_k (k_ne ye.ok (c_methO02 (mm := (TalliesV.mk tallies34.sieve (Dct.mk tallies34.counts.kvs))) (w := Tallies_sum_toldP_W) 7 0 2 ye G_Tallies_sum_toldP (He.cls_ok (L.d.fact 61 rfl)) (Nat.le_of_ble_eq_true rfl) rfl rfl rfl rfl rfl rfl) (c_lenL B (by rfl) (c_l (c_v 10 rfl rfl))))) ?_ ?_ (by exact h)
  · intro h
    refine s_ret (R := fun (v40 : Bool) => Q v40) c_bl (by exact h) ?_
    intro v40 h
    try dsimp only
    exact ⟨⟨2, rfl⟩, _, rfl, h⟩
  intro h
  refine ws_nil ?_
  refine s_for (Z := TalliesV) (J := Option Pv × Option Pv) (Body := (fun (x41 : Txt) (z42 : TalliesV) (nx44 : TalliesV → Prop) => (law_rest3_w11 marks5 there35 flat38 x41 nx44 z42 Q))) (Rest := (fun (z54 : TalliesV) => (law_rest3_w12 size1 steps2 words3 others4 sieve6 Q))) (.n 9) (fun (z42 : TalliesV) (j43 : Option Pv × Option Pv) => (⟨[some (raw (.ref q0)), some (pu size1), some (pu steps2), some (pu words3), some (pu others4), some (pu marks5), some (pu sieve6), some (raw (.ref q10)), some (pu there35), j43.1, some (pu flat38), j43.2, none], [(a11, dctc z42.counts.kvs), (q10, insc (He.ga K "Tallies") [("sieve", pu z42.sieve), ("counts", raw (.ref a11))]), (q0, dicec)]⟩ : DSt)) (TalliesV.mk tallies34.sieve (Dct.mk tallies34.counts.kvs)) (j33.1, none) ye.ok (i_list (c_catL (c_l (c_v 4 rfl rfl)) (c_l (c_v 3 rfl rfl)))) (tg_nm ye.ok.nd 9 rfl) rfl ?_ ?_ (by exact h)
  · intro x41 tallies45 j43 nx44 h
    try dsimp only
    show Ws _ (⟨[some (raw (.ref q0)), some (pu size1), some (pu steps2), some (pu words3), some (pu others4), some (pu marks5), some (pu sieve6), some (raw (.ref q10)), some (pu there35), some (pu x41), some (pu flat38), j43.2, none], [(a11, dctc tallies45.counts.kvs), _, (q0, dicec)]⟩ : DSt) _ _
    refine s_asg (R := fun (least47 : Int) => (law_rest3_w10 there35 x41 nx44 tallies45 least47 Q)) 11 ye.ok rfl (c_min ye.ok B (by rfl) (c_l (c_L ye.ok (l_lc0 (.n 12) [("mark", 12)] (fun (x46 : Int) => (cnt flat38 x46 : Int)) ye.ok (i_list (c_dget ye.ok (c_d (c_v 5 rfl rfl)) (c_v 9 rfl rfl))) (show BlkOk law_rest3_N d__law_rest3.scope _ _ from blk_by (by decide +kernel)) (fun z => (tg_blk ye.ok z 12 rfl)) (fun _ (x46 : Int) _ _ => (c_cntL ye.ok.blk (c_l (c_v 10 rfl rfl)) (c_v 12 rfl rfl))))))) ?_ (by exact h)
    intro least47 h
    try dsimp only
    show Ws _ (⟨[some (raw (.ref q0)), some (pu size1), some (pu steps2), some (pu words3), some (pu others4), some (pu marks5), some (pu sieve6), some (raw (.ref q10)), some (pu there35), some (pu x41), some (pu flat38), some (pu least47), none], [(a11, dctc tallies45.counts.kvs), _, (q0, dicec)]⟩ : DSt) _ _
    refine s_if (B := Q false) (C := (law_rest3_w9 x41 nx44 tallies45 least47 Q)) (t_w (w_orP (y := (decide (least47 < (cnt there35 x41 : Int)))) (t_k (k_ne ye.ok (c_methO2 (mm := (TalliesV.mk tallies45.sieve (Dct.mk tallies45.counts.kvs))) (w := Tallies_at_mostP_W) 7 0 2 ye G_Tallies_at_mostP (He.cls_ok (L.d.fact 61 rfl)) (Nat.le_of_ble_eq_true rfl) rfl rfl rfl rfl (a_cons (c_v 9 rfl rfl) a_nil) (fun _ => rfl) rfl) (c_v 11 rfl rfl))) (w_or1 (t_k (k_lt (c_v 11 rfl rfl) (c_cntL ye.ok (c_l (c_v 8 rfl rfl)) (c_v 9 rfl rfl))))))) ?_ ?_ (by exact h)
    · intro h
      refine s_ret (R := fun (v49 : Bool) => Q v49) c_bl (by exact h) ?_
      intro v49 h
      try dsimp only
      exact ⟨⟨2, rfl⟩, _, rfl, h⟩
    intro h
    refine ws_nil ?_
    refine s_ifS (B := fun (tallies52 : TalliesV) => Q false) (C := fun (tallies52 : TalliesV) => nx44 (TalliesV.mk tallies52.sieve (Dct.mk tallies52.counts.kvs))) (t_wS (w_andL (TalliesV.mk tallies45.sieve (Dct.mk tallies45.counts.kvs)) rfl (t_k (k_eq ye.ok (c_v 11 rfl rfl) c_int)) (w_andZ (t_neS ye.ok (c_toldS (gp := fun (m9 : TalliesV) => List.set (List.set ([(a11, dctc tallies45.counts.kvs), (q10, insc (He.ga K "Tallies") [("sieve", pu tallies45.sieve), ("counts", raw (.ref a11))]), (q0, dicec)]) 0 (a11, Ow2.cl m9)) (0 + 1) (q10, ob2 K m9 a11)) 7 (TalliesV.mk tallies45.sieve (Dct.mk tallies45.counts.kvs)) (Sum.inl : Unit → (Unit ⊕ Txt)) (Sum.inr : Txt → (Unit ⊕ Txt)) toldT (ok_told L FD_told) (told_tells L.d) (tbl _ (List.mem_of_getElem? (i := 5) rfl)) ye.ok (Nat.le_of_ble_eq_true rfl) rfl (show LamX.LamS d__law_rest3.scope _ from LamX.lamS_by (by decide +kernel)) (fun _ _ _ _ h => h) (fun _ _ _ _ h => h) rfl (fun z E_ ye' => (c_methM2 (mm := (TalliesV.mk tallies45.sieve (Dct.mk tallies45.counts.kvs))) (w := Tallies_takeP_W) 7 0 0 ye' G_Tallies_takeP (He.cls_ok (L.d.fact 61 rfl)) (Nat.le_of_ble_eq_true rfl) rfl rfl rfl rfl (a_cons (c_v 9 rfl rfl) a_nil) (fun _ => rfl) rfl))) (fun _ => (c_inr (α := Unit) (β := Txt) c_tx)))))) ?_ ?_ (by exact h)
    · intro tallies52 h
      try dsimp only
      show Ws _ (⟨[some (raw (.ref q0)), some (pu size1), some (pu steps2), some (pu words3), some (pu others4), some (pu marks5), some (pu sieve6), some (raw (.ref q10)), some (pu there35), some (pu x41), some (pu flat38), some (pu least47), none], [(a11, dctc tallies52.counts.kvs), _, (q0, dicec)]⟩ : DSt) _ _
      refine s_ret (R := fun (v53 : Bool) => Q v53) c_bl (by exact h) ?_
      intro v53 h
      try dsimp only
      exact ⟨⟨2, rfl⟩, _, rfl, h⟩
    intro tallies52 h
    try dsimp only
    refine ws_nil ?_
    show Ws _ (⟨[some (raw (.ref q0)), some (pu size1), some (pu steps2), some (pu words3), some (pu others4), some (pu marks5), some (pu sieve6), some (raw (.ref q10)), some (pu there35), some (pu x41), some (pu flat38), some (pu least47), none], [(a11, dctc tallies52.counts.kvs), _, (q0, dicec)]⟩ : DSt) _ _
    exact ws_nil ⟨(TalliesV.mk tallies52.sieve (Dct.mk tallies52.counts.kvs)), (some (pu x41), some (pu least47)), rfl, h⟩
  intro tallies56 j55 h
  try dsimp only
  show Ws _ (⟨[some (raw (.ref q0)), some (pu size1), some (pu steps2), some (pu words3), some (pu others4), some (pu marks5), some (pu sieve6), some (raw (.ref q10)), some (pu there35), j55.1, some (pu flat38), j55.2, none], [(a11, dctc tallies56.counts.kvs), _, (q0, dicec)]⟩ : DSt) _ _
  refine s_if (B := Q false) (C := Q true) (t_not (t_v (fun _ => rfl) (c_callD 0 2 ye.ok G_law_rest1 (Nat.le_of_ble_eq_true rfl) rfl (a_cons (c_v 1 rfl rfl) (a_cons (c_v 2 rfl rfl) (a_cons (c_v 3 rfl rfl) (a_cons (c_v 4 rfl rfl) (a_cons (c_v 6 rfl rfl) a_nil))))) rfl rfl rfl (fun _ => rfl)))) ?_ ?_ (by exact h)
  · intro h
    refine s_ret (R := fun (v58 : Bool) => Q v58) c_bl (by exact h) ?_
    intro v58 h
    try dsimp only
    exact ⟨⟨2, rfl⟩, _, rfl, h⟩
  intro h
  refine ws_nil ?_
  refine s_ret (R := fun (v59 : Bool) => Q v59) c_bl (by exact h) ?_
  intro v59 h
  try dsimp only
  exact ⟨⟨2, rfl⟩, _, rfl, h⟩
abbrev law_N : List Str := ["script", "dice", "size", "steps", "k", "words", "others", "marks", "step", "word", "sieve", "bits", "seem", "mark", "both", "half"]
theorem law_S : FnScope law_N ["script"] d_law.scope := ⟨rfl, rfl, rfl, by decide +kernel, rfl, by decide +kernel, by decide +kernel⟩
theorem ok_law (B : Bis mg) (L : LK w K mg base fa fn tq) {fd : FuncData} (F1 : Fd K d_law ["script"] fd) (G_law_rounds : Df P w K mg base (tbOf K tq) 2 "_law_rounds" ["script", "most"] dRoundsA) (G_law_roll : Df P w K mg base (tbOf K tq) 1 "_law_roll" ["dice", "many"] (spD rollW)) (G_law_word : Df P w K mg base (tbOf K tq) 2 "_law_word" ["dice", "letters", "least", "most"] (spD law_word_W)) (G_law_unlike : Df P w K mg base (tbOf K tq) 1 "_law_unlike" ["words"] (spF K law_unlike_W)) (G_law_sum : Df P w K mg base (tbOf K tq) 1 "_law_sum" ["word", "step", "size"] (spF K law_sum_W)) (G_sieve_of : Df P w K mg base (tbOf K tq) 7 "sieve_of" ["words", "size", "steps"] (spF K sieve_of_W)) (G_Sieve_marks : Mt P w K mg base (tbOf K tq) 5 (He.ga K "Sieve") "marks" ["self", "word"] (spF K Sieve_marks_W)) (G_word_sum : Df P w K mg base (tbOf K tq) 4 "word_sum" ["word", "step", "size"] (spF K word_sum_W)) (G_law_flat : Df P w K mg base (tbOf K tq) 1 "_law_flat" ["rows"] (spF K law_flat_W)) (G_Sieve_may_have : Mt P w K mg base (tbOf K tq) 6 (He.ga K "Sieve") "may_have" ["self", "word"] (spF K Sieve_may_have_W)) (G_Sieve_how_full : Mt P w K mg base (tbOf K tq) 1 (He.ga K "Sieve") "how_full" ["self"] (spF K Sieve_how_full_W)) (G_Sieve_wrongly : Mt P w K mg base (tbOf K tq) 7 (He.ga K "Sieve") "wrongly" ["self", "words", "others"] (spF K Sieve_wrongly_W)) (G_law_unlike_2 : Df P w K mg base (tbOf K tq) 1 "_law_unlike" ["words"] (spF K law_unlike_2_W)) (G_Sieve_joined : Mt P w K mg base (tbOf K tq) 3 (He.ga K "Sieve") "joined" ["self", "other"] (spF K Sieve_joined_W)) (G_Sieve_key : Mt P w K mg base (tbOf K tq) 1 (He.ga K "Sieve") "key" ["self"] (spF K Sieve_key_W)) (G_Sieve_folded : Mt P w K mg base (tbOf K tq) 3 (He.ga K "Sieve") "folded" ["self"] (spF K Sieve_folded_W)) (G_law_rest3 : Df P w K mg base (tbOf K tq) 11 "_law_rest3" ["dice", "size", "steps", "words", "others", "marks", "sieve"] (spD law_rest3_W)) : FnOk P w K mg base (L2.CX P w) 12 (He.fAd K d_law.at_) fd ["script"] (toSp K (tbOf K tq) 1 (spF K law_W)) := by
  refine fn_F (k := 11) none L F1 law_S law_W noneNo (fun _ => rfl) ?_
  intro z t Q E h ye tbl
  obtain ⟨script1, ⟨⟩⟩ := t
  show Ws _ (⟨[some (pu script1), none, none, none, none, none, none, none, none, none, none, none, none, none, none, none], []⟩ : DSt) _ _
  refine s_rounds (R := (law_w16 Q E)) 1 0 ye.ok G_law_rounds (Nat.le_of_ble_eq_true rfl) rfl rfl rfl (tg_nm ye.ok.nd 1 rfl) (c_v 0 rfl rfl) ?_ (by exact h)
  intro q2 h
  try dsimp only
  show Ws _ (⟨[some (pu script1), some (raw (.ref q2)), none, none, none, none, none, none, none, none, none, none, none, none, none, none], [(q2, dicec)]⟩ : DSt) _ _
  refine s_asgT (R := fun (u9 : (Int × (List Int))) => (law_w15 u9 Q E)) (.p (.n 2) (.n 3)) (tg_pair ye.ok.calm (tg_nm ye.ok.nd 2 rfl) (tg_nm ye.ok.nd 3 rfl)) (c_tup2 (a_cons (c_mul c_int (c_add c_int (c_callD 1 0 ye.ok G_law_roll (Nat.le_of_ble_eq_true rfl) rfl (a_cons c_int a_nil) rfl rfl rfl (fun _ => rfl)))) (a_cons (c_L ye.ok (l_lcN (.n 4) [("k", 4)] ye.ok (i_range1 ye.ok B (by rfl) (c_add c_int (c_callD 1 0 ye.ok G_law_roll (Nat.le_of_ble_eq_true rfl) rfl (a_cons c_int a_nil) rfl rfl rfl (fun _ => rfl)))) (show BlkOk law_N d_law.scope _ _ from blk_by (by decide +kernel)) (fun z => (tg_blk ye.ok z 4 rfl)) (fun _ (x5 : Int) _ _ => (c_add c_int (c_callD 1 1 ye.ok.blk G_law_roll (Nat.le_of_ble_eq_true rfl) rfl (a_cons c_int a_nil) rfl rfl rfl (fun _ => rfl)))))) a_nil))) ?_ (by exact h)
  intro u9 h
  try dsimp only
  show Ws _ (⟨[some (pu script1), some (raw (.ref q2)), some (pu u9.1), some (pu u9.2), none, none, none, none, none, none, none, none, none, none, none, none], [(q2, dicec)]⟩ : DSt) _ _
  refine s_asgT (R := fun (u19 : ((List Txt) × (List Txt))) => (law_w14 u9 u19 Q E)) (.p (.n 5) (.n 6)) (tg_pair ye.ok.calm (tg_nm ye.ok.nd 5 rfl) (tg_nm ye.ok.nd 6 rfl)) (c_tup2 (a_cons (c_L ye.ok (l_lcN (.n 4) [("k", 4)] ye.ok (i_range1 ye.ok B (by rfl) (c_callD 1 0 ye.ok G_law_roll (Nat.le_of_ble_eq_true rfl) rfl (a_cons c_int a_nil) rfl rfl rfl (fun _ => rfl))) (show BlkOk law_N d_law.scope _ _ from blk_by (by decide +kernel)) (fun z => (tg_blk ye.ok z 4 rfl)) (fun _ (x11 : Int) _ _ => (c_callD 1 1 ye.ok.blk G_law_word (Nat.le_of_ble_eq_true rfl) rfl (a_cons c_tx (a_cons c_int (a_cons c_int a_nil))) rfl rfl rfl (fun _ => rfl))))) (a_cons (c_L ye.ok (l_lcN (.n 4) [("k", 4)] ye.ok (i_range1 ye.ok B (by rfl) c_int) (show BlkOk law_N d_law.scope _ _ from blk_by (by decide +kernel)) (fun z => (tg_blk ye.ok z 4 rfl)) (fun _ (x15 : Int) _ _ => (c_callD 1 1 ye.ok.blk G_law_word (Nat.le_of_ble_eq_true rfl) rfl (a_cons c_tx (a_cons c_int (a_cons c_int a_nil))) rfl rfl rfl (fun _ => rfl))))) a_nil))) ?_ (by exact h)
  intro u19 h
  try dsimp only
  show Ws _ (⟨[some (pu script1), some (raw (.ref q2)), some (pu u9.1), some (pu u9.2), none, some (pu u19.1), some (pu u19.2), none, none, none, none, none, none, none, none, none], [(q2, dicec)]⟩ : DSt) _ _
  refine s_asg (R := fun (marks26 : (Dct Txt (List Int))) => (law_w13 u9 u19 marks26 Q E)) 7 ye.ok rfl (c_dictL ye.ok B (by rfl) (c_l (c_L ye.ok (l_lcX0 (.n 9) [("word", 9)] ye.ok (i_list (c_catL (c_l (c_v 5 rfl rfl)) (c_l (c_v 6 rfl rfl)))) (show BlkOk law_N d_law.scope _ _ from blk_by (by decide +kernel)) (fun z => (tg_blk ye.ok z 9 rfl)) (fun _ (x20 : Txt) _ _ => (c_tup2 (a_cons (c_v 9 rfl rfl) (a_cons (c_call (w := law_unlike_W) 1 ye.blk G_law_unlike (Nat.le_of_ble_eq_true rfl) rfl (a_cons (c_L ye.ok.blk (l_lcX0 (.n 8) [("step", 8)] ye.ok.blk (i_list (c_v 3 rfl rfl)) (blk_by (by first | decide +kernel | rfl)) (fun z => (tg_blk ye.ok.blk z 8 rfl)) (fun _ (x21 : Int) _ _ => (c_call (w := law_sum_W) 1 ye.blk.blk G_law_sum (Nat.le_of_ble_eq_true rfl) rfl (a_cons (c_v 9 rfl rfl) (a_cons (c_v 8 rfl rfl) (a_cons (c_v 2 rfl rfl) a_nil))) (fun _ => rfl) trivial)))) a_nil) (fun _ => rfl) trivial) a_nil)))))))) ?_ (by exact h)
  intro marks26 h
  try dsimp only
  show Ws _ (⟨[some (pu script1), some (raw (.ref q2)), some (pu u9.1), some (pu u9.2), none, some (pu u19.1), some (pu u19.2), some (pu marks26), none, none, none, none, none, none, none, none], [(q2, dicec)]⟩ : DSt) _ _
  refine s_asg (R := fun (sieve28 : SieveV) => (law_w12 u9 u19 marks26 sieve28 Q E)) 10 ye.ok rfl (c_call (w := sieve_of_W) 1 ye G_sieve_of (Nat.le_of_ble_eq_true rfl) rfl (a_cons (c_v 5 rfl rfl) (a_cons (c_v 2 rfl rfl) (a_cons (c_v 3 rfl rfl) a_nil))) (fun _ => rfl) rfl) ?_ (by exact h)
  intro sieve28 h
  try dsimp only
  show Ws _ (⟨[some (pu script1), some (raw (.ref q2)), some (pu u9.1), some (pu u9.2), none, some (pu u19.1), some (pu u19.2), some (pu marks26), none, none, some (pu sieve28), none, none, none, none, none], [(q2, dicec)]⟩ : DSt) _ _
  refine s_if (B := Q false) (C := (law_w11 u9 u19 marks26 sieve28 Q E)) (t_k (k_neL ye.ok (c_l (c_L ye.ok (l_lcX (.n 9) [("word", 9)] ye.ok (i_keys (c_v 7 rfl rfl)) (show BlkOk law_N d_law.scope _ _ from blk_by (by decide +kernel)) (fun z => (tg_blk ye.ok z 9 rfl)) (fun _ (x29 : Txt) _ _ => ts_one (t_w (w_or (t_k (k_neL ye.ok.blk (c_l (c_listH B (by rfl) (c_meth (w := Sieve_marks_W) 1 ye.blk G_Sieve_marks (He.cls_ok (L.d.fact 48 rfl)) (Nat.le_of_ble_eq_true rfl) (c_v 10 rfl rfl) (a_cons (c_v 9 rfl rfl) a_nil) (fun _ => rfl) trivial))) (c_l (c_dget ye.ok.blk (c_d (c_v 7 rfl rfl)) (c_v 9 rfl rfl))))) (w_or1 (t_k (k_ne ye.ok.blk (c_call (w := word_sum_W) 1 ye.blk G_word_sum (Nat.le_of_ble_eq_true rfl) rfl (a_cons (c_v 9 rfl rfl) (a_cons (c_ixL (c_l (c_v 3 rfl rfl)) c_int) (a_cons (c_v 2 rfl rfl) a_nil))) (fun _ => rfl) trivial) (c_call (w := law_sum_W) 1 ye.blk G_law_sum (Nat.le_of_ble_eq_true rfl) rfl (a_cons (c_v 9 rfl rfl) (a_cons (c_ixL (c_l (c_v 3 rfl rfl)) c_int) (a_cons (c_v 2 rfl rfl) a_nil))) (fun _ => rfl) trivial))))))) (fun _ (x29 : Txt) _ _ => (c_v 9 rfl rfl))))) (c_l (c_list (s_nil (α := Txt)))))) ?_ ?_ (by exact h)
  · intro h
    refine s_ret (R := fun (v35 : Bool) => Q v35) c_bl (by exact h) ?_
    intro v35 h
    try dsimp only
    exact ⟨⟨1, rfl⟩, _, rfl, h⟩
  intro h
  refine ws_nil ?_
  refine s_asg (R := fun (bits39 : (List Int)) => (law_w10 u9 u19 marks26 sieve28 bits39 Q E)) 11 ye.ok rfl (c_call (w := law_unlike_W) 1 ye G_law_unlike (Nat.le_of_ble_eq_true rfl) rfl (a_cons (c_call (w := law_flat_W) 1 ye G_law_flat (Nat.le_of_ble_eq_true rfl) rfl (a_cons (c_L ye.ok (l_lc0 (.n 9) [("word", 9)] (fun (x36 : Txt) => (dgt marks26.kvs x36)) ye.ok (i_list (c_v 5 rfl rfl)) (show BlkOk law_N d_law.scope _ _ from blk_by (by decide +kernel)) (fun z => (tg_blk ye.ok z 9 rfl)) (fun _ (x36 : Txt) _ _ => (c_dget ye.ok.blk (c_d (c_v 7 rfl rfl)) (c_v 9 rfl rfl))))) a_nil) (fun _ => rfl) rfl) a_nil) (fun _ => rfl) rfl) ?_ (by exact h)
  intro bits39 h
  try dsimp only
  show Ws _ (⟨[some (pu script1), some (raw (.ref q2)), some (pu u9.1), some (pu u9.2), none, some (pu u19.1), some (pu u19.2), some (pu marks26), none, none, some (pu sieve28), some (pu bits39), none, none, none, none], [(q2, dicec)]⟩ : DSt) _ _
  refine s_if (B := Q false) (C := (law_w9 u9 u19 marks26 sieve28 bits39 Q E)) (t_w (w_or (t_k (k_neL ye.ok (c_l (c_L ye.ok (l_lcX (.n 9) [("word", 9)] ye.ok (i_list (c_v 5 rfl rfl)) (show BlkOk law_N d_law.scope _ _ from blk_by (by decide +kernel)) (fun z => (tg_blk ye.ok z 9 rfl)) (fun _ (x40 : Txt) _ _ => ts_one (t_not (t_v (fun _ => rfl) (c_meth (w := Sieve_may_have_W) 1 ye.blk G_Sieve_may_have (He.cls_ok (L.d.fact 48 rfl)) (Nat.le_of_ble_eq_true rfl) (c_v 10 rfl rfl) (a_cons (c_v 9 rfl rfl) a_nil) (fun _ => rfl) trivial)))) (fun _ (x40 : Txt) _ _ => (c_v 9 rfl rfl))))) (c_l (c_list (s_nil (α := Txt)))))) (w_or1 (t_k (k_ne ye.ok (c_meth0 (w := Sieve_how_full_W) 1 ye G_Sieve_how_full (He.cls_ok (L.d.fact 48 rfl)) (Nat.le_of_ble_eq_true rfl) (c_v 10 rfl rfl) rfl rfl) (c_tup2 (a_cons (c_lenL B (by rfl) (c_l (c_v 11 rfl rfl))) (a_cons (c_v 2 rfl rfl) a_nil)))))))) ?_ ?_ (by exact h)
  · intro h
    refine s_ret (R := fun (v45 : Bool) => Q v45) c_bl (by exact h) ?_
    intro v45 h
    try dsimp only
    exact ⟨⟨1, rfl⟩, _, rfl, h⟩
  intro h
  refine ws_nil ?_
  refine s_asg (R := fun (seem48 : (Dct Txt Bool)) => (law_w8 u9 u19 marks26 sieve28 bits39 seem48 Q E)) 12 ye.ok rfl (c_dictL ye.ok B (by rfl) (c_l (c_L ye.ok (l_lc0 (.n 9) [("word", 9)] (fun (x46 : Txt) => (x46, (decide ((((dgt marks26.kvs x46).filter (fun (x47 : Int) => ((niL x47 bits39)))).map (fun (x47 : Int) => x47)) = ([] : List Int))))) ye.ok (i_list (c_v 6 rfl rfl)) (show BlkOk law_N d_law.scope _ _ from blk_by (by decide +kernel)) (fun z => (tg_blk ye.ok z 9 rfl)) (fun _ (x46 : Txt) _ _ => (c_tup2 (a_cons (c_v 9 rfl rfl) (a_cons (c_k (k_eqL ye.ok.blk (c_l (c_L ye.ok.blk (l_lc (.n 13) [("mark", 13)] (fun (x47 : Int) => ((niL x47 bits39))) (fun (x47 : Int) => x47) ye.ok.blk (i_list (c_dget ye.ok.blk (c_d (c_v 7 rfl rfl)) (c_v 9 rfl rfl))) (blk_by (by first | decide +kernel | rfl)) (fun z => (tg_blk ye.ok.blk z 13 rfl)) (fun _ (x47 : Int) _ _ => ts_one (t_k (k_nin ye.ok.blk.blk (c_v 13 rfl rfl) (c_l (c_v 11 rfl rfl))))) (fun _ (x47 : Int) _ _ => (c_v 13 rfl rfl))))) (c_l (c_list (s_nil (α := Int)))))) a_nil)))))))) ?_ (by exact h)
  intro seem48 h
  try dsimp only
  show Ws _ (⟨[some (pu script1), some (raw (.ref q2)), some (pu u9.1), some (pu u9.2), none, some (pu u19.1), some (pu u19.2), some (pu marks26), none, none, some (pu sieve28), some (pu bits39), some (pu seem48), none, none, none], [(q2, dicec)]⟩ : DSt) _ _
  refine s_if (B := Q false) (C := (law_w7 u9 u19 marks26 sieve28 bits39 seem48 Q E)) (t_k (k_neL ye.ok (c_l (c_L ye.ok (l_lcX (.n 9) [("word", 9)] ye.ok (i_list (c_v 6 rfl rfl)) (show BlkOk law_N d_law.scope _ _ from blk_by (by decide +kernel)) (fun z => (tg_blk ye.ok z 9 rfl)) (fun _ (x49 : Txt) _ _ => ts_one (t_k (k_ne ye.ok.blk (c_meth (w := Sieve_may_have_W) 1 ye.blk G_Sieve_may_have (He.cls_ok (L.d.fact 48 rfl)) (Nat.le_of_ble_eq_true rfl) (c_v 10 rfl rfl) (a_cons (c_v 9 rfl rfl) a_nil) (fun _ => rfl) trivial) (c_dget ye.ok.blk (c_d (c_v 12 rfl rfl)) (c_v 9 rfl rfl))))) (fun _ (x49 : Txt) _ _ => (c_v 9 rfl rfl))))) (c_l (c_list (s_nil (α := Txt)))))) ?_ ?_ (by exact h)
  · intro h
    refine s_ret (R := fun (v53 : Bool) => Q v53) c_bl (by exact h) ?_
    intro v53 h
    try dsimp only
    exact ⟨⟨1, rfl⟩, _, rfl, h⟩
  intro h
  refine ws_nil ?_
  refine s_if (B := Q false) (C := (law_w6 u9 u19 marks26 sieve28 bits39 Q E)) (t_k (k_neL ye.ok (c_l (c_listH B (by rfl) (c_meth (w := Sieve_wrongly_W) 1 ye G_Sieve_wrongly (He.cls_ok (L.d.fact 48 rfl)) (Nat.le_of_ble_eq_true rfl) (c_v 10 rfl rfl) (a_cons (c_v 5 rfl rfl) (a_cons (c_v 6 rfl rfl) a_nil)) (fun _ => rfl) rfl))) (c_l (c_L ye.ok (l_lc (.n 9) [("word", 9)] (fun (x56 : Txt) => ((dgt seem48.kvs x56) && ((niL x56 u19.1)))) (fun (x56 : Txt) => x56) ye.ok (i_list (c_call (w := law_unlike_2_W) 1 ye G_law_unlike_2 (Nat.le_of_ble_eq_true rfl) rfl (a_cons (c_v 6 rfl rfl) a_nil) (fun _ => rfl) rfl)) (show BlkOk law_N d_law.scope _ _ from blk_by (by decide +kernel)) (fun z => (tg_blk ye.ok z 9 rfl)) (fun _ (x56 : Txt) _ _ => ts_one (t_w (w_andP (y := ((niL x56 u19.1))) (t_v (fun _ => rfl) (c_dget ye.ok.blk (c_d (c_v 12 rfl rfl)) (c_v 9 rfl rfl))) (w_and1 (t_k (k_nin ye.ok.blk (c_v 9 rfl rfl) (c_l (c_v 5 rfl rfl)))))))) (fun _ (x56 : Txt) _ _ => (c_v 9 rfl rfl))))))) ?_ ?_ (by exact h)
  · intro h
    refine s_ret (R := fun (v57 : Bool) => Q v57) c_bl (by exact h) ?_
    intro v57 h
    try dsimp only
    exact ⟨⟨1, rfl⟩, _, rfl, h⟩
  intro h
  refine ws_nil ?_
  refine s_asg (R := fun (both60 : SieveV) => (law_w5 u9 u19 marks26 sieve28 bits39 both60 Q E)) 14 ye.ok rfl (c_meth (w := Sieve_joined_W) 1 ye G_Sieve_joined (He.cls_ok (L.d.fact 48 rfl)) (Nat.le_of_ble_eq_true rfl) (c_v 10 rfl rfl) (a_cons (c_call (w := sieve_of_W) 1 ye G_sieve_of (Nat.le_of_ble_eq_true rfl) rfl (a_cons (c_v 6 rfl rfl) (a_cons (c_v 2 rfl rfl) (a_cons (c_v 3 rfl rfl) a_nil))) (fun _ => rfl) rfl) a_nil) (fun _ => rfl) rfl) ?_ (by exact h)
  intro both60 h
  try dsimp only
  show Ws _ (⟨[some (pu script1), some (raw (.ref q2)), some (pu u9.1), some (pu u9.2), none, some (pu u19.1), some (pu u19.2), some (pu marks26), none, none, some (pu sieve28), some (pu bits39), some (pu seem48), none, some (pu both60), none], [(q2, dicec)]⟩ : DSt) _ _
  refine s_if (B := Q false) (C := (law_w4 u9 u19 marks26 sieve28 bits39 Q E)) (t_k (k_ne ye.ok (c_meth0 (w := Sieve_key_W) 1 ye G_Sieve_key (He.cls_ok (L.d.fact 48 rfl)) (Nat.le_of_ble_eq_true rfl) (c_v 14 rfl rfl) rfl rfl) (c_meth0 (w := Sieve_key_W) 1 ye G_Sieve_key (He.cls_ok (L.d.fact 48 rfl)) (Nat.le_of_ble_eq_true rfl) (c_call (w := sieve_of_W) 1 ye G_sieve_of (Nat.le_of_ble_eq_true rfl) rfl (a_cons (c_catL (c_l (c_v 5 rfl rfl)) (c_l (c_v 6 rfl rfl))) (a_cons (c_v 2 rfl rfl) (a_cons (c_v 3 rfl rfl) a_nil))) (fun _ => rfl) rfl) rfl rfl))) ?_ ?_ (by exact h)
  · intro h
    refine s_ret (R := fun (v64 : Bool) => Q v64) c_bl (by exact h) ?_
    intro v64 h
    try dsimp only
    exact ⟨⟨1, rfl⟩, _, rfl, h⟩
  intro h
  refine ws_nil ?_
  refine s_asg (R := fun (half66 : SieveV) => (law_w3 u9 u19 marks26 sieve28 bits39 half66 Q E)) 15 ye.ok rfl (c_meth0 (w := Sieve_folded_W) 1 ye G_Sieve_folded (He.cls_ok (L.d.fact 48 rfl)) (Nat.le_of_ble_eq_true rfl) (c_v 10 rfl rfl) rfl rfl) ?_ (by exact h)
  intro half66 h
  try dsimp only
  show Ws _ (⟨[some (pu script1), some (raw (.ref q2)), some (pu u9.1), some (pu u9.2), none, some (pu u19.1), some (pu u19.2), some (pu marks26), none, none, some (pu sieve28), some (pu bits39), some (pu seem48), none, some (pu both60), some (pu half66)], [(q2, dicec)]⟩ : DSt) _ _
  refine s_if (B := Q false) (C := (law_w2 u9 u19 marks26 sieve28 half66 Q)) (t_k (k_ne ye.ok (c_meth0 (w := Sieve_key_W) 1 ye G_Sieve_key (He.cls_ok (L.d.fact 48 rfl)) (Nat.le_of_ble_eq_true rfl) (c_v 15 rfl rfl) rfl rfl) (c_tup3 (a_cons (c_fdiv (c_v 2 rfl rfl) c_int) (a_cons (c_tupL B (by rfl) (c_l (c_v 3 rfl rfl))) (a_cons (c_tupL B (by rfl) (c_l (c_call (w := law_unlike_W) 1 ye G_law_unlike (Nat.le_of_ble_eq_true rfl) rfl (a_cons (c_L ye.ok (l_lc0 (.n 13) [("mark", 13)] (fun (x68 : Int) => (x68 % (u9.1 / (2 : Int)))) ye.ok (i_list (c_v 11 rfl rfl)) (show BlkOk law_N d_law.scope _ _ from blk_by (by decide +kernel)) (fun z => (tg_blk ye.ok z 13 rfl)) (fun _ (x68 : Int) _ _ => (c_mod (c_v 13 rfl rfl) (c_fdiv (c_v 2 rfl rfl) c_int))))) a_nil) (fun _ => rfl) rfl))) a_nil)))))) ?_ ?_ (by exact h)
  · intro h
    refine s_ret (R := fun (v70 : Bool) => Q v70) c_bl (by exact h) ?_
    intro v70 h
    try dsimp only
    exact ⟨⟨1, rfl⟩, _, rfl, h⟩
  intro h
  refine ws_nil ?_
  refine s_if (B := Q false) (C := (law_w1 u9 u19 marks26 sieve28 Q)) (t_k (k_neL ye.ok (c_l (c_L ye.ok (l_lcX (.n 9) [("word", 9)] ye.ok (i_list (c_v 5 rfl rfl)) (show BlkOk law_N d_law.scope _ _ from blk_by (by decide +kernel)) (fun z => (tg_blk ye.ok z 9 rfl)) (fun _ (x71 : Txt) _ _ => ts_one (t_not (t_v (fun _ => rfl) (c_meth (w := Sieve_may_have_W) 1 ye.blk G_Sieve_may_have (He.cls_ok (L.d.fact 48 rfl)) (Nat.le_of_ble_eq_true rfl) (c_v 15 rfl rfl) (a_cons (c_v 9 rfl rfl) a_nil) (fun _ => rfl) trivial)))) (fun _ (x71 : Txt) _ _ => (c_v 9 rfl rfl))))) (c_l (c_list (s_nil (α := Txt)))))) ?_ ?_ (by exact h)
  · intro h
    refine s_ret (R := fun (v75 : Bool) => Q v75) c_bl (by exact h) ?_
    intro v75 h
    try dsimp only
    exact ⟨⟨1, rfl⟩, _, rfl, h⟩
  intro h
  refine ws_nil ?_
  refine s_if (B := Q false) (C := Q true) (t_not (t_v (fun _ => rfl) (c_callD 1 0 ye.ok G_law_rest3 (Nat.le_of_ble_eq_true rfl) rfl (a_cons (c_v 2 rfl rfl) (a_cons (c_v 3 rfl rfl) (a_cons (c_v 5 rfl rfl) (a_cons (c_v 6 rfl rfl) (a_cons (c_v 7 rfl rfl) (a_cons (c_v 10 rfl rfl) a_nil)))))) rfl rfl rfl (fun _ => rfl)))) ?_ ?_ (by exact h)
  · intro h
    refine s_ret (R := fun (v77 : Bool) => Q v77) c_bl (by exact h) ?_
    intro v77 h
    try dsimp only
    exact ⟨⟨1, rfl⟩, _, rfl, h⟩
  intro h
  refine ws_nil ?_
  refine ws_nil ?_
  refine s_ret (R := fun (v78 : Bool) => Q v78) c_bl (by exact h) ?_
  intro v78 h
  try dsimp only
  exact ⟨⟨1, rfl⟩, _, rfl, h⟩
end
end K16
set_option maxHeartbeats 0
set_option synthInstance.maxSize 2000
namespace K16
open PySem L2 Sp
theorem law_ok {P : Program} {w : World} {K : Frag} {mg : Str → Option Value} {base : Heap} (B : Bis mg) (L : LK w K mg base fa fn tq) (CM_Sieve : HN.cmpK K (He.ga K "Sieve")) (CM_Table : HN.cmpK K (He.ga K "Table")) {fd : FuncData} (F0 : Fd K d_law ["script"] fd) : FnOk P w K mg base (L2.CX P w) 12 (He.fAd K d_law.at_) fd ["script"] (toSp K (tbOf K tq) 1 (spF K law_W)) := by
  obtain ⟨fd_law_dice, FD_law_dice⟩ := Sp.LK.fd L.d 25 (d := d__law_dice) ["cell"] rfl (fun _ _ _ _ _ _ us hl => match us, hl with | [_], _ => rfl)
  have G_law_dice : Df P w K mg base (tbOf K tq) 1 "_law_dice" ["cell"] dDiceA := LK.df L FD_law_dice (ok_dice B L FD_law_dice) mDiceA 5
  obtain ⟨fd_law_roll, FD_law_roll⟩ := Sp.LK.fd L.d 26 (d := d__law_roll) ["dice", "many"] rfl (fun _ _ _ _ _ _ us hl => match us, hl with | [_, _], _ => rfl)
  have G_law_roll : Df P w K mg base (tbOf K tq) 1 "_law_roll" ["dice", "many"] (spD rollW) := LK.df L FD_law_roll (ok_roll B L FD_law_roll) spD_mono 6
  obtain ⟨fd_law_rounds, FD_law_rounds⟩ := Sp.LK.fd L.d 27 (d := d__law_rounds) ["script", "most"] rfl (fun _ _ _ _ _ _ us hl => match us, hl with | [_, _], _ => rfl)
  have G_law_rounds : Df P w K mg base (tbOf K tq) 2 "_law_rounds" ["script", "most"] dRoundsA := LK.df L FD_law_rounds (ok_rounds B L FD_law_rounds G_law_dice) mRoundsA 7
  obtain ⟨fd_law_told, FD_law_told⟩ := Sp.LK.fd L.d 28 (d := d__law_told) ["what"] rfl (fun _ _ _ _ _ _ us hl => match us, hl with | [_], _ => rfl)
  obtain ⟨fd_check_word, FD_check_word⟩ := Sp.LK.fd L.d 0 (d := d_check_word) ["word"] rfl (fun _ _ _ _ _ _ us hl => match us, hl with | [_], _ => rfl)
  have G_check_word : Df P w K mg base (tbOf K tq) 3 "check_word" ["word"] (spF K check_word_W) := LK.df L FD_check_word (ok_check_word B L FD_check_word ) spF_mono 0
  obtain ⟨fd_word_sum, FD_word_sum⟩ := Sp.LK.fd L.d 1 (d := d_word_sum) ["word", "step", "size"] rfl (fun _ _ _ _ _ _ us hl => match us, hl with | [_, _, _], _ => rfl)
  have G_word_sum : Df P w K mg base (tbOf K tq) 4 "word_sum" ["word", "step", "size"] (spF K word_sum_W) := LK.df L FD_word_sum (ok_word_sum B L FD_word_sum G_check_word) spF_mono 1
  obtain ⟨fd_Sieve_init, FD_Sieve_init⟩ := Sp.LK.fd L.d 2 (d := d_Sieve_init) ["self", "size", "steps"] rfl (fun _ _ _ _ _ _ us hl => match us, hl with | [_, _, _], _ => rfl)
  have G_Sieve_init : Mkr P w K mg base (tbOf K tq) 1 "Sieve" (He.ga K "Sieve") ["self", "size", "steps"] (spI K Sieve_init_W) := LK.mkr L FD_Sieve_init (ok_Sieve_init B L FD_Sieve_init ) spI_mono 49 17
  obtain ⟨fd_Sieve_initP, FD_Sieve_initP⟩ := Sp.LK.fd L.d 2 (d := d_Sieve_init) ["self", "size", "steps"] rfl (fun _ _ _ _ _ _ us hl => match us, hl with | [_, _, _], _ => rfl)
  have G_Sieve_initP : Mkr P w K mg base (tbOf K tq) 1 "Sieve" (He.ga K "Sieve") ["self", "size", "steps"] (spI2 K Sieve_initP_W) := LK.mkr L FD_Sieve_initP (ok_Sieve_initP B L FD_Sieve_initP ) spI2_mono 49 17
  obtain ⟨fd_Sieve_init_2, FD_Sieve_init_2⟩ := Sp.LK.fd L.d 2 (d := d_Sieve_init) ["self", "size", "steps"] rfl (fun _ _ _ _ _ _ us hl => match us, hl with | [_, _, _], _ => rfl)
  have G_Sieve_init_2 : Mkr P w K mg base (tbOf K tq) 1 "Sieve" (He.ga K "Sieve") ["self", "size", "steps"] (spI K Sieve_init_2_W) := LK.mkr L FD_Sieve_init_2 (ok_Sieve_init_2 B L FD_Sieve_init_2 ) spI_mono 49 17
  obtain ⟨fd_Sieve_init_2P, FD_Sieve_init_2P⟩ := Sp.LK.fd L.d 2 (d := d_Sieve_init) ["self", "size", "steps"] rfl (fun _ _ _ _ _ _ us hl => match us, hl with | [_, _, _], _ => rfl)
  have G_Sieve_init_2P : Mkr P w K mg base (tbOf K tq) 1 "Sieve" (He.ga K "Sieve") ["self", "size", "steps"] (spI2 K Sieve_init_2P_W) := LK.mkr L FD_Sieve_init_2P (ok_Sieve_init_2P B L FD_Sieve_init_2P ) spI2_mono 49 17
  obtain ⟨fd_Sieve_marks, FD_Sieve_marks⟩ := Sp.LK.fd L.d 3 (d := d_Sieve_marks) ["self", "word"] rfl (fun _ _ _ _ _ _ us hl => match us, hl with | [_, _], _ => rfl)
  have G_Sieve_marks : Mt P w K mg base (tbOf K tq) 5 (He.ga K "Sieve") "marks" ["self", "word"] (spF K Sieve_marks_W) := LK.mt L FD_Sieve_marks (ok_Sieve_marks B L FD_Sieve_marks G_check_word G_word_sum) spF_mono 53
  obtain ⟨fd_Sieve_marksP, FD_Sieve_marksP⟩ := Sp.LK.fd L.d 3 (d := d_Sieve_marks) ["self", "word"] rfl (fun _ _ _ _ _ _ us hl => match us, hl with | [_, _], _ => rfl)
  have G_Sieve_marksP : Mt P w K mg base (tbOf K tq) 5 (He.ga K "Sieve") "marks" ["self", "word"] (spO2 K Sieve_marksP_W) := LK.mt L FD_Sieve_marksP (ok_Sieve_marksP B L FD_Sieve_marksP G_check_word G_word_sum) spO2_mono 53
  obtain ⟨fd_Sieve_put, FD_Sieve_put⟩ := Sp.LK.fd L.d 4 (d := d_Sieve_put) ["self", "word"] rfl (fun _ _ _ _ _ _ us hl => match us, hl with | [_, _], _ => rfl)
  have G_Sieve_put : Mt P w K mg base (tbOf K tq) 6 (He.ga K "Sieve") "put" ["self", "word"] (spF K Sieve_put_W) := LK.mt L FD_Sieve_put (ok_Sieve_put B L FD_Sieve_put G_Sieve_marks) spF_mono 54
  obtain ⟨fd_Sieve_putP, FD_Sieve_putP⟩ := Sp.LK.fd L.d 4 (d := d_Sieve_put) ["self", "word"] rfl (fun _ _ _ _ _ _ us hl => match us, hl with | [_, _], _ => rfl)
  have G_Sieve_putP : Mt P w K mg base (tbOf K tq) 6 (He.ga K "Sieve") "put" ["self", "word"] (spM2 K Sieve_putP_W) := LK.mt L FD_Sieve_putP (ok_Sieve_putP B L FD_Sieve_putP G_Sieve_marksP) spM2_mono 54
  obtain ⟨fd_Sieve_may_have, FD_Sieve_may_have⟩ := Sp.LK.fd L.d 5 (d := d_Sieve_may_have) ["self", "word"] rfl (fun _ _ _ _ _ _ us hl => match us, hl with | [_, _], _ => rfl)
  have G_Sieve_may_have : Mt P w K mg base (tbOf K tq) 6 (He.ga K "Sieve") "may_have" ["self", "word"] (spF K Sieve_may_have_W) := LK.mt L FD_Sieve_may_have (ok_Sieve_may_have B L FD_Sieve_may_have G_Sieve_marks) spF_mono 55
  obtain ⟨fd_Sieve_how_full, FD_Sieve_how_full⟩ := Sp.LK.fd L.d 6 (d := d_Sieve_how_full) ["self"] rfl (fun _ _ _ _ _ _ us hl => match us, hl with | [_], _ => rfl)
  have G_Sieve_how_full : Mt P w K mg base (tbOf K tq) 1 (He.ga K "Sieve") "how_full" ["self"] (spF K Sieve_how_full_W) := LK.mt L FD_Sieve_how_full (ok_Sieve_how_full B L FD_Sieve_how_full ) spF_mono 56
  obtain ⟨fd_Sieve_wrongly, FD_Sieve_wrongly⟩ := Sp.LK.fd L.d 7 (d := d_Sieve_wrongly) ["self", "words", "others"] rfl (fun _ _ _ _ _ _ us hl => match us, hl with | [_, _, _], _ => rfl)
  have G_Sieve_wrongly : Mt P w K mg base (tbOf K tq) 7 (He.ga K "Sieve") "wrongly" ["self", "words", "others"] (spF K Sieve_wrongly_W) := LK.mt L FD_Sieve_wrongly (ok_Sieve_wrongly B L FD_Sieve_wrongly G_Sieve_may_have) spF_mono 57
  obtain ⟨fd_Sieve_joined, FD_Sieve_joined⟩ := Sp.LK.fd L.d 8 (d := d_Sieve_joined) ["self", "other"] rfl (fun _ _ _ _ _ _ us hl => match us, hl with | [_, _], _ => rfl)
  have G_Sieve_joined : Mt P w K mg base (tbOf K tq) 3 (He.ga K "Sieve") "joined" ["self", "other"] (spF K Sieve_joined_W) := LK.mt L FD_Sieve_joined (ok_Sieve_joined B L FD_Sieve_joined G_Sieve_init_2) spF_mono 58
  obtain ⟨fd_Sieve_folded, FD_Sieve_folded⟩ := Sp.LK.fd L.d 9 (d := d_Sieve_folded) ["self"] rfl (fun _ _ _ _ _ _ us hl => match us, hl with | [_], _ => rfl)
  have G_Sieve_folded : Mt P w K mg base (tbOf K tq) 3 (He.ga K "Sieve") "folded" ["self"] (spF K Sieve_folded_W) := LK.mt L FD_Sieve_folded (ok_Sieve_folded B L FD_Sieve_folded G_Sieve_init_2P) spF_mono 59
  obtain ⟨fd_Sieve_key, FD_Sieve_key⟩ := Sp.LK.fd L.d 10 (d := d_Sieve_key) ["self"] rfl (fun _ _ _ _ _ _ us hl => match us, hl with | [_], _ => rfl)
  have G_Sieve_key : Mt P w K mg base (tbOf K tq) 1 (He.ga K "Sieve") "key" ["self"] (spF K Sieve_key_W) := LK.mt L FD_Sieve_key (ok_Sieve_key B L FD_Sieve_key ) spF_mono 60
  obtain ⟨fd_sieve_of, FD_sieve_of⟩ := Sp.LK.fd L.d 11 (d := d_sieve_of) ["words", "size", "steps"] rfl (fun _ _ _ _ _ _ us hl => match us, hl with | [_, _, _], _ => rfl)
  have G_sieve_of : Df P w K mg base (tbOf K tq) 7 "sieve_of" ["words", "size", "steps"] (spF K sieve_of_W) := LK.df L FD_sieve_of (ok_sieve_of B L FD_sieve_of G_Sieve_initP G_Sieve_putP) spF_mono 2
  obtain ⟨fd_Tallies_initP, FD_Tallies_initP⟩ := Sp.LK.fd L.d 12 (d := d_Tallies_init) ["self", "size", "steps"] rfl (fun _ _ _ _ _ _ us hl => match us, hl with | [_, _, _], _ => rfl)
  have G_Tallies_initP : Mkr P w K mg base (tbOf K tq) 3 "Tallies" (He.ga K "Tallies") ["self", "size", "steps"] (spI2 K Tallies_initP_W) := LK.mkr L FD_Tallies_initP (ok_Tallies_initP B L FD_Tallies_initP G_Sieve_init) spI2_mono 62 18
  obtain ⟨fd_Tallies_putP, FD_Tallies_putP⟩ := Sp.LK.fd L.d 13 (d := d_Tallies_put) ["self", "word"] rfl (fun _ _ _ _ _ _ us hl => match us, hl with | [_, _], _ => rfl)
  have G_Tallies_putP : Mt P w K mg base (tbOf K tq) 6 (He.ga K "Tallies") "put" ["self", "word"] (spM2 K Tallies_putP_W) := LK.mt L FD_Tallies_putP (ok_Tallies_putP B L FD_Tallies_putP G_Sieve_marks) spM2_mono 65
  obtain ⟨fd_Tallies_at_mostP, FD_Tallies_at_mostP⟩ := Sp.LK.fd L.d 15 (d := d_Tallies_at_most) ["self", "word"] rfl (fun _ _ _ _ _ _ us hl => match us, hl with | [_, _], _ => rfl)
  have G_Tallies_at_mostP : Mt P w K mg base (tbOf K tq) 6 (He.ga K "Tallies") "at_most" ["self", "word"] (spO2 K Tallies_at_mostP_W) := LK.mt L FD_Tallies_at_mostP (ok_Tallies_at_mostP B L FD_Tallies_at_mostP G_Sieve_marks) spO2_mono 67
  obtain ⟨fd_Tallies_takeP, FD_Tallies_takeP⟩ := Sp.LK.fd L.d 14 (d := d_Tallies_take) ["self", "word"] rfl (fun _ _ _ _ _ _ us hl => match us, hl with | [_, _], _ => rfl)
  have G_Tallies_takeP : Mt P w K mg base (tbOf K tq) 7 (He.ga K "Tallies") "take" ["self", "word"] (spM2 K Tallies_takeP_W) := LK.mt L FD_Tallies_takeP (ok_Tallies_takeP B L FD_Tallies_takeP G_Tallies_at_mostP G_Sieve_marks) spM2_mono 66
  obtain ⟨fd_Tallies_sum_toldP, FD_Tallies_sum_toldP⟩ := Sp.LK.fd L.d 16 (d := d_Tallies_sum_told) ["self"] rfl (fun _ _ _ _ _ _ us hl => match us, hl with | [_], _ => rfl)
  have G_Tallies_sum_toldP : Mt P w K mg base (tbOf K tq) 1 (He.ga K "Tallies") "sum_told" ["self"] (spO2 K Tallies_sum_toldP_W) := LK.mt L FD_Tallies_sum_toldP (ok_Tallies_sum_toldP B L FD_Tallies_sum_toldP ) spO2_mono 68
  obtain ⟨fd_Table_init, FD_Table_init⟩ := Sp.LK.fd L.d 17 (d := d_Table_init) ["self", "size", "step"] rfl (fun _ _ _ _ _ _ us hl => match us, hl with | [_, _, _], _ => rfl)
  have G_Table_init : Mkr P w K mg base (tbOf K tq) 1 "Table" (He.ga K "Table") ["self", "size", "step"] (spI K Table_init_W) := LK.mkr L FD_Table_init (ok_Table_init B L FD_Table_init ) spI_mono 70 19
  obtain ⟨fd_Table_initP, FD_Table_initP⟩ := Sp.LK.fd L.d 17 (d := d_Table_init) ["self", "size", "step"] rfl (fun _ _ _ _ _ _ us hl => match us, hl with | [_, _, _], _ => rfl)
  have G_Table_initP : Mkr P w K mg base (tbOf K tq) 1 "Table" (He.ga K "Table") ["self", "size", "step"] (spI2 K Table_initP_W) := LK.mkr L FD_Table_initP (ok_Table_initP B L FD_Table_initP ) spI2_mono 70 19
  obtain ⟨fd_Table_placeP, FD_Table_placeP⟩ := Sp.LK.fd L.d 18 (d := d_Table_place) ["self", "word"] rfl (fun _ _ _ _ _ _ us hl => match us, hl with | [_, _], _ => rfl)
  have G_Table_placeP : MtN P w K mg base (tbOf K tq) 5 (He.ga K "Table") "place" ["self", "word"] (spO2 K Table_placeP_W) := LK.mtN L FD_Table_placeP (ok_Table_placeP B L FD_Table_placeP G_check_word G_word_sum) spO2_mono 74
  obtain ⟨fd_Table_putP, FD_Table_putP⟩ := Sp.LK.fd L.d 19 (d := d_Table_put) ["self", "word"] rfl (fun _ _ _ _ _ _ us hl => match us, hl with | [_, _], _ => rfl)
  have G_Table_putP : Mt P w K mg base (tbOf K tq) 6 (He.ga K "Table") "put" ["self", "word"] (spM2 K Table_putP_W) := LK.mt L FD_Table_putP (ok_Table_putP B L FD_Table_putP G_Table_placeP) spM2_mono 75
  obtain ⟨fd_Table_hasP, FD_Table_hasP⟩ := Sp.LK.fd L.d 20 (d := d_Table_has) ["self", "word"] rfl (fun _ _ _ _ _ _ us hl => match us, hl with | [_, _], _ => rfl)
  have G_Table_hasP : Mt P w K mg base (tbOf K tq) 6 (He.ga K "Table") "has" ["self", "word"] (spO2 K Table_hasP_W) := LK.mt L FD_Table_hasP (ok_Table_hasP B L FD_Table_hasP G_Table_placeP) spO2_mono 76
  obtain ⟨fd_Table_takeP, FD_Table_takeP⟩ := Sp.LK.fd L.d 21 (d := d_Table_take) ["self", "word"] rfl (fun _ _ _ _ _ _ us hl => match us, hl with | [_, _], _ => rfl)
  have G_Table_takeP : Mt P w K mg base (tbOf K tq) 7 (He.ga K "Table") "take" ["self", "word"] (spM2 K Table_takeP_W) := LK.mt L FD_Table_takeP (ok_Table_takeP B L FD_Table_takeP G_Table_hasP G_Table_placeP G_Table_putP) spM2_mono 77
  obtain ⟨fd_Table_looksP, FD_Table_looksP⟩ := Sp.LK.fd L.d 22 (d := d_Table_looks) ["self", "word"] rfl (fun _ _ _ _ _ _ us hl => match us, hl with | [_, _], _ => rfl)
  have G_Table_looksP : Mt P w K mg base (tbOf K tq) 7 (He.ga K "Table") "looks" ["self", "word"] (spO2 K Table_looksP_W) := LK.mt L FD_Table_looksP (ok_Table_looksP B L FD_Table_looksP G_Table_hasP G_Table_placeP G_word_sum) spO2_mono 78
  obtain ⟨fd_best_step, FD_best_step⟩ := Sp.LK.fd L.d 23 (d := d_best_step) ["words", "size", "steps"] rfl (fun _ _ _ _ _ _ us hl => match us, hl with | [_, _, _], _ => rfl)
  have G_best_step : Df P w K mg base (tbOf K tq) 5 "best_step" ["words", "size", "steps"] (spF K best_step_W) := LK.df L FD_best_step (ok_best_step B L FD_best_step G_word_sum) spF_mono 3
  obtain ⟨fd_law_flat, FD_law_flat⟩ := Sp.LK.fd L.d 24 (d := d__law_flat) ["rows"] rfl (fun _ _ _ _ _ _ us hl => match us, hl with | [_], _ => rfl)
  have G_law_flat : Df P w K mg base (tbOf K tq) 1 "_law_flat" ["rows"] (spF K law_flat_W) := LK.df L FD_law_flat (ok_law_flat B L FD_law_flat ) spF_mono 4
  obtain ⟨fd_law_word, FD_law_word⟩ := Sp.LK.fd L.d 29 (d := d__law_word) ["dice", "letters", "least", "most"] rfl (fun _ _ _ _ _ _ us hl => match us, hl with | [_, _, _, _], _ => rfl)
  have G_law_word : Df P w K mg base (tbOf K tq) 2 "_law_word" ["dice", "letters", "least", "most"] (spD law_word_W) := LK.df L FD_law_word (ok_law_word B L FD_law_word G_law_roll) spD_mono 9
  obtain ⟨fd_law_unlike, FD_law_unlike⟩ := Sp.LK.fd L.d 30 (d := d__law_unlike) ["words"] rfl (fun _ _ _ _ _ _ us hl => match us, hl with | [_], _ => rfl)
  have G_law_unlike : Df P w K mg base (tbOf K tq) 1 "_law_unlike" ["words"] (spF K law_unlike_W) := LK.df L FD_law_unlike (ok_law_unlike B L FD_law_unlike ) spF_mono 10
  obtain ⟨fd_law_unlike_2, FD_law_unlike_2⟩ := Sp.LK.fd L.d 30 (d := d__law_unlike) ["words"] rfl (fun _ _ _ _ _ _ us hl => match us, hl with | [_], _ => rfl)
  have G_law_unlike_2 : Df P w K mg base (tbOf K tq) 1 "_law_unlike" ["words"] (spF K law_unlike_2_W) := LK.df L FD_law_unlike_2 (ok_law_unlike_2 B L FD_law_unlike_2 ) spF_mono 10
  obtain ⟨fd_law_sum, FD_law_sum⟩ := Sp.LK.fd L.d 31 (d := d__law_sum) ["word", "step", "size"] rfl (fun _ _ _ _ _ _ us hl => match us, hl with | [_, _, _], _ => rfl)
  have G_law_sum : Df P w K mg base (tbOf K tq) 1 "_law_sum" ["word", "step", "size"] (spF K law_sum_W) := LK.df L FD_law_sum (ok_law_sum B L FD_law_sum ) spF_mono 11
  obtain ⟨fd_law_cases1, FD_law_cases1⟩ := Sp.LK.fd L.d 32 (d := d__law_cases1) [] rfl (fun _ _ _ _ _ _ us hl => match us, hl with | [], _ => rfl)
  have G_law_cases1 : Df P w K mg base (tbOf K tq) 7 "_law_cases1" [] (spF K law_cases1_W) := LK.df L FD_law_cases1 (ok_law_cases1 B L FD_law_cases1 FD_law_told CM_Sieve CM_Table G_Sieve_init G_Table_init G_word_sum) spF_mono 12
  obtain ⟨fd_law_rest2, FD_law_rest2⟩ := Sp.LK.fd L.d 33 (d := d__law_rest2) ["size", "steps", "words", "sieve"] rfl (fun _ _ _ _ _ _ us hl => match us, hl with | [_, _, _, _], _ => rfl)
  have G_law_rest2 : Df P w K mg base (tbOf K tq) 9 "_law_rest2" ["size", "steps", "words", "sieve"] (spF K law_rest2_W) := LK.df L FD_law_rest2 (ok_law_rest2 B L FD_law_rest2 FD_law_told CM_Sieve G_law_unlike_2 G_law_unlike G_law_sum G_best_step G_law_cases1 G_Sieve_init G_Sieve_folded G_Sieve_joined G_Sieve_put) spF_mono 13
  obtain ⟨fd_law_rest1, FD_law_rest1⟩ := Sp.LK.fd L.d 34 (d := d__law_rest1) ["dice", "size", "steps", "words", "others", "sieve"] rfl (fun _ _ _ _ _ _ us hl => match us, hl with | [_, _, _, _, _, _], _ => rfl)
  have G_law_rest1 : Df P w K mg base (tbOf K tq) 10 "_law_rest1" ["dice", "size", "steps", "words", "others", "sieve"] (spD law_rest1_W) := LK.df L FD_law_rest1 (ok_law_rest1 B L FD_law_rest1 FD_law_told G_law_roll G_Table_initP G_law_sum G_Table_putP G_law_unlike_2 G_Table_hasP G_Table_looksP G_Table_takeP G_law_rest2) spD_mono 14
  obtain ⟨fd_law_rest3, FD_law_rest3⟩ := Sp.LK.fd L.d 35 (d := d__law_rest3) ["dice", "size", "steps", "words", "others", "marks", "sieve"] rfl (fun _ _ _ _ _ _ us hl => match us, hl with | [_, _, _, _, _, _, _], _ => rfl)
  have G_law_rest3 : Df P w K mg base (tbOf K tq) 11 "_law_rest3" ["dice", "size", "steps", "words", "others", "marks", "sieve"] (spD law_rest3_W) := LK.df L FD_law_rest3 (ok_law_rest3 B L FD_law_rest3 FD_law_told G_Tallies_initP G_Tallies_putP G_law_roll G_Tallies_takeP G_law_flat G_Tallies_sum_toldP G_Tallies_at_mostP G_law_rest1) spD_mono 15
  exact ok_law B L F0 G_law_rounds G_law_roll G_law_word G_law_unlike G_law_sum G_sieve_of G_Sieve_marks G_word_sum G_law_flat G_Sieve_may_have G_Sieve_how_full G_Sieve_wrongly G_law_unlike_2 G_Sieve_joined G_Sieve_key G_Sieve_folded G_law_rest3
end K16
namespace K16
open PySem L2 Sp
theorem bis_of {w : World} {K : Frag} {mg : Str → Option Value} {base : Heap} (L : LK w K mg base fa fn tq) : Bis mg := by
  have g : ∀ i (x : Str), fa[i]? = some (He.Fa.free x) → mg x = none := fun i x h => He.free_ok L.X L.G (L.d.fact i h)
  refine ⟨fun x hx => ?_⟩
  simp only [List.mem_cons, List.not_mem_nil, or_false] at hx
  rcases hx with rfl | rfl | rfl | rfl | rfl | rfl | rfl | rfl | rfl | rfl | rfl | rfl | rfl | rfl | rfl | rfl | rfl | rfl | rfl
  · exact g 28 _ rfl
  · exact g 29 _ rfl
  · exact g 30 _ rfl
  · exact g 31 _ rfl
  · exact g 32 _ rfl
  · exact g 33 _ rfl
  · exact g 34 _ rfl
  · exact g 35 _ rfl
  · exact g 36 _ rfl
  · exact g 37 _ rfl
  · exact g 38 _ rfl
  · exact g 39 _ rfl
  · exact g 40 _ rfl
  · exact g 41 _ rfl
  · exact g 42 _ rfl
  · exact g 43 _ rfl
  · exact g 44 _ rfl
  · exact g 45 _ rfl
  · exact g 46 _ rfl
theorem cm_of {K : Frag} (h : ndTab K = true) (c : Str) (hc : c ∈ cmc) : HN.cmpK K (He.ga K c) := by
  unfold ndTab at h
  rw [Bool.and_eq_true, Bool.and_eq_true, Bool.and_eq_true] at h
  exact HN.cmpB_ok (List.all_eq_true.mp h.1.1.2 c hc)
theorem nd_of {K : Frag} (h : ndTab K = true) : (tq.map fun p => (He.cT K p.1).2).Nodup := by
  unfold ndTab at h
  rw [Bool.and_eq_true, Bool.and_eq_true, Bool.and_eq_true] at h
  exact of_decide_eq_true h.1.1.1
end K16
open PySem PySem.W PySem.Calls PyProof.Rows in
theorem K16.holds_of (plain : ∀ ns : List Int, ns.length ≤ 63 → (∀ z ∈ ns, Builtin.Int.intBits z ≤ 1048576) → K16.law_W (ns, ()) (fun b => b = true) Sp.NoE) : PySem.Challenge.rw_spellhall_k16_sieves.Holds := by
  w_on; o_law
  refine HandSHeadRun.head_any (r := K16.R) (q := view K16.R.prog [32]) (H := K16.hk) (ob := K16.ob) (M := 4000) (loose := K16.names) (d := HandSHeadRun.topDef K16.R.prog 32) (kwd := []) K16.ob_eq
    (by kernel_rfl) (fun s => by kernel_rfl) K16.run (by kernel_rfl) (by kernel_rfl) (by kernel_rfl) (by rfl) (by first | assumption | decide +kernel) (by decide +kernel) ⟨rfl, rfl, rfl, rfl, rfl, by decide +kernel⟩ ?hw ?hc
  case hw => w_witness2
  case hc =>
    refine LamX.walk_ofTsE (l := PySem.Challenge.rw_spellhall_k16_sieves) (n := 63) (k := 12) (x := "script") (CX := fun w => L2.CX PySem.Challenge.rw_spellhall_k16_sieves.prog w) rfl (by decide) (by kernel_rfl) ⟨rfl, by decide, by decide⟩ ?F (fun w H s e s' z => by
      obtain ⟨_, _, _, _, _, _, _, _, _, _, _, _, z⟩ := z
      exact z)
    intro w mg fA h Y G hmg0
    obtain ⟨K, KX, c⟩ := Y
    refine ⟨K, KX, ?_⟩
    have hmg : mg ("law" : PySem.Str) = some (.ref fA) := by
      have e : (HandSHeadRun.topDef K16.R.prog 32).name = ("law" : PySem.Str) := by kernel_rfl
      rw [← e]
      exact hmg0
    have hg := He.glo_ok KX G (c.t.d.fact 16 (f := .glo "law") rfl)
    have ef : He.fAd K K16.d_law.at_ = fA := by
      rw [hmg] at hg
      cases hg
      rfl
    have hb : ∀ (kV doc pm : Value) (an : Option Addr) (cdv ct : Value) (us : List Value), us.length = [("script" : PySem.Str)].length → bindArgs (PySem.W.fnOf K16.d_law.name K16.d_law.qual K16.d_law.params K16.d_law.body K16.d_law.scope .none kV doc pm an cdv ct) ⟨us, []⟩ = pure ([("script" : PySem.Str)].zip us) :=
      fun _ _ _ _ _ _ us hl => match us, hl with | [_], _ => rfl
    obtain ⟨fd, F1⟩ := Sp.LK.fd c.t.d 36 (d := K16.d_law) ["script"] rfl hb
    exact Sp.law_end (tq := K16.tq) KX c (K16.nd_of c.more) F1 ef hb Sp.spF_mono (fun ns hl hz => ⟨(ns, ()), rfl, rfl, (fun b => b = true), Sp.NoE, plain ns hl hz, fun b hb => by subst hb; rfl, fun e he => he.elim⟩) fun base L => K16.law_ok (K16.bis_of L) L (K16.cm_of c.more "Sieve" (by decide)) (K16.cm_of c.more "Table" (by decide)) F1
set_option maxHeartbeats 400000
namespace K16
open PySem L2 Sp
open PySem.W (DatumOrd)
abbrev AZ : Txt := tx "abcdefghijklmnopqrstuvwxyz"
abbrev AD : Txt := [97, 98, 99, 100]
theorem ad_is : (tx "abcd" : Txt) = AD := by decide +kernel
structure Wd (w : Txt) : Prop where
  lo : 1 ≤ w.length
  hi : w.length ≤ 24
  abc : ∀ c ∈ w, c ∈ AD
theorem ad_az : ∀ c ∈ AD, tin [c] AZ = true := by decide +kernel
theorem check_ok {w : Txt} (h : Wd w) {Q : Unit → Prop} {E : Ex → Prop} (q : Q ()) : check_word_W (w, ()) Q E := by
  have h1 := h.lo; have h2 := h.hi
  refine ⟨sl (by show w.length ≤ _; omega), fun _ => rfl, fun _ => ⟨rfl, fun _ _ => rfl, rfl⟩, no_ ?_ q⟩
  show ((!(decide ((1 : Int) ≤ (w.length : Int)) && decide ((w.length : Int) ≤ (24 : Int)))) || (w.map fun c => [c]).any (fun (x2 : Txt) => (!tin x2 AZ))) = false
  rw [decide_eq_true (show (1 : Int) ≤ (w.length : Int) by omega), decide_eq_true (show (w.length : Int) ≤ 24 by omega)]
  show (w.map fun c => [c]).any (fun (x2 : Txt) => (!tin x2 AZ)) = false
  rw [List.any_eq_false]
  intro x hx
  obtain ⟨c, hc, rfl⟩ := List.mem_map.mp hx
  rw [ad_az c (h.abc c hc)]; decide
theorem word_ad {lo hi : Int} {Q : Txt → Prop} (h0 : 0 ≤ lo) (h1 : lo ≤ hi) (h2 : hi ≤ 1000) (q : ∀ y : Txt, (∀ c ∈ y, c ∈ AD) → lo ≤ y.length → (y.length : Int) ≤ hi → Q y) : ClD (law_word_W ((tx "abcd"), lo, hi, ())) Q :=
  ClD.here (word_raw (ls := tx "abcd") h0 h1 h2 (by decide) (by decide) fun y hy => q y fun c hc => by rw [← ad_is]; exact hy c hc)
def stp (st sz f : Int) (c : Nat) : Int := (((f * st) + (idxT AZ [c])) + (1 : Int)) % sz
def sm (w : Txt) (st sz : Int) : Int := w.foldl (stp st sz) 0
structure Sz (st sz : Int) : Prop where
  s1 : 1 ≤ st
  s2 : st ≤ 40
  z1 : 1 ≤ sz
  z2 : sz ≤ 1000
theorem stp_lt {st sz : Int} (h : Sz st sz) (f : Int) (c : Nat) : 0 ≤ stp st sz f c ∧ stp st sz f c < sz := by
  have := h.z1
  exact ⟨Int.emod_nonneg _ (by omega), Int.emod_lt_of_pos _ (by omega)⟩
theorem sm_lt {st sz : Int} (h : Sz st sz) (w : Txt) : 0 ≤ sm w st sz ∧ sm w st sz < sz := by
  have h1 := h.z1
  unfold sm
  rcases List.eq_nil_or_concat w with rfl | ⟨l, c, rfl⟩
  · exact ⟨Int.le_refl _, by show (0 : Int) < sz; omega⟩
  · rw [List.concat_eq_append, List.foldl_append]
    exact stp_lt h _ c
theorem mul_ok {f st sz : Int} (h : Sz st sz) (f0 : 0 ≤ f) (f1 : f < sz) : CMul f st := by
  have h1 := h.s1; have h2 := h.s2; have h3 := h.z2
  unfold CMul
  right
  omega
theorem fold_ok {w : Txt} (hw : ∀ c ∈ w, c ∈ AD) {st sz : Int} (h : Sz st sz) {R : Int → Prop} (q : R (sm w st sz)) : forW (w.map fun c => [c]) (0 : Int) (fun (x7 : Txt) (z8 : Int) (nx10 : Int → Prop) => word_sum_w1 st sz x7 nx10 z8) R := by
  refine forT (w := w) (fun l z => z = sm l st sz) rfl (fun l c r z e hz k hk => ?_) fun z hz => by subst hz; exact q
  subst hz
  obtain ⟨a, b⟩ := sm_lt h l
  have hc := hw c (by rw [e]; simp)
  refine ⟨mul_ok h a b, ad_az c hc, by have := h.z1; omega, hk _ ?_⟩
  unfold sm
  rw [List.foldl_append]
  rfl
theorem word_sum_ok {w : Txt} (hw : Wd w) {st sz : Int} (h : Sz st sz) {Q : Int → Prop} {E : Ex → Prop} (q : Q (sm w st sz)) : word_sum_W (w, st, sz, ()) Q E := by
  have h1 := h.s1; have h3 := h.z1
  refine ⟨fun _ => rfl, no_ ?_ (Cl.here (check_ok hw (fold_ok hw.abc h q)))⟩
  show (decide (sz < (1 : Int)) || decide (st < (1 : Int))) = false
  rw [decide_eq_false (by omega), decide_eq_false (by omega)]; rfl
theorem law_sum_ok {w : Txt} (hw : ∀ c ∈ w, c ∈ AD) {st sz : Int} (h : Sz st sz) {Q : Int → Prop} {E : Ex → Prop} (q : Q (sm w st sz)) : law_sum_W (w, st, sz, ()) Q E := fold_ok hw h q
def mk (ss : List Int) (sz : Int) (w : Txt) : List Int := srt (uq (ss.map fun st => sm w st sz))
theorem keys_map {α : Type} (f : α → Int) (l : List α) : (Dct.mk (dmerge [] (l.map fun x => (f x, (1 : Int))))).kvs.map (·.1) = uq (l.map f) := by
  have := one_keysI (l.map f)
  rw [List.map_map] at this
  exact this
where
  one_keysI (ws : List Int) : (Dct.mk (dmerge [] (ws.map fun x => (x, (1 : Int))))).kvs.map (·.1) = uq ws := keys_uq (fun _ => (1 : Int)) ws
structure Ss (ss : List Int) (sz : Int) : Prop where
  ne : ss ≠ []
  len : ss.length ≤ 10
  ok : ∀ st ∈ ss, Sz st sz
  e : True
theorem mk_len (ss : List Int) (sz : Int) (w : Txt) : (mk ss sz w).length ≤ ss.length := by
  unfold mk
  rw [srt_len]
  have := uq_len (ss.map fun st => sm w st sz)
  rw [List.length_map] at this
  exact this
theorem mk_mem {ss : List Int} {sz : Int} {w : Txt} {x : Int} : x ∈ mk ss sz w ↔ ∃ st ∈ ss, sm w st sz = x := by
  unfold mk
  rw [srt_mem, uq_mem, List.mem_map]
theorem mk_nodup (ss : List Int) (sz : Int) (w : Txt) : (mk ss sz w).Nodup := srt_nodup (uq_nodup _)
theorem mk_ne {ss : List Int} {sz : Int} (S : Ss ss sz) (w : Txt) : mk ss sz w ≠ [] := by
  intro e
  obtain ⟨st, r, er⟩ : ∃ st r, ss = st :: r := by
    cases h : ss with
    | nil => exact absurd h S.ne
    | cons a b => exact ⟨a, b, rfl⟩
  have : sm w st sz ∈ mk ss sz w := mk_mem.mpr ⟨st, by rw [er]; simp, rfl⟩
  rw [e] at this
  cases this
theorem marks_ok {ss : List Int} {sz : Int} (S : Ss ss sz) {b : Dct Int Bool} {w : Txt} (hw : Wd w) {Q : PySem.W.Tup Int → Prop} {E : Ex → Prop} (q : Q ⟨mk ss sz w⟩) : Sieve_marks_W (⟨sz, ⟨ss⟩, b⟩, w, ()) Q E := by
  have hl := S.len
  refine Cl.here (check_ok hw ⟨sl (by show ss.length ≤ _; omega), fun st => (sm w st sz, (1 : Int)), fun st hst => Cl.here (word_sum_ok hw (S.ok st hst) rfl), ?_⟩)
  show Q ⟨srt ((Dct.mk (dmerge [] (ss.map fun st => (sm w st sz, (1 : Int))))).kvs.map (·.1))⟩
  rw [keys_map]; exact q
theorem marksP_ok {ss : List Int} {sz : Int} (S : Ss ss sz) {b : Dct Int Bool} {w : Txt} (hw : Wd w) {Q : PySem.W.Tup Int → Prop} {E : Ex → Prop} (q : Q ⟨mk ss sz w⟩) : Sieve_marksP_W (⟨sz, ⟨ss⟩, b⟩, w, ()) Q E := marks_ok (b := b) S hw q
def BM (l : List Int) : List (Int × Bool) := (uq l).map fun x => (x, true)
theorem BM_keys (l : List Int) : (BM l).map (·.1) = uq l := by
  unfold BM
  rw [List.map_map]
  exact List.map_id' _
theorem BM_len (l : List Int) : (BM l).length ≤ l.length := by
  unfold BM
  rw [List.length_map]; exact uq_len l
theorem BM_has (l : List Int) (x : Int) : dhas (BM l) x = decide (x ∈ l) := by
  rw [Bool.eq_iff_iff, dhas_iff, BM_keys, uq_mem, decide_eq_true_iff]
theorem put_same {x : Int} : ∀ {m : List (Int × Bool)}, (∀ p ∈ m, p.2 = true) → x ∈ m.map (·.1) → dput m x true = m := fun {m} h hx => by
  unfold dput
  rw [if_pos (any_key.mpr hx)]
  conv => rhs; rw [← List.map_id m]
  refine List.map_congr_left fun p hp => ?_
  by_cases e : p.1 = x
  · rw [if_pos e]
    have := h p hp
    obtain ⟨a, b⟩ := p
    simp only at this e ⊢
    rw [this]; rfl
  · rw [if_neg e]; rfl
theorem BM_put (l : List Int) (x : Int) : dput (BM l) x true = BM (l ++ [x]) := by
  by_cases h : x ∈ uq l
  · rw [put_same (fun p hp => by
      obtain ⟨y, _, rfl⟩ := List.mem_map.mp hp
      rfl) (by rw [BM_keys]; exact h)]
    unfold BM
    rw [uq_snoc, if_pos h]
  · rw [dput_new (by rw [BM_keys]; exact h)]
    unfold BM
    rw [uq_snoc, if_neg h, List.map_append]
    rfl
abbrev SV (ss : List Int) (sz : Int) (l : List Int) : SieveV := ⟨sz, ⟨ss⟩, ⟨BM l⟩⟩
theorem put_ok {ss : List Int} {sz : Int} (S : Ss ss sz) {l : List Int} (hl : l.length ≤ 100000) {w : Txt} (hw : Wd w) {Q : Unit × SieveV → Prop} {E : Ex → Prop} (q : Q ((), SV ss sz (l ++ mk ss sz w))) : Sieve_putP_W (SV ss sz l, w, ()) Q E := by
  have hs := S.len
  have hm := mk_len ss sz w
  refine Cl.here (marksP_ok S hw ?_)
  show forW (mk ss sz w) (SV ss sz l) _ _
  refine forL (fun a z => z = SV ss sz (l ++ a)) (by rw [List.append_nil]) (fun a x r z e hz k hk => ?_) fun z hz => by subst hz; exact q
  subst hz
  have ha : a.length ≤ 100 := by
    have := congrArg List.length e
    rw [List.length_append] at this; omega
  have bl := BM_len (l ++ a)
  rw [List.length_append] at bl
  refine ⟨sl2 (by show (BM (l ++ a)).length < _; omega), hk _ ?_⟩
  show (⟨sz, ⟨ss⟩, ⟨dput (BM (l ++ a)) x true⟩⟩ : SieveV) = _
  rw [BM_put, List.append_assoc]
theorem minL_ok {ss : List Int} {sz : Int} (S : Ss ss sz) : 1 ≤ minL ss := by
  have := minL_mem S.ne
  exact (S.ok _ this).s1
theorem init_cond {ss : List Int} {sz : Int} (S : Ss ss sz) : ((!(decide ((1 : Int) ≤ sz) && decide (sz ≤ (2000 : Int)))) || ((decide ((ss.length : Int) = (0 : Int))) || (decide ((minL ss) < (1 : Int))))) = false := by
  have h1 := minL_ok S
  have hz := S.ok _ (minL_mem S.ne)
  have z1 := hz.z1; have z2 := hz.z2
  have hl := List.length_pos_iff.mpr S.ne
  rw [decide_eq_true (show (1 : Int) ≤ sz by omega), decide_eq_true (show sz ≤ 2000 by omega), decide_eq_false (show ¬ (ss.length : Int) = 0 by omega), decide_eq_false (show ¬ minL ss < 1 by omega)]
  rfl
theorem initP_ok {ss : List Int} {sz : Int} (S : Ss ss sz) {Q : SieveV → Prop} {E : Ex → Prop} (q : Q (SV ss sz [])) : Sieve_initP_W (sz, ss, ()) Q E :=
  ⟨fun _ => rfl, fun _ => ⟨fun _ => ⟨S.ne, rfl⟩, rfl⟩, no_ (init_cond S) q⟩
theorem init_ok {ss : List Int} {sz : Int} (S : Ss ss sz) {Q : SieveV → Prop} {E : Ex → Prop} (q : Q (SV ss sz [])) : Sieve_init_W (sz, ss, ()) Q E := initP_ok S q
theorem init2_ok {ss : List Int} {sz : Int} (S : Ss ss sz) {Q : SieveV → Prop} {E : Ex → Prop} (q : Q (SV ss sz [])) : Sieve_init_2_W (sz, ⟨ss⟩, ()) Q E :=
  ⟨fun _ => rfl, fun _ => ⟨fun _ => ⟨S.ne, rfl⟩, rfl⟩, no_ (init_cond S) q⟩
theorem init2P_ok {ss : List Int} {sz : Int} (S : Ss ss sz) {Q : SieveV → Prop} {E : Ex → Prop} (q : Q (SV ss sz [])) : Sieve_init_2P_W (sz, ⟨ss⟩, ()) Q E := init2_ok S q
def fm (ss : List Int) (sz : Int) (ws : List Txt) : List Int := ws.flatMap (mk ss sz)
theorem fm_len {ss : List Int} {sz : Int} (S : Ss ss sz) : ∀ ws : List Txt, (fm ss sz ws).length ≤ ws.length * 10
  | [] => Nat.le_refl _
  | w :: ws => by
    have := fm_len S ws
    have h1 := mk_len ss sz w; have h2 := S.len
    show (mk ss sz w ++ fm ss sz ws).length ≤ _
    rw [List.length_append, List.length_cons]; omega
theorem sieve_of_ok {ss : List Int} {sz : Int} (S : Ss ss sz) {ws : List Txt} (hn : ws.length ≤ 1000) (hw : ∀ w ∈ ws, Wd w) {Q : SieveV → Prop} {E : Ex → Prop} (q : Q (SV ss sz (fm ss sz ws))) : sieve_of_W (ws, sz, ss, ()) Q E := by
  refine Cl.here (initP_ok S ?_)
  refine forL (xs := ws) (fun a z => z = SV ss sz (fm ss sz a)) rfl (fun a x r z e hz k hk => ?_) fun z hz => by subst hz; exact q
  subst hz
  have e : ws = a ++ x :: r := e
  have ha : a.length ≤ 1000 := by rw [e, List.length_append] at hn; omega
  have hf := fm_len S a
  refine Cl.here (put_ok S (by omega) (hw x (by rw [e]; simp)) (hk _ ?_))
  show SV ss sz (fm ss sz a ++ mk ss sz x) = _
  unfold fm
  rw [List.flatMap_append, List.flatMap_cons, List.flatMap_nil, List.append_nil]
end K16
set_option maxHeartbeats 400000
namespace K16
open PySem L2 Sp
open PySem.W (DatumOrd)
def mh (ss : List Int) (sz : Int) (l : List Int) (w : Txt) : Bool := (mk ss sz w).all fun x => decide (x ∈ l)
theorem has_fun (l : List Int) : (fun x => dhas (BM l) x) = fun x => decide (x ∈ l) := funext fun x => BM_has l x
theorem may_ok {ss : List Int} {sz : Int} (S : Ss ss sz) {l : List Int} {w : Txt} (hw : Wd w) {Q : Bool → Prop} {E : Ex → Prop} (q : Q (mh ss sz l w)) : Sieve_may_have_W (SV ss sz l, w, ()) Q E := by
  refine ⟨mk ss sz w, Cl.here (marks_ok S hw rfl), fun x => dhas (BM l) x, fun _ _ => rfl, ?_⟩
  rw [has_fun]; exact q
theorem wrongly_ok {ss : List Int} {sz : Int} (S : Ss ss sz) {l : List Int} {ws os : List Txt} (hn : os.length ≤ 1000) (hw : ∀ w ∈ os, Wd w) {Q : PySem.W.Tup Txt → Prop} {E : Ex → Prop} (q : Q ⟨(srt (uq os)).filter fun x => niL x ws && mh ss sz l x⟩) : Sieve_wrongly_W (SV ss sz l, ws, os, ()) Q E := by
  refine ⟨sl (by show os.length ≤ _; omega), fun _ _ => rfl, ?_⟩
  show Sieve_wrongly_w1 (SV ss sz l) ws (srt ((Dct.mk (dmerge [] (os.map fun (x : Txt) => (x, (1 : Int))))).kvs.map (·.1))) Q
  rw [one_keys]
  have hu := uq_len os
  refine ⟨sl (by rw [srt_len]; omega), fun x => niL x ws && mh ss sz l x, fun x => x, fun x hx => ⟨fun h => Cl.here (may_ok S (hw x ((uq_mem os x).mp (srt_mem.mp hx))) ?_), fun h => ?_⟩, fun _ _ _ => rfl, ?_⟩
  · show mh ss sz l x = (niL x ws && mh ss sz l x)
    rw [h]; rfl
  · show false = (niL x ws && mh ss sz l x)
    rw [h]; rfl
  · rw [List.map_id']; exact q
theorem joined_ok {ss : List Int} {sz : Int} (S : Ss ss sz) {a b : List Int} (ha : a.length ≤ 100000) (hb : b.length ≤ 100000) {Q : SieveV → Prop} {E : Ex → Prop} (q : Q ⟨sz, ⟨ss⟩, ⟨dmerge [] (BM a ++ BM b)⟩⟩) : Sieve_joined_W (SV ss sz a, SV ss sz b, ()) Q E := by
  have la := BM_len a; have lb := BM_len b
  refine ne_no rfl (Cl.here (init2_ok S ⟨sl ?_, q⟩))
  show (BM a).length + (BM b).length ≤ _
  omega
theorem joined_keys (a b : List Int) : (dmerge [] (BM a ++ BM b)).map (·.1) = uq (uq a ++ uq b) := by
  have e : BM a ++ BM b = (uq a ++ uq b).map fun x => (x, true) := by unfold BM; rw [List.map_append]
  rw [e]
  exact keys_uq (fun _ => true) (uq a ++ uq b)
theorem half_ok {ss : List Int} {sz : Int} (S : Ss ss sz) (h2 : 2 ≤ sz) : Ss ss (sz / 2) := ⟨S.ne, S.len, fun st h => by
  have := S.ok st h
  exact ⟨this.s1, this.s2, by omega, by have := this.z2; omega⟩, trivial⟩
theorem folded_ok {ss : List Int} {sz : Int} (S : Ss ss sz) (h2 : 2 ≤ sz) (he : sz % 2 = 0) {l : List Int} (hl : l.length ≤ 100000) {Q : SieveV → Prop} {E : Ex → Prop} (q : Q (SV ss (sz / 2) ((uq l).map fun x => x % (sz / 2)))) : Sieve_folded_W (SV ss sz l, ()) Q E := by
  have H := half_ok S h2
  refine ⟨by decide, no_ ?_ ⟨⟨by decide, by decide⟩, Cl.here (init2P_ok H ?_)⟩⟩
  · show decide (sz % 2 = 1) = false
    exact decide_eq_false (by omega)
  · show forW ((BM l).map (·.1)) (SV ss (sz / 2) []) _ _
    rw [BM_keys]
    have hu := uq_len l
    refine forL (fun a z => z = SV ss (sz / 2) (a.map fun x => x % (sz / 2))) rfl (fun a x r z e hz k hk => ?_) fun z hz => by subst hz; exact q
    subst hz
    have ha : a.length ≤ 100000 := by
      have := congrArg List.length e
      rw [List.length_append] at this; omega
    have bl := BM_len (a.map fun x => x % (sz / 2))
    rw [List.length_map] at bl
    refine ⟨by show 0 < sz / 2; omega, sl2 (by show (BM (a.map fun x => x % (sz / 2))).length < _; omega), hk _ ?_⟩
    show (⟨sz / 2, ⟨ss⟩, ⟨dput (BM (a.map fun x => x % (sz / 2))) (x % (sz / 2)) true⟩⟩ : SieveV) = _
    rw [BM_put, List.map_append]
    rfl
abbrev TV (ss : List Int) (sz : Int) (m : List (Int × Int)) : TalliesV := ⟨SV ss sz [], ⟨m⟩⟩
structure TF (m : List (Int × Int)) (f : Int → Int) (b : Nat) : Prop where
  val : ∀ x, (dval m x).getD 0 = f x
  nd : (m.map (·.1)).Nodup
  ln : m.length ≤ b
theorem TF.put {m : List (Int × Int)} {f : Int → Int} {b : Nat} (h : TF m f b) (x v : Int) : TF (dput m x v) (fun y => if x = y then v else f y) (b + 1) := by
  refine ⟨fun y => ?_, ?_, ?_⟩
  · rw [dval_put]
    by_cases e : x = y
    · rw [if_pos e, if_pos e]; rfl
    · rw [if_neg e, if_neg e]; exact h.val y
  · rw [dput_keys]
    split
    · exact h.nd
    · rename_i hx
      rw [List.nodup_append]
      refine ⟨h.nd, by simp, fun a ha c hc e => ?_⟩
      rw [List.mem_singleton.mp hc] at e
      subst e
      exact hx ha
  · have := dput_len (d := m) (k := x) (v := v)
    have := h.ln
    omega
theorem TF.congr {m : List (Int × Int)} {f g : Int → Int} {b c : Nat} (h : TF m f b) (e : ∀ x, f x = g x) (hb : b ≤ c) : TF m g c := ⟨fun x => by rw [h.val, e], h.nd, Nat.le_trans h.ln hb⟩
theorem tput_ok {ss : List Int} {sz : Int} (S : Ss ss sz) {m : List (Int × Int)} {f : Int → Int} {b : Nat} (h : TF m f b) (hb : b ≤ 100000) {w : Txt} (hw : Wd w) {Q : Unit × TalliesV → Prop} {E : Ex → Prop} (q : ∀ m', TF m' (fun x => f x + ((mk ss sz w).count x : Int)) (b + 10) → Q ((), TV ss sz m')) : Tallies_putP_W (TV ss sz m, w, ()) Q E := by
  have hs := S.len
  have hm := mk_len ss sz w
  refine Cl.here (marks_ok S hw ?_)
  show forW (mk ss sz w) (TV ss sz m) _ _
  refine forL (fun a z => ∃ m', z = TV ss sz m' ∧ TF m' (fun x => f x + (a.count x : Int)) (b + a.length)) ⟨m, rfl, h.congr (fun x => by simp) (Nat.le_refl _)⟩ (fun a x r z e hz k hk => ?_) fun z hz => ?_
  · obtain ⟨m', rfl, T⟩ := hz
    have ha : a.length ≤ 10 := by
      have := congrArg List.length e
      rw [List.length_append] at this; omega
    have hl := T.ln
    refine ⟨sl2 (by show m'.length < _; omega), hk _ ⟨_, rfl, ?_⟩⟩
    show TF (dput m' x (((dval m' x).getD 0) + 1)) _ _
    refine (T.put x _).congr (fun y => ?_) (by rw [List.length_append]; exact Nat.le_refl _)
    rw [T.val, List.count_append]
    by_cases e2 : x = y
    · subst e2
      rw [if_pos rfl]
      simp
      omega
    · rw [if_neg e2]
      have : [x].count y = 0 := by simp [e2]
      rw [this]; simp
  · obtain ⟨m', rfl, T⟩ := hz
    exact q m' (T.congr (fun _ => rfl) (by omega))
theorem most_ok {ss : List Int} {sz : Int} (S : Ss ss sz) {m : List (Int × Int)} {f : Int → Int} {b : Nat} (h : TF m f b) {w : Txt} (hw : Wd w) {Q : Int → Prop} {E : Ex → Prop} (q : Q (minL ((mk ss sz w).map f))) : Tallies_at_mostP_W (TV ss sz m, w, ()) Q E := by
  have hs := S.len
  have hm := mk_len ss sz w
  refine Cl.here (marks_ok S hw ⟨sl (by show (mk ss sz w).length ≤ _; omega), fun _ _ => rfl, ?_, ?_⟩)
  · intro e
    exact mk_ne S w (List.map_eq_nil_iff.mp e)
  · show Q (minL ((mk ss sz w).map fun x => (dval m x).getD 0))
    have : (fun x => (dval m x).getD 0) = f := funext h.val
    rw [this]; exact q
theorem min_ge {l : List Int} (hl : l ≠ []) {f : Int → Int} {n : Int} (h : ∀ x ∈ l, n ≤ f x) : n ≤ minL (l.map f) := by
  have := minL_mem (xs := l.map f) (by simpa using hl)
  obtain ⟨x, hx, e⟩ := List.mem_map.mp this
  rw [← e]; exact h x hx
theorem ttake_ok {ss : List Int} {sz : Int} (S : Ss ss sz) {m : List (Int × Int)} {f : Int → Int} {b : Nat} (h : TF m f b) (hb : b ≤ 100000) {w : Txt} (hw : Wd w) (h1 : ∀ x ∈ mk ss sz w, 1 ≤ f x) {Q : Unit × TalliesV → Prop} {E : Ex → Prop} (q : ∀ m', TF m' (fun x => f x - ((mk ss sz w).count x : Int)) (b + 10) → Q ((), TV ss sz m')) : Tallies_takeP_W (TV ss sz m, w, ()) Q E := by
  have hs := S.len
  have hm := mk_len ss sz w
  have hmin := min_ge (mk_ne S w) h1
  refine Cl.here (most_ok S h hw (no_ (decide_eq_false (by omega)) (Cl.here (marks_ok S hw ?_))))
  show forW (mk ss sz w) (TV ss sz m) _ _
  refine forL (fun a z => ∃ m', z = TV ss sz m' ∧ TF m' (fun x => f x - (a.count x : Int)) (b + a.length)) ⟨m, rfl, h.congr (fun x => by simp) (Nat.le_refl _)⟩ (fun a x r z e hz k hk => ?_) fun z hz => ?_
  · obtain ⟨m', rfl, T⟩ := hz
    have ha : a.length ≤ 10 := by
      have := congrArg List.length e
      rw [List.length_append] at this; omega
    have hl := T.ln
    have nd := mk_nodup ss sz w
    rw [e, List.nodup_append] at nd
    have hx : x ∉ a := fun hx => nd.2.2 x hx x (by simp) rfl
    have c0 : a.count x = 0 := List.count_eq_zero.mpr hx
    have fx := h1 x (by rw [e]; simp)
    have vx := T.val x
    rw [c0] at vx
    obtain ⟨v, ev⟩ : ∃ v, dval m' x = some v := by
      cases e2 : dval m' x with
      | none => rw [e2] at vx; have vx : (0 : Int) = f x - ((0 : Nat) : Int) := vx; omega
      | some v => exact ⟨v, rfl⟩
    have hd : dhas m' x = true := by unfold dhas; rw [ev]; rfl
    have hg : dgt m' x = f x := by
      unfold dgt
      rw [ev] at vx ⊢
      have vx : v = f x - ((0 : Nat) : Int) := vx
      show v = f x
      omega
    refine ⟨hd, sl2 (by show m'.length < _; omega), hk _ ⟨_, rfl, ?_⟩⟩
    show TF (dput m' x (dgt m' x - 1)) _ _
    refine (T.put x _).congr (fun y => ?_) (by rw [List.length_append]; exact Nat.le_refl _)
    rw [hg, List.count_append]
    by_cases e2 : x = y
    · subst e2
      rw [if_pos rfl, c0]
      simp
    · rw [if_neg e2]
      have : [x].count y = 0 := by simp [e2]
      rw [this]; simp
  · obtain ⟨m', rfl, T⟩ := hz
    exact q m' (T.congr (fun _ => rfl) (by omega))
theorem ttake_no {ss : List Int} {sz : Int} (S : Ss ss sz) {m : List (Int × Int)} {f : Int → Int} {b : Nat} (h : TF m f b) {w : Txt} (hw : Wd w) (h0 : minL ((mk ss sz w).map f) = 0) : Tallies_takeP_W (TV ss sz m, w, ()) (fun _ => False) (fun x => x = .BadCount) :=
  Cl.here (most_ok S h hw (yes_ (decide_eq_true h0) rfl))
end K16
set_option maxHeartbeats 400000
namespace K16
open PySem L2 Sp
open PySem.W (DatumOrd)
def cm (ss : List Int) (sz : Int) (ws : List Txt) (x : Int) : Int := ((fm ss sz ws).count x : Int)
theorem fm_app (ss : List Int) (sz : Int) (a b : List Txt) : fm ss sz (a ++ b) = fm ss sz a ++ fm ss sz b := by unfold fm; rw [List.flatMap_append]
theorem fm_cons (ss : List Int) (sz : Int) (w : Txt) (b : List Txt) : fm ss sz (w :: b) = mk ss sz w ++ fm ss sz b := by unfold fm; rw [List.flatMap_cons]
theorem fm_one (ss : List Int) (sz : Int) (w : Txt) : fm ss sz [w] = mk ss sz w := by rw [fm_cons]; show _ ++ [] = _; rw [List.append_nil]
theorem cnt_eq {α : Type} [DecidableEq α] (l : List α) (x : α) : cnt l x = l.count x := by
  show l.countP (fun y => decide (y = x)) = l.countP (fun y => y == x)
  congr 1
theorem ind_sum (y : Int) : ∀ K : List Int, K.Nodup → y ∈ K → (K.map fun x => if y = x then (1 : Int) else 0).sum = 1
  | [], _, h => by cases h
  | k :: K, nd, h => by
    obtain ⟨n1, n2⟩ := List.nodup_cons.mp nd
    rw [List.map_cons, List.sum_cons]
    by_cases e : y = k
    · subst e
      rw [if_pos rfl]
      have z : (K.map fun x => if y = x then (1 : Int) else 0) = K.map fun _ => (0 : Int) := List.map_congr_left fun x hx => if_neg fun e => n1 (by rw [e]; exact hx)
      have z2 : ∀ K : List Int, (K.map fun _ => (0 : Int)).sum = 0 := fun K => by
        induction K with
        | nil => rfl
        | cons a K ih => rw [List.map_cons, List.sum_cons, ih]; rfl
      rw [z, z2]; rfl
    · rw [if_neg e]
      rcases List.mem_cons.mp h with h | h
      · exact absurd h e
      · rw [ind_sum y K n2 h]; rfl
theorem sum_add (f g : Int → Int) : ∀ K : List Int, (K.map fun x => f x + g x).sum = (K.map f).sum + (K.map g).sum
  | [] => rfl
  | k :: K => by
    rw [List.map_cons, List.map_cons, List.map_cons, List.sum_cons, List.sum_cons, List.sum_cons, sum_add f g K]; omega
theorem count_sum {K : List Int} (nd : K.Nodup) : ∀ l : List Int, (∀ x ∈ l, x ∈ K) → (K.map fun x => ((l.count x : Nat) : Int)).sum = (l.length : Int)
  | [], _ => by
    have z2 : ∀ K : List Int, (K.map fun x => (((([] : List Int).count x) : Nat) : Int)).sum = 0 := fun K => by
      induction K with
      | nil => rfl
      | cons a K ih => rw [List.map_cons, List.sum_cons, ih]; rfl
    exact z2 K
  | y :: l, h => by
    have ih := count_sum nd l fun x hx => h x (List.mem_cons_of_mem _ hx)
    have hy := ind_sum y K nd (h y List.mem_cons_self)
    have e : (K.map fun x => (((y :: l).count x : Nat) : Int)) = K.map fun x => ((l.count x : Nat) : Int) + (if y = x then (1 : Int) else 0) := List.map_congr_left fun x _ => by
      rw [List.count_cons]
      by_cases z : y = x
      · subst z; simp
      · rw [if_neg z, if_neg (by simpa using z)]; simp
    rw [e, sum_add, ih, hy, List.length_cons]
    omega
theorem dval_of {m : List (Int × Int)} (nd : (m.map (·.1)).Nodup) {p : Int × Int} (hp : p ∈ m) : dval m p.1 = some p.2 := by
  induction m with
  | nil => cases hp
  | cons a m ih =>
    rw [List.map_cons] at nd
    obtain ⟨n1, n2⟩ := List.nodup_cons.mp nd
    rw [dval_cons]
    rcases List.mem_cons.mp hp with rfl | hp
    · rw [if_pos rfl]
    · rw [if_neg fun e => n1 (List.mem_map.mpr ⟨p, hp, e.symm⟩)]
      exact ih n2 hp
theorem tsum {ss : List Int} {sz : Int} {m : List (Int × Int)} {ws : List Txt} {b : Nat} (T : TF m (cm ss sz ws) b) : (m.map fun q => q.2).sum = ((fm ss sz ws).length : Int) := by
  have e : (m.map fun q => q.2) = (m.map (·.1)).map fun x => (((fm ss sz ws).count x : Nat) : Int) := by
    rw [List.map_map]
    refine List.map_congr_left fun p hp => ?_
    have h1 := dval_of T.nd hp
    have h2 := T.val p.1
    rw [h1] at h2
    exact h2
  rw [e]
  refine count_sum T.nd _ fun x hx => ?_
  have h2 := T.val x
  have h3 := List.count_pos_iff.mpr hx
  cases h : dval m x with
  | none =>
    rw [h] at h2
    have h2 : (0 : Int) = (((fm ss sz ws).count x : Nat) : Int) := h2
    omega
  | some v => exact List.mem_map.mpr ⟨(x, v), dval_mem h, rfl⟩
theorem count_ge (ss : List Int) (sz : Int) (w : Txt) {y : Int} (hy : y ∈ mk ss sz w) : ∀ ws : List Txt, (cnt ws w : Int) ≤ cm ss sz ws y
  | [] => Int.le_refl _
  | v :: ws => by
    have ih := count_ge ss sz w hy ws
    have ec : cnt (v :: ws) w = cnt ws w + if decide (v = w) = true then 1 else 0 := List.countP_cons
    unfold cm at ih ⊢
    rw [fm_cons, List.count_append, ec]
    by_cases e : v = w
    · subst e
      have := List.count_pos_iff.mpr hy
      rw [if_pos (decide_eq_true rfl)]
      omega
    · rw [if_neg (by rw [decide_eq_true_iff]; exact e)]
      omega
def MD (ss : List Int) (sz : Int) (md : Dct Txt (List Int)) (ws : List Txt) : Prop := ∀ w ∈ ws, dhas md.kvs w = true ∧ dgt md.kvs w = mk ss sz w
theorem w9_ok {ss : List Int} {sz : Int} (S : Ss ss sz) {m : List (Int × Int)} {ws : List Txt} {b : Nat} (T : TF m (cm ss sz ws) b) {x : Txt} (hx : Wd x) {k : TalliesV → Prop} {Q : Bool → Prop} (hk : k (TV ss sz m)) : law_rest3_w9 x k (TV ss sz m) (minL ((mk ss sz x).map (cm ss sz ws))) Q := by
  refine ⟨fun _ => ⟨fun h => (by cases h), fun _ => hk⟩, fun h => ?_⟩
  exact Cl.exc (ttake_no S T hx (of_decide_eq_true h)) ⟨tx "count", rfl, ne_no rfl hk⟩
theorem w13_ok {ss : List Int} {sz : Int} (S : Ss ss sz) {m : List (Int × Int)} {there ws os : List Txt} {b : Nat} (T : TF m (cm ss sz there) b) (hn : there.length ≤ 1000) (hws : ∀ w ∈ ws, Wd w) (hos : ∀ w ∈ os, Wd w) (hl : ws.length ≤ 1000) (ho : os.length ≤ 1000) {md : Dct Txt (List Int)} (hm : MD ss sz md (os ++ ws)) {sv : SieveV} {Q : Bool → Prop} (q : law_rest3_w12 sz ss ws os sv Q) : law_rest3_w13 sz ss ws os md sv (TV ss sz m) there (fm ss sz there) Q := by
  have hs := S.len
  refine ⟨sl (by omega), ?_⟩
  refine forL (fun _ z => z = TV ss sz m) rfl (fun a x r z e hz k hk => ?_) fun z hz => by subst hz; exact q
  subst hz
  have hx : x ∈ os ++ ws := by rw [e]; simp
  have wx : Wd x := by
    rcases List.mem_append.mp hx with h | h
    · exact hos x h
    · exact hws x h
  obtain ⟨d1, d2⟩ := hm x hx
  have hml := mk_len ss sz x
  have key : ∀ d : List Int, d = mk ss sz x → (d.length ≤ sizeLine ∧ (∀ x46 ∈ d, (cnt (fm ss sz there) x46 : Int) = (cnt (fm ss sz there) x46 : Int)) ∧ ((d.map (fun (x46 : Int) => (cnt (fm ss sz there) x46 : Int))) ≠ [] ∧ (law_rest3_w10 there x k (TV ss sz m) (minL (d.map (fun (x46 : Int) => (cnt (fm ss sz there) x46 : Int)))) Q))) := fun d ed => by
    subst ed
    have ef : (fun (x46 : Int) => (cnt (fm ss sz there) x46 : Int)) = cm ss sz there := funext fun y => by unfold cm; rw [cnt_eq]
    rw [ef]
    refine ⟨sl (by omega), fun _ _ => rfl, fun e => mk_ne S x (List.map_eq_nil_iff.mp e), ?_⟩
    have ge := min_ge (n := (cnt there x : Int)) (mk_ne S x) fun y hy => count_ge ss sz x hy there
    refine Cl.here (most_ok S T wx ⟨fun _ => rfl, no_ ?_ (w9_ok S T wx (hk _ rfl))⟩)
    show (decide (minL ((mk ss sz x).map (cm ss sz there)) ≠ minL ((mk ss sz x).map (cm ss sz there))) || decide (minL ((mk ss sz x).map (cm ss sz there)) < (cnt there x : Int))) = false
    rw [decide_eq_false (fun h => h rfl), decide_eq_false (by omega)]
    rfl
  exact ⟨d1, key _ d2⟩
theorem w15_ok {ss : List Int} {sz : Int} (S : Ss ss sz) {m : List (Int × Int)} {there ws os : List Txt} {b : Nat} (T : TF m (cm ss sz there) b) (hn : there.length ≤ 1000) (ht : ∀ w ∈ there, w ∈ ws) (hws : ∀ w ∈ ws, Wd w) (hos : ∀ w ∈ os, Wd w) (hl : ws.length ≤ 1000) (ho : os.length ≤ 1000) {md : Dct Txt (List Int)} (hm : MD ss sz md (os ++ ws)) {sv : SieveV} {Q : Bool → Prop} (q : law_rest3_w12 sz ss ws os sv Q) : law_rest3_w15 sz ss ws os md sv (TV ss sz m) there Q := by
  have e : there.map (fun (x36 : Txt) => (dgt md.kvs x36)) = there.map (mk ss sz) := List.map_congr_left fun w hw => (hm w (List.mem_append.mpr (.inr (ht w hw)))).2
  have e2 : (there.map (mk ss sz)).flatten = fm ss sz there := (List.flatMap_def ..).symm
  have hf := fm_len S there
  refine ⟨sl (by omega), fun w hw => ⟨(hm w (List.mem_append.mpr (.inr (ht w hw)))).1, rfl⟩, ?_⟩
  rw [e]
  refine Cl.here (flat_raw (rows := there.map (mk ss sz)) (by rw [e2]; omega) ?_)
  rw [e2]
  exact Cl.here (ne_no (tsum T) (w13_ok S T hn hws hos hl ho hm q))
theorem rest3_ok {ss : List Int} {sz : Int} (S : Ss ss sz) {ws os : List Txt} (hws : ∀ w ∈ ws, Wd w) (hos : ∀ w ∈ os, Wd w) (hl : ws.length ≤ 100) (ho : os.length ≤ 100) {md : Dct Txt (List Int)} (hm : MD ss sz md (os ++ ws)) {sv : SieveV} {Q : Bool → Prop} {E : Ex → Prop} (q : law_rest3_w12 sz ss ws os sv Q) : law_rest3_W (sz, ss, ws, os, md, sv, ()) Q E := by
  refine Cl.here (Cl.here (init_ok S ?_))
  show law_rest3_w16 sz ss ws os md sv (TV ss sz []) [] Q
  refine forL (fun l z => ∃ m there, z = (TV ss sz m, there) ∧ TF m (cm ss sz there) (20 * l.length) ∧ there.length ≤ l.length ∧ ∀ w ∈ there, w ∈ ws) ⟨[], [], rfl, ⟨fun _ => rfl, by simp, by simp⟩, Nat.le_refl _, by simp⟩ (fun l x r z e hz k hk => ?_) fun z hz => ?_
  · obtain ⟨m, there, rfl, T, h1, h2⟩ := hz
    have hll : l.length ≤ 100 := by rw [e, List.length_append] at hl; omega
    have hxw : x ∈ ws := by rw [e]; simp
    refine Cl.here (tput_ok S T (by omega) (hws x hxw) fun m' T' => ?_)
    have T2 : TF m' (cm ss sz (there ++ [x])) (20 * l.length + 10) := T'.congr (fun y => by
      unfold cm
      rw [fm_app, fm_one, List.count_append]
      exact (Int.natCast_add _ _).symm) (Nat.le_refl _)
    have h3 : ∀ w ∈ there ++ [x], w ∈ ws := fun w hw => by
      rcases List.mem_append.mp hw with h | h
      · exact h2 w h
      · rw [List.mem_singleton.mp h]; exact hxw
    have ll : (there ++ [x]).length ≤ (l ++ [x]).length := by rw [List.length_append, List.length_append]; omega
    refine ⟨sl2 (by show there.length < _; omega), ClD.roll (by decide) (by decide) fun r r0 r1 => ifJ.mk (fun _ => ?_) fun _ => ?_⟩
    · obtain ⟨t0, rest, er⟩ : ∃ t0 rest, there ++ [x] = t0 :: rest := by
        cases there with
        | nil => exact ⟨x, [], rfl⟩
        | cons a b => exact ⟨a, b ++ [x], rfl⟩
      show law_rest3_w3 there (TV ss sz m') x _
      unfold law_rest3_w3 law_rest3_w2
      rw [er] at T2 h3 ll ⊢
      have et : ixD (t0 :: rest) (0 : Int) = t0 := rfl
      have ec : cutD (t0 :: rest) (some (1 : Int)) none = rest := cut_from (t0 :: rest) 1
      rw [et, ec]
      refine ⟨by rw [List.length_cons]; unfold inR; omega, Cl.here (ttake_ok S T2 (by omega) (hws t0 (h3 t0 (by simp))) (fun y hy => ?_) fun m'' T'' => ?_)⟩
      · unfold cm
        rw [fm_cons, List.count_append]
        have := List.count_pos_iff.mpr hy
        omega
      · refine hk _ ⟨m'', rest, rfl, T''.congr (fun y => ?_) (by rw [List.length_append, List.length_singleton]; omega), by rw [List.length_cons] at ll; omega, fun w hw => h3 w (by simp [hw])⟩
        unfold cm
        rw [fm_cons, List.count_append]
        omega
    · exact hk _ ⟨m', there ++ [x], rfl, T2.congr (fun _ => rfl) (by rw [List.length_append, List.length_singleton]; omega), ll, h3⟩
  · obtain ⟨m, there, rfl, T, h1, h2⟩ := hz
    exact w15_ok S T (by omega) h2 hws hos (by omega) (by omega) hm q
end K16
set_option maxHeartbeats 400000
namespace K16
open PySem L2 Sp
open PySem.W (DatumOrd)
def fsN (st : Int) (n : Nat) (w : Txt) : Nat := (sm w st (n : Int)).toNat
def sp (st : Int) (n : Nat) (w : Txt) (k : Nat) : Nat := (fsN st n w + k) % n
theorem fs_eq {st : Int} {n : Nat} (h : Sz st (n : Int)) (w : Txt) : (fsN st n w : Int) = sm w st (n : Int) := by
  have := (sm_lt h w).1
  unfold fsN
  omega
theorem sp_eq {st : Int} {n : Nat} (h : Sz st (n : Int)) (w : Txt) (k : Nat) : (sm w st (n : Int) + (k : Int)) % (n : Int) = (sp st n w k : Int) := by
  rw [← fs_eq h w]
  unfold sp
  rw [← Int.natCast_add]
  exact (Int.natCast_emod _ _).symm
theorem sp_lt {st : Int} {n : Nat} (h : Sz st (n : Int)) (w : Txt) (k : Nat) : sp st n w k < n := Nat.mod_lt _ (by have := h.z1; omega)
def cb (rows : List (Option Txt)) (w : Txt) (p : Nat) : Bool := (ixD rows (p : Int)).isNone || decide (ixD rows (p : Int) = some w)
theorem cb_in (rows : List (Option Txt)) (w : Txt) (p : Nat) : inL (ixD rows (p : Int)) [(none : Option Txt), (some w)] = cb rows w p := by
  unfold cb inL
  cases ixD rows (p : Int) with
  | none => simp
  | some v => simp
abbrev TB (n : Nat) (st : Int) (rows : List (Option Txt)) : TableV := ⟨(n : Int), st, rows⟩
theorem place_ok {st : Int} {n : Nat} (h : Sz st (n : Int)) {rows : List (Option Txt)} (hn : rows.length = n) {w : Txt} (hw : Wd w) {Q : Int → Prop} {E : Ex → Prop} (e : (∀ k < n, cb rows w (sp st n w k) = false) → E .BadCount) (q : ∀ k0, k0 < n → cb rows w (sp st n w k0) = true → (∀ k < k0, cb rows w (sp st n w k) = false) → Q (sp st n w k0 : Int)) : Table_placeP_W (TB n st rows, w, ()) Q E := by
  have hz := h.z2; have h1 := h.z1
  refine Cl.here (check_ok hw (Cl.here (word_sum_ok hw h ?_)))
  refine ⟨⟨by show -(2 ^ 62) ≤ (n : Int); omega, by show (n : Int) < 2 ^ 62; omega⟩, ?_⟩
  show forW ((List.range ((n : Int)).toNat).map fun i : Nat => (i : Int)) () _ _
  rw [tn]
  refine forR (f := fun i : Nat => (i : Int)) (fun i _ => ∀ k < i, cb rows w (sp st n w k) = false) (fun k hk => absurd hk (by omega)) (fun i z hi hp k hk => ?_) fun z hp => e hp
  have hs := sp_lt h w i
  have ir : inR rows.length ((sp st n w i : Nat) : Int) := by rw [hn]; unfold inR; omega
  show 0 < (n : Int) ∧ Table_placeP_w1 (TB n st rows) w k ((sm w st (n : Int) + (i : Int)) % (n : Int)) Q
  rw [sp_eq h]
  refine ⟨by omega, ir, fun _ => ⟨ir, rfl⟩, fun hc => q i hi hc hp, fun hc => hk () fun j hj => ?_⟩
  by_cases ej : j = i
  · subst ej; exact hc
  · exact hp j (by omega)
theorem put_tab {st : Int} {n : Nat} (h : Sz st (n : Int)) {rows : List (Option Txt)} (hn : rows.length = n) {w : Txt} (hw : Wd w) {Q : Bool × TableV → Prop} {E : Ex → Prop} (e : (∀ k < n, cb rows w (sp st n w k) = false) → E .BadCount) (q : ∀ k0, k0 < n → cb rows w (sp st n w k0) = true → (∀ k < k0, cb rows w (sp st n w k) = false) → Q ((ixD rows (sp st n w k0 : Int)).isNone, TB n st (rows.set (sp st n w k0) (some w)))) : Table_putP_W (TB n st rows, w, ()) Q E := by
  refine Cl.here (place_ok h hn hw e fun k0 h0 hc hp => ?_)
  have hs := sp_lt h w k0
  have ir : inR rows.length ((sp st n w k0 : Nat) : Int) := by rw [hn]; unfold inR; omega
  refine ⟨ir, ir, ?_⟩
  show Q ((ixD rows (sp st n w k0 : Int)).isNone, ⟨(n : Int), st, List.set rows (plc rows.length (sp st n w k0 : Int)) (some w)⟩)
  rw [plc_nat]
  exact q k0 h0 hc hp
structure V (st : Int) (n : Nat) (ws : List Txt) (rows : List (Option Txt)) : Prop where
  len : rows.length = n
  inn : ∀ p w, p < n → ixD rows (p : Int) = some w → w ∈ ws
  uni : ∀ p q w, p < n → q < n → ixD rows (p : Int) = some w → ixD rows (q : Int) = some w → p = q
  path : ∀ p w, p < n → ixD rows (p : Int) = some w → ∃ k < n, sp st n w k = p ∧ ∀ j < k, ixD rows (sp st n w j : Int) ≠ none
theorem sp_inj {st : Int} {n : Nat} (h : Sz st (n : Int)) (w : Txt) {j k : Nat} (hj : j < n) (hk : k < n) (e : sp st n w j = sp st n w k) : j = k := by
  unfold sp at e
  have f1 : fsN st n w < n := by
    have := (sm_lt h w).2
    have := fs_eq h w
    omega
  have m : ∀ i, i < n → (fsN st n w + i) % n = if fsN st n w + i < n then fsN st n w + i else fsN st n w + i - n := fun i hi => by
    split
    · exact Nat.mod_eq_of_lt (by omega)
    · rw [Nat.mod_eq_sub_mod (by omega)]
      exact Nat.mod_eq_of_lt (by omega)
  rw [m j hj, m k hk] at e
  split at e <;> split at e <;> omega
theorem set_at {rows : List (Option Txt)} {p q : Nat} (hq : q < rows.length) (v : Option Txt) : ixD (rows.set p v) (q : Int) = if p = q then v else ixD rows (q : Int) := by
  rw [ixD_nat (by rw [List.length_set]; exact hq), ixD_nat hq, List.getElem_set]
theorem V.set {st : Int} {n : Nat} (h : Sz st (n : Int)) {ws : List Txt} {rows : List (Option Txt)} (I : V st n ws rows) {w : Txt} (hw : w ∈ ws) {k0 : Nat} (h0 : k0 < n) (hc : cb rows w (sp st n w k0) = true) (hp : ∀ k < k0, cb rows w (sp st n w k) = false) : V st n ws (rows.set (sp st n w k0) (some w)) := by
  have hs := sp_lt h w k0
  have hn := I.len
  have at_ : ∀ q, q < n → ixD (rows.set (sp st n w k0) (some w)) (q : Int) = if sp st n w k0 = q then some w else ixD rows (q : Int) := fun q hq => set_at (by rw [hn]; exact hq) _
  have full : ∀ j < k0, ixD rows (sp st n w j : Int) ≠ none := fun j hj e => by
    have := hp j hj
    unfold cb at this
    rw [e] at this
    simp at this
  -- no other spot holds w
  have alone : ∀ p, p < n → ixD rows (p : Int) = some w → p = sp st n w k0 := fun p hpn hpw => by
    obtain ⟨k, hk, ek, hf⟩ := I.path p w hpn hpw
    by_cases c1 : k < k0
    · have := hp k c1
      unfold cb at this
      rw [ek, hpw] at this
      simp at this
    · by_cases c2 : k = k0
      · rw [← c2, ek]
      · have f := hf k0 (by omega)
        unfold cb at hc
        have hc2 : ixD rows (sp st n w k0 : Int) = some w := by
          cases e : ixD rows (sp st n w k0 : Int) with
          | none => exact absurd e f
          | some v => rw [e] at hc; simpa using hc
        exact I.uni p _ w hpn hs hpw hc2
  refine ⟨by rw [List.length_set]; exact hn, fun p v hpn hv => ?_, fun p q v hpn hqn hv1 hv2 => ?_, fun p v hpn hv => ?_⟩
  · rw [at_ p hpn] at hv
    split at hv
    · injection hv with hv; subst hv; exact hw
    · exact I.inn p v hpn hv
  · rw [at_ p hpn] at hv1
    rw [at_ q hqn] at hv2
    split at hv1 <;> split at hv2
    · rename_i a b; rw [← a, ← b]
    · rename_i a b
      injection hv1 with hv1; subst hv1
      rw [alone q hqn hv2]; exact a.symm
    · rename_i a b
      injection hv2 with hv2; subst hv2
      rw [alone p hpn hv1]; exact b
    · exact I.uni p q v hpn hqn hv1 hv2
  · have keep : ∀ x, x < n → ixD rows (x : Int) ≠ none → ixD (rows.set (sp st n w k0) (some w)) (x : Int) ≠ none := fun x hx hne => by
      rw [at_ x hx]
      split
      · simp
      · exact hne
    rw [at_ p hpn] at hv
    split at hv
    · rename_i a
      injection hv with hv; subst hv
      exact ⟨k0, h0, a, fun j hj => keep _ (sp_lt h w j) (full j hj)⟩
    · obtain ⟨k, hk, ek, hf⟩ := I.path p v hpn hv
      exact ⟨k, hk, ek, fun j hj => keep _ (sp_lt h v j) (hf j hj)⟩
theorem V.find {st : Int} {n : Nat} (h : Sz st (n : Int)) {ws : List Txt} {rows : List (Option Txt)} (I : V st n ws rows) {w : Txt} {p : Nat} (hpn : p < n) (hpw : ixD rows (p : Int) = some w) {k0 : Nat} (h0 : k0 < n) (hc : cb rows w (sp st n w k0) = true) (hp : ∀ k < k0, cb rows w (sp st n w k) = false) : sp st n w k0 = p := by
  obtain ⟨k, hk, ek, hf⟩ := I.path p w hpn hpw
  by_cases c1 : k < k0
  · have := hp k c1
    unfold cb at this
    rw [ek, hpw] at this
    simp at this
  · by_cases c2 : k = k0
    · rw [← c2, ek]
    · have f := hf k0 (by omega)
      unfold cb at hc
      have hc2 : ixD rows (sp st n w k0 : Int) = some w := by
        cases e : ixD rows (sp st n w k0 : Int) with
        | none => exact absurd e f
        | some v => rw [e] at hc; simpa using hc
      exact I.uni _ p w (sp_lt h w k0) hpn hc2 hpw
def isin (n : Nat) (rows : List (Option Txt)) (w : Txt) : Prop := ∃ p, p < n ∧ ixD rows (p : Int) = some w
theorem has_yes {st : Int} {n : Nat} (h : Sz st (n : Int)) {ws : List Txt} {rows : List (Option Txt)} (I : V st n ws rows) {w : Txt} (hw : Wd w) (hi : isin n rows w) {Q : Bool → Prop} {E : Ex → Prop} (q : Q true) : Table_hasP_W (TB n st rows, w, ()) Q E := by
  obtain ⟨p, hpn, hpw⟩ := hi
  refine Cl.here (place_ok h I.len hw (fun ha => ?_) fun k0 h0 hc hp => ?_)
  · exfalso
    obtain ⟨k, hk, ek, _⟩ := I.path p w hpn hpw
    have := ha k hk
    unfold cb at this
    rw [ek, hpw] at this
    simp at this
  · have e := I.find h hpn hpw h0 hc hp
    rw [e]
    refine ⟨by show inR rows.length (p : Int); rw [I.len]; unfold inR; omega, ?_⟩
    show Q (decide (ixD rows (p : Int) = some w))
    rw [hpw, decide_eq_true rfl]; exact q
theorem has_no {st : Int} {n : Nat} (h : Sz st (n : Int)) {rows : List (Option Txt)} (hl : rows.length = n) {w : Txt} (hw : Wd w) (hi : ¬ isin n rows w) {Q : Bool → Prop} {E : Ex → Prop} (q : Q false) : Table_hasP_W (TB n st rows, w, ()) Q E := by
  refine Cl.here (place_ok h hl hw (fun ha => ⟨rfl, q⟩) fun k0 h0 hc hp => ?_)
  have hs := sp_lt h w k0
  refine ⟨by show inR rows.length _; rw [hl]; unfold inR; omega, ?_⟩
  show Q (decide (ixD rows (sp st n w k0 : Int) = some w))
  rw [decide_eq_false fun e => hi ⟨_, hs, e⟩]
  exact q
end K16
set_option maxHeartbeats 400000
namespace K16
open PySem L2 Sp
open PySem.W (DatumOrd)
def dsp (st : Int) (n : Nat) (p : Nat) (o : Option Txt) : Nat := match o with
  | none => 0
  | some w => (p + (n - fsN st n w)) % n
def DS (st : Int) (n : Nat) (rows : List (Option Txt)) : Nat := (rows.mapIdx (dsp st n)).sum
theorem sum_set : ∀ (l : List Nat) (i v : Nat) (h : i < l.length), (l.set i v).sum + l[i] = l.sum + v
  | [], i, v, h => by cases h
  | a :: l, 0, v, h => by simp; omega
  | a :: l, i + 1, v, h => by
    have := sum_set l i v (by simpa using h)
    simp only [List.set_cons_succ, List.sum_cons, List.getElem_cons_succ]
    omega
theorem DS_set {st : Int} {n : Nat} {rows : List (Option Txt)} {p : Nat} (hp : p < rows.length) (v : Option Txt) : DS st n (rows.set p v) + dsp st n p (ixD rows (p : Int)) = DS st n rows + dsp st n p v := by
  have e : (rows.set p v).mapIdx (dsp st n) = (rows.mapIdx (dsp st n)).set p (dsp st n p v) := by
    apply List.ext_getElem
    · simp
    · intro i h1 h2
      rw [List.getElem_mapIdx, List.getElem_set, List.getElem_set, List.getElem_mapIdx]
      by_cases z : p = i
      · subst z; rw [if_pos rfl, if_pos rfl]
      · rw [if_neg z, if_neg z]
  have := sum_set (rows.mapIdx (dsp st n)) p (dsp st n p v) (by rw [List.length_mapIdx]; exact hp)
  rw [List.getElem_mapIdx] at this
  unfold DS
  rw [e, ixD_nat hp]
  exact this
theorem fs_lt {st : Int} {n : Nat} (h : Sz st (n : Int)) (w : Txt) : fsN st n w < n := by
  have := (sm_lt h w).2
  have := fs_eq h w
  omega
theorem dsp_sp {st : Int} {n : Nat} (h : Sz st (n : Int)) (w : Txt) {k : Nat} (hk : k < n) : dsp st n (sp st n w k) (some w) = k := by
  have f := fs_lt h w
  show (sp st n w k + (n - fsN st n w)) % n = k
  unfold sp
  by_cases c : fsN st n w + k < n
  · rw [Nat.mod_eq_of_lt c, show fsN st n w + k + (n - fsN st n w) = k + n by omega, Nat.add_mod_right]
    exact Nat.mod_eq_of_lt hk
  · have e : (fsN st n w + k) % n = fsN st n w + k - n := by
      rw [Nat.mod_eq_sub_mod (by omega)]
      exact Nat.mod_eq_of_lt (by omega)
    rw [e, show fsN st n w + k - n + (n - fsN st n w) = k by omega]
    exact Nat.mod_eq_of_lt hk
def bk (n : Nat) (rows : List (Option Txt)) (p : Nat) : Nat := ((List.range n).takeWhile fun i => (ixD rows (((p + (n - 1 - i)) % n : Nat) : Int)).isSome).length
theorem take_range (q : Nat → Bool) : ∀ (n m : Nat), m < n → (∀ i < m, q i = true) → q m = false → ((List.range n).takeWhile q).length = m := by
  intro n
  induction n generalizing q with
  | zero => intro m h; omega
  | succ n ih =>
    intro m hm h1 h2
    rw [List.range_succ_eq_map, List.takeWhile_cons]
    match m with
    | 0 => rw [if_neg (by rw [h2]; decide)]; rfl
    | m + 1 =>
      rw [if_pos (h1 0 (by omega)), List.takeWhile_map, List.length_cons, List.length_map]
      have := ih (fun i => q (i + 1)) m (by omega) (fun i hi => h1 (i + 1) (by omega)) h2
      rw [show (q ∘ Nat.succ) = fun i => q (i + 1) from rfl, this]
structure LL (st : Int) (n : Nat) (ws : List Txt) (rows : List (Option Txt)) (g d : Nat) : Prop where
  len : rows.length = n
  inn : ∀ p w, p < n → ixD rows (p : Int) = some w → w ∈ ws
  uni : ∀ p q w, p < n → q < n → ixD rows (p : Int) = some w → ixD rows (q : Int) = some w → p = q
  gn : g < n
  hg : ixD rows (g : Int) = none
  d1 : 1 ≤ d
  dn : d ≤ n
  fil : ∀ i, 1 ≤ i → i < d → ixD rows (((g + i) % n : Nat) : Int) ≠ none
  path : ∀ p w, p < n → ixD rows (p : Int) = some w → ∃ k < n, sp st n w k = p ∧ ∀ j < k, ixD rows (sp st n w j : Int) = none → sp st n w j = g ∧ ∀ i, 1 ≤ i → i < d → (g + i) % n ≠ p
theorem LL.bk {st : Int} {n : Nat} {ws : List Txt} {rows : List (Option Txt)} {g d : Nat} (I : LL st n ws rows g d) : bk n rows ((g + d) % n) = d - 1 := by
  have h1 := I.d1; have h2 := I.dn; have h3 := I.gn
  have pos : ∀ i, i < d → ((g + d) % n + (n - 1 - i)) % n = (g + (d - 1 - i)) % n := fun i hi => by
    rw [Nat.mod_add_mod, show g + d + (n - 1 - i) = g + (d - 1 - i) + n by omega, Nat.add_mod_right]
  refine take_range _ n (d - 1) (by omega) (fun i hi => ?_) ?_
  · rw [pos i (by omega)]
    have := I.fil (d - 1 - i) (by omega) (by omega)
    exact Option.isSome_iff_ne_none.mpr this
  · rw [pos (d - 1) (by omega), show d - 1 - (d - 1) = 0 by omega, Nat.add_zero, Nat.mod_eq_of_lt h3, I.hg]
    rfl
theorem sp_add (st : Int) (n : Nat) (w : Txt) (j i : Nat) : sp st n w (j + i) = (sp st n w j + i) % n := by
  unfold sp
  rw [Nat.mod_add_mod, Nat.add_assoc]
theorem LL.done {st : Int} {n : Nat} (h : Sz st (n : Int)) {ws : List Txt} {rows : List (Option Txt)} {g d : Nat} (I : LL st n ws rows g d) (he : ixD rows (((g + d) % n : Nat) : Int) = none) : V st n ws rows := by
  refine ⟨I.len, I.inn, I.uni, fun p w hpn hpw => ?_⟩
  obtain ⟨k, hk, ek, hf⟩ := I.path p w hpn hpw
  refine ⟨k, hk, ek, fun j hj hnone => ?_⟩
  obtain ⟨eg, hun⟩ := hf j hj hnone
  have h1 := I.d1; have h2 := I.dn
  -- p stands t = k - j behind g
  have ep : p = (g + (k - j)) % n := by
    rw [← ek, ← eg, ← sp_add, show j + (k - j) = k by omega]
  by_cases c : k - j < d
  · exact hun (k - j) (by omega) c ep.symm
  · by_cases c2 : k - j = d
    · rw [c2] at ep
      rw [ep] at hpw
      rw [he] at hpw
      cases hpw
    · have eh : sp st n w (j + d) = (g + d) % n := by rw [sp_add, eg]
      have h3 := hf (j + d) (by omega) (by rw [eh]; exact he)
      have := sp_inj h w (show j + d < n by omega) (show j < n by omega) (by rw [h3.1, eg])
      omega
theorem LL.step {st : Int} {n : Nat} (h : Sz st (n : Int)) {ws : List Txt} {rows : List (Option Txt)} {g d : Nat} (I : LL st n ws rows g d) {w : Txt} (hw : ixD rows (((g + d) % n : Nat) : Int) = some w) :
    (∃ k < n, sp st n w k = (g + d) % n ∧ cb (rows.set ((g + d) % n) none) w (sp st n w k) = true) ∧ ∀ k0, k0 < n → cb (rows.set ((g + d) % n) none) w (sp st n w k0) = true → (∀ k < k0, cb (rows.set ((g + d) % n) none) w (sp st n w k) = false) →
      ∃ g' d', LL st n ws ((rows.set ((g + d) % n) none).set (sp st n w k0) (some w)) g' d' ∧ ((g + d) % n + 1) % n = (g' + d') % n ∧ DS st n ((rows.set ((g + d) % n) none).set (sp st n w k0) (some w)) * (n + 1) + (n - d') < DS st n rows * (n + 1) + (n - d) := by
  have h1 := I.d1; have h2 := I.dn; have h3 := I.gn
  have hn := I.len
  have hH : (g + d) % n < n := Nat.mod_lt _ (by omega)
  generalize eH : (g + d) % n = H at *
  have gH : g ≠ H := fun e => by rw [← e, I.hg] at hw; cases hw
  have dlt : d < n := by
    rcases Nat.lt_or_ge d n with c | c
    · exact c
    · have : d = n := by omega
      rw [this, Nat.add_mod_right, Nat.mod_eq_of_lt h3] at eH
      exact absurd eH gH
  have at1 : ∀ q, q < n → ixD (rows.set H none) (q : Int) = if H = q then none else ixD rows (q : Int) := fun q hq => set_at (by rw [hn]; exact hq) _
  obtain ⟨k, hk, ek, hf⟩ := I.path H w hH hw
  have ck : cb (rows.set H none) w (sp st n w k) = true := by
    unfold cb
    rw [ek, at1 H hH, if_pos rfl]; rfl
  refine ⟨⟨k, hk, ek, ck⟩, fun k0 h0 hc hp => ?_⟩
  have hs := sp_lt h w k0
  have k0k : k0 ≤ k := by
    rcases Nat.lt_or_ge k k0 with c | c
    · have := hp k c
      rw [ck] at this; cases this
    · exact c
  have at2 : ∀ q, q < n → ixD ((rows.set H none).set (sp st n w k0) (some w)) (q : Int) = if sp st n w k0 = q then some w else if H = q then none else ixD rows (q : Int) := fun q hq => by
    rw [set_at (by rw [List.length_set, hn]; exact hq), at1 q hq]
  have len2 : ((rows.set H none).set (sp st n w k0) (some w)).length = n := by rw [List.length_set, List.length_set, hn]
  -- the sums
  have s1 := DS_set (st := st) (n := n) (rows := rows) (p := H) (by omega) none
  have s2 := DS_set (st := st) (n := n) (rows := rows.set H none) (p := sp st n w k0) (by rw [List.length_set]; omega) (some w)
  rw [hw] at s1
  have dk : dsp st n H (some w) = k := by rw [← ek]; exact dsp_sp h w hk
  have dk0 := dsp_sp h w h0
  have dn0 : dsp st n H none = 0 := rfl
  rw [dk, dn0] at s1
  rw [dk0] at s2
  by_cases ce : k0 = k
  · -- back where it was
    have eS : sp st n w k0 = H := by rw [ce, ek]
    rw [eS] at at2 len2 s2 ⊢
    have at3 : ∀ q, q < n → ixD ((rows.set H none).set H (some w)) (q : Int) = ixD rows (q : Int) := fun q hq => by
      rw [at2 q hq]
      by_cases z : H = q
      · rw [if_pos z, ← z, hw]
      · rw [if_neg z, if_neg z]
    rw [at1 H hH, if_pos rfl, dn0] at s2
    refine ⟨g, d + 1, ⟨len2, fun p v hpn hv => I.inn p v hpn (by rw [← at3 p hpn]; exact hv), fun p q v hpn hqn hv1 hv2 => I.uni p q v hpn hqn (by rw [← at3 p hpn]; exact hv1) (by rw [← at3 q hqn]; exact hv2), h3, by rw [at3 g h3]; exact I.hg, by omega, by omega, fun i i1 i2 => ?_, fun p v hpn hv => ?_⟩, ?_, ?_⟩
    · rw [at3 _ (Nat.mod_lt _ (by omega))]
      by_cases z : i = d
      · rw [z, eH, hw]; simp
      · exact I.fil i i1 (by omega)
    · rw [at3 p hpn] at hv
      by_cases z : p = H
      · subst z
        have ev : v = w := by rw [hw] at hv; injection hv with hv; exact hv.symm
        subst ev
        refine ⟨k, hk, ek, fun j hj hnone => ?_⟩
        rw [at3 _ (sp_lt h v j)] at hnone
        have := hp j (by omega)
        unfold cb at this
        rw [at1 _ (sp_lt h v j)] at this
        split at this
        · simp at this
        · rw [hnone] at this; simp at this
      · obtain ⟨k2, hk2, ek2, hf2⟩ := I.path p v hpn hv
        refine ⟨k2, hk2, ek2, fun j hj hnone => ?_⟩
        rw [at3 _ (sp_lt h v j)] at hnone
        obtain ⟨a, b⟩ := hf2 j hj hnone
        refine ⟨a, fun i i1 i2 e => ?_⟩
        by_cases y : i = d
        · rw [y, eH] at e; exact z e.symm
        · exact b i i1 (by omega) e
    · rw [← eH, Nat.mod_add_mod, Nat.add_assoc]
    · have : DS st n ((rows.set H none).set H (some w)) = DS st n rows := by omega
      rw [this]; omega
  · -- into the hole
    have k0lt : k0 < k := by omega
    have sH : sp st n w k0 ≠ H := fun e => by
      have := sp_inj h w h0 hk (by rw [e, ek])
      omega
    have eg : sp st n w k0 = g := by
      have hc2 := hc
      unfold cb at hc2
      rw [at1 _ hs, if_neg (Ne.symm sH)] at hc2
      cases e : ixD rows (sp st n w k0 : Int) with
      | none => exact (hf k0 k0lt e).1
      | some v =>
        rw [e] at hc2
        have : v = w := by simpa using hc2
        rw [this] at e
        exact absurd (I.uni _ H w hs hH e hw) sH
    rw [eg] at at2 len2 s2 ⊢
    rw [at1 g h3, if_neg (Ne.symm gH), I.hg] at s2
    have dg0 : dsp st n g none = 0 := rfl
    rw [dg0] at s2
    refine ⟨H, 1, ⟨len2, fun p v hpn hv => ?_, fun p q v hpn hqn hv1 hv2 => ?_, hH, by rw [at2 H hH, if_neg gH, if_pos rfl], Nat.le_refl _, by omega, fun i i1 i2 => by omega, fun p v hpn hv => ?_⟩, rfl, ?_⟩
    · rw [at2 p hpn] at hv
      split at hv
      · injection hv with hv; subst hv; exact I.inn H w hH hw
      · split at hv
        · cases hv
        · exact I.inn p v hpn hv
    · rw [at2 p hpn] at hv1
      rw [at2 q hqn] at hv2
      split at hv1
      · rename_i a
        injection hv1 with hv1; subst hv1
        split at hv2
        · rename_i b; rw [← a, ← b]
        · split at hv2
          · cases hv2
          · rename_i b c
            exact absurd (I.uni H q w hH hqn hw hv2) c
      · split at hv1
        · cases hv1
        · rename_i a b
          split at hv2
          · injection hv2 with hv2; subst hv2
            exact absurd (I.uni H p w hH hpn hw hv1) b
          · split at hv2
            · cases hv2
            · exact I.uni p q v hpn hqn hv1 hv2
    · rw [at2 p hpn] at hv
      split at hv
      · rename_i a
        injection hv with hv; subst hv
        refine ⟨k0, h0, by rw [eg, a], fun j hj hnone => ?_⟩
        exfalso
        have nH : H ≠ sp st n w j := fun e => by
          have := sp_inj h w (show j < n by omega) hk (by rw [← e, ek])
          omega
        have ng : g ≠ sp st n w j := fun e => by
          have := sp_inj h w (show j < n by omega) h0 (by rw [← e, eg])
          omega
        rw [at2 _ (sp_lt h w j), if_neg ng, if_neg nH] at hnone
        have := hp j hj
        unfold cb at this
        rw [at1 _ (sp_lt h w j), if_neg nH, hnone] at this
        simp at this
      · split at hv
        · cases hv
        · obtain ⟨k2, hk2, ek2, hf2⟩ := I.path p v hpn hv
          refine ⟨k2, hk2, ek2, fun j hj hnone => ?_⟩
          rw [at2 _ (sp_lt h v j)] at hnone
          split at hnone
          · cases hnone
          · rename_i a
            split at hnone
            · rename_i b
              exact ⟨b.symm, fun i i1 i2 => by omega⟩
            · exact absurd (hf2 j hj hnone).1.symm a
    · have e : DS st n ((rows.set H none).set g (some w)) + k = DS st n rows + k0 := by omega
      have e2 : DS st n ((rows.set H none).set g (some w)) + 1 ≤ DS st n rows := by omega
      have := Nat.mul_le_mul_right (n + 1) e2
      rw [Nat.add_mul, Nat.one_mul] at this
      omega
end K16
set_option maxHeartbeats 400000
namespace K16
open PySem L2 Sp
open PySem.W (DatumOrd)
theorem cont_step {n : Nat} {rows : List (Option Txt)} (hn : rows.length = n) {H s : Nat} (hH : H < n) (hs : s < n) {w : Txt} (hw : ixD rows (H : Int) = some w) (hc : cb (rows.set H none) w s = true) (v : Txt) : isin n ((rows.set H none).set s (some w)) v ↔ isin n rows v := by
  have at1 : ∀ q, q < n → ixD (rows.set H none) (q : Int) = if H = q then none else ixD rows (q : Int) := fun q hq => set_at (by rw [hn]; exact hq) _
  have at2 : ∀ q, q < n → ixD ((rows.set H none).set s (some w)) (q : Int) = if s = q then some w else if H = q then none else ixD rows (q : Int) := fun q hq => by
    rw [set_at (by rw [List.length_set, hn]; exact hq), at1 q hq]
  constructor
  · rintro ⟨q, hq, e⟩
    rw [at2 q hq] at e
    split at e
    · injection e with e; subst e; exact ⟨H, hH, hw⟩
    · split at e
      · cases e
      · exact ⟨q, hq, e⟩
  · rintro ⟨q, hq, e⟩
    by_cases c : H = q
    · subst c
      rw [hw] at e
      injection e with e
      subst e
      exact ⟨s, hs, by rw [at2 s hs, if_pos rfl]⟩
    · by_cases c2 : s = q
      · subst c2
        unfold cb at hc
        rw [at1 _ hs, if_neg c, e] at hc
        have : v = w := by simpa using hc
        subst this
        exact ⟨s, hs, by rw [at2 s hs, if_pos rfl]⟩
      · exact ⟨q, hq, by rw [at2 q hq, if_neg c2, if_neg c]; exact e⟩
theorem next_eq (n p : Nat) : ((p : Int) + 1) % (n : Int) = (((p + 1) % n : Nat) : Int) := by
  rw [show (p : Int) + 1 = ((p + 1 : Nat) : Int) from rfl]
  exact (Int.natCast_emod _ _).symm
theorem start_LL {st : Int} {n : Nat} {ws : List Txt} {rows : List (Option Txt)} (I : V st n ws rows) {p : Nat} (hp : p < n) (h : Sz st (n : Int)) : LL st n ws (rows.set p none) p 1 := by
  have hn := I.len
  have at1 : ∀ q, q < n → ixD (rows.set p none) (q : Int) = if p = q then none else ixD rows (q : Int) := fun q hq => set_at (by rw [hn]; exact hq) _
  refine ⟨by rw [List.length_set]; exact hn, fun q v hq hv => ?_, fun a b v ha hb h1 h2 => ?_, hp, by rw [at1 p hp, if_pos rfl], Nat.le_refl _, by omega, fun i i1 i2 => by omega, fun q v hq hv => ?_⟩
  · rw [at1 q hq] at hv
    split at hv
    · cases hv
    · exact I.inn q v hq hv
  · rw [at1 a ha] at h1
    rw [at1 b hb] at h2
    split at h1
    · cases h1
    · split at h2
      · cases h2
      · exact I.uni a b v ha hb h1 h2
  · rw [at1 q hq] at hv
    split at hv
    · cases hv
    · obtain ⟨k, hk, ek, hf⟩ := I.path q v hq hv
      refine ⟨k, hk, ek, fun j hj hnone => ?_⟩
      rw [at1 _ (sp_lt h v j)] at hnone
      split at hnone
      · rename_i a; exact ⟨a.symm, fun i i1 i2 => by omega⟩
      · exact absurd hnone (hf j hj)
theorem take_ok {st : Int} {n : Nat} (h : Sz st (n : Int)) {ws : List Txt} {rows : List (Option Txt)} (I : V st n ws rows) (hws : ∀ v ∈ ws, Wd v) {gone : Txt} (hg : Wd gone) (hi : isin n rows gone) {Q : Unit × TableV → Prop} {E : Ex → Prop} (q : ∀ rows', V st n ws rows' → (∀ v, isin n rows' v ↔ isin n rows v ∧ v ≠ gone) → Q ((), TB n st rows')) : Table_takeP_W (TB n st rows, some gone, ()) Q E := by
  have z1 := h.z1
  refine ⟨rfl, Cl.here (has_yes h I hg hi (nt_ rfl ⟨rfl, ?_⟩))⟩
  obtain ⟨p, hpn, hpw⟩ := hi
  refine Cl.here (place_ok h I.len hg (fun ha => ?_) fun k0 h0 hc hp => ?_)
  · exfalso
    obtain ⟨k, hk, ek, _⟩ := I.path p gone hpn hpw
    have := ha k hk
    unfold cb at this
    rw [ek, hpw] at this
    simp at this
  have ep := I.find h hpn hpw h0 hc hp
  rw [ep]
  have hn := I.len
  refine ⟨by show inR rows.length (p : Int); rw [hn]; unfold inR; omega, by show 0 < (n : Int); omega, ?_⟩
  show Table_takeP_w6 (TB n st rows) (List.set rows (plc rows.length (p : Int)) (none : Option Txt)) (((p : Int) + 1) % (n : Int)) Q
  rw [plc_nat, next_eq]
  have at1 : ∀ q, q < n → ixD (rows.set p none) (q : Int) = if p = q then none else ixD rows (q : Int) := fun q hq => set_at (by rw [hn]; exact hq) _
  have c0 : ∀ v, isin n (rows.set p none) v ↔ isin n rows v ∧ v ≠ gone := fun v => by
    constructor
    · rintro ⟨q, hq, e⟩
      rw [at1 q hq] at e
      split at e
      · cases e
      · rename_i a
        exact ⟨⟨q, hq, e⟩, fun e2 => a (I.uni p q gone hpn hq hpw (by rw [← e2]; exact e))⟩
    · rintro ⟨⟨q, hq, e⟩, hne⟩
      refine ⟨q, hq, ?_⟩
      rw [at1 q hq, if_neg fun e2 => hne ?_]
      · exact e
      · rw [← e2, hpw] at e
        injection e with e
        exact e.symm
  refine ⟨fun z => ∃ rows2 g d, z = (TB n st rows2, (((g + d) % n : Nat) : Int)) ∧ LL st n ws rows2 g d ∧ ∀ v, isin n rows2 v ↔ isin n rows v ∧ v ≠ gone, fun z => DS st n z.1.rows * (n + 1) + (n - 1 - bk n z.1.rows z.2.toNat), ⟨rows.set p none, p, 1, rfl, start_LL I hpn h, c0⟩, fun z hz => ?_⟩
  obtain ⟨rows2, g, d, rfl, L, C⟩ := hz
  have hH : (g + d) % n < n := Nat.mod_lt _ (by omega)
  have ir : inR rows2.length (((g + d) % n : Nat) : Int) := by rw [L.len]; unfold inR; omega
  refine ⟨ir, fun hb => ?_, fun hb => ?_⟩
  · have hb : (ixD rows2 (((g + d) % n : Nat) : Int)).isSome = true := hb
    obtain ⟨w, hw⟩ := Option.isSome_iff_exists.mp hb
    obtain ⟨⟨k, hk, ek, ck⟩, stp⟩ := L.step h hw
    show Table_takeP_w4 _ (TB n st rows2) (((g + d) % n : Nat) : Int)
    unfold Table_takeP_w4 Table_takeP_w3 Table_takeP_w2
    rw [hw]
    have wd := hws w (L.inn _ w hH hw)
    refine ⟨ir, ir, rfl, ?_⟩
    show Cl (Table_putP_W (TB n st (List.set rows2 (plc rows2.length (((g + d) % n : Nat) : Int)) (none : Option Txt)), w, ())) _ NoE
    rw [plc_nat]
    refine Cl.here (put_tab h (by rw [List.length_set]; exact L.len) wd (fun ha => ?_) fun k0 h0 hc hp => ?_)
    · have := ha k hk
      rw [ck] at this; cases this
    · obtain ⟨g', d', L', en, mu⟩ := stp k0 h0 hc hp
      have cont := cont_step L.len hH (sp_lt h w k0) hw hc
      refine ⟨by show 0 < (n : Int); omega, ⟨_, g', d', ?_, L', fun v => (cont v).trans (C v)⟩, ?_⟩
      · show (_, ((((g + d) % n : Nat) : Int) + 1) % (n : Int)) = _
        rw [next_eq, en]
      · show DS st n ((rows2.set ((g + d) % n) none).set (sp st n w k0) (some w)) * (n + 1) + (n - 1 - bk n ((rows2.set ((g + d) % n) none).set (sp st n w k0) (some w)) (((((g + d) % n : Nat) : Int) + 1) % (n : Int)).toNat) < DS st n rows2 * (n + 1) + (n - 1 - bk n rows2 (((g + d) % n : Nat) : Int).toNat)
        rw [next_eq, Int.toNat_natCast, Int.toNat_natCast, en, L'.bk, L.bk]
        have a1 := L.d1; have a2 := L'.d1
        rw [show n - 1 - (d' - 1) = n - d' by omega, show n - 1 - (d - 1) = n - d by omega]
        exact mu
  · have hb : (ixD rows2 (((g + d) % n : Nat) : Int)).isSome = false := hb
    exact q rows2 (L.done h (by simpa using hb)) C
theorem take_no {st : Int} {n : Nat} (h : Sz st (n : Int)) {rows : List (Option Txt)} (hl : rows.length = n) {gone : Txt} (hg : Wd gone) (hi : ¬ isin n rows gone) : Table_takeP_W (TB n st rows, some gone, ()) (fun _ => False) (fun x => x = .BadCount) :=
  ⟨rfl, Cl.here (has_no h hl hg hi (yes_ rfl rfl))⟩
theorem looks_ok {st : Int} {n : Nat} (h : Sz st (n : Int)) {ws : List Txt} {rows : List (Option Txt)} (I : V st n ws rows) {w : Txt} (hw : Wd w) {p : Nat} (hpn : p < n) (hpw : ixD rows (p : Int) = some w) {Q : Int → Prop} {E : Ex → Prop} (q : Q ((((p : Int) - sm w st (n : Int)) % (n : Int)) + (1 : Int))) : Table_looksP_W (TB n st rows, w, ()) Q E := by
  have z1 := h.z1
  refine Cl.here (has_yes h I hw ⟨p, hpn, hpw⟩ (nt_ rfl (Cl.here (place_ok h I.len hw (fun ha => ?_) fun k0 h0 hc hp => ?_))))
  · exfalso
    obtain ⟨k, hk, ek, _⟩ := I.path p w hpn hpw
    have := ha k hk
    unfold cb at this
    rw [ek, hpw] at this
    simp at this
  · rw [I.find h hpn hpw h0 hc hp]
    exact Cl.here (word_sum_ok hw h ⟨by show 0 < (n : Int); omega, q⟩)
end K16
set_option maxHeartbeats 400000
namespace K16
open PySem L2 Sp
open PySem.W (DatumOrd)
theorem cases_ok {Q : Bool → Prop} {E : Ex → Prop} (q : Q true) : law_cases1_W () Q E := by
  have a1 : Sieve_init_W ((0 : Int), [(1 : Int)], ()) (fun _ => False) (fun x => x = .BadCount) := ⟨fun _ => rfl, fun h => absurd h (by decide), yes_ (by decide) rfl⟩
  have a2 : Sieve_init_W ((5 : Int), ([] : List Int), ()) (fun _ => False) (fun x => x = .BadCount) := ⟨fun _ => rfl, fun _ => ⟨fun h => absurd h (by decide), rfl⟩, yes_ (by decide) rfl⟩
  have a3 : Table_init_W ((0 : Int), (1 : Int), ()) (fun _ => False) (fun x => x = .BadCount) := ⟨fun _ => rfl, fun _ => rfl, yes_ (by decide) rfl⟩
  have a4 : word_sum_W ((tx "a"), (0 : Int), (5 : Int), ()) (fun _ => False) (fun x => x = .BadCount) := ⟨fun _ => rfl, yes_ (by decide) rfl⟩
  exact Cl.exc a1 ⟨tx "count", rfl, told_o rfl (Cl.exc a2 ⟨tx "count", rfl, told_o rfl (Cl.exc a3 ⟨tx "count", rfl, told_o rfl (Cl.exc a4 ⟨tx "count", rfl, ne_no rfl q⟩)⟩)⟩)⟩
theorem check_bad : check_word_W (tx "A", ()) (fun _ => False) (fun x => x = .BadWord) := ⟨sl (by decide), fun _ => rfl, fun _ => ⟨rfl, fun _ _ => rfl, rfl⟩, yes_ (by decide +kernel) rfl⟩
theorem put_bad (s : SieveV) : Sieve_put_W (s, tx "A", ()) (fun _ => False) (fun x => x = .BadWord) := Cl.exc (Cl.exc check_bad rfl) rfl
theorem keysI (ws : List Int) : (Dct.mk (dmerge [] (ws.map fun (x : Int) => (x, (1 : Int))))).kvs.map (·.1) = uq ws := keys_uq (fun _ => (1 : Int)) ws
theorem unlikeI {ws : List Int} (h : ws.length ≤ 100000) {Q : List Int → Prop} {E : Ex → Prop} (q : Q (srt (uq ws))) : law_unlike_W (ws, ()) Q E := by
  refine ⟨sl (by show ws.length ≤ _; omega), fun _ _ => rfl, ?_⟩
  show Q (srt ((Dct.mk (dmerge [] (ws.map fun (x : Int) => (x, (1 : Int))))).kvs.map (·.1)))
  rw [keysI]; exact q
def mt (sz : Int) (U : List Txt) (st : Int) : Int := (U.length : Int) - ((uq (U.map fun w => sm w st sz)).length : Int)
theorem s51 : Ss [1] 5 := ⟨by simp, by simp, fun st h => by
  rw [List.mem_singleton.mp h]
  exact ⟨by decide, by decide, by decide, by decide⟩, trivial⟩
theorem more_ok {ss : List Int} {sz : Int} (S : Ss ss sz) (hz : sz ≤ 900) : Ss ss (sz + 2) := ⟨S.ne, S.len, fun st h => by
  have := S.ok st h
  exact ⟨this.s1, this.s2, by have := this.z1; omega, by omega⟩, trivial⟩
theorem rest2_ok {ss : List Int} {sz : Int} (S : Ss ss sz) (hz : sz ≤ 900) {ws : List Txt} (hw : ∀ w ∈ ws, Wd w) (hn : ws.length ≤ 1000) {l : List Int} {Q : Bool → Prop} {E : Ex → Prop} (q : Q true) : law_rest2_W (sz, ss, ws, SV ss sz l, ()) Q E := by
  have hs := S.len
  have hu := uq_len ws
  have hU : ∀ w ∈ srt (uq ws), Wd w := fun w h => hw w ((uq_mem ws w).mp (srt_mem.mp h))
  have lU : (srt (uq ws)).length ≤ 1000 := by rw [srt_len]; omega
  have ne : ss.map (mt sz (srt (uq ws))) ≠ [] := fun e => S.ne (List.map_eq_nil_iff.mp e)
  have mem := minL_mem ne
  have il : inR ss.length (idx (ss.map (mt sz (srt (uq ws)))) (minL (ss.map (mt sz (srt (uq ws))))) : Int) := by
    have := List.idxOf_lt_length_of_mem mem
    rw [List.length_map] at this
    have e : (idx (ss.map (mt sz (srt (uq ws)))) (minL (ss.map (mt sz (srt (uq ws))))) : Nat) < ss.length := this
    unfold inR; omega
  refine Cl.here (unlike_raw (ws := ws) (Q := fun r5 => law_rest2_w7 sz ss ws (SV ss sz l) r5 Q E) (by omega) ?_)
  refine ⟨sl (by omega), mt sz (srt (uq ws)), fun st hst => ⟨sl (by omega), fun w => sm w st sz, fun w h => Cl.here (law_sum_ok (hU w h).abc (S.ok st hst) rfl), Cl.here (unlikeI (by rw [List.length_map]; omega) ?_)⟩, ?_⟩
  · show ((srt (uq ws)).length : Int) - ((srt (uq ((srt (uq ws)).map fun w => sm w st sz))).length : Int) = mt sz (srt (uq ws)) st
    rw [srt_len (uq ((srt (uq ws)).map fun w => sm w st sz))]
    rfl
  refine Cl.here ?_
  refine no_ (decide_eq_false (by have := List.length_pos_iff.mpr S.ne; show ¬ (ss.length : Int) = 0; omega)) ⟨sl (by show ws.length ≤ _; omega), fun _ _ => rfl, ?_⟩
  show best_step_w2 sz ss (srt ((Dct.mk (dmerge [] (ws.map fun (x : Txt) => (x, (1 : Int))))).kvs.map (·.1))) _
  rw [one_keys]
  refine ⟨sl (by omega), mt sz (srt (uq ws)), fun st hst => ⟨sl (by omega), fun w => (sm w st sz, (1 : Int)), fun w h => Cl.here (word_sum_ok (hU w h) (S.ok st hst) rfl), ?_⟩, ?_⟩
  · have e := congrArg List.length (keys_map (fun w => sm w st sz) (srt (uq ws)))
    rw [List.length_map] at e
    unfold mt
    rw [← e]
  refine ⟨ne, mem, il, ne, ?_⟩
  refine ⟨ne, mem, il, ne, ne_no rfl ?_⟩
  refine Cl.here (cases_ok (nt_ rfl ?_))
  refine Cl.here (init_ok s51 (Cl.exc (e := .BadCount) (show Sieve_folded_W (SV [1] 5 [], ()) (fun _ => False) (fun x => x = .BadCount) from ⟨by decide, yes_ (by decide) rfl⟩) ⟨tx "count", rfl, told_o rfl ?_⟩))
  refine Cl.here (init_ok (more_ok S hz) (Cl.exc (e := .BadCount) (show Sieve_joined_W (SV ss sz l, SV ss (sz + 2) [], ()) (fun _ => False) (fun x => x = .BadCount) from yes_ (decide_eq_true ?_) rfl) ⟨tx "count", rfl, told_o rfl ?_⟩))
  · intro e
    injection e with e1 e2
    have e1 : sz = sz + 2 := e1
    omega
  refine Cl.exc (e := .BadCount) (show best_step_W (ws, (5 : Int), ([] : List Int), ()) (fun _ => False) (fun x => x = .BadCount) from yes_ rfl rfl) ⟨tx "count", rfl, ne_no rfl ?_⟩
  exact Cl.exc (put_bad _) ⟨tx "word", rfl, ne_no rfl q⟩
end K16
set_option maxHeartbeats 400000
namespace K16
open PySem L2 Sp
open PySem.W (DatumOrd)
def spots (st : Int) (n : Nat) (w : Txt) : List Int := (List.range n).map fun k => (sp st n w k : Int)
def freeL (st : Int) (n : Nat) (rows : List (Option Txt)) (w : Txt) : List Int := (spots st n w).filter fun x24 => inL (ixD rows x24) [(none : Option Txt), (some w)]
theorem free_is (st : Int) (n : Nat) (rows : List (Option Txt)) (w : Txt) : freeL st n rows w = ((List.range n).filter fun k => cb rows w (sp st n w k)).map fun k => (sp st n w k : Int) := by
  unfold freeL spots
  rw [List.filter_map]
  congr 1
  refine List.filter_congr fun k _ => ?_
  exact cb_in rows w _
theorem free_nil {st : Int} {n : Nat} {rows : List (Option Txt)} {w : Txt} (h : ∀ k < n, cb rows w (sp st n w k) = false) : freeL st n rows w = [] := by
  rw [free_is, List.map_eq_nil_iff, List.filter_eq_nil_iff]
  intro k hk
  rw [h k (List.mem_range.mp hk)]; decide
theorem free_cons {st : Int} {n : Nat} {rows : List (Option Txt)} {w : Txt} {k0 : Nat} (h0 : k0 < n) (hc : cb rows w (sp st n w k0) = true) (hp : ∀ k < k0, cb rows w (sp st n w k) = false) : ∃ r, freeL st n rows w = (sp st n w k0 : Int) :: r := by
  have e : List.range n = List.range k0 ++ k0 :: (List.range (n - k0 - 1)).map fun i => k0 + 1 + i := by
    apply List.ext_getElem
    · simp; omega
    · intro i h1 h2
      rw [List.getElem_range]
      rcases Nat.lt_trichotomy i k0 with c | c | c
      · rw [List.getElem_append_left (by simpa using c), List.getElem_range]
      · subst c; rw [List.getElem_append_right (by simp)]; simp
      · rw [List.getElem_append_right (by simp; omega)]
        rw [List.getElem_cons]
        rw [dif_neg (by simp; omega)]
        simp
        omega
  refine ⟨(((List.range (n - k0 - 1)).map fun i => k0 + 1 + i).filter fun k => cb rows w (sp st n w k)).map fun k => (sp st n w k : Int), ?_⟩
  rw [free_is, e, List.filter_append, List.filter_cons, if_pos hc, List.map_append, List.map_cons]
  have : ((List.range k0).filter fun k => cb rows w (sp st n w k)) = [] := by
    rw [List.filter_eq_nil_iff]
    intro k hk
    rw [hp k (List.mem_range.mp hk)]; decide
  rw [this]
  rfl
theorem w8_ok {ss : List Int} {sz : Int} (S : Ss ss sz) {n : Nat} (h : Sz (ixD ss (0 : Int)) (n : Int)) {ws : List Txt} {rows : List (Option Txt)} (I : V (ixD ss (0 : Int)) n ws rows) {w : Txt} (hw : Wd w) (hin : w ∈ ws) {k : TableV × List (Option Txt) → Prop} {Q : Bool → Prop} (hk : ∀ rows', V (ixD ss (0 : Int)) n ws rows' → k (TB n (ixD ss (0 : Int)) rows', rows')) : law_rest1_w8 ss (n : Int) w k (TB n (ixD ss (0 : Int)) rows) rows Q := by
  have z1 := h.z1; have z2 := h.z2
  have hl := List.length_pos_iff.mpr S.ne
  have hn := I.len
  refine ⟨by unfold inR; omega, Cl.here (law_sum_ok hw.abc h ?_)⟩
  refine ⟨⟨by omega, by omega⟩, sl (by rw [List.length_map, List.length_range, Int.toNat_natCast]; omega), fun x hx => ⟨by omega, rfl⟩, ?_⟩
  have es : (((List.range ((n : Int)).toNat).map fun i : Nat => (i : Int)).map (fun (x22 : Int) => ((sm w (ixD ss (0 : Int)) (n : Int) + x22) % (n : Int)))) = spots (ixD ss (0 : Int)) n w := by
    rw [Int.toNat_natCast, List.map_map]
    exact List.map_congr_left fun k _ => sp_eq h w k
  rw [es]
  have spin : ∀ k, inR rows.length (sp (ixD ss (0 : Int)) n w k : Int) := fun k => by
    have := sp_lt h w k
    rw [hn]; unfold inR; omega
  refine ⟨sl (by unfold spots; rw [List.length_map, List.length_range]; omega), fun x hx => ?_, fun _ _ _ => rfl, ?_⟩
  · obtain ⟨j, _, rfl⟩ := List.mem_map.mp hx
    exact ⟨spin j, rfl⟩
  have ef : ((spots (ixD ss (0 : Int)) n w).filter (fun (x24 : Int) => ((inL (ixD rows x24) [(none : Option Txt), (some w)])))).map (fun (x24 : Int) => x24) = freeL (ixD ss (0 : Int)) n rows w := List.map_id' _
  rw [ef]
  refine Cl.here (put_tab h hn hw (fun ha => ⟨tx "count", rfl, ?_⟩) fun k0 h0 hc hp => ?_)
  · rw [free_nil ha]
    exact ⟨fun _ => rfl, fun h => absurd h (by decide), ne_no rfl (ifJ.mk (fun h => absurd h (by decide)) fun _ => hk rows I)⟩
  · obtain ⟨r, er⟩ := free_cons h0 hc hp
    rw [er]
    have n0 : decide ((sp (ixD ss (0 : Int)) n w k0 : Int) :: r = ([] : List Int)) = false := rfl
    have i0 : inR ((sp (ixD ss (0 : Int)) n w k0 : Int) :: r).length (0 : Int) := by rw [List.length_cons]; unfold inR; omega
    refine ⟨fun h => (by cases h), fun _ => ⟨i0, spin k0, rfl⟩, ne_no rfl (ifJ.mk (fun _ => ⟨i0, spin k0, ?_⟩) fun h => (by cases h))⟩
    show k (TB n (ixD ss (0 : Int)) (rows.set (sp (ixD ss (0 : Int)) n w k0) (some w)), rows.set (plc rows.length (sp (ixD ss (0 : Int)) n w k0 : Int)) (some w))
    rw [plc_nat]
    exact hk _ (I.set h hin h0 hc hp)
theorem isin_mem {n : Nat} {rows : List (Option Txt)} (hn : rows.length = n) (w : Txt) : isin n rows w ↔ (some w) ∈ rows := by
  constructor
  · rintro ⟨p, hp, e⟩
    rw [ixD_nat (by omega)] at e
    rw [← e]
    exact List.getElem_mem _
  · intro h
    obtain ⟨p, hp, e⟩ := List.getElem_of_mem h
    exact ⟨p, by omega, by rw [ixD_nat hp, e]⟩
def ins (rows : List (Option Txt)) : List (Option Txt) := rows.filter fun x => x.isSome
theorem ins_mem (rows : List (Option Txt)) (w : Txt) : (some w) ∈ ins rows ↔ (some w) ∈ rows := by
  unfold ins
  rw [List.mem_filter]
  exact ⟨fun h => h.1, fun h => ⟨h, rfl⟩⟩
theorem idx_ltA {α : Type} [DecidableEq α] {xs : List α} {x : α} (h : x ∈ xs) : idx xs x < xs.length := List.idxOf_lt_length_of_mem h
theorem idx_getA {α : Type} [DecidableEq α] {xs : List α} {x : α} (h : idx xs x < xs.length) : xs[idx xs x] = x := List.getElem_idxOf h
theorem w10_ok {ss : List Int} {sz : Int} (S : Ss ss sz) {n : Nat} (h : Sz (ixD ss (0 : Int)) (n : Int)) {ws : List Txt} {rows : List (Option Txt)} (I : V (ixD ss (0 : Int)) n ws rows) {w : Txt} (hw : Wd w) {k : Unit → Prop} {Q : Bool → Prop} (hk : k ()) : law_rest1_w10 ss (n : Int) (TB n (ixD ss (0 : Int)) rows) rows (ins rows) w k Q := by
  have z1 := h.z1
  have hl := List.length_pos_iff.mpr S.ne
  have hn := I.len
  by_cases c : isin n rows w
  · have m1 := (isin_mem hn w).mp c
    have e : inL (some w) (ins rows) = true := by rw [inL_iff]; exact (ins_mem rows w).mpr m1
    refine Cl.here (has_yes h I hw c (ne_no e.symm ⟨fun _ => ?_, fun h => (by rw [e] at h; cases h)⟩))
    have il : idx rows (some w) < rows.length := idx_ltA m1
    have ig : ixD rows ((idx rows (some w) : Nat) : Int) = some w := by
      rw [ixD_nat il]
      exact idx_getA il
    refine Cl.here (looks_ok h I hw (p := idx rows (some w)) (by omega) ig ⟨m1, by unfold inR; omega, Cl.here (law_sum_ok hw.abc h ⟨by omega, ne_no rfl hk⟩)⟩)
  · have e : inL (some w) (ins rows) = false := eq_false_of_ne_true fun m => by
      rw [inL_iff] at m
      exact c ((isin_mem hn w).mpr ((ins_mem rows w).mp m))
    exact Cl.here (has_no h hn hw c (ne_no e.symm ⟨fun h => (by rw [e] at h; cases h), fun _ => ⟨fun h => (by cases h), fun _ => hk⟩⟩))
theorem w11_ok {st : Int} {n : Nat} (h : Sz st (n : Int)) {ws : List Txt} {rows rows' : List (Option Txt)} (hln : (ins rows).length ≤ 1000) (hn : rows.length = n) (I : V st n ws rows') {g : Txt} (hg : Wd g) (hins : ∀ v, (some v) ∈ rows → Wd v) (C : ∀ v, isin n rows' v ↔ isin n rows v ∧ v ≠ g) {k : TableV → Prop} {Q : Bool → Prop} (hk : k (TB n st rows')) : law_rest1_w11 (ins rows) k (some g) (TB n st rows') Q := by
  have gno : ¬ isin n rows' g := fun e => ((C g).mp e).2 rfl
  refine ⟨rfl, Cl.here (has_no h I.len hg gno ⟨fun e => (by cases e), fun _ => ?_⟩)⟩
  have sm_ : ∀ x ∈ ins rows, ∃ v, x = some v := fun x hx => Option.isSome_iff_exists.mp (List.mem_filter.mp hx).2
  refine ⟨sl (by omega), fun _ => false, fun x => x, fun x hx => ⟨fun hne => ?_, fun _ => rfl⟩, fun _ _ _ => rfl, ne_no ?_ ?_⟩
  · obtain ⟨v, rfl⟩ := sm_ x hx
    have hv : (some v) ∈ rows := (ins_mem rows v).mp hx
    have hne : (some v : Option Txt) ≠ some g := of_decide_eq_true hne
    refine ⟨rfl, Cl.here (has_yes h I (hins v hv) ((C v).mpr ⟨(isin_mem hn v).mpr hv, fun e => hne (by rw [e])⟩) rfl)⟩
  · show ((ins rows).filter (fun _ => false)).map (fun x => x) = []
    rw [List.map_id', List.filter_eq_nil_iff]
    intro x _; decide
  · exact Cl.exc (take_no h I.len hg gno) ⟨tx "count", rfl, ne_no rfl hk⟩
end K16
set_option maxHeartbeats 400000
namespace K16
open PySem L2 Sp
open PySem.W (DatumOrd)
theorem rep_none : ∀ n : Nat, (List.replicate n [(none : Option Txt)]).flatten = List.replicate n none
  | 0 => rfl
  | n + 1 => by rw [List.replicate_succ, List.flatten_cons, rep_none n]; rfl
theorem V0 (st : Int) (n : Nat) (ws : List Txt) : V st n ws (List.replicate n none) := by
  have e : ∀ p, p < n → ixD (List.replicate n (none : Option Txt)) (p : Int) = none := fun p hp => by
    rw [ixD_nat (by simpa using hp)]
    simp
  refine ⟨by simp, fun p w hp h => ?_, fun p q w hp _ h _ => ?_, fun p w hp h => ?_⟩ <;> (rw [e p hp] at h; cases h)
theorem w15r_ok {ss : List Int} {sz : Int} (S : Ss ss sz) (hz : sz ≤ 900) {ws : List Txt} (hw : ∀ w ∈ ws, Wd w) (hn : ws.length ≤ 1000) {l : List Int} {n : Nat} {st : Int} {rows : List (Option Txt)} (hl : rows.length = n) {Q : Bool → Prop} (q : Q true) : law_rest1_w15 sz ss ws (SV ss sz l) (n : Int) (TB n st rows) Q := by
  refine ne_no ?_ (Cl.here (rest2_ok S hz hw hn q))
  show ((rows.length : Nat) : Int) = (n : Int)
  rw [hl]
theorem rest1_ok {ss : List Int} {sz : Int} (S : Ss ss sz) (hz : sz ≤ 900) {ws os : List Txt} (hw : ∀ w ∈ ws, Wd w) (ho : ∀ w ∈ os, Wd w) (hn : ws.length ≤ 100) (hm : os.length ≤ 100) {l : List Int} {Q : Bool → Prop} {E : Ex → Prop} (q : Q true) : law_rest1_W (sz, ss, ws, os, SV ss sz l, ()) Q E := by
  have hl := List.length_pos_iff.mpr S.ne
  refine ClD.roll (by decide) (by decide) fun r r0 r1 => ?_
  obtain ⟨n, en⟩ : ∃ n : Nat, (1 : Int) + r = (n : Int) := ⟨(1 + r).toNat, by omega⟩
  rw [en]
  have n12 : 1 ≤ n ∧ n ≤ 12 := by omega
  have sIn : ixD ss (0 : Int) ∈ ss := ixD_mem (by omega) (by omega)
  have h : Sz (ixD ss (0 : Int)) (n : Int) := ⟨(S.ok _ sIn).s1, (S.ok _ sIn).s2, by omega, by omega⟩
  have hs1 := h.s1
  have sz0 : -(2 ^ 63) ≤ (n : Int) ∧ (n : Int) < 2 ^ 63 ∧ [(none : Option Txt)].length * ((n : Int)).toNat ≤ sizeLine := ⟨by omega, by omega, sl (by show 1 * ((n : Int)).toNat ≤ _; omega)⟩
  refine ⟨by show inR ss.length 0; unfold inR; omega, Cl.here ?_⟩
  refine ⟨fun _ => rfl, fun _ => rfl, no_ ?_ ⟨sz0, sz0, ?_⟩⟩
  · show (!(decide ((1 : Int) ≤ (n : Int)) && decide ((n : Int) ≤ (500 : Int))) || decide (ixD ss (0 : Int) < (1 : Int))) = false
    rw [decide_eq_true (show (1 : Int) ≤ (n : Int) by omega), decide_eq_true (show (n : Int) ≤ 500 by omega), decide_eq_false (show ¬ ixD ss (0 : Int) < 1 by omega)]
    rfl
  have er : (List.replicate ((n : Int)).toNat [(none : Option Txt)]).flatten = List.replicate n none := by rw [Int.toNat_natCast, rep_none]
  show law_rest1_w20 sz ss ws os (SV ss sz l) (n : Int) ⟨(n : Int), ixD ss (0 : Int), (List.replicate ((n : Int)).toNat [(none : Option Txt)]).flatten⟩ (List.replicate ((n : Int)).toNat [(none : Option Txt)]).flatten Q
  rw [er]
  refine forL (xs := ws) (fun _ z => ∃ rows, z = (TB n (ixD ss (0 : Int)) rows, rows) ∧ V (ixD ss (0 : Int)) n ws rows) ⟨_, rfl, V0 _ n ws⟩ (fun a x b z e hz' k hk => ?_) fun z hz' => ?_
  · obtain ⟨rows, rfl, I⟩ := hz'
    have e : ws = a ++ x :: b := e
    have hx : x ∈ ws := by rw [e]; simp
    exact w8_ok S h I (hw x hx) hx fun rows' I' => hk _ ⟨rows', rfl, I'⟩
  obtain ⟨rows, rfl, I⟩ := hz'
  have hr := I.len
  have il : (ins rows).length ≤ n := by
    have := List.length_filter_le (fun x : Option Txt => x.isSome) rows
    unfold ins; omega
  have ei : (rows.filter (fun (x41 : Option Txt) => x41.isSome)).map (fun (x41 : Option Txt) => x41) = ins rows := List.map_id' _
  refine ne_no rfl ⟨sl (by show rows.length ≤ _; omega), fun _ _ => rfl, fun _ _ _ => rfl, ?_⟩
  show law_rest1_w17 sz ss ws os (SV ss sz l) (n : Int) (TB n (ixD ss (0 : Int)) rows) rows ((rows.filter (fun (x41 : Option Txt) => x41.isSome)).map (fun (x41 : Option Txt) => x41)) Q
  rw [ei]
  refine ⟨sl (by omega), Cl.here (unlike_raw (ws := ws ++ os) (Q := fun r43 => forW r43 () (fun (x44 : Txt) (z45 : Unit) (nx47 : Unit → Prop) => (law_rest1_w10 ss (n : Int) (TB n (ixD ss (0 : Int)) rows) rows (ins rows) x44 nx47 Q)) (fun (z53 : Unit) => (law_rest1_w16 sz ss ws (SV ss sz l) (n : Int) (TB n (ixD ss (0 : Int)) rows) (ins rows) Q))) (by rw [List.length_append]; omega) ?_)⟩
  refine forU (fun x hx k hk => ?_) ?_
  · have hx := (uq_mem _ x).mp (srt_mem.mp hx)
    have wx : Wd x := by
      rcases List.mem_append.mp hx with c | c
      · exact hw x c
      · exact ho x c
    exact w10_ok S h I wx hk
  have wdr : ∀ v, (some v) ∈ rows → Wd v := fun v hv => by
    obtain ⟨p, hp, ep⟩ := (isin_mem hr v).mpr hv
    exact hw v (I.inn p v hp ep)
  refine ifJ.mk (fun hne => ?_) fun _ => w15r_ok S hz hw (by omega) hr q
  have hne : ins rows ≠ [] := of_decide_eq_true hne
  have il1 := List.length_pos_iff.mpr hne
  refine ClD.roll (by omega) (by omega) fun r2 a0 a1 => ⟨by unfold inR; omega, ?_⟩
  have gm := ixD_mem (x := ins rows) (i := r2) a0 a1
  obtain ⟨g, eg⟩ := Option.isSome_iff_exists.mp (List.mem_filter.mp gm).2
  rw [eg] at gm ⊢
  have gr := (ins_mem rows g).mp gm
  refine Cl.here (take_ok h I hw (wdr g gr) ((isin_mem hr g).mpr gr) fun rows' I' C => ?_)
  exact w11_ok h (by omega) hr I' (wdr g gr) wdr C (w15r_ok S hz hw (by omega) I'.len q)
end K16
set_option maxHeartbeats 400000
namespace K16
open PySem L2 Sp
open PySem.W (DatumOrd)
theorem half_sum {st h : Int} (h1 : 1 ≤ h) : ∀ w : Txt, sm w st (2 * h) % h = sm w st h := by
  have key : ∀ (f : Int) (c : Nat), stp st (2 * h) f c % h = stp st h (f % h) c := fun f c => by
    unfold stp
    rw [Int.emod_emod_of_dvd _ ⟨2, by omega⟩]
    have e : f = h * (f / h) + f % h := (Int.mul_ediv_add_emod f h).symm
    have e2 : f * st + idxT AZ [c] + 1 = (f % h * st + idxT AZ [c] + 1) + h * ((f / h) * st) := by
      conv => lhs; rw [e]
      rw [Int.add_mul, Int.mul_assoc]
      omega
    rw [e2, Int.add_mul_emod_self_left]
  have fold : ∀ (w : Txt) (f : Int), w.foldl (stp st (2 * h)) f % h = w.foldl (stp st h) (f % h) := fun w => by
    induction w with
    | nil => intro f; rfl
    | cons c w ih =>
      intro f
      rw [List.foldl_cons, List.foldl_cons, ih, key]
  intro w
  have := fold w 0
  rw [Int.zero_emod] at this
  exact this
theorem fm_mem {ss : List Int} {sz : Int} {ws : List Txt} {w : Txt} (hw : w ∈ ws) {x : Int} (hx : x ∈ mk ss sz w) : x ∈ fm ss sz ws := List.mem_flatMap.mpr ⟨w, hw, hx⟩
theorem mh_yes {ss : List Int} {sz : Int} {ws : List Txt} {w : Txt} (hw : w ∈ ws) : mh ss sz (fm ss sz ws) w = true := by
  unfold mh
  rw [List.all_eq_true]
  intro x hx
  exact decide_eq_true (fm_mem hw hx)
theorem mh_half {ss : List Int} {h : Int} (h1 : 1 ≤ h) {ws : List Txt} {w : Txt} (hw : w ∈ ws) : mh ss h ((uq (fm ss (2 * h) ws)).map fun x => x % h) w = true := by
  unfold mh
  rw [List.all_eq_true]
  intro x hx
  obtain ⟨st, hst, e⟩ := mk_mem.mp hx
  refine decide_eq_true (List.mem_map.mpr ⟨sm w st (2 * h), (uq_mem _ _).mpr (fm_mem hw (mk_mem.mpr ⟨st, hst, rfl⟩)), ?_⟩)
  show sm w st (2 * h) % h = x
  rw [half_sum h1, e]
theorem fil_nil {α β : Type} (l : List α) (f : α → β) : ((l.filter (fun _ => false)).map f) = [] := by
  rw [List.map_eq_nil_iff, List.filter_eq_nil_iff]
  intro x _; decide
abbrev md (ss : List Int) (sz : Int) (l : List Txt) : Dct Txt (List Int) := Dct.mk (dmerge [] (l.map fun w => (w, mk ss sz w)))
theorem md_ok (ss : List Int) (sz : Int) (l : List Txt) : MD ss sz (md ss sz l) l := fun w hw => ⟨has_of (mk ss sz) hw, gt_of (mk ss sz) hw⟩
structure Lw (ss : List Int) (h : Int) (ws os : List Txt) : Prop where
  S : Ss ss (2 * h)
  h1 : 1 ≤ h
  h2 : h ≤ 30
  wsd : ∀ w ∈ ws, Wd w
  osd : ∀ w ∈ os, Wd w
  lw : ws.length ≤ 100
  lo : os.length ≤ 100
section
variable {ss : List Int} {h : Int} {ws os : List Txt} {Q : Bool → Prop} {E : Ex → Prop}
theorem MDx (ss : List Int) (sz : Int) (ws os : List Txt) : ∀ w, w ∈ ws ∨ w ∈ os → dhas (md ss sz (ws ++ os)).kvs w = true ∧ dgt (md ss sz (ws ++ os)).kvs w = mk ss sz w := fun w hw => md_ok ss sz _ w (List.mem_append.mpr hw)
theorem w1_ok (L : Lw ss h ws os) (q : Q true) : law_w1 (2 * h, ss) (ws, os) (md ss (2 * h) (ws ++ os)) (SV ss (2 * h) (fm ss (2 * h) ws)) Q := by
  have h2 := L.h2
  refine ClD.here (rest3_ok L.S L.wsd L.osd L.lw L.lo (fun w hw => MDx ss (2 * h) ws os w (List.mem_append.mp hw).symm) ?_)
  exact ClD.here (rest1_ok L.S (by omega) L.wsd L.osd L.lw L.lo (nt_ rfl (nt_ rfl q)))
theorem w4_ok (L : Lw ss h ws os) (q : Q true) : law_w4 (2 * h, ss) (ws, os) (md ss (2 * h) (ws ++ os)) (SV ss (2 * h) (fm ss (2 * h) ws)) (srt (uq (fm ss (2 * h) ws))) Q E := by
  have h1 := L.h1; have h2 := L.h2
  have lf := fm_len L.S ws
  have lw := L.lw
  have e2 : (2 * h) / 2 = h := by omega
  have lu := uq_len (fm ss (2 * h) ws)
  have H : Ss ss (2 * h / 2) := half_ok L.S (by omega)
  refine Cl.here (folded_ok L.S (by omega) (by omega) (by omega) ?_)
  have cd : CDiv (2 * h) (2 : Int) := ⟨by decide, by decide⟩
  show law_w3 (2 * h, ss) (ws, os) (md ss (2 * h) (ws ++ os)) (SV ss (2 * h) (fm ss (2 * h) ws)) (srt (uq (fm ss (2 * h) ws))) (SV ss (2 * h / 2) ((uq (fm ss (2 * h) ws)).map fun x => x % (2 * h / 2))) Q E
  refine Cl.here ⟨cd, sl (by rw [srt_len]; omega), fun x hx => ⟨cd, by show 0 < 2 * h / 2; omega, rfl⟩, Cl.here (unlikeI (by rw [List.length_map, srt_len]; omega) (ne_no ?_ ?_))⟩
  · rw [BM_keys]
    show PySem.W.T3.mk _ _ (PySem.W.Tup.mk (srt (uq ((uq (fm ss (2 * h) ws)).map fun x => x % (2 * h / 2))))) = PySem.W.T3.mk _ _ (PySem.W.Tup.mk (srt (uq ((srt (uq (fm ss (2 * h) ws))).map fun x => x % (2 * h / 2)))))
    have : srt (uq ((uq (fm ss (2 * h) ws)).map fun x => x % (2 * h / 2))) = srt (uq ((srt (uq (fm ss (2 * h) ws))).map fun x => x % (2 * h / 2))) := srt_set (uq_nodup _) (uq_nodup _) fun x => by
      rw [uq_mem, uq_mem, List.mem_map, List.mem_map]
      constructor
      · rintro ⟨a, b, c⟩; exact ⟨a, srt_mem.mpr b, c⟩
      · rintro ⟨a, b, c⟩; exact ⟨a, srt_mem.mp b, c⟩
    rw [this]
  · refine ⟨sl (by show ws.length ≤ _; omega), fun _ => false, fun x => x, fun x hx => Cl.here (may_ok H (L.wsd x hx) ?_), fun _ _ _ => rfl, ne_no (fil_nil _ _) (w1_ok L q)⟩
    rw [e2, mh_half h1 hx]; rfl
theorem w6_ok (L : Lw ss h ws os) (q : Q true) : law_w6 (2 * h, ss) (ws, os) (md ss (2 * h) (ws ++ os)) (SV ss (2 * h) (fm ss (2 * h) ws)) (srt (uq (fm ss (2 * h) ws))) Q E := by
  have lf := fm_len L.S ws; have lg := fm_len L.S os
  have lw := L.lw; have lo := L.lo
  refine Cl.here (sieve_of_ok L.S (by show os.length ≤ _; omega) L.osd (Cl.here (joined_ok L.S (by omega) (by omega) ?_)))
  refine Cl.here ⟨sl (by show ws.length + os.length ≤ _; omega), Cl.here (sieve_of_ok (ws := ws ++ os) L.S (by rw [List.length_append]; omega) (fun w hw => by
    rcases List.mem_append.mp hw with c | c
    · exact L.wsd w c
    · exact L.osd w c) (Cl.here (ne_no ?_ (w4_ok L q))))⟩
  rw [BM_keys, joined_keys]
  have : srt (uq (uq (fm ss (2 * h) ws) ++ uq (fm ss (2 * h) os))) = srt (uq (fm ss (2 * h) (ws ++ os))) := srt_set (uq_nodup _) (uq_nodup _) fun x => by
    rw [uq_mem, uq_mem, fm_app, List.mem_append, List.mem_append, uq_mem, uq_mem]
  rw [this]
def sv (ss : List Int) (sz : Int) (ws os : List Txt) (x46 : Txt) : Bool := decide ((((dgt (md ss sz (ws ++ os)).kvs x46).filter (fun (x47 : Int) => ((niL x47 (srt (uq (fm ss sz ws))))))).map (fun (x47 : Int) => x47)) = ([] : List Int))
theorem sv_is {sz : Int} {x : Txt} (hx : x ∈ os) : sv ss sz ws os x = mh ss sz (fm ss sz ws) x := by
  unfold sv mh
  rw [(MDx ss sz ws os x (.inr hx)).2, List.map_id', Bool.eq_iff_iff, decide_eq_true_iff, List.filter_eq_nil_iff, List.all_eq_true]
  refine forall_congr' fun y => forall_congr' fun hy => ?_
  rw [decide_eq_true_iff]
  unfold niL
  rw [decide_eq_true_iff, srt_mem, uq_mem]
  exact Decidable.not_not
theorem w9_all (L : Lw ss h ws os) (q : Q true) : law_w9 (2 * h, ss) (ws, os) (md ss (2 * h) (ws ++ os)) (SV ss (2 * h) (fm ss (2 * h) ws)) (srt (uq (fm ss (2 * h) ws))) Q E := by
  have lw := L.lw; have lo := L.lo
  have so : os.length ≤ sizeLine := sl (by omega)
  have hs := L.S.len
  have seem : ∀ x ∈ os, dhas (dmerge [] (os.map fun x => (x, sv ss (2 * h) ws os x))) x = true ∧ dgt (dmerge [] (os.map fun x => (x, sv ss (2 * h) ws os x))) x = mh ss (2 * h) (fm ss (2 * h) ws) x := fun x hx => ⟨has_of (sv ss (2 * h) ws os) hx, by rw [gt_of (sv ss (2 * h) ws os) hx, sv_is hx]⟩
  refine ⟨so, fun x hx => ⟨(MDx ss (2 * h) ws os x (.inr hx)).1, ?_, fun _ _ => rfl, fun _ _ _ => rfl, rfl⟩, ?_⟩
  · rw [(MDx ss (2 * h) ws os x (.inr hx)).2]
    have := mk_len ss (2 * h) x
    exact sl (by omega)
  show law_w8 (2 * h, ss) (ws, os) (md ss (2 * h) (ws ++ os)) (SV ss (2 * h) (fm ss (2 * h) ws)) (srt (uq (fm ss (2 * h) ws))) (Dct.mk (dmerge [] (os.map fun x => (x, sv ss (2 * h) ws os x)))) Q E
  refine ⟨so, fun _ => false, fun x => x, fun x hx => Cl.here (may_ok L.S (L.osd x hx) ⟨(seem x hx).1, ?_⟩), fun _ _ _ => rfl, ne_no (fil_nil _ _) ?_⟩
  · rw [(seem x hx).2]
    exact decide_eq_false fun g => g rfl
  have lu := uq_len os
  refine Cl.here (wrongly_ok L.S (by omega) L.osd (Cl.here ?_))
  refine ⟨so, fun _ _ => rfl, ?_⟩
  rw [show (Dct.mk (dmerge [] (os.map fun (x2 : Txt) => (x2, (1 : Int))))).kvs.map (·.1) = uq os from one_keys os]
  refine ⟨sl (by rw [srt_len]; omega), fun x hx => ⟨(seem x ((uq_mem os x).mp (srt_mem.mp hx))).1, fun _ => rfl, rfl⟩, fun _ _ _ => rfl, ne_no ?_ (w6_ok L q)⟩
  rw [List.map_id']
  refine List.filter_congr fun x hx => ?_
  rw [(seem x ((uq_mem os x).mp (srt_mem.mp hx))).2, Bool.and_comm]
theorem w11_all (L : Lw ss h ws os) (q : Q true) : law_w11 (2 * h, ss) (ws, os) (md ss (2 * h) (ws ++ os)) (SV ss (2 * h) (fm ss (2 * h) ws)) Q E := by
  have lw := L.lw
  have lf := fm_len L.S ws
  have lu := uq_len (fm ss (2 * h) ws)
  have sw : ws.length ≤ sizeLine := sl (by omega)
  have e : ws.map (fun (x36 : Txt) => (dgt (md ss (2 * h) (ws ++ os)).kvs x36)) = ws.map (mk ss (2 * h)) := List.map_congr_left fun w hw => (MDx ss (2 * h) ws os w (.inl hw)).2
  have e2 : (ws.map (mk ss (2 * h))).flatten = fm ss (2 * h) ws := (List.flatMap_def ..).symm
  refine ⟨sw, fun w hw => ⟨(MDx ss (2 * h) ws os w (.inl hw)).1, rfl⟩, ?_⟩
  rw [e]
  refine Cl.here (flat_raw (rows := ws.map (mk ss (2 * h))) (by rw [e2]; omega) ?_)
  rw [e2]
  refine Cl.here (unlikeI (by omega) ?_)
  refine ⟨sw, fun _ => false, fun x => x, fun x hx => Cl.here (may_ok L.S (L.wsd x hx) (by rw [mh_yes hx]; rfl)), fun _ _ _ => rfl, ne_no (fil_nil _ _) (Cl.here (ne_no ?_ (w9_all L q)))⟩
  have : (BM (fm ss (2 * h) ws)).length = (srt (uq (fm ss (2 * h) ws))).length := by rw [srt_len]; unfold BM; rw [List.length_map]
  show (((BM (fm ss (2 * h) ws)).length : Int), 2 * h) = (((srt (uq (fm ss (2 * h) ws))).length : Int), 2 * h)
  rw [this]
theorem w14_all (L : Lw ss h ws os) (q : Q true) : law_w14 (2 * h, ss) (ws, os) Q E := by
  have lw := L.lw; have lo := L.lo
  have hs := L.S.len
  have hl := List.length_pos_iff.mpr L.S.ne
  have la : (ws ++ os).length ≤ 200 := by rw [List.length_append]; omega
  have wd : ∀ w, w ∈ ws ∨ w ∈ os → Wd w := fun w hw => hw.elim (L.wsd w) (L.osd w)
  refine ⟨sl (by show ws.length + os.length ≤ _; omega), sl (by show (ws ++ os).length ≤ _; omega), fun w => (w, mk ss (2 * h) w), fun w hw => ⟨sl (by show ss.length ≤ _; omega), fun st => sm w st (2 * h), fun st hst => Cl.here (law_sum_ok (wd w (List.mem_append.mp hw)).abc (L.S.ok st hst) rfl), Cl.here (unlikeI (by rw [List.length_map]; show ss.length ≤ _; omega) rfl)⟩, ?_⟩
  refine Cl.here (sieve_of_ok L.S (by show ws.length ≤ _; omega) L.wsd ?_)
  have ek : (md ss (2 * h) (ws ++ os)).kvs.map (·.1) = uq (ws ++ os) := keys_uq (mk ss (2 * h)) (ws ++ os)
  have hk : ∀ w ∈ (md ss (2 * h) (ws ++ os)).kvs.map (·.1), w ∈ ws ∨ w ∈ os := fun w hw => by
    rw [ek, uq_mem] at hw
    exact List.mem_append.mp hw
  have lk := uq_len (ws ++ os)
  have s0 : Sz (ixD ss (0 : Int)) (2 * h) := L.S.ok _ (ixD_mem (by omega) (by omega))
  have i0 : inR ss.length (0 : Int) := by unfold inR; omega
  refine ⟨sl (by show ((md ss (2 * h) (ws ++ os)).kvs.map (·.1)).length ≤ _; rw [ek]; omega), fun _ => false, fun x => x, fun x hx => Cl.here (marks_ok L.S (wd x (hk x hx)) ⟨(MDx ss (2 * h) ws os x (hk x hx)).1, ne_no (MDx ss (2 * h) ws os x (hk x hx)).2.symm ⟨i0, Cl.here (word_sum_ok (wd x (hk x hx)) s0 ⟨i0, Cl.here (law_sum_ok (wd x (hk x hx)).abc s0 (decide_eq_false fun g => g rfl))⟩)⟩⟩), fun _ _ _ => rfl, ne_no (fil_nil _ _) (w11_all L q)⟩
end
theorem plain (ns : List Int) : law_W (ns, ()) (fun b => b = true) NoE := by
  show law_w16 (fun b => b = true) NoE
  refine ClD.roll (by decide) (by decide) fun r a0 a1 => ⟨by unfold CMul; right; omega, ClD.roll (by decide) (by decide) fun t b0 b1 => ⟨⟨by omega, by omega⟩, ?_, fun _ st => 1 ≤ st ∧ st ≤ 40, fun x _ => ClD.roll (by decide) (by decide) fun u c0 c1 => ⟨by omega, by omega⟩, fun ss hss => ?_⟩⟩
  · rw [List.length_map, List.length_range]; exact sl (by omega)
  have hl := hss.length
  rw [List.length_map, List.length_range] at hl
  have ha := hss.all (R := fun st => 1 ≤ st ∧ st ≤ 40) fun x _ y h => h
  have S : Ss ss (2 * (1 + r)) := ⟨fun e => by rw [e] at hl; simp at hl; omega, by omega, fun st hst => ⟨(ha st hst).1, (ha st hst).2, by omega, by omega⟩, trivial⟩
  refine ClD.roll (by decide) (by decide) fun u c0 c1 => ⟨⟨by omega, by omega⟩, ?_, fun _ w => Wd w, fun x _ => word_ad (by decide) (by decide) (by decide) fun y hy h1 h2 => ⟨by omega, by omega, hy⟩, fun ws hws => ⟨⟨by decide, by decide⟩, by decide, fun _ w => Wd w, fun x _ => word_ad (by decide) (by decide) (by decide) fun y hy h1 h2 => ⟨by omega, by omega, hy⟩, fun os hos => ?_⟩⟩
  · rw [List.length_map, List.length_range]; exact sl (by omega)
  have l1 := hws.length
  rw [List.length_map, List.length_range] at l1
  have l2 := hos.length
  rw [List.length_map, List.length_range] at l2
  exact w14_all ⟨S, by omega, by omega, hws.all fun x _ y h => h, hos.all fun x _ y h => h, by omega, by rw [l2]; decide⟩ rfl
end K16
theorem PySem.Challenge.cw_spellhall_k16_sieves_holds : PySem.Challenge.rw_spellhall_k16_sieves.Holds :=
  K16.holds_of fun ns _ _ => by first | exact K16.plain ns | exact K16.plain
