import PyProof.Rows.All
import Wide.All
import OpenK.AllK
import Wide.FinOn
import HandS.ForMost
import HandS.Exc
import HandS.ExcOwn
import HandS.WordsExc
import HandS.TryMany
import HandS.Lambda
import PyProof.CodeObj
import KE.DatumMore
import KE.DatumMoreOrd
import KE.DatumIndex
import KE.SortKeyHeap
import HandS.Deep
import HandS.Text
import PyProof.ListStr
import HandS.RaiseMore
import HandS.Codes
import HandS.TupAny
import HandS.Flow
import HandS.Rev
import HandS.Zip
import HandS.More
import PyProof.CollectStr
import HandS.GenBody
import HandS.AnyAll
import HandS.Keys
import PyProof.ConsumeS
import HandS.HeadHook4
import HandS.HeadWalk
import HandS.Head2
import HandS.ListItems
import PyProof.Draws
import HandS.StrMore
import HandS.Replace
import HandS.Style
import PyProof.SumAny
import PyProof.Rows.SumGenD
import PyProof.InstEq
import HandS.Sort
import HandS.RevTup
import HandS.SetKeys
import PyProof.MaxThree
import KE.GoesMore
import HandS.Conv
import HandS.DictTup
import KE.KDictKeyed
import KE.KDictList
import KE.KDictWalk
import HandS.ExcInit
import HandS.ExcField
import HandS.ExcSuper
import KE.KExcSuper
import PyProof.TupleOfSeq
import KE.KDictPairs
import KE.KDictDisplayH
import HandS.TupLen
import HandS.ReplaceLit
import PyProof.StrLawsFirst
import KE.KIntText
import KE.DataAny
import HandS.ExcCtx
import HandS.SuiteRaise
import KE.KExcIs
import HandS.ExcIs
import PyProof.ZipIter
import PyProof.EnumMake
import HandS.NoneIn
import KE.KDictCopyH
import KE.DataMinKey
import HandS.DictEq
import HandS.Small
import KE.DataCmp
import KE.KSortTup
import HandS.ListEq
import PySem.Challenge.RW_spellhall_k12_hyphens
set_option Elab.async false
set_option linter.all false
set_option maxRecDepth 100000
set_option maxHeartbeats 4000000
namespace Sp
open PySem L2
structure WE (X : Cx) (e : Expr) (σ : St) (H : Hp) (Q : VK) : Prop where
  run : ∀ (pins : List (Addr × Obj)) (s : Shared), Inv X pins σ H s → wpAny (model X.prog X.w) X.A (eval e X.env) (EP X pins σ Q) X.xe s
structure WT (X : Cx) (e : Expr) (σ : St) (H : Hp) (Q : Bool → Hp → Prop) : Prop where
  run : ∀ (pins : List (Addr × Obj)) (s : Shared), Inv X pins σ H s → wpAny (model X.prog X.w) X.A (isTrue e X.env (eval e X.env)) (TP X pins σ Q) X.xe s
structure WA (X : Cx) (es : List Expr) (σ : St) (H : Hp) (Q : List V → Hp → Prop) : Prop where
  run : ∀ (pos : Pos) (pins : List (Addr × Obj)) (s : Shared), Inv X pins σ H s → wpAny (model X.prog X.w) X.A (spliced (backTo pos (starEach es X.env))) (AP X pins σ Q) X.xe s
structure WS (X : Cx) (st : List Stmt) (σ : St) (H : Hp) (D : Ends) : Prop where
  run : ∀ (pins : List (Addr × Obj)) (s : Shared), Inv X pins σ H s → wpAny (model X.prog X.w) X.A (execs st X.env) (SP X pins D) X.xe s
section
variable {X : Cx} {e : Expr} {es : List Expr} {st : List Stmt} {σ : St} {H : Hp}
theorem pe_we : PE X e (WE X e) := ⟨fun pins s _ _ _ I h => h.run pins s I⟩
theorem pt_wt : PT X e (WT X e) := ⟨fun pins s _ _ _ I h => h.run pins s I⟩
theorem pa_wa : PA X es (WA X es) := ⟨fun pos pins s _ _ _ I h => h.run pos pins s I⟩
theorem pss_ws : PSs X st (fun D σ H => WS X st σ H D) := ⟨fun pins s _ _ _ I h => h.run pins s I⟩
theorem WE.of {t : TE} {Q : VK} (p : PE X e t) (h : t σ H Q) : WE X e σ H Q := ⟨fun pins s I => p.run pins s σ H Q I h⟩
theorem WT.of {t : TT} {Q : Bool → Hp → Prop} (p : PT X e t) (h : t σ H Q) : WT X e σ H Q := ⟨fun pins s I => p.run pins s σ H Q I h⟩
theorem WA.of {t : TA} {Q : List V → Hp → Prop} (p : PA X es t) (h : t σ H Q) : WA X es σ H Q := ⟨fun pos pins s I => p.run pos pins s σ H Q I h⟩
theorem WS.of {t : TS} {D : Ends} (p : PSs X st t) (h : t D σ H) : WS X st σ H D := ⟨fun pins s I => p.run pins s σ H D I h⟩
theorem WE.mono {Q Q' : VK} (h : WE X e σ H Q) (k : ∀ v H', Q v H' → Q' v H') : WE X e σ H Q' :=
  ⟨fun pins s I => thn (h.run pins s I) fun _ _ ⟨v, H', J, r, q⟩ => ⟨v, H', J, r, k v H' q⟩⟩
theorem WT.mono {Q Q' : Bool → Hp → Prop} (h : WT X e σ H Q) (k : ∀ b H', Q b H' → Q' b H') : WT X e σ H Q' :=
  ⟨fun pins s I => thn (h.run pins s I) fun b _ ⟨H', J, q⟩ => ⟨H', J, k b H' q⟩⟩
theorem WA.mono {Q Q' : List V → Hp → Prop} (h : WA X es σ H Q) (k : ∀ v H', Q v H' → Q' v H') : WA X es σ H Q' :=
  ⟨fun pos pins s I => thn (h.run pos pins s I) fun _ _ ⟨v, H', J, r, q⟩ => ⟨v, H', J, r, k v H' q⟩⟩
theorem WS.mono {D D' : Ends} (h : WS X st σ H D) (k1 : ∀ σ' H', D.nx σ' H' → D'.nx σ' H') (k2 : ∀ v H', D.rt v H' → D'.rt v H') (k3 : ∀ σ' H', D.bk σ' H' → D'.bk σ' H') (k4 : ∀ σ' H', D.ct σ' H' → D'.ct σ' H') : WS X st σ H D' :=
  ⟨fun pins s I => thn (h.run pins s I) fun f s' q => by
    cases f with
    | next => obtain ⟨σ', H', J, q⟩ := q; exact ⟨σ', H', J, k1 _ _ q⟩
    | brk => obtain ⟨σ', H', J, q⟩ := q; exact ⟨σ', H', J, k3 _ _ q⟩
    | cont => obtain ⟨σ', H', J, q⟩ := q; exact ⟨σ', H', J, k4 _ _ q⟩
    | ret u => obtain ⟨v, σ', H', J, r, q⟩ := q; exact ⟨v, σ', H', J, r, k2 _ _ q⟩⟩
theorem WE.lock {Q : VK} {d : Addr} {u : HO} (hd : H d = some u) (mu : Mut (some u)) (h : ∀ od, WE X e σ (upd H d (.frz od u)) Q) : WE X e σ H Q := ⟨fun pins s I => by
  obtain ⟨od, J⟩ := I.lock hd mu
  exact (h od).run pins s J⟩
theorem WE.lockAfter {Q : VK} (h : WE X e σ H fun v H' => ∃ d u, H' d = some u ∧ Mut (some u) ∧ ∀ od, Q v (upd H' d (.frz od u))) : WE X e σ H Q := ⟨fun pins s I =>
  thn (h.run pins s I) fun _ _ ⟨v, H', J, r, d, u, hd, mu, q⟩ => by
    obtain ⟨od, J'⟩ := J.lock hd mu
    exact ⟨v, _, J', r, q od⟩⟩
end
def Ext (F H : Hp) : Prop := ∀ a o, F a = some o → H a = some o
theorem Ext.refl (F : Hp) : Ext F F := fun _ _ h => h
theorem Ext.trans {F G H : Hp} (a : Ext F G) (b : Ext G H) : Ext F H := fun c o h => b c o (a c o h)
structure Pv where
  rep : PySem.W.Frag → Hp → V → Prop
  mono : ∀ {K : PySem.W.Frag} {F F' : Hp} {v : V}, rep K F v → Ext F F' → rep K F' v
structure Cell where
  rep : PySem.W.Frag → Hp → HO → Prop
  mono : ∀ {K : PySem.W.Frag} {F F' : Hp} {o : HO}, rep K F o → Ext F F' → rep K F' o
abbrev Rho := List (Option Pv)
abbrev Gs := List (Addr × Cell)
structure DSt where
  ρ : Rho
  gs : Gs
def isTbl : HO → Bool
  | .tbl _ => true
  | _ => false
def isTT : HO → Bool
  | .tbl _ => true
  | .tup _ => true
  | _ => false
theorem isTT_tbl {o : HO} (h : isTT o = false) : isTbl o = false := by
  cases o <;> first | rfl | cases h
inductive RepS (K : PySem.W.Frag) (F : Hp) : St → Rho → Prop
  | nil : RepS K F [] []
  | un {o : Option V} {σ : St} {ρ : Rho} : RepS K F σ ρ → RepS K F (o :: σ) (none :: ρ)
  | ha {v : V} {A : Pv} {σ : St} {ρ : Rho} : A.rep K F v → RepS K F σ ρ → RepS K F (some v :: σ) (some A :: ρ)
theorem RepS.mono {K : PySem.W.Frag} {F F' : Hp} {σ : St} {ρ : Rho} (h : RepS K F σ ρ) (e : Ext F F') : RepS K F' σ ρ := by
  induction h with
  | nil => exact .nil
  | un _ ih => exact .un ih
  | ha r _ ih => exact .ha (Pv.mono _ r e) ih
theorem RepS.length {K : PySem.W.Frag} {F : Hp} {σ : St} {ρ : Rho} (h : RepS K F σ ρ) : σ.length = ρ.length := by
  induction h with
  | nil => rfl
  | un _ ih => simp [ih]
  | ha _ _ ih => simp [ih]
theorem RepS.get {K : PySem.W.Frag} {F : Hp} {σ : St} {ρ : Rho} (h : RepS K F σ ρ) : ∀ {i : Nat} {A : Pv}, ρ[i]? = some (some A) → ∃ v, σ[i]? = some (some v) ∧ A.rep K F v := by
  induction h with
  | nil => intro i A e; simp at e
  | un _ ih =>
    intro i A e
    cases i with
    | zero => simp at e
    | succ i => obtain ⟨v, e1, r⟩ := ih (i := i) (by simpa using e); exact ⟨v, by simpa using e1, r⟩
  | ha r _ ih =>
    intro i A e
    cases i with
    | zero => simp at e; subst e; exact ⟨_, rfl, r⟩
    | succ i => obtain ⟨v, e1, r⟩ := ih (i := i) (by simpa using e); exact ⟨v, by simpa using e1, r⟩
theorem RepS.set {K : PySem.W.Frag} {F : Hp} {σ : St} {ρ : Rho} (h : RepS K F σ ρ) {v : V} {A : Pv} (r : A.rep K F v) : ∀ (i : Nat), RepS K F (σ.set i (some v)) (ρ.set i (some A)) := by
  induction h with
  | nil => intro i; exact .nil
  | un h ih =>
    intro i
    cases i with
    | zero => exact .ha r h
    | succ i => exact .un (ih i)
  | ha q h ih =>
    intro i
    cases i with
    | zero => exact .ha r h
    | succ i => exact .ha q (ih i)
theorem RepS.forget {K : PySem.W.Frag} {F : Hp} {σ : St} {ρ : Rho} (h : RepS K F σ ρ) {o : Option V} : ∀ (i : Nat), RepS K F (σ.set i o) (ρ.set i none) := by
  induction h with
  | nil => intro i; exact .nil
  | un h ih =>
    intro i
    cases i with
    | zero => exact .un h
    | succ i => exact .un (ih i)
  | ha q h ih =>
    intro i
    cases i with
    | zero => exact .un h
    | succ i => exact .ha q (ih i)
structure Exc where
  C : Addr
  row : Option (Str × Int)
def ExcRep (e : Exc) (cls : Value) (d : Option Addr) (H : Hp) : Prop :=
  cls = .ref e.C ∧ (match e.row with
    | none => d = none
    | some r => ∃ dx, d = some dx ∧ H dx = some (.xd [(r.1, .int r.2)]))
inductive Tk where
  | plain (q : Str)
  | nest (q : Option Str)
  | own
  /-- codes at lambdas' places bear a name, other codes any -/
  | mix (ls : List (Nat × Nat)) (q : Str)
def lamAt (ls : List (Nat × Nat)) (p : Pos) : Bool := decide ((p.line, p.col) ∈ ls)
abbrev Tb := List (Addr × Tk)
def plainT (T : Tb) : List (Addr × Str) := T.filterMap fun p => match p.2 with
  | .plain q => some (p.1, q)
  | _ => none
theorem plainT_mem {T : Tb} {a : Addr} {q : Str} : (a, q) ∈ plainT T ↔ (a, Tk.plain q) ∈ T := by
  unfold plainT
  rw [List.mem_filterMap]
  constructor
  · rintro ⟨p, hp, e⟩
    obtain ⟨x, k⟩ := p
    cases k with
    | plain z => simp at e; obtain ⟨e1, e2⟩ := e; subst e1 e2; exact hp
    | nest z => simp at e
    | own => simp at e
    | mix ls z => simp at e
  · intro h
    exact ⟨_, h, rfl⟩
def CodeT (c P : Addr) (q : Option Str) : HO := .ext fun h => (∀ z, q = some z → ∃ (oc : Obj) (us : Array Value) (t : Tok), h.get? c = some oc ∧ oc.data = .fields us ∧ us[1]? = some (.str z t)) ∧ ∃ (o : Obj) (vs : Array Value) (file : Str) (tf : Tok) (flags : Int) (tg : Tok) (inF : Bool) (text : Int) (tt : Tok), h.get? c = some o ∧ o.cls = .type "code" ∧ o.data = .fields vs ∧ vs[11]? = some (.ref P) ∧ vs.getD 11 .none = .ref P ∧ vs.getD 18 .none = .str file tf ∧
  vs.getD 7 .none = .int flags tg ∧ vs.getD 9 .none = .bool inF ∧ vs.getD 10 .none = .int text tt ∧ c ≠ P
def PTab (P : Addr) : HO := .ext fun h => ∃ ps : Array Value, h.get? P = some { cls := .none, data := .fields ps } ∧ TriplesOk ps.toList ∧ ∀ pos cv, codeAmong pos ps.toList = some cv → ∃ c, cv = .ref c
def TbE (H : Hp) (a : Addr) : Tk → Prop
  | .plain q => LamX.TabS H a q
  | .nest q => ∃ ps : Array Value, H a = some (.tbl ps) ∧ TriplesOk ps.toList ∧ ∀ pos cv, codeAmong pos ps.toList = some cv → ∃ c P, cv = .ref c ∧ H c = some (CodeT c P q) ∧ H P = some (PTab P)
  | .own => ∃ P q, H a = some (CodeT a P q) ∧ H P = some (PTab P)
  | .mix ls q => ∃ ps : Array Value, H a = some (.tbl ps) ∧ TriplesOk ps.toList ∧ ∀ pos cv, codeAmong pos ps.toList = some cv → ∃ c, cv = .ref c ∧ (lamAt ls pos = true → H c = some (LamX.CodeO c q))
def TbOk (T : Tb) (H : Hp) : Prop := ∀ p ∈ T, TbE H p.1 p.2
theorem TbE.ext {H H' : Hp} {a : Addr} {k : Tk} (h : TbE H a k) (e : ∀ b o, H b = some o → H' b = some o) : TbE H' a k := by
  cases k with
  | plain q => exact LamX.TabS.ext h e
  | nest z9 =>
    obtain ⟨ps, h1, h2, h3⟩ := h
    refine ⟨ps, e _ _ h1, h2, fun pos cv hc => ?_⟩
    obtain ⟨c, P, z1, z2, z3⟩ := h3 pos cv hc
    exact ⟨c, P, z1, e _ _ z2, e _ _ z3⟩
  | own =>
    obtain ⟨P, q, z2, z3⟩ := h
    exact ⟨P, q, e _ _ z2, e _ _ z3⟩
  | mix ls q =>
    obtain ⟨ps, h1, h2, h3⟩ := h
    refine ⟨ps, e _ _ h1, h2, fun pos cv hc => ?_⟩
    obtain ⟨c, z1, z2⟩ := h3 pos cv hc
    exact ⟨c, z1, fun l => e _ _ (z2 l)⟩
theorem TbOk.ext {T : Tb} {H H' : Hp} (h : TbOk T H) (e : ∀ b o, H b = some o → H' b = some o) : TbOk T H' := fun p hp => (h p hp).ext e
theorem TbOk.tabs {T : Tb} {H : Hp} (h : TbOk T H) : LamX.Tabs (plainT T) H := fun p hp => h (p.1, .plain p.2) (plainT_mem.mp hp)
def NestS (T : Tb) (H H' : Hp) : Prop := ∀ a ps, ((∃ q, (a, Tk.nest q) ∈ T) ∨ ∃ ls q, (a, Tk.mix ls q) ∈ T) → H a = some (.tbl ps) → H' a = some (.tbl ps)
theorem TbOk.extN {T : Tb} {H H' : Hp} (h : TbOk T H) (e : LamX.ExtN H H') (t : LamX.Tabs (plainT T) H') (tn : NestS T H H') : TbOk T H' := fun p hp => by
  obtain ⟨a, k⟩ := p
  have h0 := h _ hp
  cases k with
  | plain q => exact t (a, q) (plainT_mem.mpr hp)
  | nest z9 =>
    obtain ⟨ps, h1, h2, h3⟩ := h0
    refine ⟨ps, tn _ _ (.inl ⟨_, hp⟩) h1, h2, fun pos cv hc => ?_⟩
    obtain ⟨c, P, z1, z2, z3⟩ := h3 pos cv hc
    exact ⟨c, P, z1, e _ _ z2 (fun _ z => by unfold CodeT at z; cases z), e _ _ z3 (fun _ z => by unfold PTab at z; cases z)⟩
  | own =>
    obtain ⟨P, q, z2, z3⟩ := h0
    exact ⟨P, q, e _ _ z2 (fun _ z => by unfold CodeT at z; cases z), e _ _ z3 (fun _ z => by unfold PTab at z; cases z)⟩
  | mix ls q =>
    obtain ⟨ps, h1, h2, h3⟩ := h0
    refine ⟨ps, tn _ _ (.inr ⟨_, _, hp⟩) h1, h2, fun pos cv hc => ?_⟩
    obtain ⟨c, z1, z2⟩ := h3 pos cv hc
    exact ⟨c, z1, fun l => e _ _ (z2 l) LamX.codeO_ne⟩
structure DX where
  X : Cx
  T : Tb
  k : Nat
  H0 : Hp
  F0 : Hp
  S0 : List Addr
  ex : Exc → DSt → Prop
def Fre (H : Hp) (a : Addr) : Prop := ∀ o, H a = some o → isTT o = true
structure Step (H0 F0 : Hp) (S0 : List Addr) (H F : Hp) (S : List Addr) : Prop where
  ff : Ext F0 F
  fr : ∀ a o, H0 a = some o → isTbl o = false → a ∉ S0 → H a = some o
  nw : ∀ a, (F a ≠ none ∨ a ∈ S) → F0 a ≠ none ∨ a ∈ S0 ∨ Fre H0 a
theorem Step.refl {H F : Hp} {S : List Addr} : Step H F S H F S :=
  ⟨Ext.refl _, fun _ _ h _ _ => h, fun _ h => h.elim .inl fun h => .inr (.inl h)⟩
theorem Step.was {H0 F0 H F : Hp} {S0 S : List Addr} (t : Step H0 F0 S0 H F S) {p : Addr} (hp : Fre H p) : p ∈ S0 ∨ Fre H0 p := by
  by_cases z2 : p ∈ S0
  · exact .inl z2
  · refine .inr fun o e => ?_
    cases z3 : isTT o with
    | true => rfl
    | false =>
      have := hp o (t.fr p o e (isTT_tbl z3) z2)
      rw [z3] at this
      exact this
theorem Fre.of {H : Hp} {p : Addr} (h : H p = none) : Fre H p := fun o e => by rw [h] at e; cases e
structure Sta (Y : DX) (s : DSt) (σ : St) (H F : Hp) : Prop where
  ext : Ext F H
  ntb : ∀ a o, F a = some o → isTbl o = false
  rep : RepS Y.X.K F σ s.ρ
  own : ∀ p ∈ s.gs, F p.1 = none ∧ ∃ o, H p.1 = some o ∧ isTT o = false ∧ p.2.rep Y.X.K F o
  nd : (s.gs.map (·.1)).Nodup
  tb : TbOk Y.T H
  st : Step Y.H0 Y.F0 Y.S0 H F (s.gs.map (·.1))
section
variable {Y : DX} {s : DSt} {σ : St} {H F : Hp}
theorem TbOk.new {T : Tb} {H : Hp} {p : Addr} {o : HO} (h : TbOk T H) (hp : H p = none) : TbOk T (upd H p o) := h.ext fun b u e => by rw [upd_ne (ne_of_none e hp)]; exact e
theorem TbOk.write {T : Tb} {H : Hp} {p : Addr} {o u : HO} (h : TbOk T H) (hp : H p = some o) (ho : isTbl o = false) (hc : ∀ φ, o ≠ .ext φ) : TbOk T (upd H p u) := fun q hq => by
  have kc : ∀ {b φ}, H b = some (.ext φ) → upd H p u b = some (.ext φ) := fun {b φ} e => by
    rw [upd_ne]
    · exact e
    · intro z
      rw [z, hp] at e
      exact hc _ (Option.some.inj e)
  obtain ⟨a, k⟩ := q
  have h0 := h _ hq
  cases k with
  | plain s =>
    obtain ⟨ps, h1, h2, h3⟩ := h0
    refine ⟨ps, ?_, h2, fun pos cv hcv => ?_⟩
    · rw [upd_ne]
      · exact h1
      · intro e
        rw [e, hp] at h1
        cases h1
        cases ho
    · obtain ⟨c, e1, e2⟩ := h3 pos cv hcv
      exact ⟨c, e1, kc e2⟩
  | nest z9 =>
    obtain ⟨ps, h1, h2, h3⟩ := h0
    refine ⟨ps, ?_, h2, fun pos cv hcv => ?_⟩
    · rw [upd_ne]
      · exact h1
      · intro e
        rw [e, hp] at h1
        cases h1
        cases ho
    · obtain ⟨c, P, e1, e2, e3⟩ := h3 pos cv hcv
      exact ⟨c, P, e1, kc e2, kc e3⟩
  | own =>
    obtain ⟨P, q, e2, e3⟩ := h0
    exact ⟨P, q, kc e2, kc e3⟩
  | mix ls q =>
    obtain ⟨ps, h1, h2, h3⟩ := h0
    refine ⟨ps, ?_, h2, fun pos cv hcv => ?_⟩
    · rw [upd_ne]
      · exact h1
      · intro e
        rw [e, hp] at h1
        cases h1
        cases ho
    · obtain ⟨c, e1, e2⟩ := h3 pos cv hcv
      exact ⟨c, e1, fun l => kc (e2 l)⟩
theorem Ext.new {F H : Hp} {p : Addr} {o : HO} (e : Ext F H) (hp : H p = none) : Ext F (upd H p o) := fun a u h => by
  rw [upd_ne (ne_of_none (e a u h) hp)]
  exact e a u h
theorem Ext.both {F H : Hp} {p : Addr} {o : HO} (e : Ext F H) : Ext (upd F p o) (upd H p o) := fun a u h => by
  by_cases q : a = p
  · rw [q, upd_same] at h ⊢
    exact h
  · rw [upd_ne q] at h ⊢
    exact e a u h
theorem Ext.free {F H : Hp} {p : Addr} (e : Ext F H) (hp : H p = none) : F p = none := by
  cases q : F p with
  | none => rfl
  | some o => rw [e _ _ q] at hp; cases hp
theorem Ext.grow {F : Hp} {p : Addr} {o : HO} (hp : F p = none) : Ext F (upd F p o) := fun a u h => by
  rw [upd_ne (ne_of_none h hp)]
  exact h
theorem Sta.free (S : Sta Y s σ H F) {p : Addr} (hp : H p = none) : F p = none := S.ext.free hp
theorem Sta.newF (S : Sta Y s σ H F) {p : Addr} {o : HO} (hp : H p = none) (ho : isTbl o = false) : Sta Y s σ (upd H p o) (upd F p o) := by
  have hF := S.ext.free hp
  refine ⟨S.ext.both, fun a u h => ?_, S.rep.mono (Ext.grow hF), fun q hq => ?_, S.nd, S.tb.new hp, ⟨S.st.ff.trans (Ext.grow hF), fun a u h1 h2 h3 => ?_, fun a h => ?_⟩⟩
  · by_cases q : a = p
    · rw [q, upd_same] at h; cases h; exact ho
    · rw [upd_ne q] at h; exact S.ntb a u h
  · obtain ⟨h1, u, h2, h3, h4⟩ := S.own q hq
    have ne : q.1 ≠ p := ne_of_none h2 hp
    exact ⟨by rw [upd_ne ne]; exact h1, u, by rw [upd_ne ne]; exact h2, h3, q.2.mono h4 (Ext.grow hF)⟩
  · have h := S.st.fr a u h1 h2 h3
    rw [upd_ne (ne_of_none h hp)]
    exact h
  · by_cases q : a = p
    · rw [q]; exact .inr (S.st.was (.of hp))
    · refine S.st.nw a (h.elim (fun h => .inl ?_) .inr)
      rw [upd_ne q] at h
      exact h
theorem Sta.newO (S : Sta Y s σ H F) {p : Addr} {o : HO} {c : Cell} (hp : H p = none) (ho : isTT o = false) (r : c.rep Y.X.K F o) : Sta Y ⟨s.ρ, (p, c) :: s.gs⟩ σ (upd H p o) F := by
  have hF := S.ext.free hp
  have nin : p ∉ s.gs.map (·.1) := fun hm => by
    obtain ⟨q, hq, e⟩ := List.mem_map.mp hm
    obtain ⟨_, u, h2, _⟩ := S.own q hq
    rw [e, hp] at h2; cases h2
  refine ⟨S.ext.new hp, S.ntb, S.rep, fun q hq => ?_, List.nodup_cons.mpr ⟨nin, S.nd⟩, S.tb.new hp, ⟨S.st.ff, fun a u h1 h2 h3 => ?_, fun a h => ?_⟩⟩
  · rcases List.mem_cons.mp hq with e | hq
    · subst e
      exact ⟨hF, o, upd_same, ho, r⟩
    · obtain ⟨h1, u, h2, h3, h4⟩ := S.own q hq
      exact ⟨h1, u, by rw [upd_ne (ne_of_none h2 hp)]; exact h2, h3, h4⟩
  · have h := S.st.fr a u h1 h2 h3
    rw [upd_ne (ne_of_none h hp)]
    exact h
  · rcases h with h | h
    · exact S.st.nw a (.inl h)
    · rcases List.mem_cons.mp h with h | h
      · rw [h]; exact .inr (S.st.was (.of hp))
      · exact S.st.nw a (.inr h)
theorem Sta.cell (S : Sta Y s σ H F) {i : Nat} {p : Addr} {c : Cell} (h : s.gs[i]? = some (p, c)) : F p = none ∧ ∃ o, H p = some o ∧ isTT o = false ∧ c.rep Y.X.K F o :=
  S.own (p, c) (List.mem_of_getElem? h)
theorem fst_set (gs : Gs) {i : Nat} {p : Addr} {c c' : Cell} (h : gs[i]? = some (p, c)) : (gs.set i (p, c')).map (·.1) = gs.map (·.1) := by
  rw [List.map_set]
  apply List.ext_getElem?
  intro j
  by_cases e : i = j
  · subst e
    obtain ⟨hl, e⟩ := List.getElem?_eq_some_iff.mp h
    rw [List.getElem?_set_self (by simpa using hl), List.getElem?_map, h]
    rfl
  · rw [List.getElem?_set_ne e]
theorem Sta.write (S : Sta Y s σ H F) {i : Nat} {p : Addr} {c c' : Cell} {o o' : HO} (h : s.gs[i]? = some (p, c)) (hp : H p = some o) (hc : ∀ φ, o ≠ .ext φ) (ho : isTT o' = false) (r : c'.rep Y.X.K F o') :
    Sta Y ⟨s.ρ, s.gs.set i (p, c')⟩ σ (upd H p o') F := by
  obtain ⟨hF, u, hu, hut, _⟩ := S.cell h
  rw [hp] at hu
  cases hu
  obtain ⟨hil, hie⟩ := List.getElem?_eq_some_iff.mp h
  have fs := fst_set s.gs (c' := c') h
  have hne : ∀ j q, j ≠ i → s.gs[j]? = some q → q.1 ≠ p := fun j q hj hq e => by
    obtain ⟨hjl, hje⟩ := List.getElem?_eq_some_iff.mp hq
    refine hj ((List.getElem_inj (h₀ := by simpa using hjl) (h₁ := by simpa using hil) S.nd).mp ?_)
    simp [hje, hie, e]
  refine ⟨fun a w ha => ?_, S.ntb, S.rep, fun q hq => ?_, by rw [fs]; exact S.nd, S.tb.write hp (isTT_tbl hut) hc, ?_⟩
  · have n : a ≠ p := fun e => by rw [e, hF] at ha; cases ha
    rw [upd_ne n]
    exact S.ext a w ha
  · obtain ⟨j, hj, e⟩ := List.getElem_of_mem hq
    have hjl : j < s.gs.length := by simpa using hj
    by_cases hji : j = i
    · subst hji
      rw [List.getElem_set_self] at e
      subst e
      exact ⟨hF, o', upd_same, ho, r⟩
    · rw [List.getElem_set_ne (Ne.symm hji)] at e
      have e2 : s.gs[j]? = some q := by rw [List.getElem?_eq_getElem hjl, e]
      obtain ⟨h1, w, h2, h3, h4⟩ := S.own q (List.mem_of_getElem? e2)
      exact ⟨h1, w, by rw [upd_ne (hne j q hji e2)]; exact h2, h3, h4⟩
  · show Step Y.H0 Y.F0 Y.S0 (upd H p o') F ((s.gs.set i (p, c')).map (·.1))
    rw [fs]
    have pin : p ∈ s.gs.map (·.1) := List.mem_map.mpr ⟨(p, c), List.mem_of_getElem? h, rfl⟩
    refine ⟨S.st.ff, fun a w h1 h2 h3 => ?_, S.st.nw⟩
    · have n : a ≠ p := fun e => by
        rcases S.st.nw p (.inr pin) with z | z | z
        · obtain ⟨w2, z⟩ := Option.ne_none_iff_exists'.mp z
          have := S.st.ff p w2 z
          rw [hF] at this; cases this
        · exact h3 (e ▸ z)
        · have := z w (e ▸ h1)
          have q9 := S.st.fr a w h1 h2 h3
          rw [e, hp] at q9
          cases q9
          rw [hut] at this; cases this
      rw [upd_ne n]
      exact S.st.fr a w h1 h2 h3
theorem Sta.freeze (S : Sta Y s σ H F) {i : Nat} {p : Addr} {c : Cell} {o : HO} (h : s.gs[i]? = some (p, c)) (hp : H p = some o) : Sta Y ⟨s.ρ, s.gs.eraseIdx i⟩ σ H (upd F p o) := by
  obtain ⟨hF, u, hu, hut, _⟩ := S.cell h
  rw [hp] at hu
  cases hu
  obtain ⟨hil, hie⟩ := List.getElem?_eq_some_iff.mp h
  have hgi := h
  have sub : ∀ q, q ∈ s.gs.eraseIdx i → q ∈ s.gs := fun q hq => List.mem_of_mem_eraseIdx hq
  have hne : ∀ q, q ∈ s.gs.eraseIdx i → q.1 ≠ p := fun q hq e => by
    obtain ⟨j, hj, he⟩ := List.mem_eraseIdx_iff_getElem?.mp hq
    obtain ⟨hjl, hje⟩ := List.getElem?_eq_some_iff.mp he
    refine hj ((List.getElem_inj (h₀ := by simpa using hjl) (h₁ := by simpa using hil) S.nd).mp ?_)
    simp [hje, hie, e]
  have hsl : ((s.gs.eraseIdx i).map (·.1)).Sublist (s.gs.map (·.1)) := (List.eraseIdx_sublist _ _).map _
  refine ⟨fun a w ha => ?_, fun a w ha => ?_, S.rep.mono (Ext.grow hF), fun q hq => ?_, S.nd.sublist hsl, S.tb, ⟨S.st.ff.trans (Ext.grow hF), S.st.fr, fun a h => ?_⟩⟩
  · by_cases n : a = p
    · rw [n, upd_same] at ha; cases ha; rw [n]; exact hp
    · rw [upd_ne n] at ha; exact S.ext a w ha
  · by_cases n : a = p
    · rw [n, upd_same] at ha; cases ha; exact isTT_tbl hut
    · rw [upd_ne n] at ha; exact S.ntb a w ha
  · obtain ⟨h1, w, h2, h3, h4⟩ := S.own q (sub q hq)
    exact ⟨by rw [upd_ne (hne q hq)]; exact h1, w, h2, h3, q.2.mono h4 (Ext.grow hF)⟩
  · rcases h with h | h
    · by_cases n : a = p
      · rw [n]
        exact S.st.nw p (.inr (List.mem_map.mpr ⟨(p, c), List.mem_of_getElem? hgi, rfl⟩))
      · rw [upd_ne n] at h
        exact S.st.nw a (.inl h)
    · exact S.st.nw a (.inr (hsl.subset h))
theorem Sta.drop (S : Sta Y s σ H F) (i : Nat) : Sta Y ⟨s.ρ, s.gs.eraseIdx i⟩ σ H F := by
  have hsl : ((s.gs.eraseIdx i).map (·.1)).Sublist (s.gs.map (·.1)) := (List.eraseIdx_sublist _ _).map _
  exact ⟨S.ext, S.ntb, S.rep, fun q hq => S.own q (List.mem_of_mem_eraseIdx hq), S.nd.sublist hsl, S.tb, ⟨S.st.ff, S.st.fr, fun a h => S.st.nw a (h.imp id fun h => hsl.subset h)⟩⟩
theorem Sta.perm (S : Sta Y s σ H F) {gs : Gs} (h : s.gs.Perm gs) : Sta Y ⟨s.ρ, gs⟩ σ H F :=
  ⟨S.ext, S.ntb, S.rep, fun q hq => S.own q (h.mem_iff.mpr hq), (h.map _).nodup_iff.mp S.nd, S.tb, ⟨S.st.ff, S.st.fr, fun a q => S.st.nw a (q.imp id fun q => (h.map _).mem_iff.mpr q)⟩⟩
theorem Sta.set (S : Sta Y s σ H F) {v : V} {A : Pv} (r : A.rep Y.X.K F v) (i : Nat) : Sta Y ⟨s.ρ.set i (some A), s.gs⟩ (σ.set i (some v)) H F := ⟨S.ext, S.ntb, S.rep.set r i, S.own, S.nd, S.tb, S.st⟩
theorem Sta.extT {H' : Hp} (S : Sta Y s σ H F) (e : LamX.ExtN H H') (t : TbOk Y.T H') : Sta Y s σ H' F := by
  have k : ∀ a o, H a = some o → isTbl o = false → H' a = some o := fun a o h1 h2 => e a o h1 fun ps z => by rw [z] at h2; cases h2
  exact ⟨fun a o h => k a o (S.ext a o h) (S.ntb a o h), S.ntb, S.rep, fun p hp => by
    obtain ⟨h1, o, h2, h3, h4⟩ := S.own p hp
    exact ⟨h1, o, k _ o h2 (isTT_tbl h3), h3, h4⟩, S.nd, t, ⟨S.st.ff, fun a o h1 h2 h3 => k a o (S.st.fr a o h1 h2 h3) h2, S.st.nw⟩⟩
theorem Sta.extN {H' : Hp} (S : Sta Y s σ H F) (e : LamX.ExtN H H') (t0 : LamX.Tabs (plainT Y.T) H') (tn : NestS Y.T H H') : Sta Y s σ H' F := S.extT e (S.tb.extN e t0 tn)
theorem Sta.length (S : Sta Y s σ H F) : σ.length = s.ρ.length := S.rep.length
end
end Sp
set_option maxHeartbeats 4000000
namespace Sp
open PySem L2
abbrev Frag := PySem.W.Frag
section
variable {δ ε : Type} {R : δ → ε → Prop}
theorem prd_get : ∀ {l : List δ} {m : List ε}, Paired R l m → ∀ {i : Nat} {y : ε}, m[i]? = some y → ∃ x, l[i]? = some x ∧ R x y
  | _, _, .nil, i, y, h => by simp at h
  | _, _, .cons r t, 0, y, h => by simp at h; subst h; exact ⟨_, rfl, r⟩
  | _, _, .cons r t, i + 1, y, h => by
    obtain ⟨x, h1, h2⟩ := prd_get t (i := i) (y := y) (by simpa using h)
    exact ⟨x, by simpa using h1, h2⟩
theorem prd_app {l l' : List δ} {m m' : List ε} (h : Paired R l m) (k : Paired R l' m') : Paired R (l ++ l') (m ++ m') := by
  induction h with
  | nil => exact k
  | cons r _ ih => exact .cons r ih
theorem prd_erase {l : List δ} {m : List ε} (h : Paired R l m) : ∀ i : Nat, Paired R (l.eraseIdx i) (m.eraseIdx i) := by
  induction h with
  | nil => intro i; exact .nil
  | cons r t ih =>
    intro i
    cases i with
    | zero => exact t
    | succ i => exact .cons r (ih i)
theorem prd_take {l : List δ} {m : List ε} (h : Paired R l m) : ∀ i : Nat, Paired R (l.take i) (m.take i) := by
  induction h with
  | nil => intro i; simp; exact .nil
  | cons r t ih =>
    intro i
    cases i with
    | zero => exact .nil
    | succ i => exact .cons r (ih i)
theorem prd_drop {l : List δ} {m : List ε} (h : Paired R l m) : ∀ i : Nat, Paired R (l.drop i) (m.drop i) := by
  induction h with
  | nil => intro i; simp; exact .nil
  | cons r t ih =>
    intro i
    cases i with
    | zero => exact .cons r t
    | succ i => exact ih i
theorem prd_set {l : List δ} {m : List ε} {x : δ} {y : ε} (h : Paired R l m) (k : R x y) : ∀ i : Nat, Paired R (l.set i x) (m.set i y) := by
  induction h with
  | nil => intro i; exact .nil
  | cons r t ih =>
    intro i
    cases i with
    | zero => exact .cons k t
    | succ i => exact .cons r (ih i)
theorem prd_map {l : List δ} {m : List ε} {ι κ : Type} {S : ι → κ → Prop} {f : δ → ι} {g : ε → κ} (h : Paired R l m) (k : ∀ a b, R a b → S (f a) (g b)) : Paired S (l.map f) (m.map g) := by
  induction h with
  | nil => exact .nil
  | cons r _ ih => exact .cons (k _ _ r) ih
end
class Enc (α : Type) where
  rep : Frag → Hp → V → α → Prop
  mono : ∀ {K : Frag} {F F' : Hp} {v : V} {a : α}, rep K F v a → Ext F F' → rep K F' v a
def pu {α : Type} [Enc α] (a : α) : Pv := ⟨fun K F v => Enc.rep K F v a, Enc.mono⟩
def raw (v : V) : Pv := ⟨fun _ _ u => u = v, fun h _ => h⟩
abbrev Txt := List Nat
def toStr (x : Txt) : Str := ⟨x.toArray⟩
theorem toStr_inj {x y : Txt} (h : toStr x = toStr y) : x = y := by
  have h2 : (⟨x.toArray⟩ : Str).cps = (⟨y.toArray⟩ : Str).cps := congrArg Str.cps h
  simpa using h2
theorem toStr_cps (x : Txt) : (toStr x).cps.toList = x := by simp [toStr]
theorem toStr_of (x : Str) : toStr x.cps.toList = x := by cases x; simp [toStr]
instance : Enc Int := ⟨fun _ _ v i => v = .int i, fun h _ => h⟩
instance : Enc Bool := ⟨fun _ _ v b => v = .bl b, fun h _ => h⟩
instance : Enc Unit := ⟨fun _ _ v _ => v = .non, fun h _ => h⟩
theorem toStr_app (x y : Txt) : toStr x ++ toStr y = toStr (x ++ y) := by
  show Str.append (toStr x) (toStr y) = _
  simp [Str.append, toStr]
theorem toStr_len (x : Txt) : (toStr x).length = x.length := by simp [toStr, Str.length]
instance encTxt : Enc (List Nat) := ⟨fun _ _ v x => v = .str (toStr x), fun h _ => h⟩
instance {α : Type} [Enc α] : Enc (Option α) := ⟨fun K F v o => match o with
  | none => v = .non
  | some a => Enc.rep K F v a, fun {K F F' v a} h e => by
    cases a with
    | none => exact h
    | some a => exact Enc.mono (α := α) h e⟩
instance {α β : Type} [Enc α] [Enc β] : Enc (Sum α β) := ⟨fun K F v o => match o with
  | .inl a => Enc.rep K F v a
  | .inr b => Enc.rep K F v b, fun {K F F' v a} h e => by
    cases a with
    | inl a => exact Enc.mono (α := α) h e
    | inr a => exact Enc.mono (α := β) h e⟩
abbrev Vs {α : Type} [Enc α] (K : Frag) (F : Hp) : List V → List α → Prop := Paired fun v a => Enc.rep K F v a
theorem Vs.mono {α : Type} [Enc α] {K : Frag} {F F' : Hp} {vs : List V} {xs : List α} (h : Vs K F vs xs) (e : Ext F F') : Vs K F' vs xs := Paired.mapP h fun _ _ r => Enc.mono r e
theorem rd_ext {F F' : Hp} {a : Addr} {u : HO} (h : Rd F a u) (e : Ext F F') : Rd F' a u := h.imp (e _ _) fun ⟨o, h⟩ => ⟨o, e _ _ h⟩
theorem sqL_ext {K : Frag} {F F' : Hp} {a : Addr} {xs : List V} (h : SqL K F a xs) (e : Ext F F') : SqL K F' a xs := h.imp (rd_ext · e) id
theorem sqT_ex2 {K : Frag} {F F' : Hp} {a : Addr} {xs : List V} (h : SqT K F a xs) (e : Ext F F') : SqT K F' a xs := h.imp (rd_ext · e) id
theorem sqT_ext {K : Frag} {F F' : Hp} {a : Addr} {xs : List V} (h : F a = some (.tup xs)) (e : Ext F F') : SqT K F' a xs := .inl (.inl (e _ _ h))
instance encList {α : Type} [Enc α] : Enc (List α) := ⟨fun K F v xs => ∃ p vs, v = .ref p ∧ SqL K F p vs ∧ Vs K F vs xs,
  fun ⟨p, vs, h1, h2, h3⟩ e => ⟨p, vs, h1, sqL_ext h2 e, h3.mono e⟩⟩
abbrev Tup := PySem.W.Tup
abbrev T3 := PySem.W.T3
abbrev T4 := PySem.W.T4
instance {α : Type} [Enc α] : Enc (Tup α) := ⟨fun K F v xs => ∃ p vs, v = .ref p ∧ SqT K F p vs ∧ Vs K F vs xs.items,
  fun ⟨p, vs, h1, h2, h3⟩ e => ⟨p, vs, h1, sqT_ex2 h2 e, h3.mono e⟩⟩
instance {α β : Type} [Enc α] [Enc β] : Enc (α × β) := ⟨fun K F v x => ∃ p a b, v = .ref p ∧ F p = some (.tup [a, b]) ∧ Enc.rep K F a x.1 ∧ Enc.rep K F b x.2,
  fun ⟨p, a, b, h1, h2, h3, h4⟩ e => ⟨p, a, b, h1, e _ _ h2, Enc.mono h3 e, Enc.mono h4 e⟩⟩
instance {α β γ : Type} [Enc α] [Enc β] [Enc γ] : Enc (T3 α β γ) := ⟨fun K F v x => ∃ p a b c, v = .ref p ∧ F p = some (.tup [a, b, c]) ∧ Enc.rep K F a x.a ∧ Enc.rep K F b x.b ∧ Enc.rep K F c x.c,
  fun ⟨p, a, b, c, h1, h2, h3, h4, h5⟩ e => ⟨p, a, b, c, h1, e _ _ h2, Enc.mono h3 e, Enc.mono h4 e, Enc.mono h5 e⟩⟩
instance {α β γ δ : Type} [Enc α] [Enc β] [Enc γ] [Enc δ] : Enc (T4 α β γ δ) := ⟨fun K F v x => ∃ p a b c d, v = .ref p ∧ F p = some (.tup [a, b, c, d]) ∧ Enc.rep K F a x.a ∧ Enc.rep K F b x.b ∧ Enc.rep K F c x.c ∧ Enc.rep K F d x.d,
  fun ⟨p, a, b, c, d, h1, h2, h3, h4, h5, h6⟩ e => ⟨p, a, b, c, d, h1, e _ _ h2, Enc.mono h3 e, Enc.mono h4 e, Enc.mono h5 e, Enc.mono h6 e⟩⟩
class Kk (κ : Type) where
  key : κ → Key
  inj : ∀ {a b : κ}, key a = key b → a = b
instance : Kk Int := ⟨Sum.inl, fun h => Sum.inl.inj h⟩
instance : Kk (List Nat) := ⟨fun x => Sum.inr (toStr x), fun h => toStr_inj (Sum.inr.inj h)⟩
structure Dct (κ ν : Type) where
  kvs : List (κ × ν)
abbrev KVs {κ ν : Type} [Kk κ] [Enc ν] (K : Frag) (F : Hp) : List (Key × V) → List (κ × ν) → Prop := Paired fun p q => p.1 = Kk.key q.1 ∧ Enc.rep K F p.2 q.2
theorem KVs.mono {κ ν : Type} [Kk κ] [Enc ν] {K : Frag} {F F' : Hp} {vs : List (Key × V)} {xs : List (κ × ν)} (h : KVs K F vs xs) (e : Ext F F') : KVs K F' vs xs := Paired.mapP h fun _ _ r => ⟨r.1, Enc.mono r.2 e⟩
instance encDct {κ ν : Type} [Kk κ] [Enc ν] : Enc (Dct κ ν) := ⟨fun K F v d => ∃ p od kvs, v = .ref p ∧ F p = some (.frz od (.dK kvs)) ∧ KVs K F kvs d.kvs,
  fun ⟨p, od, kvs, h1, h2, h3⟩ e => ⟨p, od, kvs, h1, e _ _ h2, h3.mono e⟩⟩
def lstc {α : Type} [Enc α] (xs : List α) : Cell := ⟨fun K F o => ∃ vs, o = .lst vs ∧ Vs K F vs xs, fun ⟨vs, h1, h2⟩ e => ⟨vs, h1, h2.mono e⟩⟩
def dctc {κ ν : Type} [Kk κ] [Enc ν] (d : List (κ × ν)) : Cell := ⟨fun K F o => ∃ kvs, o = .dK kvs ∧ KVs K F kvs d, fun ⟨vs, h1, h2⟩ e => ⟨vs, h1, h2.mono e⟩⟩
def dicec : Cell := ⟨fun _ _ o => ∃ i j k : Int, o = .lst [.int i, .int j, .int k], fun h _ => h⟩
def Po (Y : DX) (σ : St) (F0 : Hp) (Q : Pv → DSt → Prop) : VK := fun v H' => ∃ A s' F', Ext F0 F' ∧ A.rep Y.X.K F' v ∧ Sta Y s' σ H' F' ∧ Q A s'
def Pp (Y : DX) (s : DSt) (σ : St) (F0 : Hp) (A : Pv) : VK := fun v H' => ∃ F', Ext F0 F' ∧ A.rep Y.X.K F' v ∧ Sta Y s σ H' F'
def Pt (Y : DX) (σ : St) (F0 : Hp) (Q : Bool → DSt → Prop) : Bool → Hp → Prop := fun b H' => ∃ s' F', Ext F0 F' ∧ Sta Y s' σ H' F' ∧ Q b s'
def Ev (Y : DX) (s : DSt) (e : Expr) (Q : Pv → DSt → Prop) : Prop :=
  ∀ F0 σ H F, Ext F0 F → Sta Y s σ H F → WE Y.X e σ H (Po Y σ F0 Q)
def EvP (Y : DX) (s : DSt) (e : Expr) (A : Pv) : Prop :=
  ∀ F0 σ H F, Ext F0 F → Sta Y s σ H F → WE Y.X e σ H (Pp Y s σ F0 A)
def Et (Y : DX) (s : DSt) (e : Expr) (Q : Bool → DSt → Prop) : Prop :=
  ∀ F0 σ H F, Ext F0 F → Sta Y s σ H F → WT Y.X e σ H (Pt Y σ F0 Q)
def EtP (Y : DX) (s : DSt) (e : Expr) (b : Bool) : Prop :=
  ∀ F0 σ H F, Ext F0 F → Sta Y s σ H F → WT Y.X e σ H fun b' H' => b' = b ∧ ∃ F', Ext F0 F' ∧ Sta Y s σ H' F'
section
variable {Y : DX} {s : DSt} {e a b c : Expr} {pos : Pos}
theorem Ev.of {A : Pv} {Q : Pv → DSt → Prop} (h : EvP Y s e A) (q : Q A s) : Ev Y s e Q := fun F0 σ H F e0 S => (h F0 σ H F e0 S).mono fun v H' ⟨F', e1, r, S'⟩ => ⟨A, s, F', e1, r, S', q⟩
theorem Ev.mono {Q Q' : Pv → DSt → Prop} (h : Ev Y s e Q) (k : ∀ A s', Q A s' → Q' A s') : Ev Y s e Q' := fun F0 σ H F e0 S => (h F0 σ H F e0 S).mono fun v H' ⟨A, s', F', e1, r, S', q⟩ => ⟨A, s', F', e1, r, S', k _ _ q⟩
theorem EvP.of {A : Pv} (h : Ev Y s e fun B s' => B = A ∧ s' = s) : EvP Y s e A := fun F0 σ H F e0 S => (h F0 σ H F e0 S).mono fun v H' ⟨B, s', F', e1, r, S', q1, q2⟩ => by subst q1 q2; exact ⟨F', e1, r, S'⟩
theorem Et.of {x : Bool} {Q : Bool → DSt → Prop} (h : EtP Y s e x) (q : Q x s) : Et Y s e Q := fun F0 σ H F e0 S => (h F0 σ H F e0 S).mono fun v H' ⟨e2, F', e1, S'⟩ => by subst e2; exact ⟨s, F', e1, S', q⟩
theorem Et.mono {Q Q' : Bool → DSt → Prop} (h : Et Y s e Q) (k : ∀ A s', Q A s' → Q' A s') : Et Y s e Q' := fun F0 σ H F e0 S => (h F0 σ H F e0 S).mono fun v H' ⟨s', F', e1, S', q⟩ => ⟨s', F', e1, S', k _ _ q⟩
theorem EtP.of {x : Bool} (h : Et Y s e fun y s' => y = x ∧ s' = s) : EtP Y s e x := fun F0 σ H F e0 S => (h F0 σ H F e0 S).mono fun v H' ⟨s', F', e1, S', q1, q2⟩ => by subst q1 q2; exact ⟨rfl, F', e1, S'⟩
theorem EvP.to {A B : Pv} (h : EvP Y s e A) (eq : A = B) : EvP Y s e B := eq ▸ h
theorem EtP.to {x y : Bool} (h : EtP Y s e x) (eq : x = y) : EtP Y s e y := eq ▸ h
theorem ev2 {Q : Pv → DSt → Prop} {r : R2} (P : PE Y.X e (tOp r (WE Y.X a) (WE Y.X b)))
    (h : Ev Y s a fun A s1 => Ev Y s1 b fun B s2 => ∀ F0 σ H F v u, Ext F0 F → Sta Y s2 σ H F → A.rep Y.X.K F v → B.rep Y.X.K F u → r v u H (Po Y σ F0 Q)) : Ev Y s e Q := fun F0 σ H F e0 S => by
  refine .of P ?_
  refine (h F σ H F (.refl _) S).mono fun v H1 ⟨A, s1, F1, e1, r1, S1, q1⟩ => ?_
  refine (q1 F1 σ H1 F1 (.refl _) S1).mono fun u H2 ⟨B, s2, F2, e2, r2, S2, q2⟩ => ?_
  exact q2 F0 σ H2 F2 v u ((e0.trans e1).trans e2) S2 (A.mono r1 e2) r2
theorem evp2 {A B C : Pv} {r : R2} (P : PE Y.X e (tOp r (WE Y.X a) (WE Y.X b))) (ha : EvP Y s a A) (hb : EvP Y s b B)
    (h : ∀ F0 σ H F v u, Ext F0 F → Sta Y s σ H F → A.rep Y.X.K F v → B.rep Y.X.K F u → r v u H (Pp Y s σ F0 C)) : EvP Y s e C := fun F0 σ H F e0 S => by
  refine .of P ?_
  refine (ha F σ H F (.refl _) S).mono fun v H1 ⟨F1, e1, r1, S1⟩ => ?_
  refine (hb F1 σ H1 F1 (.refl _) S1).mono fun u H2 ⟨F2, e2, r2, S2⟩ => ?_
  exact h F0 σ H2 F2 v u ((e0.trans e1).trans e2) S2 (A.mono r1 e2) r2
theorem ev1 {Q : Pv → DSt → Prop} {r : V → Hp → VK → Prop} (P : PE Y.X e fun σ H Q => WE Y.X a σ H fun x H1 => r x H1 Q)
    (h : Ev Y s a fun A s1 => ∀ F0 σ H F v, Ext F0 F → Sta Y s1 σ H F → A.rep Y.X.K F v → r v H (Po Y σ F0 Q)) : Ev Y s e Q := fun F0 σ H F e0 S => by
  refine .of P ?_
  refine (h F σ H F (.refl _) S).mono fun v H1 ⟨A, s1, F1, e1, r1, S1, q1⟩ => ?_
  exact q1 F0 σ H1 F1 v (e0.trans e1) S1 r1
theorem et_val {Q : Bool → DSt → Prop} (he : ∀ whole, isTrue e Y.X.env whole = (do let v ← whole; standAt e.pos; holding [v] (truthy v))) (h : Ev Y s e fun A s' => ∃ x : Bool, A = pu x ∧ Q x s') : Et Y s e Q := fun F0 σ H F e0 S => by
  refine .of (pt_val pe_we he) ?_
  refine (h F0 σ H F e0 S).mono fun v H' ⟨A, s', F', e1, r, S', x, ea, q⟩ => ?_
  subst ea
  exact ⟨x, r, s', F', e1, S', q⟩
theorem evp_var {A : Pv} {x : Str} (i : Nat) (hN : Y.X.N[i]? = some x) (hv : Vis Y.X.env.scope x) (hA : s.ρ[i]? = some (some A)) (hd : (x == ("__debug__" : Str)) = false := by decide) (hcd : (x == ("__classdict__" : Str)) = false := by decide) :
    EvP Y s (.Name x pos) A := fun F0 σ H F e0 S => by
  obtain ⟨v, e1, r⟩ := S.rep.get hA
  exact .of (pe_var hN hv hd hcd) ⟨v, e1, F, e0, r, S⟩
theorem evp_int {i : Int} {j : Nat} : EvP Y s (.Constant (.int i) j pos) (pu i) := fun F0 σ H F e0 S => .of pe_int ⟨F, e0, rfl, S⟩
theorem evp_bl {x : Bool} {j : Nat} : EvP Y s (.Constant (.bool x) j pos) (pu x) := fun F0 σ H F e0 S => .of pe_bl ⟨F, e0, rfl, S⟩
theorem evp_non {j : Nat} : EvP Y s (.Constant .none j pos) (pu ()) := fun F0 σ H F e0 S => .of pe_non ⟨F, e0, rfl, S⟩
theorem evp_str {x : Str} (y : Txt) {j : Nat} (hy : toStr y = x) : EvP Y s (.Constant (.str x) j pos) (pu y) := fun F0 σ H F e0 S => .of pe_str ⟨F, e0, by show V.str x = V.str (toStr y); rw [hy], S⟩
theorem evp_glob {x : Str} {v : V} {u : Value} {A : Pv} (hg : Gl Y.X x) (hm : Y.X.mg x = some u) (r : RelV v u) (hA : ∀ F, A.rep Y.X.K F v) (hd : (x == ("__debug__" : Str)) = false := by decide) : EvP Y s (.Name x pos) A :=
  fun F0 σ H F e0 S => .of (pe_glob hg hm r hd) ⟨F, e0, hA F, S⟩
theorem ev_ints {Q : Pv → DSt → Prop} {α : Type} [Enc α] {C : Int → Int → Prop} {g : Int → Int → V} {f : Int → Int → α} (P : PE Y.X e (tOp (rI C g) (WE Y.X a) (WE Y.X b))) (hg : ∀ K F i j, Enc.rep K F (g i j) (f i j))
    (h : Ev Y s a fun A s1 => ∃ i : Int, A = pu i ∧ Ev Y s1 b fun B s2 => ∃ j : Int, B = pu j ∧ C i j ∧ Q (pu (f i j)) s2) : Ev Y s e Q :=
  ev2 P (h.mono fun A s1 ⟨i, ea, h1⟩ => h1.mono fun B s2 ⟨j, eb, hc, q⟩ F0 σ H F v u e0 S rv ru => by
    subst ea eb
    exact ⟨i, j, rv, ru, hc, _, s2, F, e0, hg _ _ _ _, S, q⟩)
theorem evp_ints {α : Type} [Enc α] {C : Int → Int → Prop} {g : Int → Int → V} {f : Int → Int → α} {i j : Int} (P : PE Y.X e (tOp (rI C g) (WE Y.X a) (WE Y.X b))) (hg : ∀ K F i j, Enc.rep K F (g i j) (f i j))
    (ha : EvP Y s a (pu i)) (hb : EvP Y s b (pu j)) (hc : C i j) : EvP Y s e (pu (f i j)) :=
  .of (ev_ints P hg (.of ha ⟨i, rfl, .of hb ⟨j, rfl, hc, rfl, rfl⟩⟩))
theorem ev_ints0 {Q : Pv → DSt → Prop} {α : Type} [Enc α] {g : Int → Int → V} {f : Int → Int → α} (P : PE Y.X e (tOp (rI0 g) (WE Y.X a) (WE Y.X b))) (hg : ∀ K F i j, Enc.rep K F (g i j) (f i j))
    (h : Ev Y s a fun A s1 => ∃ i : Int, A = pu i ∧ Ev Y s1 b fun B s2 => ∃ j : Int, B = pu j ∧ Q (pu (f i j)) s2) : Ev Y s e Q :=
  ev2 P (h.mono fun A s1 ⟨i, ea, h1⟩ => h1.mono fun B s2 ⟨j, eb, q⟩ F0 σ H F v u e0 S rv ru => by
    subst ea eb
    exact ⟨i, j, rv, ru, _, s2, F, e0, hg _ _ _ _, S, q⟩)
theorem evp_ints0 {α : Type} [Enc α] {g : Int → Int → V} {f : Int → Int → α} {i j : Int} (P : PE Y.X e (tOp (rI0 g) (WE Y.X a) (WE Y.X b))) (hg : ∀ K F i j, Enc.rep K F (g i j) (f i j))
    (ha : EvP Y s a (pu i)) (hb : EvP Y s b (pu j)) : EvP Y s e (pu (f i j)) :=
  .of (ev_ints0 P hg (.of ha ⟨i, rfl, .of hb ⟨j, rfl, rfl, rfl⟩⟩))
section
variable {i j : Int} {Q : Pv → DSt → Prop}
theorem evp_add (ha : EvP Y s a (pu i)) (hb : EvP Y s b (pu j)) : EvP Y s (.BinOp a .Add b pos) (pu (i + j)) := evp_ints0 (f := fun i j => i + j) (pe_op op_add pe_we pe_we) (fun _ _ _ _ => rfl) ha hb
theorem evp_sub (ha : EvP Y s a (pu i)) (hb : EvP Y s b (pu j)) : EvP Y s (.BinOp a .Sub b pos) (pu (i - j)) := evp_ints0 (f := fun i j => i - j) (pe_op op_sub pe_we pe_we) (fun _ _ _ _ => rfl) ha hb
theorem evp_mul (ha : EvP Y s a (pu i)) (hb : EvP Y s b (pu j)) (hc : CMul i j) : EvP Y s (.BinOp a .Mult b pos) (pu (i * j)) := evp_ints (f := fun i j => i * j) (pe_op op_mul pe_we pe_we) (fun _ _ _ _ => rfl) ha hb hc
theorem evp_mod (ha : EvP Y s a (pu i)) (hb : EvP Y s b (pu j)) (hc : 0 < j) : EvP Y s (.BinOp a .Mod b pos) (pu (i % j)) := evp_ints (f := fun i j => i % j) (pe_op op_mod pe_we pe_we) (fun _ _ _ _ => rfl) ha hb hc
theorem evp_fdiv (ha : EvP Y s a (pu i)) (hb : EvP Y s b (pu j)) (hc : CDiv i j) : EvP Y s (.BinOp a .FloorDiv b pos) (pu (i / j)) := evp_ints (f := fun i j => i / j) (pe_op op_fdiv pe_we pe_we) (fun _ _ _ _ => rfl) ha hb hc
theorem evp_pow (ha : EvP Y s a (pu i)) (hb : EvP Y s b (pu j)) (hc : CPow i j) : EvP Y s (.BinOp a .Pow b pos) (pu (i ^ j.toNat)) := evp_ints (f := fun i j => i ^ j.toNat) (pe_op op_pow pe_we pe_we) (fun _ _ _ _ => rfl) ha hb hc
end
end
end Sp
set_option maxHeartbeats 4000000
namespace Sp
open PySem L2
open PySem.W (Datum DatumOrd SomeDatum Holds HoldAll)
instance txtDatum : Datum (List Nat) where
  toD x := .str (toStr x)
  plain _ := rfl
  eqv a b := by
    simp only [PyData.eqv]
    rw [Bool.eq_iff_iff, beq_iff_eq, decide_eq_true_eq]
    exact ⟨toStr_inj, fun h => by rw [h]⟩
  depth := 0
  depth_le _ := Nat.le_refl _
instance txtOrd : DatumOrd (List Nat) where
  toDatum := txtDatum
  lt a b := decide (a < b)
  alike a b := DatumOrd.alike (toStr a) (toStr b)
  notNone a := DatumOrd.notNone (toStr a)
  lt_eq a b := by
    have h := DatumOrd.lt_eq (toStr a) (toStr b)
    refine h.trans ?_
    show decide ((toStr a).cps.toList < (toStr b).cps.toList) = _
    rw [toStr_cps, toStr_cps]
instance : SomeDatum (List Nat) := ⟨fun _ => by show PyData.eqv .none (.str _) = false; simp only [PyData.eqv], fun _ => by show PyData.eqv (.str _) .none = false; simp only [PyData.eqv]⟩
class Dne (α β : Type) [DecidableEq α] [DecidableEq β] [Datum α] [Datum β] : Prop where
  ne : ∀ (a : α) (b : β), PyData.eqv (Datum.toD a) (Datum.toD b) = false
  ne' : ∀ (a : α) (b : β), PyData.eqv (Datum.toD b) (Datum.toD a) = false
section
variable {α β γ δ : Type} [DecidableEq α] [Datum α] [DecidableEq β] [Datum β] [DecidableEq γ] [Datum γ] [DecidableEq δ] [Datum δ]
instance sumDatum [Dne α β] : Datum (α ⊕ β) where
  toD x := match x with
    | .inl a => Datum.toD a
    | .inr b => Datum.toD b
  plain x := by
    cases x with
    | inl a => exact Datum.plain a
    | inr b => exact Datum.plain b
  eqv x y := by
    cases x with
    | inl a =>
      cases y with
      | inl b => show PyData.eqv (Datum.toD a) (Datum.toD b) = _; rw [Datum.eqv]; simp
      | inr b => show PyData.eqv (Datum.toD a) (Datum.toD b) = _; rw [Dne.ne]; simp
    | inr a =>
      cases y with
      | inl b => show PyData.eqv (Datum.toD a) (Datum.toD b) = _; rw [Dne.ne']; simp
      | inr b => show PyData.eqv (Datum.toD a) (Datum.toD b) = _; rw [Datum.eqv]; simp
  depth := max (Datum.depth α) (Datum.depth β)
  depth_le x := by
    cases x with
    | inl a => exact Nat.le_trans (Datum.depth_le a) (Nat.le_max_left _ _)
    | inr b => exact Nat.le_trans (Datum.depth_le b) (Nat.le_max_right _ _)
instance : Dne Int (List Nat) := ⟨fun _ _ => rfl, fun _ _ => rfl⟩
instance : Dne Bool (List Nat) := ⟨fun _ _ => rfl, fun _ _ => rfl⟩
instance : Dne Unit (List Nat) := ⟨fun _ _ => rfl, fun _ _ => rfl⟩
instance : Dne (List α) (List Nat) := ⟨fun _ _ => rfl, fun _ _ => rfl⟩
instance : Dne (Tup α) (List Nat) := ⟨fun _ _ => rfl, fun _ _ => rfl⟩
instance : Dne (α × β) (List Nat) := ⟨fun _ _ => rfl, fun _ _ => rfl⟩
instance : Dne (T3 α β γ) (List Nat) := ⟨fun _ _ => rfl, fun _ _ => rfl⟩
instance : Dne (T4 α β γ δ) (List Nat) := ⟨fun _ _ => rfl, fun _ _ => rfl⟩
instance [SomeDatum α] [Dne α (List Nat)] : Dne (Option α) (List Nat) := ⟨fun a b => by cases a with
  | none => rfl
  | some a => exact Dne.ne a b, fun a b => by cases a with
  | none => rfl
  | some a => exact Dne.ne' a b⟩
end
class Dat (α : Type) [DecidableEq α] [Datum α] [Enc α] : Prop where
  dp : ∀ {K : Frag} {F : Hp} {v : V} {a : α}, Enc.rep K F v a → Dp K F v (Datum.toD a)
instance : Dat Int := ⟨fun h => by cases h; exact .int _⟩
instance : Dat Bool := ⟨fun h => by cases h; exact .bl _⟩
instance : Dat Unit := ⟨fun h => by cases h; exact .non⟩
instance datTxt : Dat (List Nat) := ⟨fun h => by cases h; exact .str _⟩
section
variable {α β γ δ : Type} [DecidableEq α] [Datum α] [Enc α] [Dat α] [DecidableEq β] [Datum β] [Enc β] [Dat β] [DecidableEq γ] [Datum γ] [Enc γ] [Dat γ] [DecidableEq δ] [Datum δ] [Enc δ] [Dat δ]
theorem dpAll {K : Frag} {F : Hp} {vs : List V} {xs : List α} (h : Vs K F vs xs) : DpAll K F vs (xs.map Datum.toD) := by
  induction h with
  | nil => exact .nil
  | cons r _ ih => exact .cons (Dat.dp r) ih
instance datList : Dat (List α) := ⟨fun ⟨p, vs, h1, h2, h3⟩ => by subst h1; exact .lst h2 (dpAll h3)⟩
instance : Dat (Tup α) := ⟨fun ⟨p, vs, h1, h2, h3⟩ => by subst h1; exact .tup h2 (dpAll h3)⟩
instance : Dat (α × β) := ⟨fun ⟨p, a, b, h1, h2, h3, h4⟩ => by subst h1; exact .tup (.of h2) (.cons (Dat.dp h3) (.cons (Dat.dp h4) .nil))⟩
instance : Dat (T3 α β γ) := ⟨fun ⟨p, a, b, c, h1, h2, h3, h4, h5⟩ => by subst h1; exact .tup (.of h2) (.cons (Dat.dp h3) (.cons (Dat.dp h4) (.cons (Dat.dp h5) .nil)))⟩
instance : Dat (T4 α β γ δ) := ⟨fun ⟨p, a, b, c, d, h1, h2, h3, h4, h5, h6⟩ => by subst h1; exact .tup (.of h2) (.cons (Dat.dp h3) (.cons (Dat.dp h4) (.cons (Dat.dp h5) (.cons (Dat.dp h6) .nil))))⟩
instance [SomeDatum α] : Dat (Option α) := ⟨fun {K F v a} h => by
  cases a with
  | none => cases h; exact .non
  | some a => exact Dat.dp (α := α) h⟩
instance datSum [Dne α β] : Dat (α ⊕ β) := ⟨fun {K F v a} h => by
  cases a with
  | inl a => exact Dat.dp (α := α) h
  | inr a => exact Dat.dp (α := β) h⟩
theorem enc_holds {X : Cx} {pins : List (Addr × Obj)} {σ : St} {H : Hp} {s : Shared} {v : V} {u : Value} {a : α} (I : Inv X pins σ H s) (r : Enc.rep X.K H v a) (rv : RelV v u) : Holds s.heap u a := Dp.reads I _ v u (Dat.dp r) rv
theorem vs_holds {X : Cx} {pins : List (Addr × Obj)} {σ : St} {H : Hp} {s : Shared} {vs : List V} {us : List Value} {xs : List α} (I : Inv X pins σ H s) (r : Vs X.K H vs xs) (rv : Vals vs us) : HoldAll s.heap us xs := Dp.readsAll I _ vs us (dpAll r) rv
end
def srt {α : Type} [DecidableEq α] [DatumOrd α] (xs : List α) : List α := xs.mergeSort fun a b => !DatumOrd.lt b a
section
variable {X : Cx} {α β : Type} [DecidableEq α] [Enc α]
def LRd (K : Frag) (H : Hp) (y : V) (xs : List α) : Prop := ∃ p zs, y = .ref p ∧ SqL K H p zs ∧ Vs K H zs xs
section
variable [Datum α] [Dat α]
theorem op_eqT (hu : X.A.units + 64 < cLine) (hd : Datum.depth α ≤ 60) : OpR X (compareOp .Eq) (fun x y H Q => ∃ a b : α, Enc.rep X.K H x a ∧ Enc.rep X.K H y b ∧ Q (.bl (decide (a = b))) H) := by
  intro pins s σ H x y v u Q I rx ry ⟨a, b, ha, hb, q⟩
  exact PySem.W.eq_datum (enc_holds I ha rx) (enc_holds I hb ry) (by omega) ⟨.bl _, H, I, rfl, q⟩
theorem op_neT (hu : X.A.units + 64 < cLine) (hd : Datum.depth α ≤ 60) : OpR X (compareOp .NotEq) (fun x y H Q => ∃ a b : α, Enc.rep X.K H x a ∧ Enc.rep X.K H y b ∧ Q (.bl (decide (a ≠ b))) H) := by
  intro pins s σ H x y v u Q I rx ry ⟨a, b, ha, hb, q⟩
  exact PySem.W.ne_datum (enc_holds I ha rx) (enc_holds I hb ry) (by omega) ⟨.bl _, H, I, rfl, q⟩
theorem op_inT (hu : X.A.units + 64 < cLine) (hd : Datum.depth α ≤ 60) : OpR X (compareOp .In) (fun x y H Q => ∃ (a : α) (xs : List α), Enc.rep X.K H x a ∧ LRd X.K H y xs ∧ Q (.bl (decide (a ∈ xs))) H) := by
  intro pins s σ H x y v u Q I rx ry ⟨a, xs, ha, ⟨p, zs, e, hq, hz⟩, q⟩
  subst e
  obtain ⟨its, rv, hl, _⟩ := I.list hq
  cases ry
  exact PySem.W.in_list_datum (vs := its.toArray) hl.isList (vs_holds I hz rv) (enc_holds I ha rx) (by omega) ⟨.bl _, H, I, rfl, q⟩
theorem op_ninT (hu : X.A.units + 64 < cLine) (hd : Datum.depth α ≤ 60) : OpR X (compareOp .NotIn) (fun x y H Q => ∃ (a : α) (xs : List α), Enc.rep X.K H x a ∧ LRd X.K H y xs ∧ Q (.bl (decide (a ∉ xs))) H) := by
  intro pins s σ H x y v u Q I rx ry ⟨a, xs, ha, ⟨p, zs, e, hq, hz⟩, q⟩
  subst e
  obtain ⟨its, rv, hl, _⟩ := I.list hq
  cases ry
  exact PySem.W.notIn_list_datum (vs := its.toArray) hl.isList (vs_holds I hz rv) (enc_holds I ha rx) (by omega) ⟨.bl _, H, I, rfl, q⟩
theorem op_inH (hu : X.A.units + 64 < cLine) (hd : Datum.depth α ≤ 60) : OpR X (compareOp .In) (fun x y H Q => ∃ (a : α) (xs : Tup α), Enc.rep X.K H x a ∧ Enc.rep X.K H y xs ∧ Q (.bl (decide (a ∈ xs.items))) H) := by
  intro pins s σ H x y v u Q I rx ry ⟨a, xs, ha, ⟨p, zs, e, hq, hz⟩, q⟩
  subst e
  obtain ⟨its, rv, hl, _⟩ := I.tuple hq
  cases ry
  exact PySem.W.in_tuple_datum (vs := its.toArray) hl (vs_holds I hz rv) (enc_holds I ha rx) (by omega) ⟨.bl _, H, I, rfl, q⟩
theorem op_ninH (hu : X.A.units + 64 < cLine) (hd : Datum.depth α ≤ 60) : OpR X (compareOp .NotIn) (fun x y H Q => ∃ (a : α) (xs : Tup α), Enc.rep X.K H x a ∧ Enc.rep X.K H y xs ∧ Q (.bl (decide (a ∉ xs.items))) H) := by
  intro pins s σ H x y v u Q I rx ry ⟨a, xs, ha, ⟨p, zs, e, hq, hz⟩, q⟩
  subst e
  obtain ⟨its, rv, hl, _⟩ := I.tuple hq
  cases ry
  exact PySem.W.notIn_tuple_datum (vs := its.toArray) hl (vs_holds I hz rv) (enc_holds I ha rx) (by omega) ⟨.bl _, H, I, rfl, q⟩
theorem each_of {K : Frag} {H : Hp} : ∀ {zs : List V} {its : List Value} {xs : List α}, Vs K H zs xs → Vals zs its → PySem.W.EachIs (fun u a => ∃ z, Enc.rep K H z a ∧ RelV z u) its xs
  | _, _, _, .nil, h => by cases h; exact .nil
  | _, _, _, .cons r t, h => by
    cases h with
    | cons r2 t2 => exact .cons ⟨_, r, r2⟩ (each_of t t2)
theorem each_back {K : Frag} {H : Hp} : ∀ {its : List Value} {xs : List α}, PySem.W.EachIs (fun u a => ∃ z, Enc.rep K H z a ∧ RelV z u) its xs → ∃ zs, Vs K H zs xs ∧ Vals zs its
  | _, _, .nil => ⟨[], .nil, .nil⟩
  | _, _, .cons ⟨z, r1, r2⟩ t => by
    obtain ⟨zs, h1, h2⟩ := each_back t
    exact ⟨z :: zs, .cons r1 h1, .cons r2 h2⟩
end
class Srtb (α : Type) [DecidableEq α] [Datum α] : Prop where
  kd : (∀ a : α, ∃ x r, Datum.toD a = .tuple (x :: r)) ∨ ∀ a : α, Datum.toD a ≠ .none ∧ ∀ xs, Datum.toD a ≠ .tuple xs
instance : Srtb Int := ⟨.inr fun _ => ⟨(by intro h; cases h), (by intro _ h; cases h)⟩⟩
instance : Srtb (List Nat) := ⟨.inr fun _ => ⟨(by intro h; cases h), (by intro _ h; cases h)⟩⟩
section
variable {γ ε : Type} [DecidableEq β] [DecidableEq γ] [DecidableEq ε] [Datum α] [Datum β] [Datum γ] [Datum ε]
instance : Srtb (List α) := ⟨.inr fun _ => ⟨(by intro h; cases h), (by intro _ h; cases h)⟩⟩
instance : Srtb (α × β) := ⟨.inl fun _ => ⟨_, _, rfl⟩⟩
instance : Srtb (T3 α β γ) := ⟨.inl fun _ => ⟨_, _, rfl⟩⟩
instance : Srtb (T4 α β γ ε) := ⟨.inl fun _ => ⟨_, _, rfl⟩⟩
end
section
variable [DatumOrd α] [Dat α]
theorem sort_alike (xs : List α) : PySem.W.AllAlike (xs.map Datum.toD) := fun d hd e he => by
  obtain ⟨a, _, rfl⟩ := List.mem_map.mp hd
  obtain ⟨b, _, rfl⟩ := List.mem_map.mp he
  exact DatumOrd.alike a b
theorem sort_able [Srtb α] (xs : List α) : PySem.W.Sortable (xs.map Datum.toD) := by
  rcases Srtb.kd (α := α) with k | k
  · refine .inl fun d hd => ?_
    obtain ⟨a, _, rfl⟩ := List.mem_map.mp hd
    exact k a
  · refine .inr fun d hd => ?_
    obtain ⟨a, _, rfl⟩ := List.mem_map.mp hd
    exact k a
theorem srt_eq (xs : List α) : xs.mergeSort (PySem.W.dataLe false Datum.toD) = srt xs := by
  unfold srt
  congr 1
  funext a b
  show (!PySem.W.dataLt (Datum.toD b) (Datum.toD a)) = _
  rw [DatumOrd.lt_eq]
theorem toD_inj {a b : α} (h : Datum.toD a = Datum.toD b) : a = b := by
  have h1 := Datum.eqv a b
  have h2 := Datum.eqv a a
  rw [h] at h2
  rw [h] at h1
  rw [h1] at h2
  simpa using h2
theorem holds_one {h : Heap} {v : Value} {a b : α} (x : Holds h v a) (y : Holds h v b) : a = b := by
  obtain ⟨as, r⟩ := x
  obtain ⟨bs, r2⟩ := y
  have e1 := SeqAt.readOf_plain (Datum.plain a) r
  have e2 := SeqAt.readOf_plain (Datum.plain b) r2
  exact toD_inj (e1.symm.trans e2)
end
theorem vs_ints {K : Frag} {H : Hp} : ∀ {zs : List V} {ns : List Int}, Vs K H zs ns → zs = ns.map V.int
  | _, _, .nil => rfl
  | _, _, .cons r t => by rw [List.map_cons, ← vs_ints t]; congr 1
theorem vs_txts {K : Frag} {H : Hp} : ∀ {zs : List V} {ns : List (List Nat)}, Vs K H zs ns → zs = (ns.map toStr).map V.str
  | _, _, .nil => rfl
  | _, _, .cons r t => by rw [List.map_cons, List.map_cons, ← vs_txts t]; congr 1
def joinT (a : List Nat) : List (List Nat) → List Nat
  | [] => []
  | [x] => x
  | x :: y :: r => x ++ a ++ joinT a (y :: r)
end
end Sp
set_option maxHeartbeats 4000000
namespace Sp
open PySem L2
abbrev Rvs (K : Frag) (F : Hp) : List V → List Pv → Prop := Paired fun v A => A.rep K F v
theorem Rvs.mono {K : Frag} {F F' : Hp} {vs : List V} {As : List Pv} (h : Rvs K F vs As) (e : Ext F F') : Rvs K F' vs As := Paired.mapP h fun _ _ r => Pv.mono _ r e
def Evs (Y : DX) (s : DSt) (es : List Expr) (Q : List Pv → DSt → Prop) : Prop :=
  ∀ F0 σ H F, Ext F0 F → Sta Y s σ H F → WA Y.X es σ H fun vs H' => ∃ As s' F', Ext F0 F' ∧ Rvs Y.X.K F' vs As ∧ Sta Y s' σ H' F' ∧ Q As s'
section
variable {Y : DX} {s : DSt} {e a b c : Expr} {es : List Expr} {pos : Pos} {Q : Pv → DSt → Prop}
theorem evs_nil {Q : List Pv → DSt → Prop} (h : Q [] s) : Evs Y s [] Q := fun F0 σ H F e0 S => .of pa_nil ⟨[], s, F, e0, .nil, S, h⟩
theorem evs_cons {Q : List Pv → DSt → Prop} (h : Ev Y s e fun A s1 => Evs Y s1 es fun As s2 => Q (A :: As) s2) (hs : starEach (e :: es) Y.X.env = (false, eval e Y.X.env) :: starEach es Y.X.env := by rfl) : Evs Y s (e :: es) Q := fun F0 σ H F e0 S => by
  refine .of (pa_cons pe_we pa_wa hs) ?_
  refine (h F σ H F (.refl _) S).mono fun v H1 ⟨A, s1, F1, e1, r1, S1, q1⟩ => ?_
  refine (q1 F1 σ H1 F1 (.refl _) S1).mono fun vs H2 ⟨As, s2, F2, e2, r2, S2, q2⟩ => ?_
  exact ⟨A :: As, s2, F2, (e0.trans e1).trans e2, .cons (A.mono r1 e2) r2, S2, q2⟩
def EvsP (Y : DX) (s : DSt) (es : List Expr) (As : List Pv) : Prop :=
  ∀ F0 σ H F, Ext F0 F → Sta Y s σ H F → WA Y.X es σ H fun vs H' => ∃ F', Ext F0 F' ∧ Rvs Y.X.K F' vs As ∧ Sta Y s σ H' F'
theorem Evs.of {As : List Pv} {Q : List Pv → DSt → Prop} (h : EvsP Y s es As) (q : Q As s) : Evs Y s es Q := fun F0 σ H F e0 S => (h F0 σ H F e0 S).mono fun vs H' ⟨F', e1, r, S'⟩ => ⟨As, s, F', e1, r, S', q⟩
theorem Evs.mono {Q Q' : List Pv → DSt → Prop} (h : Evs Y s es Q) (k : ∀ A s', Q A s' → Q' A s') : Evs Y s es Q' := fun F0 σ H F e0 S => (h F0 σ H F e0 S).mono fun v H' ⟨A, s', F', e1, r, S', q⟩ => ⟨A, s', F', e1, r, S', k _ _ q⟩
theorem EvsP.of {As : List Pv} (h : Evs Y s es fun Bs s' => Bs = As ∧ s' = s) : EvsP Y s es As := fun F0 σ H F e0 S => (h F0 σ H F e0 S).mono fun v H' ⟨B, s', F', e1, r, S', q1, q2⟩ => by subst q1 q2; exact ⟨F', e1, r, S'⟩
theorem evsp_nil : EvsP Y s [] [] := .of (evs_nil ⟨rfl, rfl⟩)
theorem evsp_cons {A : Pv} {As : List Pv} (h : EvP Y s e A) (k : EvsP Y s es As) (hs : starEach (e :: es) Y.X.env = (false, eval e Y.X.env) :: starEach es Y.X.env := by rfl) : EvsP Y s (e :: es) (A :: As) :=
  .of (evs_cons (.of h (.of k ⟨rfl, rfl⟩)) hs)
section
variable {α β γ : Type} [Enc α] [Enc β] [Enc γ]
theorem rvs_pu {K : Frag} {F : Hp} {vs : List V} : ∀ {xs : List α}, Rvs K F vs (xs.map pu) → Vs K F vs xs := by
  induction vs with
  | nil =>
    intro xs h
    cases xs with
    | nil => exact .nil
    | cons x xs => cases h
  | cons v vs ih =>
    intro xs h
    cases xs with
    | nil => cases h
    | cons x xs =>
      cases h with
      | cons r t => exact .cons r (ih t)
theorem Vs.length {K : Frag} {F : Hp} {vs : List V} {xs : List α} (h : Vs K F vs xs) : vs.length = xs.length := Paired.length h
theorem po_list {σ : St} {F0 : Hp} {H F : Hp} {vs : List V} {xs : List α} (e0 : Ext F0 F) (S : Sta Y s σ H F) (r : Vs Y.X.K F vs xs) (q : Q (pu xs) s) : ∀ p, H p = none → Po Y σ F0 Q (.ref p) (upd H p (.lst vs)) := fun p hp => by
  have hF := S.free hp
  exact ⟨pu xs, s, upd F p (.lst vs), e0.trans (Ext.grow hF), ⟨p, vs, rfl, .of upd_same, r.mono (Ext.grow hF)⟩, S.newF hp rfl, q⟩
theorem po_listO {σ : St} {F0 : Hp} {H F : Hp} {vs : List V} {xs : List α} (e0 : Ext F0 F) (S : Sta Y s σ H F) (r : Vs Y.X.K F vs xs) (q : ∀ p, Q (raw (.ref p)) ⟨s.ρ, (p, lstc xs) :: s.gs⟩) : ∀ p, H p = none → Po Y σ F0 Q (.ref p) (upd H p (.lst vs)) := fun p hp =>
  ⟨raw (.ref p), _, F, e0, rfl, S.newO (c := lstc xs) hp rfl ⟨vs, rfl, r⟩, q p⟩
theorem po_tup {σ : St} {F0 : Hp} {H F : Hp} {vs : List V} {A : Pv} (e0 : Ext F0 F) (S : Sta Y s σ H F) (r : ∀ F' p, Ext F F' → F' p = some (.tup vs) → A.rep Y.X.K F' (.ref p)) (q : Q A s) : ∀ p, H p = none → Po Y σ F0 Q (.ref p) (upd H p (.tup vs)) := fun p hp => by
  have hF := S.free hp
  exact ⟨A, s, upd F p (.tup vs), e0.trans (Ext.grow hF), r _ p (Ext.grow hF) upd_same, S.newF hp rfl, q⟩
theorem ev_list (h : Evs Y s es fun As s' => ∃ xs : List α, As = xs.map pu ∧ xs.length ≤ sizeLine ∧ Q (pu xs) s') : Ev Y s (.List es pos) Q := fun F0 σ H F e0 S => by
  refine .of (pe_lst pa_wa) ((h F0 σ H F e0 S).mono fun vs H1 ⟨As, s1, F1, e1, r1, S1, xs, ea, hl, q⟩ => ?_)
  subst ea
  have r := rvs_pu r1
  exact ⟨by rw [r.length]; exact hl, po_list e1 S1 r q⟩
theorem ev_listO (h : Evs Y s es fun As s' => ∃ xs : List α, As = xs.map pu ∧ xs.length ≤ sizeLine ∧ ∀ p, Q (raw (.ref p)) ⟨s'.ρ, (p, lstc xs) :: s'.gs⟩) : Ev Y s (.List es pos) Q := fun F0 σ H F e0 S => by
  refine .of (pe_lst pa_wa) ((h F0 σ H F e0 S).mono fun vs H1 ⟨As, s1, F1, e1, r1, S1, xs, ea, hl, q⟩ => ?_)
  subst ea
  have r := rvs_pu r1
  exact ⟨by rw [r.length]; exact hl, po_listO e1 S1 r q⟩
theorem evp_list {xs : List α} (h : EvsP Y s es (xs.map pu)) (hl : xs.length ≤ sizeLine := by decide) : EvP Y s (.List es pos) (pu xs) := .of (ev_list (.of h ⟨xs, rfl, hl, rfl, rfl⟩))
theorem ev_tupH (h : Evs Y s es fun As s' => ∃ xs : List α, As = xs.map pu ∧ xs.length ≤ sizeLine ∧ Q (pu (PySem.W.Tup.mk xs)) s') {k : Nat} : Ev Y s (.Tuple es k pos) Q := fun F0 σ H F e0 S => by
  refine .of (pe_tup pa_wa) ((h F0 σ H F e0 S).mono fun vs H1 ⟨As, s1, F1, e1, r1, S1, xs, ea, hl, q⟩ => ?_)
  subst ea
  have r := rvs_pu r1
  exact ⟨by rw [r.length]; exact hl, po_tup (A := pu (PySem.W.Tup.mk xs)) e1 S1 (fun F' p e' hs => ⟨p, vs, rfl, .of hs, r.mono e'⟩) q⟩
theorem ev_tup2 (h : Evs Y s es fun As s' => ∃ (x : α) (y : β), As = [pu x, pu y] ∧ Q (pu (x, y)) s') {k : Nat} : Ev Y s (.Tuple es k pos) Q := fun F0 σ H F e0 S => by
  refine .of (pe_tup pa_wa) ((h F0 σ H F e0 S).mono fun vs H1 ⟨As, s1, F1, e1, r1, S1, x, y, ea, q⟩ => ?_)
  subst ea
  obtain ⟨v, w, rfl, rv, rw'⟩ : ∃ v w, vs = [v, w] ∧ (pu x).rep Y.X.K F1 v ∧ (pu y).rep Y.X.K F1 w := by
    cases r1 with
    | cons p q => cases q with
      | cons p' q' => cases q'; exact ⟨_, _, rfl, p, p'⟩
  exact ⟨by show 2 ≤ sizeLine; decide, po_tup (A := pu (x, y)) e1 S1 (fun F' p e' hs => ⟨p, v, w, rfl, hs, Enc.mono rv e', Enc.mono rw' e'⟩) q⟩
theorem ev_tup3 (h : Evs Y s es fun As s' => ∃ (x : α) (y : β) (z : γ), As = [pu x, pu y, pu z] ∧ Q (pu (PySem.W.T3.mk x y z)) s') {k : Nat} : Ev Y s (.Tuple es k pos) Q := fun F0 σ H F e0 S => by
  refine .of (pe_tup pa_wa) ((h F0 σ H F e0 S).mono fun vs H1 ⟨As, s1, F1, e1, r1, S1, x, y, z, ea, q⟩ => ?_)
  subst ea
  obtain ⟨v, w, u, rfl, rv, rw', ru⟩ : ∃ v w u, vs = [v, w, u] ∧ (pu x).rep Y.X.K F1 v ∧ (pu y).rep Y.X.K F1 w ∧ (pu z).rep Y.X.K F1 u := by
    cases r1 with
    | cons p q => cases q with
      | cons p' q' => cases q' with
        | cons p2 q2 => cases q2; exact ⟨_, _, _, rfl, p, p', p2⟩
  exact ⟨by show 3 ≤ sizeLine; decide, po_tup (A := pu (PySem.W.T3.mk x y z)) e1 S1 (fun F' p e' hs => ⟨p, v, w, u, rfl, hs, Enc.mono rv e', Enc.mono rw' e', Enc.mono ru e'⟩) q⟩
theorem evp_B1 {A B : Pv} {x : Str} {p : Pos} {id : String} {r : List V → Hp → VK → Prop} (hc : CallR Y.X (.builtin id) r) (hg : Gl Y.X x) (hm : Y.X.mg x = none) (hv : bootBuiltins x = some (.builtin id)) (ha : EvP Y s a A)
    (h : ∀ F0 σ H F v, Ext F0 F → Sta Y s σ H F → A.rep Y.X.K F v → r [v] H (Pp Y s σ F0 B)) (hn : x ≠ "__name__" := by decide) (hdb : (x == ("__debug__" : Str)) = false := by decide)
    (he : starEach [a] Y.X.env = (false, eval a Y.X.env) :: starEach [] Y.X.env := by rfl) : EvP Y s (.Call (.Name x p) [a] [] pos) B := fun F0 σ H F e0 S => by
  refine .of (pe_callB hc hg hm hv (pa_cons pe_we pa_nil he) hn hdb he (by rfl)) ?_
  refine (ha F0 σ H F e0 S).mono fun v H1 ⟨F1, e1, r1, S1⟩ => ?_
  exact h F0 σ H1 F1 v e1 S1 r1
theorem ev_B1 {x : Str} {p : Pos} {id : String} {r : List V → Hp → VK → Prop} (hc : CallR Y.X (.builtin id) r) (hg : Gl Y.X x) (hm : Y.X.mg x = none) (hv : bootBuiltins x = some (.builtin id))
    (h : Ev Y s a fun A s1 => ∀ F0 σ H F v, Ext F0 F → Sta Y s1 σ H F → A.rep Y.X.K F v → r [v] H (Po Y σ F0 Q)) (hn : x ≠ "__name__" := by decide) (hdb : (x == ("__debug__" : Str)) = false := by decide)
    (he : starEach [a] Y.X.env = (false, eval a Y.X.env) :: starEach [] Y.X.env := by rfl) : Ev Y s (.Call (.Name x p) [a] [] pos) Q := fun F0 σ H F e0 S => by
  refine .of (pe_callB hc hg hm hv (pa_cons pe_we pa_nil he) hn hdb he (by rfl)) ?_
  refine (h F0 σ H F e0 S).mono fun v H1 ⟨A, s1, F1, e1, r1, S1, q⟩ => ?_
  exact q F0 σ H1 F1 v e1 S1 r1
theorem ev_T1 {x : Str} {p : Pos} {T : String} {r : List V → Hp → VK → Prop} (hc : CallR Y.X (.type T) r) (hg : Gl Y.X x) (hm : Y.X.mg x = none) (hv : bootBuiltins x = some (.type T))
    (h : Ev Y s a fun A s1 => ∀ F0 σ H F v, Ext F0 F → Sta Y s1 σ H F → A.rep Y.X.K F v → r [v] H (Po Y σ F0 Q)) (hn : x ≠ "__name__" := by decide) (hdb : (x == ("__debug__" : Str)) = false := by decide)
    (he : starEach [a] Y.X.env = (false, eval a Y.X.env) :: starEach [] Y.X.env := by rfl) : Ev Y s (.Call (.Name x p) [a] [] pos) Q := fun F0 σ H F e0 S => by
  refine .of (pe_callTy hc hg hm hv (pa_cons pe_we pa_nil he) hn hdb he (by rfl)) ?_
  refine (h F0 σ H F e0 S).mono fun v H1 ⟨A, s1, F1, e1, r1, S1, q⟩ => ?_
  exact q F0 σ H1 F1 v e1 S1 r1
theorem ev_B2 {x : Str} {p : Pos} {id : String} {r : List V → Hp → VK → Prop} (hc : CallR Y.X (.builtin id) r) (hg : Gl Y.X x) (hm : Y.X.mg x = none) (hv : bootBuiltins x = some (.builtin id))
    (h : Ev Y s a fun A s1 => Ev Y s1 b fun B s2 => ∀ F0 σ H F v w, Ext F0 F → Sta Y s2 σ H F → A.rep Y.X.K F v → B.rep Y.X.K F w → r [v, w] H (Po Y σ F0 Q)) (hn : x ≠ "__name__" := by decide) (hdb : (x == ("__debug__" : Str)) = false := by decide)
    (he : starEach [a, b] Y.X.env = (false, eval a Y.X.env) :: starEach [b] Y.X.env := by rfl) (he2 : starEach [b] Y.X.env = (false, eval b Y.X.env) :: starEach [] Y.X.env := by rfl) (hpl : (backTo pos (starEach [b] Y.X.env)).any (·.1) = false := by rfl) : Ev Y s (.Call (.Name x p) [a, b] [] pos) Q := fun F0 σ H F e0 S => by
  refine .of (pe_callB hc hg hm hv (pa_cons pe_we (pa_cons pe_we pa_nil he2) he) hn hdb he hpl) ?_
  refine (h F σ H F (.refl _) S).mono fun v H1 ⟨A, s1, F1, e1, r1, S1, q⟩ => ?_
  refine (q F1 σ H1 F1 (.refl _) S1).mono fun w H2 ⟨B, s2, F2, e2, r2, S2, q2⟩ => ?_
  exact q2 F0 σ H2 F2 v w ((e0.trans e1).trans e2) S2 (A.mono r1 e2) r2
structure Bis (mg : Str → Option Value) : Prop where
  no : ∀ x : Str, x ∈ (["len", "range", "sorted", "list", "tuple", "dict", "int", "str", "abs", "min", "max", "sum", "any", "all", "enumerate", "zip", "reversed", "isinstance", "super"] : List Str) → mg x = none
section
variable {p : Pos}
end
theorem atI_of {δ ε : Type} {R : δ → ε → Prop} {l : List δ} {m : List ε} (h : Paired R l m) {i : Int} {y : ε} (k : atI m i = some y) : ∃ x, atI l i = some x ∧ R x y := by
  have hl : l.length = m.length := Paired.length h
  unfold atI at k ⊢
  rw [hl]
  cases q : ixN m.length i with
  | none => rw [q] at k; cases k
  | some j =>
    rw [q] at k
    exact prd_get h k
end
end
end Sp
set_option maxHeartbeats 4000000
namespace Sp
open PySem L2
structure DE where
  nx : DSt → Prop
  rt : Pv → DSt → Prop
  bk : DSt → Prop := fun _ => False
  ct : DSt → Prop := fun _ => False
def Pst (Y : DX) (F0 : Hp) (Q : DSt → Prop) : St → Hp → Prop := fun σ H => ∃ s F, Ext F0 F ∧ Sta Y s σ H F ∧ Q s
def Prt (Y : DX) (F0 : Hp) (Q : Pv → DSt → Prop) : VK := fun v H => ∃ A s σ F, Ext F0 F ∧ A.rep Y.X.K F v ∧ Sta Y s σ H F ∧ Q A s
def DE.to (D : DE) (Y : DX) (F0 : Hp) : Ends := { nx := Pst Y F0 D.nx, rt := Prt Y F0 D.rt, bk := Pst Y F0 D.bk, ct := Pst Y F0 D.ct }
def Ws (Y : DX) (s : DSt) (sts : List Stmt) (D : DE) : Prop := ∀ F0 σ H F, Ext F0 F → Sta Y s σ H F → WS Y.X sts σ H (D.to Y F0)
structure WP (X : Cx) (st : Stmt) (σ : St) (H : Hp) (D : Ends) : Prop where
  run : ∀ (pins : List (Addr × Obj)) (s : Shared), Inv X pins σ H s → wpAny (model X.prog X.w) X.A (exec st X.env) (SP X pins D) X.xe s
def W1 (Y : DX) (s : DSt) (st : Stmt) (D : DE) : Prop := ∀ F0 σ H F, Ext F0 F → Sta Y s σ H F → WP Y.X st σ H (D.to Y F0)
def wxOf (Y : DX) : WX := fun cls d σ H => ∃ e s F, Sta Y s σ H F ∧ ExcRep e cls d H ∧ Y.ex e s
structure YOk (Y : DX) : Prop where
  calm : Y.X.calm = true
  nd : Y.X.N.Nodup
  room : Room Y.k Y.X.A
  pass : PassesOwn (model Y.X.prog Y.X.w) Y.X.A Y.X.env Y.X.xe
  tk : Takes Y.X (wxOf Y)
section
variable {Y : DX} {s : DSt} {e a b c : Expr} {es : List Expr} {pos : Pos} {D D' : DE} {st : Stmt} {sts : List Stmt}
theorem ps_wp {X : Cx} : PS X st (fun D σ H => WP X st σ H D) := ⟨fun pins s _ _ _ I h => h.run pins s I⟩
theorem WP.of {X : Cx} {σ : St} {H : Hp} {t : TS} {D : Ends} (p : PS X st t) (h : t D σ H) : WP X st σ H D := ⟨fun pins s I => p.run pins s σ H D I h⟩
theorem Pst.mono {F0 F1 : Hp} {Q Q' : DSt → Prop} {σ : St} {H : Hp} (h : Pst Y F1 Q σ H) (e : Ext F0 F1) (k : ∀ s, Q s → Q' s) : Pst Y F0 Q' σ H := by
  obtain ⟨s, F, e1, S, q⟩ := h
  exact ⟨s, F, e.trans e1, S, k s q⟩
theorem Prt.mono {F0 F1 : Hp} {Q Q' : Pv → DSt → Prop} {v : V} {H : Hp} (h : Prt Y F1 Q v H) (e : Ext F0 F1) (k : ∀ A s, Q A s → Q' A s) : Prt Y F0 Q' v H := by
  obtain ⟨A, s, σ, F, e1, r, S, q⟩ := h
  exact ⟨A, s, σ, F, e.trans e1, r, S, k A s q⟩
theorem Ws.mono (h : Ws Y s sts D) (k1 : ∀ s, D.nx s → D'.nx s) (k2 : ∀ A s, D.rt A s → D'.rt A s) (k3 : ∀ s, D.bk s → D'.bk s) (k4 : ∀ s, D.ct s → D'.ct s) : Ws Y s sts D' := fun F0 σ H F e0 S =>
  (h F0 σ H F e0 S).mono (fun _ _ q => Pst.mono q (.refl _) k1) (fun _ _ q => Prt.mono q (.refl _) k2) (fun _ _ q => Pst.mono q (.refl _) k3) (fun _ _ q => Pst.mono q (.refl _) k4)
theorem ws_nil (h : D.nx s) : Ws Y s [] D := fun F0 σ H F e0 S => .of pss_nil ⟨s, F, e0, S, h⟩
theorem ws_cons (h : W1 Y s st { D with nx := fun s' => Ws Y s' sts D }) : Ws Y s (st :: sts) D := fun F0 σ H F e0 S => by
  refine .of (pss_cons ps_wp pss_ws) ?_
  have q := h F0 σ H F e0 S
  refine ⟨fun pins s' I => ?_⟩
  refine thn (q.run pins s' I) fun f s1 z => ?_
  cases f with
  | next =>
    obtain ⟨σ', H', J, s2, F2, e2, S2, w⟩ := z
    exact ⟨σ', H', J, w F0 σ' H' F2 e2 S2⟩
  | brk => exact z
  | cont => exact z
  | ret u => exact z
theorem ws_one (h : W1 Y s st D) : Ws Y s [st] D := fun F0 σ H F e0 S => .of (pss_one ps_wp) (h F0 σ H F e0 S)
theorem w1_continue (h : D.ct s) : W1 Y s (.Continue pos) D := fun F0 σ H F e0 S => .of ps_continue ⟨s, F, e0, S, h⟩
theorem w1_expr (h : Ev Y s e fun _ s' => D.nx s') (hs : swapsWith e none pos.line Y.X.env = pure false := by rfl) : W1 Y s (.Expr e pos) D := fun F0 σ H F e0 S =>
  .of (ps_expr pe_we hs) ((h F0 σ H F e0 S).mono fun v H' ⟨A, s', F', e1, r, S', q⟩ => ⟨s', F', e1, S', q⟩)
theorem w1_ret (h : Ev Y s e D.rt) : W1 Y s (.Return (some e) pos) D := fun F0 σ H F e0 S =>
  .of (ps_ret pe_we) ((h F0 σ H F e0 S).mono fun v H' ⟨A, s', F', e1, r, S', q⟩ => ⟨A, s', σ, F', e1, r, S', q⟩)
theorem w1_set {x : Str} {p2 : Pos} (i : Nat) (ok : YOk Y) (hi : Y.X.N[i]? = some x) (hx : Loc Y.X.env.scope x) (h : Ev Y s e fun A s' => D.nx ⟨s'.ρ.set i (some A), s'.gs⟩)
    (hs : swapsWith e (some (.Name x p2)) pos.line Y.X.env = pure false := by rfl) (hf : Y.X.fn x = true ∨ Y.X.env.scope.names.lookup x = some .local := by first | exact .inl rfl | exact .inr rfl) : W1 Y s (.Assign [.Name x p2] e pos) D := fun F0 σ H F e0 S =>
  .of (ps_set ok.nd hi hx pe_we hs hf) ((h F0 σ H F e0 S).mono fun v H' ⟨A, s', F', e1, r, S', q⟩ => ⟨_, F', e1, S'.set r i, q⟩)
theorem w1_if {A B : List Stmt} (h : Et Y s c fun t s' => if t = true then Ws Y s' A D else Ws Y s' B D) : W1 Y s (.If c A B pos) D := fun F0 σ H F e0 S => by
  refine .of (ps_if pt_wt pss_ws pss_ws) ((h F0 σ H F e0 S).mono fun t H' ⟨s', F', e1, S', q⟩ => ?_)
  cases t with
  | true => exact q F0 σ H' F' e1 S'
  | false => exact q F0 σ H' F' e1 S'
def Only (ws : List Nat) (σ σ' : St) : Prop := σ'.length = σ.length ∧ ∀ j, j ∉ ws → σ'[j]? = σ[j]?
theorem Only.refl {σ : St} : Only [] σ σ := ⟨rfl, fun _ _ => rfl⟩
theorem Only.set {σ : St} {i : Nat} {o : Option V} : Only [i] σ (σ.set i o) := ⟨List.length_set .., fun j hj => List.getElem?_set_ne (fun e => hj (by simp [e]))⟩
theorem Only.trans {ws vs : List Nat} {σ σ1 σ2 : St} (a : Only ws σ σ1) (b : Only vs σ1 σ2) : Only (ws ++ vs) σ σ2 :=
  ⟨b.1.trans a.1, fun j hj => (b.2 j fun h => hj (List.mem_append_right _ h)).trans (a.2 j fun h => hj (List.mem_append_left _ h))⟩
def TgOk (Y : DX) {β : Type} [Enc β] (tg : Expr) (g : TG) (ws : List Nat) (f : β → Rho → Rho) : Prop :=
  PG Y.X tg g ∧ ∀ (σ : St) (H F : Hp) (v : V) (x : β) (s : DSt) (Q : St → Hp → Prop), Sta Y s σ H F → Enc.rep Y.X.K F v x → (∀ σ', Sta Y ⟨f x s.ρ, s.gs⟩ σ' H F → Only ws σ σ' → Q σ' H) → g v σ H Q
section
variable {α β γ : Type} [Enc α] [Enc β] [Enc γ]
theorem tg_name {x : Str} (nd : Y.X.N.Nodup) (i : Nat) (hi : Y.X.N[i]? = some x) (hx : Loc Y.X.env.scope x) (hf : Y.X.fn x = true ∨ Y.X.env.scope.names.lookup x = some .local := by first | exact .inl rfl | exact .inr rfl) :
    TgOk Y (β := β) (.Name x pos) (gName i) [i] fun v ρ => ρ.set i (some (pu v)) :=
  ⟨pg_name nd hi hx hf, fun σ H F v x s Q S r k => k _ (S.set (A := pu x) r i) .set⟩
theorem tg_pair {t1 t2 : Expr} {g1 g2 : TG} {w1 w2 : List Nat} {f1 : α → Rho → Rho} {f2 : β → Rho → Rho} {k : Nat} (calm : Y.X.calm = true) (h1 : TgOk Y t1 g1 w1 f1) (h2 : TgOk Y t2 g2 w2 f2)
    (hs1 : (assignEach [t1, t2] Y.X.env).map (·.2) = assign t1 Y.X.env :: (assignEach [t2] Y.X.env).map (·.2) := by rfl) (hs2 : (assignEach [t2] Y.X.env).map (·.2) = assign t2 Y.X.env :: (assignEach [] Y.X.env).map (·.2) := by rfl)
    (hn : (assignEach [t1, t2] Y.X.env).length = 2 := by rfl) (hst : (assignEach [t1, t2] Y.X.env).findIdx? (·.1) = none := by rfl) :
    TgOk Y (β := α × β) (.Tuple [t1, t2] k pos) (gTup Y.X.K 2 (gCons g1 (gCons g2 gNil))) (w1 ++ w2) fun v ρ => f2 v.2 (f1 v.1 ρ) :=
  ⟨pg_tup calm (pgs_cons h1.1 (pgs_cons h2.1 pgs_nil hs2) hs1) hn hst, fun σ H F v x s Q S ⟨p, a, b, e, hq, ra, rb⟩ q =>
    ⟨p, [a, b], e, sqT_ext hq S.ext, rfl, a, [b], rfl, h1.2 σ H F a x.1 s _ S ra fun σ1 S1 o1 => ⟨b, [], rfl, h2.2 σ1 H F b x.2 _ _ S1 rb fun σ2 S2 o2 => ⟨rfl, q σ2 S2 (o1.trans o2)⟩⟩⟩⟩
theorem tg_three {t1 t2 t3 : Expr} {g1 g2 g3 : TG} {w1 w2 w3 : List Nat} {f1 : α → Rho → Rho} {f2 : β → Rho → Rho} {f3 : γ → Rho → Rho} {k : Nat} (calm : Y.X.calm = true) (h1 : TgOk Y t1 g1 w1 f1) (h2 : TgOk Y t2 g2 w2 f2) (h3 : TgOk Y t3 g3 w3 f3)
    (hs1 : (assignEach [t1, t2, t3] Y.X.env).map (·.2) = assign t1 Y.X.env :: (assignEach [t2, t3] Y.X.env).map (·.2) := by rfl) (hs2 : (assignEach [t2, t3] Y.X.env).map (·.2) = assign t2 Y.X.env :: (assignEach [t3] Y.X.env).map (·.2) := by rfl)
    (hs3 : (assignEach [t3] Y.X.env).map (·.2) = assign t3 Y.X.env :: (assignEach [] Y.X.env).map (·.2) := by rfl)
    (hn : (assignEach [t1, t2, t3] Y.X.env).length = 3 := by rfl) (hst : (assignEach [t1, t2, t3] Y.X.env).findIdx? (·.1) = none := by rfl) :
    TgOk Y (β := T3 α β γ) (.Tuple [t1, t2, t3] k pos) (gTup Y.X.K 3 (gCons g1 (gCons g2 (gCons g3 gNil)))) (w1 ++ (w2 ++ w3)) fun v ρ => f3 v.c (f2 v.b (f1 v.a ρ)) :=
  ⟨pg_tup calm (pgs_cons h1.1 (pgs_cons h2.1 (pgs_cons h3.1 pgs_nil hs3) hs2) hs1) hn hst, fun σ H F v x s Q S ⟨p, a, b, c, e, hq, ra, rb, rc⟩ q =>
    ⟨p, [a, b, c], e, sqT_ext hq S.ext, rfl, a, [b, c], rfl, h1.2 σ H F a x.a s _ S ra fun σ1 S1 o1 => ⟨b, [c], rfl, h2.2 σ1 H F b x.b _ _ S1 rb fun σ2 S2 o2 => ⟨c, [], rfl, h3.2 σ2 H F c x.c _ _ S2 rc fun σ3 S3 o3 => ⟨rfl, q σ3 S3 (o1.trans (o2.trans o3))⟩⟩⟩⟩⟩
theorem w1_asg {tg : Expr} {g : TG} {ws : List Nat} {f : β → Rho → Rho} (hg : TgOk Y tg g ws f) (h : Ev Y s e fun A s' => ∃ x : β, A = pu x ∧ D.nx ⟨f x s'.ρ, s'.gs⟩) (hs : swapsWithSole [tg] e pos.line Y.X.env = pure false := by rfl) (hw : swappedStores [tg] e Y.X.env = pure none := by rfl)
    (h1 : (assignEach [tg] Y.X.env).map (·.2) = [assign tg Y.X.env] := by rfl) : W1 Y s (.Assign [tg] e pos) D := fun F0 σ H F e0 S =>
  .of (ps_asg pe_we hg.1 hs hw h1) ((h F0 σ H F e0 S).mono fun v H' ⟨A, s', F', e1, r, S', x, ea, q⟩ => by
    subst ea
    exact hg.2 σ H' F' v x s' _ S' r fun σ' S2 _ => ⟨_, F', e1, S2, q⟩)
theorem w1_par {i j : Nat} {x y : Str} {a b : Expr} {px py pt pt2 : Pos} {kt k2 : Nat} (ok : YOk Y) (hi : Y.X.N[i]? = some x) (hj : Y.X.N[j]? = some y) (hij : i ≠ j)
    (hx : Y.X.env.scope.names.lookup x = some .local) (hy : Y.X.env.scope.names.lookup y = some .local) (h : Evs Y s [a, b] fun As s' => ∃ A B, As = [A, B] ∧ D.nx ⟨(s'.ρ.set i (some A)).set j (some B), s'.gs⟩)
    (hw : swappedStores [.Tuple [.Name x px, .Name y py] kt pt] (.Tuple [a, b] k2 pt2) Y.X.env = pure (some [x, y]) := by rfl) (hs : swapsWithSole [.Tuple [.Name x px, .Name y py] kt pt] (.Tuple [a, b] k2 pt2) pos.line Y.X.env = pure false := by rfl) :
    W1 Y s (.Assign [.Tuple [.Name x px, .Name y py] kt pt] (.Tuple [a, b] k2 pt2) pos) D := fun F0 σ H F e0 S =>
  .of (ps_par ok.calm ok.nd hi hj hij hx hy pa_wa hw hs) ((h F0 σ H F e0 S).mono fun vs H' ⟨As, s', F', e1, r, S', A, B, ea, q⟩ => by
    subst ea
    cases r with
    | cons ra rt => cases rt with
      | cons rb rn =>
        cases rn
        exact ⟨_, _, rfl, _, F', e1, (S'.set ra i).set rb j, q⟩)
theorem w1_aug {op : Operator} {r : R2} {x : Str} {p2 : Pos} (i : Nat) (ok : YOk Y) (ho : OpR Y.X (inplaceOp op) r) (hi : Y.X.N[i]? = some x) (hx : Loc Y.X.env.scope x) {A : Pv} (hA : s.ρ[i]? = some (some A))
    (h : Ev Y s e fun B s' => ∀ F0 σ H F v u, Ext F0 F → Sta Y s' σ H F → A.rep Y.X.K F v → B.rep Y.X.K F u → r v u H fun w H' => Pst Y F0 D.nx (σ.set i (some w)) H')
    (hf : Y.X.fn x = true ∨ Y.X.env.scope.names.lookup x = some .local := by first | exact .inl rfl | exact .inr rfl) : W1 Y s (.AugAssign (.Name x p2) op e pos) D := fun F0 σ H F e0 S => by
  obtain ⟨v, ev, rv⟩ := S.rep.get hA
  exact .of (ps_aug ok.nd hi hx pe_we (fun pins s σ H x y v u Q I r1 r2 t => ho pins s σ H x y v u Q I r1 r2 t) hf) ⟨v, ev, (h F σ H F (.refl _) S).mono fun u H1 ⟨B, s1, F1, e1, r1, S1, q⟩ => q F0 σ H1 F1 v u (e0.trans e1) S1 (A.mono rv e1) r1⟩
section
variable {x : Str} {p2 : Pos} (i : Nat) (ok : YOk Y) (hi : Y.X.N[i]? = some x) (hx : Loc Y.X.env.scope x) {n : Int} (hA : s.ρ[i]? = some (some (pu n)))
  (hf : Y.X.fn x = true ∨ Y.X.env.scope.names.lookup x = some .local)
include ok hi hx hA hf
theorem w1_add (h : Ev Y s e fun B s' => ∃ m : Int, B = pu m ∧ D.nx ⟨s'.ρ.set i (some (pu (n + m))), s'.gs⟩) : W1 Y s (.AugAssign (.Name x p2) .Add e pos) D :=
  w1_aug i ok iop_add hi hx hA (h.mono fun B s' ⟨m, eb, q⟩ F0 σ H F v u e0 S rv ru => by subst eb; exact ⟨n, m, rv, ru, _, F, e0, S.set (A := pu (n + m)) rfl i, q⟩) hf
end
theorem w1_addS {x : Str} {p2 : Pos} (i : Nat) (ok : YOk Y) (hi : Y.X.N[i]? = some x) (hx : Loc Y.X.env.scope x) {n : List Nat} (hA : s.ρ[i]? = some (some (pu n)))
    (hf : Y.X.fn x = true ∨ Y.X.env.scope.names.lookup x = some .local) (h : Ev Y s e fun B s' => ∃ m : List Nat, B = pu m ∧ n.length + m.length ≤ sizeLine ∧ D.nx ⟨s'.ρ.set i (some (pu (n ++ m))), s'.gs⟩) : W1 Y s (.AugAssign (.Name x p2) .Add e pos) D :=
  w1_aug i ok iop_add_str hi hx hA (h.mono fun B s' ⟨m, eb, hc, q⟩ F0 σ H F v u e0 S rv ru => by
    subst eb
    exact ⟨toStr n, toStr m, rv, ru, by rw [toStr_len, toStr_len]; exact hc, _, F, e0, S.set (A := pu (n ++ m)) (by rw [toStr_app]; rfl) i, q⟩) hf
def ItOk {β : Type} [Enc β] (K : Frag) (J : It) (F' : Hp) (items : List β) : Prop := ∀ i H2 F2, Ext F' F2 → Ext F2 H2 →
  (∀ x, items[i]? = some x → J.go i H2 ∧ ∀ v H3, J.yld i H2 v H3 → (H3 = H2 ∧ Enc.rep K F2 v x) ∨ ∃ p vs, H2 p = none ∧ H3 = upd H2 p (.tup vs) ∧ v = .ref p ∧ ∀ F3, Ext F2 F3 → F3 p = some (.tup vs) → Enc.rep K F3 v x) ∧ (items.length ≤ i → J.stop i H2)
def EvIt (Y : DX) (s : DSt) (tg iter : Expr) {β : Type} [Enc β] (items : List β) : Prop :=
  ∃ wi, PI Y.X tg iter wi ∧ ∀ F0 σ H F (R : It → Hp → Prop), Ext F0 F → Sta Y s σ H F → (∀ J H' F', Ext F0 F' → Sta Y s σ H' F' → ItOk Y.X.K J F' items → R J H') → wi σ H R
theorem ItOk.yld {J : It} {F' H2 F2 H3 : Hp} {items : List β} {i : Nat} {x : β} {v : V} {s2 : DSt} {σ : St} (h : ItOk Y.X.K J F' items) (e : Ext F' F2) (S : Sta Y s2 σ H2 F2) (hx : items[i]? = some x) (y : J.yld i H2 v H3) :
    ∃ F3, Ext F2 F3 ∧ Sta Y s2 σ H3 F3 ∧ Enc.rep Y.X.K F3 v x := by
  rcases ((h i H2 F2 e S.ext).1 x hx).2 v H3 y with ⟨rfl, r⟩ | ⟨p, vs, hp, rfl, ev, r⟩
  · exact ⟨F2, .refl _, S, r⟩
  · have hF := S.free hp
    exact ⟨_, Ext.grow hF, S.newF hp rfl, r _ (Ext.grow hF) upd_same⟩
theorem it_list {tg iter : Expr} {xs : List α} (h : EvP Y s iter (pu xs)) : EvIt Y s tg iter xs :=
  ⟨_, pi_list pe_we, fun F0 σ H F R e0 S k => (h F0 σ H F e0 S).mono fun v H' ⟨F', e1, ⟨p, vs, ev, hq, rv⟩, S'⟩ =>
    ⟨p, ev, ⟨vs, sqL_ext hq S'.ext⟩, k _ _ F' e1 S' fun i H2 F2 e2 e3 => ⟨fun x hx => by
      have hq2 := sqL_ext (sqL_ext hq e2) e3
      obtain ⟨w, hw, rw'⟩ := prd_get rv hx
      exact ⟨⟨vs, w, hq2, hw⟩, fun v H3 ⟨eh, hv⟩ => .inl ⟨eh, by
        have := hv vs hq2
        rw [hw] at this
        cases this
        exact Enc.mono rw' e2⟩⟩, fun hl => ⟨vs, sqL_ext (sqL_ext hq e2) e3, by rw [rv.length]; exact hl⟩⟩⟩⟩
end
end
end Sp
set_option maxHeartbeats 4000000
namespace Sp
open PySem L2
abbrev DSp := List Pv → Gs → (Pv → Gs → Prop) → (Exc → Gs → Prop) → Prop
structure Stg (K : Frag) (T : Tb) (gs : Gs) (H F : Hp) : Prop where
  ext : Ext F H
  ntb : ∀ a o, F a = some o → isTbl o = false
  own : ∀ p ∈ gs, F p.1 = none ∧ ∃ o, H p.1 = some o ∧ isTT o = false ∧ p.2.rep K F o
  nd : (gs.map (·.1)).Nodup
  tb : TbOk T H
abbrev ads (gs : Gs) : List Addr := gs.map (·.1)
theorem Sta.stg {Y : DX} {s : DSt} {σ : St} {H F : Hp} (S : Sta Y s σ H F) : Stg Y.X.K Y.T s.gs H F := ⟨S.ext, S.ntb, S.own, S.nd, S.tb⟩
def toSp (K : Frag) (T : Tb) (n : Nat) (d : DSp) : Sp := fun vs H Q E => vs.length = n ∧ ∃ As gs F, Rvs K F vs As ∧ Stg K T gs H F ∧
  d As gs (fun A gs' => ∀ v H' F', A.rep K F' v → Stg K T gs' H' F' → Step H F (ads gs) H' F' (ads gs') → Q v H')
    (fun e gs' => ∀ cls dd H' F', ExcRep e cls dd H' → Stg K T gs' H' F' → Step H F (ads gs) H' F' (ads gs') → E cls dd H')
section
variable {K : Frag} {T : Tb} {H0 F0 H F H' F' : Hp} {S0 : List Addr}
theorem Step.call {gs1 gs2 gs1' : Gs} (t : Step H0 F0 S0 H F (ads (gs1 ++ gs2))) (G : Stg K T (gs1 ++ gs2) H F) (c : Step H F (ads gs1) H' F' (ads gs1')) (G1 : Stg K T gs1' H' F') :
    Stg K T (gs1' ++ gs2) H' F' ∧ Step H0 F0 S0 H' F' (ads (gs1' ++ gs2)) := by
  have nd := G.nd
  rw [List.map_append, List.nodup_append] at nd
  have one : ∀ p ∈ gs2, p.1 ∉ ads gs1 := fun p hp hm => nd.2.2 _ hm _ (List.mem_map.mpr ⟨p, hp, rfl⟩) rfl
  have fr2 : ∀ p ∈ gs2, F' p.1 = none ∧ p.1 ∉ ads gs1' := fun p hp => by
    obtain ⟨h1, o, h2, h3, _⟩ := G.own p (List.mem_append_right _ hp)
    have no : ¬ (F' p.1 ≠ none ∨ p.1 ∈ ads gs1') := fun h => by
      rcases c.nw _ h with z | z | z
      · exact z h1
      · exact one p hp z
      · have := z o h2
        rw [h3] at this; cases this
    refine ⟨?_, fun h => no (.inr h)⟩
    cases q : F' p.1 with
    | none => rfl
    | some u => exact absurd (.inl (by rw [q]; simp)) no
  have own0 : ∀ a, a ∈ ads (gs1 ++ gs2) → F a = none := fun a ha => by
    obtain ⟨p, hp, e⟩ := List.mem_map.mp ha
    rw [← e]
    exact (G.own p hp).1
  have ap : ∀ {g g' : Gs}, ads (g ++ g') = ads g ++ ads g' := fun {g g'} => by unfold ads; exact List.map_append
  refine ⟨⟨G1.ext, G1.ntb, fun p hp => ?_, ?_, G1.tb⟩, t.ff.trans c.ff, fun a o h1 h2 h3 => ?_, fun a h => ?_⟩
  · rcases List.mem_append.mp hp with hp | hp
    · exact G1.own p hp
    · obtain ⟨h1, o, h2, h3, h4⟩ := G.own p (List.mem_append_right _ hp)
      exact ⟨(fr2 p hp).1, o, c.fr _ o h2 (isTT_tbl h3) (one p hp), h3, p.2.mono h4 c.ff⟩
  · rw [List.map_append, List.nodup_append]
    refine ⟨G1.nd, nd.2.1, fun a ha b hb e => ?_⟩
    obtain ⟨p, hp, e2⟩ := List.mem_map.mp hb
    exact (fr2 p hp).2 (by rw [e2, ← e]; exact ha)
  · have q := t.fr a o h1 h2 h3
    refine c.fr a o q h2 fun hm => ?_
    have hm2 : a ∈ ads (gs1 ++ gs2) := by rw [ap]; exact List.mem_append_left _ hm
    rcases t.nw a (.inr hm2) with z | z | z
    · obtain ⟨u, hu⟩ := Option.ne_none_iff_exists'.mp z
      have := t.ff a u hu
      rw [own0 a hm2] at this; cases this
    · exact h3 z
    · have := z o h1
      obtain ⟨p9, hp9, e9⟩ := List.mem_map.mp hm2
      obtain ⟨_, o9, g9, k9, _⟩ := G.own p9 hp9
      rw [e9, q] at g9
      cases g9
      rw [k9] at this; cases this
  · have key : F' a ≠ none ∨ a ∈ ads gs1' → F0 a ≠ none ∨ a ∈ S0 ∨ Fre H0 a := fun h => by
      rcases c.nw a h with z | z | z
      · exact t.nw a (.inl z)
      · exact t.nw a (.inr (by rw [ap]; exact List.mem_append_left _ z))
      · exact .inr (t.was z)
    rcases h with h | h
    · exact key (.inl h)
    · rw [ap] at h
      rcases List.mem_append.mp h with h | h
      · exact key (.inr h)
      · exact t.nw a (.inr (by rw [ap]; exact List.mem_append_right _ h))
end
section
variable {Y : DX} {s : DSt} {e a b c : Expr} {es : List Expr} {pos : Pos} {D D' : DE} {st : Stmt} {sts : List Stmt} {Q : Pv → DSt → Prop}
theorem Sta.called {σ : St} {H F H' F' : Hp} {gs1 gs2 gs1' : Gs} (S : Sta Y s σ H F) (hp : s.gs.Perm (gs1 ++ gs2)) (G1 : Stg Y.X.K Y.T gs1' H' F') (c : Step H F (ads gs1) H' F' (ads gs1')) : Sta Y ⟨s.ρ, gs1' ++ gs2⟩ σ H' F' := by
  have S2 := S.perm hp
  obtain ⟨G, t⟩ := Step.call S2.st S2.stg c G1
  exact ⟨G.ext, G.ntb, S.rep.mono c.ff, G.own, G.nd, G.tb, t⟩
theorem sp_call {n : Nat} {d : DSp} {σ : St} {F0 H F : Hp} {vs : List V} {As : List Pv} {gs1 gs2 : Gs} (e0 : Ext F0 F) (S : Sta Y s σ H F) (r : Rvs Y.X.K F vs As) (hn : As.length = n) (hp : s.gs.Perm (gs1 ++ gs2))
    (h : d As gs1 (fun A gs' => Q A ⟨s.ρ, gs' ++ gs2⟩) (fun e gs' => Y.ex e ⟨s.ρ, gs' ++ gs2⟩))
    (mono : ∀ (R R' : Pv → Gs → Prop) (E E' : Exc → Gs → Prop), (∀ A g, R A g → R' A g) → (∀ e g, E e g → E' e g) → d As gs1 R E → d As gs1 R' E') :
    toSp Y.X.K Y.T n d vs H (Po Y σ F0 Q) (L2.WE (wxOf Y) σ) := by
  have G := (S.perm hp).stg
  have nd := G.nd
  rw [List.map_append, List.nodup_append] at nd
  refine ⟨(Paired.length r).trans hn, As, gs1, F, r, ⟨G.ext, G.ntb, fun p hp => G.own p (List.mem_append_left _ hp), nd.1, G.tb⟩, mono _ _ _ _ (fun A g q v H' F' r' G1 c => ?_) (fun e g q cls dd H' F' r' G1 c => ?_) h⟩
  · exact ⟨A, _, F', e0.trans c.ff, r', S.called hp G1 c, q⟩
  · exact ⟨e, _, F', S.called hp G1 c, r', q⟩
def DMono (d : DSp) : Prop := ∀ As gs (R R' : Pv → Gs → Prop) (E E' : Exc → Gs → Prop), (∀ A g, R A g → R' A g) → (∀ e g, E e g → E' e g) → d As gs R E → d As gs R' E'
structure Df (P : Program) (w : World) (K : Frag) (mg : Str → Option Value) (base : Heap) (T : Tb) (k : Nat) (x : Str) (ps : List Str) (d : DSp) : Prop where
  ex : ∃ (f : Addr) (fd : FuncData), FnOk P w K mg base (L2.CX P w) k f fd ps (toSp K T ps.length d) ∧ mg x = some (.ref f) ∧ PySem.W.keepIn K (.ref f) = true ∧ Binds K fd ps []
  mono : DMono d
theorem ev_call {x : Str} {p : Pos} {ps : List Str} {d : DSp} {j : Nat} (G : Df Y.X.prog Y.X.w Y.X.K Y.X.mg Y.X.base Y.T j x ps d) (ok : YOk Y) (hj : j ≤ Y.k) (hg : Gl Y.X x)
    (h : Evs Y s (e :: es) fun As s1 => As.length = ps.length ∧ ∃ gs1 gs2, s1.gs.Perm (gs1 ++ gs2) ∧ d As gs1 (fun A gs' => Q A ⟨s1.ρ, gs' ++ gs2⟩) (fun e gs' => Y.ex e ⟨s1.ρ, gs' ++ gs2⟩))
    (hdb : (x == ("__debug__" : Str)) = false := by decide) (he : starEach (e :: es) Y.X.env = (false, eval e Y.X.env) :: starEach es Y.X.env := by rfl) (hpl : (backTo pos (starEach es Y.X.env)).any (·.1) = false := by rfl) : Ev Y s (.Call (.Name x p) (e :: es) [] pos) Q := fun F0 σ H F e0 S => by
  obtain ⟨⟨f, fd, F1, hm, hk, hb⟩, mono⟩ := G
  refine .of (pe_callS (E := L2.WE (wxOf Y)) F1 (ok.room.mono hj) hg hm hk hb (fun σ => passAt ok.tk σ) pa_wa hdb he hpl) ?_
  refine (h F0 σ H F e0 S).mono fun vs H1 ⟨As, s1, F1, e1, r1, S1, hl, gs1, gs2, hp, q⟩ => ?_
  exact sp_call e1 S1 r1 hl hp q (mono As gs1)
theorem pe_call0S {x : Str} {p : Pos} {k : Nat} {f : Addr} {fd : FuncData} {ps : List Str} {sp : Sp} {E : St → XK} {X : Cx} (F : FnOk X.prog X.w X.K X.mg X.base (L2.CX X.prog X.w) k f fd ps sp) (hr : Room k X.A) (hg : Gl X x) (hm : X.mg x = some (.ref f)) (hk : PySem.W.keepIn X.K (.ref f) = true) (hb : Binds X.K fd ps [])
    (hx : ∀ σ, PassesAt (L2.CX X.prog X.w) X σ (E σ)) (hdb : (x == ("__debug__" : Str)) = false := by decide) : PE X (.Call (.Name x p) [] [] pos) (tCallS sp E tNil) := by
  refine ⟨fun pins s σ H Q I h => ?_⟩
  refine wpAny_Call_Name_kw (ld_glob I hg hm ?_ hdb)
  exact PySem.W.callWith_K0 I.kIn hk (run_fnS (us := []) (vs := []) F hr hb (hx σ) I .nil h)
theorem ev_call0 {x : Str} {p : Pos} {ps : List Str} {d : DSp} {j : Nat} (G : Df Y.X.prog Y.X.w Y.X.K Y.X.mg Y.X.base Y.T j x ps d) (ok : YOk Y) (hj : j ≤ Y.k) (hg : Gl Y.X x)
    (h : ps.length = 0 ∧ ∃ gs1 gs2, s.gs.Perm (gs1 ++ gs2) ∧ d [] gs1 (fun A gs' => Q A ⟨s.ρ, gs' ++ gs2⟩) (fun e gs' => Y.ex e ⟨s.ρ, gs' ++ gs2⟩))
    (hdb : (x == ("__debug__" : Str)) = false := by decide) : Ev Y s (.Call (.Name x p) [] [] pos) Q := fun F0 σ H F e0 S => by
  obtain ⟨⟨f, fd, F1, hm, hk, hb⟩, mono⟩ := G
  obtain ⟨hl, gs1, gs2, hp, q⟩ := h
  refine .of (pe_call0S (E := L2.WE (wxOf Y)) F1 (ok.room.mono hj) hg hm hk hb (fun σ => passAt ok.tk σ) hdb) ?_
  exact sp_call e0 S .nil hl.symm hp q (mono [] gs1)
structure ErrC (K : Frag) (mg : Str → Option Value) (x : Str) (C : Addr) : Prop where
  g : mg x = some (.ref C)
  xi : PySem.W.excIn K C [.type "ValueError", .type "Exception", .type "BaseException", .type "object"] "ValueError.__new__" = true
  kp : PySem.W.keepIn K (.ref C) = true
  sb : PySem.W.subIn K (.ref C) (.type "BaseException") = some true
  ty : PySem.W.typeIn K (.ref C) = some (.type "type")
theorem w1_raise {x m : Str} {C : Addr} {j : Nat} {p p2 p3 : Pos} (ok : YOk Y) (T : ErrC Y.X.K Y.X.mg x C) (hg : Gl Y.X x) (h : Y.ex ⟨C, none⟩ s) (hdb : (x == ("__debug__" : Str)) = false := by decide) :
    W1 Y s (.Raise (some (.Call (.Name x p) [.Constant (.str m) j p2] [] p3)) none pos) D := fun F0 σ H F e0 S =>
  .of (ps_raise ok.calm ok.tk (pmk_own PySem.F.excBase_ValueError T.xi T.g T.kp (raises_own T.sb T.ty) hg hdb)) ⟨⟨C, none⟩, s, F, S, ⟨rfl, rfl⟩, h⟩
theorem Stg.drop {K : Frag} {T : Tb} {gs : Gs} {H F : Hp} (G : Stg K T gs H F) (n : Nat) : Stg K T (gs.drop n) H F :=
  ⟨G.ext, G.ntb, fun p hp => G.own p (List.mem_of_mem_drop hp), G.nd.sublist ((List.drop_sublist n gs).map _), G.tb⟩
theorem Step.sub {H0 F0 H F : Hp} {S0 S S' : List Addr} (t : Step H0 F0 S0 H F S) (h : ∀ a ∈ S', a ∈ S) : Step H0 F0 S0 H F S' :=
  ⟨t.ff, t.fr, fun a q => t.nw a (q.imp id (h a))⟩
theorem ads_drop {gs : Gs} (n : Nat) : ∀ a ∈ ads (gs.drop n), a ∈ ads gs := fun a h => by
  obtain ⟨p, hp, e⟩ := List.mem_map.mp h
  exact List.mem_map.mpr ⟨p, List.mem_of_mem_drop hp, e⟩
abbrev bodyY (P : Program) (w : World) (K : Frag) (mg : Str → Option Value) (base : Heap) (T : Tb) (k : Nat) (N : List Str) (qual : Str) (scope : Scope) (f : Addr) (cdv : Value) (A : Around) (outer : List Env) (s : Shared) (H F : Hp) (gs : Gs) (E : XK) (ex : Exc → DSt → Prop) : DX :=
  ⟨cxOf (L2.CX P w) P w K mg base N qual scope f cdv A outer s H E, T, k, H, F, ads gs, ex⟩
theorem reps_start {K : Frag} {F : Hp} {vs : List V} {As : List Pv} (h : Rvs K F vs As) (n : Nat) : RepS K F (vs.map some ++ List.replicate n none) (As.map some ++ List.replicate n none) := by
  induction h with
  | nil =>
    induction n with
    | zero => exact .nil
    | succ n ih => exact .un ih
  | cons r _ ih => exact .ha r ih
end
end Sp
set_option maxHeartbeats 4000000
namespace Sp
open PySem L2
structure BCx where
  s : Shared
  H : Hp
  C : Addr
  cl : List (Str × Addr)
  fp : List Addr
abbrev blkX (X : Cx) (scope : Scope) (z : BCx) : Cx := X.blk z.s z.H scope (compEnvC scope z.cl z.C X.env) z.fp
abbrev blkY (Y : DX) (scope : Scope) (z : BCx) : DX := ⟨blkX Y.X scope z, Y.T, Y.k, Y.H0, Y.F0, Y.S0, fun _ _ => False⟩
theorem Sta.blk {Y : DX} {scope : Scope} {z : BCx} {s : DSt} {σ : St} {H F : Hp} (S : Sta Y s σ H F) : Sta (blkY Y scope z) s σ H F := ⟨S.ext, S.ntb, S.rep, S.own, S.nd, S.tb, S.st⟩
theorem Sta.unblk {Y : DX} {scope : Scope} {z : BCx} {s : DSt} {σ : St} {H F : Hp} (S : Sta (blkY Y scope z) s σ H F) : Sta Y s σ H F := ⟨S.ext, S.ntb, S.rep, S.own, S.nd, S.tb, S.st⟩
theorem YOk.blk {Y : DX} {scope : Scope} {z : BCx} (ok : YOk Y) : YOk (blkY Y scope z) :=
  ⟨ok.calm, ok.nd, ok.room, PassesOwn.never, fun _ _ ⟨_, _, _, _, _, _, _, _, _, _, _, _, _, _, _, _, _, _, _, _, _, q⟩ => q.elim⟩
def wipeR (ρ : Rho) : List Nat → Rho
  | [] => ρ
  | v :: vs => (wipeR ρ vs).set v none
theorem RepS.wipe {K : Frag} {F : Hp} {σ : St} {ρ : Rho} (h : RepS K F σ ρ) : ∀ vs : List Nat, RepS K F (wipe σ vs) (wipeR ρ vs)
  | [] => h
  | v :: vs => (RepS.wipe h vs).forget v
theorem Sta.wipe {Y : DX} {s : DSt} {σ : St} {H F : Hp} (S : Sta Y s σ H F) (vs : List Nat) : Sta Y ⟨wipeR s.ρ vs, s.gs⟩ (L2.wipe σ vs) H F := ⟨S.ext, S.ntb, S.rep.wipe vs, S.own, S.nd, S.tb, S.st⟩
theorem Sta.names {Y : DX} {s s' : DSt} {σ σ' : St} {H F F0 H' : Hp} (S : Sta Y s σ H F0) (S' : Sta Y s' σ' H' F) (e : Ext F0 F) : Sta Y ⟨s.ρ, s'.gs⟩ σ H' F := ⟨S'.ext, S'.ntb, S.rep.mono e, S'.own, S'.nd, S'.tb, S'.st⟩
theorem wipe_at {σ : St} {j : Nat} : ∀ {vs : List Nat}, (L2.wipe σ vs)[j]? = if j ∈ vs ∧ j < σ.length then some none else σ[j]?
  | [] => by simp [L2.wipe]
  | v :: vs => by
    unfold L2.wipe
    by_cases h : v = j
    · subst h
      by_cases hl : v < σ.length
      · rw [List.getElem?_set_self (by rw [wipe_length]; exact hl), if_pos ⟨List.mem_cons_self, hl⟩]
      · rw [if_neg (fun q => hl q.2), List.getElem?_eq_none (by rw [List.length_set, wipe_length]; omega), List.getElem?_eq_none (by omega)]
    · rw [List.getElem?_set_ne h, wipe_at]
      have : (j ∈ v :: vs) ↔ j ∈ vs := by
        rw [List.mem_cons]
        exact ⟨fun q => q.resolve_left fun e => h e.symm, .inr⟩
      simp only [this]
theorem wipe_only {σ σ2 : St} {ws vs : List Nat} (o : Only ws (L2.wipe σ vs) σ2) (hw : ∀ j ∈ ws, j ∈ vs) : L2.wipe σ2 vs = L2.wipe σ vs := by
  have hl : σ2.length = σ.length := by rw [o.1, wipe_length]
  apply List.ext_getElem?
  intro j
  rw [wipe_at, wipe_at, hl]
  by_cases h : j ∈ vs ∧ j < σ.length
  · rw [if_pos h, if_pos h]
  · rw [if_neg h, if_neg h]
    by_cases hj : j ∈ vs
    · have : ¬ j < σ.length := fun q => h ⟨hj, q⟩
      rw [List.getElem?_eq_none (by omega), List.getElem?_eq_none (by omega)]
    · rw [o.2 j (fun q => hj (hw j q)), wipe_at, if_neg h]
structure WTs (X : Cx) (ifs : List Expr) (σ : St) (H : Hp) (Q : Bool → Hp → Prop) : Prop where
  run : ∀ (pins : List (Addr × Obj)) (s : Shared), Inv X pins σ H s →
  wpAny (model X.prog X.w) X.A (forIn ifs true fun c r => if r = true then do let ok ← isTrue c X.env (eval c X.env); pure (ForInStep.yield ok) else pure (ForInStep.yield r)) (TP X pins σ Q) X.xe s
theorem WTs.of {X : Cx} {ifs : List Expr} {t : TT} {σ : St} {H : Hp} {Q : Bool → Hp → Prop} (p : PTs X ifs t) (h : t σ H Q) : WTs X ifs σ H Q := ⟨fun pins s I => p.run pins s σ H Q I h⟩
theorem WTs.mono {X : Cx} {ifs : List Expr} {σ : St} {H : Hp} {Q Q' : Bool → Hp → Prop} (h : WTs X ifs σ H Q) (k : ∀ b H', Q b H' → Q' b H') : WTs X ifs σ H Q' :=
  ⟨fun pins s I => thn (h.run pins s I) fun b _ ⟨H', J, q⟩ => ⟨H', J, k b H' q⟩⟩
def Ets (Y : DX) (s : DSt) (ifs : List Expr) (Q : Bool → DSt → Prop) : Prop := ∀ F0 σ H F, Ext F0 F → Sta Y s σ H F → WTs Y.X ifs σ H (Pt Y σ F0 Q)
theorem ets_nil {Y : DX} {s : DSt} {Q : Bool → DSt → Prop} (h : Q true s) : Ets Y s [] Q := fun F0 σ H F e0 S => .of pts_nil ⟨s, F, e0, S, h⟩
theorem ets_one {Y : DX} {s : DSt} {c : Expr} {Q : Bool → DSt → Prop} (h : Et Y s c Q) : Ets Y s [c] Q := fun F0 σ H F e0 S => .of (pts_one pt_wt) (h F0 σ H F e0 S)
section
variable {Y : DX} {s : DSt} {elt tg iter : Expr} {ifs : List Expr} {scope : Scope} {own : List (Str × Nat)} {pos : Pos} {Q : Pv → DSt → Prop}
variable {α β : Type} [Enc α] [Enc β]
structure LcTurns (Y : DX) (s : DSt) (scope : Scope) (vs : List Nat) (tg elt : Expr) (ifs : List Expr) (g : TG) (ws : List Nat) (f : β → Rho → Rho) (items : List β) (Iv : Nat → List α → Gs → Prop) : Prop where
  tg : ∀ z, TgOk (blkY Y scope z) tg g ws f
  sub : ∀ j ∈ ws, j ∈ vs
  small : ∀ i ys gs, Iv i ys gs → i < items.length → ys.length < sizeLine
  step : ∀ z i x ys gs D, items[i]? = some x → Iv i ys gs → Ets (blkY Y scope z) ⟨f x (wipeR s.ρ vs), (D, lstc ys) :: gs⟩ ifs fun b s2 =>
    if b = true then ∀ z', Ev (blkY Y scope z') s2 elt fun A s3 => ∃ y gs3, A = pu y ∧ s3.gs = (D, lstc ys) :: gs3 ∧ Iv (i + 1) (ys ++ [y]) gs3 else ∃ gs2, s2.gs = (D, lstc ys) :: gs2 ∧ Iv (i + 1) ys gs2
theorem tlc_ok {g : TG} {ws : List Nat} {f : β → Rho → Rho} {items : List β} {Iv : Nat → List α → Gs → Prop} {wi : TI} {F0 : Hp} {σ : St} {H : Hp} {Qf : VK}
    (hw : ∀ (R : It → Hp → Prop), (∀ J H' F', Ext F0 F' → Sta Y s σ H' F' → ItOk Y.X.K J F' items → R J H') → wi σ H R) (L : LcTurns Y s scope (own.map (·.2)) tg elt ifs g ws f items Iv) (h0 : Iv 0 [] s.gs)
    (hQ : ∀ D H' F' ys gs, Ext F0 F' → Sta Y ⟨s.ρ, (D, lstc ys) :: gs⟩ σ H' F' → Iv items.length ys gs → Qf (.ref D) H') :
    tLc wi g (fun σ H Q => ∀ z, WTs (blkX Y.X scope z) ifs σ H Q) (fun σ H Q => ∀ z, WE (blkX Y.X scope z) elt σ H Q) (own.map (·.2)) σ H Qf := by
  refine hw _ fun J H1 F1 e1 S1 K1 => ?_
  intro D hD
  have S1' := S1.newO (o := .lst []) (c := lstc ([] : List α)) hD rfl ⟨[], rfl, .nil⟩
  refine ⟨fun i m H => m = items.length - i ∧ i ≤ items.length ∧ ∃ ys gs F2, Ext F1 F2 ∧ Sta Y ⟨s.ρ, (D, lstc ys) :: gs⟩ σ H F2 ∧ Iv i ys gs, ⟨items.length, rfl, Nat.zero_le _, [], s.gs, F1, .refl _, S1', h0⟩, ?_⟩
  rintro i m H2 ⟨rfl, hi, ys, gs, F2, e2, S2, iv⟩
  by_cases hlt : i < items.length
  · have hx : items[i]? = some items[i] := List.getElem?_eq_getElem hlt
    refine .inr ⟨((K1 i H2 F2 e2 S2.ext).1 _ hx).1, fun H' => ∃ ys' gs' F3, Ext F1 F3 ∧ Sta Y ⟨s.ρ, (D, lstc ys') :: gs'⟩ σ H' F3 ∧ Iv (i + 1) ys' gs', fun H' ⟨ys', gs', F3, e3, S3, iv3⟩ => ⟨items.length - (i + 1), by omega, rfl, hlt, ys', gs', F3, e3, S3, iv3⟩, fun v H3 y => ?_⟩
    obtain ⟨F3, e3, S3, r3⟩ := K1.yld e2 S2 hx y
    have e13 := e2.trans e3
    let z0 : BCx := ⟨Y.X.s_0, H, 0, [], []⟩
    refine (L.tg z0).2 (L2.wipe σ (own.map (·.2))) H3 F3 v _ ⟨wipeR s.ρ (own.map (·.2)), (D, lstc ys) :: gs⟩ _ (S3.wipe _).blk r3 fun σ4 S4 o4 => ?_
    refine ⟨wipe_only o4 L.sub, ?_⟩
    have S4' := S4.unblk
    intro z
    have st := L.step z i _ ys gs D hx iv F3 σ4 H3 F3 (.refl _) S4'.blk
    refine st.mono fun b H4 ⟨s5, F5, e5, S5, q⟩ => ?_
    cases b with
    | false =>
      obtain ⟨gs2, eg, iv5⟩ := q
      refine ⟨ys, gs2, F5, e13.trans e5, ?_, iv5⟩
      have := S3.names S5.unblk e5
      rw [eg] at this
      exact this
    | true =>
      intro z'
      refine (q z' F5 σ4 H4 F5 (.refl _) S5.unblk.blk).mono fun w H6 ⟨A, s6, F6, e6, r6, S6, y, gs3, ea, eg, iv6⟩ => ?_
      subst ea
      have S7 := S3.names S6.unblk (e5.trans e6)
      rw [eg] at S7
      obtain ⟨hF, o, ho, hot, vs, ev, rv⟩ := S7.cell (i := 0) (p := D) (c := lstc ys) rfl
      subst ev
      refine ⟨vs, ho, by rw [rv.length]; exact L.small i ys gs iv hlt, ys ++ [y], gs3, F6, (e13.trans e5).trans e6, ?_, iv6⟩
      exact S7.write (i := 0) (c' := lstc (ys ++ [y])) (o' := .lst (vs ++ [w])) rfl ho (fun φ => by intro z; cases z) rfl ⟨_, rfl, rv.snoc r6⟩
  · have e : i = items.length := by omega
    subst e
    exact .inl ⟨(K1 _ H2 F2 e2 S2.ext).2 (Nat.le_refl _), hQ D H2 F2 ys gs (e1.trans e2) S2 iv⟩
theorem ev_lc {g : TG} {ws : List Nat} {f : β → Rho → Rho} {items : List β} (ok : YOk Y) (hi : EvIt Y s tg iter items) (bk : BlkOk Y.X.N Y.X.env.scope scope own) (Iv : Nat → List α → Gs → Prop) (L : LcTurns Y s scope (own.map (·.2)) tg elt ifs g ws f items Iv) (h0 : Iv 0 [] s.gs)
    (hQ : ∀ ys gs, Iv items.length ys gs → Q (pu ys) ⟨s.ρ, gs⟩) (hs : ∀ x, foldedSetIterable iter Y.X.env x = pure x := by intro _; rfl) : Ev Y s (.ListComp elt [⟨tg, iter, ifs, 0⟩] scope pos) Q := fun F0 σ H F e0 S => by
  obtain ⟨wi, hp, hw⟩ := hi
  have P := pe_lc (pos := pos) (tt := fun σ H Q => ∀ z, WTs (blkX Y.X scope z) ifs σ H Q) (te := fun σ H Q => ∀ z, WE (blkX Y.X scope z) elt σ H Q) ok.calm ok.nd hp bk (fun s H C cl fp => (L.tg ⟨s, H, C, cl, fp⟩).1) (fun s H C cl fp => ⟨fun pins s' σ H' Q I h => (h ⟨s, H, C, cl, fp⟩).run pins s' I⟩) (fun s H C cl fp => ⟨fun pins s' σ H' Q I h => (h ⟨s, H, C, cl, fp⟩).run pins s' I⟩) hs
  refine .of P (tlc_ok (fun R k => hw F0 σ H F R e0 S k) L h0 fun D H' F' ys gs e1 S1 iv => ?_)
  obtain ⟨hF, o, ho, hot, vs, ev, rv⟩ := S1.cell (i := 0) (p := D) (c := lstc ys) rfl
  subst ev
  have S2 := S1.freeze (i := 0) (p := D) (c := lstc ys) rfl ho
  exact ⟨pu ys, ⟨s.ρ, gs⟩, upd F' D (.lst vs), e1.trans (Ext.grow hF), ⟨D, vs, rfl, .of upd_same, rv.mono (Ext.grow hF)⟩, S2, hQ ys gs iv⟩
theorem lc_quiet {vs : List Nat} {g : TG} {ws : List Nat} {f : β → Rho → Rho} {items : List β} (c : β → Bool) (h : β → α) (tg0 : ∀ z, TgOk (blkY Y scope z) tg g ws f) (sub : ∀ j ∈ ws, j ∈ vs) (small : items.length ≤ sizeLine)
    (ht : ∀ z x D ys, x ∈ items → Ets (blkY Y scope z) ⟨f x (wipeR s.ρ vs), (D, lstc (α := α) ys) :: s.gs⟩ ifs fun b s2 => b = c x ∧ s2 = ⟨f x (wipeR s.ρ vs), (D, lstc ys) :: s.gs⟩)
    (he : ∀ z x D ys, x ∈ items → c x = true → EvP (blkY Y scope z) ⟨f x (wipeR s.ρ vs), (D, lstc (α := α) ys) :: s.gs⟩ elt (pu (h x))) :
    LcTurns Y s scope vs tg elt ifs g ws f items (fun i ys gs => ys = ((items.take i).filter c).map h ∧ gs = s.gs) where
  tg := tg0
  sub := sub
  small := fun i ys gs ⟨e, _⟩ hi => by
    subst e
    rw [List.length_map]
    have h1 := List.length_filter_le c (items.take i)
    rw [List.length_take] at h1
    omega
  step := fun z i x ys gs D hx ⟨e1, e2⟩ => by
    subst e2
    have hm := List.mem_of_getElem? hx
    have et : (items.take (i + 1)) = items.take i ++ [x] := by rw [List.take_add_one, hx, Option.toList_some]
    intro F0 σ H F e0 S
    refine (ht z x D ys hm F0 σ H F e0 S).mono fun b H' ⟨s2, F2, e3, S2, q1, q2⟩ => ⟨s2, F2, e3, S2, ?_⟩
    subst q1 q2
    cases hc : c x with
    | false => exact ⟨s.gs, rfl, by rw [e1, et, List.filter_append, List.filter_cons_of_neg (by simp [hc]), List.filter_nil, List.append_nil], rfl⟩
    | true => exact fun z' => .of (he z' x D ys hm hc) ⟨h x, s.gs, rfl, rfl, by rw [e1, et, List.filter_append, List.filter_cons_of_pos hc, List.filter_nil, List.map_append]; rfl, rfl⟩
end
end Sp
set_option maxHeartbeats 4000000
namespace Sp
open PySem L2
open PySem.W (Datum DatumOrd SomeDatum)
section
variable {Y : DX} {s : DSt} {e a b c d : Expr} {es : List Expr} {pos : Pos} {Q : Pv → DSt → Prop}
def DA (Y : DX) (s : DSt) {α : Type} [Enc α] (A : Pv) (x : α) : Prop := ∀ σ H F v, Sta Y s σ H F → A.rep Y.X.K F v → Enc.rep Y.X.K H v x
theorem DA.pu {α : Type} [Enc α] {x : α} : DA Y s (pu x) x := fun σ H F v S r => Enc.mono (α := α) r S.ext
theorem DA.own {α : Type} [Enc α] {xs : List α} {p : Addr} (i : Nat) (h : s.gs[i]? = some (p, lstc xs)) : DA Y s (raw (.ref p)) xs := fun σ H F v S r => by
  obtain ⟨_, o, ho, _, vs, eo, rv⟩ := S.cell h
  subst eo
  exact ⟨p, vs, r, .of ho, rv.mono S.ext⟩
def DD (Y : DX) (s : DSt) {κ ν : Type} [Kk κ] [Enc ν] (A : Pv) (d : List (κ × ν)) : Prop := ∀ σ H F v, Sta Y s σ H F → A.rep Y.X.K F v → ∃ p kvs, v = .ref p ∧ Rd H p (.dK kvs) ∧ KVs Y.X.K H kvs d
theorem DD.pu {κ ν : Type} [Kk κ] [Enc ν] {d : Dct κ ν} : DD Y s (pu d) d.kvs := fun σ H F v S ⟨p, od, kvs, e, hp, r⟩ => ⟨p, kvs, e, .inr ⟨od, S.ext _ _ hp⟩, r.mono S.ext⟩
theorem DD.own {κ ν : Type} [Kk κ] [Enc ν] {d : List (κ × ν)} {p : Addr} (i : Nat) (h : s.gs[i]? = some (p, dctc d)) : DD Y s (raw (.ref p)) d := fun σ H F v S r => by
  obtain ⟨_, o, ho, _, vs, eo, rv⟩ := S.cell h
  subst eo
  exact ⟨p, vs, r, .inl ho, rv.mono S.ext⟩
structure WC (X : Cx) (op : CmpOp) (a b : Expr) (σ : St) (H : Hp) (Q : VK) : Prop where
  run : ∀ (pins : List (Addr × Obj)) (s : Shared), Inv X pins σ H s →
  wpAny (model X.prog X.w) X.A (eval a X.env) (fun v s₁ => wpAny (model X.prog X.w) X.A (eval b X.env) (fun u s₂ => wpAny (model X.prog X.w) X.A (compareOp op v u) (EP X pins σ Q) X.xe s₂) X.xe s₁) X.xe s
theorem pc_wc {X : Cx} {op : CmpOp} : PC X op a b (WC X op a b) := ⟨fun pins s _ _ _ I h => h.run pins s I⟩
theorem WC.of {X : Cx} {op : CmpOp} {t : TE} {σ : St} {H : Hp} {Q : VK} (p : PC X op a b t) (h : t σ H Q) : WC X op a b σ H Q := ⟨fun pins s I => p.run pins s σ H Q I h⟩
theorem pc_opr {X : Cx} {op : CmpOp} {r : R2} {ta tb : TE} (ho : OpR X (compareOp op) r) (ha : PE X a ta) (hb : PE X b tb) : PC X op a b (tOp r ta tb) := by
  refine ⟨fun pins s σ H Q I h => ?_⟩
  exact thn (ha.run pins s σ H _ I h) fun v s1 ⟨x, H1, I1, r1, q1⟩ => thn (hb.run pins s1 σ H1 _ I1 q1) fun u s2 ⟨y, H2, I2, r2, q2⟩ => ho pins s2 σ H2 x y v u Q I2 r1 r2 q2
def Cmp (Y : DX) (s : DSt) (op : CmpOp) (a b : Expr) (Q : Bool → DSt → Prop) : Prop :=
  ∀ F0 σ H F, Ext F0 F → Sta Y s σ H F → WC Y.X op a b σ H fun v H' => ∃ c s' F', v = .bl c ∧ Ext F0 F' ∧ Sta Y s' σ H' F' ∧ Q c s'
abbrev CmpP (Y : DX) (s : DSt) (op : CmpOp) (a b : Expr) (c : Bool) : Prop := Cmp Y s op a b fun c' s' => c' = c ∧ s' = s
theorem cmp_of {op : CmpOp} {r : R2} {Q : Bool → DSt → Prop} (ho : OpR Y.X (compareOp op) r)
    (h : Ev Y s a fun A s1 => Ev Y s1 b fun B s2 => ∃ c : Bool, Q c s2 ∧ ∀ σ H F v u (Q' : VK), Sta Y s2 σ H F → A.rep Y.X.K F v → B.rep Y.X.K F u → Q' (.bl c) H → r v u H Q') : Cmp Y s op a b Q := fun F0 σ H F e0 S => by
  refine .of (pc_opr ho pe_we pe_we) ?_
  refine (h F σ H F (.refl _) S).mono fun v H1 ⟨A, s1, F1, e1, r1, S1, q1⟩ => ?_
  refine (q1 F1 σ H1 F1 (.refl _) S1).mono fun u H2 ⟨B, s2, F2, e2, r2, S2, c, qc, q2⟩ => ?_
  exact q2 σ H2 F2 v u _ S2 (A.mono r1 e2) r2 ⟨c, s2, F2, rfl, (e0.trans e1).trans e2, S2, qc⟩
theorem cmpp_of {op : CmpOp} {r : R2} {A B : Pv} {c : Bool} (ho : OpR Y.X (compareOp op) r) (ha : EvP Y s a A) (hb : EvP Y s b B)
    (h : ∀ σ H F v u (Q' : VK), Sta Y s σ H F → A.rep Y.X.K F v → B.rep Y.X.K F u → Q' (.bl c) H → r v u H Q') : CmpP Y s op a b c :=
  cmp_of ho (.of ha (.of hb ⟨c, ⟨rfl, rfl⟩, h⟩))
theorem ev_cmp {op : CmpOp} (h : Cmp Y s op a b fun c s' => Q (pu c) s') (h1 : behindInMarks op b = false := by first | exact nobehind _ (by decide) (by decide) | rfl) : Ev Y s (.Compare a [op] [b] pos) Q := fun F0 σ H F e0 S => by
  refine .of (pe_cmp pc_wc h1) ?_
  refine WC.mk fun pins s1 I => ?_
  refine thn ((h F0 σ H F e0 S).run pins s1 I) fun v s2 k => thn k fun u s3 k2 => thn k2 fun w s4 ⟨x, H', J, r, c, s', F', ex, e1, S', q⟩ => ?_
  subst ex
  exact ⟨_, H', J, r, pu c, s', F', e1, rfl, S', q⟩
theorem et_cmp {op : CmpOp} {Q : Bool → DSt → Prop} (h : Cmp Y s op a b Q) (h1 : behindInMarks op b = false := by first | exact nobehind _ (by decide) (by decide) | rfl) : Et Y s (.Compare a [op] [b] pos) Q := fun F0 σ H F e0 S => by
  refine .of (pt_cmp pc_wc h1) ?_
  refine WC.mk fun pins s1 I => ?_
  refine thn ((h F0 σ H F e0 S).run pins s1 I) fun v s2 k => thn k fun u s3 k2 => thn k2 fun w s4 ⟨x, H', J, r, c, s', F', ex, e1, S', q⟩ => ?_
  exact ⟨x, H', J, r, c, ex, s', F', e1, S', q⟩
theorem evp_cmp {op : CmpOp} {x : Bool} (h : CmpP Y s op a b x) (h1 : behindInMarks op b = false := by first | exact nobehind _ (by decide) (by decide) | rfl) : EvP Y s (.Compare a [op] [b] pos) (pu x) :=
  .of (ev_cmp (fun F0 σ H F e0 S => by
    refine WC.mk fun pins s1 I => ?_
    exact thn ((h F0 σ H F e0 S).run pins s1 I) fun v s2 k => thn k fun u s3 k2 => thn k2 fun w s4 ⟨x, H', J, r, c, s', F', ex, e1, S', q1, q2⟩ => by
      subst q1 q2
      exact ⟨x, H', J, r, _, _, F', ex, e1, S', rfl, rfl⟩) h1)
theorem etp_cmp {op : CmpOp} {x : Bool} (h : CmpP Y s op a b x) (h1 : behindInMarks op b = false := by first | exact nobehind _ (by decide) (by decide) | rfl) : EtP Y s (.Compare a [op] [b] pos) x := .of (et_cmp h h1)
theorem Cmp.mono {op : CmpOp} {Q Q' : Bool → DSt → Prop} (h : Cmp Y s op a b Q) (k : ∀ c s', Q c s' → Q' c s') : Cmp Y s op a b Q' := fun F0 σ H F e0 S => ⟨fun pins s1 I =>
  thn ((h F0 σ H F e0 S).run pins s1 I) fun v s2 z => thn z fun u s3 z2 => thn z2 fun w s4 ⟨x, H', J, r, c, s', F', ex, e1, S', q⟩ => ⟨x, H', J, r, c, s', F', ex, e1, S', k _ _ q⟩⟩
section
variable {α β : Type} [DecidableEq α] [Enc α] {A B : Pv} {x y : α}
section
variable [Datum α] [Dat α]
theorem cmp_eq (ok : YOk Y) (ha : EvP Y s a A) (hA : DA Y s A x) (hb : EvP Y s b B) (hB : DA Y s B y) (hd : Datum.depth α ≤ 60 := by decide) : CmpP Y s .Eq a b (decide (x = y)) :=
  cmpp_of (op_eqT (α := α) ok.room.units hd) ha hb fun σ H F v u Q S r1 r2 q => ⟨x, y, hA σ H F v S r1, hB σ H F u S r2, q⟩
end
section
variable [DatumOrd α] [Dat α]
end
end
section
variable {i j : Int}
theorem cmp_gt (ha : EvP Y s a (pu i)) (hb : EvP Y s b (pu j)) : CmpP Y s .Gt a b (decide (j < i)) := cmpp_of op_gt ha hb fun σ H F v u Q S r1 r2 q => ⟨i, j, r1, r2, q⟩
theorem cmp_ge (ha : EvP Y s a (pu i)) (hb : EvP Y s b (pu j)) : CmpP Y s .GtE a b (decide (j ≤ i)) := cmpp_of op_ge ha hb fun σ H F v u Q S r1 r2 q => ⟨i, j, r1, r2, q⟩
end
def tin (x y : List Nat) : Bool := !(Builtin.Str.occurrences (toStr y) (toStr x) 0 y.length 1).isEmpty
class NoN (α : Type) [Enc α] : Prop where
  no : ∀ {K F} {v : V} {x : α}, Enc.rep K F v x → v ≠ .non
instance : NoN Int := ⟨fun h e => by rw [e] at h; cases h⟩
instance : NoN Bool := ⟨fun h e => by rw [e] at h; cases h⟩
instance : NoN (List Nat) := ⟨fun h e => by rw [e] at h; cases h⟩
section
variable {α β γ δ : Type} [Enc α] [Enc β] [Enc γ] [Enc δ]
instance : NoN (List α) := ⟨fun ⟨_, _, h, _⟩ e => by rw [e] at h; cases h⟩
instance : NoN (Tup α) := ⟨fun ⟨_, _, h, _⟩ e => by rw [e] at h; cases h⟩
instance : NoN (α × β) := ⟨fun ⟨_, _, _, h, _⟩ e => by rw [e] at h; cases h⟩
instance : NoN (T3 α β γ) := ⟨fun ⟨_, _, _, _, h, _⟩ e => by rw [e] at h; cases h⟩
instance : NoN (T4 α β γ δ) := ⟨fun ⟨_, _, _, _, _, h, _⟩ e => by rw [e] at h; cases h⟩
theorem optNone [NoN α] {K F} {v : V} {x : Option α} (h : Enc.rep K F v x) : decide (v = .non) = x.isNone := by
  cases x with
  | none => cases h; rfl
  | some x => exact decide_eq_false (NoN.no (α := α) h)
end
structure WTW (X : Cx) (e : Expr) (σ : St) (H : Hp) (Q : Bool → Hp → Prop) : Prop where
  run : ∀ (wh : Sem Value) (pins : List (Addr × Obj)) (s : Shared), Inv X pins σ H s → wpAny (model X.prog X.w) X.A (isTrue e X.env wh) (TP X pins σ Q) X.xe s
theorem pw_wtw {X : Cx} : PW X e (WTW X e) := ⟨fun wh pins s _ _ _ I h => h.run wh pins s I⟩
theorem WTW.of {X : Cx} {σ : St} {H : Hp} {t : TT} {Q : Bool → Hp → Prop} (p : PW X e t) (h : t σ H Q) : WTW X e σ H Q := ⟨fun wh pins s I => p.run wh pins s σ H Q I h⟩
def Ew (Y : DX) (s : DSt) (e : Expr) (Q : Bool → DSt → Prop) : Prop := ∀ F0 σ H F, Ext F0 F → Sta Y s σ H F → WTW Y.X e σ H (Pt Y σ F0 Q)
theorem et_w {Q : Bool → DSt → Prop} (h : Ew Y s e Q) : Et Y s e Q := fun F0 σ H F e0 S => .of pw_wtw.pt (h F0 σ H F e0 S)
theorem ew_and1 {Q : Bool → DSt → Prop} (h : Et Y s a Q) : Ew Y s (.BoolOp .And [a] pos) Q := fun F0 σ H F e0 S => .of (pw_and1 pt_wt) (h F0 σ H F e0 S)
theorem ew_or1 {Q : Bool → DSt → Prop} (h : Et Y s a Q) : Ew Y s (.BoolOp .Or [a] pos) Q := fun F0 σ H F e0 S => .of (pw_or1 pt_wt) (h F0 σ H F e0 S)
theorem WTW.mono {X : Cx} {σ : St} {H : Hp} {Q Q' : Bool → Hp → Prop} (h : WTW X e σ H Q) (k : ∀ b H', Q b H' → Q' b H') : WTW X e σ H Q' :=
  ⟨fun wh pins s I => thn (h.run wh pins s I) fun b _ ⟨H', J, q⟩ => ⟨H', J, k b H' q⟩⟩
theorem Pt.ext {σ : St} {F0 F1 : Hp} {Q : Bool → DSt → Prop} {c : Bool} {H : Hp} (h : Pt Y σ F1 Q c H) (e : Ext F0 F1) : Pt Y σ F0 Q c H := by
  obtain ⟨s', F', e1, S', q⟩ := h
  exact ⟨s', F', e.trans e1, S', q⟩
theorem ew_and {Q : Bool → DSt → Prop} {r : List Expr} (h : Et Y s a fun x s1 => if x = true then Ew Y s1 (.BoolOp .And (b :: r) pos) Q else Q false s1) : Ew Y s (.BoolOp .And (a :: b :: r) pos) Q := fun F0 σ H F e0 S => by
  refine .of (pw_and pt_wt pw_wtw) ((h F0 σ H F e0 S).mono fun x H1 ⟨s1, F1, e1, S1, q⟩ => ?_)
  cases x with
  | true => exact (q F1 σ H1 F1 (.refl _) S1).mono fun c H2 z => z.ext e1
  | false => exact ⟨s1, F1, e1, S1, q⟩
theorem ew_or {Q : Bool → DSt → Prop} {r : List Expr} (h : Et Y s a fun x s1 => if x = true then Q true s1 else Ew Y s1 (.BoolOp .Or (b :: r) pos) Q) : Ew Y s (.BoolOp .Or (a :: b :: r) pos) Q := fun F0 σ H F e0 S => by
  refine .of (pw_or pt_wt pw_wtw) ((h F0 σ H F e0 S).mono fun x H1 ⟨s1, F1, e1, S1, q⟩ => ?_)
  cases x with
  | false => exact (q F1 σ H1 F1 (.refl _) S1).mono fun c H2 z => z.ext e1
  | true => exact ⟨s1, F1, e1, S1, q⟩
theorem et_not {Q : Bool → DSt → Prop} (h : Et Y s a fun x s1 => Q (!x) s1) : Et Y s (.UnaryOp .Not a pos) Q := fun F0 σ H F e0 S =>
  .of (pt_not pt_wt) ((h F0 σ H F e0 S).mono fun x H1 ⟨s1, F1, e1, S1, q⟩ => ⟨s1, F1, e1, S1, q⟩)
abbrev EwP (Y : DX) (s : DSt) (e : Expr) (x : Bool) : Prop := Ew Y s e fun y s' => y = x ∧ s' = s
theorem etp_w {x : Bool} (h : EwP Y s e x) : EtP Y s e x := .of (et_w h)
theorem ewp_and1 {x : Bool} (h : EtP Y s a x) : EwP Y s (.BoolOp .And [a] pos) x := ew_and1 (.of h ⟨rfl, rfl⟩)
theorem ewp_or1 {x : Bool} (h : EtP Y s a x) : EwP Y s (.BoolOp .Or [a] pos) x := ew_or1 (.of h ⟨rfl, rfl⟩)
theorem Ew.to {Q Q' : Bool → DSt → Prop} (h : Ew Y s e Q) (k : ∀ x s', Q x s' → Q' x s') : Ew Y s e Q' := fun F0 σ H F e0 S => (h F0 σ H F e0 S).mono fun x H1 ⟨s1, F1, e1, S1, q⟩ => ⟨s1, F1, e1, S1, k _ _ q⟩
theorem ewp_and {x y : Bool} {r : List Expr} (h : EtP Y s a x) (k : x = true → EwP Y s (.BoolOp .And (b :: r) pos) y) : EwP Y s (.BoolOp .And (a :: b :: r) pos) (x && y) := ew_and (.of h (by
  cases x with
  | true => exact (k rfl).to fun z s' q => q
  | false => exact ⟨rfl, rfl⟩))
theorem ewp_or {x y : Bool} {r : List Expr} (h : EtP Y s a x) (k : x = false → EwP Y s (.BoolOp .Or (b :: r) pos) y) : EwP Y s (.BoolOp .Or (a :: b :: r) pos) (x || y) := ew_or (.of h (by
  cases x with
  | false => exact (k rfl).to fun z s' q => q
  | true => exact ⟨rfl, rfl⟩))
theorem Pp.ext {σ : St} {F0 F1 : Hp} {A : Pv} {v : V} {H : Hp} (h : Pp Y s σ F1 A v H) (e : Ext F0 F1) : Pp Y s σ F0 A v H := by
  obtain ⟨F', e1, r, S'⟩ := h
  exact ⟨F', e.trans e1, r, S'⟩
theorem ev_if (h : Et Y s c fun x s1 => if x = true then Ev Y s1 a Q else Ev Y s1 b Q) : Ev Y s (.IfExp c a b pos) Q := fun F0 σ H F e0 S => by
  refine .of (pe_ifExp pt_wt pe_we pe_we) ((h F0 σ H F e0 S).mono fun x H1 ⟨s1, F1, e1, S1, q⟩ => ?_)
  cases x with
  | true => exact q F0 σ H1 F1 e1 S1
  | false => exact q F0 σ H1 F1 e1 S1
theorem EvP.inl {α β : Type} [Enc α] [Enc β] {x : α} (h : EvP Y s e (pu x)) : EvP Y s e (pu (Sum.inl x : α ⊕ β)) := h
theorem EvP.inr {α β : Type} [Enc α] [Enc β] {x : β} (h : EvP Y s e (pu x)) : EvP Y s e (pu (Sum.inr x : α ⊕ β)) := h
theorem EvP.some {α : Type} [Enc α] {x : α} (h : EvP Y s e (pu x)) : EvP Y s e (pu (Option.some x)) := h
theorem evp_none {α : Type} [Enc α] {j : Nat} : EvP Y s (.Constant .none j pos) (pu (Option.none : Option α)) := (evp_non : EvP Y s (.Constant .none j pos) (pu ()))
end
end Sp
set_option maxHeartbeats 4000000
namespace Sp
open PySem L2
open PySem.W (Datum DatumOrd SomeDatum)
section
variable {Y : DX} {s : DSt} {e a b c d o : Expr} {es : List Expr} {pos p : Pos} {Q : Pv → DSt → Prop}
theorem evp_T1 {A B : Pv} {x : Str} {T : String} {r : List V → Hp → VK → Prop} (hc : CallR Y.X (.type T) r) (hg : Gl Y.X x) (hm : Y.X.mg x = none) (hv : bootBuiltins x = some (.type T)) (ha : EvP Y s a A)
    (h : ∀ F0 σ H F v, Ext F0 F → Sta Y s σ H F → A.rep Y.X.K F v → r [v] H (Pp Y s σ F0 B)) (hn : x ≠ "__name__" := by decide) (hdb : (x == ("__debug__" : Str)) = false := by decide)
    (he : starEach [a] Y.X.env = (false, eval a Y.X.env) :: starEach [] Y.X.env := by rfl) : EvP Y s (.Call (.Name x p) [a] [] pos) B := fun F0 σ H F e0 S => by
  refine .of (pe_callTy hc hg hm hv (pa_cons pe_we pa_nil he) hn hdb he (by rfl)) ?_
  refine (ha F0 σ H F e0 S).mono fun v H1 ⟨F1, e1, r1, S1⟩ => ?_
  exact h F0 σ H1 F1 v e1 S1 r1
theorem pp_list {α : Type} [Enc α] {σ : St} {F0 H F : Hp} {vs : List V} {xs : List α} (e0 : Ext F0 F) (S : Sta Y s σ H F) (r : Vs Y.X.K F vs xs) (q : Addr) (hq : H q = none) : Pp Y s σ F0 (pu xs) (.ref q) (upd H q (.lst vs)) :=
  ⟨upd F q (.lst vs), e0.trans (Ext.grow (S.free hq)), ⟨q, vs, rfl, .of upd_same, r.mono (Ext.grow (S.free hq))⟩, S.newF hq rfl⟩
section
variable {α : Type} [Enc α] {A B : Pv} {xs ys : List α}
theorem evp_abs {i : Int} (T : Bis Y.X.mg) (hg : Gl Y.X "abs") (ha : EvP Y s a (pu i)) (he : starEach [a] Y.X.env = (false, eval a Y.X.env) :: starEach [] Y.X.env := by rfl) : EvP Y s (.Call (.Name "abs" p) [a] [] pos) (pu (if i < 0 then -i else i)) :=
  evp_B1 call_abs hg (T.no _ (by decide)) PyProof.Rows.boot_abs ha (fun F0 σ H F v e0 S r => ⟨i, by rw [show v = .int i from r], F, e0, rfl, S⟩) (by decide) (by decide) he
end
def DL (Y : DX) (s : DSt) {α : Type} [Enc α] (A : Pv) (xs : List α) : Prop := ∀ σ H F v, Sta Y s σ H F → A.rep Y.X.K F v → ∃ p vs, v = .ref p ∧ SqL Y.X.K H p vs ∧ Vs Y.X.K F vs xs
theorem DL.pu {α : Type} [Enc α] {xs : List α} : DL Y s (pu xs) xs := fun σ H F v S ⟨p, vs, h1, h2, h3⟩ => ⟨p, vs, h1, sqL_ext h2 S.ext, h3⟩
theorem DL.own {α : Type} [Enc α] {xs : List α} {p : Addr} (i : Nat) (h : s.gs[i]? = some (p, lstc xs)) : DL Y s (raw (.ref p)) xs := fun σ H F v S r => by
  obtain ⟨_, o, ho, _, vs, eo, rv⟩ := S.cell h
  subst eo
  exact ⟨p, vs, r, .of ho, rv⟩
theorem DL.da {α : Type} [Enc α] {A : Pv} {xs : List α} (h : DL Y s A xs) : DA Y s A xs := fun σ H F v S r => by
  obtain ⟨p, vs, h1, h2, h3⟩ := h σ H F v S r
  exact ⟨p, vs, h1, h2, h3.mono S.ext⟩
end
section
variable {X : Cx} {α : Type} [DecidableEq α] [Enc α]
theorem cr_sortedF [DatumOrd α] [Dat α] [Srtb α] (hu : X.A.units + 64 < cLine) (hd : Datum.depth α ≤ 60) : CallR X (.builtin "sorted") (fun vs H Q => ∃ F y p zs, ∃ xs : List α, vs = [y] ∧ y = .ref p ∧ SqL X.K H p zs ∧ Vs X.K F zs xs ∧ Ext F H ∧ ∀ p zs, H p = none → Vs X.K F zs (srt xs) → Q (.ref p) (upd H p (.lst zs))) := by
  intro pins s σ H vs us Q I r ⟨F, y, p, zs, xs, ev, e, hq, hz, ex, q⟩
  subst e ev
  obtain ⟨its, rv, hl, hlen⟩ := I.list hq
  obtain ⟨u, rfl, ru⟩ := vals1 r
  cases ru
  have hls : zs.length = xs.length := Paired.length hz
  have e0 := each_of hz rv
  refine PySem.W.sorted_data (enc := Datum.toD) hl.isList e0 (e0.mono fun u a ⟨z, r1, r2⟩ => enc_holds I (Enc.mono r1 ex) r2) (sort_alike xs) (sort_able xs) (by omega) (fun b _ => by have := Datum.depth_le b; omega) fun out h1 h2 => ?_
  rw [srt_eq] at h2
  obtain ⟨zs', h3, h4⟩ := each_back h2
  obtain ⟨ep, he'⟩ := PyProof.Rows.sortedAll_at s.heap its out.toArray
  have hl4 : zs'.length = out.length := Paired.length h4
  exact ⟨.ref _, upd H (s.heap.objs.size + 1) (.lst zs'), I.laid (t' := s.toks) (fun _ _ => PyProof.Rows.sortedAll_old) (Nat.le_succ _) ⟨by omega, out, ep, h4, he'⟩, rfl, q _ zs' (I.hok.fresh (Nat.le_succ _)) h3⟩
theorem pickF [DatumOrd α] [Dat α] {pins : List (Addr × Obj)} {σ : St} {H F : Hp} {s : Shared} {h' : Heap} {tk : Nat} {zs : List V} {its : List Value} {xs : List α} {i : Nat} {v : Value} {m : α} (I : Inv X pins σ H { s with heap := h', toks := tk }) (hz : Vs X.K F zs xs) (ex : Ext F H) (rv : Vals zs its) (hv : its[i]? = some v) (hm : PySem.W.Holds h' v m) :
    ∃ z, Enc.rep X.K F z m ∧ RelV z v := by
  have hi : i < its.length := (List.getElem?_eq_some_iff.mp hv).1
  have e1 : zs.length = its.length := Paired.length rv
  have e2 : zs.length = xs.length := Paired.length hz
  obtain ⟨z, h1, r1⟩ := prd_get hz (i := i) (y := xs[i]'(by omega)) (List.getElem?_eq_getElem _)
  obtain ⟨u, h2, r2⟩ := rv.get h1
  rw [hv] at h2
  cases h2
  have := holds_one (h := h') (enc_holds I (Enc.mono r1 ex) r2) hm
  rw [this] at r1
  exact ⟨z, r1, r2⟩
theorem cr_maxF [DatumOrd α] [Dat α] (hc : X.calm = true) (hu : X.A.units + 64 < cLine) (hd : Datum.depth α ≤ 60) : CallR X (.builtin "max") (fun vs H Q => ∃ F y p zs x, ∃ xs : List α, vs = [y] ∧ y = .ref p ∧ SqL X.K H p zs ∧ Vs X.K F zs (x :: xs) ∧ Ext F H ∧ ∀ z, Enc.rep X.K F z (PySem.W.maxOf x xs) → Q z H) := by
  intro pins s σ H vs us Q I r ⟨F, y, p, zs, x, xs, ev, e, hq, hz, ex, q⟩
  subst e ev
  obtain ⟨its, rv, hl, hlen⟩ := I.list hq
  obtain ⟨u, rfl, ru⟩ := vals1 r
  cases ru
  refine PySem.W.max_list_datum (vs := its.toArray) (I.ok.hd hc) hl.isList (vs_holds I (hz.mono ex) rv) (by omega) fun i v h' tk hv hm hk => ?_
  have J := I.kept (t' := tk) hk
  obtain ⟨z, r1, r2⟩ := pickF J hz ex rv (by simpa using hv) hm
  exact ⟨z, H, J, r2, q z r1⟩
end
section
variable {Y : DX} {s : DSt} {e a b c d o : Expr} {es : List Expr} {pos p apos : Pos} {Q : Pv → DSt → Prop}
section
variable {α : Type} [DecidableEq α] [Enc α] {A B : Pv} {x : α} {xs ys : List α}
end
section
variable {α β : Type} [Enc α] [Enc β] {A B : Pv} {xs ys : List α}
theorem op_catF {X : Cx} : OpR X (binaryOp .Add) (fun x y H Q => ∃ p q xs ys, x = .ref p ∧ y = .ref q ∧ SqL X.K H p xs ∧ SqL X.K H q ys ∧ xs.length + ys.length ≤ sizeLine ∧ ∀ p, H p = none → Q (.ref p) (upd H p (.lst (xs ++ ys)))) := by
  intro pins s σ H x y v u Q I rx ry ⟨p, p2, zs, zs2, e, e2, hq, hq2, hs, q⟩
  subst e e2
  obtain ⟨its, rv, hl, hlen⟩ := I.list hq
  obtain ⟨its2, rv2, hl2, hlen2⟩ := I.list hq2
  obtain ⟨⟨cls, dd, data, sl⟩, ho, hc, n, hd⟩ := hl.isList
  obtain ⟨⟨cls2, dd2, data2, sl2⟩, ho2, hc2, n2, hd2⟩ := hl2.isList
  simp only at hc hd hc2 hd2
  subst hc hd hc2 hd2
  cases rx
  cases ry
  have e : its.toArray ++ its2.toArray = (its ++ its2).toArray := by simp
  have h1 : zs.length = its.length := Paired.length rv
  have h2 : zs2.length = its2.length := Paired.length rv2
  refine concat_meets ⟨_, ho, rfl⟩ ⟨_, ho2, rfl⟩ noFill_list_add seq_list_add PySem.F.slot_list_add PySem.F.entry_list_add (PySem.F.args_list_add_2 _ _) (PyProof.Rows.list_addW p p2 its.toArray its2.toArray n n2 dd dd2 sl sl2 (by simp only [List.size_toArray]; omega)) ⟨ho, ho2, ?_⟩
  rw [e]
  exact ⟨.ref _, _, I.lnew (t' := s.toks) (rv.append rv2) (by rw [List.length_append]; omega), rfl, q _ I.fresh⟩
theorem evp_ixA {i : Int} {x : α} (hs : PlainIx b) (ha : EvP Y s a A) (hA : DL Y s A xs) (hb : EvP Y s b (pu i)) (hx : atI xs i = some x) : EvP Y s (.Subscript a b pos) (pu x) :=
  evp2 (pe_ix ix_list pe_we pe_we hs) ha hb fun F0 σ H F v u e0 S rv ru => by
    obtain ⟨p, vs, h1, h2, h3⟩ := hA σ H F v S rv
    obtain ⟨w, hw, rw'⟩ := atI_of h3 hx
    exact ⟨p, vs, i, w, h1, ru, h2, hw, F, e0, rw', S⟩
def cutD {γ : Type} (xs : List γ) (lo hi : Option Int) : List γ := (xs.drop (HT.sIx xs.length 0 lo)).take (HT.sIx xs.length xs.length hi - HT.sIx xs.length 0 lo)
def EvO (Y : DX) (s : DSt) (e : Option Expr) (i : Option Int) : Prop := ∀ F0 σ H F, Ext F0 F → Sta Y s σ H F → ∀ (pins : List (Addr × Obj)) (s1 : Shared), Inv Y.X pins σ H s1 →
  wpAny (model Y.X.prog Y.X.w) Y.X.A (evalPart e Y.X.env) (fun u s' => ∃ o H', Inv Y.X pins σ H' s' ∧ IsPart u o ∧ o = i ∧ ∃ F', Ext F0 F' ∧ Sta Y s σ H' F') Y.X.xe s1
theorem evo_no : EvO Y s none none := fun F0 σ H F e0 S pins s1 I => (po_none).run pins s1 σ H _ I ⟨rfl, F, e0, S⟩
theorem evo_at {i : Int} (h : EvP Y s e (pu i)) : EvO Y s (some e) (some i) := fun F0 σ H F e0 S pins s1 I => (po_some pe_we).run pins s1 σ H _ I ((h F0 σ H F e0 S).mono fun v H' ⟨F', e1, r, S'⟩ => ⟨i, r, rfl, F', e1, S'⟩)
structure WO (X : Cx) (e : Option Expr) (σ : St) (H : Hp) (Q : Option Int → Hp → Prop) : Prop where
  run : ∀ (pins : List (Addr × Obj)) (s1 : Shared), Inv X pins σ H s1 →
  wpAny (model X.prog X.w) X.A (evalPart e X.env) (fun u s' => ∃ o H', Inv X pins σ H' s' ∧ IsPart u o ∧ Q o H') X.xe s1
theorem po_wo {X : Cx} {e : Option Expr} : PO X e (WO X e) := ⟨fun pins s _ _ _ I h => h.run pins s I⟩
theorem evp_sl {r : V → Option Int → Option Int → Hp → VK → Prop} {lo hi : Option Expr} {i j : Option Int} {p2 : Pos} (hr : SlR Y.X r) (ha : EvP Y s a A) (hl : EvO Y s lo i) (hh : EvO Y s hi j)
    (h : ∀ F0 σ H F v, Ext F0 F → Sta Y s σ H F → A.rep Y.X.K F v → r v i j H (Pp Y s σ F0 B)) : EvP Y s (.Subscript a (.Slice lo hi none p2) pos) B := fun F0 σ H F e0 S => by
  refine .of (pe_slice hr pe_we po_wo po_wo) ?_
  refine (ha F σ H F (.refl _) S).mono fun v H1 ⟨F1, e1, r1, S1⟩ => ?_
  refine ⟨fun pins s1 I => ?_⟩
  refine thn (hl F1 σ H1 F1 (.refl _) S1 pins s1 I) fun u s2 ⟨o, H2, I2, p2, eo, F2, e2, S2⟩ => ⟨o, H2, I2, p2, ?_⟩
  subst eo
  refine ⟨fun pins' s1' I' => ?_⟩
  refine thn (hh F2 σ H2 F2 (.refl _) S2 pins' s1' I') fun u' s3 ⟨o', H3, I3, p3, eo', F3, e3, S3⟩ => ⟨o', H3, I3, p3, ?_⟩
  subst eo'
  exact h F0 σ H3 F3 v (((e0.trans e1).trans e2).trans e3) S3 (A.mono r1 (e2.trans e3))
theorem toStr_cut (x : List Nat) (i j : Option Int) : cutS (toStr x) i j = toStr (cutD x i j) := by
  unfold cutS cutD
  rw [toStr_cps, toStr_len]
  rfl
theorem cut_vs {K : Frag} {F : Hp} {vs : List V} {xs : List α} (h : Vs K F vs xs) (i j : Option Int) : Vs K F (cutV vs i j) (cutD xs i j) := by
  unfold cutV cutD
  rw [show vs.length = xs.length from Paired.length h]
  exact prd_take (prd_drop h _) _
theorem evp_slL {lo hi : Option Expr} {i j : Option Int} {p2 : Pos} (ha : EvP Y s a A) (hA : DL Y s A xs) (hl : EvO Y s lo i) (hh : EvO Y s hi j) : EvP Y s (.Subscript a (.Slice lo hi none p2) pos) (pu (cutD xs i j)) :=
  evp_sl sl_list ha hl hh fun F0 σ H F v e0 S r => by
    obtain ⟨q, zs, h1, h2, h3⟩ := hA σ H F v S r
    exact ⟨q, zs, h1, h2, fun l hl => pp_list e0 S (cut_vs h3 i j) l hl⟩
theorem cutV_all {vs : List V} {i j : Option Int} (h : HT.sIx vs.length 0 i = 0 ∧ HT.sIx vs.length vs.length j = vs.length) : cutV vs i j = vs := by
  unfold cutV
  rw [h.1, h.2]
  simp
end
theorem tyV_list {K : Frag} {H : Hp} {p : Addr} {xs : List V} (h : SqL K H p xs) : tyV K "list" (.ref p) H := .inl ⟨rfl, xs, h⟩
end
end Sp
set_option maxHeartbeats 4000000
namespace Sp
open PySem L2
open PySem.W (Datum DatumOrd SomeDatum)
section
variable {Y : DX} {s : DSt} {e a b c d o : Expr} {es : List Expr} {pos p apos : Pos} {Q : Pv → DSt → Prop}
structure Mx1 (X : Cx) (o : Expr) (m : Str) (apos : Pos) (e : Expr) (pos : Pos) : Prop where
  base : attributeBase o m X.env (eval o X.env) = eval o X.env
  few : ((backTo pos (starEach [e] X.env)).all (fun x => !x.1) && (backToKw pos (keywordEach [] X.env)).all (fun x => x.1.isSome)
      && decide (([e] : List Expr).length + ([] : List Keyword).length + (if ([] : List Keyword).isEmpty then 0 else 1) < 30)) = true
  line : (apos.endLine == pos.line) = true
  star : starEach [e] X.env = (false, eval e X.env) :: starEach [] X.env
structure Mx0 (X : Cx) (o : Expr) (m : Str) (apos : Pos) (pos : Pos) : Prop where
  base : attributeBase o m X.env (eval o X.env) = eval o X.env
  line : (apos.endLine == pos.line) = true
section
variable {α : Type} [DecidableEq α] [Enc α] [Datum α] [Dat α] {A B : Pv} {x : α} {xs ys : List α}
theorem DL.ty {A : Pv} {xs : List α} (h : DL Y s A xs) : ∀ σ H F v, Sta Y s σ H F → A.rep Y.X.K F v → tyV Y.X.K "list" v H := fun σ H F v S r => by
  obtain ⟨q, zs, h1, h2, h3⟩ := h σ H F v S r
  subst h1
  exact tyV_list h2
theorem DL.rd {A : Pv} {xs : List α} (h : DL Y s A xs) {σ : St} {H F : Hp} {v : V} (S : Sta Y s σ H F) (r : A.rep Y.X.K F v) : LRd Y.X.K H v xs := by
  obtain ⟨q, zs, h1, h2, h3⟩ := h σ H F v S r
  exact ⟨q, zs, h1, h2, h3.mono S.ext⟩
theorem not_codeL {o : HO} {vs : List V} (h : o = .lst vs) : ∀ φ, o ≠ HO.ext φ := fun φ z => by rw [h] at z; cases z
theorem not_codeD {o : HO} {vs : List (Key × V)} (h : o = .dK vs) : ∀ φ, o ≠ HO.ext φ := fun φ z => by rw [h] at z; cases z
end
section
variable {α : Type} [Enc α] {A B : Pv} {x : α} {xs ys : List α}
end
theorem tyV_str {K : Frag} {H : Hp} {x : List Nat} {v : V} (h : (pu x).rep K H v) : tyV K "str" v H := by
  have h' : v = .str (toStr x) := h
  subst h'
  rfl
end
end Sp
set_option maxHeartbeats 4000000
namespace Sp
open PySem L2
open PySem.W (Datum DatumOrd SomeDatum)
class FlatV (α : Type) [Enc α] where
  z : α → V
  rep : ∀ {K : Frag} {F : Hp} (a : α), Enc.rep K F (z a) a
instance : FlatV Int := ⟨V.int, fun _ => rfl⟩
instance : FlatV (List Nat) := ⟨fun x => V.str (toStr x), fun _ => rfl⟩
instance : FlatV Bool := ⟨V.bl, fun _ => rfl⟩
section
variable {X : Cx} {α : Type} [DecidableEq α] [Enc α] [DatumOrd α] [Dat α] [Srtb α] [FlatV α]
class FlatR (α : Type) [DecidableEq α] [Enc α] [FlatV α] [Datum α] : Prop where
  rd : ∀ {h : Heap} {v : Value} (a : α), RelV (FlatV.z a) v → Reads h v (Datum.toD a) []
instance : FlatR Int := ⟨fun a r => by obtain ⟨t, e⟩ := r; subst e; exact Reads.int a t⟩
instance : FlatR (List Nat) := ⟨fun a r => by obtain ⟨t, e⟩ := r; subst e; exact Reads.str (toStr a) t⟩
end
section
variable {κ ν : Type} [DecidableEq κ]
def dval (d : List (κ × ν)) (k : κ) : Option ν := (d.find? fun kv => decide (kv.1 = k)).map (·.2)
def dput (d : List (κ × ν)) (k : κ) (v : ν) : List (κ × ν) := if (d.any fun kv => decide (kv.1 = k)) = true then d.map (fun kv => if kv.1 = k then (kv.1, v) else kv) else d ++ [(k, v)]
def dmerge (d more : List (κ × ν)) : List (κ × ν) := more.foldl (fun acc kv => dput acc kv.1 kv.2) d
end
section
variable {κ ν : Type} [DecidableEq κ] [Kk κ] [Enc ν] {K : Frag} {F : Hp}
theorem key_iff {a b : κ} : Kk.key a = Kk.key b ↔ a = b := ⟨Kk.inj, fun h => by rw [h]⟩
theorem kvs_val {zs : List (Key × V)} {d : List (κ × ν)} (h : KVs K F zs d) (k : κ) : (dval d k = none ∧ valV zs (Kk.key k) = none) ∨ ∃ v x, dval d k = some x ∧ valV zs (Kk.key k) = some v ∧ Enc.rep K F v x := by
  induction h with
  | nil => exact .inl ⟨rfl, rfl⟩
  | @cons p q zs d r t ih =>
    by_cases e : q.1 = k
    · refine .inr ⟨p.2, q.2, ?_, ?_, r.2⟩
      · simp [dval, List.find?_cons, e]
      · exact valV_pos (by rw [r.1, e])
    · have e' : ¬ p.1 = Kk.key k := fun z => e (Kk.inj (r.1.symm.trans z))
      rw [valV_neg e']
      have : dval (q :: d) k = dval d k := by simp [dval, List.find?_cons, e]
      rw [this]
      exact ih
theorem kvs_any {zs : List (Key × V)} {d : List (κ × ν)} (h : KVs K F zs d) (k : κ) : (zs.any fun kv => decide (kv.1 = Kk.key k)) = d.any fun kv => decide (kv.1 = k) := by
  induction h with
  | nil => rfl
  | @cons p q zs d r t ih =>
    rw [List.any_cons, List.any_cons, ih]
    congr 1
    rw [r.1]
    exact decide_eq_decide.mpr key_iff
theorem kvs_put {zs : List (Key × V)} {d : List (κ × ν)} (h : KVs K F zs d) {k : κ} {v : V} {x : ν} (r : Enc.rep K F v x) : KVs K F (putK zs (Kk.key k) v) (dput d k x) := by
  unfold putK dput
  rw [kvs_any h]
  by_cases e : (d.any fun kv => decide (kv.1 = k)) = true
  · rw [if_pos e, if_pos e]
    refine prd_map h fun a b q => ?_
    by_cases z : b.1 = k
    · rw [if_pos z, if_pos (by rw [q.1, z])]
      exact ⟨q.1, r⟩
    · rw [if_neg z, if_neg (fun y => z (Kk.inj (q.1.symm.trans y)))]
      exact q
  · rw [if_neg e, if_neg e]
    exact prd_app h (.cons ⟨rfl, r⟩ .nil)
theorem kvs_merge {ws : List (Key × V)} {e : List (κ × ν)} (k : KVs K F ws e) : ∀ {zs : List (Key × V)} {d : List (κ × ν)}, KVs K F zs d → KVs K F (mergeK zs ws) (dmerge d e) := by
  unfold mergeK dmerge
  induction k with
  | nil => exact fun h => h
  | @cons p q ws e r t ih =>
    intro zs d h
    rw [List.foldl_cons, List.foldl_cons]
    refine ih ?_
    rw [r.1]
    exact kvs_put h r.2
end
class KkV (κ : Type) [Kk κ] [Enc κ] : Prop where
  rep : ∀ {K : Frag} {F : Hp} (k : κ), Enc.rep K F (kV (Kk.key k)) k
  of : ∀ {K : Frag} {F : Hp} {v : V} {k : κ}, Enc.rep K F v k → v = kV (Kk.key k)
instance : KkV Int := ⟨fun _ => rfl, fun h => h⟩
instance : KkV (List Nat) := ⟨fun _ => rfl, fun h => h⟩
section
variable {Y : DX} {s : DSt} {e a b c d o : Expr} {es : List Expr} {pos p apos : Pos} {Q : Pv → DSt → Prop}
variable {κ ν : Type} [DecidableEq κ] [Kk κ] [Enc κ] [KkV κ] [Enc ν] {A B : Pv} {m : List (κ × ν)} {k : κ} {x : ν}
def DF (Y : DX) (s : DSt) {κ ν : Type} [Kk κ] [Enc ν] (A : Pv) (d : List (κ × ν)) : Prop := ∀ σ H F v, Sta Y s σ H F → A.rep Y.X.K F v → ∃ p kvs, v = .ref p ∧ Rd H p (.dK kvs) ∧ KVs Y.X.K F kvs d
theorem DF.pu {d : Dct κ ν} : DF Y s (pu d) d.kvs := fun σ H F v S ⟨p, od, kvs, e, hp, r⟩ => ⟨p, kvs, e, .inr ⟨od, S.ext _ _ hp⟩, r⟩
theorem DF.own {d : List (κ × ν)} {p : Addr} (i : Nat) (h : s.gs[i]? = some (p, dctc d)) : DF Y s (raw (.ref p)) d := fun σ H F v S r => by
  obtain ⟨_, o, ho, _, vs, eo, rv⟩ := S.cell h
  subst eo
  exact ⟨p, vs, r, .inl ho, rv⟩
def dhas (m : List (κ × ν)) (k : κ) : Bool := (dval m k).isSome
theorem ev_dnew {κ ν : Type} [Kk κ] [Enc ν] (q : ∀ p, Q (raw (.ref p)) ⟨s.ρ, (p, dctc ([] : List (κ × ν))) :: s.gs⟩) : Ev Y s (.Dict [] [] pos) Q := fun F0 σ H F e0 S =>
  .of pe_dnewK fun p hp => ⟨raw (.ref p), _, F, e0, rfl, S.newO (c := dctc ([] : List (κ × ν))) hp rfl ⟨[], rfl, .nil⟩, q p⟩
theorem pp_dict {σ : St} {F0 H F : Hp} {zs : List (Key × V)} (e0 : Ext F0 F) (S : Sta Y s σ H F) (r : KVs Y.X.K F zs m) (q : Addr) (hq : H q = none) (od : Obj) : Pp Y s σ F0 (pu (Dct.mk m)) (.ref q) (upd H q (.frz od (.dK zs))) :=
  ⟨upd F q (.frz od (.dK zs)), e0.trans (Ext.grow (S.free hq)), ⟨q, od, zs, rfl, upd_same, r.mono (Ext.grow (S.free hq))⟩, S.newF hq rfl⟩
end
end Sp
set_option maxHeartbeats 4000000
namespace Sp
open PySem L2
open PySem.W (Datum DatumOrd SomeDatum)
section
variable {Y : DX} {s : DSt} {e a b c d o : Expr} {es : List Expr} {pos p apos : Pos} {Q : Pv → DSt → Prop} {D : DE}
section
variable {κ ν : Type} [DecidableEq κ] [Kk κ] [Enc κ] [KkV κ] [Enc ν] {A B : Pv} {m : List (κ × ν)} {k : κ} {x : ν}
end
theorem ws_freezeL {α : Type} [Enc α] {xs : List α} {q : Addr} {sts : List Stmt} (i j : Nat) (hi : s.ρ[i]? = some (some (raw (.ref q)))) (hj : s.gs[j]? = some (q, lstc xs)) (h : Ws Y ⟨s.ρ.set i (some (pu xs)), s.gs.eraseIdx j⟩ sts D) : Ws Y s sts D := fun F0 σ H F e0 S => by
  obtain ⟨hF, oo, hoo, _, zs, eo, rv⟩ := S.cell hj
  subst eo
  have S2 := S.freeze hj hoo
  obtain ⟨v, hv, rv'⟩ := S.rep.get hi
  have rv2 : v = .ref q := rv'
  subst rv2
  have S3 := S2.set (A := pu xs) (v := .ref q) ⟨q, zs, rfl, .of upd_same, rv.mono (Ext.grow hF)⟩ i
  have eσ : σ.set i (some (V.ref q)) = σ := by
    apply List.ext_getElem?
    intro t
    by_cases z : i = t
    · subst z
      rw [List.getElem?_set_self (List.getElem?_eq_some_iff.mp hv).1, hv]
    · rw [List.getElem?_set_ne z]
  rw [eσ] at S3
  exact h F0 σ _ _ (e0.trans (Ext.grow hF)) S3
section
variable {κ ν : Type} [DecidableEq κ] [Kk κ] [Enc κ] [KkV κ] [Enc ν] {A B : Pv} {m : List (κ × ν)} {k : κ} {x : ν}
end
theorem joinT_cons (a x y : List Nat) (r : List (List Nat)) : joinT a ((x ++ a ++ y) :: r) = x ++ a ++ joinT a (y :: r) := by
  cases r with
  | nil => rfl
  | cons z r => simp only [joinT, List.append_assoc]
theorem glue_fold (a : List Nat) : ∀ (r : List (List Nat)) (x : List Nat), (r.map toStr).foldl (fun acc p => acc ++ (toStr a).cps ++ p.cps) (toStr x).cps = (toStr (joinT a (x :: r))).cps
  | [], x => rfl
  | y :: r, x => by
    have e : (toStr x).cps ++ (toStr a).cps ++ (toStr y).cps = (toStr (x ++ a ++ y)).cps := by simp [toStr]
    rw [List.map_cons, List.foldl_cons, e, glue_fold a r, joinT_cons]
    rfl
theorem toStr_join' (a : List Nat) (xs : List (List Nat)) : Txt.join (toStr a) (xs.map toStr) = toStr (joinT a xs) := by
  unfold Txt.join Builtin.Str.glued
  cases xs with
  | nil => rfl
  | cons x r =>
    have h := glue_fold a r x
    simp only [List.map_cons, List.drop_succ_cons, List.drop_zero, List.headD_cons]
    rw [h]
theorem txts_map {K : Frag} {H : Hp} {vs : List V} {xs : List (List Nat)} (h : Vs K H vs xs) : vs = (xs.map toStr).map V.str := vs_txts h
def lenSum (xs : List (List Nat)) : Nat := (xs.map List.length).sum
end
section
variable {Y : DX} {s : DSt} {e a b c d o tg : Expr} {es elts : List Expr} {pos p apos cpos tpos : Pos} {kk : Nat}
def enumD {α : Type} (xs : List α) : List (Int × α) := xs.mapIdx fun i x => ((i : Int), x)
section
variable {κ ν : Type} [Kk κ] [Enc κ] [KkV κ] [Enc ν] {m : Dct κ ν}
end
end
end Sp
set_option maxHeartbeats 4000000
namespace Sp
open PySem L2
open PySem.W (Datum DatumOrd SomeDatum)
abbrev Flds := List (Str × Pv)
abbrev FR (K : Frag) (F : Hp) : List (Str × V) → Flds → Prop := Paired fun p q => p.1 = q.1 ∧ q.2.rep K F p.2
theorem FR.mono {K : Frag} {F F' : Hp} {vs : List (Str × V)} {fs : Flds} (h : FR K F vs fs) (e : Ext F F') : FR K F' vs fs := Paired.mapP h fun _ q r => ⟨r.1, q.2.mono r.2 e⟩
def insP (C : Addr) (fs : Flds) : Pv := ⟨fun K F v => ∃ a dx vs, v = .ref a ∧ F a = some (.ins C dx vs) ∧ FR K F vs fs, fun ⟨a, dx, vs, h1, h2, h3⟩ e => ⟨a, dx, vs, h1, e _ _ h2, h3.mono e⟩⟩
def insc (C : Addr) (fs : Flds) : Cell := ⟨fun K F o => ∃ dx vs, o = .ins C dx vs ∧ FR K F vs fs, fun ⟨dx, vs, h1, h2⟩ e => ⟨dx, vs, h1, h2.mono e⟩⟩
def fput (f : Str) (A : Pv) : Flds → Flds
  | [] => [(f, A)]
  | (g, B) :: r => if g = f then (g, A) :: r else (g, B) :: fput f A r
theorem fr_put {K : Frag} {F : Hp} {f : Str} {v : V} {A : Pv} {vs : List (Str × V)} {fs : Flds} (h : FR K F vs fs) (r : A.rep K F v) : FR K F (putF f v vs) (fput f A fs) := by
  induction h with
  | nil => exact .cons ⟨rfl, r⟩ .nil
  | @cons p q vs fs r1 t ih =>
    obtain ⟨g, x⟩ := p
    obtain ⟨g', B⟩ := q
    have e : g = g' := r1.1
    subst e
    unfold putF fput
    by_cases z : g = f
    · rw [if_pos z, if_pos z]
      exact .cons ⟨rfl, r⟩ t
    · rw [if_neg z, if_neg z]
      exact .cons r1 ih
theorem fr_look {K : Frag} {F : Hp} {f : Str} {A : Pv} {vs : List (Str × V)} {fs : Flds} (h : FR K F vs fs) (l : fs.lookup f = some A) : ∃ v, vs.lookup f = some v ∧ A.rep K F v := by
  induction h with
  | nil => cases l
  | @cons p q vs fs r1 t ih =>
    obtain ⟨g, x⟩ := p
    obtain ⟨g', B⟩ := q
    have e : g = g' := r1.1
    subst e
    rw [List.lookup_cons] at l ⊢
    cases z : f == g with
    | true => rw [z] at l; cases l; exact ⟨x, rfl, r1.2⟩
    | false => rw [z] at l; exact ih l
theorem fr_no {K : Frag} {F : Hp} {f : Str} {vs : List (Str × V)} {fs : Flds} (h : FR K F vs fs) (l : fs.lookup f = none) : vs.lookup f = none := by
  induction h with
  | nil => rfl
  | @cons p q vs fs r1 t ih =>
    obtain ⟨g, x⟩ := p
    obtain ⟨g', B⟩ := q
    have e : g = g' := r1.1
    subst e
    rw [List.lookup_cons] at l ⊢
    cases z : f == g with
    | true => rw [z] at l; cases l
    | false => rw [z] at l; exact ih l
theorem not_codeI {o : HO} {C dx : Addr} {vs : List (Str × V)} (h : o = .ins C dx vs) : ∀ φ, o ≠ HO.ext φ := fun φ z => by rw [h] at z; cases z
section
variable {Y : DX} {s : DSt} {e a b c d o : Expr} {es : List Expr} {pos p apos : Pos} {Q : Pv → DSt → Prop} {D : DE} {C : Addr} {fs : Flds} {f : Str} {A : Pv}
def IA (Y : DX) (s : DSt) (A : Pv) (C : Addr) (fs : Flds) : Prop := ∀ σ H F v, Sta Y s σ H F → A.rep Y.X.K F v → ∃ a dx vs, v = .ref a ∧ H a = some (.ins C dx vs) ∧ FR Y.X.K F vs fs
theorem IA.pu : IA Y s (insP C fs) C fs := fun σ H F v S ⟨a, dx, vs, h1, h2, h3⟩ => ⟨a, dx, vs, h1, S.ext _ _ h2, h3⟩
theorem IA.own {q : Addr} (i : Nat) (h : s.gs[i]? = some (q, insc C fs)) : IA Y s (raw (.ref q)) C fs := fun σ H F v S r => by
  obtain ⟨_, o, ho, _, dx, vs, eo, rv⟩ := S.cell h
  subst eo
  exact ⟨q, dx, vs, r, ho, rv⟩
theorem evp_fld {B : Pv} (c : Cls Y.X.K C) (n : NoAttr Y.X.K C f) (ho : EvP Y s o B) (hB : IA Y s B C fs) (l : fs.lookup f = some A) (hb : attributeBase o f Y.X.env (eval o Y.X.env) = eval o Y.X.env := by rfl) : EvP Y s (.Attribute o f pos) A := fun F0 σ H F e0 S => by
  refine .of (pe_fld pe_we hb) ((ho F0 σ H F e0 S).mono fun v H1 ⟨F1, e1, r1, S1⟩ => ?_)
  obtain ⟨a, dx, vs, ev, ha, rf⟩ := hB σ H1 F1 v S1 r1
  obtain ⟨w, l2, rw'⟩ := fr_look rf l
  exact ⟨a, C, dx, vs, w, ev, ha, c, n, l2, F1, e1, rw', S1⟩
theorem w1_fld {q : Addr} {p2 : Pos} (i : Nat) (c : Cls Y.X.K C) (n : NoAttr Y.X.K C f) (hl : fs.length < 1000)
    (hv : Ev Y s e fun X s1 => s1.gs[i]? = some (q, insc C fs) ∧ EvP Y s1 o (raw (.ref q)) ∧ D.nx ⟨s1.ρ, s1.gs.set i (q, insc C (fput f X fs))⟩)
    (hs : swapsWith e (some (.Attribute o f p2)) pos.line Y.X.env = pure false := by rfl) : W1 Y s (.Assign [.Attribute o f p2] e pos) D := fun F0 σ H F e0 S => by
  refine .of (ps_fld pe_we pe_we hs) ?_
  refine (hv F σ H F (.refl _) S).mono fun v H1 ⟨X, s1, F1, e1, r1, S1, hi, ho, k1⟩ => ?_
  refine (ho F1 σ H1 F1 (.refl _) S1).mono fun u H2 ⟨F2, e2, r2, S2⟩ => ?_
  obtain ⟨hF, oo, hoo, _, dx, vs, eo, rv⟩ := S2.cell hi
  subst eo
  exact ⟨q, C, dx, vs, r2, hoo, c, n, by rw [show vs.length = fs.length from Paired.length rv]; exact hl, _, F2, (e0.trans e1).trans e2, S2.write (c' := insc C (fput f X fs)) hi hoo (not_codeI rfl) rfl ⟨dx, _, rfl, fr_put rv (X.mono r1 e2)⟩, k1⟩
structure Mt (P : Program) (w : World) (K : Frag) (mg : Str → Option Value) (base : Heap) (T : Tb) (k : Nat) (C : Addr) (m : Str) (ps : List Str) (d : DSp) : Prop where
  ex : ∃ (f : Addr) (fd : FuncData), FnOk P w K mg base (L2.CX P w) k f fd ps (toSp K T ps.length d) ∧ Meth K C m f ∧ Binds K fd ps []
  mono : DMono d
section
variable {X : Cx} {CX : CXT} {k : Nat} {ff : Addr} {fd : FuncData} {ps : List Str} {sp : Sp} {E : St → XK} {m : Str} {ta : TE} {t : TA}
def tMethS (C : Addr) (m : Str) (sp : Sp) (E : St → XK) (ta : TE) (t : TA) : TE := fun σ H Q => ta σ H fun x H1 => ∃ a dx fs, x = .ref a ∧ H1 a = some (.ins C dx fs) ∧ fs.lookup m = none ∧ t σ H1 fun vs H2 => sp (x :: vs) H2 Q (E σ)
theorem pe_methS {pl : Sem Bool} (he : PE X o ta) (c : Cls X.K C) (hm : Meth X.K C m ff) (F : FnOk X.prog X.w X.K X.mg X.base CX k ff fd ps sp) (hr : Room k X.A) (hb : Binds X.K fd ps []) (hx : ∀ σ, PassesAt CX X σ (E σ)) (ha : PA X (e :: es) t)
    (hst : starEach (e :: es) X.env = (false, eval e X.env) :: starEach es X.env) (hpl : (backTo pos (starEach es X.env)).any (·.1) = false)
    (ht : eval (.Call (.Attribute o m apos) (e :: es) [] pos) X.env = (do
      let ov ← eval o X.env
      standAt apos.atName
      let (f, first) ← holding [ov] (getMethod ov m pl)
      callWith pos f first (backTo pos (starEach (e :: es) X.env)) (backToKw pos (keywordEach [] X.env)))) :
    PE X (.Call (.Attribute o m apos) (e :: es) [] pos) (tMethS C m sp E ta t) := by
  refine ⟨fun pins s σ H Q I h => ?_⟩
  refine PySem.W.methodCall_KW (pl := pl) (thn (he.run pins s σ H _ I h) fun u s1 ⟨x, H1, I1, rx, a, dx, fs, ex, ea, l, q⟩ => ?_) ht
  subst ex
  obtain rfl : u = Value.ref a := rx
  refine getmeth_ok I1 ea c hm l ?_
  refine PySem.W.callWith_K (first := [.ref a]) (h₀ := X.base) I.ok.mod.kin hm.kp (thn (ha.run pos pins s1 σ H1 _ I1 q) fun us s2 ⟨vs, H2, I2, r, q2⟩ => ⟨I2.kIn, ?_⟩) hst hpl
  exact run_fnS (us := .ref a :: us) (vs := .ref a :: vs) F hr hb (hx σ) I2 (.cons rfl r) q2
theorem pe_methS0 {pl : Sem Bool} (he : PE X o ta) (c : Cls X.K C) (hm : Meth X.K C m ff) (F : FnOk X.prog X.w X.K X.mg X.base CX k ff fd ps sp) (hr : Room k X.A) (hb : Binds X.K fd ps []) (hx : ∀ σ, PassesAt CX X σ (E σ))
    (ht : eval (.Call (.Attribute o m apos) [] [] pos) X.env = (do
      let ov ← eval o X.env
      standAt apos.atName
      let (f, first) ← holding [ov] (getMethod ov m pl)
      callWith pos f first (backTo pos (starEach [] X.env)) (backToKw pos (keywordEach [] X.env)))) :
    PE X (.Call (.Attribute o m apos) [] [] pos) (tMethS C m sp E ta tNil) := by
  refine ⟨fun pins s σ H Q I h => ?_⟩
  refine PySem.W.methodCall_KW (pl := pl) (thn (he.run pins s σ H _ I h) fun u s1 ⟨x, H1, I1, rx, a, dx, fs, ex, ea, l, q⟩ => ?_) ht
  subst ex
  obtain rfl : u = Value.ref a := rx
  refine getmeth_ok I1 ea c hm l ?_
  exact PySem.W.callWith_K0 (first := [.ref a]) I1.kIn hm.kp (run_fnS (us := [.ref a]) (vs := [.ref a]) F hr hb (hx σ) I1 (.cons rfl .nil) q)
end
structure Mkr (P : Program) (w : World) (K : Frag) (mg : Str → Option Value) (base : Heap) (T : Tb) (k : Nat) (x : Str) (C : Addr) (ps : List Str) (d : DSp) : Prop where
  ex : ∃ (f : Addr) (fd : FuncData), FnOk P w K mg base (L2.CX P w) k f fd ps (toSp K T ps.length d) ∧ Mk K C f ∧ Binds K fd ps []
  g : mg x = some (.ref C)
  mono : DMono d
theorem run_makeS {X : Cx} {CX : CXT} {k : Nat} {ff : Addr} {fd : FuncData} {ps : List Str} {sp : Sp} {E : XK} {pins : List (Addr × Obj)} {σ : St} {H : Hp} {s : Shared} {Q : VK} {us : List Value} {vs : List V} (M : Mk X.K C ff) (F : FnOk X.prog X.w X.K X.mg X.base CX k ff fd ps sp) (hr : Room (k + 1) X.A) (hb : Binds X.K fd ps [])
    (hx : PassesAt CX X σ E) (I : Inv X pins σ H s) (r : Vals vs us)
    (h : ∀ x dx, H x = none → H dx = none → dx ≠ x → sp (.ref x :: vs) (upd (upd H dx (.own x)) x (.ins C dx [])) (fun v H2 => v = .non ∧ Q (.ref x) H2) E) :
    wpAny (model X.prog X.w) X.A (call (.ref C) us) (EP X pins σ Q) X.xe s := by
  have hq := h (s.heap.objs.size + 1) s.heap.objs.size (I.hok.fresh (Nat.le_succ _)) (I.hok.fresh (Nat.le_refl _)) (Nat.ne_of_lt (Nat.lt_succ_self _))
  have I2 := Inv.made (C := C) I
  have r2 : Vals (V.ref (s.heap.objs.size + 1) :: vs) (Value.ref (s.heap.objs.size + 1) :: us) := .cons rfl r
  have hl : (Value.ref (s.heap.objs.size + 1) :: us).length = ps.length := by
    have e := r2.length
    rw [F.len _ _ _ _ hq] at e
    exact e.symm
  have b := hb _ (Value.ref (s.heap.objs.size + 1) :: us) I2.kIn (by rw [List.append_nil]; exact hl)
  rw [List.append_nil] at b
  refine wpAny_call (make_map (f := ff) I.kIn M.makes M.init (beq_iff_eq.mp M.fn) (codeAny_mono (F.run _ X.stack _ _ ⟨Value.ref (s.heap.objs.size + 1) :: us, []⟩ (Value.ref (s.heap.objs.size + 1) :: us) _ _ E (hr.make C us [])
    (I2.env0.make C us []) b r2 hq) fun r s' hq' => ?_))
  cases r with
  | error e => exact hx pins _ _ e s' I2 hq'
  | ok fl =>
    cases fl with
    | ret u =>
      obtain ⟨v, H', I3, rv, ev, q3⟩ := I2.after hq'
      subst ev
      exact ⟨rv, ⟨V.ref (s.heap.objs.size + 1), H', I3, rfl, q3⟩⟩
    | next => exact False.elim hq'
    | brk => exact False.elim hq'
    | cont => exact False.elim hq'
def tMakeS (C : Addr) (sp : Sp) (E : St → XK) (t : TA) : TE := fun σ H Q => t σ H fun vs H1 => ∀ x dx, H1 x = none → H1 dx = none → dx ≠ x → sp (.ref x :: vs) (upd (upd H1 dx (.own x)) x (.ins C dx [])) (fun v H2 => v = .non ∧ Q (.ref x) H2) (E σ)
theorem pe_makeS {X : Cx} {CX : CXT} {k : Nat} {ff : Addr} {fd : FuncData} {ps : List Str} {sp : Sp} {E : St → XK} {x : Str} {t : TA} (M : Mk X.K C ff) (F : FnOk X.prog X.w X.K X.mg X.base CX k ff fd ps sp) (hr : Room (k + 1) X.A) (hg : Gl X x) (hm : X.mg x = some (.ref C)) (hb : Binds X.K fd ps []) (hx : ∀ σ, PassesAt CX X σ (E σ))
    (ha : PA X (e :: es) t) (hdb : (x == ("__debug__" : Str)) = false) (he : starEach (e :: es) X.env = (false, eval e X.env) :: starEach es X.env) (hpl : (backTo pos (starEach es X.env)).any (·.1) = false) :
    PE X (.Call (.Name x p) (e :: es) [] pos) (tMakeS C sp E t) := by
  refine ⟨fun pins s σ H Q I h => ?_⟩
  refine wpAny_Call_Name_kw (ld_glob I hg hm ?_ hdb)
  refine PySem.W.callWith_K (h₀ := X.base) I.ok.mod.kin M.kp (thn (ha.run pos pins s σ H _ I h) fun us s1 ⟨vs, H1, I1, r, q⟩ => ⟨I1.kIn, ?_⟩) he hpl
  exact run_makeS M F hr hb (hx σ) I1 r q
end
end Sp
set_option maxHeartbeats 4000000
namespace Sp
open PySem L2
open PySem.W (Datum DatumOrd SomeDatum)
abbrev Cls_ := List (Addr × Txt)
def Tell (K : Frag) : Cls_ → Addr → Txt → Prop
  | [], _, _ => False
  | (c, x) :: r, C, t => ∃ b, PySem.W.exmOne K (.ref C) (.ref c) = some b ∧ (b = true → t = x) ∧ (b = false → Tell K r C t)
def Chn (K : Frag) : Cls_ → Value → Hp → VK → Prop
  | [], _, _, _ => False
  | (c, x) :: r, cls, H, Q => ∃ b, PySem.W.exmOne K cls (.ref c) = some b ∧ (b = true → Q (.str (toStr x)) H) ∧ (b = false → Chn K r cls H Q)
theorem tell_chn {K : Frag} {H : Hp} {Q : VK} {C : Addr} {t : Txt} : ∀ {l : Cls_}, Tell K l C t → Q (.str (toStr t)) H → Chn K l (.ref C) H Q
  | [], h, _ => h.elim
  | (c, x) :: r, ⟨b, h1, h2, h3⟩, q => ⟨b, h1, fun e => by rw [← h2 e]; exact q, fun e => tell_chn (h3 e) q⟩
def TTm (K : Frag) (l : Cls_) : (XK → Hp → VK → Prop) → Hp → VK → Prop := fun tl H Q => tl (fun cls _ H' => Chn K l cls H' Q) H Q
inductive HdT (K : Frag) (mg : Str → Option Value) (sg : Scope) : List ExceptHandler → Cls_ → Prop
  | nil : HdT K mg sg [] []
  | cons {e m : Str} {c : Addr} {x : Txt} {j : Nat} {p4 p5 p6 p7 : Pos} {hds : List ExceptHandler} {l : Cls_} : sg.names.lookup e = some .globalImplicit → mg e = some (.ref c) → (e == ("__debug__" : Str)) = false → toStr x = m → HdT K mg sg hds l →
      HdT K mg sg (.ExceptHandler (some (.Name e p4)) none [.Return (some (.Constant (.str m) j p5)) p6] p7 :: hds) ((c, x) :: l)
section
variable {X : Cx}
def tsR (x : Str) : Addr → Value → Option Addr → TS := fun _ _ _ D σ H => D.rt (.str x) H
theorem hds_ok {Z : Cx} {sg : Scope} {hds : List ExceptHandler} {l : Cls_} (h : HdT Z.K Z.mg sg hds l) (hz : Z.env.scope = sg) : HdsOk Z hds (l.map fun cx => (Value.ref cx.1, tsR (toStr cx.2))) := by
  induction h with
  | nil => exact .nil
  | cons h1 h2 h3 h4 _ ih =>
    subst h4
    refine .cons ⟨?_, h3, .inl h2⟩ (fun a oe cls d pn _ _ => ?_) ih
    · show Z.env.scope.names.lookup _ = _
      rw [hz]
      exact h1
    · exact ⟨fun pins s σ H D I q => (pss_one (ps_ret pe_str)).run pins s σ H D I q⟩
theorem many_chn {K : Frag} {D : Ends} {σ : St} {H : Hp} {cls : Value} {d : Option Addr} : ∀ {l : Cls_}, Chn K l cls H D.rt → wMany K (fun _ _ _ _ => False) D (l.map fun cx => (Value.ref cx.1, tsR (toStr cx.2))) cls d σ H
  | [], h => h
  | (c, x) :: r, ⟨b, h1, h2, h3⟩ => ⟨b, h1, fun e a _ => h2 e, fun e => many_chn (h3 e)⟩
theorem told_many {Ng : List Str} {x a q : Str} {sg : Scope} {g : Addr} {cdg : Value} {p1 p2 p3 p8 : Pos} {h0 : ExceptHandler} {hds : List ExceptHandler} {l : Cls_} (hh : HdT X.K X.mg sg (h0 :: hds) l) (hN : ∀ f : Addr, (L2.start Ng [V.ref f])[0]? = some (some (V.ref f))) :
    LamX.GivesTo X Ng x sg g cdg [.Try [.Return (some (.Call (.Name a p1) [] [] p2)) p3] (h0 :: hds) [] [] p8] a q (TTm X.K l) := by
  intro f c' s H Q tl act hc h
  refine ⟨_, pss_one (ps_try_many (X := (cxOf C8.CX0 X.prog X.w X.K X.mg X.base Ng x sg g cdg X.A X.stack s H C8.E0).nox)
    (tb := fun W D σ H => ∃ Ech : XK, (∀ cls d σ' H', Ech cls d H' → W cls d σ' H') ∧ σ[0]? = some (some (.ref f)) ∧ H c' = some (LamX.CodeO c' q) ∧ tl Ech H D.rt)
    rfl rfl LamX.takes0 (fun W pn xe tk _ => ?_) (hds_ok hh rfl)), ?_⟩
  · exact ⟨fun pins s' σ H' D I ⟨Ech, hW, h1, h2, h3⟩ => (pss_one (ps_ret (pos := p3) (act W pn xe Ech p1 p2 tk hW))).run pins s' σ H' D I ⟨h1, h2, h3⟩⟩
  · exact ⟨fun cls _ H' => Chn X.K l cls H' Q, fun cls d σ' H' z => many_chn (D := { nx := fun _ H' => Q .non H', rt := Q }) z, hN f, hc, h⟩
end
theorem among_app2 {pos p' : Pos} {c cv : Value} (l : List Value) (h : TriplesOk l) (hc : codeAmong p' (l ++ [rawInt pos.line, rawInt pos.col, c]) = some cv) : codeAmong p' l = some cv ∨ cv = c ∧ p'.line = pos.line ∧ p'.col = pos.col := by
  fun_induction TriplesOk l with
  | case1 =>
    simp only [List.nil_append, rawInt, codeAmong] at hc
    split at hc
    · rename_i q
      refine .inr ⟨(Option.some.inj hc).symm, ?_⟩
      simp only [Bool.and_eq_true, beq_iff_eq] at q
      omega
    · cases hc
  | case2 a t b u x rest ih =>
    simp only [List.cons_append, codeAmong] at hc ⊢
    split at hc
    · rename_i q
      rw [if_pos q]
      exact .inl hc
    · rename_i q
      rw [if_neg q]
      exact ih h hc
  | case3 l h1 h2 => exact h.elim
theorem mix_tb {T : Tb} {H H' : Hp} {P : Addr} {k0 : Tk} (h : TbOk T H) (hm : (P, k0) ∈ T) (hu : ∀ p ∈ T, p.1 = P → p.2 = k0) (sm : ∀ b o, H b = some o → b ≠ P → H' b = some o) (ex : LamX.ExtN H H') (hn : TbE H' P k0) : TbOk T H' := fun p hp => by
  obtain ⟨a, k⟩ := p
  by_cases hb : a = P
  · have hk : k = k0 := hu _ hp hb
    rw [hb, hk]
    exact hn
  · have h0 := h _ hp
    cases k with
    | plain q =>
      obtain ⟨qs, a1, a2, a3⟩ := h0
      refine ⟨qs, sm _ _ a1 hb, a2, fun p' cv hcv' => ?_⟩
      obtain ⟨c0, e1, e2⟩ := a3 p' cv hcv'
      exact ⟨c0, e1, ex _ _ e2 LamX.codeO_ne⟩
    | nest z9 =>
      obtain ⟨qs, a1, a2, a3⟩ := h0
      refine ⟨qs, sm _ _ a1 hb, a2, fun p' cv hcv' => ?_⟩
      obtain ⟨c0, P0, e1, e2, e3⟩ := a3 p' cv hcv'
      exact ⟨c0, P0, e1, ex _ _ e2 (fun _ z => by unfold CodeT at z; cases z), ex _ _ e3 (fun _ z => by unfold PTab at z; cases z)⟩
    | own =>
      obtain ⟨P0, q, e2, e3⟩ := h0
      exact ⟨P0, q, ex _ _ e2 (fun _ z => by unfold CodeT at z; cases z), ex _ _ e3 (fun _ z => by unfold PTab at z; cases z)⟩
    | mix ls q =>
      obtain ⟨qs, a1, a2, a3⟩ := h0
      refine ⟨qs, sm _ _ a1 hb, a2, fun p' cv hcv' => ?_⟩
      obtain ⟨c0, e1, e2⟩ := a3 p' cv hcv'
      exact ⟨c0, e1, fun l => ex _ _ (e2 l) LamX.codeO_ne⟩
section
variable {X : Cx} {pins : List (Addr × Obj)} {σ : L2.St} {H : Hp} {s : Shared}
def OthT (P : Addr) (H H1 : Hp) : Prop := ∀ b ps, b ≠ P → H b = some (.tbl ps) → H1 b = some (.tbl ps)
structure LamAt (X : Cx) (T : List (Addr × Str)) (P : Addr) (params : Arguments) (body : Expr) (scope : Scope) (H H1 : Hp) (f c' : Addr) (pm ctv : Value) (s' : Shared) : Prop where
  ext : LamX.ExtN H H1
  tabs : LamX.Tabs T H1
  oth : OthT P H H1
  obj : s'.heap.get? f = some (PySem.W.kla_obj "<lambda>" (X.env.qual ++ "<lambda>") params body scope (cloFrom X.env.cells scope.names []) pm c' ctv)
  free : H1 f = none
  nofr : f ∉ frs X.stack
  code : H1 c' = some (LamX.CodeO c' (X.env.qual ++ "<lambda>"))
theorem lam_laid {T : List (Addr × Str)} {c P : Addr} {params : Arguments} {body : Expr} {scope : Scope} {pos : Pos} {E Q : Value → Shared → Prop} (I : Inv X pins σ H s) (B : LamX.TabB X.base X.mg c P) (hcode : X.env.code = .ref c)
    (hm : (P, X.env.qual ++ "<lambda>") ∈ T) (hu : ∀ p ∈ T, p.1 = P → p.2 = X.env.qual ++ "<lambda>") (hT : LamX.Tabs T H) (hdef : defaultsOf params X.env = ([], [])) (hfree : ∀ y ∈ scope.names, y.2 = .free → ∃ c, X.env.cells.lookup y.1 = some c)
    (h : ∀ (f c' : Addr) (pm ctv : Value) (H1 : Hp) (s' : Shared), Inv X pins σ H1 s' → LamAt X T P params body scope H H1 f c' pm ctv s' → Q (.ref f) s') :
    wpAny (model X.prog X.w) X.A (eval (.Lambda params body scope pos) X.env) Q E s := by
  obtain ⟨ps, hP, ht, ha⟩ := hT _ hm
  have bP : s.heap.BuiltinsAt X.mg P := B.bm.keeps I.bk
  have oP : s.heap.get? P = some { cls := .none, data := .fields ps } := I.hok P _ hP
  have away : ∀ f : Addr, s.heap.objs.size ≤ f → f ∉ frs X.stack := fun f hf z => (List.mem_cons.mp (I.stkSub _ z)).elim
    (fun e => absurd (Nat.lt_of_lt_of_le (show f < s.heap.objs.size by rw [e]; exact I.lt) hf) (Nat.lt_irrefl _)) (fun e => I.nofs hf e)
  refine PySem.W.kla_eval hdef ?_
  cases hf : codeAmong pos ps.toList with
  | some cv =>
    obtain ⟨c', rfl, hco⟩ := ha pos cv hf
    refine PySem.W.kla_makeFunctionHit (mg := X.mg) (c := c) (P := P) (ps := ps) (closure_ok hfree) I.ok.glob (I.mod.glob.keeps I.bk) hcode (B.code.keeps I.bk) oP ht hf bP fun ctv h' tk hx hsz => ?_
    exact h _ c' _ ctv H _ (I.kept fun b o e => Heap.get?_push_of_some _ (hx b o e)) ⟨.refl H, hT, fun _ _ _ e => e, Heap.get?_push_size _ rfl, I.hok.fresh hsz, away _ hsz, hco⟩
  | none =>
    refine PySem.W.kla_makeFunction (mg := X.mg) (c := c) (P := P) (ps := ps) (closure_ok hfree) I.ok.glob (I.mod.glob.keeps I.bk) hcode (B.code.keeps I.bk) oP ht hf B.gP bP fun c' ctv h' tk hx hge hlt hrec htb => ?_
    obtain ⟨c2, oc, vs, t, e2, hoc, hd, hv⟩ := hrec
    cases e2
    have big : s.heap.objs.size ≤ h'.objs.size := Nat.le_trans hge (Nat.le_of_lt hlt)
    have nC : H c' = none := I.hok.fresh hge
    have oth : OthT P H (upd (upd H P (.tbl (ps ++ #[rawInt pos.line, rawInt pos.col, .ref c']))) c' (LamX.CodeO c' (X.env.qual ++ "<lambda>"))) := fun b qs hb e => by
      rw [upd_ne (ne_of_none e nC), upd_ne hb]; exact e
    have ex : LamX.ExtN H (upd (upd H P (.tbl (ps ++ #[rawInt pos.line, rawInt pos.col, .ref c']))) c' (LamX.CodeO c' (X.env.qual ++ "<lambda>"))) := fun b o e n => by
      have nb : b ≠ P := fun z => by rw [z, hP] at e; exact n ps (Option.some.inj e).symm
      rw [upd_ne (ne_of_none e nC), upd_ne nb]; exact e
    have J := LamX.inv_table (t' := tk) (more := #[rawInt pos.line, rawInt pos.col, .ref c']) (h' := h'.push (PySem.W.kla_obj "<lambda>" (X.env.qual ++ "<lambda>") params body scope (cloFrom X.env.cells scope.names []) ((X.mg "__name__").getD .none) c' ctv)) I hP
      (fun b o hb e => Heap.get?_push_of_some _ (hx b o hb e)) (Heap.get?_push_of_some _ htb) hge ⟨oc, vs, t, Heap.get?_push_of_some _ hoc, hd, hv⟩
    have tl : (ps ++ #[rawInt pos.line, rawInt pos.col, .ref c']).toList = ps.toList ++ [rawInt pos.line, rawInt pos.col, .ref c'] := by simp
    refine h h'.objs.size c' _ ctv _ _ J ⟨ex, fun p hp => ?_, oth, Heap.get?_push_size _ rfl, ?_, away _ big, upd_same⟩
    · have old : ∀ {qs : Array Value} {q : Str}, (∀ pos' cv, codeAmong pos' qs.toList = some cv → ∃ d, cv = .ref d ∧ H d = some (LamX.CodeO d q)) → ∀ pos' cv, codeAmong pos' qs.toList = some cv → ∃ d, cv = .ref d ∧ upd (upd H P (.tbl (ps ++ #[rawInt pos.line, rawInt pos.col, .ref c']))) c' (LamX.CodeO c' (X.env.qual ++ "<lambda>")) d = some (LamX.CodeO d q) := fun k pos' cv hcv => by
        obtain ⟨d, e1, e2⟩ := k pos' cv hcv
        exact ⟨d, e1, ex _ _ e2 LamX.codeO_ne⟩
      by_cases hb : p.1 = P
      · have hq := hu p hp hb
        rw [hq, hb]
        refine ⟨_, by rw [upd_ne (ne_of_none hP nC), upd_same], by rw [tl]; exact PySem.TriplesOk_snoc _ _ _ _ ht, fun pos' cv hcv => ?_⟩
        rw [tl] at hcv
        exact (LamX.among_app _ ht hcv).elim (fun z => old ha pos' cv z) fun z => ⟨c', z, upd_same⟩
      · obtain ⟨qs, a1, a2, a3⟩ := hT p hp
        exact ⟨qs, oth _ _ hb a1, a2, old a3⟩
    · have n2 : h'.objs.size ≠ P := Nat.ne_of_gt (Nat.lt_of_lt_of_le (Heap.lt_size oP) big)
      rw [upd_ne (Nat.ne_of_gt hlt), upd_ne n2]
      exact I.hok.fresh big
end
def tLamO (T : List (Addr × Str)) (P : Addr) (TT : (XK → Hp → VK → Prop) → Hp → VK → Prop) (t : XK → TE) : TE := fun σ H Q => LamX.Tabs T H ∧ ∀ H1, LamX.ExtN H H1 → LamX.Tabs T H1 → OthT P H H1 → TT (fun E H' Q' => t E σ H' Q') H1 Q
theorem pe_lamO {X : Cx} {T : List (Addr × Str)} {TT : (XK → Hp → VK → Prop) → Hp → VK → Prop} {x a : Str} {g c P : Addr} {k : Nat} {pg : Arguments} {bg : List Stmt} {sg : Scope} {dV kV doc pm cdv ct oc : Value} {an od : Option Addr} {osl : Array (Option Value)} {Ng : List Str}
    {params : Arguments} {body : Expr} {scope : Scope} {t : XK → TE} {p lpos pos : Pos} (hg : Gl X x) (hm : X.mg x = some (.ref g)) (hk : PySem.W.keepIn X.K (.ref g) = true) (lk : X.K.lookup g = some ⟨oc, od, .func (PySem.W.fnOf x x pg bg sg dV kV doc pm an cdv ct), osl⟩)
    (hcg : PySem.W.codeIn X.K cdv x = true) (hb : L2.Binds X.K (PySem.W.fnOf x x pg bg sg dV kV doc pm an cdv ct) [a] []) (Sg : FnScope Ng [a] sg) (hNg : Ng[0]? = some a) (hva : Vis sg a) (hG : LamX.GivesTo X Ng x sg g cdv bg a (X.env.qual ++ "<lambda>") TT)
    (B : LamX.TabB X.base X.mg c P) (hcode : X.env.code = .ref c) (hmT : (P, X.env.qual ++ "<lambda>") ∈ T) (hu : ∀ p ∈ T, p.1 = P → p.2 = X.env.qual ++ "<lambda>") (hr : Room (k + 2) X.A) (L : LamX.LamS X.env.scope scope) (hdef : defaultsOf params X.env = ([], []))
    (hbind : ∀ (q : Str) (cl : List (Str × Addr)) (pm cv ctv : Value), bindArgs (PySem.W.kla_fn "<lambda>" q params body scope cl pm cv ctv) ⟨[], []⟩ = pure [])
    (hbody : ∀ (A : Around) (outer : List Env) (s : Shared) (H : Hp) (E : XK) (f c' : Addr), Room k (A.deeper (LamX.lamEnv X scope s.heap.objs.size f c')) → PE (LamX.lamCx X A outer s H E scope f c') body (t E))
    (hdb : (x == ("__debug__" : Str)) = false) (hd : (a == ("__debug__" : Str)) = false) (hcd : (a == ("__classdict__" : Str)) = false) : PE X (.Call (.Name x p) [.Lambda params body scope lpos] [] pos) (tLamO T P TT t) := by
  refine ⟨fun pins s σ H Q I ⟨hT, h⟩ => ?_⟩
  refine wpAny_Call_Name_kw (ld_glob I hg hm (PySem.W.callWith_K (h₀ := X.base) I.ok.mod.kin hk ?_ (by rfl) (by rfl)) hdb)
  show wpAny _ _ (spliced ((false, eval (.Lambda params body scope lpos) X.env) :: backTo pos (starEach [] X.env))) _ _ s
  refine Calls.spliced_cons (lam_laid I B hcode hmT hu hT hdef (L.has I.ok) fun f c' pm' ctv H1 s' J M => Calls.spliced_nil ⟨J.kIn, ?_⟩)
  have run : codeAny (model X.prog X.w) X.A (.call (.ref g) ⟨[.ref f], []⟩) (CR C8.CX0 X.stack X.prog X.w H1 s' Q C8.E0) s' :=
    LamX.run_ofS (N := Ng) (ps := [a]) (us := [.ref f]) (vs := [.ref f]) lk hcg Sg hr J.env0 (hb s' [.ref f] J.kIn rfl) (.cons rfl .nil) rfl fun hr' => by
      obtain ⟨t', h1, h2⟩ := hG f c' s' H1 Q (fun E H' Q' => t E σ H' Q') (fun W pn xe E p1 p2 tk hW => LamX.pe_act (i := 0) J L M.obj M.free M.nofr (hbind _ _ _ _ _) tk hW hr' (fun A outer s H hr2 => hbody A outer s H E f c' hr2) hNg hva hd hcd) M.code (h H1 M.ext M.tabs M.oth)
      exact ⟨t', h1.nox, h2⟩
  refine wpAny_call (codeAny_mono run fun r s2 hq => ?_)
  match r, hq with
  | .ok (.ret u), hq => exact J.after hq
  | .ok .next, hq => exact hq.elim
  | .ok .brk, hq => exact hq.elim
  | .ok .cont, hq => exact hq.elim
  | .error e, hq => exact (show False from hq).elim
structure Told (X : Cx) (x : Str) (l : Cls_) : Prop where
  ex : ∃ (a : Str) (g : Addr) (pg : Arguments) (bg : List Stmt) (sg : Scope) (dV kV doc pm cdv ct oc : Value) (an od : Option Addr) (osl : Array (Option Value)) (Ng : List Str),
    X.mg x = some (.ref g) ∧ PySem.W.keepIn X.K (.ref g) = true ∧ X.K.lookup g = some ⟨oc, od, .func (PySem.W.fnOf x x pg bg sg dV kV doc pm an cdv ct), osl⟩ ∧ PySem.W.codeIn X.K cdv x = true ∧
    L2.Binds X.K (PySem.W.fnOf x x pg bg sg dV kV doc pm an cdv ct) [a] [] ∧ FnScope Ng [a] sg ∧ Ng[0]? = some a ∧ Vis sg a ∧ (a == ("__debug__" : Str)) = false ∧ (a == ("__classdict__" : Str)) = false ∧
    ∀ q, LamX.GivesTo X Ng x sg g cdv bg a q (TTm X.K l)
structure Tbl (X : Cx) (T : Tb) (q : Tk) : Prop where
  ex : ∃ c P, LamX.TabB X.base X.mg c P ∧ X.env.code = .ref c ∧ (P, q) ∈ T ∧ ∀ p ∈ T, p.1 = P → p.2 = q
abbrev lamY (Y : DX) (k : Nat) (A : Around) (outer : List Env) (s1 : Shared) (Hc : Hp) (E : XK) (scope : Scope) (f c' : Addr) (H F : Hp) (gs : Gs) (ex : Exc → DSt → Prop) : DX :=
  ⟨LamX.lamCx Y.X A outer s1 Hc E scope f c', Y.T, k, H, F, ads gs, ex⟩
section
variable {Y : DX} {s : DSt} {e : Expr} {pos p lpos : Pos} {Q : Pv → DSt → Prop}
theorem ev_told {x : Str} {l : Cls_} {params : Arguments} {body : Expr} {scope : Scope} {k : Nat} (G : Told Y.X x l) (tb : Tbl Y.X Y.T (.plain (Y.X.env.qual ++ "<lambda>"))) (ok : YOk Y) (hk : k + 2 ≤ Y.k) (hg : Gl Y.X x) (L : LamX.LamS Y.X.env.scope scope)
    (h : ∀ (A : Around) (outer : List Env) (s1 : Shared) (Hc : Hp) (E : XK) (f c' : Addr) (H F : Hp), let Y' := lamY Y k A outer s1 Hc E scope f c' H F s.gs fun e s' => ∃ t, Tell Y.X.K l e.C t ∧ Q (pu t) ⟨s.ρ, s'.gs⟩
      YOk Y' → Ev Y' s body fun A s' => Q A ⟨s.ρ, s'.gs⟩)
    (hdef : defaultsOf params Y.X.env = ([], []) := by rfl) (hbind : ∀ (q : Str) (cl : List (Str × Addr)) (pm cv ctv : Value), bindArgs (PySem.W.kla_fn "<lambda>" q params body scope cl pm cv ctv) ⟨[], []⟩ = pure [] := by intros; rfl)
    (hdb : (x == ("__debug__" : Str)) = false := by decide) : Ev Y s (.Call (.Name x p) [.Lambda params body scope lpos] [] pos) Q := fun F0 σ H F e0 S => by
  obtain ⟨a, g, pg, bg, sg, dV, kV, doc, pm, cdv, ct, oc, an, od, osl, Ng, g1, g2, g3, g4, g5, g6, g7, g8, g9, g10, g11⟩ := G.ex
  obtain ⟨c, P, b1, b2, b3, b4⟩ := tb.ex
  refine .of (pe_lamO (k := k) (t := fun E σ H1 Q1 => ∀ (A : Around) (outer : List Env) (s1 : Shared) (Hc : Hp) (f c' : Addr), Room k (A.deeper (LamX.lamEnv Y.X scope s1.heap.objs.size f c')) → WE (LamX.lamCx Y.X A outer s1 Hc E scope f c') body σ H1 Q1)
    hg g1 g2 g3 g4 g5 g6 g7 g8 (g11 _) b1 b2 (plainT_mem.mpr b3) (fun p hp e => by have h9 := b4 (p.1, .plain p.2) (plainT_mem.mp hp) e; injection h9) (ok.room.mono hk) L hdef hbind (fun A outer s1 Hc E f c' hr => ⟨fun pins s2 σ2 H2 Q2 I q => (q A outer s1 Hc f c' hr).run pins s2 I⟩) hdb g9 g10) ⟨S.tb.tabs, fun H1 eN t1 ot => ?_⟩
  have S1 := S.extN eN t1 fun b ps hn e => ot b ps (fun z => by rcases hn with ⟨_, hn⟩ | ⟨_, _, hn⟩ <;> (have h9 := b4 _ hn z; cases h9)) e
  show ∀ (A : Around) (outer : List Env) (s1 : Shared) (Hc : Hp) (f c' : Addr), Room k (A.deeper (LamX.lamEnv Y.X scope s1.heap.objs.size f c')) → WE (LamX.lamCx Y.X A outer s1 Hc _ scope f c') body σ H1 _
  intro A outer s1 Hc f c' hr
  have back : ∀ {s' : DSt} {σ' : St} {H' F' : Hp}, Sta (lamY Y k A outer s1 Hc (fun cls _ H' => Chn Y.X.K l cls H' (Po Y σ F0 Q)) scope f c' H1 F s.gs fun e s' => ∃ t, Tell Y.X.K l e.C t ∧ Q (pu t) ⟨s.ρ, s'.gs⟩) s' σ' H' F' → Sta Y ⟨s.ρ, s'.gs⟩ σ H' F' := fun {s' σ' H' F'} S' => by
    have := S1.called (gs1 := s.gs) (gs2 := []) (gs1' := s'.gs) (by rw [List.append_nil]) S'.stg S'.st
    rwa [List.append_nil] at this
  have tk0 : Takes (LamX.lamCx Y.X A outer s1 Hc (fun cls _ H' => Chn Y.X.K l cls H' (Po Y σ F0 Q)) scope f c') (fun cls d _ H' => Chn Y.X.K l cls H' (Po Y σ F0 Q)) := takes_of rfl rfl rfl rfl
  have ok' : YOk (lamY Y k A outer s1 Hc (fun cls _ H' => Chn Y.X.K l cls H' (Po Y σ F0 Q)) scope f c' H1 F s.gs fun e s' => ∃ t, Tell Y.X.K l e.C t ∧ Q (pu t) ⟨s.ρ, s'.gs⟩) :=
    ⟨rfl, ok.nd, hr, passes_of rfl, tk0.imp fun cls d σ' H' ⟨e, s', F', S', er, t, ht, q⟩ => by
      obtain ⟨ec, _⟩ := er
      subst ec
      refine tell_chn ht ⟨pu t, ⟨s.ρ, s'.gs⟩, F', e0.trans S'.st.ff, rfl, back S', q⟩⟩
  refine (h A outer s1 Hc _ f c' H1 F ok' F σ H1 F (.refl _) ⟨S1.ext, S1.ntb, S1.rep, S1.own, S1.nd, S1.tb, Step.refl⟩).mono fun v H' ⟨A', s', F', e1, r, S', q⟩ => ?_
  exact ⟨A', ⟨s.ρ, s'.gs⟩, F', e0.trans e1, r, back S', q⟩
end
end Sp
set_option maxHeartbeats 4000000
namespace Sp
open PySem L2
open PySem.W (Datum DatumOrd SomeDatum)
structure GenOk (N : List Str) (sc scope : Scope) (vs : List Nat) : Prop where
  kind : scope.kind = .function
  co : scope.isCoroutine = false
  nd : (scope.names.map (·.1)).Nodup
  dot : scope.names.lookup (".0" : Str) = some NameKind.local
  free : ∀ y ∈ scope.names, y.2 = .free → sc.names.lookup y.1 = some .cell ∨ sc.names.lookup y.1 = some .free
  own : ∀ (i : Nat) (y : Str), N[i]? = some y → scope.names.lookup y = some NameKind.local ∨ scope.names.lookup y = some NameKind.cell → i ∈ vs
def genOkB (N : List Str) (sc scope : Scope) (vs : List Nat) : Bool :=
  decide (scope.kind = .function) && !scope.isCoroutine && (scope.names.all fun y => !decide (y.2 = .free) || decide (sc.names.lookup y.1 = some .cell) || decide (sc.names.lookup y.1 = some .free)) &&
    decide (scope.names.lookup (".0" : Str) = some NameKind.local) && ((List.range N.length).all fun i => decide (i ∈ vs) || (!decide (scope.names.lookup (N.getD i "") = some NameKind.local) && !decide (scope.names.lookup (N.getD i "") = some NameKind.cell))) && decide (scope.names.map (·.1)).Nodup
theorem genOk_by {N : List Str} {sc scope : Scope} {vs : List Nat} (h : genOkB N sc scope vs = true) : GenOk N sc scope vs := by
  unfold genOkB at h
  simp only [Bool.and_eq_true, Bool.or_eq_true, Bool.not_eq_true', decide_eq_true_eq, decide_eq_false_iff_not, List.all_eq_true] at h
  obtain ⟨⟨⟨⟨⟨h1, h2⟩, h3⟩, h4⟩, h5⟩, h6⟩ := h
  refine ⟨h1, h2, h6, h4, fun y hy e => ?_, fun i y hi hl => ?_⟩
  · rcases h3 y hy with (z | z) | z
    · exact absurd e z
    · exact .inl z
    · exact .inr z
  · obtain ⟨hl', e⟩ := List.getElem?_eq_some_iff.mp hi
    rcases h5 i (List.mem_range.mpr hl') with z | z
    · exact z
    · rw [List.getD_eq_getElem?_getD, hi] at z
      rcases hl with hl | hl
      · exact absurd hl z.1
      · exact absurd hl z.2
theorem cellsFrom_app : ∀ (l : List (Str × NameKind)) (n : Nat) (acc : List (Str × Addr)), cellsFrom n l acc = cellsFrom n l [] ++ acc
  | [], _, _ => rfl
  | (x, k) :: r, n, acc => by
    unfold cellsFrom
    by_cases h : (k == NameKind.cell) = true
    · rw [if_pos h, if_pos h, cellsFrom_app r (n + 1) ((x, n) :: acc), cellsFrom_app r (n + 1) [(x, n)], List.append_assoc]
      rfl
    · rw [if_neg h, if_neg h]
      exact cellsFrom_app r n acc
theorem cellsFrom_mem : ∀ (l : List (Str × NameKind)) (n : Nat) {y : Str} {c : Addr}, (y, c) ∈ cellsFrom n l [] → (y, NameKind.cell) ∈ l
  | [], _, _, _, h => by cases h
  | (x, k) :: r, n, y, c, h => by
    unfold cellsFrom at h
    by_cases e : (k == NameKind.cell) = true
    · rw [if_pos e, cellsFrom_app, List.mem_append] at h
      rcases h with h | h
      · exact List.mem_cons_of_mem _ (cellsFrom_mem r (n + 1) h)
      · cases List.mem_singleton.mp h
        rw [show k = NameKind.cell from eq_of_beq e]
        exact List.mem_cons_self
    · rw [if_neg e] at h
      exact List.mem_cons_of_mem _ (cellsFrom_mem r n h)
theorem cellsFrom_has : ∀ (l : List (Str × NameKind)) (n : Nat) {y : Str}, (y, NameKind.cell) ∈ l → ∃ c, (y, c) ∈ cellsFrom n l []
  | (x, k) :: r, n, y, h => by
    unfold cellsFrom
    by_cases e : (k == NameKind.cell) = true
    · rw [if_pos e, cellsFrom_app]
      rcases List.mem_cons.mp h with h | h
      · cases h
        exact ⟨n, List.mem_append_right _ (List.mem_singleton.mpr rfl)⟩
      · obtain ⟨c, hc⟩ := cellsFrom_has r (n + 1) h
        exact ⟨c, List.mem_append_left _ hc⟩
    · rw [if_neg e]
      rcases List.mem_cons.mp h with h | h
      · cases h
        exact absurd rfl e
      · exact cellsFrom_has r n h
theorem lookup_app {α : Type} (y : Str) : ∀ (l m : List (Str × α)), (l ++ m).lookup y = (l.lookup y).or (m.lookup y)
  | [], m => by simp
  | (x, a) :: l, m => by
    rw [List.cons_append, List.lookup_cons, List.lookup_cons]
    cases y == x with
    | true => rfl
    | false => exact lookup_app y l m
theorem nd_kind : ∀ {l : List (Str × NameKind)}, (l.map (·.1)).Nodup → ∀ {y : Str} {k k' : NameKind}, (y, k) ∈ l → (y, k') ∈ l → k = k'
  | p :: l, n, y, k, k', h, h' => by
    rw [List.map_cons, List.nodup_cons] at n
    rcases List.mem_cons.mp h with h1 | h1
    · rcases List.mem_cons.mp h' with h2 | h2
      · rw [← h1] at h2; injection h2 with _ e; exact e.symm
      · exact absurd (show p.1 ∈ l.map (·.1) by rw [← h1]; exact List.mem_map.mpr ⟨(y, k'), h2, rfl⟩) n.1
    · rcases List.mem_cons.mp h' with h2 | h2
      · exact absurd (show p.1 ∈ l.map (·.1) by rw [← h2]; exact List.mem_map.mpr ⟨(y, k), h1, rfl⟩) n.1
      · exact nd_kind n.2 h1 h2
def genCx (X : Cx) (A : Around) (env : Env) (s : Shared) (H : Hp) (fp : List Addr) : Cx where
  prog := X.prog
  w := X.w
  K := X.K
  mg := X.mg
  base := X.base
  A := A
  N := X.N
  s_0 := s
  H_0 := H
  env := env
  outer := X.stack
  stack := env :: X.stack
  ex := fp
  fn := fun y => decide (env.scope.names.lookup y = some NameKind.cell)
  calm := true
  pn := []
  xe := fun _ _ => False
abbrev genCl (cells : List (Str × Addr)) (scope : Scope) (C : Addr) : List (Str × Addr) := cellsFrom (C + 1) scope.names (cloFrom cells scope.names [])
section
variable {X : Cx} {pins : List (Addr × Obj)} {σ : St} {H : Hp} {s : Shared}
theorem genCl_cases {scope : Scope} {vs : List Nat} {C : Addr} (ok : X.Ok) (G : GenOk X.N X.env.scope scope vs) {y : Str} {c : Addr} (e : (genCl X.env.cells scope C).lookup y = some c) :
    ((y, c) ∈ cellsFrom (C + 1) scope.names [] ∧ (y, NameKind.cell) ∈ scope.names) ∨ (X.env.cells.lookup y = some c ∧ (y, NameKind.free) ∈ scope.names) := by
  unfold genCl at e
  rw [cellsFrom_app, lookup_app] at e
  cases h : (cellsFrom (C + 1) scope.names []).lookup y with
  | some d =>
    rw [h] at e
    have e' : d = c := Option.some.inj e
    subst e'
    have hm := PySem.mem_of_lookup h
    exact .inl ⟨hm, cellsFrom_mem _ _ hm⟩
  | none =>
    rw [h] at e
    have e' : (cloFrom X.env.cells scope.names []).lookup y = some c := e
    rcases cloFrom_mem (PySem.mem_of_lookup e') with hm | ⟨h1, h2⟩
    · cases hm
    · have hf : ∃ c, X.env.cells.lookup y = some c := by
        rcases G.free _ h1 rfl with k | k
        · exact ok.has _ (.inl k)
        · exact ok.has _ (.inr k)
      obtain ⟨c1, hc⟩ := hf
      exact .inr ⟨by rw [hc, show c = c1 by rw [h2, hc] <;> rfl], h1⟩
theorem genCl_free {scope : Scope} {vs : List Nat} {C : Addr} (G : GenOk X.N X.env.scope scope vs) {y : Str} (hy : (y, NameKind.free) ∈ scope.names) : (genCl X.env.cells scope C).lookup y = (cloFrom X.env.cells scope.names []).lookup y := by
  unfold genCl
  rw [cellsFrom_app, lookup_app]
  cases h : (cellsFrom (C + 1) scope.names []).lookup y with
  | some d => cases nd_kind G.nd hy (cellsFrom_mem _ _ (PySem.mem_of_lookup h))
  | none => rfl
theorem gen_start {A : Around} {scope : Scope} {vs : List Nat} {code : Value} {fp : List Addr} {h' : Heap} {g' : Array GenState} {tk : Nat} {m0 : Str → Option Value} (I : Inv X pins σ H s) (G : GenOk X.N X.env.scope scope vs) (hA : A.frames = some (genEnv scope (genCl X.env.cells scope s.heap.objs.size) s.heap.objs.size code builtinsNs X.env :: X.stack)) (hd : A.handled = none)
    (hfp : ∀ b ∈ fp, FpOk X pins H b ∧ b < s.heap.objs.size) (hn : h'.Ns s.heap.objs.size m0) (ce : CellsOk h' (s.heap.objs.size + 1) (cellsFrom (s.heap.objs.size + 1) scope.names [])) (kp : ∀ b o, s.heap.get? b = some o → h'.get? b = some o) (hg : PyProof.Rows.AllBare g') :
    Inv (genCx X A (genEnv scope (genCl X.env.cells scope s.heap.objs.size) s.heap.objs.size code builtinsNs X.env) s H fp) [] (L2.wipe σ vs) H { s with heap := h', gens := g', toks := tk } := by
  have cm : ∀ {y c}, (genCl X.env.cells scope s.heap.objs.size).lookup y = some c → ((y, c) ∈ cellsFrom (s.heap.objs.size + 1) scope.names [] ∧ (y, NameKind.cell) ∈ scope.names) ∨ (X.env.cells.lookup y = some c ∧ (y, NameKind.free) ∈ scope.names) := fun {y c} e => genCl_cases I.ok G e
  have newc : ∀ {y c}, (y, c) ∈ cellsFrom (s.heap.objs.size + 1) scope.names [] → s.heap.objs.size < c := fun {y c} h => (ce.empty y c h).2
  have oldc : ∀ {y c}, X.env.cells.lookup y = some c → c < s.heap.objs.size := fun {y c} h => by
    obtain ⟨v, hv⟩ := I.cell y c h
    exact hv.lt
  have look : ∀ {y}, scope.names.lookup y = some .free → ∃ c, (genCl X.env.cells scope s.heap.objs.size).lookup y = some c := fun {y} hl => by
    have hm := PySem.mem_of_lookup hl
    rw [genCl_free G hm]
    exact mem_lookup (cloFrom_has (cells := X.env.cells) (acc := []) hm)
  have isc : ∀ {c : Addr} {v : Option Value}, s.heap.IsCell c v → h'.IsCell c v := fun {c v} ⟨o, ho, hd⟩ => ⟨o, kp _ _ ho, hd⟩
  refine ⟨⟨I.ok.mod, G.kind, I.ok.glob, rfl, Nat.le_refl _, fun y z c e1 e2 => ?_, fun y hy => ?_, fun y c z e => ?_, fun _ => hd, hA, .inr ⟨rfl, rfl⟩, fun b hb => ⟨?_, fun y c e z => ?_⟩, I.bs, Nat.le_trans I.ok.bsz I.sz, fun b o e hb => ?_, fun b hb z => ?_, I.stack, I.stkFree⟩,
    rfl, hg, Un.kept kp, ⟨m0, hn, fun i y v e1 e2 e3 => ?_⟩, fun y c e => ?_, I.hok.fresh (Nat.le_refl _), fun y c e => ?_, fun q hq => absurd (show q ∈ ([] : List (Addr × Obj)) ++ [] from hq) (by simp), I.hok.kept kp, by rw [wipe_length]; exact I.len⟩
  · rcases cm e1 with ⟨a1, _⟩ | ⟨a1, _⟩
    · rcases cm e2 with ⟨a2, _⟩ | ⟨a2, _⟩
      · exact PySem.name_of_addr ce.apart a1 a2
      · exact absurd (Nat.lt_trans (newc a1) (oldc a2)) (Nat.lt_irrefl _)
    · rcases cm e2 with ⟨a2, _⟩ | ⟨a2, _⟩
      · exact absurd (Nat.lt_trans (newc a2) (oldc a1)) (Nat.lt_irrefl _)
      · exact I.ok.inj y z c a1 a2
  · have hy : scope.names.lookup y = some .cell ∨ scope.names.lookup y = some .free := hy
    rcases hy with hy | hy
    · obtain ⟨c, hc⟩ := cellsFrom_has scope.names (s.heap.objs.size + 1) (PySem.mem_of_lookup hy)
      have hm : (y, c) ∈ genCl X.env.cells scope s.heap.objs.size := by
        unfold genCl
        rw [cellsFrom_app]
        exact List.mem_append_left _ hc
      exact mem_lookup hm
    · exact look hy
  · have z : scope.names.lookup y = some NameKind.cell := of_decide_eq_true z
    rcases cm e with ⟨a1, _⟩ | ⟨_, a2⟩
    · exact Nat.le_of_lt (newc a1)
    · cases nd_kind G.nd (PySem.mem_of_lookup z) a2
  · exact Nat.ne_of_lt (hfp b hb).2
  · rcases cm e with ⟨a1, _⟩ | ⟨a1, _⟩
    · rw [z] at a1
      exact absurd (Nat.lt_trans (newc a1) (hfp b hb).2) (Nat.lt_irrefl _)
    · exact (hfp b hb).1.2.2.2.2.1 y c a1 z
  · obtain ⟨_, _, _, q, _⟩ := (hfp b hb).1
    rcases q with q | q
    · exact I.ok.noex b o e q
    · exact absurd (Nat.lt_of_lt_of_le (Heap.lt_size e) (Nat.le_trans I.ok.bsz q)) (Nat.lt_irrefl _)
  · rcases List.mem_cons.mp (I.stkSub b z) with q | q
    · exact (hfp b hb).1.2.1 q
    · exact (hfp b hb).1.2.2.1 q
  · have e3 : Vis scope y := e3
    obtain ⟨w1, w2⟩ := wipe_some e2
    rcases e3 with k | k | k
    · exact absurd (G.own i y e1 (.inl k)) w2
    · exact absurd (G.own i y e1 (.inr k)) w2
    · obtain ⟨m, hn', hl⟩ := I.loc
      have hvis : Vis X.env.scope y := (G.free _ (PySem.mem_of_lookup k) rfl).elim (fun k => .inr (.inl k)) (fun k => .inr (.inr k))
      obtain ⟨w', r, q⟩ := hl i y v e1 w1 hvis
      obtain ⟨c2, h2⟩ := look k
      refine ⟨w', r, .inr ⟨.inr k, c2, h2, ?_⟩⟩
      rcases q with ⟨k', _⟩ | ⟨_, c3, e', z⟩
      · have k' : X.env.scope.names.lookup y = some .local := k'
        rcases G.free _ (PySem.mem_of_lookup k) rfl with k2 | k2 <;> rw [show X.env.scope.names.lookup y = _ from k2] at k' <;> cases k'
      · rcases cm h2 with ⟨_, a2⟩ | ⟨a1, _⟩
        · cases nd_kind G.nd (PySem.mem_of_lookup k) a2
        · rw [a1] at e'
          cases e'
          exact isc z
  · rcases cm e with ⟨a1, _⟩ | ⟨a1, _⟩
    · exact ⟨none, (ce.empty y c a1).1⟩
    · obtain ⟨w', z⟩ := I.cell y c a1
      exact ⟨w', isc z⟩
  · rcases cm e with ⟨a1, _⟩ | ⟨a1, _⟩
    · exact I.hok.fresh (Nat.le_of_lt (newc a1))
    · exact I.freeC y c a1
end
structure GCx where
  A : Around
  C : Addr
  code : Addr
  s : Shared
  H : Hp
  fp : List Addr
abbrev genE (Y : DX) (scope : Scope) (z : GCx) : Env := genEnv scope (genCl Y.X.env.cells scope z.C) z.C (.ref z.code) builtinsNs Y.X.env
abbrev genX (Y : DX) (scope : Scope) (z : GCx) : Cx := genCx Y.X z.A (genE Y scope z) z.s z.H z.fp
abbrev Ow := GCx → Tb
abbrev noOw : Ow := fun _ => []
abbrev ownOw : Ow := fun z => [(z.code, .own)]
abbrev genYO (Y : DX) (k : Nat) (scope : Scope) (ow : Ow) (z : GCx) : DX := ⟨genX Y scope z, ow z ++ Y.T, k, Y.H0, Y.F0, Y.S0, fun _ _ => False⟩
abbrev genY (Y : DX) (k : Nat) (scope : Scope) (z : GCx) : DX := genYO Y k scope noOw z
structure StaO (Y : DX) (ow : Ow) (z : GCx) (s : DSt) (σ : St) (H F : Hp) : Prop where
  s : Sta Y s σ H F
  o : TbOk (ow z) H
section
variable {Y : DX} {k : Nat} {scope : Scope} {ow : Ow} {z : GCx} {s : DSt} {σ : St} {H F : Hp}
theorem TbOk.app {T T' : Tb} {H : Hp} : TbOk (T ++ T') H ↔ TbOk T H ∧ TbOk T' H := by
  unfold TbOk
  exact List.forall_mem_append
theorem StaO.gen (S : StaO Y ow z s σ H F) : Sta (genYO Y k scope ow z) s σ H F := ⟨S.s.ext, S.s.ntb, S.s.rep, S.s.own, S.s.nd, TbOk.app.mpr ⟨S.o, S.s.tb⟩, S.s.st⟩
theorem Sta.ungen (S : Sta (genYO Y k scope ow z) s σ H F) : StaO Y ow z s σ H F := ⟨⟨S.ext, S.ntb, S.rep, S.own, S.nd, (TbOk.app.mp S.tb).2, S.st⟩, (TbOk.app.mp S.tb).1⟩
theorem YOk.gen (ok : YOk Y) (hr : Room k z.A) : YOk (genYO Y k scope ow z) :=
  ⟨rfl, ok.nd, hr, PassesOwn.never, fun _ _ ⟨_, _, _, _, _, _, _, _, _, _, _, _, _, _, _, _, _, _, _, _, _, q⟩ => q.elim⟩
class FlatE (α : Type) [Enc α] [FlatV α] : Prop where
  of : ∀ {K : Frag} {F : Hp} {v : V} {a : α}, Enc.rep K F v a → v = FlatV.z a
instance : FlatE Int := ⟨fun h => h⟩
instance : FlatE Bool := ⟨fun h => h⟩
structure GTurns {β γ : Type} [Enc β] [Enc γ] (Y : DX) (k : Nat) (s : DSt) (scope : Scope) (ow : Ow) (vs : List Nat) (tg elt : Expr) (ifs : List Expr) (g : TG) (ws : List Nat) (f : β → Rho → Rho) (items : List β) (c : β → Bool) (h : β → γ) : Prop where
  tg : ∀ z, TgOk (genYO Y k scope ow z) tg g ws f
  sub : ∀ j ∈ ws, j ∈ vs
  test : ∀ z, YOk (genYO Y k scope ow z) → ∀ x ∈ items, Ets (genYO Y k scope ow z) ⟨f x (wipeR s.ρ vs), s.gs⟩ ifs fun b s2 => b = c x ∧ s2 = ⟨f x (wipeR s.ρ vs), s.gs⟩
  elt : ∀ z, YOk (genYO Y k scope ow z) → ∀ x ∈ items, c x = true → EvP (genYO Y k scope ow z) ⟨f x (wipeR s.ρ vs), s.gs⟩ elt (pu (h x))
def GE (Y : DX) (scope : Scope) (ow : Ow) (z : GCx) (vs : List Nat) (s : DSt) (σ : St) (F : Hp) (S : List Addr) (s1 : Shared) : Prop :=
  ∃ H' F', Inv (genX Y scope z) [] (L2.wipe σ vs) H' s1 ∧ (∀ b ∈ S, H' b = none) ∧ Ext F F' ∧ StaO Y ow z s σ H' F'
def GT (Y : DX) (scope : Scope) (ow : Ow) (z : GCx) (vs : List Nat) (s : DSt) (σ : St) (F : Hp) (tn : Nat → Heap → Prop) (S : List Addr) (i : Nat) (s1 : Shared) : Prop :=
  ∃ H' F', Inv (genX Y scope z) [] (L2.wipe σ vs) H' s1 ∧ tn i s1.heap ∧ (∀ b ∈ z.fp, H' b = none) ∧ (∀ b ∈ S, H' b = none) ∧ (∀ b ∈ S, ∃ o, s1.heap.get? b = some o ∧ ∀ v, o.data ≠ .cell v) ∧ Ext F F' ∧ StaO Y ow z s σ H' F'
def Aw (S : List Addr) (s s' : Shared) : Prop :=
  s'.os = s.os ∧ PyProof.Rows.AllBare s'.gens ∧ (∀ b o, b ∉ S → s.heap.get? b = some o → s'.heap.get? b = some o) ∧ ∀ b ∈ S, ∃ o, s'.heap.get? b = some o ∧ ∀ v, o.data ≠ .cell v
structure Ap (Y : DX) (scope : Scope) (z : GCx) (S : Addr) : Prop where
  big : z.s.heap.objs.size ≤ S
  loc : S ≠ z.C
  cell : ∀ x c, (genCl Y.X.env.cells scope z.C).lookup x = some c → c ≠ S
  fp : S ∉ z.fp
  fs : S ∉ frs Y.X.stack
theorem Ap.fpOk {S : Addr} {H' : Hp} (a : Ap Y scope z S) (h : H' S = none) : FpOk (genX Y scope z) [] H' S :=
  ⟨h, a.loc, a.fs, .inr a.big, a.cell, fun p hp => absurd (show p ∈ ([] : List (Addr × Obj)) ++ [] from hp) (by simp)⟩
theorem GE.aw {vs : List Nat} {S : List Addr} {s1 s2 : Shared} {H' : Hp} (a : ∀ b ∈ S, Ap Y scope z b) (hS : ∀ b ∈ S, H' b = none) (I : Inv (genX Y scope z) [] (L2.wipe σ vs) H' s1) (w : Aw S s1 s2) : Inv (genX Y scope z) [] (L2.wipe σ vs) H' s2 := by
  obtain ⟨w1, w2, w3, w4⟩ := w
  obtain ⟨hh, g, d, t, o⟩ := s2
  have ho : o = s1.os := w1
  subst ho
  have nS : ∀ b u, H' b = some u → b ∉ S := fun b u e q => by rw [hS b q] at e; cases e
  refine I.step (g' := g) (t' := t) (d' := d) (ch := S) (fun b hb => ?_) (fun b ob _ _ hc q _ => w3 b ob hc q) (fun b ob _ _ hc q _ => ⟨ob.slots, w3 b ob hc q⟩) (fun _ _ _ _ n => n) (fun b ob hc q => ⟨ob, w3 b ob hc q⟩)
    (fun _ _ q => q) (fun _ _ _ q => q) (fun b ps q => ⟨#[], by rw [q]; simp⟩) (fun m hm => ?_) (fun b u q => ?_) w2
  · have ab := a b hb
    exact ⟨.inr ab.big, ab.loc, ab.cell, fun p hp => absurd (show p ∈ ([] : List (Addr × Obj)) ++ [] from hp) (by simp)⟩
  · obtain ⟨ob, es, ep, hob, r⟩ := hm
    exact ⟨ob, es, ep, w3 _ ob (fun q => (a _ q).loc rfl) hob, r⟩
  · refine (I.hok b u q).stay (fun c v hc y => w3 c v ?_ y) (fun _ y => y) fun _ _ y => y
    rcases hc with y | y
    · rw [y]; exact nS b u q
    · exact nS c _ y
theorem GT.aw {vs : List Nat} {tn : Nat → Heap → Prop} {S : List Addr} {i : Nat} {s1 s2 : Shared} {tg : Expr} {J : It} {it : Addr} (T : Turn Y.X.prog Y.X.w Y.X.K tg J z.fp it tn) (a : ∀ b ∈ S, Ap Y scope z b) (h : GT Y scope ow z vs s σ F tn S i s1) (w : Aw S s1 s2) : GT Y scope ow z vs s σ F tn S i s2 := by
  obtain ⟨H', F', I, t1, n1, hS, _, e1, S1⟩ := h
  exact ⟨H', F', GE.aw a hS I w, T.keep i _ _ t1 fun b hb o e => w.2.2.1 b o (fun q => (a b q).fp hb) e, n1, hS, w.2.2.2, e1, S1⟩
theorem GT.ge {vs : List Nat} {tn : Nat → Heap → Prop} {S : List Addr} {i : Nat} {s1 : Shared} (h : GT Y scope ow z vs s σ F tn S i s1) : GE Y scope ow z vs s σ F S s1 := by
  obtain ⟨H', F', I, _, _, hS, _, e1, S1⟩ := h
  exact ⟨H', F', I, hS, e1, S1⟩
end
def GP {γ : Type} [Enc γ] [FlatV γ] (Y : DX) (scope : Scope) (ow : Ow) (z : GCx) (vs : List Nat) (s : DSt) (σ : St) (F : Hp) (S : List Addr) (ys : List γ) : Protocol := fun n s0 v s1 kap =>
  ∃ y, ys[ys.length - 1 - n]? = some y ∧ RelV (FlatV.z y) v ∧ GE Y scope ow z vs s σ F S s1 ∧ (∀ b ∈ S, ∀ o, s0.heap.get? b = some o → s1.heap.get? b = some o) ∧ ∀ s2, Aw S s1 s2 → kap (.send .none) s2
section
variable {Y : DX} {k : Nat} {scope : Scope} {ow : Ow} {z : GCx} {s : DSt} {σ : St} {H F : Hp} {β γ : Type} [Enc β] [Enc γ] [FlatV γ] [FlatE γ]
theorem drop_at {α : Type} {l : List α} {i : Nat} {x : α} (h : l[i]? = some x) : l.drop i = x :: l.drop (i + 1) := by
  obtain ⟨hl, e⟩ := List.getElem?_eq_some_iff.mp h
  rw [List.drop_eq_getElem_cons hl, e]
theorem rest_at {items : List β} {c : β → Bool} {h : β → γ} {i : Nat} {x : β} (hx : items[i]? = some x) (hc : c x = true) :
    ((items.filter c).map h)[((items.filter c).map h).length - 1 - ((items.drop (i + 1)).filter c).length]? = some (h x) := by
  have e : items.filter c = (items.take i).filter c ++ x :: (items.drop (i + 1)).filter c := by
    rw [← List.filter_cons_of_pos hc, ← drop_at hx, ← List.filter_append, List.take_append_drop]
  rw [e, List.map_append, List.length_append, List.map_cons, List.length_cons, List.length_map, List.length_map]
  have : ((items.take i).filter c).length + (((items.drop (i + 1)).filter c).length + 1) - 1 - ((items.drop (i + 1)).filter c).length = ((items.take i).filter c).length := by omega
  rw [this, List.getElem?_append_right (by rw [List.length_map]; exact Nat.le_refl _), List.length_map, Nat.sub_self]
  rfl
theorem seg_gen {A : Around} {vs ws : List Nat} {tg elt iter : Expr} {ifs : List Expr} {g : TG} {f : β → Rho → Rho} {items : List β} {c : β → Bool} {h : β → γ} {tn : Nat → Heap → Prop} {S : List Addr} {it : Addr} {J : It} {gpos : Pos} {F0 : Hp} (L : GTurns Y k s scope ow vs tg elt ifs g ws f items c h) (ok : YOk (genYO Y k scope ow z)) (hco : scope.isCoroutine = false)
    (T : Turn Y.X.prog Y.X.w Y.X.K tg J z.fp it tn) (a : ∀ b ∈ S, Ap Y scope z b) (K1 : ItOk Y.X.K J F items) (hA : A.over (.compLoop (.GeneratorExp elt [⟨tg, iter, ifs, 0⟩] scope gpos) 0 (.ref it) .none (genE Y scope z)) [] = z.A) :
    ∀ (m i : Nat) (s₀ s1 : Shared), items.length - i = m → i ≤ items.length → GT Y scope ow z vs s σ F tn S i s1 → (∀ b ∈ S, ∀ o, s₀.heap.get? b = some o → s1.heap.get? b = some o) →
      Seg (model Y.X.prog Y.X.w) A (fun n s0 r s2 => r = .ok .next ∧ (n = 0 ∧ GE Y scope ow z vs s σ F S s2 ∧ ∀ b ∈ S, ∀ o, s0.heap.get? b = some o → s2.heap.get? b = some o)) (GP Y scope ow z vs s σ F S ((items.filter c).map h)) (((items.drop i).filter c).length) s₀
        (.compLoop (.GeneratorExp elt [⟨tg, iter, ifs, 0⟩] scope gpos) 0 (.ref it) .none (genE Y scope z))
        ((model Y.X.prog Y.X.w).den (.compLoop (.GeneratorExp elt [⟨tg, iter, ifs, 0⟩] scope gpos) 0 (.ref it) .none (genE Y scope z))) [] s1 := by
  intro m
  induction m with
  | zero =>
    intro i s₀ s1 hk hi gt hsk
    have hin : i = items.length := by omega
    subst hin
    obtain ⟨H', F', I, t1, n1, hS, oS, e1, S1⟩ := gt
    show Seg _ A _ _ _ s₀ _ ((compTurn (.GeneratorExp elt [⟨tg, iter, ifs, 0⟩] scope gpos) 0 (.ref it) .none (genE Y scope z)).onRaise (leaving (genE Y scope z))) [] s1
    rw [compTurn_gen, Sem.onRaise_eq_wrap]
    refine seg_bind_wrap (wpAny_standAt ?_)
    refine seg_bind_wrap ?_
    rw [hA]
    have fk : ∀ b ∈ z.fp, FpOk (genX Y scope z) [] H' b := fun b hb => ⟨n1 b hb, (I.ok.exf b hb).1, I.ok.exfs b hb, .inl hb, fun x c e => (I.ok.exf b hb).2 x c e, fun p hp => absurd (show p ∈ ([] : List (Addr × Obj)) ++ [] from hp) (by simp)⟩
    have I0 := I.pinned (fp := S) (fun b hb => (a b hb).fpOk (hS b hb)) oS
    have fk0 : ∀ b ∈ z.fp, FpOk (genX Y scope z) ([] ++ pinsAt S s1.heap) H' b := fun b hb => ⟨n1 b hb, (fk b hb).2.1, (fk b hb).2.2.1, (fk b hb).2.2.2.1, (fk b hb).2.2.2.2.1, fun p hp e => (a b (e ▸ (of_pinsAt (fp := S) (h := s1.heap) (p := p) (by simpa using (show p ∈ ([] : List (Addr × Obj)) ++ ([] ++ pinsAt S s1.heap) from hp))).1)).fp hb⟩
    refine wpAny_mono (T.done (genX Y scope z) rfl rfl rfl rfl _ _ s1 _ H' (fun _ _ => False) I0 fk0 t1 ((K1 _ H' F' e1 S1.s.ext).2 (Nat.le_refl _))) (fun r s2 ⟨hr, I2⟩ => ?_) fun _ _ e => e.elim
    subst hr
    rw [List.drop_length]
    exact seg_end (.ok .next) ⟨rfl, rfl, ⟨H', F', I2.unpinned (pins := []), hS, e1, S1⟩, fun b hb o e => (I2.pin (b, o) (List.mem_append_right _ (List.mem_append_right _ (mem_pinsAt hb (hsk b hb o e))))).1⟩
  | succ m ih =>
    intro i s₀ s1 hk hi gt hsk
    have hlt : i < items.length := by omega
    obtain ⟨x, hx⟩ : ∃ x, items[i]? = some x := ⟨_, List.getElem?_eq_getElem hlt⟩
    have hmem := List.mem_of_getElem? hx
    obtain ⟨H', F', I, t1, n1, hS, oS, e1, S1⟩ := gt
    show Seg _ A _ _ _ s₀ _ ((compTurn (.GeneratorExp elt [⟨tg, iter, ifs, 0⟩] scope gpos) 0 (.ref it) .none (genE Y scope z)).onRaise (leaving (genE Y scope z))) [] s1
    rw [compTurn_gen, Sem.onRaise_eq_wrap]
    refine seg_bind_wrap (wpAny_standAt ?_)
    refine seg_bind_wrap ?_
    rw [hA]
    have I0 := I.pinned (fp := S) (fun b hb => (a b hb).fpOk (hS b hb)) oS
    have stat : ∀ {pn : List (Addr × Obj)} {σ' : St} {H2 : Hp} {s2 : Shared}, Inv (genX Y scope z) pn σ' H2 s2 → (∀ q ∈ pn, q.1 ∈ S) → (∀ b ∈ z.fp, H2 b = none) → ∀ b ∈ z.fp, FpOk (genX Y scope z) pn H2 b := fun {pn σ' H2 s2} I' hp hn b hb =>
      ⟨hn b hb, (I'.ok.exf b hb).1, I'.ok.exfs b hb, .inl hb, fun x c e => (I'.ok.exf b hb).2 x c e, fun q hq e => (a b (e ▸ hp q hq)).fp hb⟩
    have pS : ∀ q ∈ ([] : List (Addr × Obj)) ++ pinsAt S s1.heap, q.1 ∈ S := fun q hq => (of_pinsAt (by simpa using hq)).1
    refine wpAny_mono (T.item (genX Y scope z) rfl rfl rfl rfl i _ s1 _ H' (fun _ _ => False) I0 (stat I0 pS n1) t1 ((K1 i H' F' e1 S1.s.ext).1 x hx).1) (fun r s2 ⟨u, hr, h2⟩ => ?_) fun _ _ e => e.elim
    subst hr
    refine seg_bind_wrap ?_
    rw [hA]
    refine wpAny_mono h2 (fun _ s3 ⟨v, H3, I3, r3, y3, t3, n3⟩ => ?_) fun _ _ e => e.elim
    obtain ⟨F3, e3, S3', rx⟩ := ItOk.yld (Y := genYO Y k scope ow z) K1 e1 S1.gen hx y3
    have S3 := S3'.ungen
    have I3' := I3.pinned (stat I3 pS n3) (T.obj _ _ t3)
    refine seg_bind_wrap ?_
    rw [hA]
    refine wpAny_mono ((L.tg z).1.run _ s3 _ H3 v u _ I3' r3 ((L.tg z).2 (L2.wipe σ vs) H3 F3 v x ⟨wipeR s.ρ vs, s.gs⟩ (fun σ4 H4 => Sta (genYO Y k scope ow z) ⟨f x (wipeR s.ρ vs), s.gs⟩ σ4 H4 F3 ∧ Only ws (L2.wipe σ vs) σ4) ((StaO.mk (S3.s.wipe vs) S3.o).gen) rx fun σ4 S4 o4 => ⟨S4, o4⟩)) (fun _ s4 ⟨σ4, H4, I4, S4, o4⟩ => ?_) fun _ _ e => e.elim
    have hl4 : (L2.wipe σ vs).length = σ4.length := o4.1.symm
    have wk : ∀ (j : Nat) (w : V), (L2.wipe σ vs)[j]? = some (some w) → σ4[j]? = some (some w) := fun j w e => by
      rw [o4.2 j fun hj => (wipe_some e).2 (L.sub j hj)]
      exact e
    have fin : ∀ {s5 : Shared} {H5 F5 : Hp}, Inv (genX Y scope z) (([] ++ pinsAt S s1.heap) ++ pinsAt z.fp s3.heap) σ4 H5 s5 → Ext F3 F5 → Sta (genYO Y k scope ow z) ⟨f x (wipeR s.ρ vs), s.gs⟩ σ4 H5 F5 → GT Y scope ow z vs s σ F tn S (i + 1) s5 ∧ ∀ b ∈ S, ∀ o, s1.heap.get? b = some o → s5.heap.get? b = some o := fun {s5 H5 F5} I5 e5 S5 => by
      have pf : ∀ b ∈ z.fp, ∀ o, s3.heap.get? b = some o → s5.heap.get? b = some o ∧ H5 b = none := fun b hb o e =>
        let q := I5.pin (b, o) (List.mem_append_right _ (List.mem_append_right _ (mem_pinsAt hb e)))
        ⟨q.1, q.2.1⟩
      have qS : ∀ b ∈ S, ∀ o, s1.heap.get? b = some o → s5.heap.get? b = some o ∧ H5 b = none := fun b hb o e =>
        let q := I5.pin (b, o) (List.mem_append_right _ (List.mem_append_left _ (List.mem_append_right _ (mem_pinsAt hb e))))
        ⟨q.1, q.2.1⟩
      refine ⟨⟨H5, F5, ((I5.unpinned (pins := [] ++ pinsAt S s1.heap)).unpinned (pins := [])).weak hl4 wk, T.keep _ _ _ t3 fun b hb o e => (pf b hb o e).1, fun b hb => ?_, fun b hb => let ⟨o, e, _⟩ := oS b hb; (qS b hb o e).2, fun b hb => let ⟨o, e, hc⟩ := oS b hb; ⟨o, (qS b hb o e).1, hc⟩, (e1.trans e3).trans e5, ?_⟩, fun b hb o e => (qS b hb o e).1⟩
      · obtain ⟨o, e, _⟩ := T.obj _ _ t3 b hb
        exact (pf b hb o e).2
      · exact ⟨S3.s.names (s' := ⟨f x (wipeR s.ρ vs), s.gs⟩) S5.ungen.s e5, S5.ungen.o⟩
    refine seg_bind_wrap ?_
    rw [hA]
    refine wpAny_mono ((L.test z ok x hmem F3 σ4 H4 F3 (.refl _) S4).run _ s4 I4) (fun b s5 ⟨H5, I5, s5', F5, e5, S5, eb, es⟩ => ?_) fun _ _ e => e.elim
    subst eb es
    cases hc : c x with
    | false =>
      rw [drop_at hx, List.filter_cons_of_neg (by simp [hc])]
      simp only [Bool.false_eq_true, if_false]
      exact seg_again rfl (ih (i + 1) s₀ _ (by omega) hlt (fin I5 e5 S5).1 fun b hb o e => (fin I5 e5 S5).2 b hb o (hsk b hb o e))
    | true =>
      rw [drop_at hx, List.filter_cons_of_pos hc, List.length_cons]
      simp only [if_true]
      have hy : ∀ v, yieldOut (genE Y scope z) v = yieldValue v := fun v => by
        have : (genE Y scope z).scope.isCoroutine = false := hco
        simp only [yieldOut, this, Bool.false_eq_true, if_false]
      simp only [hy]
      rw [Sem.bind_eq_wrap', Sem.bind_eq_wrap', Sem.wrap_wrap, Sem.wrap_wrap]
      refine seg_wrap ?_
      rw [hA]
      refine wpAny_mono ((L.elt z ok x hmem hc F5 σ4 H5 F5 (.refl _) S5).run _ s5 I5) (fun w s6 ⟨v6, H6, I6, r6, F6, e6, rv6, S6⟩ => ?_) fun _ _ e => e.elim
      obtain ⟨gt6, kp6⟩ := fin I6 (e5.trans e6) S6
      have ev : v6 = FlatV.z (h x) := FlatE.of (α := γ) rv6
      subst ev
      refine seg_at (seg_yield rfl rfl rfl ⟨h x, rest_at hx hc, r6, gt6.ge, fun b hb o e => kp6 b hb o (hsk b hb o e), fun s7 w7 => ?_⟩)
      exact seg_again rfl (ih (i + 1) s7 s7 (by omega) hlt (gt6.aw T a w7) fun _ _ _ e => e)
end
end Sp
set_option maxHeartbeats 4000000
namespace Sp
open PySem L2
open PySem.W (Datum DatumOrd SomeDatum)
structure SW (prog : Program) (w : World) (A : Around) (a : Addr) (S : List Addr) (n : Nat) (St : Nat → Shared → Prop) (P : Nat → Value → Prop) (D : Shared → Prop) : Prop where
  item : ∀ (i : Nat) (s : Shared) (Q : Option Value → Shared → Prop) (E : Value → Shared → Prop), i < n → St i s → (∀ v s', P i v → St (i + 1) s' → (∀ b ∈ S, ∀ o, s.heap.get? b = some o → s'.heap.get? b = some o) → Q (some v) s') → wpAny (model prog w) A (pyNext (.ref a)) Q E s
  done : ∀ (s : Shared) (Q : Option Value → Shared → Prop) (E : Value → Shared → Prop), St n s → (∀ s', D s' → Q none s') → wpAny (model prog w) A (pyNext (.ref a)) Q E s
  out : ∀ i s, St i s → D s
section
variable {prog : Program} {w : World} {A : Around} {a : Addr} {S : List Addr} {St : Nat → Shared → Prop} {D : Shared → Prop} {R : Result → Shared → Prop}
theorem drop_item {α : Type} {l : List α} {i : Nat} {x : α} (h : l[i]? = some x) : l.drop i = x :: l.drop (i + 1) := drop_at h
theorem any_go {ys : List Bool} (W : SW prog w A.in1 a S ys.length St (fun i v => ∃ y, ys[i]? = some y ∧ v = .bool y) D) : ∀ (k i : Nat) (s : Shared), ys.length - i = k → i ≤ ys.length → St i s →
    (∀ s', D s' → R (.ok (.ret (.bool ((ys.drop i).any id)))) s') → codeAny (model prog w) A (.builtin "any.loop" ⟨[.ref a], []⟩) R s := by
  intro k
  induction k with
  | zero =>
    intro i s hk hi hst hR
    obtain rfl : i = ys.length := by omega
    refine codeAny_builtin F.entry_any_loop ?_
    rw [Around.under_plainId F.plain_any_loop _]
    show wpAny _ A.in1 (pyNext (.ref a) >>= _) _ _ s
    refine wpAny_bind (W.done s _ _ hst fun s' hm => wpAny_bind (wpAny_rule (wpAny_pure ?_)))
    have := hR s' hm
    rw [List.drop_length] at this
    exact this
  | succ k ih =>
    intro i s hk hi hst hR
    have hlt : i < ys.length := by omega
    refine codeAny_builtin F.entry_any_loop ?_
    rw [Around.under_plainId F.plain_any_loop _]
    show wpAny _ A.in1 (pyNext (.ref a) >>= _) _ _ s
    refine wpAny_bind (W.item i s _ _ hlt hst fun v s' ⟨y, hy, ev⟩ hst' _ => ?_)
    subst ev
    rw [drop_item hy, List.any_cons] at hR
    refine wpAny_bind (wpAny_holding (wpAny_truthy_bool (wpAny_bind (wpAny_letGo ?_))))
    cases y with
    | false =>
      simp only [Bool.false_eq_true, if_false]
      exact wpAny_pure ⟨plainId_quiet F.plain_any_loop _, ih (i + 1) _ (by omega) hlt hst' hR⟩
    | true =>
      simp only [if_true]
      exact wpAny_bind (wpAny_rule (wpAny_pure (hR s' (W.out _ _ hst'))))
end
theorem bare_set {s : Shared} {g : Nat} {x : GenState} (h : PyProof.Rows.AllBare s.gens) (hb : x.bare = true) : PyProof.Rows.AllBare (s.setGen g x).gens := fun y hy => by
  have hy' : y ∈ s.gens.setIfInBounds g x := hy
  rcases Array.mem_or_eq_of_mem_setIfInBounds hy' with q | q
  · exact h y q
  · rw [q]; exact hb
section
variable {Y : DX} {scope : Scope} {ow : Ow} {z : GCx} {s : DSt} {σ : St} {F : Hp} {vs : List Nat} {γ : Type} [Enc γ] [FlatV γ]
theorem GE.same {S : List Addr} {s1 s2 : Shared} (h : GE Y scope ow z vs s σ F S s1) (w : Aw [] s1 s2) : GE Y scope ow z vs s σ F S s2 := by
  obtain ⟨H', F', I, hS, e, S⟩ := h
  exact ⟨H', F', GE.aw (S := []) (fun _ hb => absurd hb (by simp)) (fun _ hb => absurd hb (by simp)) I w, hS, e, S⟩
theorem GE.awS {S : List Addr} {s1 s2 : Shared} (a : ∀ b ∈ S, Ap Y scope z b) (h : GE Y scope ow z vs s σ F S s1) (w : Aw S s1 s2) : GE Y scope ow z vs s σ F S s2 := by
  obtain ⟨H', F', I, hS, e, S⟩ := h
  exact ⟨H', F', GE.aw a hS I w, hS, e, S⟩
theorem Aw.trans {S : List Addr} {s1 s2 s3 : Shared} (a : Aw S s1 s2) (b : Aw S s2 s3) : Aw S s1 s3 := ⟨b.1.trans a.1, b.2.1, fun c o h e => b.2.2.1 c o h (a.2.2.1 c o h e), b.2.2.2⟩
theorem GE.bare {S : List Addr} {s1 : Shared} (h : GE Y scope ow z vs s σ F S s1) : PyProof.Rows.AllBare s1.gens := by
  obtain ⟨H', F', I, _⟩ := h
  exact I.bare
def GSt (Y : DX) (scope : Scope) (ow : Ow) (z : GCx) (vs : List Nat) (s : DSt) (σ : St) (F : Hp) (S : List Addr) (ys : List γ) (A : Around) (a : Addr) (g : Nat) (i : Nat) (s1 : Shared) : Prop :=
  ∃ gs, s1.heap.IsGen a g ∧ s1.gens[g]? = some gs ∧ GE Y scope ow z vs s σ F S s1 ∧ (∀ b ∈ S, ∃ o, s1.heap.get? b = some o ∧ ∀ v, o.data ≠ .cell v) ∧
    ∀ s2, Aw S s1 s2 → gs.Goes (model Y.X.prog Y.X.w) A (fun n s0 r s2 => r = .ok .next ∧ (n = 0 ∧ GE Y scope ow z vs s σ F S s2 ∧ ∀ b ∈ S, ∀ o, s0.heap.get? b = some o → s2.heap.get? b = some o)) (GP Y scope ow z vs s σ F S ys) (ys.length - i) (.send .none) s2
theorem gen_sw {ys : List γ} {S : List Addr} {A : Around} {a : Addr} {g : Nat} (ha : a ∈ S) (hh : A.handled = none) (hroom : A.depth < recursionLimit) :
    SW Y.X.prog Y.X.w A a S ys.length (GSt Y scope ow z vs s σ F S ys A.in1 a g) (fun i v => ∃ y, ys[i]? = some y ∧ RelV (FlatV.z y) v) (GE Y scope ow z vs s σ F S) where
  item := fun i s1 Q E hi ⟨gs, hg, hgs, ge, ob, go⟩ hQ => by
    obtain ⟨m, hm⟩ : ∃ m, ys.length - i = m + 1 := ⟨ys.length - i - 1, by omega⟩
    rw [hm] at go
    have hlt : g < s1.gens.size := by
      rcases Nat.lt_or_ge g s1.gens.size with h | h
      · exact h
      · rw [Array.getElem?_eq_none h] at hgs; cases hgs
    obtain ⟨H', F', I, _, e1, S1⟩ := id ge
    refine GenW.wpAny_gsz (n := g + 1) hlt ?_
    refine wpAny_pyNext_genexpQ (P := fun n s0 s2 => n = 0 ∧ GE Y scope ow z vs s σ F S s2 ∧ ∀ b ∈ S, ∀ o, s0.heap.get? b = some o → s2.heap.get? b = some o) hh I.nolimit hroom hg hgs (go _ ⟨rfl, bare_set I.bare rfl, fun _ _ _ e => e, ob⟩) (fun v s2 gs' hb ⟨y, hy, rv, ge2, kp, kap⟩ hsz => ?_) (fun s2 hp => absurd hp.1 (Nat.succ_ne_zero m))
    have hsz2 : g < s2.gens.size := by
      have h9 : g + 1 ≤ (s2.setGen g gs').gens.size := hsz
      rw [GenW.setGen_size] at h9
      exact h9
    have hi2 : ys.length - 1 - (m + 1 - 1) = i := by omega
    rw [hi2] at hy
    have hgs2 : (s2.setGen g gs').gens[g]? = some gs' := setGen_self (gs := s2.gens[g]) (Array.getElem?_eq_getElem hsz2)
    refine hQ v _ ⟨y, hy, rv⟩ ⟨gs', let ⟨o, nm, qn, ho, r⟩ := hg; ⟨o, nm, qn, kp a ha o ho, r⟩, hgs2, ge2.same ⟨rfl, bare_set ge2.bare hb, fun _ _ _ e => e, fun _ h => absurd h (by simp)⟩, fun b hb => let ⟨o, e, hc⟩ := ob b hb; ⟨o, kp b hb o e, hc⟩, fun s3 w3 => ?_⟩ fun b hb o e => kp b hb o e
    have e9 : ys.length - (i + 1) = m := by omega
    rw [e9]
    exact kap s3 w3
  done := fun s1 Q E ⟨gs, hg, hgs, ge, ob, go⟩ hQ => by
    rw [Nat.sub_self] at go
    obtain ⟨H', F', I, _, e1, S1⟩ := id ge
    refine wpAny_pyNext_genexpQ (P := fun n s0 s2 => n = 0 ∧ GE Y scope ow z vs s σ F S s2 ∧ ∀ b ∈ S, ∀ o, s0.heap.get? b = some o → s2.heap.get? b = some o) hh I.nolimit hroom hg hgs (go _ ⟨rfl, bare_set I.bare rfl, fun _ _ _ e => e, ob⟩) (fun v s2 gs' hb ⟨y, hy, rv, ge2, kp, kap⟩ => ?_) (fun s2 ⟨_, ge2, kp⟩ h' hk => ?_)
    · exact False.elim (kap s2 ⟨rfl, ge2.bare, fun _ _ _ e => e, fun b hb => let ⟨o, e, hc⟩ := ob b hb; ⟨o, kp b hb o e, hc⟩⟩)
    · exact hQ _ (ge2.same ⟨rfl, bare_set ge2.bare rfl, fun b o _ e => hk b o e, fun _ h => absurd h (by simp)⟩)
  out := fun i s1 ⟨gs, hg, hgs, ge, ob, go⟩ => ge
theorem GSt.aw {ys : List γ} {S : List Addr} {A : Around} {a : Addr} {g i : Nat} {s1 s2 : Shared} (ap : ∀ b ∈ S, Ap Y scope z b) (h : GSt Y scope ow z vs s σ F S ys A a g i s1) (w : Aw S s1 s2) (hg : s2.gens = s1.gens) (ha : ∀ o, s1.heap.get? a = some o → s2.heap.get? a = some o) : GSt Y scope ow z vs s σ F S ys A a g i s2 := by
  obtain ⟨gs, h1, h2, h3, h4, h5⟩ := h
  obtain ⟨o, nm, qn, ho, r⟩ := h1
  exact ⟨gs, ⟨o, nm, qn, ha o ho, r⟩, by rw [hg]; exact h2, h3.awS ap w, w.2.2.2, fun s3 w3 => h5 s3 (w.trans w3)⟩
end
end Sp
set_option maxHeartbeats 4000000
namespace Sp
open PySem L2
open PySem.W (Datum DatumOrd SomeDatum)
section
variable {Y : DX} {k : Nat} {scope : Scope} {ow : Ow} {z : GCx} {s : DSt} {σ : St} {H F : Hp} {β γ : Type} [Enc β] [Enc γ] [FlatV γ] [FlatE γ]
theorem seg_start {A : Around} {vs ws : List Nat} {tg elt iter : Expr} {ifs : List Expr} {g : TG} {f : β → Rho → Rho} {items : List β} {c : β → Bool} {h : β → γ} {tn : Nat → Heap → Prop} {S : List Addr} {it : Addr} {J : It} {gpos : Pos} (L : GTurns Y k s scope ow vs tg elt ifs g ws f items c h) (ok : YOk (genYO Y k scope ow z)) (hco : scope.isCoroutine = false)
    (T : Turn Y.X.prog Y.X.w Y.X.K tg J z.fp it tn) (a : ∀ b ∈ S, Ap Y scope z b) (K1 : ItOk Y.X.K J F items) (hA : A.over (.compLoop (.GeneratorExp elt [⟨tg, iter, ifs, 0⟩] scope gpos) 0 (.ref it) .none (genE Y scope z)) [] = z.A)
    (s₀ s1 : Shared) (gt : GT Y scope ow z vs s σ F tn S 0 s1) (hsk : ∀ b ∈ S, ∀ o, s₀.heap.get? b = some o → s1.heap.get? b = some o) :
    Seg (model Y.X.prog Y.X.w) A (fun n s0 r s2 => r = .ok .next ∧ (n = 0 ∧ GE Y scope ow z vs s σ F S s2 ∧ ∀ b ∈ S, ∀ o, s0.heap.get? b = some o → s2.heap.get? b = some o)) (GP Y scope ow z vs s σ F S ((items.filter c).map h)) ((items.filter c).map h).length s₀
      (.compStart (.GeneratorExp elt [⟨tg, iter, ifs, 0⟩] scope gpos) 0 (.ref it) .none (genE Y scope z))
      ((model Y.X.prog Y.X.w).den (.compStart (.GeneratorExp elt [⟨tg, iter, ifs, 0⟩] scope gpos) 0 (.ref it) .none (genE Y scope z))) [] s1 := by
  have loop := seg_gen (iter := iter) (gpos := gpos) (F0 := F) L ok hco T a K1 hA items.length 0 s₀ s1 (by omega) (Nat.zero_le _) gt hsk
  rw [List.drop_zero] at loop
  rw [List.length_map]
  obtain ⟨H', F', I, t1, _⟩ := gt
  show Seg _ A _ _ _ s₀ _ ((compStart (.GeneratorExp elt [⟨tg, iter, ifs, 0⟩] scope gpos) 0 (.ref it) .none (genE Y scope z)).onRaise (leaving (genE Y scope z))) [] s1
  unfold compStart
  rw [Sem.onRaise_eq_wrap]
  show Seg _ A _ _ _ s₀ _ ((ask >>= _).wrap _ _ _ _) [] s1
  refine seg_bind_wrap (wpAny_askSetting ?_)
  split
  · exact seg_again rfl loop
  · refine seg_bind_wrap (wpAny_rule ?_)
    show Seg _ A _ _ _ s₀ _ ((standAt iter.pos >>= _).wrap _ _ _ _) [] s1
    exact seg_bind_wrap (wpAny_standAt (seg_bind_wrap (T.self _ 0 s1 _ _ t1 (seg_again rfl loop))))
end
theorem newFn_cells {M : Model} {A : Around} {E : Value → Shared → Prop} {s : Shared} {scope : Scope} {globals : Addr} {cl : List (Str × Addr)} {it : Value} {qual : Str} {code : Value} {bi : Addr} {Q : Env → Shared → Prop} (hk : scope.kind = .function) (h0 : scope.names.lookup (".0" : Str) = some NameKind.local)
    (hQ : ∀ h' : Heap, h'.Ns s.heap.objs.size (fun y => if y = ".0" then some it else none) → CellsOk h' (s.heap.objs.size + 1) (cellsFrom (s.heap.objs.size + 1) scope.names []) → (∀ b o, s.heap.get? b = some o → h'.get? b = some o) → s.heap.objs.size < h'.objs.size →
      Q { scope, locals := s.heap.objs.size, globals, cells := cellsFrom (s.heap.objs.size + 1) scope.names cl, qual, func := none, code, frame := some s.heap.objs.size, builtins := bi } { s with heap := h', toks := s.toks + 1 }) :
    wpAny M A (newFunctionEnv scope globals cl [(".0", it)] qual none code none bi) Q E s := by
  simp only [newFunctionEnv, Option.isSome_none, Bool.false_eq_true, if_false]
  refine wpAny_bind (wpAny_alloc ?_)
  refine wpAny_bind (wpAny_layCells _ (fun name kind cells => by cases hkc : kind == NameKind.cell <;> simp [hkc]) _ _ _ _ ?_)
  rw [show ({ s with heap := s.heap.push { cls := .type "frame", data := .dict #[] } } : Shared).heap.objs.size = s.heap.objs.size + 1 from Heap.size_push ..]
  have ok := cellsFrom_ok scope.names (s.heap.push { cls := .type "frame", data := .dict #[] }) (s.heap.objs.size + 1) [] ⟨fun _ _ hm => (nomatch hm), List.Pairwise.nil⟩ (by rw [Heap.size_push]; exact Nat.le_refl _)
  rw [Heap.size_push] at ok
  have ns : (pushCells (s.heap.push { cls := .type "frame", data := .dict #[] }) scope.names).Ns s.heap.objs.size (fun _ => none) := (Heap.Ns.new s.heap (.type "frame")).keeps (pushCells_keeps _ _)
  rw [List.forIn_cons]
  refine wpAny_bind (wpAny_bind (wpAny_bind (wpAny_storeName_local (s := { s with heap := pushCells (s.heap.push { cls := .type "frame", data := .dict #[] }) scope.names }) h0 ns (fun h' hn' hs' => ?_) (by rw [hk]; rfl))))
  refine wpAny_pure ?_
  dsimp only
  rw [List.forIn_nil]
  refine wpAny_pure (wpAny_pure (hQ h' hn' ⟨fun n c hm => ?_, ok.apart⟩ (fun b o e => ?_) ?_))
  · obtain ⟨z1, z2⟩ := ok.empty n c hm
    exact ⟨z1.sameBut hs' (Nat.ne_of_gt z2), z2⟩
  · exact hs'.extBut b o (Nat.ne_of_lt (Heap.lt_size e)) (pushCells_keeps _ _ _ _ (Heap.get?_push_of_some _ e))
  · exact hn'.lt
theorem gexp_make {M : Model} {A : Around} {E : Value → Shared → Prop} {s : Shared} {env : Env} {elt target iter : Expr} {ifs : List Expr} {scope : Scope} {cl : List (Str × Addr)} {pos : Pos} {Q : Value → Shared → Prop}
    (hco : scope.isCoroutine = false) (hclos : closureFor scope env = pure cl) (h0 : scope.names.lookup (".0" : Str) = some NameKind.local) (hkind : scope.kind = .function) (hroom : A.depth < recursionLimit)
    (h : wpAny M A (eval iter env) (fun xv s₁ => wpAny M A (pyIter xv) (fun it s₂ => s₂.heap.NoLimit ∧
      wpAny M A (genexprCode env pos (env.qual ++ "<genexpr>") scope) (fun code s₃ => wpAny M A (builtinsFor env.globals env.builtins) (fun bi s₄ =>
        ∀ h' : Heap, h'.Ns s₄.heap.objs.size (fun y => if y = ".0" then some it else none) → CellsOk h' (s₄.heap.objs.size + 1) (cellsFrom (s₄.heap.objs.size + 1) scope.names []) → (∀ b o, s₄.heap.get? b = some o → h'.get? b = some o) → s₄.heap.objs.size < h'.objs.size →
          Q (.ref h'.objs.size) { s₄ with
            gens := s₄.gens.push (.fresh (.compStart (.GeneratorExp elt [⟨target, iter, ifs, 0⟩] scope pos) 0 it .none (genEnv scope (cellsFrom (s₄.heap.objs.size + 1) scope.names cl) s₄.heap.objs.size code bi env))),
            toks := s₄.toks + 1 + 1 + 1,
            heap := h'.push { cls := .type "generator", data := .fields #[.int s₄.gens.size 0, .str "<genexpr>" (s₄.toks + 1), .str (env.qual ++ "<genexpr>") (s₄.toks + 1 + 1)] } }) E s₃) E s₂) E s₁) E s)
    (hs : ∀ x, genFold iter env x = pure x) :
    wpAny M A (eval (.GeneratorExp elt [⟨target, iter, ifs, 0⟩] scope pos) env) Q E s := by
  rw [eval_GeneratorExp1 _ _ _ _ _ _ _ hco, hclos]
  refine wpAny_bind (wpAny_mono h (fun xv s₁ h₁ => wpAny_bind (wpAny_standAt (wpAny_bind (wpAny_of_eq (hs xv) (wpAny_bind (wpAny_holding (wpAny_mono h₁ (fun it s₂ h₂ => ?_) fun _ _ e => e))))))) fun _ _ e => e)
  refine wpAny_bind (wpAny_enterFrame h₂.1 hroom (wpAny_bind (wpAny_pure (wpAny_bind (wpAny_mono h₂.2 (fun code s₃ h₃ => wpAny_bind (wpAny_mono h₃ (fun bi s₄ h₄ => ?_) fun _ _ e => e)) fun _ _ e => e)))))
  refine wpAny_bind (newFn_cells hkind h0 fun h' hn ce kp sz => ?_)
  simp only [newGenerator, newFields]
  refine wpAny_bind (wpAny_newGen (wpAny_bind (wpAny_mkText (wpAny_bind (wpAny_mkText (wpAny_newObj_type ?_ (by size_fits)))))))
  exact h₄ h' hn ce kp sz
inductive TbG (X : Cx) (T : Tb) (q : Str) (gp : Pos) : Ow → Prop
  | pl (h : Tbl X T (.plain q)) : TbG X T q gp noOw
  | ne (h : Tbl X T (.nest none)) : TbG X T q gp ownOw
  | ow {c c0 P0 : Addr} (hc : X.env.code = .ref c) (hm : (c, Tk.own) ∈ T) (B : LamX.TabB X.base X.mg c0 P0) : TbG X T q gp noOw
  | mx {ls : List (Nat × Nat)} {z : Str} (h : Tbl X T (.mix ls z)) (hl : lamAt ls gp = false) : TbG X T q gp noOw
theorem TbG.bm {X : Cx} {T : Tb} {q : Str} {gp : Pos} {ow : Ow} (h : TbG X T q gp ow) : ∃ P0, X.base.BuiltinsAt X.mg P0 := by
  cases h with
  | pl h => obtain ⟨c, P, B, _⟩ := h.ex; exact ⟨P, B.bm⟩
  | ne h => obtain ⟨c, P, B, _⟩ := h.ex; exact ⟨P, B.bm⟩
  | ow hc hm B => exact ⟨_, B.bm⟩
  | mx h hl => obtain ⟨c, P, B, _⟩ := h.ex; exact ⟨P, B.bm⟩
theorem codeT_ne {c P : Addr} {q : Option Str} (ps : Array Value) : CodeT c P q ≠ .tbl ps := fun z => by unfold CodeT at z; cases z
theorem pTab_ne {P : Addr} (ps : Array Value) : PTab P ≠ .tbl ps := fun z => by unfold PTab at z; cases z
theorem codeT_ok {P : Program} {w : World} {H : Hp} {h : Heap} {c P' : Addr} {ps : Array Value} {q : Option Str} (ic : h.IsCode c P' ps) (ta : h.TableAt c P' ps) (nm : ∀ z, q = some z → ∃ (oc : Obj) (us : Array Value) (t : Tok), h.get? c = some oc ∧ oc.data = .fields us ∧ us[1]? = some (.str z t)) : ObjOk P w H h c (CodeT c P' q) := by
  obtain ⟨o, vs, file, tf, flags, tg, inF, text, tt, op, ho, hd, h11, h2, h7, h9, h10, hop, hpd, htr, hne⟩ := ic
  obtain ⟨⟨o2, vs2, ho2, hc2, hd2, h112⟩, _⟩ := ta
  rw [ho] at ho2
  cases ho2
  rw [hd] at hd2
  cases hd2
  exact ⟨⟨nm, o, vs, file, tf, flags, tg, inF, text, tt, ho, hc2, hd, h112, h11, h2, h7, h9, h10, hne⟩, ⟨o, ho⟩, fun h1 h2 ⟨nm, o, vs, file, tf, flags, tg, inF, text, tt, e, r⟩ k => ⟨fun z hz => by obtain ⟨oc, us, t, a1, a2⟩ := nm z hz; exact ⟨oc, us, t, k _ a1, a2⟩, o, vs, file, tf, flags, tg, inF, text, tt, k _ e, r⟩⟩
theorem pTab_ok {P : Program} {w : World} {H : Hp} {h : Heap} {P' : Addr} {ps : Array Value} (e : h.get? P' = some { cls := .none, data := .fields ps }) (t : TriplesOk ps.toList) (r : ∀ pos cv, codeAmong pos ps.toList = some cv → ∃ c, cv = .ref c) : ObjOk P w H h P' (PTab P') :=
  ⟨⟨ps, e, t, r⟩, ⟨_, e⟩, fun h1 h2 ⟨ps, e, q⟩ k => ⟨ps, k _ e, q⟩⟩
theorem upd_idT {H : Hp} {a : Addr} {o : HO} (h : H a = some o) : upd H a o = H := by
  funext b
  by_cases e : b = a
  · rw [e, upd_same, h]
  · rw [upd_ne e]
section
variable {Y : DX} {s : DSt} {σ : St} {H F : Hp} {pins : List (Addr × Obj)} {scope : Scope} {gpos : Pos} {Q E : Value → Shared → Prop} {s2 : Shared}
theorem gen_code {ow : Ow} (tb : TbG Y.X Y.T (Y.X.env.qual ++ "<genexpr>") gpos ow) (I : Inv Y.X pins σ H s2) (S : Sta Y s σ H F)
    (k : ∀ (c : Addr) (s3 : Shared) (H3 : Hp), Inv Y.X pins σ H3 s3 → Sta Y s σ H3 F → (∀ z : GCx, z.code = c → TbOk (ow z) H3) → (∀ b o, H b = none → s2.heap.get? b = some o → s3.heap.get? b = some o) → (∀ b, H b = none → b < s2.heap.objs.size → H3 b = none) → Q (.ref c) s3) :
    wpAny (model Y.X.prog Y.X.w) Y.X.A (genexprCode Y.X.env gpos (Y.X.env.qual ++ "<genexpr>") scope) Q E s2 := by
  have no : ∀ {z : GCx} {H3 : Hp}, TbOk (noOw z) H3 := fun {z H3} p hp => by cases hp
  cases tb with
  | pl h =>
    obtain ⟨cd, P, TB, hcode, hmT, hu⟩ := h.ex
    obtain ⟨ps, hP, ht, hcv⟩ := S.tb _ hmT
    have hP' : s2.heap.get? P = some { cls := .none, data := .fields ps } := I.hok P _ hP
    have nP : ∀ {b : Addr}, H b = none → b ≠ P := fun {b} e z => by rw [z, hP] at e; cases e
    cases hf : codeAmong gpos ps.toList with
    | some cv =>
      obtain ⟨c, rfl, _⟩ := hcv gpos cv hf
      exact wpAny_genexprCode_hit hcode ((TB.code.keeps I.bk).code hP' ht) hf (k c s2 H I S (fun _ _ => no) (fun _ _ _ e => e) fun b hb _ => hb)
    | none =>
      refine wpAny_genexprCodeX hcode ((TB.code.keeps I.bk).code hP' ht) ((TB.code.keeps I.bk).tab hP') hf fun c' h' tk hx hge hlt hco' hrec htab' _ => ?_
      obtain ⟨c2, oc, ws, t, e2, hoc, hd, hv⟩ := hrec
      cases e2
      have nC : H c' = none := I.hok.fresh hge
      have I3 := LamX.inv_table (t' := tk) (more := #[rawInt gpos.line, rawInt gpos.col, .ref c']) (h' := h') (q := Y.X.env.qual ++ "<genexpr>") I hP (fun b o hb e => hx b o hb e) htab'.2 hge ⟨oc, ws, t, hoc, hd, hv⟩
      have ex : LamX.ExtN H (upd (upd H P (.tbl (ps ++ #[rawInt gpos.line, rawInt gpos.col, .ref c']))) c' (LamX.CodeO c' (Y.X.env.qual ++ "<genexpr>"))) := fun b o e n => by
        rw [upd_ne (ne_of_none e nC), upd_ne (fun x => n ps (by rw [x, hP] at e; exact (Option.some.inj e).symm))]
        exact e
      have el : (ps ++ #[rawInt gpos.line, rawInt gpos.col, .ref c']).toList = ps.toList ++ [rawInt gpos.line, rawInt gpos.col, .ref c'] := by simp
      refine k c' _ _ I3 (S.extN ex (fun p hp => ?_) fun a qs ha e => ?_) (fun _ _ => no) (fun b o hb e => hx b o (nP hb) e) fun b hb hl => ?_
      · have hp' := plainT_mem.mp hp
        obtain ⟨qs, a1, a2, a3⟩ := S.tb _ hp'
        by_cases hb : p.1 = P
        · have hq := hu _ hp' hb
          have hq' : p.2 = Y.X.env.qual ++ "<genexpr>" := by injection hq
          have a1' : H p.1 = some (.tbl qs) := a1
          rw [hb, hP] at a1'
          cases a1'
          refine ⟨_, by rw [hb, upd_ne (ne_of_none hP nC), upd_same], by rw [el]; exact PySem.TriplesOk_snoc _ _ _ _ ht, fun p' cv hcv' => ?_⟩
          rw [el] at hcv'
          rcases LamX.among_app _ ht hcv' with y | y
          · obtain ⟨c0, e1, e2⟩ := a3 p' cv y
            exact ⟨c0, e1, ex _ _ e2 LamX.codeO_ne⟩
          · exact ⟨c', y, by rw [hq', upd_same]⟩
        · refine ⟨qs, by rw [upd_ne (ne_of_none a1 nC), upd_ne hb]; exact a1, a2, fun p' cv hcv' => ?_⟩
          obtain ⟨c0, e1, e2⟩ := a3 p' cv hcv'
          exact ⟨c0, e1, ex _ _ e2 LamX.codeO_ne⟩
      · rw [upd_ne (ne_of_none e nC), upd_ne (fun z => by rcases ha with ⟨_, ha⟩ | ⟨_, _, ha⟩ <;> (have h9 := hu _ ha z; cases h9))]
        exact e
      · rw [upd_ne (Nat.ne_of_lt (Nat.lt_of_lt_of_le hl hge)), upd_ne (nP hb)]
        exact hb
  | ne h =>
    obtain ⟨cd, P, TB, hcode, hmT, hu⟩ := h.ex
    obtain ⟨ps, hP, ht, hcv⟩ := S.tb _ hmT
    have hP' : s2.heap.get? P = some { cls := .none, data := .fields ps } := I.hok P _ hP
    have nP : ∀ {b : Addr}, H b = none → b ≠ P := fun {b} e z => by rw [z, hP] at e; cases e
    cases hf : codeAmong gpos ps.toList with
    | some cv =>
      obtain ⟨c, P', rfl, z1, z2⟩ := hcv gpos cv hf
      refine wpAny_genexprCode_hit hcode ((TB.code.keeps I.bk).code hP' ht) hf (k c s2 H I S (fun z hz p hp => ?_) (fun _ _ _ e => e) fun b hb _ => hb)
      cases List.mem_singleton.mp hp
      show TbE H z.code .own
      rw [hz]
      exact ⟨P', _, z1, z2⟩
    | none =>
      refine wpAny_genexprCodeX hcode ((TB.code.keeps I.bk).code hP' ht) ((TB.code.keeps I.bk).tab hP') hf fun c' h' tk hx hge hlt hco' hrec htab' ⟨P', hge', ic, ta⟩ => ?_
      obtain ⟨c2, oc, ws, t, e2, hoc, hd, hv⟩ := hrec
      cases e2
      have nC : H c' = none := I.hok.fresh hge
      have nC' : H P' = none := I.hok.fresh hge'
      have nPc : P ≠ c' := ne_of_none hP nC
      have nPp : P ≠ P' := ne_of_none hP nC'
      have ncp : c' ≠ P' := by obtain ⟨_, _, _, _, _, _, _, _, _, _, _, _, _, _, _, _, _, _, _, _, hne⟩ := ic; exact hne
      have I3 := LamX.inv_table (t' := tk) (more := #[rawInt gpos.line, rawInt gpos.col, .ref c']) (h' := h') (q := Y.X.env.qual ++ "<genexpr>") I hP (fun b o hb e => hx b o hb e) htab'.2 hge ⟨oc, ws, t, hoc, hd, hv⟩
      have I4 := I3.write (x := c') (e := c') (h' := h') (t' := tk) (o := CodeT c' P' none) (by rw [upd_same]; exact True.intro) (.inl rfl) (fun b u _ e => e) ⟨oc, hoc⟩ (codeT_ok ic ta fun z hz => by cases hz)
      rw [upd_upd] at I4
      have I5 := I4.take (h' := h') (t' := tk) (it := P') (o := PTab P') (fun b ob _ e => e) (I.fpOk hge' (by rw [upd_ne (Ne.symm ncp), upd_ne (Ne.symm nPp)]; exact nC')) (pTab_ok ta.2 trivial fun pos cv h => by
        have h : codeAmong pos [] = some cv := h
        cases h)
      have el : (ps ++ #[rawInt gpos.line, rawInt gpos.col, .ref c']).toList = ps.toList ++ [rawInt gpos.line, rawInt gpos.col, .ref c'] := by simp
      have sm : ∀ b o, H b = some o → b ≠ P → upd (upd (upd H P (.tbl (ps ++ #[rawInt gpos.line, rawInt gpos.col, .ref c']))) c' (CodeT c' P' none)) P' (PTab P') b = some o := fun b o e n => by
        rw [upd_ne (ne_of_none e nC'), upd_ne (ne_of_none e nC), upd_ne n]; exact e
      have ex : LamX.ExtN H (upd (upd (upd H P (.tbl (ps ++ #[rawInt gpos.line, rawInt gpos.col, .ref c']))) c' (CodeT c' P' none)) P' (PTab P')) := fun b o e n => sm b o e fun x => n ps (by rw [x, hP] at e; exact (Option.some.inj e).symm)
      have atc : upd (upd (upd H P (.tbl (ps ++ #[rawInt gpos.line, rawInt gpos.col, .ref c']))) c' (CodeT c' P' none)) P' (PTab P') c' = some (CodeT c' P' none) := by rw [upd_ne ncp, upd_same]
      have atp : upd (upd (upd H P (.tbl (ps ++ #[rawInt gpos.line, rawInt gpos.col, .ref c']))) c' (CodeT c' P' none)) P' (PTab P') P' = some (PTab P') := upd_same
      have atP : upd (upd (upd H P (.tbl (ps ++ #[rawInt gpos.line, rawInt gpos.col, .ref c']))) c' (CodeT c' P' none)) P' (PTab P') P = some (.tbl (ps ++ #[rawInt gpos.line, rawInt gpos.col, .ref c'])) := by rw [upd_ne nPp, upd_ne nPc, upd_same]
      refine k c' _ _ I5 (S.extT ex fun p hp => ?_) (fun z hz p hp => ?_) (fun b o hb e => hx b o (nP hb) e) fun b hb hl => ?_
      · obtain ⟨a, kd⟩ := p
        have h0 := S.tb _ hp
        by_cases hb : a = P
        · have hk := hu _ hp hb
          have hk' : kd = .nest none := hk
          subst hk' hb
          refine ⟨_, atP, by rw [el]; exact PySem.TriplesOk_snoc _ _ _ _ ht, fun p' cv hcv' => ?_⟩
          rw [el] at hcv'
          rcases LamX.among_app _ ht hcv' with y | y
          · obtain ⟨c0, P0, e1, e2, e3⟩ := hcv p' cv y
            exact ⟨c0, P0, e1, ex _ _ e2 codeT_ne, ex _ _ e3 pTab_ne⟩
          · exact ⟨c', P', y, atc, atp⟩
        · cases kd with
          | plain q =>
            obtain ⟨qs, a1, a2, a3⟩ := h0
            refine ⟨qs, sm _ _ a1 hb, a2, fun p' cv hcv' => ?_⟩
            obtain ⟨c0, e1, e2⟩ := a3 p' cv hcv'
            exact ⟨c0, e1, ex _ _ e2 LamX.codeO_ne⟩
          | nest z9 =>
            obtain ⟨qs, a1, a2, a3⟩ := h0
            refine ⟨qs, sm _ _ a1 hb, a2, fun p' cv hcv' => ?_⟩
            obtain ⟨c0, P0, e1, e2, e3⟩ := a3 p' cv hcv'
            exact ⟨c0, P0, e1, ex _ _ e2 codeT_ne, ex _ _ e3 pTab_ne⟩
          | own =>
            obtain ⟨P0, q, e2, e3⟩ := h0
            exact ⟨P0, q, ex _ _ e2 codeT_ne, ex _ _ e3 pTab_ne⟩
          | mix ls q =>
            obtain ⟨qs, a1, a2, a3⟩ := h0
            refine ⟨qs, sm _ _ a1 hb, a2, fun p' cv hcv' => ?_⟩
            obtain ⟨c0, e1, e2⟩ := a3 p' cv hcv'
            exact ⟨c0, e1, fun l => ex _ _ (e2 l) LamX.codeO_ne⟩
      · cases List.mem_singleton.mp hp
        show TbE _ z.code .own
        rw [hz]
        exact ⟨P', _, atc, atp⟩
      · rw [upd_ne (Nat.ne_of_lt (Nat.lt_of_lt_of_le hl hge')), upd_ne (Nat.ne_of_lt (Nat.lt_of_lt_of_le hl hge)), upd_ne (nP hb)]
        exact hb
  | @mx ls z h hl =>
    obtain ⟨cd, P, TB, hcode, hmT, hu⟩ := h.ex
    obtain ⟨ps, hP, ht, hcv⟩ := S.tb _ hmT
    have hP' : s2.heap.get? P = some { cls := .none, data := .fields ps } := I.hok P _ hP
    have nP : ∀ {b : Addr}, H b = none → b ≠ P := fun {b} e z => by rw [z, hP] at e; cases e
    cases hf : codeAmong gpos ps.toList with
    | some cv =>
      obtain ⟨c, rfl, _⟩ := hcv gpos cv hf
      exact wpAny_genexprCode_hit hcode ((TB.code.keeps I.bk).code hP' ht) hf (k c s2 H I S (fun _ _ => no) (fun _ _ _ e => e) fun b hb _ => hb)
    | none =>
      refine wpAny_genexprCodeX hcode ((TB.code.keeps I.bk).code hP' ht) ((TB.code.keeps I.bk).tab hP') hf fun c' h' tk hx hge hlt hco' hrec htab' _ => ?_
      obtain ⟨c2, oc, ws, t, e2, hoc, hd, hv⟩ := hrec
      cases e2
      have nC : H c' = none := I.hok.fresh hge
      have I3 := LamX.inv_table (t' := tk) (more := #[rawInt gpos.line, rawInt gpos.col, .ref c']) (h' := h') (q := Y.X.env.qual ++ "<genexpr>") I hP (fun b o hb e => hx b o hb e) htab'.2 hge ⟨oc, ws, t, hoc, hd, hv⟩
      have sm : ∀ b o, H b = some o → b ≠ P → upd (upd H P (.tbl (ps ++ #[rawInt gpos.line, rawInt gpos.col, .ref c']))) c' (LamX.CodeO c' (Y.X.env.qual ++ "<genexpr>")) b = some o := fun b o e n => by
        rw [upd_ne (ne_of_none e nC), upd_ne n]; exact e
      have ex : LamX.ExtN H (upd (upd H P (.tbl (ps ++ #[rawInt gpos.line, rawInt gpos.col, .ref c']))) c' (LamX.CodeO c' (Y.X.env.qual ++ "<genexpr>"))) := fun b o e n => sm b o e fun x => n ps (by rw [x, hP] at e; exact (Option.some.inj e).symm)
      have el : (ps ++ #[rawInt gpos.line, rawInt gpos.col, .ref c']).toList = ps.toList ++ [rawInt gpos.line, rawInt gpos.col, .ref c'] := by simp
      refine k c' _ _ I3 (S.extT ex (mix_tb S.tb hmT hu (fun b o e n => sm b o e n) ex ⟨_, by rw [upd_ne (ne_of_none hP nC), upd_same], by rw [el]; exact PySem.TriplesOk_snoc _ _ _ _ ht, fun p' cv hcv' => ?_⟩)) (fun _ _ => no) (fun b o hb e => hx b o (nP hb) e) fun b hb hl => ?_
      · rw [el] at hcv'
        rcases among_app2 _ ht hcv' with y | ⟨y, y1, y2⟩
        · obtain ⟨c0, e1, e2⟩ := hcv p' cv y
          exact ⟨c0, e1, fun l => ex _ _ (e2 l) LamX.codeO_ne⟩
        · refine ⟨c', y, fun l => ?_⟩
          unfold lamAt at l hl
          rw [y1, y2, hl] at l
          cases l
      · rw [upd_ne (Nat.ne_of_lt (Nat.lt_of_lt_of_le hl hge)), upd_ne (nP hb)]
        exact hb
  | @ow c c0 P0 hcode hm B =>
    obtain ⟨P', q9, z1, z2⟩ := S.tb _ hm
    obtain ⟨⟨_, o, vs, file, tf, flags, tg, inF, text, tt, ho, hcl, hd, h11', h11, h2, h7, h9, h10, hne⟩, _⟩ := I.hok _ _ z1
    obtain ⟨⟨ps, hP', ht, hr⟩, _⟩ := I.hok _ _ z2
    have ic : s2.heap.IsCode c P' ps := ⟨o, vs, file, tf, flags, tg, inF, text, tt, _, ho, hd, h11, h2, h7, h9, h10, hP', rfl, ht, hne⟩
    have ta : s2.heap.TableAt c P' ps := ⟨⟨o, vs, ho, hcl, hd, h11'⟩, hP'⟩
    cases hf : codeAmong gpos ps.toList with
    | some cv =>
      obtain ⟨c1, rfl⟩ := hr gpos cv hf
      exact wpAny_genexprCode_hit hcode ic hf (k c1 s2 H I S (fun _ _ => no) (fun _ _ _ e => e) fun b hb _ => hb)
    | none =>
      refine wpAny_genexprCodeX hcode ic ta hf fun c' h' tk hx hge hlt hco' hrec htab' _ => ?_
      have el : (ps ++ #[rawInt gpos.line, rawInt gpos.col, .ref c']).toList = ps.toList ++ [rawInt gpos.line, rawInt gpos.col, .ref c'] := by simp
      have I3 := I.write (x := P') (e := P') (h' := h') (t' := tk) (o := PTab P') (by rw [z2]; exact True.intro) (.inl rfl) (fun b u hb e => hx b u hb e) ⟨_, htab'.2⟩ (pTab_ok htab'.2 (by rw [el]; exact PySem.TriplesOk_snoc _ _ _ _ ht) fun p' cv h => by
        rw [el] at h
        exact (LamX.among_app _ ht h).elim (fun y => hr p' cv y) fun y => ⟨c', y⟩)
      rw [upd_idT z2] at I3
      exact k c' _ H I3 S (fun _ _ => no) (fun b o hb e => hx b o (fun z => by rw [z, z2] at hb; cases hb) e) fun b hb _ => hb
end
structure Made {γ : Type} [Enc γ] [FlatV γ] (Y : DX) (scope : Scope) (ow : Ow) (vs : List Nat) (s : DSt) (σ : St) (F0 : Hp) (pins : List (Addr × Obj)) (ys : List γ) (a : Addr) (s5 : Shared) : Prop where
  go : ∃ (z : GCx) (F : Hp) (g : Nat), Ext F0 F ∧ Inv Y.X pins σ z.H z.s ∧ (∀ b ∈ z.fp, (b ∈ Y.X.ex ∨ Y.X.s_0.heap.objs.size ≤ b) ∧ b ≠ Y.X.env.locals ∧ (∀ x c, Y.X.env.cells.lookup x = some c → c ≠ b) ∧ ∀ p ∈ Y.X.pn ++ pins, p.1 ≠ b) ∧
    s5.heap.IsGen a g ∧ ∀ (S : List Addr) (s6 : Shared), a ∈ S → (∀ b ∈ S, b = a ∨ s5.heap.objs.size ≤ b) → s6.os = s5.os → s6.gens = s5.gens → (∀ b o, s5.heap.get? b = some o → s6.heap.get? b = some o) → (∀ b ∈ S, ∃ o, s6.heap.get? b = some o ∧ ∀ v, o.data ≠ .cell v) →
      (∀ b ∈ S, Ap Y scope z b) ∧ GSt Y scope ow z vs s σ F S ys Y.X.A.in1.in1 a g 0 s6
section
variable {Y : DX} {k : Nat} {scope : Scope} {ow : Ow} {s : DSt} {σ : St} {β γ : Type} [Enc β] [Enc γ] [FlatV γ] [FlatE γ]
theorem gen_made {vs ws : List Nat} {tg elt iter : Expr} {ifs : List Expr} {g : TG} {f : β → Rho → Rho} {items : List β} {c : β → Bool} {h : β → γ} {gpos : Pos} {pins : List (Addr × Obj)} {F0 H F : Hp} {s0 : Shared} {Q : Value → Shared → Prop} (ok : YOk Y) (hk : k + 2 ≤ Y.k) (hi : EvIt Y s tg iter items) (G : GenOk Y.X.N Y.X.env.scope scope vs) (tb : TbG Y.X Y.T (Y.X.env.qual ++ "<genexpr>") gpos ow)
    (L : GTurns Y k s scope ow vs tg elt ifs g ws f items c h) (hs : ∀ x, genFold iter Y.X.env x = pure x) (e0 : Ext F0 F) (S : Sta Y s σ H F) (I : Inv Y.X pins σ H s0)
    (hQ : ∀ a s5, Made Y scope ow vs s σ F0 pins ((items.filter c).map h) a s5 → Q (.ref a) s5) :
    wpAny (model Y.X.prog Y.X.w) Y.X.A (eval (.GeneratorExp elt [⟨tg, iter, ifs, 0⟩] scope gpos) Y.X.env) Q Y.X.xe s0 := by
  obtain ⟨wi, hp, hw⟩ := hi
  have hfree : ∀ y ∈ scope.names, y.2 = .free → ∃ c, Y.X.env.cells.lookup y.1 = some c := fun y hy e => (G.free y hy e).elim (fun q => I.ok.has _ (.inl q)) fun q => I.ok.has _ (.inr q)
  refine gexp_make G.co (closure_ok hfree) G.dot G.kind ok.room.depth ?_ hs
  refine wpAny_mono (hp.run pins s0 σ H (fun J H' => ∃ F', Ext F0 F' ∧ Sta Y s σ H' F' ∧ ItOk Y.X.K J F' items) I (hw F0 σ H F _ e0 S fun J H' F' e1 S1 K1 => ⟨F', e1, S1, K1⟩)) (fun xv s1 h1 => wpAny_mono h1 (fun itv s2 ⟨it, fp, tn, J, H2, ei, I2, T, t2, f2, F2, e2, S2, K2⟩ => ?_) fun _ _ e => e) fun _ _ e => e
  subst ei
  refine ⟨I2.nolimit, ?_⟩
  refine gen_code tb I2 S2 fun code s3 H3 I3 S3 O3 kp3 fr3 => ?_
  obtain ⟨P0, bm0⟩ := tb.bm
  obtain ⟨bm, ob, b1, b2, b3, b4, b5, b6, b7, b8⟩ := bm0
  refine wpAny_builtinsFor (m := Y.X.mg) (by rw [I3.ok.glob]; exact I3.mod.glob.keeps I3.bk) b1 b2 (I3.bk _ _ b5) b6 b7 b8 ?_
  intro h' hn ce kp4 hsz
  have sz2 : ∀ b ∈ fp, b < s2.heap.objs.size := fun b hb => by
    obtain ⟨o, e, _⟩ := T.obj _ _ t2 b hb
    exact Heap.lt_size e
  have sz3 : ∀ b ∈ fp, b < s3.heap.objs.size := fun b hb => by
    obtain ⟨o, e, _⟩ := T.obj _ _ t2 b hb
    exact Heap.lt_size (kp3 b o (f2 b hb).1 e)
  have f3 : ∀ b ∈ fp, FpOk Y.X pins H3 b ∧ b < s3.heap.objs.size := fun b hb => ⟨⟨fr3 b (f2 b hb).1 (sz2 b hb), (f2 b hb).2⟩, sz3 b hb⟩
  generalize hz : (⟨(Y.X.A.in1.in1).over (.compLoop (.GeneratorExp elt [⟨tg, iter, ifs, 0⟩] scope gpos) 0 (.ref it) .none (genEnv scope (genCl Y.X.env.cells scope s3.heap.objs.size) s3.heap.objs.size (.ref code) builtinsNs Y.X.env)) [], s3.heap.objs.size, code, s3, H3, fp⟩ : GCx) = z
  have zA : (Y.X.A.in1.in1).over (.compLoop (.GeneratorExp elt [⟨tg, iter, ifs, 0⟩] scope gpos) 0 (.ref it) .none (genE Y scope z)) [] = z.A := by rw [← hz]
  have hr : Room k z.A := by
    have r := ok.room.mono hk
    rw [← hz]
    have h1 : Y.X.A.depth + 3 * (k + 2) + 5 < recursionLimit := r.dp
    have h2 : Y.X.A.units + 16 * (k + 2) + 200 < cLine := r.un
    have h3 : Y.X.A.depth + 1 + 3 * k + 5 < recursionLimit := by omega
    have h4 : Y.X.A.units + 1 + 1 + 3 + 16 * k + 200 < cLine := by omega
    exact ⟨r.hd, h3, h4⟩
  have fr : z.A.frames = some (genE Y scope z :: Y.X.stack) := by
    rw [← hz]
    show pushEnvs [_] (pushEnvs [] Y.X.A.frames) = _
    rw [I3.ok.frames]
    rfl
  have I5 : Inv (genX Y scope z) [] (L2.wipe σ vs) H3 { s3 with
          gens := s3.gens.push (.fresh (.compStart (.GeneratorExp elt [⟨tg, iter, ifs, 0⟩] scope gpos) 0 (.ref it) .none (genE Y scope z))),
          toks := s3.toks + 1 + 1 + 1,
          heap := h'.push { cls := .type "generator", data := .fields #[.int s3.gens.size 0, .str "<genexpr>" (s3.toks + 1), .str (Y.X.env.qual ++ "<genexpr>") (s3.toks + 1 + 1)] } } := by
    subst hz
    exact gen_start (A := _) (m0 := fun y => if y = ".0" then some (.ref it) else none) I3 G fr hr.hd f3 (hn.push _) ⟨fun y c hm => ⟨(ce.empty y c hm).1.keeps fun b o e => Heap.get?_push_of_some _ e, (ce.empty y c hm).2⟩, ce.apart⟩ (fun b o e => Heap.get?_push_of_some _ (kp4 b o e)) (I3.bare.push rfl)
  have hzs : z.s = s3 := by rw [← hz]
  have hzH : z.H = H3 := by rw [← hz]
  have hzf : z.fp = fp := by rw [← hz]
  have hzC : z.C = s3.heap.objs.size := by rw [← hz]
  have hzc : z.code = code := by rw [← hz]
  have ea : genEnv scope (genCl Y.X.env.cells scope s3.heap.objs.size) s3.heap.objs.size (.ref code) builtinsNs Y.X.env = genE Y scope z := by rw [← hz]
  rw [ea]
  have T' : Turn Y.X.prog Y.X.w Y.X.K tg J z.fp it tn := by rw [hzf]; exact T
  have ge : s3.heap.objs.size ≤ h'.objs.size := by omega
  have ap : ∀ b : Addr, h'.objs.size ≤ b → Ap Y scope z b := fun b hb => by
    have hb' : h'.objs.size ≤ (b : Nat) := hb
    have ge2 : s3.heap.objs.size ≤ b := Nat.le_trans ge hb
    refine ⟨by rw [hzs]; exact ge2, fun q => by
      rw [hzC] at q
      exact Nat.ne_of_gt (Nat.lt_of_lt_of_le hsz hb') q, fun x c e q => ?_, fun q => ?_, fun q => ?_⟩
    · rw [hzC] at e
      rcases genCl_cases I3.ok G e with ⟨a1, _⟩ | ⟨a1, _⟩
      · have h9 := (ce.empty x c a1).1.lt
        rw [q] at h9
        exact absurd (Nat.lt_of_lt_of_le h9 hb') (Nat.lt_irrefl _)
      · obtain ⟨v, hv⟩ := I3.cell x c a1
        have h9 : c < s3.heap.objs.size := hv.lt
        rw [q] at h9
        exact absurd (Nat.lt_of_lt_of_le h9 ge2) (Nat.lt_irrefl _)
    · rw [hzf] at q
      exact absurd (Nat.lt_of_lt_of_le (sz3 _ q) ge2) (Nat.lt_irrefl _)
    · rcases List.mem_cons.mp (I3.stkSub _ q) with q | q
      · have := I3.lt
        rw [← q] at this
        exact absurd (Nat.lt_of_lt_of_le this ge2) (Nat.lt_irrefl _)
      · exact I3.nofs ge2 q
  refine hQ _ _ ⟨z, F2, s3.gens.size, e2, by rw [hzs, hzH]; exact I3, fun b hb => ?_, ⟨_, _, _, Heap.get?_push_size _ rfl, rfl, rfl, rfl⟩, fun S s6 ha hS o6 g6 k6 b6 => ?_⟩
  · rw [hzf] at hb
    obtain ⟨_, f5, _, f6, f7, f8⟩ := (f3 b hb).1
    exact ⟨f6, f5, f7, f8⟩
  have hSb : ∀ b ∈ S, h'.objs.size ≤ b := fun b hb => by
    rcases hS b hb with q | q
    · rw [q]; exact Nat.le_refl _
    · have q' : h'.objs.size + 1 ≤ (b : Nat) := by
        have := q
        rw [Heap.size_push] at this
        exact this
      exact Nat.le_trans (Nat.le_succ _) q'
  have aw : Aw [] { s3 with
          gens := s3.gens.push (.fresh (.compStart (.GeneratorExp elt [⟨tg, iter, ifs, 0⟩] scope gpos) 0 (.ref it) .none (genE Y scope z))),
          toks := s3.toks + 1 + 1 + 1,
          heap := h'.push { cls := .type "generator", data := .fields #[.int s3.gens.size 0, .str "<genexpr>" (s3.toks + 1), .str (Y.X.env.qual ++ "<genexpr>") (s3.toks + 1 + 1)] } } s6 := ⟨o6, by rw [g6]; exact I5.bare, fun b o _ e => k6 b o e, fun _ h => absurd h (by simp)⟩
  have I6 := GE.aw (S := []) (fun _ hb => absurd hb (by simp)) (fun _ hb => absurd hb (by simp)) I5 aw
  have gt : GT Y scope ow z vs s σ F2 tn S 0 s6 :=
    ⟨H3, F2, I6, T.keep 0 _ _ t2 fun b hb o e => k6 b o (Heap.get?_push_of_some _ (kp4 b o (kp3 b o (f2 b hb).1 e))), fun b hb => (f3 b (by rw [← hzf]; exact hb)).1.1, fun b hb => I3.hok.fresh (Nat.le_trans ge (hSb b hb)), b6, .refl _, ⟨S3, O3 z hzc⟩⟩
  refine ⟨fun b hb => ap b (hSb b hb), .fresh (.compStart (.GeneratorExp elt [⟨tg, iter, ifs, 0⟩] scope gpos) 0 (.ref it) .none (genE Y scope z)), ⟨_, _, _, k6 _ _ (Heap.get?_push_size _ rfl), rfl, rfl, rfl⟩, by rw [g6]; exact Array.getElem?_push_size .., gt.ge, b6, fun s7 w7 => ⟨rfl, ?_⟩⟩
  exact seg_start (gpos := gpos) L (ok.gen hr) G.co T' (fun b hb => ap b (hSb b hb)) K2 zA s7 s7 (gt.aw T' (fun b hb => ap b (hSb b hb)) w7) fun _ _ _ e => e
theorem made_back {vs : List Nat} {F0 F : Hp} {pins : List (Addr × Obj)} {z : GCx} {s6 : Shared} (e0 : Ext F0 F) (I : Inv Y.X pins σ z.H z.s) (hf : ∀ b ∈ z.fp, (b ∈ Y.X.ex ∨ Y.X.s_0.heap.objs.size ≤ b) ∧ b ≠ Y.X.env.locals ∧ (∀ x c, Y.X.env.cells.lookup x = some c → c ≠ b) ∧ ∀ p ∈ Y.X.pn ++ pins, p.1 ≠ b)
    {S : List Addr} (g : GE Y scope ow z vs s σ F S s6) : ∃ H' F', Inv Y.X pins σ H' s6 ∧ Ext F0 F' ∧ Sta Y s σ H' F' := by
  obtain ⟨H', F', I6, _, e6, S6⟩ := g
  exact ⟨H', F', I.call' (ch := z.fp) I6.os I6.base I6.hok I6.bare hf, e0.trans e6, S6.s⟩
section
variable {Q : Pv → DSt → Prop} {vs ws : List Nat} {tg elt iter : Expr} {ifs : List Expr} {g : TG} {f : β → Rho → Rho} {items : List β} {c : β → Bool} {gpos pos p : Pos}
theorem ys_bool {h : β → Bool} {i : Nat} {v : Value} (w : ∃ y, ((items.filter c).map h)[i]? = some y ∧ RelV (FlatV.z y) v) : ∃ y, ((items.filter c).map h)[i]? = some y ∧ v = .bool y := by
  obtain ⟨y, h1, h2⟩ := w
  exact ⟨y, h1, h2⟩
theorem SW.imp {prog : Program} {w : World} {A : Around} {a : Addr} {S : List Addr} {n : Nat} {St : Nat → Shared → Prop} {P P' : Nat → Value → Prop} {D : Shared → Prop} (W : SW prog w A a S n St P D) (h : ∀ i v, P i v → P' i v) : SW prog w A a S n St P' D :=
  ⟨fun i s Q E hi st k => W.item i s Q E hi st fun v s' hp st' kp => k v s' (h i v hp) st' kp, W.done, W.out⟩
theorem evp_any {h : β → Bool} (ok : YOk Y) (B : Bis Y.X.mg) (hg : Gl Y.X "any") (hk : k + 2 ≤ Y.k) (hi : EvIt Y s tg iter items) (G : GenOk Y.X.N Y.X.env.scope scope vs) (tb : TbG Y.X Y.T (Y.X.env.qual ++ "<genexpr>") gpos ow)
    (L : GTurns Y k s scope ow vs tg elt ifs g ws f items c h) (hs : ∀ x, genFold iter Y.X.env x = pure x := by intro _; rfl)
    (he : starEach [.GeneratorExp elt [⟨tg, iter, ifs, 0⟩] scope gpos] Y.X.env = (false, eval (.GeneratorExp elt [⟨tg, iter, ifs, 0⟩] scope gpos) Y.X.env) :: starEach [] Y.X.env := by rfl) :
    EvP Y s (.Call (.Name "any" p) [.GeneratorExp elt [⟨tg, iter, ifs, 0⟩] scope gpos] [] pos) (pu (((items.filter c).map h).any id)) := fun F0 σ H F e0 S => by
  refine ⟨fun pins s0 I => ?_⟩
  refine wpAny_Call_Name_kw (ld_blt I hg (B.no _ (by decide)) (show bootBuiltins "any" = some (.builtin "any") by decide +kernel) ?_)
  refine PyProof.Rows.callWith_builtin1 ?_ he (by rfl)
  rw [he]
  show wpAny _ _ (spliced ((false, eval (.GeneratorExp elt [⟨tg, iter, ifs, 0⟩] scope gpos) Y.X.env) :: backTo pos (starEach [] Y.X.env))) _ _ s0
  refine Calls.spliced_cons (gen_made ok hk hi G tb L hs e0 S I fun a s5 M => ?_)
  obtain ⟨z, F2, gn, e2, I3, hf, hgn, st⟩ := M.go
  obtain ⟨oa, _, _, hoa, _, hda, _⟩ := id hgn
  obtain ⟨_, st⟩ := st [a] s5 (List.mem_singleton.mpr rfl) (fun b hb => .inl (List.mem_singleton.mp hb)) rfl rfl (fun _ _ e => e) (fun b hb => by rw [List.mem_singleton.mp hb]; exact ⟨oa, hoa, fun v q => by rw [hda] at q; cases q⟩)
  refine Calls.spliced_nil ?_
  refine call_function_tree PySem.F.kind_any PySem.F.plain_any PySem.F.entry_any (PySem.F.args_any1 _) ?_
  unfold Builtin.«any»
  refine wpAny_bind (m := oneArg "any" _) (wpAny_pure ?_)
  refine wpAny_bind (wpAny_pyIter_gen hgn ?_)
  refine wpAny_pure ⟨plainId_quiet PySem.F.plain_any_loop _, any_go ((gen_sw (A := Y.X.A.in1) (List.mem_singleton.mpr rfl) ok.room.hd ok.room.depth).imp fun i v => ys_bool) _ 0 s5 rfl (Nat.zero_le _) st fun s6 g6 => ?_⟩
  obtain ⟨H', F', I6, e6, S6⟩ := made_back e2 I3 hf g6
  exact ⟨.bl _, H', I6, by rw [List.drop_zero]; rfl, F', e6, rfl, S6⟩
end
end
end Sp
set_option maxHeartbeats 4000000
namespace Sp
open PySem L2
open PySem.W (Datum DatumOrd SomeDatum)
def SumOk (ys : List Int) : Prop := ∀ j : Nat, j < ys.length → InLong (ys.getD j 0) ∧ InLong ((ys.take (j + 1)).sum)
theorem sumOk_small {ys : List Int} (hx : ∀ x ∈ ys, -(2 ^ 40) ≤ x ∧ x ≤ 2 ^ 40) (hn : ys.length ≤ 2 ^ 20) : SumOk ys := PyProof.Rows.sumFits_small hx hn
section
variable {prog : Program} {w : World} {A : Around} {a T0 : Addr} {S : List Addr} {St : Nat → Shared → Prop} {D : Shared → Prop} {R : Result → Shared → Prop}
theorem sum_go {ys : List Int} (hT : T0 ∈ S) (W : SW prog w A.in1 a S ys.length St (fun i v => ∃ y, ys[i]? = some y ∧ RelV (V.int y) v) D) (hfit : SumOk ys)
    (up : ∀ i s x c tk, St i s → s.heap.get? T0 = some { cls := .type "list", dict := none, data := .seq x c, slots := #[] } → ∀ f, St i { s with heap := s.heap.update T0 (Obj.mapSeq f), toks := tk }) :
    ∀ (k i : Nat) (s : Shared) (tot : Int) (tA : Tok) (c : Nat), tot = (ys.take i).sum → ys.length - i = k → i ≤ ys.length → St i s → s.heap.get? T0 = some { cls := .type "list", dict := none, data := .seq #[.int tot tA] c, slots := #[] } →
    (∀ s' t', D s' → R (.ok (.ret (.int ys.sum t'))) s') → codeAny (model prog w) A (.builtin "sum.loop" ⟨[.ref a, .ref T0, rawInt 0, rawInt 0], []⟩) R s := by
  intro k
  induction k with
  | zero =>
    intro i s tot tA c htot hk hi hst hS hR
    subst htot
    obtain rfl : i = ys.length := by omega
    rw [List.take_length] at hS
    refine codeAny_builtin F.entry_sum_loop ?_
    rw [Around.under_plainId F.plain_sum_loop _]
    show wpAny _ A.in1 (seqItems? (.ref T0) >>= _) _ _ s
    refine wpAny_bind (wpAny_seqItems hS rfl ?_)
    show wpAny _ A.in1 (tryCatch (pyNext (.ref a)) _ >>= _) _ _ s
    exact wpAny_bind (wpAny_tryCatch (W.done s _ _ hst fun s' hm => wpAny_pure (hR s' tA hm)))
  | succ k ih =>
    intro i s tot tA c htot hk hi hst hS hR
    subst htot
    have hlt : i < ys.length := by omega
    refine codeAny_builtin F.entry_sum_loop ?_
    rw [Around.under_plainId F.plain_sum_loop _]
    show wpAny _ A.in1 (seqItems? (.ref T0) >>= _) _ _ s
    refine wpAny_bind (wpAny_seqItems hS rfl ?_)
    show wpAny _ A.in1 (tryCatch (pyNext (.ref a)) _ >>= _) _ _ s
    refine wpAny_bind (wpAny_tryCatch (W.item i s _ _ hlt hst fun v s' ⟨y, hy, t, ev⟩ hst' kp => ?_))
    subst ev
    have hS' := kp T0 hT _ hS
    obtain ⟨⟨f1, f2⟩, f3, f4⟩ := hfit i hlt
    have e1 : ys.getD i 0 = y := by rw [List.getD_eq_getElem?_getD, hy]; rfl
    have e2 : (ys.take (i + 1)).sum = (ys.take i).sum + y := by rw [List.take_add_one, hy, Option.toList_some, List.sum_append]; simp
    rw [e1] at f1 f2
    rw [e2] at f3 f4
    have hc : ((decide (-(2 ^ 63) ≤ y) && decide (y < 2 ^ 63)) && (decide (-(2 ^ 63) ≤ (ys.take i).sum + y) && decide ((ys.take i).sum + y < 2 ^ 63))) = true := by
      simp only [Bool.and_eq_true, decide_eq_true_eq]
      exact ⟨⟨f1, f2⟩, f3, f4⟩
    show wpAny _ A.in1 (if (_ : Bool) = true then (mkInt ((ys.take i).sum + y) >>= _) else _) _ _ _
    split
    · refine wpAny_bind (wpAny_mkInt ?_)
      show wpAny _ A.in1 (updateSeq T0 (fun _ => #[.int ((ys.take i).sum + y) s'.toks]) >>= _) _ _ _
      refine wpAny_bind (wpAny_updateSeq hS' rfl (wpAny_pure ⟨plainId_quiet F.plain_sum_loop _, ih (i + 1) _ _ s'.toks _ e2.symm (by omega) hlt (up _ s' _ _ _ hst' hS' _) (Heap.get?_update_self _ hS' rfl) hR⟩))
    · rename_i hneg
      exact absurd hc hneg
end
section
variable {Y : DX} {k : Nat} {scope : Scope} {ow : Ow} {s : DSt} {σ : St} {β : Type} [Enc β]
variable {vs ws : List Nat} {tg elt iter : Expr} {ifs : List Expr} {g : TG} {f : β → Rho → Rho} {items : List β} {c : β → Bool} {gpos pos p : Pos}
theorem evp_sumG {h : β → Int} (ok : YOk Y) (B : Bis Y.X.mg) (hg : Gl Y.X "sum") (hk : k + 2 ≤ Y.k) (hi : EvIt Y s tg iter items) (G : GenOk Y.X.N Y.X.env.scope scope vs) (tb : TbG Y.X Y.T (Y.X.env.qual ++ "<genexpr>") gpos ow)
    (L : GTurns Y k s scope ow vs tg elt ifs g ws f items c h) (hfit : SumOk ((items.filter c).map h)) (hs : ∀ x, genFold iter Y.X.env x = pure x := by intro _; rfl)
    (he : starEach [.GeneratorExp elt [⟨tg, iter, ifs, 0⟩] scope gpos] Y.X.env = (false, eval (.GeneratorExp elt [⟨tg, iter, ifs, 0⟩] scope gpos) Y.X.env) :: starEach [] Y.X.env := by rfl) :
    EvP Y s (.Call (.Name "sum" p) [.GeneratorExp elt [⟨tg, iter, ifs, 0⟩] scope gpos] [] pos) (pu ((items.filter c).map h).sum) := fun F0 σ H F e0 S => by
  refine ⟨fun pins s0 I => ?_⟩
  refine wpAny_Call_Name_kw (ld_blt I hg (B.no _ (by decide)) PyProof.Rows.boot_sum ?_)
  refine PyProof.Rows.callWith_builtin1 ?_ he (by rfl)
  rw [he]
  show wpAny _ _ (spliced ((false, eval (.GeneratorExp elt [⟨tg, iter, ifs, 0⟩] scope gpos) Y.X.env) :: backTo pos (starEach [] Y.X.env))) _ _ s0
  refine Calls.spliced_cons (gen_made ok hk hi G tb L hs e0 S I fun a s5 M => ?_)
  obtain ⟨z, F2, gn, e2, I3, hf, hgn, st⟩ := M.go
  obtain ⟨oa, _, _, hoa, _, hda, _⟩ := id hgn
  refine Calls.spliced_nil ?_
  refine call_function_tree PySem.F.kind_sum PySem.F.plain_sum PySem.F.entry_sum (PySem.F.args_sum1 _) ?_
  unfold Builtin.«sum»
  simp only [List.length_cons, List.length_nil]
  rw [if_neg (by decide)]
  refine wpAny_bind (wpAny_of_eq (show Builtin.Builtins.bindParams "sum" ["start"] 0 { } = pure [none] from rfl) ?_)
  refine wpAny_bind (wpAny_pyIter_gen hgn ?_)
  refine wpAny_bind (wpAny_mkInt (wpAny_bind (wpAny_pure ?_)))
  simp only [List.forIn_cons, List.forIn_nil]
  refine wpAny_bind (wpAny_bind (wpAny_bind (wpAny_isInstance (T := "int") (b := false) (typeIs_int _ _ _) PySem.F.sub_int_str ?_)))
  simp only [Bool.false_eq_true, if_false]
  refine wpAny_pure (wpAny_bind (wpAny_bind (wpAny_isInstance (T := "int") (b := false) (typeIs_int _ _ _) PySem.F.sub_int_bytes ?_)))
  simp only [Bool.false_eq_true, if_false]
  refine wpAny_pure (wpAny_bind (wpAny_bind (wpAny_isInstance (T := "int") (b := false) (typeIs_int _ _ _) PySem.F.sub_int_bytearray ?_)))
  simp only [Bool.false_eq_true, if_false]
  refine wpAny_pure (wpAny_pure (wpAny_bind (wpAny_newObj_type ?_)))
  generalize hs6 : ({ s5 with toks := s5.toks + 1, heap := s5.heap.push { cls := .type "list", data := .seq #[.int 0 s5.toks] } } : Shared) = s6
  have kp6 : ∀ b o, s5.heap.get? b = some o → s6.heap.get? b = some o := fun b o e => by rw [← hs6]; exact Heap.get?_push_of_some _ e
  have hT6 : s6.heap.get? s5.heap.objs.size = some { cls := .type "list", data := .seq #[.int 0 s5.toks] } := by rw [← hs6]; exact Heap.get?_push_size _ rfl
  have hal : a < s5.heap.objs.size := Heap.lt_size hoa
  obtain ⟨ap, st6⟩ := st [a, s5.heap.objs.size] s6 (by simp) (fun b hb => by
    rcases List.mem_cons.mp hb with q | q
    · exact .inl q
    · exact .inr (by rw [List.mem_singleton.mp q]; exact Nat.le_refl _)) (by rw [← hs6]) (by rw [← hs6]) kp6 (fun b hb => by
    rcases List.mem_cons.mp hb with q | q
    · exact ⟨oa, by rw [q]; exact kp6 _ _ hoa, fun v q => by rw [hda] at q; cases q⟩
    · exact ⟨_, by rw [List.mem_singleton.mp q]; exact hT6, fun v q => by cases q⟩)
  refine wpAny_pure ⟨plainId_quiet PySem.F.plain_sum_loop _, sum_go (A := Y.X.A) (T0 := s5.heap.objs.size) (S := [a, s5.heap.objs.size]) (by simp) ((gen_sw (A := Y.X.A.in1) (by simp) ok.room.hd ok.room.depth)) hfit (fun i s7 x c7 tk st7 h7 f => ?_) _ 0 s6 0 s5.toks 0 (by simp) rfl (Nat.zero_le _) st6 hT6 fun s8 t8 g8 => ?_⟩
  · obtain ⟨gs, q1, q2, q3, q4, q5⟩ := id st7
    refine st7.aw ap ⟨rfl, q3.bare, fun b o hb e => ?_, fun b hb => ?_⟩ rfl fun o e => ?_
    · exact (Heap.get?_update_other _ _ (fun q => hb (by rw [← q]; simp))).trans e
    · by_cases q : b = s5.heap.objs.size
      · rw [q]
        exact ⟨_, Heap.get?_update_self _ h7 rfl, fun v q => by cases q⟩
      · obtain ⟨o, e, hc⟩ := q4 b hb
        exact ⟨o, (Heap.get?_update_other _ _ (Ne.symm q)).trans e, hc⟩
    · exact (Heap.get?_update_other _ _ (Nat.ne_of_gt hal)).trans e
  · obtain ⟨H', F', I6, e6, S6⟩ := made_back e2 I3 hf g8
    exact ⟨.int _, H', I6, ⟨_, rfl⟩, F', e6, rfl, S6⟩
end
end Sp
set_option maxHeartbeats 4000000
namespace Sp
open PySem L2
abbrev TQ := List (He.Defn × Tk)
def tbOf (K : Frag) (tq : TQ) : Tb := tq.map fun p => ((He.cT K p.1).2, p.2)
structure LK (w : World) (K : Frag) (mg : Str → Option Value) (base : Heap) (fa : List He.Fa) (fn : List He.DefD) (tq : TQ) : Prop where
  d : He.SaysD fa fn K
  X : K.In base
  G : base.Ns mainGlobals mg
  tb : ∀ p ∈ tq, LamX.TabB base mg (He.cT K p.1).1 (He.cT K p.1).2
  nd : (tq.map fun p => (He.cT K p.1).2).Nodup
section
variable {P : Program} {w : World} {K : Frag} {mg : Str → Option Value} {base : Heap} {fa : List He.Fa} {fn : List He.DefD} {tq : TQ}
structure Fd (K : Frag) (d : He.DefD) (ps : List Str) (fd : FuncData) : Prop where
  F : FunD K d.name d.qual d.params d.body d.scope [] [] (He.fAd K d.at_) fd
  b : Binds K fd ps []
theorem nd_map {α β : Type} {f : α → β} : ∀ {l : List α}, (l.map f).Nodup → ∀ {a b : α}, a ∈ l → b ∈ l → f a = f b → a = b
  | [], _, _, _, h, _, _ => by cases h
  | x :: l, n, a, b, ha, hb, e => by
    rw [List.map_cons, List.nodup_cons] at n
    rcases List.mem_cons.mp ha with ha' | ha'
    · rcases List.mem_cons.mp hb with hb' | hb'
      · rw [ha', hb']
      · rw [ha'] at e
        exact absurd (by rw [e]; exact List.mem_map_of_mem hb') n.1
    · rcases List.mem_cons.mp hb with hb' | hb'
      · rw [hb'] at e
        exact absurd (by rw [← e]; exact List.mem_map_of_mem ha') n.1
      · exact nd_map n.2 ha' hb' e
theorem df_ok {k : Nat} {N ps : List Str} {d : He.DefD} {fd : FuncData} (L : LK w K mg base fa fn tq) (F1 : Fd K d ps fd) (S : FnScope N ps d.scope) (dd : DSp) (hl : ∀ As gs R E, dd As gs R E → As.length = ps.length)
    (body : ∀ (cdv : Value) (A : Around) (outer : List Env) (s : Shared) (H F : Hp) (gs : Gs) (E : XK) (ex : Exc → DSt → Prop) (As : List Pv) (R : Pv → Gs → Prop) (X : Exc → Gs → Prop), dd As gs R X → (∀ e s', (∃ n, X e (s'.gs.drop n)) → ex e s') →
      (∀ q, (d.at_, q) ∈ tq → Tbl (bodyY P w K mg base (tbOf K tq) k N d.qual d.scope (He.fAd K d.at_) cdv A outer s H F gs E ex).X (tbOf K tq) q) →
      YOk (bodyY P w K mg base (tbOf K tq) k N d.qual d.scope (He.fAd K d.at_) cdv A outer s H F gs E ex) →
      Ws (bodyY P w K mg base (tbOf K tq) k N d.qual d.scope (He.fAd K d.at_) cdv A outer s H F gs E ex) ⟨As.map some ++ List.replicate (N.length - ps.length) none, gs⟩ d.body { nx := fun s' => ∃ n, R (pu ()) (s'.gs.drop n), rt := fun A s' => ∃ n, R A (s'.gs.drop n) }) :
    FnOk P w K mg base (L2.CX P w) (k + 1) (He.fAd K d.at_) fd ps (toSp K (tbOf K tq) ps.length dd) := by
  obtain ⟨oc, od, dV, kV, doc, pm, an, cdv, ct, osl, rfl, lk, hcd, _, _⟩ := F1.F.ex
  obtain ⟨c, rfl⟩ := He.codeIn_ref hcd
  have ec : He.codeOf K d.at_ = c := He.codeOf_eq lk rfl
  refine fn_of lk hcd S (fun vs H Q E h => h.1) fun A outer s H vs Q E hr h => ?_
  obtain ⟨hn, As, gs, F, r, G, hd⟩ := h
  have hAl := hl _ _ _ _ hd
  let Y : DX := bodyY P w K mg base (tbOf K tq) k N d.qual d.scope (He.fAd K d.at_) (.ref c) A outer s H F gs E (fun e s' => ∀ cls dd H' F', ExcRep e cls dd H' → Stg K (tbOf K tq) s'.gs H' F' → Step H F (ads gs) H' F' (ads s'.gs) → E cls dd H')
  have tk0 : Takes Y.X (fun cls d _ H => E cls d H) := takes_of rfl rfl rfl rfl
  have ok : YOk Y := ⟨rfl, S.nd, hr, passes_of rfl, tk0.imp fun c d' σ H' ⟨e, s', F', St, er, q⟩ => q c d' H' F' er St.stg St.st⟩
  have tbl : ∀ q, (d.at_, q) ∈ tq → Tbl Y.X (tbOf K tq) q := fun q hq => by
    have h1 := L.tb _ hq
    have e1 : (He.cT K d.at_).1 = c := ec
    refine ⟨c, (He.cT K d.at_).2, by rw [← e1]; exact h1, rfl, List.mem_map.mpr ⟨_, hq, rfl⟩, fun p hp e => ?_⟩
    obtain ⟨z, hz, ez⟩ := List.mem_map.mp hp
    subst ez
    have := nd_map L.nd hz hq e
    rw [this]
  have b := body (.ref c) A outer s H F gs E _ As _ _ hd (fun e s' ⟨n, q⟩ cls dd H' F' r G' t' => q cls dd H' F' r (G'.drop n) (t'.sub (ads_drop n))) tbl ok
  refine ⟨_, pss_ws, ?_⟩
  have S0 : Sta Y ⟨As.map some ++ List.replicate (N.length - ps.length) none, gs⟩ (L2.start N vs) H F := by
    refine ⟨G.ext, G.ntb, ?_, G.own, G.nd, G.tb, Step.refl⟩
    unfold L2.start
    rw [hn]
    exact reps_start r _
  refine (b F (L2.start N vs) H F (.refl _) S0).mono (fun σ' H' ⟨s', F', e1, S', q⟩ => ?_) (fun v H' ⟨A', s', σ', F', e1, r', S', q⟩ => ?_) (fun σ' H' ⟨s', F', e1, S', q⟩ => q.elim) (fun σ' H' ⟨s', F', e1, S', q⟩ => q.elim)
  · obtain ⟨n, q⟩ := q
    exact q .non H' F' rfl (S'.stg.drop n) (S'.st.sub (ads_drop n))
  · obtain ⟨n, q⟩ := q
    exact q v H' F' r' (S'.stg.drop n) (S'.st.sub (ads_drop n))
theorem LK.fd (c : He.SaysD fa fn K) (i : Nat) {d : He.DefD} (ps : List Str) (h : fn[i]? = some d := by rfl)
    (hb : ∀ (kV doc pm : Value) (an : Option Addr) (cdv ct : Value) (us : List Value), us.length = ps.length → bindArgs (PySem.W.fnOf d.name d.qual d.params d.body d.scope .none kV doc pm an cdv ct) ⟨us, []⟩ = pure (ps.zip us)) (h0 : ∀ K, d.dvs K = [] := by intro _; rfl) (h1 : ∀ K, d.kws K = [] := by intro _; rfl) : ∃ fd, Fd K d ps fd := by
  obtain ⟨fd, F⟩ := c.def_ i h
  rw [h0, h1] at F
  exact ⟨fd, F, F.bindsN hb⟩
theorem LK.df {k : Nat} {x : Str} {d : He.DefD} {ps : List Str} {fd : FuncData} {dd : DSp} (L : LK w K mg base fa fn tq) (F1 : Fd K d ps fd) (h : FnOk P w K mg base (L2.CX P w) k (He.fAd K d.at_) fd ps (toSp K (tbOf K tq) ps.length dd)) (m : DMono dd) (i : Nat) (hi : fa[i]? = some (.glo x) := by rfl) (hx : d.at_ = (x, none) := by rfl) : Df P w K mg base (tbOf K tq) k x ps dd := by
  have g := He.glo_ok L.X L.G (L.d.fact i hi)
  have e : He.fAd K d.at_ = He.ga K x := by rw [hx]; rfl
  exact ⟨⟨_, fd, h, by rw [e]; exact g, F1.F.kp, F1.b⟩, m⟩
theorem LK.mt {k : Nat} {x m : Str} {d : He.DefD} {ps : List Str} {fd : FuncData} {dd : DSp} (L : LK w K mg base fa fn tq) (F1 : Fd K d ps fd) (h : FnOk P w K mg base (L2.CX P w) k (He.fAd K d.at_) fd ps (toSp K (tbOf K tq) ps.length dd)) (mo : DMono dd) (i : Nat) (hi : fa[i]? = some (.meth x m) := by rfl) (hx : d.at_ = (x, some m) := by rfl) : Mt P w K mg base (tbOf K tq) k (He.ga K x) m ps dd := by
  have g := He.meth_ok (L.d.fact i hi)
  have e : He.fAd K d.at_ = He.ma K (He.ga K x) m := by rw [hx]; rfl
  exact ⟨⟨_, fd, h, by rw [e]; exact g, F1.b⟩, mo⟩
theorem LK.mkr {k : Nat} {x : Str} {d : He.DefD} {ps : List Str} {fd : FuncData} {dd : DSp} (L : LK w K mg base fa fn tq) (F1 : Fd K d ps fd) (h : FnOk P w K mg base (L2.CX P w) k (He.fAd K d.at_) fd ps (toSp K (tbOf K tq) ps.length dd)) (mo : DMono dd) (i j : Nat) (hi : fa[i]? = some (.mkr x) := by rfl) (hj : fa[j]? = some (.glo x) := by rfl) (hx : d.at_ = (x, some ("__init__" : Str)) := by rfl) : Mkr P w K mg base (tbOf K tq) k x (He.ga K x) ps dd := by
  have g := He.mkr_ok (L.d.fact i hi)
  have e : He.fAd K d.at_ = He.ma K (He.ga K x) "__init__" := by rw [hx]; rfl
  exact ⟨⟨_, fd, h, by rw [e]; exact g, F1.b⟩, He.glo_ok L.X L.G (L.d.fact j hj), mo⟩
theorem LK.err {x : Str} (L : LK w K mg base fa fn tq) (i j : Nat) (hi : fa[i]? = some (.exc x) := by rfl) (hj : fa[j]? = some (.glo x) := by rfl) : ErrC K mg x (He.ga K x) := by
  obtain ⟨h1, h2, h3, h4⟩ := He.exc_ok (L.d.fact i hi)
  exact ⟨He.glo_ok L.X L.G (L.d.fact j hj), h1, h2, h3, h4⟩
def noTb (H : Hp) : Hp := fun b => match H b with
  | some o => (match isTbl o with
    | true => none
    | false => some o)
  | none => none
theorem noTb_some {H : Hp} {b : Addr} {o : HO} (h : noTb H b = some o) : H b = some o ∧ isTbl o = false := by
  unfold noTb at h
  cases q : H b with
  | none => rw [q] at h; cases h
  | some u =>
    rw [q] at h
    cases t : isTbl u with
    | true =>
      simp only [t] at h
      cases h
    | false =>
      simp only [t] at h
      cases h
      exact ⟨rfl, t⟩
theorem noTb_of {H : Hp} {b : Addr} {o : HO} (h : H b = some o) (t : isTbl o = false) : noTb H b = some o := by
  unfold noTb
  rw [h]
  simp only [t]
theorem law_end {l : PySem.W.OpenLaw} {n k : Nat} {h : Heap} {x : Str} {fA : Addr} {ts : List He.Tab} {ex : Frag → Bool} {d : He.DefD} {fd : FuncData} {dd : DSp}
    (KX : K.In h) (c : He.SaysX fa fn ts (tq.map (·.1)) ex w h K) (nd : (tq.map fun p => (He.cT K p.1).2).Nodup)
    (F1 : Fd K d [x] fd) (hf : He.fAd K d.at_ = fA) (hb : ∀ (kV doc pm : Value) (an : Option Addr) (cdv ct : Value) (us : List Value), us.length = [x].length → bindArgs (PySem.W.fnOf d.name d.qual d.params d.body d.scope .none kV doc pm an cdv ct) ⟨us, []⟩ = pure ([x].zip us))
    (m : DMono dd) (hd : ∀ ns : List Int, ns.length ≤ n → (∀ z ∈ ns, Builtin.Int.intBits z ≤ 1048576) → dd [pu ns] [] (fun A _ => A = pu true) fun _ _ => False)
    (F : ∀ base : Heap, LK w K mg base fa fn tq → FnOk l.prog w K mg base (L2.CX l.prog w) k (He.fAd K d.at_) fd [x] (toSp K (tbOf K tq) 1 dd)) (ho : (tq.all fun p => match p.2 with | .own => false | _ => true) = true := by rfl) :
    LamX.LawAtS l w K (L2.CX l.prog w) k n x mg fA h := by
  subst hf
  refine ⟨fd, (tq.map (·.1)).map (He.cT K), _, fun p hp => ?_, fun p hp => ?_, fun p hp => ?_, fun s u => ?_, fun H a ns hl hbits hT hS => ?_, fun base KB GB TB => F base ⟨c.t.d, KB, GB, fun p hp => TB _ ?_, nd⟩⟩
  · obtain ⟨q, hq, e⟩ := List.mem_map.mp hp
    subst e
    exact c.empty q hq
  · obtain ⟨q, hq, e⟩ := List.mem_map.mp hp
    subst e
    exact c.out q hq
  · obtain ⟨q, hq, e⟩ := List.mem_map.mp hp
    subst e
    exact PySem.W.codeHd_of_K KX (c.hd q hq)
  · exact F1.F.bindsA hb s [u] rfl
  · refine ⟨rfl, [pu ns], [], noTb H, .cons ?_ .nil, ⟨fun b o e => (noTb_some e).1, fun b o e => (noTb_some e).2, fun p hp => (by cases hp), .nil, fun p hp => ?_⟩, ?_⟩
    · refine ⟨a, ns.map V.int, rfl, ?_, ?_⟩
      · rcases hS with hS | q
        · rcases hS with q | ⟨o, q⟩
          · exact .inl (.inl (noTb_of q rfl))
          · exact .inl (.inr ⟨o, noTb_of q rfl⟩)
        · exact .inr q
      · show Paired _ _ _
        clear hd hl hbits hS
        induction ns with
        | nil => exact .nil
        | cons z ns ih => exact .cons rfl ih
    · obtain ⟨q, hq, e⟩ := List.mem_map.mp hp
      subst e
      have h0 : H (He.cT K q.1).2 = some (.tbl #[]) := hT (He.cT K q.1) (List.mem_map.mpr ⟨q.1, List.mem_map.mpr ⟨q, hq, rfl⟩, rfl⟩)
      have hk := List.all_eq_true.mp ho q hq
      obtain ⟨d, k⟩ := q
      cases k with
      | plain z => exact LamX.TabS.nil h0
      | nest z9 => exact ⟨#[], h0, trivial, fun pos cv h => by
          have h : codeAmong pos [] = some cv := h
          cases h⟩
      | own => cases hk
      | mix ls z => exact ⟨#[], h0, trivial, fun pos cv h => by
          have h : codeAmong pos [] = some cv := h
          cases h⟩
    · exact m _ _ _ _ _ _ (fun A g e v H' F' r _ _ => by subst e; exact r) (fun e g z => z.elim) (hd ns hl hbits)
  · exact List.mem_map.mpr ⟨p.1, List.mem_map.mpr ⟨p, hp, rfl⟩, rfl⟩
end
end Sp
set_option maxHeartbeats 4000000
namespace Sp
open PySem L2
section
variable {Y : DX} {s : DSt} {e a b c d o : Expr} {es : List Expr} {pos p apos : Pos} {Q : Pv → DSt → Prop} {D : DE} {A B : Pv}
theorem w1_lput {α : Type} [Enc α] {q : Addr} {p2 : Pos} (i : Nat)
    (hv : Ev Y s e fun X s1 => ∃ (x : α) (xs : List α) (k : Int) (j : Nat), X = pu x ∧ s1.gs[i]? = some (q, lstc xs) ∧ EvP Y s1 a (raw (.ref q)) ∧ EvP Y s1 b (pu k) ∧ ixN xs.length k = some j ∧ D.nx ⟨s1.ρ, s1.gs.set i (q, lstc (xs.set j x))⟩)
    (hs : swapsWithSole [Expr.Subscript a b p2] e pos.line Y.X.env = pure false := by rfl) (hw : swappedStores [Expr.Subscript a b p2] e Y.X.env = pure none := by rfl) (h1 : (assignEach [Expr.Subscript a b p2] Y.X.env).map (·.2) = [assign (Expr.Subscript a b p2) Y.X.env] := by rfl)
    (ha : ∀ v, assign (.Subscript a b p2) Y.X.env v = (do
      let ov ← holding [v] (eval a Y.X.env)
      let iv ← holding [v, ov] (eval b Y.X.env)
      standAt p2
      holding [v, ov, iv] (setItem ov iv v)
      release [v, ov, iv] []) := by intro _; rfl) : W1 Y s (.Assign [.Subscript a b p2] e pos) D := fun F0 σ H F e0 S => by
  refine .of (ps_asg pe_we (pg_sub pe_we pe_we set_list ha) hs hw h1) ?_
  refine (hv F σ H F (.refl _) S).mono fun v H1 ⟨X, s1, F1, e1, r1, S1, x, xs, k, j, ex, hi, ho, hb, hj, k1⟩ => ?_
  subst ex
  refine (ho F1 σ H1 F1 (.refl _) S1).mono fun u H2 ⟨F2, e2, r2, S2⟩ => ?_
  refine (hb F2 σ H2 F2 (.refl _) S2).mono fun w H3 ⟨F3, e3, r3, S3⟩ => ?_
  obtain ⟨hF, oo, hoo, _, zs, eo, rv⟩ := S3.cell hi
  subst eo
  refine ⟨q, zs, k, j, r2, r3, hoo, by rw [show zs.length = xs.length from Paired.length rv]; exact hj, _, F3, ((e0.trans e1).trans e2).trans e3, ?_, k1⟩
  exact S3.write (c' := lstc (xs.set j x)) hi hoo (not_codeL rfl) rfl ⟨_, rfl, prd_set rv (Enc.mono (α := α) r1 (e2.trans e3)) j⟩
theorem evp_int1 {i : Int} (T : Bis Y.X.mg) (hg : Gl Y.X "int") (ha : EvP Y s a (pu i)) (he : starEach [a] Y.X.env = (false, eval a Y.X.env) :: starEach [] Y.X.env := by rfl) : EvP Y s (.Call (.Name "int" p) [a] [] pos) (pu i) :=
  evp_T1 call_int1 hg (T.no _ (by decide)) PySem.Pv.boot_int ha (fun F0 σ H F v e0 S h1 => .inl ⟨i, by cases h1; rfl, F, e0, rfl, S⟩) (by decide) (by decide) he
theorem evp_intB {x : Bool} (T : Bis Y.X.mg) (hg : Gl Y.X "int") (ha : EvP Y s a (pu x)) (he : starEach [a] Y.X.env = (false, eval a Y.X.env) :: starEach [] Y.X.env := by rfl) : EvP Y s (.Call (.Name "int" p) [a] [] pos) (pu (if x = true then (1 : Int) else 0)) :=
  evp_T1 call_int1 hg (T.no _ (by decide)) PySem.Pv.boot_int ha (fun F0 σ H F v e0 S h1 => .inr ⟨x, by cases h1; rfl, F, e0, rfl, S⟩) (by decide) (by decide) he
theorem etp_ltlt {i j k : Int} (ha : EvP Y s a (pu i)) (hb : EvP Y s b (pu j)) (hc : EvP Y s c (pu k)) (hm : lastMarks [.Lt, .Lt] [b, c] = false := by with_unfolding_all rfl) : EtP Y s (.Compare a [.Lt, .Lt] [b, c] pos) (decide (i < j) && decide (j < k)) := fun F0 σ H F e0 S => by
  refine .of (pt_chain op_lt op_lt pe_we pe_we pe_we hm) ?_
  refine (ha F0 σ H F e0 S).mono fun v H1 ⟨F1, e1, r1, S1⟩ => ?_
  refine (hb F1 σ H1 F1 (.refl _) S1).mono fun u H2 ⟨F2, e2, r2, S2⟩ => ?_
  refine ⟨i, j, r1, r2, _, rfl, ?_⟩
  by_cases h : i < j
  · rw [if_pos (decide_eq_true h)]
    refine (hc F2 σ H2 F2 (.refl _) S2).mono fun w H3 ⟨F3, e3, r3, S3⟩ => ?_
    exact ⟨j, k, r2, r3, _, rfl, by simp [h], F3, ((e1.trans e2).trans e3), S3⟩
  · rw [if_neg (by simpa using h)]
    exact ⟨false, rfl, by simp [h], F2, e1.trans e2, S2⟩
theorem ev_perm (h : Ev Y s e fun A s' => ∃ gs', s'.gs.Perm gs' ∧ Q A ⟨s'.ρ, gs'⟩) : Ev Y s e Q := fun F0 σ H F e0 S => (h F0 σ H F e0 S).mono fun v H1 ⟨A, s1, F1, e1, r1, S1, gs', hp, q⟩ => ⟨A, _, F1, e1, r1, S1.perm hp, q⟩
end
end Sp
set_option maxHeartbeats 4000000
namespace Sp
open PySem L2
section
variable {Y : DX} {s : DSt} {e a b c d o tg iter elt : Expr} {es ifs : List Expr} {pos p apos : Pos} {Q : Pv → DSt → Prop} {D : DE} {A B : Pv} {scope : Scope} {own : List (Str × Nat)}
variable {α β : Type} [Enc α] [Enc β]
def EvItE (Y : DX) (s : DSt) (tg iter : Expr) {β : Type} [Enc β] (G : List β → DSt → Prop) : Prop :=
  ∃ wi, PI Y.X tg iter wi ∧ ∀ F0 σ H F (R : It → Hp → Prop), Ext F0 F → Sta Y s σ H F → (∀ J H' F' items s', Ext F0 F' → Sta Y s' σ H' F' → ItOk Y.X.K J F' items → G items s' → R J H') → wi σ H R
theorem it_listE {G : List α → DSt → Prop} (h : Ev Y s iter fun A s' => ∃ xs : List α, A = pu xs ∧ G xs s') : EvItE Y s tg iter G :=
  ⟨_, pi_list pe_we, fun F0 σ H F R e0 S k => (h F0 σ H F e0 S).mono fun v H' ⟨A, s', F', e1, r, S', xs, ea, q⟩ => by
    subst ea
    obtain ⟨p, vs, ev, hq, rv⟩ := r
    exact ⟨p, ev, ⟨vs, sqL_ext hq S'.ext⟩, k _ _ F' xs s' e1 S' (fun i H2 F2 e2 e3 => ⟨fun x hx => by
      have hq2 := sqL_ext (sqL_ext hq e2) e3
      obtain ⟨w, hw, rw'⟩ := prd_get rv hx
      exact ⟨⟨vs, w, hq2, hw⟩, fun v H3 ⟨eh, hv⟩ => .inl ⟨eh, by
        have := hv vs hq2
        rw [hw] at this
        cases this
        exact Enc.mono rw' e2⟩⟩, fun hl => ⟨vs, sqL_ext (sqL_ext hq e2) e3, by rw [rv.length]; exact hl⟩⟩) q⟩⟩
theorem w1_forE {body : List Stmt} {g : TG} {ws : List Nat} {f : β → Rho → Rho} {G : List β → DSt → Prop} (ok : YOk Y) (hi : EvItE Y s tg iter G) (hg : TgOk Y tg g ws f)
    (h : ∀ items s', G items s' → ∃ Iv : Nat → DSt → Prop, Iv 0 s' ∧ (∀ i x s2, items[i]? = some x → Iv i s2 → Ws Y ⟨f x s2.ρ, s2.gs⟩ body { D with nx := Iv (i + 1), ct := Iv (i + 1), bk := D.nx }) ∧ ∀ s2, Iv items.length s2 → D.nx s2)
    (hs : ∀ x, foldedSetIterable iter Y.X.env x = pure x := by intro _; rfl) : W1 Y s (.For tg iter body [] pos) D := fun F0 σ H F e0 S => by
  obtain ⟨wi, hp, hw⟩ := hi
  refine .of (ps_for ok.pass ok.calm hp hg.1 pss_ws hs) ?_
  refine hw F0 σ H F _ e0 S fun J H1 F1 items s' e1 S1 K1 q => ?_
  obtain ⟨Iv, h0, hstep, hd⟩ := h items s' q
  refine ⟨fun i m σ H => m = items.length - i ∧ i ≤ items.length ∧ ∃ s2 F2, Ext F1 F2 ∧ Sta Y s2 σ H F2 ∧ Iv i s2, ⟨items.length, rfl, Nat.zero_le _, s', F1, .refl _, S1, h0⟩, ?_⟩
  rintro i m σ2 H2 ⟨rfl, hi, s2, F2, e2, S2, iv⟩
  by_cases hlt : i < items.length
  · have hx : items[i]? = some items[i] := List.getElem?_eq_getElem hlt
    refine .inr ⟨((K1 i H2 F2 e2 S2.ext).1 _ hx).1, fun σ' H' => ∃ s3 F3, Ext F1 F3 ∧ Sta Y s3 σ' H' F3 ∧ Iv (i + 1) s3, fun σ' H' ⟨s3, F3, e3, S3, iv3⟩ => ⟨items.length - (i + 1), by omega, rfl, hlt, s3, F3, e3, S3, iv3⟩, fun v H3 y => ?_⟩
    obtain ⟨F3, e3, S3, r3⟩ := K1.yld e2 S2 hx y
    refine hg.2 σ2 H3 F3 v _ s2 _ S3 r3 fun σ4 S4 _ => ?_
    have e9 := (e1.trans e2).trans e3
    exact (hstep i _ s2 hx iv F3 σ4 H3 F3 (.refl _) S4).mono (fun σ' H' ⟨s5, F5, e5, S5, q⟩ => ⟨s5, F5, (e2.trans e3).trans e5, S5, q⟩) (fun v H' q => q.mono e9 fun _ _ h => h)
      (fun σ' H' q => q.mono e9 fun _ h => h) (fun σ' H' ⟨s5, F5, e5, S5, q⟩ => ⟨s5, F5, (e2.trans e3).trans e5, S5, q⟩)
  · have e : i = items.length := by omega
    subst e
    exact .inl ⟨(K1 _ H2 F2 e2 S2.ext).2 (Nat.le_refl _), s2, F2, e1.trans e2, S2, hd s2 iv⟩
def LcG (Y : DX) (scope : Scope) (vs : List Nat) (tg elt : Expr) (ifs : List Expr) (g : TG) (ws : List Nat) (f : β → Rho → Rho) (G : List β → DSt → Prop) {α : Type} [Enc α] (R : List α → DSt → Prop) : Prop :=
  ∀ items s', G items s' → ∃ Iv : Nat → List α → Gs → Prop, LcTurns Y s' scope vs tg elt ifs g ws f items Iv ∧ Iv 0 [] s'.gs ∧ ∀ ys gs, Iv items.length ys gs → R ys ⟨s'.ρ, gs⟩
theorem ev_lcE {g : TG} {ws : List Nat} {f : β → Rho → Rho} {G : List β → DSt → Prop} (ok : YOk Y) (hi : EvItE Y s tg iter G) (bk : BlkOk Y.X.N Y.X.env.scope scope own) (tg0 : ∀ z, TgOk (blkY Y scope z) tg g ws f) (h : LcG Y scope (own.map (·.2)) tg elt ifs g ws f G (α := α) fun ys s' => Q (pu ys) s')
    (hs : ∀ x, foldedSetIterable iter Y.X.env x = pure x := by intro _; rfl) : Ev Y s (.ListComp elt [⟨tg, iter, ifs, 0⟩] scope pos) Q := fun F0 σ H F e0 S => by
  obtain ⟨wi, hp, hw⟩ := hi
  have P := pe_lc (pos := pos) (tt := fun σ H Q => ∀ z, WTs (blkX Y.X scope z) ifs σ H Q) (te := fun σ H Q => ∀ z, WE (blkX Y.X scope z) elt σ H Q) ok.calm ok.nd hp bk (fun s H C cl fp => (tg0 ⟨s, H, C, cl, fp⟩).1) (fun s H C cl fp => ⟨fun pins s' σ H' Q I h => (h ⟨s, H, C, cl, fp⟩).run pins s' I⟩) (fun s H C cl fp => ⟨fun pins s' σ H' Q I h => (h ⟨s, H, C, cl, fp⟩).run pins s' I⟩) hs
  refine .of P (hw F0 σ H F _ e0 S fun J H1 F1 items s' e1 S1 K1 q => ?_)
  obtain ⟨Iv, L, h0, hQ⟩ := h items s' q
  have t := tlc_ok (own := own) (wi := fun _ _ R => R J H1) (F0 := F1) (σ := σ) (H := H1) (Qf := Po Y σ F0 Q) (fun R k => k J H1 F1 (.refl _) S1 K1) L h0 fun D H' F' ys gs e2 S2 iv => by
    obtain ⟨hF, o, ho, hot, vs, ev, rv⟩ := S2.cell (i := 0) (p := D) (c := lstc ys) rfl
    subst ev
    have S3 := S2.freeze (i := 0) (p := D) (c := lstc ys) rfl ho
    exact ⟨pu ys, ⟨s'.ρ, gs⟩, upd F' D (.lst vs), (e1.trans e2).trans (Ext.grow hF), ⟨D, vs, rfl, .of upd_same, rv.mono (Ext.grow hF)⟩, S3, hQ ys gs iv⟩
  exact t
theorem ev_lcT {g : TG} {ws : List Nat} {f : β → Rho → Rho} {items : List β} (own : List (Str × Nat)) (ok : YOk Y) (hi : EvIt Y s tg iter items) (bk : BlkOk Y.X.N Y.X.env.scope scope own) (tg0 : ∀ z, TgOk (blkY Y scope z) tg g ws f) (Iv : Nat → List α → Gs → Prop) (h0 : Iv 0 [] s.gs)
    (small : ∀ i ys gs, Iv i ys gs → i < items.length → ys.length < sizeLine)
    (step : ∀ z i x ys gs D, items[i]? = some x → Iv i ys gs → Ets (blkY Y scope z) ⟨f x (wipeR s.ρ (own.map (·.2))), (D, lstc ys) :: gs⟩ ifs fun b s2 =>
      if b = true then ∀ z', Ev (blkY Y scope z') s2 elt fun A s3 => ∃ y gs3, A = pu y ∧ s3.gs = (D, lstc ys) :: gs3 ∧ Iv (i + 1) (ys ++ [y]) gs3 else ∃ gs2, s2.gs = (D, lstc ys) :: gs2 ∧ Iv (i + 1) ys gs2)
    (hQ : ∀ ys gs, Iv items.length ys gs → Q (pu ys) ⟨s.ρ, gs⟩) (sub : ∀ j ∈ ws, j ∈ own.map (·.2) := by decide) (hs : ∀ x, foldedSetIterable iter Y.X.env x = pure x := by intro _; rfl) : Ev Y s (.ListComp elt [⟨tg, iter, ifs, 0⟩] scope pos) Q :=
  ev_lc ok hi bk Iv ⟨tg0, sub, small, step⟩ h0 hQ hs
end
end Sp
set_option maxHeartbeats 4000000
namespace Sp
open PySem L2
structure Rf where
  a : Addr
instance : Enc Rf := ⟨fun _ _ v r => v = .ref r.a, fun h _ => h⟩
def blkB (N : List Str) (sc scope : Scope) (own : List (Str × Nat)) : Bool :=
  decide (scope.kind = .function) && scope.names.all (fun y => decide (scope.names.lookup y.1 = some y.2)) && own.all (fun p => decide (N[p.2]? = some p.1)) &&
    scope.names.all (fun y => !decide (y.2 = .free) || (decide (sc.names.lookup y.1 = some .cell) || decide (sc.names.lookup y.1 = some .free))) &&
    scope.names.all (fun y => !(decide (y.2 = .local) || decide (y.2 = .cell)) || (decide (y.1 ∈ own.map (·.1)) || decide (y.1 ∉ N)))
theorem blk_by {N : List Str} {sc scope : Scope} {own : List (Str × Nat)} (h : blkB N sc scope own = true) : BlkOk N sc scope own := by
  unfold blkB at h
  simp only [Bool.and_eq_true] at h
  obtain ⟨⟨⟨⟨h1, h2⟩, h3⟩, h4⟩, h5⟩ := h
  refine ⟨of_decide_eq_true h1, fun y hy => of_decide_eq_true (List.all_eq_true.mp h2 y hy), fun p hp => of_decide_eq_true (List.all_eq_true.mp h3 p hp), fun y hy e => ?_, fun y hy e => ?_⟩
  · have := List.all_eq_true.mp h4 y hy
    simpa [e] using this
  · have := List.all_eq_true.mp h5 y hy
    rcases e with e | e <;> simpa [e] using this
def tx (s : Str) : Txt := s.cps.toList
theorem toStr_tx (s : Str) : toStr (tx s) = s := toStr_of s
section
variable {Y : DX} {s : DSt} {e a b c d o : Expr} {es : List Expr} {pos p apos : Pos} {Q : Pv → DSt → Prop} {D : DE}
theorem evp_own {α : Type} [Enc α] {xs : List α} {n : Int} {x : α} {y : Str} {jj : Nat} {q : Addr} {p1 p2 p3 : Pos} (i g : Nat) (hN : Y.X.N[i]? = some y) (hρ : s.ρ[i]? = some (some (raw (.ref q)))) (hg : s.gs[g]? = some (q, lstc xs)) (hx : atI xs n = some x) (hv : Vis Y.X.env.scope y := by first | exact .inl rfl | exact .inr (.inl rfl) | exact .inr (.inr rfl))
    (hd : (y == ("__debug__" : Str)) = false := by decide) (hcd : (y == ("__classdict__" : Str)) = false := by decide) : EvP Y s (.Subscript (.Name y p1) (.Constant (.int n) jj p2) p3) (pu x) :=
  evp_ixA (fun _ _ => rfl) (evp_var i hN hv hρ hd hcd) (DL.own g hg) evp_int hx
theorem evp_v {A : Pv} {x : Str} (i : Nat) (hN : Y.X.N[i]? = some x) (hA : s.ρ[i]? = some (some A)) (hv : Vis Y.X.env.scope x := by first | exact .inl rfl | exact .inr (.inl rfl) | exact .inr (.inr rfl)) (hd : (x == ("__debug__" : Str)) = false := by decide) (hcd : (x == ("__classdict__" : Str)) = false := by decide) :
    EvP Y s (.Name x pos) A := evp_var i hN hv hA hd hcd
theorem evp_tx {x : Str} {j : Nat} : EvP Y s (.Constant (.str x) j pos) (pu (tx x)) := evp_str (tx x) (toStr_tx x)
end
theorem Tell.no {K : Frag} {c C : Addr} {x t : Txt} {l : Cls_} (h : PySem.W.exmOne K (.ref C) (.ref c) = some false) (r : Tell K l C t) : Tell K ((c, x) :: l) C t := ⟨false, h, (fun e => by cases e), fun _ => r⟩
theorem Tell.yes {K : Frag} {c C : Addr} {x : Txt} {l : Cls_} (h : PySem.W.exmOne K (.ref C) (.ref c) = some true) : Tell K ((c, x) :: l) C x := ⟨true, h, (fun _ => rfl), fun e => by cases e⟩
theorem told_of {X : Cx} {d : He.DefD} {fd : FuncData} {x a : Str} {Ng : List Str} {l : Cls_} {p1 p2 p3 p8 : Pos} {h0 : ExceptHandler} {hds : List ExceptHandler} (F1 : Fd X.K d [a] fd) (hg : X.mg x = some (.ref (He.fAd X.K d.at_))) (hn : d.name = x) (hq : d.qual = x) (S : FnScope Ng [a] d.scope)
    (hb : d.body = [.Try [.Return (some (.Call (.Name a p1) [] [] p2)) p3] (h0 :: hds) [] [] p8]) (hh : HdT X.K X.mg d.scope (h0 :: hds) l) (h1 : Ng[0]? = some a) (hv : Vis d.scope a) (h2 : (a == ("__debug__" : Str)) = false) (h3 : (a == ("__classdict__" : Str)) = false)
    (h4 : ∀ f : Addr, (L2.start Ng [V.ref f])[0]? = some (some (V.ref f))) : Told X x l := by
  obtain ⟨oc, od, dV, kV, doc, pm, an, cdv, ct, osl, e, lk, hcd, _, _⟩ := F1.F.ex
  obtain ⟨b⟩ : Nonempty (PLift True) := ⟨⟨trivial⟩⟩
  have hbn := F1.b
  subst hn
  subst e
  rw [hq] at lk hcd hbn
  rw [hb] at lk hbn
  exact ⟨a, _, _, _, d.scope, dV, kV, doc, pm, cdv, ct, oc, an, od, osl, Ng, hg, F1.F.kp, lk, hcd, hbn, S, h1, hv, h2, h3, fun q => told_many hh h4⟩
end Sp
set_option maxHeartbeats 4000000
namespace Sp
open PySem L2
structure TgD (β : Type) where
  g : Frag → TG
  ws : List Nat
  f : β → Rho → Rho
abbrev TgD.n {α : Type} [Enc α] (i : Nat) : TgD α := ⟨fun _ => gName i, [i], fun v ρ => ρ.set i (some (pu v))⟩
abbrev TgD.p {α β : Type} (a : TgD α) (b : TgD β) : TgD (α × β) := ⟨fun K => gTup K 2 (gCons (a.g K) (gCons (b.g K) gNil)), a.ws ++ b.ws, fun v ρ => b.f v.2 (a.f v.1 ρ)⟩
section
variable {Y : DX} {s : DSt} {k : Nat} {scope : Scope} {tg elt iter : Expr} {ifs : List Expr} {β γ : Type} [Enc β] {items : List β} {c : β → Bool} {gpos p pos : Pos}
theorem tg_nm {x : Str} (nd : Y.X.N.Nodup) (i : Nat) (hi : Y.X.N[i]? = some x) (hx : Loc Y.X.env.scope x := by first | exact .inl rfl | exact .inr rfl) (hf : Y.X.fn x = true ∨ Y.X.env.scope.names.lookup x = some .local := by first | exact .inl rfl | exact .inr rfl) {α : Type} [Enc α] {pos : Pos} :
    TgOk Y (.Name x pos) (gName i) [i] (fun (v : α) ρ => ρ.set i (some (pu v))) := tg_name nd i hi hx hf
theorem tg_gen {x : Str} (ok : YOk Y) (z : GCx) (i : Nat) (hi : Y.X.N[i]? = some x) (hx : Loc (genY Y k scope z).X.env.scope x := by first | exact .inl rfl | exact .inr rfl) (hf : (genY Y k scope z).X.fn x = true ∨ (genY Y k scope z).X.env.scope.names.lookup x = some .local := by first | exact .inl rfl | exact .inr rfl) {α : Type} [Enc α] {pos : Pos} :
    TgOk (genY Y k scope z) (.Name x pos) (gName i) [i] (fun (v : α) ρ => ρ.set i (some (pu v))) := tg_name (Y := genY Y k scope z) ok.nd i hi hx hf
theorem tg_blk {x : Str} (ok : YOk Y) (z : BCx) (i : Nat) (hi : Y.X.N[i]? = some x) (hx : Loc (blkY Y scope z).X.env.scope x := by first | exact .inl rfl | exact .inr rfl) (hf : (blkY Y scope z).X.fn x = true ∨ (blkY Y scope z).X.env.scope.names.lookup x = some .local := by first | exact .inl rfl | exact .inr rfl) {α : Type} [Enc α] {pos : Pos} :
    TgOk (blkY Y scope z) (.Name x pos) (gName i) [i] (fun (v : α) ρ => ρ.set i (some (pu v))) := tg_name (Y := blkY Y scope z) ok.nd i hi hx hf
end
end Sp
set_option maxHeartbeats 4000000
namespace Sp
open PySem PySem.Spec PyProof.Rows L2
open AutoSeq1 (wpAny_loadPart')
section
variable {X : Cx} {e : Expr} {te : TE} {p apos cpos pos : Pos}
end
end Sp
set_option maxHeartbeats 4000000
namespace Sp
open PySem L2
section
variable {Y : DX} {s : DSt} {e a b c d o : Expr} {es : List Expr} {pos p apos : Pos} {Q : Pv → DSt → Prop} {D : DE}
end
end Sp
set_option maxHeartbeats 4000000
namespace Sp
open PySem L2
section
variable {Y : DX} {s : DSt} {tg elt iter : Expr} {ifs : List Expr} {pos spos py : Pos} {scope : Scope} {α β : Type} [Enc α] [Enc β] {items : List β} {D : DE}
end
end Sp
set_option maxHeartbeats 4000000
namespace Sp
open PySem PySem.Spec PyProof.Rows L2
def IteS (x : Str) : It :=
  ⟨fun i _ => i < x.cps.size, fun i H v H' => ∃ T c, v = .ref T ∧ H T = none ∧ H' = upd H T (.tup [.int (i : Nat), .str ⟨#[c]⟩]) ∧ x.cps[i]? = some c, fun i _ => x.cps.size ≤ i⟩
theorem draws_str {prog : Program} {w : World} {A : Around} (hh : A.handled = none) (it : Addr) (x : Str) (t : Tok) :
    Draws prog w A it [it] x.cps.size (fun i v => ∃ c u, x.cps[i]? = some c ∧ v = .str ⟨#[c]⟩ u) (fun i h => h.IsStrIter it (strIterType x) x t i) := by
  unfold strIterType
  split
  · exact Draws.strAscii hh it x t
  · exact Draws.strWide hh it x t
theorem turn_enumS {P : Program} {w : World} {K : PySem.W.Frag} {elts : List Expr} {kk : Nat} {tpos : Pos} (x : Str) (t : Tok) (e it : Addr) :
    Turn P w K (.Tuple elts kk tpos) (IteS x) [e, it] e (fun i h => (∃ old, IsEnum h e it ((i : Nat) : Int) old) ∧ h.IsStrIter it (strIterType x) x t i ∧ e ≠ it ∧ i ≤ x.cps.size) where
  mem := by simp
  obj := fun i h st b hb => by
    obtain ⟨⟨old, he⟩, ⟨o, ho, hc, hd⟩, _⟩ := st
    have e' : b = e ∨ b = it := by simpa using hb
    rcases e' with z | z
    · rw [z]; exact ⟨_, he, fun v q => nomatch q⟩
    · rw [z]; exact ⟨o, ho, fun v q => by rw [hd] at q; cases q⟩
  keep := fun i h h' st k => let ⟨⟨old, he⟩, ⟨o, ho, r⟩, hne⟩ := st; ⟨⟨old, k e (by simp) _ he⟩, ⟨o, k it (by simp) o ho, r⟩, hne⟩
  item := by
    intro X hP hw hK hc i pins s σ H E I hf st hg
    subst hP hw hK
    obtain ⟨⟨old, he⟩, hit, hne, hle⟩ := st
    have hel : e < s.heap.objs.size := Heap.lt_size he
    have hil : it < s.heap.objs.size := by obtain ⟨_, q, _⟩ := hit; exact Heap.lt_size q
    refine wpAny_pyNext_enum_itemD (draws_str (show X.A.in1.handled = none from I.ok.hd hc) it x t) he hit hg hne (by simpa using hne) fun v h' tk pv ho hit' hT hsz hk => ?_
    obtain ⟨c, u, hcx, rfl⟩ := pv
    refine ⟨_, rfl, wpAny_letOwnedTupleGo_enum (s := { s with heap := h', toks := tk + 1 }) ho fun h'' he' sb => ?_⟩
    have hT2 : h''.get? s.heap.objs.size = some { cls := .type "tuple", data := .seq #[.int i tk, .str ⟨#[c]⟩ u] } := (sb.2 _ (Nat.ne_of_gt hel)).trans hT
    have new : ObjOk X.prog X.w (upd H s.heap.objs.size (.tup [.int (i : Nat), .str ⟨#[c]⟩])) h'' s.heap.objs.size (.tup [.int (i : Nat), .str ⟨#[c]⟩]) :=
      ⟨by show 2 ≤ sizeLine; decide, [.int i tk, .str ⟨#[c]⟩ u], .cons ⟨_, rfl⟩ (.cons ⟨_, rfl⟩ .nil), ⟨_, hT2, rfl, _, rfl⟩⟩
    have I1 : Inv X pins σ (upd H s.heap.objs.size (.tup [.int (i : Nat), .str ⟨#[c]⟩])) { s with heap := h'', toks := tk + 1 } :=
      I.turnedNew (ch := [e, it]) (fun b ob hb q => (sb.2 b (fun z => hb (by simp [z]))).trans (hk b ob (fun z => hb (by simp [z])) (fun z => hb (by simp [z])) q)) hf (Nat.le_refl _) new
    refine ⟨.ref s.heap.objs.size, _, I1, rfl, ⟨_, c, rfl, I.hok.fresh (Nat.le_refl _), rfl, hcx⟩, ⟨⟨.str ⟨#[c]⟩ u, ?_⟩, ?_, hne, hg⟩, fun b hb => ?_⟩
    · have e1 : ((i + 1 : Nat) : Int) = (i : Int) + 1 := by omega
      rw [e1]; exact he'
    · obtain ⟨o, ho2, r⟩ := hit'
      exact ⟨o, (sb.2 it (Ne.symm hne)).trans ho2, r⟩
    · have hb' : b < s.heap.objs.size := by
        have e' : b = e ∨ b = it := by simpa using hb
        rcases e' with z | z
        · rw [z]; exact hel
        · rw [z]; exact hil
      rw [upd_ne (Nat.ne_of_lt hb')]
      exact (hf b hb).1
  done := by
    intro X hP hw hK hc i pins s σ H E I hf st hg
    subst hP hw hK
    obtain ⟨⟨old, he⟩, hit, hne, hle⟩ := st
    obtain ⟨f0, f1, f2, f3, f4, f5⟩ := hf it (by simp)
    have hl : i = x.cps.size := Nat.le_antisymm hle hg
    subst hl
    exact wpAny_pyNext_enum_endD (draws_str (show X.A.in1.handled = none from I.ok.hd hc) it x t) he hit fun h' eb => ⟨rfl, I.turned (t' := s.toks) (fun b o hb q => eb b o hb q) f0 f1 f3 f4 f5⟩
  self := fun A i s Q E st h => let ⟨⟨_, he⟩, _⟩ := st; wpAny_pyIter_enum he h
theorem pi_enumS {X : Cx} {e : Expr} {ta : TA} {p pos tpos : Pos} {elts : List Expr} {kk : Nat} (hg : Gl X "enumerate") (hm : X.mg "enumerate" = none) (ha : PA X [e] ta) (hs : starEach [e] X.env = [(false, eval e X.env)] := by rfl) :
    PI X (.Tuple elts kk tpos) (.Call (.Name "enumerate" p) [e] [] pos) (fun σ H R => ta σ H fun vs H1 => ∃ x, vs = [.str x] ∧ R (IteS x) H1) := by
  refine ⟨fun pins s σ H R I h => ?_⟩
  refine Call_ (ld_blt I hg hm boot_enumerate (PyProof.Rows.callWith_type1 (thn (ha.run pos pins s σ H _ I h) fun us s1 ⟨vs, H1, I1, r1, q1⟩ => ?_) hs rfl))
  obtain ⟨x, ex, q⟩ := q1
  subst ex
  cases r1 with
  | cons r rr =>
    cases rr
    obtain ⟨t, rfl⟩ := r
    refine call_enumerate_str fun h' he hit hsz hk => wpAny_pyIter_enum he ?_
    have I2 : Inv X pins σ H1 { s1 with heap := h' } := I1.kept (t' := s1.toks) hk
    refine ⟨s1.heap.objs.size + 1, [s1.heap.objs.size + 1, s1.heap.objs.size], _, _, H1, rfl, I2, turn_enumS x t (s1.heap.objs.size + 1) s1.heap.objs.size, ⟨⟨.none, he⟩, hit, Nat.succ_ne_self _, Nat.zero_le _⟩, fun b hb => ?_, q⟩
    have e' : b = s1.heap.objs.size + 1 ∨ b = s1.heap.objs.size := by simpa using hb
    have hle : s1.heap.objs.size ≤ b := by
      rcases e' with z | z
      · rw [z]; exact Nat.le_add_right _ _
      · rw [z]; exact Nat.le_refl _
    exact I1.fpOk hle (I1.hok.fresh hle)
end Sp
set_option maxHeartbeats 4000000
namespace Sp
open PySem L2
open PySem.W (Datum DatumOrd SomeDatum)
def noStar : Expr → Bool
  | .Starred .. => false
  | _ => true
def noSup : Expr → Bool
  | .Call (.Name ..) .. => false
  | _ => true
theorem star_c {e : Expr} {es : List Expr} {env : Env} (h : noStar e = true) : starEach (e :: es) env = (false, eval e env) :: starEach es env := by
  cases e <;> first | rfl | cases h
theorem star_1 {e : Expr} {env : Env} (h : noStar e = true) : starEach [e] env = [(false, eval e env)] := star_c h
theorem star_any {pos : Pos} {env : Env} : ∀ {es : List Expr}, es.all noStar = true → (backTo pos (starEach es env)).any (·.1) = false
  | [], _ => rfl
  | e :: es, h => by
    rw [List.all_cons, Bool.and_eq_true] at h
    rw [star_c h.1]
    show (false || (backTo pos (starEach es env)).any (·.1)) = false
    rw [star_any h.2]; rfl
theorem ab_ok {o : Expr} {m : Str} {env : Env} {x : Sem Value} (h : noSup o = true) : attributeBase o m env x = x := by
  cases o with
  | Call f es ks p => cases f <;> first | rfl | cases h
  | _ => rfl
theorem few_1 {e : Expr} {pos : Pos} {env : Env} (h : noStar e = true) : ((backTo pos (starEach [e] env)).all (fun x => !x.1) && (backToKw pos (keywordEach [] env)).all (fun x => x.1.isSome)
      && decide (([e] : List Expr).length + ([] : List Keyword).length + (if ([] : List Keyword).isEmpty then 0 else 1) < 30)) = true := by rw [star_1 h]; rfl
theorem mx1 {X : Cx} {o : Expr} {m : Str} {apos : Pos} {e : Expr} {pos : Pos} (h1 : noSup o = true) (h2 : noStar e = true) (h3 : (apos.endLine == pos.line) = true) : Mx1 X o m apos e pos := ⟨ab_ok h1, few_1 h2, h3, star_1 h2⟩
def inL {α : Type} [DecidableEq α] (x : α) (xs : List α) : Bool := decide (x ∈ xs)
def niL {α : Type} [DecidableEq α] (x : α) (xs : List α) : Bool := decide (x ∉ xs)
def EvC (Y : DX) (s : DSt) (e : Expr) {α : Type} [Enc α] (W : (α → Prop) → Prop) : Prop := ∀ k : α → Prop, W k → Ev Y s e fun A s' => ∃ x, A = pu x ∧ s' = s ∧ k x
def EvL (Y : DX) (s : DSt) (e : Expr) {α : Type} [Enc α] (W : (List α → Prop) → Prop) : Prop := ∀ k : List α → Prop, W k → Ev Y s e fun A s' => ∃ xs, DL Y s A xs ∧ s' = s ∧ k xs
def EvD (Y : DX) (s : DSt) (e : Expr) {κ ν : Type} [Kk κ] [Enc ν] (W : (List (κ × ν) → Prop) → Prop) : Prop := ∀ k : List (κ × ν) → Prop, W k → Ev Y s e fun A s' => ∃ m, DF Y s A m ∧ s' = s ∧ k m
def EvT (Y : DX) (s : DSt) (c : Expr) (W : (Bool → Prop) → Prop) : Prop := ∀ k : Bool → Prop, W k → Et Y s c fun b s' => s' = s ∧ k b
def EvW (Y : DX) (s : DSt) (c : Expr) (W : (Bool → Prop) → Prop) : Prop := ∀ k : Bool → Prop, W k → Ew Y s c fun b s' => s' = s ∧ k b
def EvK (Y : DX) (s : DSt) (op : CmpOp) (a b : Expr) (W : (Bool → Prop) → Prop) : Prop := ∀ k : Bool → Prop, W k → Cmp Y s op a b fun c s' => s' = s ∧ k c
section
variable {Y : DX} {s : DSt} {e a b c d o : Expr} {es : List Expr} {pos p apos : Pos} {α β γ : Type} [Enc α] [Enc β] [Enc γ]
theorem EvC.pp {W : (α → Prop) → Prop} {x : α} (h : EvC Y s e W) (w : W (fun y => y = x)) : EvP Y s e (pu x) :=
  .of ((h _ w).mono fun A s' ⟨y, ea, es, ey⟩ => ⟨by rw [ea, ey], es⟩)
theorem EvT.pp {W : (Bool → Prop) → Prop} {x : Bool} (h : EvT Y s e W) (w : W (fun y => y = x)) : EtP Y s e x :=
  .of ((h _ w).mono fun b s' ⟨es, ey⟩ => ⟨ey, es⟩)
theorem EvC.q {W : (α → Prop) → Prop} {k : α → Prop} {Q : Pv → DSt → Prop} (h : EvC Y s e W) (w : W k) (q : ∀ x, k x → Q (pu x) s) : Ev Y s e Q :=
  (h k w).mono fun A s' ⟨x, ea, es, kx⟩ => by subst ea es; exact q x kx
theorem EvL.q {W : (List α → Prop) → Prop} {k : List α → Prop} {Q : Pv → DSt → Prop} (h : EvL Y s e W) (w : W k) (q : ∀ A xs, DL Y s A xs → k xs → Q A s) : Ev Y s e Q :=
  (h k w).mono fun A s' ⟨x, ea, es, kx⟩ => by subst es; exact q A x ea kx
theorem EvD.q {κ ν : Type} [Kk κ] [Enc ν] {W : (List (κ × ν) → Prop) → Prop} {k : List (κ × ν) → Prop} {Q : Pv → DSt → Prop} (h : EvD Y s e W) (w : W k) (q : ∀ A m, DF Y s A m → k m → Q A s) : Ev Y s e Q :=
  (h k w).mono fun A s' ⟨x, ea, es, kx⟩ => by subst es; exact q A x ea kx
theorem EvT.q {W : (Bool → Prop) → Prop} {k : Bool → Prop} {Q : Bool → DSt → Prop} (h : EvT Y s e W) (w : W k) (q : ∀ x, k x → Q x s) : Et Y s e Q :=
  (h k w).mono fun b s' ⟨es, kx⟩ => by subst es; exact q b kx
theorem EvK.q {op : CmpOp} {W : (Bool → Prop) → Prop} {k : Bool → Prop} {Q : Bool → DSt → Prop} (h : EvK Y s op a b W) (w : W k) (q : ∀ x, k x → Q x s) : Cmp Y s op a b Q :=
  (h k w).mono fun b s' ⟨es, kx⟩ => by subst es; exact q b kx
theorem c_of {x : α} (h : EvP Y s e (pu x)) : EvC Y s e fun k => k x := fun k w => .of h ⟨x, rfl, rfl, w⟩
theorem c_v {x : Str} {y : α} (i : Nat) (hN : Y.X.N[i]? = some x) (hA : s.ρ[i]? = some (some (pu y))) (hv : Vis Y.X.env.scope x := by first | exact .inl rfl | exact .inr (.inl rfl) | exact .inr (.inr rfl)) (hd : (x == ("__debug__" : Str)) = false := by decide) (hcd : (x == ("__classdict__" : Str)) = false := by decide) :
    EvC Y s (.Name x pos) fun k => k y := c_of (evp_v i hN hA hv hd hcd)
theorem c_int {i : Int} {j : Nat} : EvC Y s (.Constant (.int i) j pos) fun k => k i := c_of evp_int
theorem c_bl {i : Bool} {j : Nat} : EvC Y s (.Constant (.bool i) j pos) fun k => k i := c_of evp_bl
theorem c_tx {x : Str} {j : Nat} : EvC Y s (.Constant (.str x) j pos) fun k => k (tx x) := c_of evp_tx
theorem c_none {j : Nat} : EvC Y s (.Constant .none j pos) fun k => k (Option.none : Option α) := c_of evp_none
theorem c_l {W : (List α → Prop) → Prop} (h : EvC Y s e W) : EvL Y s e W := fun k w => h.q w fun x kx => ⟨x, .pu, rfl, kx⟩
theorem c_d {κ ν : Type} [DecidableEq κ] [Kk κ] [Enc κ] [KkV κ] [Enc ν] {W : (Dct κ ν → Prop) → Prop} (h : EvC Y s e W) : EvD Y s e fun k => W fun m => k m.kvs := fun k w => h.q w fun x kx => ⟨x.kvs, .pu, rfl, kx⟩
theorem l_own {x : Str} {xs : List α} {q : Addr} (i g : Nat) (hN : Y.X.N[i]? = some x) (hρ : s.ρ[i]? = some (some (raw (.ref q)))) (hg : s.gs[g]? = some (q, lstc xs)) (hv : Vis Y.X.env.scope x := by first | exact .inl rfl | exact .inr (.inl rfl) | exact .inr (.inr rfl)) (hd : (x == ("__debug__" : Str)) = false := by decide) (hcd : (x == ("__classdict__" : Str)) = false := by decide) :
    EvL Y s (.Name x pos) fun k => k xs := fun k w => .of (evp_v i hN hρ hv hd hcd) ⟨xs, DL.own g hg, rfl, w⟩
theorem c_inl {W : (α → Prop) → Prop} (h : EvC Y s e W) : EvC Y s e fun k => W fun x => k (Sum.inl x : α ⊕ β) := fun k w => h.q w fun x kx => ⟨Sum.inl x, rfl, rfl, kx⟩
theorem c_inr {W : (β → Prop) → Prop} (h : EvC Y s e W) : EvC Y s e fun k => W fun x => k (Sum.inr x : α ⊕ β) := fun k w => h.q w fun x kx => ⟨Sum.inr x, rfl, rfl, kx⟩
theorem c_some {W : (α → Prop) → Prop} (h : EvC Y s e W) : EvC Y s e fun k => W fun x => k (Option.some x) := fun k w => h.q w fun x kx => ⟨Option.some x, rfl, rfl, kx⟩
section
variable {Wa Wb Wc : (Int → Prop) → Prop}
theorem c_add (ha : EvC Y s a Wa) (hb : EvC Y s b Wb) : EvC Y s (.BinOp a .Add b pos) fun k => Wa fun i => Wb fun j => k (i + j) := fun k w =>
  ev_ints0 (f := fun i j => i + j) (pe_op op_add pe_we pe_we) (fun _ _ _ _ => rfl) (ha.q w fun i w => ⟨i, rfl, hb.q w fun j w => ⟨j, rfl, _, rfl, rfl, w⟩⟩)
theorem c_sub (ha : EvC Y s a Wa) (hb : EvC Y s b Wb) : EvC Y s (.BinOp a .Sub b pos) fun k => Wa fun i => Wb fun j => k (i - j) := fun k w =>
  ev_ints0 (f := fun i j => i - j) (pe_op op_sub pe_we pe_we) (fun _ _ _ _ => rfl) (ha.q w fun i w => ⟨i, rfl, hb.q w fun j w => ⟨j, rfl, _, rfl, rfl, w⟩⟩)
theorem c_mod (ha : EvC Y s a Wa) (hb : EvC Y s b Wb) : EvC Y s (.BinOp a .Mod b pos) fun k => Wa fun i => Wb fun j => 0 < j ∧ k (i % j) := fun k w =>
  ev_ints (C := fun _ j => 0 < j) (f := fun i j => i % j) (pe_op op_mod pe_we pe_we) (fun _ _ _ _ => rfl) (ha.q w fun i w => ⟨i, rfl, hb.q w fun j ⟨w1, w⟩ => ⟨j, rfl, w1, _, rfl, rfl, w⟩⟩)
theorem c_neg (ha : EvC Y s a Wa) : EvC Y s (.UnaryOp .USub a pos) fun k => Wa fun i => k (-i) := fun k w =>
  ev1 (r := fun v H Q => rU (fun i => .int (-i)) v H Q) (pe_un un_neg pe_we) (ha.q w fun i w F0 σ H F v e0 S r => ⟨i, r, pu (-i), s, F, e0, rfl, S, _, rfl, rfl, w⟩)
theorem k_lt (ha : EvC Y s a Wa) (hb : EvC Y s b Wb) : EvK Y s .Lt a b fun k => Wa fun i => Wb fun j => k (decide (i < j)) := fun k w =>
  cmp_of op_lt (ha.q w fun i w => hb.q w fun j w => ⟨_, ⟨rfl, w⟩, fun σ H F v u Q S r1 r2 q => ⟨i, j, r1, r2, q⟩⟩)
theorem k_le (ha : EvC Y s a Wa) (hb : EvC Y s b Wb) : EvK Y s .LtE a b fun k => Wa fun i => Wb fun j => k (decide (i ≤ j)) := fun k w =>
  cmp_of op_le (ha.q w fun i w => hb.q w fun j w => ⟨_, ⟨rfl, w⟩, fun σ H F v u Q S r1 r2 q => ⟨i, j, r1, r2, q⟩⟩)
theorem k_gt (ha : EvC Y s a Wa) (hb : EvC Y s b Wb) : EvK Y s .Gt a b fun k => Wa fun i => Wb fun j => k (decide (j < i)) := fun k w =>
  cmp_of op_gt (ha.q w fun i w => hb.q w fun j w => ⟨_, ⟨rfl, w⟩, fun σ H F v u Q S r1 r2 q => ⟨i, j, r1, r2, q⟩⟩)
end
section
variable {δ : Type} [DecidableEq δ] [Enc δ] [Datum δ] [Dat δ] {Wa Wb : (δ → Prop) → Prop}
theorem k_eq (ok : YOk Y) (ha : EvC Y s a Wa) (hb : EvC Y s b Wb) (hd : Datum.depth δ ≤ 60 := by decide) : EvK Y s .Eq a b fun k => Wa fun i => Wb fun j => k (decide (i = j)) := fun k w =>
  cmp_of (op_eqT (α := δ) ok.room.units hd) (ha.q w fun i w => hb.q w fun j w => ⟨_, ⟨rfl, w⟩, fun σ H F v u Q S r1 r2 q => ⟨i, j, DA.pu σ H F v S r1, DA.pu σ H F u S r2, q⟩⟩)
theorem k_ne (ok : YOk Y) (ha : EvC Y s a Wa) (hb : EvC Y s b Wb) (hd : Datum.depth δ ≤ 60 := by decide) : EvK Y s .NotEq a b fun k => Wa fun i => Wb fun j => k (decide (i ≠ j)) := fun k w =>
  cmp_of (op_neT (α := δ) ok.room.units hd) (ha.q w fun i w => hb.q w fun j w => ⟨_, ⟨rfl, w⟩, fun σ H F v u Q S r1 r2 q => ⟨i, j, DA.pu σ H F v S r1, DA.pu σ H F u S r2, q⟩⟩)
theorem k_neL {Wa Wb : (List δ → Prop) → Prop} (ok : YOk Y) (ha : EvL Y s a Wa) (hb : EvL Y s b Wb) (hd : Datum.depth (List δ) ≤ 60 := by decide) : EvK Y s .NotEq a b fun k => Wa fun i => Wb fun j => k (decide (i ≠ j)) := fun k w =>
  cmp_of (op_neT (α := List δ) ok.room.units hd) (ha.q w fun A i hA w => hb.q w fun B j hB w => ⟨_, ⟨rfl, w⟩, fun σ H F v u Q S r1 r2 q => ⟨i, j, hA.da σ H F v S r1, hB.da σ H F u S r2, q⟩⟩)
theorem k_in {Wb : (List δ → Prop) → Prop} (ok : YOk Y) (ha : EvC Y s a Wa) (hb : EvL Y s b Wb) (hd : Datum.depth δ ≤ 60 := by decide) : EvK Y s .In a b fun k => Wa fun x => Wb fun xs => k (inL x xs) := fun k w =>
  cmp_of (op_inT (α := δ) ok.room.units hd) (ha.q w fun i w => hb.q w fun B j hB w => ⟨_, ⟨rfl, w⟩, fun σ H F v u Q S r1 r2 q => ⟨i, j, DA.pu σ H F v S r1, hB.da σ H F u S r2, q⟩⟩)
theorem k_nin {Wb : (List δ → Prop) → Prop} (ok : YOk Y) (ha : EvC Y s a Wa) (hb : EvL Y s b Wb) (hd : Datum.depth δ ≤ 60 := by decide) : EvK Y s .NotIn a b fun k => Wa fun x => Wb fun xs => k (niL x xs) := fun k w =>
  cmp_of (op_ninT (α := δ) ok.room.units hd) (ha.q w fun i w => hb.q w fun B j hB w => ⟨_, ⟨rfl, w⟩, fun σ H F v u Q S r1 r2 q => ⟨i, j, DA.pu σ H F v S r1, hB.da σ H F u S r2, q⟩⟩)
theorem k_inH {Wb : (Tup δ → Prop) → Prop} (ok : YOk Y) (ha : EvC Y s a Wa) (hb : EvC Y s b Wb) (hd : Datum.depth δ ≤ 60 := by decide) : EvK Y s .In a b fun k => Wa fun x => Wb fun xs => k (inL x xs.items) := fun k w =>
  cmp_of (op_inH (α := δ) ok.room.units hd) (ha.q w fun i w => hb.q w fun j w => ⟨_, ⟨rfl, w⟩, fun σ H F v u Q S r1 r2 q => ⟨i, j, DA.pu σ H F v S r1, Enc.mono (α := Tup δ) r2 S.ext, q⟩⟩)
theorem k_ninH {Wb : (Tup δ → Prop) → Prop} (ok : YOk Y) (ha : EvC Y s a Wa) (hb : EvC Y s b Wb) (hd : Datum.depth δ ≤ 60 := by decide) : EvK Y s .NotIn a b fun k => Wa fun x => Wb fun xs => k (niL x xs.items) := fun k w =>
  cmp_of (op_ninH (α := δ) ok.room.units hd) (ha.q w fun i w => hb.q w fun j w => ⟨_, ⟨rfl, w⟩, fun σ H F v u Q S r1 r2 q => ⟨i, j, DA.pu σ H F v S r1, Enc.mono (α := Tup δ) r2 S.ext, q⟩⟩)
end
section
variable {δ : Type} [DecidableEq δ] [Enc δ] [DatumOrd δ] [Dat δ] {Wa Wb : (δ → Prop) → Prop}
end
section
variable {Wa Wb : (List Nat → Prop) → Prop}
theorem k_inS (ha : EvC Y s a Wa) (hb : EvC Y s b Wb) : EvK Y s .In a b fun k => Wa fun x => Wb fun y => k (tin x y) := fun k w =>
  cmp_of op_in_str (ha.q w fun x w => hb.q w fun y w => ⟨_, ⟨rfl, w⟩, fun σ H F v u Q S r1 r2 q => ⟨toStr x, toStr y, r1, r2, by rw [toStr_len]; exact q⟩⟩)
theorem k_ninS (ha : EvC Y s a Wa) (hb : EvC Y s b Wb) : EvK Y s .NotIn a b fun k => Wa fun x => Wb fun y => k (!tin x y) := fun k w =>
  cmp_of op_notin_str (ha.q w fun x w => hb.q w fun y w => ⟨_, ⟨rfl, w⟩, fun σ H F v u Q S r1 r2 q => ⟨toStr x, toStr y, r1, r2, by rw [toStr_len]; exact q⟩⟩)
end
section
variable [NoN α] {W : (Option α → Prop) → Prop} {j : Nat}
theorem k_isN (ha : EvC Y s a W) : EvK Y s .Is a (.Constant .none j p) fun k => W fun x => k x.isNone := fun k w =>
  cmp_of op_isN (ha.q w fun x w => .of evp_non ⟨_, ⟨rfl, w⟩, fun σ H F v u Q S r1 r2 q => ⟨r2, by rw [optNone (α := α) r1]; exact q⟩⟩)
end
section
variable {κ ν : Type} [DecidableEq κ] [Kk κ] [Enc κ] [KkV κ] [Enc ν] {Wa : (κ → Prop) → Prop} {Wb : (List (κ × ν) → Prop) → Prop}
theorem k_inD (ok : YOk Y) (ha : EvC Y s a Wa) (hb : EvD Y s b Wb) : EvK Y s .In a b fun k => Wa fun x => Wb fun m => k (dhas m x) := fun kk w F0 σ H F e0 S => by
  refine .of (pc_din (by have := ok.room.units; omega) pe_we pe_we) ?_
  refine ((ha _ w) F0 σ H F e0 S).mono fun u H1 ⟨_, _, F1, e1, r1, S1, k, ea, es, w⟩ => ?_
  subst ea es
  refine ((hb _ w) F1 σ H1 F1 (.refl _) S1).mono fun v H2 ⟨B, _, F2, e2, r2, S2, m, hB, es, w⟩ => ?_
  subst es
  obtain ⟨q, zs, ev, hr, hz⟩ := hB σ H2 F2 v S2 r2
  refine ⟨q, valV zs (Kk.key k), ev, .inl ⟨zs, Kk.key k, hr, KkV.of r1, rfl⟩, _, _, F2, rfl, e1.trans e2, S2, rfl, ?_⟩
  unfold dhas at w
  rcases kvs_val hz k with ⟨h1, h2⟩ | ⟨w', y', h1, h2, h3⟩ <;> rw [h1] at w <;> rw [h2] <;> exact w
end
theorem c_k {op : CmpOp} {W : (Bool → Prop) → Prop} (h : EvK Y s op a b W) (h1 : behindInMarks op b = false := by first | exact nobehind _ (by decide) (by decide) | rfl) : EvC Y s (.Compare a [op] [b] pos) W := fun k w =>
  ev_cmp (h.q w fun x kx => ⟨x, rfl, rfl, kx⟩) h1
theorem t_k {op : CmpOp} {W : (Bool → Prop) → Prop} (h : EvK Y s op a b W) (h1 : behindInMarks op b = false := by first | exact nobehind _ (by decide) (by decide) | rfl) : EvT Y s (.Compare a [op] [b] pos) W := fun k w =>
  et_cmp (h.q w fun x kx => ⟨rfl, kx⟩) h1
theorem t_v {W : (Bool → Prop) → Prop} (he : ∀ whole, isTrue e Y.X.env whole = (do let v ← whole; standAt e.pos; holding [v] (truthy v))) (h : EvC Y s e W) : EvT Y s e W := fun k w =>
  et_val he (h.q w fun x kx => ⟨x, rfl, rfl, kx⟩)
theorem t_not {W : (Bool → Prop) → Prop} (h : EvT Y s a W) : EvT Y s (.UnaryOp .Not a pos) fun k => W fun x => k (!x) := fun k w =>
  et_not (h.q w fun x kx => ⟨rfl, kx⟩)
theorem t_w {W : (Bool → Prop) → Prop} (h : EvW Y s a W) : EvT Y s a W := fun k w => et_w (h k w)
theorem w_and1 {W : (Bool → Prop) → Prop} (h : EvT Y s a W) : EvW Y s (.BoolOp .And [a] pos) W := fun k w => ew_and1 (h k w)
theorem w_or1 {W : (Bool → Prop) → Prop} (h : EvT Y s a W) : EvW Y s (.BoolOp .Or [a] pos) W := fun k w => ew_or1 (h k w)
theorem w_or {W V : (Bool → Prop) → Prop} {r : List Expr} (h : EvT Y s a W) (hr : EvW Y s (.BoolOp .Or (b :: r) pos) V) : EvW Y s (.BoolOp .Or (a :: b :: r) pos) fun k => W fun x => (x = true → k true) ∧ (x = false → V k) := fun k w =>
  ew_or (h.q w fun x kx => by
    cases x with
    | false => exact hr k (kx.2 rfl)
    | true => exact ⟨rfl, kx.1 rfl⟩)
theorem w_andP {W V : (Bool → Prop) → Prop} {r : List Expr} {y : Bool} (h : EvT Y s a W) (hr : EvW Y s (.BoolOp .And (b :: r) pos) V) : EvW Y s (.BoolOp .And (a :: b :: r) pos) fun k => W fun x => (x = true → V fun z => z = y) ∧ k (x && y) := fun k w =>
  ew_and (h.q w fun x kx => by
    cases x with
    | true => exact (hr _ (kx.1 rfl)).to fun z s' ⟨e1, e2⟩ => ⟨e1, by rw [e2]; exact kx.2⟩
    | false => exact ⟨rfl, kx.2⟩)
theorem w_orP {W V : (Bool → Prop) → Prop} {r : List Expr} {y : Bool} (h : EvT Y s a W) (hr : EvW Y s (.BoolOp .Or (b :: r) pos) V) : EvW Y s (.BoolOp .Or (a :: b :: r) pos) fun k => W fun x => (x = false → V fun z => z = y) ∧ k (x || y) := fun k w =>
  ew_or (h.q w fun x kx => by
    cases x with
    | false => exact (hr _ (kx.1 rfl)).to fun z s' ⟨e1, e2⟩ => ⟨e1, by rw [e2]; exact kx.2⟩
    | true => exact ⟨rfl, kx.2⟩)
theorem Po.ext {σ : St} {F0 F1 : Hp} {Q : Pv → DSt → Prop} {v : V} {H : Hp} (h : Po Y σ F1 Q v H) (e : Ext F0 F1) : Po Y σ F0 Q v H := by
  obtain ⟨A, s', F', e1, r, S', q⟩ := h
  exact ⟨A, s', F', e.trans e1, r, S', q⟩
theorem c_if {W : (Bool → Prop) → Prop} {Wa Wb : (α → Prop) → Prop} (h : EvT Y s c W) (ha : EvC Y s a Wa) (hb : EvC Y s b Wb) : EvC Y s (.IfExp c a b pos) fun k => W fun x => (x = true → Wa k) ∧ (x = false → Wb k) := fun k w =>
  ev_if (h.q w fun x kx => by
    cases x with
    | true => exact ha k (kx.1 rfl)
    | false => exact hb k (kx.2 rfl))
theorem c_ifP {W : (Bool → Prop) → Prop} {Wa Wb : (α → Prop) → Prop} {u w : α} (h : EvT Y s c W) (ha : EvC Y s a Wa) (hb : EvC Y s b Wb) : EvC Y s (.IfExp c a b pos) fun k => W fun x => (x = true → Wa fun z => z = u) ∧ (x = false → Wb fun z => z = w) ∧ k (if x = true then u else w) := fun k w =>
  ev_if (h.q w fun x kx => by
    cases x with
    | true => exact (ha _ (kx.1 rfl)).mono fun A s' ⟨z, e1, e2, e3⟩ => ⟨z, e1, e2, by rw [e3]; exact kx.2.2⟩
    | false => exact (hb _ (kx.2.1 rfl)).mono fun A s' ⟨z, e1, e2, e3⟩ => ⟨z, e1, e2, by rw [e3]; exact kx.2.2⟩)
end
end Sp
set_option maxHeartbeats 4000000
namespace Sp
open PySem L2
open PySem.W (Datum DatumOrd SomeDatum)
instance : Inhabited (Tup α) := ⟨⟨[]⟩⟩
instance [Inhabited α] [Inhabited β] [Inhabited γ] : Inhabited (T3 α β γ) := ⟨⟨default, default, default⟩⟩
instance [Inhabited α] [Inhabited β] [Inhabited γ] [Inhabited δ] : Inhabited (T4 α β γ δ) := ⟨⟨default, default, default, default⟩⟩
instance : Inhabited (Dct κ ν) := ⟨⟨[]⟩⟩
def inR (n : Nat) (i : Int) : Prop := -(n : Int) ≤ i ∧ i < n
def plc (n : Nat) (i : Int) : Nat := (if 0 ≤ i then i else i + n).toNat
def ixD {α : Type} [Inhabited α] (xs : List α) (i : Int) : α := xs.getD (plc xs.length i) default
def ixS (x : Txt) (i : Int) : Txt := [x.getD (plc x.length i) 0]
theorem ixN_plc {n : Nat} {i : Int} (h : inR n i) : ixN n i = some (plc n i) ∧ plc n i < n := by
  unfold inR at h
  unfold ixN plc
  by_cases h0 : 0 ≤ i
  · rw [if_pos h0, if_pos h.2, if_pos h0]
    exact ⟨rfl, by omega⟩
  · rw [if_neg h0, if_pos h.1, if_neg h0]
    exact ⟨rfl, by omega⟩
theorem at_ix {α : Type} [Inhabited α] {xs : List α} {i : Int} (h : inR xs.length i) : atI xs i = some (ixD xs i) := by
  obtain ⟨e, l⟩ := ixN_plc h
  unfold atI ixD
  rw [e]
  show xs[plc xs.length i]? = _
  rw [List.getElem?_eq_getElem l, List.getD_eq_getElem?_getD, List.getElem?_eq_getElem l]
  rfl
theorem at_ixS {x : Txt} {i : Int} (h : inR x.length i) : atI x i = some (x.getD (plc x.length i) 0) := by
  obtain ⟨e, l⟩ := ixN_plc h
  unfold atI
  rw [e]
  show x[plc x.length i]? = _
  rw [List.getElem?_eq_getElem l, List.getD_eq_getElem?_getD, List.getElem?_eq_getElem l]
  rfl
def dgt {κ ν : Type} [DecidableEq κ] [Inhabited ν] (m : List (κ × ν)) (k : κ) : ν := (dval m k).getD default
def EvS (Y : DX) (s : DSt) (es : List Expr) {α : Type} [Enc α] (W : (List α → Prop) → Prop) : Prop := ∀ k : List α → Prop, W k → Evs Y s es fun As s' => ∃ xs : List α, As = xs.map pu ∧ xs.length = es.length ∧ s' = s ∧ k xs
class Ags (τ : Type) where
  pvs : τ → List Pv
instance : Ags Unit := ⟨fun _ => []⟩
instance {α τ : Type} [Enc α] [Ags τ] : Ags (α × τ) := ⟨fun t => pu t.1 :: Ags.pvs t.2⟩
def EvA (Y : DX) (s : DSt) (es : List Expr) {τ : Type} [Ags τ] (W : (τ → Prop) → Prop) : Prop := ∀ k : τ → Prop, W k → Evs Y s es fun As s' => ∃ t : τ, As = Ags.pvs t ∧ s' = s ∧ k t
section
variable {Y : DX} {s : DSt} {e a b c d o : Expr} {es : List Expr} {pos p apos : Pos} {α β γ δ : Type} [Enc α] [Enc β] [Enc γ] [Enc δ]
theorem s_nil : EvS Y s [] (α := α) fun k => k [] := fun k w => evs_nil ⟨[], rfl, rfl, rfl, w⟩
theorem s_cons {W : (α → Prop) → Prop} {V : (List α → Prop) → Prop} (h : EvC Y s e W) (hs : EvS Y s es V) (he : starEach (e :: es) Y.X.env = (false, eval e Y.X.env) :: starEach es Y.X.env := by exact star_c rfl) : EvS Y s (e :: es) fun k => W fun x => V fun xs => k (x :: xs) := fun k w =>
  evs_cons (h.q w fun x w => (hs _ w).mono fun As s' ⟨xs, e1, e2, e3, w⟩ => ⟨x :: xs, by rw [e1]; rfl, by simp [e2], e3, w⟩) he
theorem a_nil : EvA Y s [] (τ := Unit) fun k => k () := fun k w => evs_nil ⟨(), rfl, rfl, w⟩
theorem a_cons {τ : Type} [Ags τ] {W : (α → Prop) → Prop} {V : (τ → Prop) → Prop} (h : EvC Y s e W) (hs : EvA Y s es V) (he : starEach (e :: es) Y.X.env = (false, eval e Y.X.env) :: starEach es Y.X.env := by exact star_c rfl) : EvA Y s (e :: es) (τ := α × τ) fun k => W fun x => V fun t => k (x, t) := fun k w =>
  evs_cons (h.q w fun x w => (hs _ w).mono fun As s' ⟨t, e1, e3, w⟩ => ⟨(x, t), by rw [e1]; rfl, e3, w⟩) he
theorem c_list {W : (List α → Prop) → Prop} (h : EvS Y s es W) (hl : es.length ≤ sizeLine := by show _ ≤ sizeLine; decide) : EvC Y s (.List es pos) W := fun k w =>
  ev_list ((h k w).mono fun As s' ⟨xs, e1, e2, e3, w⟩ => ⟨xs, e1, by omega, xs, rfl, e3, w⟩)
theorem c_tupH {W : (List α → Prop) → Prop} {kk : Nat} (h : EvS Y s es W) (hl : es.length ≤ sizeLine := by show _ ≤ sizeLine; decide) : EvC Y s (.Tuple es kk pos) fun k => W fun xs => k (PySem.W.Tup.mk xs) := fun k w =>
  ev_tupH ((h _ w).mono fun As s' ⟨xs, e1, e2, e3, w⟩ => ⟨xs, e1, by omega, PySem.W.Tup.mk xs, rfl, e3, w⟩)
theorem c_tup2 {W : (α × β × Unit → Prop) → Prop} {kk : Nat} (h : EvA Y s es W) : EvC Y s (.Tuple es kk pos) fun k => W fun t => k (t.1, t.2.1) := fun k w =>
  ev_tup2 ((h _ w).mono fun As s' ⟨t, e1, e3, w⟩ => ⟨t.1, t.2.1, e1, _, rfl, e3, w⟩)
theorem c_tup3 {W : (α × β × γ × Unit → Prop) → Prop} {kk : Nat} (h : EvA Y s es W) : EvC Y s (.Tuple es kk pos) fun k => W fun t => k (PySem.W.T3.mk t.1 t.2.1 t.2.2.1) := fun k w =>
  ev_tup3 ((h _ w).mono fun As s' ⟨t, e1, e3, w⟩ => ⟨t.1, t.2.1, t.2.2.1, e1, _, rfl, e3, w⟩)
theorem c_lenL {W : (List α → Prop) → Prop} (T : Bis Y.X.mg) (hg : Gl Y.X "len") (ha : EvL Y s a W) (he : starEach [a] Y.X.env = (false, eval a Y.X.env) :: starEach [] Y.X.env := by exact star_c rfl) : EvC Y s (.Call (.Name "len" p) [a] [] pos) fun k => W fun xs => k (xs.length : Int) := fun k w =>
  ev_B1 call_len hg (T.no _ (by decide)) boot_len (ha.q w fun A xs hA w F0 σ H F v e0 S r => by
    obtain ⟨q, vs, h1, h2, h3⟩ := hA σ H F v S r
    exact ⟨v, vs.length, rfl, by subst h1; exact .inl ⟨vs, h2, rfl⟩, pu (xs.length : Int), s, F, e0, by rw [Paired.length h3]; rfl, S, _, rfl, rfl, w⟩) (by decide) (by decide) he
theorem c_lenH {W : (Tup α → Prop) → Prop} (T : Bis Y.X.mg) (hg : Gl Y.X "len") (ha : EvC Y s a W) (he : starEach [a] Y.X.env = (false, eval a Y.X.env) :: starEach [] Y.X.env := by exact star_c rfl) : EvC Y s (.Call (.Name "len" p) [a] [] pos) fun k => W fun xs => k (xs.items.length : Int) := fun k w =>
  ev_B1 call_len_seq hg (T.no _ (by decide)) boot_len (ha.q w fun xs w F0 σ H F v e0 S r => by
    obtain ⟨q, vs, h1, h2, h3⟩ := r
    exact ⟨q, vs, by rw [h1], .inr (sqT_ex2 h2 S.ext), pu (xs.items.length : Int), s, F, e0, by rw [Paired.length h3]; rfl, S, _, rfl, rfl, w⟩) (by decide) (by decide) he
theorem c_lenS {W : (List Nat → Prop) → Prop} (T : Bis Y.X.mg) (hg : Gl Y.X "len") (ha : EvC Y s a W) (he : starEach [a] Y.X.env = (false, eval a Y.X.env) :: starEach [] Y.X.env := by exact star_c rfl) : EvC Y s (.Call (.Name "len" p) [a] [] pos) fun k => W fun x => x.length ≤ sizeLine ∧ k (x.length : Int) := fun k w =>
  ev_B1 call_len_str hg (T.no _ (by decide)) boot_len (ha.q w fun x w F0 σ H F v e0 S r => by
    exact ⟨toStr x, by rw [show v = V.str (toStr x) from r], by rw [toStr_len]; exact w.1, pu (x.length : Int), s, F, e0, by rw [toStr_len]; rfl, S, _, rfl, rfl, w.2⟩) (by decide) (by decide) he
section
variable {Wi : (Int → Prop) → Prop}
theorem c_ixL [Inhabited α] {W : (List α → Prop) → Prop} (ha : EvL Y s a W) (hb : EvC Y s b Wi) (hs : PlainIx b := by intro _ _; rfl) : EvC Y s (.Subscript a b pos) fun k => W fun xs => Wi fun i => inR xs.length i ∧ k (ixD xs i) := fun k w =>
  ev2 (pe_ix ix_list pe_we pe_we hs) (ha.q w fun A xs hA w => hb.q w fun i w F0 σ H F v u e0 S rv ru => by
    obtain ⟨p, vs, h1, h2, h3⟩ := hA σ H F v S rv
    obtain ⟨y, hy, ry⟩ := atI_of h3 (at_ix w.1)
    exact ⟨p, vs, i, y, h1, ru, h2, hy, pu (ixD xs i), s, F, e0, ry, S, _, rfl, rfl, w.2⟩)
theorem c_ixH [Inhabited α] {W : (Tup α → Prop) → Prop} (ha : EvC Y s a W) (hb : EvC Y s b Wi) (hs : PlainIx b := by intro _ _; rfl) : EvC Y s (.Subscript a b pos) fun k => W fun xs => Wi fun i => inR xs.items.length i ∧ k (ixD xs.items i) := fun k w =>
  ev2 (pe_ix ix_tup pe_we pe_we hs) (ha.q w fun xs w => hb.q w fun i w F0 σ H F v u e0 S rv ru => by
    obtain ⟨p, vs, h1, h2, h3⟩ := rv
    obtain ⟨y, hy, ry⟩ := atI_of h3 (at_ix w.1)
    exact ⟨p, vs, i, y, h1, ru, sqT_ex2 h2 S.ext, hy, pu (ixD xs.items i), s, F, e0, ry, S, _, rfl, rfl, w.2⟩)
theorem c_ixS {W : (List Nat → Prop) → Prop} (ha : EvC Y s a W) (hb : EvC Y s b Wi) (hs : PlainIx b := by intro _ _; rfl) : EvC Y s (.Subscript a b pos) fun k => W fun x => Wi fun i => x.length ≤ sizeLine ∧ inR x.length i ∧ k (ixS x i) := fun k w =>
  ev2 (pe_ix ix_str pe_we pe_we hs) (ha.q w fun x w => hb.q w fun i w F0 σ H F v u e0 S rv ru =>
    ⟨toStr x, i, _, rv, ru, by rw [toStr_len]; exact w.1, by rw [toStr_cps]; exact at_ixS w.2.1, pu (ixS x i), s, F, e0, rfl, S, _, rfl, rfl, w.2.2⟩)
end
def EvOC (Y : DX) (s : DSt) (e : Option Expr) (W : (Option Int → Prop) → Prop) : Prop := ∀ k : Option Int → Prop, W k → ∀ F0 σ H F, Ext F0 F → Sta Y s σ H F →
  WO Y.X e σ H fun o H' => ∃ F', Ext F0 F' ∧ Sta Y s σ H' F' ∧ k o
theorem o_no : EvOC Y s none fun k => k none := fun k w F0 σ H F e0 S => ⟨fun pins s1 I => (po_none).run pins s1 σ H _ I ⟨F, e0, S, w⟩⟩
theorem o_at {W : (Int → Prop) → Prop} (h : EvC Y s e W) : EvOC Y s (some e) fun k => W fun i => k (some i) := fun k w F0 σ H F e0 S => ⟨fun pins s1 I =>
  (po_some pe_we).run pins s1 σ H _ I (((h _ w) F0 σ H F e0 S).mono fun v H' ⟨_, _, F', e1, r, S', i, ea, es, w⟩ => by subst ea es; exact ⟨i, r, F', e1, S', w⟩)⟩
theorem ev_slC {Q : Pv → DSt → Prop} {r : V → Option Int → Option Int → Hp → VK → Prop} {lo hi : Option Expr} {p2 : Pos} {Wl Wh : (Option Int → Prop) → Prop} (hr : SlR Y.X r) (hl : EvOC Y s lo Wl) (hh : EvOC Y s hi Wh)
    (h : Ev Y s a fun A s1 => s1 = s ∧ ∃ K : Option Int → Option Int → Prop, (Wl fun i => Wh fun j => K i j) ∧ ∀ i j, K i j → ∀ F0 σ H F v, Ext F0 F → Sta Y s σ H F → A.rep Y.X.K F v → r v i j H (Po Y σ F0 Q)) : Ev Y s (.Subscript a (.Slice lo hi none p2) pos) Q := fun F0 σ H F e0 S => by
  refine .of (pe_slice hr pe_we po_wo po_wo) ?_
  refine (h F σ H F (.refl _) S).mono fun v H1 ⟨A, s1, F1, e1, r1, S1, es, K, w, q⟩ => ?_
  subst es
  refine ⟨fun pins sh I => ?_⟩
  refine thn ((hl _ w F1 σ H1 F1 (.refl _) S1).run pins sh I) fun u s2 ⟨o, H2, I2, p2, F2, e2, S2, w⟩ => ⟨o, H2, I2, p2, ?_⟩
  refine ⟨fun pins' s1' I' => ?_⟩
  refine thn ((hh _ w F2 σ H2 F2 (.refl _) S2).run pins' s1' I') fun u' s3 ⟨o', H3, I3, p3, F3, e3, S3, w⟩ => ⟨o', H3, I3, p3, ?_⟩
  exact q _ _ w F0 σ H3 F3 v (((e0.trans e1).trans e2).trans e3) S3 (A.mono r1 (e2.trans e3))
section
variable {lo hi : Option Expr} {p2 : Pos} {Wl Wh : (Option Int → Prop) → Prop}
theorem c_slS {W : (List Nat → Prop) → Prop} (ha : EvC Y s a W) (hl : EvOC Y s lo Wl) (hh : EvOC Y s hi Wh) : EvC Y s (.Subscript a (.Slice lo hi none p2) pos) fun k => W fun x => Wl fun i => Wh fun j => x.length ≤ sizeLine ∧ k (cutD x i j) := fun k w =>
  ev_slC sl_str hl hh (ha.q w fun x w => ⟨rfl, _, w, fun i j w F0 σ H F v e0 S r => ⟨toStr x, r, by rw [toStr_len]; exact w.1, pu (cutD x i j), s, F, e0, by rw [toStr_cut]; rfl, S, _, rfl, rfl, w.2⟩⟩)
theorem po_listC {σ : St} {F0 : Hp} {H F : Hp} {vs : List V} {xs : List α} {k : List α → Prop} (e0 : Ext F0 F) (S : Sta Y s σ H F) (r : Vs Y.X.K F vs xs) (w : k xs) : ∀ p, H p = none → Po Y σ F0 (fun A s' => ∃ x, A = pu x ∧ s' = s ∧ k x) (.ref p) (upd H p (.lst vs)) :=
  po_list e0 S r ⟨xs, rfl, rfl, w⟩
theorem c_slL {W : (List α → Prop) → Prop} (ha : EvL Y s a W) (hl : EvOC Y s lo Wl) (hh : EvOC Y s hi Wh) : EvC Y s (.Subscript a (.Slice lo hi none p2) pos) fun k => W fun x => Wl fun i => Wh fun j => k (cutD x i j) := fun k w =>
  ev_slC sl_list hl hh (ha.q w fun A x hA w => ⟨rfl, _, w, fun i j w F0 σ H F v e0 S r => by
    obtain ⟨q, zs, h1, h2, h3⟩ := hA σ H F v S r
    exact ⟨q, zs, h1, h2, fun l hl => po_listC e0 S (cut_vs h3 i j) w l hl⟩⟩)
theorem c_slH {W : (Tup α → Prop) → Prop} (ha : EvC Y s a W) (hl : EvOC Y s lo Wl) (hh : EvOC Y s hi Wh) : EvC Y s (.Subscript a (.Slice lo hi none p2) pos) fun k => W fun x => Wl fun i => Wh fun j => k (PySem.W.Tup.mk (cutD x.items i j)) := fun k w =>
  ev_slC sl_tupA hl hh (ha.q w fun x w => ⟨rfl, _, w, fun i j w F0 σ H F v e0 S ⟨q, zs, h1, h2, h3⟩ => ⟨q, zs, h1, sqT_ex2 h2 S.ext, fun kk => ⟨pu (PySem.W.Tup.mk (cutD x.items i j)), s, F, e0, ⟨q, zs, rfl, h2, by have := cut_vs h3 i j; rw [cutV_all kk] at this; exact this⟩, S, _, rfl, rfl, w⟩,
    fun _ l hl => ⟨pu (PySem.W.Tup.mk (cutD x.items i j)), s, upd F l (.tup (cutV zs i j)), e0.trans (Ext.grow (S.free hl)), ⟨l, _, rfl, .of upd_same, (cut_vs h3 i j).mono (Ext.grow (S.free hl))⟩, S.newF hl rfl, _, rfl, rfl, w⟩⟩⟩)
end
theorem c_catS {Wa Wb : (List Nat → Prop) → Prop} (ha : EvC Y s a Wa) (hb : EvC Y s b Wb) : EvC Y s (.BinOp a .Add b pos) fun k => Wa fun x => Wb fun y => x.length + y.length ≤ sizeLine ∧ k (x ++ y) := fun k w =>
  ev2 (pe_op op_add_str pe_we pe_we) (ha.q w fun x w => hb.q w fun y w F0 σ H F v u e0 S r1 r2 => ⟨toStr x, toStr y, r1, r2, by rw [toStr_len, toStr_len]; exact w.1, pu (x ++ y), s, F, e0, by rw [toStr_app]; rfl, S, _, rfl, rfl, w.2⟩)
theorem c_catL {Wa Wb : (List α → Prop) → Prop} (ha : EvL Y s a Wa) (hb : EvL Y s b Wb) : EvC Y s (.BinOp a .Add b pos) fun k => Wa fun x => Wb fun y => x.length + y.length ≤ sizeLine ∧ k (x ++ y) := fun k w =>
  ev2 (pe_op op_catF pe_we pe_we) (ha.q w fun A x hA w => hb.q w fun B y hB w F0 σ H F v u e0 S r1 r2 => by
    obtain ⟨p, zs, h1, h2, h3⟩ := hA σ H F v S r1
    obtain ⟨q, ws, g1, g2, g3⟩ := hB σ H F u S r2
    have l1 : zs.length = x.length := Paired.length h3
    have l2 : ws.length = y.length := Paired.length g3
    exact ⟨p, q, zs, ws, h1, g1, h2, g2, by omega, fun l hl => po_listC e0 S (prd_app h3 g3) w.2 l hl⟩)
theorem c_catH {Wa Wb : (Tup α → Prop) → Prop} (ha : EvC Y s a Wa) (hb : EvC Y s b Wb) : EvC Y s (.BinOp a .Add b pos) fun k => Wa fun x => Wb fun y => x.items.length + y.items.length ≤ sizeLine ∧ k (PySem.W.Tup.mk (x.items ++ y.items)) := fun k w =>
  ev2 (pe_op op_catA pe_we pe_we) (ha.q w fun x w => hb.q w fun y w F0 σ H F v u e0 S ⟨p, zs, h1, h2, h3⟩ ⟨q, ws, g1, g2, g3⟩ => by
    have l1 : zs.length = x.items.length := Paired.length h3
    have l2 : ws.length = y.items.length := Paired.length g3
    refine ⟨p, q, zs, ws, h1, g1, sqT_ex2 h2 S.ext, sqT_ex2 g2 S.ext, by omega, fun e => ?_, fun _ e => ?_, fun _ _ l hl => ?_⟩
    · have : x.items = [] := List.eq_nil_of_length_eq_zero (by rw [← l1, e]; rfl)
      exact ⟨pu (PySem.W.Tup.mk (x.items ++ y.items)), s, F, e0, ⟨q, ws, rfl, g2, by rw [this]; exact g3⟩, S, _, rfl, rfl, w.2⟩
    · have : y.items = [] := List.eq_nil_of_length_eq_zero (by rw [← l2, e]; rfl)
      exact ⟨pu (PySem.W.Tup.mk (x.items ++ y.items)), s, F, e0, ⟨p, zs, rfl, h2, by rw [this, List.append_nil]; exact h3⟩, S, _, rfl, rfl, w.2⟩
    · exact ⟨pu (PySem.W.Tup.mk (x.items ++ y.items)), s, upd F l (.tup (zs ++ ws)), e0.trans (Ext.grow (S.free hl)), ⟨l, _, rfl, .of upd_same, Vs.mono (α := α) (prd_app h3 g3) (Ext.grow (S.free hl))⟩, S.newF hl rfl, _, rfl, rfl, w.2⟩)
theorem vs_rep {K : Frag} {F : Hp} {vs : List V} {xs : List α} (h : Vs K F vs xs) : ∀ n : Nat, Vs K F (List.replicate n vs).flatten (List.replicate n xs).flatten
  | 0 => .nil
  | n + 1 => by
    rw [List.replicate_succ, List.replicate_succ, List.flatten_cons, List.flatten_cons]
    exact prd_app h (vs_rep h n)
end
end Sp
set_option maxHeartbeats 4000000
namespace Sp
open PySem L2
open PySem.W (Datum DatumOrd SomeDatum)
section
variable {Y : DX} {s : DSt} {e a b c d o f : Expr} {es : List Expr} {pos p apos : Pos} {α β γ δ : Type} [Enc α] [Enc β] [Enc γ] [Enc δ]
theorem ev_m1C {T id : String} {name : Str} {Q : Pv → DSt → Prop} {r : V → List V → Hp → VK → Prop} (pa : PlainAttrs T) (slot : Slot T name id) (hty : typeOf (.builtin id) = pure (.type "method_descriptor")) (hm : MtR Y.X id r)
    (h : Ev Y s o fun A s1 => (∀ σ H F v, Sta Y s1 σ H F → A.rep Y.X.K F v → tyV Y.X.K T v H) ∧ Ev Y s1 e fun B s2 => ∀ F0 σ H F v u, Ext F0 F → Sta Y s2 σ H F → A.rep Y.X.K F v → B.rep Y.X.K F u → r v [u] H (Po Y σ F0 Q))
    (m : Mx1 Y.X o name apos e pos) : Ev Y s (.Call (.Attribute o name apos) [e] [] pos) Q := fun F0 σ H F e0 S => by
  refine .of (pe_bm pa slot hty hm pe_we (pa_cons pe_we pa_nil m.star) m.base m.few m.line m.star (by rfl)) ?_
  refine (h F σ H F (.refl _) S).mono fun v H1 ⟨A, s1, F1, e1, r1, S1, ht, q⟩ => ⟨ht _ _ _ _ S1 r1, ?_⟩
  refine (q F1 σ H1 F1 (.refl _) S1).mono fun u H2 ⟨B, s2, F2, e2, r2, S2, q⟩ => ?_
  exact q F0 σ H2 F2 v u ((e0.trans e1).trans e2) S2 (A.mono r1 e2) r2
structure Mx2 (X : Cx) (o : Expr) (m : Str) (apos : Pos) (e f : Expr) (pos : Pos) : Prop where
  base : attributeBase o m X.env (eval o X.env) = eval o X.env
  few : ((backTo pos (starEach [e, f] X.env)).all (fun x => !x.1) && (backToKw pos (keywordEach [] X.env)).all (fun x => x.1.isSome)
      && decide (([e, f] : List Expr).length + ([] : List Keyword).length + (if ([] : List Keyword).isEmpty then 0 else 1) < 30)) = true
  line : (apos.endLine == pos.line) = true
  star : starEach [e, f] X.env = (false, eval e X.env) :: starEach [f] X.env
  star2 : starEach [f] X.env = (false, eval f X.env) :: starEach [] X.env
theorem ev_m2C {T id : String} {name : Str} {Q : Pv → DSt → Prop} {r : V → List V → Hp → VK → Prop} (pa : PlainAttrs T) (slot : Slot T name id) (hty : typeOf (.builtin id) = pure (.type "method_descriptor")) (hm : MtR Y.X id r)
    (h : Ev Y s o fun A s1 => (∀ σ H F v, Sta Y s1 σ H F → A.rep Y.X.K F v → tyV Y.X.K T v H) ∧ Ev Y s1 e fun B s2 => Ev Y s2 f fun C s3 => ∀ F0 σ H F v u w, Ext F0 F → Sta Y s3 σ H F → A.rep Y.X.K F v → B.rep Y.X.K F u → C.rep Y.X.K F w → r v [u, w] H (Po Y σ F0 Q))
    (m : Mx2 Y.X o name apos e f pos) : Ev Y s (.Call (.Attribute o name apos) [e, f] [] pos) Q := fun F0 σ H F e0 S => by
  refine .of (pe_bm pa slot hty hm pe_we (pa_cons pe_we (pa_cons pe_we pa_nil m.star2) m.star) m.base m.few m.line m.star (by rw [m.star2]; rfl)) ?_
  refine (h F σ H F (.refl _) S).mono fun v H1 ⟨A, s1, F1, e1, r1, S1, ht, q⟩ => ⟨ht _ _ _ _ S1 r1, ?_⟩
  refine (q F1 σ H1 F1 (.refl _) S1).mono fun u H2 ⟨B, s2, F2, e2, r2, S2, q⟩ => ?_
  refine (q F2 σ H2 F2 (.refl _) S2).mono fun w H3 ⟨C, s3, F3, e3, r3, S3, q⟩ => ?_
  exact q F0 σ H3 F3 v u w (((e0.trans e1).trans e2).trans e3) S3 (A.mono r1 (e2.trans e3)) (B.mono r2 e3) r3
section
variable {Wo We Wf : (List Nat → Prop) → Prop} {Wi : (Int → Prop) → Prop}
theorem ty_txt {x : List Nat} : ∀ σ H F v, Sta Y s σ H F → (pu x).rep Y.X.K F v → tyV Y.X.K "str" v H := fun σ H F v S r => tyV_str r
def startT (x y : Txt) : Bool := Txt.startswith (toStr x) (toStr y)
def endT (x y : Txt) : Bool := Txt.endswith (toStr x) (toStr y)
def splitT (x y : Txt) : List Txt := (Txt.split (toStr x) (toStr y)).map tx
theorem c_start (ho : EvC Y s o Wo) (he : EvC Y s e We) (m : Mx1 Y.X o "startswith" apos e pos := by exact mx1 rfl rfl rfl) : EvC Y s (.Call (.Attribute o "startswith" apos) [e] [] pos) fun k => Wo fun x => We fun y => k (startT x y) := fun k w =>
  ev_m1C PySem.F.plainAttrs_str PySem.F.slot_str_startswith PySem.F.type_str_startswith mt_startswith (ho.q w fun x w => ⟨ty_txt, he.q w fun y w F0 σ H F v u e0 S r r2 => ⟨toStr x, toStr y, r, by rw [show u = V.str (toStr y) from r2], pu (startT x y), s, F, e0, rfl, S, _, rfl, rfl, w⟩⟩) m
theorem c_end (ho : EvC Y s o Wo) (he : EvC Y s e We) (m : Mx1 Y.X o "endswith" apos e pos := by exact mx1 rfl rfl rfl) : EvC Y s (.Call (.Attribute o "endswith" apos) [e] [] pos) fun k => Wo fun x => We fun y => k (endT x y) := fun k w =>
  ev_m1C PySem.F.plainAttrs_str PySem.F.slot_str_endswith PySem.F.type_str_endswith mt_endswith (ho.q w fun x w => ⟨ty_txt, he.q w fun y w F0 σ H F v u e0 S r r2 => ⟨toStr x, toStr y, r, by rw [show u = V.str (toStr y) from r2], pu (endT x y), s, F, e0, rfl, S, _, rfl, rfl, w⟩⟩) m
theorem vs_strs {K : Frag} {F : Hp} : ∀ ys : List Str, Vs K F (ys.map V.str) (ys.map tx)
  | [] => .nil
  | y :: r => .cons (by show V.str y = V.str (toStr (tx y)); rw [toStr_tx]) (vs_strs r)
theorem c_split (ho : EvC Y s o Wo) (he : EvC Y s e We) (m : Mx1 Y.X o "split" apos e pos := by exact mx1 rfl rfl rfl) : EvC Y s (.Call (.Attribute o "split" apos) [e] [] pos) fun k => Wo fun x => We fun y => (y ≠ [] ∧ x.length + 2 ≤ sizeLine) ∧ k (splitT x y) := fun k w =>
  ev_m1C PySem.F.plainAttrs_str PySem.F.slot_str_split PySem.F.type_str_split mt_split (ho.q w fun x w => ⟨ty_txt, he.q w fun y w F0 σ H F v u e0 S r r2 => ⟨toStr x, toStr y, r, by rw [show u = V.str (toStr y) from r2], by
    rw [toStr_len]
    cases y with
    | nil => exact absurd rfl w.1.1
    | cons c y => rfl, by rw [toStr_len]; exact w.1.2, fun l hl => po_listC e0 S (vs_strs _) w.2 l hl⟩⟩) m
theorem c_join {Wl : (List (List Nat) → Prop) → Prop} (ho : EvC Y s o Wo) (he : EvL Y s e Wl) (m : Mx1 Y.X o "join" apos e pos := by exact mx1 rfl rfl rfl) : EvC Y s (.Call (.Attribute o "join" apos) [e] [] pos) fun k => Wo fun x => Wl fun xs => lenSum xs + xs.length * x.length ≤ 16777216 ∧ k (joinT x xs) := fun k w =>
  ev_m1C PySem.F.plainAttrs_str PySem.F.slot_str_join PySem.F.type_str_join mt_join (ho.q w fun x w => ⟨ty_txt, he.q w fun B xs hB w F0 σ H F v u e0 S r r2 => by
    obtain ⟨q, zs, h1, h2, h3⟩ := hB σ H F u S r2
    rw [txts_map h3] at h2
    refine ⟨toStr x, q, xs.map toStr, r, by rw [h1], .inl h2, ?_, pu (joinT x xs), s, F, e0, by rw [toStr_join']; rfl, S, _, rfl, rfl, w.2⟩
    have e1 : (xs.map toStr).map (·.length) = xs.map List.length := by rw [List.map_map]; exact List.map_congr_left fun y _ => toStr_len y
    rw [e1, List.length_map, toStr_len]
    exact w.1⟩) m
end
section
variable {δ : Type} [DecidableEq δ] [Enc δ] [Datum δ] [Dat δ] {Wo : (List δ → Prop) → Prop} {We : (δ → Prop) → Prop}
end
section
variable {κ ν : Type} [DecidableEq κ] [Kk κ] [Enc κ] [KkV κ] [Enc ν] {Wd : (List (κ × ν) → Prop) → Prop} {Wk : (κ → Prop) → Prop} {Wv : (ν → Prop) → Prop}
theorem c_dget [Inhabited ν] (ok : YOk Y) (ha : EvD Y s a Wd) (hb : EvC Y s b Wk) (hs : NoSl b := by intro _ _; rfl) : EvC Y s (.Subscript a b pos) fun k => Wd fun m => Wk fun x => dhas m x = true ∧ k (dgt m x) := fun k w F0 σ H F e0 S => by
  refine .of (pe_dget (by have := ok.room.units; omega) pe_we pe_we hs) ?_
  refine (ha _ w F σ H F (.refl _) S).mono fun v H1 ⟨A, _, F1, e1, r1, S1, m, hA, es, w⟩ => ?_
  subst es
  refine (hb _ w F1 σ H1 F1 (.refl _) S1).mono fun u H2 ⟨_, _, F2, e2, r2, S2, x, ex, es, w⟩ => ?_
  subst ex es
  obtain ⟨q, zs, ev, hr, hz⟩ := hA σ H2 F2 v S2 (A.mono r1 e2)
  obtain ⟨w1, w2⟩ := w
  unfold dhas at w1
  unfold dgt at w2
  rcases kvs_val hz x with ⟨h1, _⟩ | ⟨z, y, h1, h2, h3⟩
  · rw [h1] at w1; cases w1
  · rw [h1] at w2
    exact ⟨q, z, ev, .inl ⟨zs, Kk.key x, hr, KkV.of r2, h2.symm⟩, pu y, _, F2, (e0.trans e1).trans e2, h3, S2, _, rfl, rfl, w2⟩
end
end
end Sp
set_option maxHeartbeats 4000000
namespace Sp
open PySem L2
open PySem.W (Datum DatumOrd SomeDatum)
def maxL {α : Type} [DecidableEq α] [DatumOrd α] [Inhabited α] : List α → α
  | [] => default
  | x :: r => PySem.W.maxOf x r
section
variable {Y : DX} {s : DSt} {e a b c d o f : Expr} {es : List Expr} {pos p apos : Pos} {α β γ δ : Type} [Enc α] [Enc β] [Enc γ] [Enc δ]
section
variable {Wi Wj : (Int → Prop) → Prop} {Wb : (Bool → Prop) → Prop} {Wt : (List Nat → Prop) → Prop}
def intT (x : Txt) : Int := (PySem.intText? (toStr x)).getD 0
theorem c_intS (T : Bis Y.X.mg) (hg : Gl Y.X "int") (ha : EvC Y s a Wt) (he : starEach [a] Y.X.env = (false, eval a Y.X.env) :: starEach [] Y.X.env := by exact star_c rfl) : EvC Y s (.Call (.Name "int" p) [a] [] pos) fun k => Wt fun x => ((PySem.intText? (toStr x)).isSome = true ∧ x.length ≤ 640) ∧ k (intT x) := fun k w =>
  ev_T1 call_int_str hg (T.no _ (by decide)) PySem.Pv.boot_int (ha.q w fun x w F0 σ H F v e0 S h1 => by
    obtain ⟨⟨w1, w2⟩, w3⟩ := w
    unfold intT at w3
    cases hi : PySem.intText? (toStr x) with
    | none => rw [hi] at w1; cases w1
    | some n =>
      rw [hi] at w3
      exact ⟨toStr x, n, by cases h1; rfl, hi, by rw [toStr_len]; exact w2, pu n, s, F, e0, rfl, S, _, rfl, rfl, w3⟩) (by decide) (by decide) he
def strI (n : Int) : Txt := tx (toString n)
theorem c_strI (T : Bis Y.X.mg) (hg : Gl Y.X "str") (ha : EvC Y s a Wi) (he : starEach [a] Y.X.env = (false, eval a Y.X.env) :: starEach [] Y.X.env := by exact star_c rfl) : EvC Y s (.Call (.Name "str" p) [a] [] pos) fun k => Wi fun n => n.natAbs.log2 < 1920 ∧ k (strI n) := fun k w =>
  ev_T1 call_str_int hg (T.no _ (by decide)) PySem.Pv.boot_str (ha.q w fun n w F0 σ H F v e0 S h1 => ⟨n, by cases h1; rfl, w.1, pu (strI n), s, F, e0, (by show V.str _ = V.str (toStr (tx _)); rw [toStr_tx]), S, _, rfl, rfl, w.2⟩) (by decide) (by decide) he
theorem c_max2 (ok : YOk Y) (T : Bis Y.X.mg) (hg : Gl Y.X "max") (ha : EvC Y s a Wi) (hb : EvC Y s b Wj)
    (he : starEach [a, b] Y.X.env = (false, eval a Y.X.env) :: starEach [b] Y.X.env := by exact star_c rfl) (he2 : starEach [b] Y.X.env = (false, eval b Y.X.env) :: starEach [] Y.X.env := by exact star_c rfl) (hpl : (backTo pos (starEach [b] Y.X.env)).any (·.1) = false := by exact star_any rfl) :
    EvC Y s (.Call (.Name "max" p) [a, b] [] pos) fun k => Wi fun i => Wj fun j => k (max i j) := fun k w =>
  ev_B2 (call_max2 ok.calm) hg (T.no _ (by decide)) PyProof.Rows.boot_max (ha.q w fun i w => hb.q w fun j w F0 σ H F v u e0 S r r2 => ⟨i, j, by rw [show v = .int i from r, show u = .int j from r2], pu (max i j), s, F, e0, (by
    show V.int (if j > i then j else i) = V.int (max i j)
    rw [Int.max_def]
    split <;> split <;> first | rfl | (congr 1; omega)), S, _, rfl, rfl, w⟩) (by decide) (by decide) he he2 hpl
end
section
variable {δ : Type} [DecidableEq δ] [Enc δ] [DatumOrd δ] [Dat δ] {W : (List δ → Prop) → Prop}
theorem c_sorted [Srtb δ] (ok : YOk Y) (T : Bis Y.X.mg) (hg : Gl Y.X "sorted") (ha : EvL Y s a W) (hd : Datum.depth δ ≤ 60 := by decide) (he : starEach [a] Y.X.env = (false, eval a Y.X.env) :: starEach [] Y.X.env := by exact star_c rfl) :
    EvC Y s (.Call (.Name "sorted" p) [a] [] pos) fun k => W fun xs => k (srt xs) := fun k w =>
  ev_B1 (cr_sortedF (α := δ) ok.room.units hd) hg (T.no _ (by decide)) PyProof.Rows.boot_sorted (ha.q w fun A xs hA w F0 σ H F v e0 S r => by
    obtain ⟨q, zs, h1, h2, h3⟩ := hA σ H F v S r
    exact ⟨F, v, q, zs, xs, rfl, h1, h2, h3, S.ext, fun q' zs' hq' r' => po_listC e0 S r' w q' hq'⟩) (by decide) (by decide) he
theorem c_max [Inhabited δ] (ok : YOk Y) (T : Bis Y.X.mg) (hg : Gl Y.X "max") (ha : EvL Y s a W) (hd : Datum.depth δ ≤ 60 := by decide) (he : starEach [a] Y.X.env = (false, eval a Y.X.env) :: starEach [] Y.X.env := by exact star_c rfl) :
    EvC Y s (.Call (.Name "max" p) [a] [] pos) fun k => W fun xs => xs ≠ [] ∧ k (maxL xs) := fun k w =>
  ev_B1 (cr_maxF (α := δ) ok.calm ok.room.units hd) hg (T.no _ (by decide)) PyProof.Rows.boot_max (ha.q w fun A xs hA w F0 σ H F v e0 S r => by
    obtain ⟨q, zs, h1, h2, h3⟩ := hA σ H F v S r
    obtain ⟨w1, w2⟩ := w
    cases xs with
    | nil => exact absurd rfl w1
    | cons x xs => exact ⟨F, v, q, zs, x, xs, rfl, h1, h2, h3, S.ext, fun z r' => ⟨pu (PySem.W.maxOf x xs), s, F, e0, r', S, _, rfl, rfl, w2⟩⟩) (by decide) (by decide) he
end
section
variable {κ ν : Type} [DecidableEq κ] [Kk κ] [Enc κ] [KkV κ] [Enc ν] {W : (List (κ × ν) → Prop) → Prop}
theorem po_lock {σ : St} {F0 H F : Hp} {zs : List (Key × V)} {m : List (κ × ν)} {k : Dct κ ν → Prop} (e0 : Ext F0 F) (S : Sta Y s σ H F) (r : KVs Y.X.K F zs m) (w : k (Dct.mk m)) (q : Addr) (hq : H q = none) :
    ∃ d u, (upd H q (.dK zs)) d = some u ∧ Mut (some u) ∧ ∀ od, Po Y σ F0 (fun A s' => ∃ x, A = pu x ∧ s' = s ∧ k x) (.ref q) (upd (upd H q (.dK zs)) d (.frz od u)) :=
  ⟨q, .dK zs, upd_same, trivial, fun od => by
    rw [upd_upd]
    obtain ⟨F', e1, r', S'⟩ := pp_dict (Y := Y) e0 S r q hq od
    exact ⟨_, s, F', e1, r', S', _, rfl, rfl, w⟩⟩
end
theorem c_listH {W : (Tup α → Prop) → Prop} (T : Bis Y.X.mg) (hg : Gl Y.X "list") (ha : EvC Y s a W) (he : starEach [a] Y.X.env = (false, eval a Y.X.env) :: starEach [] Y.X.env := by exact star_c rfl) : EvC Y s (.Call (.Name "list" p) [a] [] pos) fun k => W fun xs => k xs.items := fun k w =>
  ev_T1 call_list_of hg (T.no _ (by decide)) PyProof.Rows.boot_list (ha.q w fun xs w F0 σ H F v e0 S ⟨q, zs, h1, h2, h3⟩ => ⟨q, zs, by rw [h1], .inr (sqT_ex2 h2 S.ext), fun l hl => po_listC e0 S h3 w l hl⟩) (by decide) (by decide) he
theorem c_tupL {W : (List α → Prop) → Prop} (T : Bis Y.X.mg) (hg : Gl Y.X "tuple") (ha : EvL Y s a W) (he : starEach [a] Y.X.env = (false, eval a Y.X.env) :: starEach [] Y.X.env := by exact star_c rfl) : EvC Y s (.Call (.Name "tuple" p) [a] [] pos) fun k => W fun xs => k (PySem.W.Tup.mk xs) := fun k w =>
  ev_T1 call_tuple_of hg (T.no _ (by decide)) PyProof.Rows.boot_tuple (ha.q w fun A xs hA w F0 σ H F v e0 S r => by
    obtain ⟨q, zs, h1, h2, h3⟩ := hA σ H F v S r
    exact ⟨q, zs, by rw [h1], .inl ⟨h2, fun l hl => ⟨pu (PySem.W.Tup.mk xs), s, upd F l (.tup zs), e0.trans (Ext.grow (S.free hl)), ⟨l, zs, rfl, .of upd_same, h3.mono (Ext.grow (S.free hl))⟩, S.newF hl rfl, _, rfl, rfl, w⟩⟩⟩) (by decide) (by decide) he
theorem c_tupT {W : (Tup α → Prop) → Prop} (T : Bis Y.X.mg) (hg : Gl Y.X "tuple") (ha : EvC Y s a W) (he : starEach [a] Y.X.env = (false, eval a Y.X.env) :: starEach [] Y.X.env := by exact star_c rfl) : EvC Y s (.Call (.Name "tuple" p) [a] [] pos) fun k => W fun xs => k xs := fun k w =>
  ev_T1 call_tuple_of hg (T.no _ (by decide)) PyProof.Rows.boot_tuple (ha.q w fun xs w F0 σ H F v e0 S ⟨q, zs, h1, h2, h3⟩ => ⟨q, zs, by rw [h1], .inr ⟨sqT_ex2 h2 S.ext, pu xs, s, F, e0, ⟨q, zs, rfl, h2, h3⟩, S, _, rfl, rfl, w⟩⟩) (by decide) (by decide) he
end
end Sp
set_option maxHeartbeats 4000000
namespace Sp
open PySem L2
open PySem.W (Datum DatumOrd SomeDatum)
def ItC (Y : DX) (s : DSt) (tg iter : Expr) {β : Type} [Enc β] (W : (List β → Prop) → Prop) : Prop := ∀ k : List β → Prop, W k → EvItE Y s tg iter fun items s' => s' = s ∧ k items
section
variable {Y : DX} {s : DSt} {e a b c d o tg : Expr} {es elts : List Expr} {pos p apos cpos tpos : Pos} {kk : Nat} {α β γ : Type} [Enc α] [Enc β] [Enc γ] {κ ν : Type} [Kk κ] [Enc κ] [KkV κ] [Enc ν]
theorem i_list {tg iter : Expr} {WW : (List α → Prop) → Prop} (ha : EvC Y s iter WW) : ItC Y s tg iter fun kk => WW fun xs => kk xs := fun kk ww =>
  ⟨_, pi_list pe_we, fun F0 σ H F R e0 S k => (ha _ ww F0 σ H F e0 S).mono fun v H' ⟨_, _, F', e1, rr, S', xs, ea, es, ww⟩ => by
    subst ea es
    obtain ⟨p, vs, ev, hq, rv⟩ := rr
    exact ⟨p, ev, ⟨vs, sqL_ext hq S'.ext⟩, k _ _ F' _ _ e1 S' (fun i H2 F2 e2 e3 => ⟨fun x hx => by
      have hq2 := sqL_ext (sqL_ext hq e2) e3
      obtain ⟨w, hw, rw'⟩ := prd_get rv hx
      exact ⟨⟨vs, w, hq2, hw⟩, fun v H3 ⟨eh, hv⟩ => .inl ⟨eh, by
        have := hv vs hq2
        rw [hw] at this
        cases this
        exact Enc.mono rw' e2⟩⟩, fun hl => ⟨vs, sqL_ext (sqL_ext hq e2) e3, by rw [rv.length]; exact hl⟩⟩) ⟨rfl, ww⟩⟩⟩
theorem i_tup {tg iter : Expr} {WW : (Tup α → Prop) → Prop} (ha : EvC Y s iter WW) : ItC Y s tg iter fun kk => WW fun xs => kk xs.items := fun kk ww =>
  ⟨_, pi_tup pe_we, fun F0 σ H F R e0 S k => (ha _ ww F0 σ H F e0 S).mono fun v H' ⟨_, _, F', e1, rr, S', xs, ea, es, ww⟩ => by
    subst ea es
    obtain ⟨p, vs, ev, hq, rv⟩ := rr
    exact ⟨p, ev, ⟨vs, sqT_ex2 hq S'.ext⟩, k _ _ F' _ _ e1 S' (fun i H2 F2 e2 e3 => ⟨fun x hx => by
      have hq2 := sqT_ex2 (K := Y.X.K) (sqT_ex2 hq e2) e3
      obtain ⟨w, hw, rw'⟩ := prd_get rv hx
      exact ⟨⟨vs, w, hq2, hw⟩, fun v H3 ⟨eh, hv⟩ => .inl ⟨eh, by
        have := hv vs hq2
        rw [hw] at this
        cases this
        exact Enc.mono rw' e2⟩⟩, fun hl => ⟨vs, sqT_ex2 (sqT_ex2 hq e2) e3, by rw [rv.length]; exact hl⟩⟩) ⟨rfl, ww⟩⟩⟩
theorem i_txt {tg iter : Expr} {WW : (List Nat → Prop) → Prop} (ha : EvC Y s iter WW) : ItC Y s tg iter fun kk => WW fun x => kk (x.map fun c => [c]) := fun kk ww =>
  ⟨_, pi_str pe_we, fun F0 σ H F R e0 S k => (ha _ ww F0 σ H F e0 S).mono fun v H' ⟨_, _, F', e1, rr, S', x, ea, es, ww⟩ => by
    subst ea es
    have ev := rr
    exact ⟨toStr x, ev, k _ _ F' _ _ e1 S' (fun i H2 F2 e2 e3 => ⟨fun y hy => by
      rw [List.getElem?_map] at hy
      cases q : x[i]? with
      | none => rw [q] at hy; cases hy
      | some c =>
        rw [q] at hy
        cases hy
        have hl : i < (toStr x).cps.size := by
          have := (List.getElem?_eq_some_iff.mp q).1
          simpa [toStr] using this
        refine ⟨hl, fun v H3 ⟨eh, c', hc, hv⟩ => .inl ⟨eh, ?_⟩⟩
        have e9 : c' = c := by
          have : x[i]? = some c' := by simpa [toStr] using hc
          rw [q] at this
          exact (Option.some.inj this).symm
        subst e9
        exact hv, fun hl => by
      show (toStr x).cps.size ≤ i
      simpa [toStr] using hl⟩) ⟨rfl, ww⟩⟩⟩
theorem i_range1 (_ok : YOk Y) (T : Bis Y.X.mg) (hg : Gl Y.X "range") {WW : (Int → Prop) → Prop} (ha : EvC Y s a WW) (hs : starEach [a] Y.X.env = [(false, eval a Y.X.env)] := by exact star_1 rfl) : ItC Y s tg (.Call (.Name "range" p) [a] [] pos) fun kk => WW fun n => (-(2 ^ 62) ≤ n ∧ n < 2 ^ 62) ∧ kk ((List.range n.toNat).map fun i : Nat => (i : Int)) := fun kk ww =>
  ⟨_, pi_range1 hg (T.no _ (by decide)) (pa_cons pe_we pa_nil hs) hs, fun F0 σ H F R e0 S k => (ha _ ww F0 σ H F e0 S).mono fun v H' ⟨_, _, F', e1, rr, S', n, ea, es, ww⟩ => by
    subst ea es
    have r := rr
    obtain ⟨hc, ww⟩ := ww
    exact ⟨n, by rw [show v = .int n from r], hc.1, hc.2, k _ _ F' _ _ e1 S' (fun i H2 F2 e2 e3 => ⟨fun x hx => by
      rw [List.getElem?_map] at hx
      cases q : (List.range n.toNat)[i]? with
      | none => rw [q] at hx; cases hx
      | some j =>
        rw [q] at hx
        cases hx
        obtain ⟨h5, h6⟩ := List.getElem?_eq_some_iff.mp q
        rw [List.getElem_range] at h6
        subst h6
        rw [List.length_range] at h5
        refine ⟨h5, fun v H3 ⟨eh, hv⟩ => .inl ⟨eh, ?_⟩⟩
        rw [hv]
        show V.int (0 + (i : Int)) = V.int i
        rw [Int.zero_add], fun hl => by
      show n.toNat ≤ i
      simpa using hl⟩) ⟨rfl, ww⟩⟩⟩
theorem i_enumS {Y : DX} {s : DSt} {a : Expr} {elts : List Expr} {kk : Nat} {p pos tpos : Pos} (_ok : YOk Y) (T : Bis Y.X.mg) (hg : Gl Y.X "enumerate") {WW : (List Nat → Prop) → Prop} (ha : EvC Y s a WW) (hs : starEach [a] Y.X.env = [(false, eval a Y.X.env)] := by exact star_1 rfl) : ItC Y s (.Tuple elts kk tpos) (.Call (.Name "enumerate" p) [a] [] pos) fun kk => WW fun x => kk (enumD (x.map fun c => [c])) := fun kk ww =>
  ⟨_, pi_enumS hg (T.no _ (by decide)) (pa_cons pe_we pa_nil hs) hs, fun F0 σ H F R e0 S k => (ha _ ww F0 σ H F e0 S).mono fun v H' ⟨_, _, F', e1, rr, S', x, ea, es, ww⟩ => by
    subst ea es
    have ev := rr
    exact ⟨toStr x, by rw [show v = V.str (toStr x) from ev], k _ _ F' _ _ e1 S' (fun i H2 F2 e2 e3 => ⟨fun y hy => by
      unfold enumD at hy
      rw [List.getElem?_mapIdx, List.getElem?_map] at hy
      cases q : x[i]? with
      | none => rw [q] at hy; cases hy
      | some c =>
        rw [q] at hy
        cases hy
        have hl : i < (toStr x).cps.size := by
          have := (List.getElem?_eq_some_iff.mp q).1
          simpa [toStr] using this
        refine ⟨hl, fun v H3 ⟨t, c', ev, ht, eh, hc⟩ => .inr ⟨t, _, ht, eh, ev, fun F3 e4 hs3 => ?_⟩⟩
        have e9 : c' = c := by
          have : x[i]? = some c' := by simpa [toStr] using hc
          rw [q] at this
          cases this
          rfl
        subst e9
        exact ⟨t, _, _, ev, hs3, rfl, rfl⟩, fun hl => by
      show (toStr x).cps.size ≤ i
      unfold enumD at hl
      simpa [toStr] using hl⟩) ⟨rfl, ww⟩⟩⟩
theorem i_range2 {Wa Wb : (Int → Prop) → Prop} (_ok : YOk Y) (T : Bis Y.X.mg) (hg : Gl Y.X "range") (ha : EvC Y s a Wa) (hb : EvC Y s b Wb)
    (hs : starEach [a, b] Y.X.env = [(false, eval a Y.X.env), (false, eval b Y.X.env)] := by rfl) (hs2 : starEach [b] Y.X.env = [(false, eval b Y.X.env)] := by exact star_1 rfl) : ItC Y s tg (.Call (.Name "range" p) [a, b] [] pos) fun kk => Wa fun n => Wb fun m => (-(2 ^ 62) ≤ n ∧ n < 2 ^ 62 ∧ -(2 ^ 62) ≤ m ∧ m < 2 ^ 62) ∧ kk ((List.range (m - n).toNat).map fun i : Nat => n + (i : Int)) := fun kk ww =>
  ⟨_, pi_range2 hg (T.no _ (by decide)) (pa_cons pe_we (pa_cons pe_we pa_nil hs2) (by rw [hs, hs2])) hs hs2, fun F0 σ H F R e0 S k => (ha _ ww F σ H F (.refl _) S).mono fun v H' ⟨_, _, F', e1, r, S', n, ea, es, ww⟩ => by
    subst ea es
    refine (hb _ ww F' σ H' F' (.refl _) S').mono fun w H2 ⟨_, _, F2, e2, r2, S2, m, eb, es, ww⟩ => ?_
    subst eb es
    obtain ⟨hc, ww⟩ := ww
    refine ⟨n, m, by rw [show v = .int n from r, show w = .int m from r2], hc, k _ _ F2 _ _ ((e0.trans e1).trans e2) S2 (fun i H2 F2 e2 e3 => ⟨fun x hx => ?_, fun hl => ?_⟩) ⟨rfl, ww⟩⟩
    · rw [List.getElem?_map] at hx
      cases q : (List.range (m - n).toNat)[i]? with
      | none => rw [q] at hx; cases hx
      | some j =>
        rw [q] at hx
        cases hx
        obtain ⟨h5, h6⟩ := List.getElem?_eq_some_iff.mp q
        rw [List.getElem_range] at h6
        subst h6
        rw [List.length_range] at h5
        exact ⟨h5, fun v H3 ⟨eh, hv⟩ => .inl ⟨eh, by rw [hv]; rfl⟩⟩
    · show (m - n).toNat ≤ i
      simpa using hl⟩
end
end Sp
set_option maxHeartbeats 4000000
namespace Sp
open PySem L2
open PySem.W (Datum DatumOrd SomeDatum)
def EvTs (Y : DX) (s : DSt) (ifs : List Expr) (W : (Bool → Prop) → Prop) : Prop := ∀ k : Bool → Prop, W k → Ets Y s ifs fun b s' => s' = s ∧ k b
inductive Each {β α : Type} (P : β → α → Prop) : List β → List α → Prop
  | nil : Each P [] []
  | cons {x : β} {y : α} {xs : List β} {ys : List α} : P x y → Each P xs ys → Each P (x :: xs) (y :: ys)
theorem Each.snoc {β α : Type} {P : β → α → Prop} {xs : List β} {ys : List α} (h : Each P xs ys) {x : β} {y : α} (p : P x y) : Each P (xs ++ [x]) (ys ++ [y]) := by
  induction h with
  | nil => exact .cons p .nil
  | cons q _ ih => exact .cons q ih
theorem Each.len {β α : Type} {P : β → α → Prop} {xs : List β} {ys : List α} (h : Each P xs ys) : ys.length = xs.length := by
  induction h with
  | nil => rfl
  | cons q _ ih => simp [ih]
section
variable {Y : DX} {s : DSt} {tg iter elt : Expr} {ifs : List Expr} {pos spos py gpos p : Pos} {scope : Scope} {α β : Type} [Enc α] [Enc β] {W : (List β → Prop) → Prop} {D : DE} {k : Nat}
theorem ts_nil : EvTs Y s [] fun k => k true := fun k w => ets_nil ⟨rfl, w⟩
theorem ts_one {c : Expr} {V : (Bool → Prop) → Prop} (h : EvT Y s c V) : EvTs Y s [c] V := fun k w => ets_one (h k w)
theorem EvTs.pp {c : List Expr} {V : (Bool → Prop) → Prop} {x : Bool} (h : EvTs Y s c V) (w : V fun y => y = x) : Ets Y s c fun b s' => b = x ∧ s' = s := fun F0 σ H F e0 S => (h _ w F0 σ H F e0 S).mono fun b H' ⟨s', F', e1, S', q1, q2⟩ => ⟨s', F', e1, S', q2, q1⟩
variable {Wc : β → (Bool → Prop) → Prop} {We : β → (α → Prop) → Prop}
structure LcW (Y : DX) (s : DSt) (scope : Scope) (own : List (Str × Nat)) (t : TgD β) (tg iter elt : Expr) (ifs : List Expr) {α : Type} [Enc α] (W : (List α → Prop) → Prop) : Prop where
  bk : BlkOk Y.X.N Y.X.env.scope scope own
  tg0 : ∀ z, TgOk (blkY Y scope z) tg (t.g Y.X.K) t.ws t.f
  hs : ∀ x, foldedSetIterable iter Y.X.env x = pure x
  run : ∀ k, W k → ∃ G, EvItE (β := β) Y s tg iter G ∧ LcG Y scope (own.map (·.2)) tg elt ifs (t.g Y.X.K) t.ws t.f G fun (ys : List α) s' => s' = s ∧ k ys
theorem c_L {t : TgD β} {own : List (Str × Nat)} {W : (List α → Prop) → Prop} (ok : YOk Y) (h : LcW Y s scope own t tg iter elt ifs W) : EvC Y s (.ListComp elt [⟨tg, iter, ifs, 0⟩] scope pos) W := fun k w => by
  obtain ⟨G, hi, L⟩ := h.run k w
  refine ev_lcE (α := α) ok hi h.bk h.tg0 (fun items s' g => ?_) h.hs
  obtain ⟨Iv, L, h0, hQ⟩ := L items s' g
  exact ⟨Iv, L, h0, fun ys gs iv => ⟨ys, rfl, hQ ys gs iv⟩⟩
theorem w1_asgL {t : TgD β} {own : List (Str × Nat)} {W : (List α → Prop) → Prop} {y : Str} {i : Nat} {k : List α → Prop} (ok : YOk Y) (hy : Y.X.N[i]? = some y) (h : LcW Y s scope own t tg iter elt ifs W) (w : W k) (hQ : ∀ ys, k ys → D.nx ⟨s.ρ.set i (some (pu ys)), s.gs⟩)
    (hyl : Y.X.env.scope.names.lookup y = some .local := by rfl) (hsw : swapsWith (.ListComp elt [⟨tg, iter, ifs, 0⟩] scope pos) (some (.Name y py)) spos.line Y.X.env = pure true := by rfl) : W1 Y s (.Assign [.Name y py] (.ListComp elt [⟨tg, iter, ifs, 0⟩] scope pos) spos) D := fun F0 σ H F e0 S => by
  obtain ⟨G, ⟨wi, hp, hw⟩, L⟩ := h.run k w
  have P := ps_setLc (tt := fun σ H Q => ∀ z, WTs (blkX Y.X scope z) ifs σ H Q) (te := fun σ H Q => ∀ z, WE (blkX Y.X scope z) elt σ H Q) ok.calm ok.nd hy hyl hsw hp h.bk (fun s H C cl fp => (h.tg0 ⟨s, H, C, cl, fp⟩).1) (fun s H C cl fp => ⟨fun pins s' σ H' Q I h => (h ⟨s, H, C, cl, fp⟩).run pins s' I⟩) (fun s H C cl fp => ⟨fun pins s' σ H' Q I h => (h ⟨s, H, C, cl, fp⟩).run pins s' I⟩) h.hs
  refine WP.of P ?_
  show tLc wi (t.g Y.X.K) _ _ _ σ H (fun x H1 => gName i x σ H1 (D.to Y F0).nx)
  show wi σ H _
  refine hw F0 σ H F _ e0 S fun J H1 F1 items s' e1 S1 K1 q => ?_
  obtain ⟨Iv, L, h0, hQ2⟩ := L items s' q
  have t := tlc_ok (own := own) (wi := fun _ _ R => R J H1) (F0 := F1) (σ := σ) (H := H1) (Qf := fun x H1 => gName i x σ H1 (D.to Y F0).nx) (fun R k => k J H1 F1 (.refl _) S1 K1) L h0 fun D2 H' F' ys gs e2 S2 iv => by
    obtain ⟨hF, o, ho, hot, vs, ev, rv⟩ := S2.cell (i := 0) (p := D2) (c := lstc ys) rfl
    subst ev
    have S3 := S2.freeze (i := 0) (p := D2) (c := lstc ys) rfl ho
    obtain ⟨es, kk⟩ := hQ2 ys gs iv
    have hq := hQ ys kk
    refine ⟨⟨s'.ρ.set i (some (pu ys)), gs⟩, upd F' D2 (.lst vs), (e1.trans e2).trans (Ext.grow hF), S3.set (A := pu ys) ⟨D2, vs, rfl, .of upd_same, rv.mono (Ext.grow hF)⟩ i, ?_⟩
    rw [← es] at hq
    exact hq
  exact t
theorem lcg_quiet (t : TgD β) (own : List (Str × Nat)) (c : β → Bool) (h : β → α) (items : List β) (tg0 : ∀ z, TgOk (blkY Y scope z) tg (t.g Y.X.K) t.ws t.f) (small : items.length ≤ sizeLine)
    (ht : ∀ z x D ys, EvTs (blkY Y scope z) ⟨t.f x (wipeR s.ρ (own.map (·.2))), (D, lstc (α := α) ys) :: s.gs⟩ ifs (Wc x)) (he : ∀ z x D ys, EvC (blkY Y scope z) ⟨t.f x (wipeR s.ρ (own.map (·.2))), (D, lstc (α := α) ys) :: s.gs⟩ elt (We x))
    (hc : ∀ x ∈ items, Wc x fun b => b = c x) (hv : ∀ x ∈ items, c x = true → We x fun y => y = h x) (sub : ∀ j ∈ t.ws, j ∈ own.map (·.2)) :
    ∃ Iv : Nat → List α → Gs → Prop, LcTurns Y s scope (own.map (·.2)) tg elt ifs (t.g Y.X.K) t.ws t.f items Iv ∧ Iv 0 [] s.gs ∧ ∀ ys gs, Iv items.length ys gs → ys = (items.filter c).map h ∧ gs = s.gs :=
  ⟨_, lc_quiet c h tg0 sub small (fun z x D ys hx => (ht z x D ys).pp (hc x hx)) (fun z x D ys hx hcx => (he z x D ys).pp (hv x hx hcx)), ⟨by simp, rfl⟩, fun ys gs ⟨e1, e2⟩ => ⟨by rw [e1, List.take_length], e2⟩⟩
theorem l_lc (t : TgD β) (own : List (Str × Nat)) (c : β → Bool) (h : β → α) (ok : YOk Y) (hi : ItC Y s tg iter W) (bk : BlkOk Y.X.N Y.X.env.scope scope own) (tg0 : ∀ z, TgOk (blkY Y scope z) tg (t.g Y.X.K) t.ws t.f)
    (ht : ∀ z x D ys, EvTs (blkY Y scope z) ⟨t.f x (wipeR s.ρ (own.map (·.2))), (D, lstc (α := α) ys) :: s.gs⟩ ifs (Wc x)) (he : ∀ z x D ys, EvC (blkY Y scope z) ⟨t.f x (wipeR s.ρ (own.map (·.2))), (D, lstc (α := α) ys) :: s.gs⟩ elt (We x))
    (sub : ∀ j ∈ t.ws, j ∈ own.map (·.2) := by decide) (hs : ∀ x, foldedSetIterable iter Y.X.env x = pure x := by intro _; rfl) :
    LcW Y s scope own t tg iter elt ifs fun k => W fun items => items.length ≤ sizeLine ∧ (∀ x ∈ items, Wc x fun b => b = c x) ∧ (∀ x ∈ items, c x = true → We x fun y => y = h x) ∧ k ((items.filter c).map h) :=
  ⟨bk, tg0, hs, fun k w => ⟨_, hi _ w, fun items s' ⟨es, w1, w2, w3, w4⟩ => by
    subst es
    obtain ⟨Iv, L, h0, hQ⟩ := lcg_quiet (Y := Y) (s := s') t own c h items tg0 w1 ht he w2 w3 sub
    exact ⟨Iv, L, h0, fun ys gs iv => by obtain ⟨e1, e2⟩ := hQ ys gs iv; subst e1 e2; exact ⟨rfl, w4⟩⟩⟩⟩
theorem l_lc0 (t : TgD β) (own : List (Str × Nat)) (h : β → α) (ok : YOk Y) (hi : ItC Y s tg iter W) (bk : BlkOk Y.X.N Y.X.env.scope scope own) (tg0 : ∀ z, TgOk (blkY Y scope z) tg (t.g Y.X.K) t.ws t.f)
    (he : ∀ z x D ys, EvC (blkY Y scope z) ⟨t.f x (wipeR s.ρ (own.map (·.2))), (D, lstc (α := α) ys) :: s.gs⟩ elt (We x))
    (sub : ∀ j ∈ t.ws, j ∈ own.map (·.2) := by decide) (hs : ∀ x, foldedSetIterable iter Y.X.env x = pure x := by intro _; rfl) :
    LcW Y s scope own t tg iter elt [] fun k => W fun items => items.length ≤ sizeLine ∧ (∀ x ∈ items, We x fun y => y = h x) ∧ k (items.map h) :=
  ⟨bk, tg0, hs, fun k w => ⟨_, hi _ w, fun items s' ⟨es, w1, w3, w4⟩ => by
    subst es
    obtain ⟨Iv, L, h0, hQ⟩ := lcg_quiet (Y := Y) (s := s') (Wc := fun _ k => k true) t own (fun _ => true) h items tg0 w1 (fun _ _ _ _ => ts_nil) he (fun _ _ => rfl) (fun x hx _ => w3 x hx) sub
    exact ⟨Iv, L, h0, fun ys gs iv => by obtain ⟨e1, e2⟩ := hQ ys gs iv; rw [List.filter_eq_self.mpr (fun _ _ => rfl)] at e1; subst e1 e2; exact ⟨rfl, w4⟩⟩⟩⟩
theorem l_lcX0 (t : TgD β) (own : List (Str × Nat)) (ok : YOk Y) (hi : ItC Y s tg iter W) (bk : BlkOk Y.X.N Y.X.env.scope scope own) (tg0 : ∀ z, TgOk (blkY Y scope z) tg (t.g Y.X.K) t.ws t.f)
    (he : ∀ z x D ys, EvC (blkY Y scope z) ⟨t.f x (wipeR s.ρ (own.map (·.2))), (D, lstc (α := α) ys) :: s.gs⟩ elt (We x))
    (sub : ∀ j ∈ t.ws, j ∈ own.map (·.2) := by decide) (hs : ∀ x, foldedSetIterable iter Y.X.env x = pure x := by intro _; rfl) :
    LcW Y s scope own t tg iter elt [] fun k => W fun items => items.length ≤ sizeLine ∧ ∃ h : β → α, (∀ x ∈ items, We x fun y => y = h x) ∧ k (items.map h) :=
  ⟨bk, tg0, hs, fun k w => ⟨_, hi _ w, fun items s' ⟨es, w1, h, w3, w4⟩ => by
    subst es
    obtain ⟨Iv, L, h0, hQ⟩ := lcg_quiet (Y := Y) (s := s') (Wc := fun _ k => k true) t own (fun _ => true) h items tg0 w1 (fun _ _ _ _ => ts_nil) he (fun _ _ => rfl) (fun x hx _ => w3 x hx) sub
    exact ⟨Iv, L, h0, fun ys gs iv => by obtain ⟨e1, e2⟩ := hQ ys gs iv; rw [List.filter_eq_self.mpr (fun _ _ => rfl)] at e1; subst e1 e2; exact ⟨rfl, w4⟩⟩⟩⟩
theorem l_lcN (t : TgD β) (own : List (Str × Nat)) (ok : YOk Y) (hi : ItC Y s tg iter W) (bk : BlkOk Y.X.N Y.X.env.scope scope own) (tg0 : ∀ z, TgOk (blkY Y scope z) tg (t.g Y.X.K) t.ws t.f)
    (he : ∀ z x D ys, EvC (blkY Y scope z) ⟨t.f x (wipeR s.ρ (own.map (·.2))), (D, lstc (α := α) ys) :: s.gs⟩ elt (We x))
    (sub : ∀ j ∈ t.ws, j ∈ own.map (·.2) := by decide) (hs : ∀ x, foldedSetIterable iter Y.X.env x = pure x := by intro _; rfl) :
    LcW Y s scope own t tg iter elt [] fun k => W fun items => items.length ≤ sizeLine ∧ ∃ P : β → α → Prop, (∀ x ∈ items, We x (P x)) ∧ ∀ ys, Each P items ys → k ys :=
  ⟨bk, tg0, hs, fun k w => ⟨_, hi _ w, fun items s' ⟨es, w1, P, w3, w4⟩ => by
    subst es
    refine ⟨fun i ys gs => gs = s'.gs ∧ i ≤ items.length ∧ Each P (items.take i) ys, ⟨tg0, sub, fun i ys gs ⟨_, _, h⟩ hi => ?_, fun z i x ys gs D hx ⟨eg, hi, h⟩ => ?_⟩, ⟨rfl, Nat.zero_le _, .nil⟩, fun ys gs ⟨eg, _, h⟩ => ?_⟩
    · rw [h.len, List.length_take]
      omega
    · subst eg
      refine ets_nil ?_
      rw [if_pos rfl]
      intro z'
      have hm : x ∈ items := List.mem_of_getElem? hx
      refine (he z' x D ys).q (w3 x hm) fun y py => ⟨y, s'.gs, rfl, rfl, rfl, ?_, ?_⟩
      · exact (List.getElem?_eq_some_iff.mp hx).1
      · rw [List.take_add_one, hx]
        exact h.snoc py
    · subst eg
      rw [List.take_length] at h
      exact ⟨rfl, w4 ys h⟩⟩⟩
end
end Sp
set_option maxHeartbeats 4000000
namespace Sp
open PySem L2
open PySem.W (Datum DatumOrd SomeDatum)
inductive Ex
  | BadWord | BadRule | BadCount | NoSuch | NoWay | TooLarge | BadDeed
  | BadText (row : Int)
  | BadPaper (part : Int)
deriving DecidableEq
def exK (K : Frag) : Ex → Exc
  | .BadWord => ⟨He.ga K "BadWord", none⟩
  | .BadRule => ⟨He.ga K "BadRule", none⟩
  | .BadCount => ⟨He.ga K "BadCount", none⟩
  | .NoSuch => ⟨He.ga K "NoSuch", none⟩
  | .NoWay => ⟨He.ga K "NoWay", none⟩
  | .TooLarge => ⟨He.ga K "TooLarge", none⟩
  | .BadDeed => ⟨He.ga K "BadDeed", none⟩
  | .BadText r => ⟨He.ga K "BadText", some ("row", r)⟩
  | .BadPaper r => ⟨He.ga K "BadPaper", some ("part", r)⟩
def NoE : Ex → Prop := fun _ => False
def Cl {ρ : Type} (w : (ρ → Prop) → (Ex → Prop) → Prop) (k : ρ → Prop) (E : Ex → Prop) : Prop := ∃ (R0 : ρ → Prop) (E0 : Ex → Prop), w R0 E0 ∧ (∀ r, R0 r → k r) ∧ ∀ e, E0 e → E e
structure YE (Y : DX) (G0 : Gs → Prop) (E : Ex → Prop) : Prop where
  ok : YOk Y
  ex : ∀ e s', (∃ n, G0 (s'.gs.drop n)) → E e → Y.ex (exK Y.X.K e) s'
theorem YE.blk {Y : DX} {G0 : Gs → Prop} {E : Ex → Prop} {scope : Scope} {z : BCx} (h : YE Y G0 E) : YE (blkY Y scope z) (fun _ => True) NoE := ⟨h.ok.blk, fun _ _ _ h => h.elim⟩
theorem YE.gen {Y : DX} {k : Nat} {scope : Scope} {z : GCx} (o : YOk (genY Y k scope z)) : YE (genY Y k scope z) (fun _ => True) NoE := ⟨o, fun _ _ _ h => h.elim⟩
def spF {τ ρ : Type} [Ags τ] [Enc ρ] (K : Frag) (w : τ → (ρ → Prop) → (Ex → Prop) → Prop) : DSp := fun As gs R E => ∃ t, As = Ags.pvs t ∧ gs = [] ∧ ∃ R0 E0, w t R0 E0 ∧ (∀ r, R0 r → R (pu r) []) ∧ ∀ e, E0 e → E (exK K e) []
theorem spF_mono {τ ρ : Type} [Ags τ] [Enc ρ] {K : Frag} {w : τ → (ρ → Prop) → (Ex → Prop) → Prop} : DMono (spF K w) := fun As gs R R' E E' h1 h2 ⟨t, e1, e2, R0, E0, hw, hr, he⟩ => ⟨t, e1, e2, R0, E0, hw, fun r q => h1 _ _ (hr r q), fun e q => h2 _ _ (he e q)⟩
def ClD {ρ : Type} (w : (ρ → Prop) → (Ex → Prop) → Prop) (k : ρ → Prop) : Prop := ∃ R0 : ρ → Prop, w R0 NoE ∧ ∀ r, R0 r → k r
def spD {τ ρ : Type} [Ags τ] [Enc ρ] (w : τ → (ρ → Prop) → (Ex → Prop) → Prop) : DSp := fun As gs R E => ∃ q t, As = raw (.ref q) :: Ags.pvs t ∧ gs = [(q, dicec)] ∧ ClD (w t) fun r => R (pu r) [(q, dicec)]
theorem spD_mono {τ ρ : Type} [Ags τ] [Enc ρ] {w : τ → (ρ → Prop) → (Ex → Prop) → Prop} : DMono (spD w) := fun As gs R R' E E' h1 h2 ⟨q, t, e1, e2, R0, hw, hr⟩ => ⟨q, t, e1, e2, R0, hw, fun r q => h1 _ _ (hr r q)⟩
class Ob (α : Type) where
  cls : Str
  flds : α → Flds
@[reducible] def obEnc {α : Type} (o : Ob α) : Enc α := ⟨fun K F v m => (insP (He.ga K o.cls) (o.flds m)).rep K F v, fun {K F F' v a} h e => Pv.mono _ h e⟩
def spI {τ ρ : Type} [Ags τ] [o : Ob ρ] (K : Frag) (w : τ → (ρ → Prop) → (Ex → Prop) → Prop) : DSp := fun As gs R E => ∃ q t, As = raw (.ref q) :: Ags.pvs t ∧ gs = [(q, insc (He.ga K o.cls) [])] ∧ ∃ R0 E0, w t R0 E0 ∧ (∀ r, R0 r → R (pu ()) [(q, insc (He.ga K o.cls) (o.flds r))]) ∧ ∀ e, E0 e → ∀ fs, E (exK K e) [(q, insc (He.ga K o.cls) fs)]
theorem spI_mono {τ ρ : Type} [Ags τ] [Ob ρ] {K : Frag} {w : τ → (ρ → Prop) → (Ex → Prop) → Prop} : DMono (spI K w) := fun As gs R R' E E' h1 h2 ⟨q, t, e1, e2, R0, E0, hw, hr, he⟩ => ⟨q, t, e1, e2, R0, E0, hw, fun r q => h1 _ _ (hr r q), fun e q fs => h2 _ _ (he e q fs)⟩
section
variable {Y : DX} {s : DSt} {e a b c o tg iter elt : Expr} {es ifs : List Expr} {pos p apos lpos gpos : Pos} {τ ρ α β : Type} [Ags τ] [Enc ρ] [Enc α] [Enc β] {G0 : Gs → Prop} {E : Ex → Prop} {V : (τ → Prop) → Prop} {w : τ → (ρ → Prop) → (Ex → Prop) → Prop} {ps : List Str} {j : Nat}
theorem c_call {x : Str} (n : Nat) (ye : YE Y G0 E) (G : Df Y.X.prog Y.X.w Y.X.K Y.X.mg Y.X.base Y.T j x ps (spF Y.X.K w)) (hj : j ≤ Y.k) (hg : Gl Y.X x) (h : EvA Y s (e :: es) V) (hl : ∀ t : τ, (Ags.pvs t).length = ps.length) (hn : G0 (s.gs.drop n))
    (hdb : (x == ("__debug__" : Str)) = false := by decide) (he : starEach (e :: es) Y.X.env = (false, eval e Y.X.env) :: starEach es Y.X.env := by exact star_c rfl) (hpl : (backTo pos (starEach es Y.X.env)).any (·.1) = false := by exact star_any rfl) : EvC Y s (.Call (.Name x p) (e :: es) [] pos) fun k => V fun t => Cl (w t) k E := fun k ww =>
  ev_call G ye.ok hj hg ((h _ ww).mono fun As s1 ⟨t, ea, es, R0, E0, w0, hr, hE⟩ => by
    subst es
    exact ⟨by rw [ea]; exact hl t, [], s1.gs, .refl _, t, ea, rfl, R0, E0, w0, fun r q => ⟨r, rfl, rfl, hr r q⟩, fun e q => ye.ex e _ ⟨n, hn⟩ (hE e q)⟩) hdb he hpl
theorem c_call0 {x : Str} {w : Unit → (ρ → Prop) → (Ex → Prop) → Prop} (n : Nat) (ye : YE Y G0 E) (G : Df Y.X.prog Y.X.w Y.X.K Y.X.mg Y.X.base Y.T j x ps (spF Y.X.K w)) (hj : j ≤ Y.k) (hg : Gl Y.X x) (hl : ps.length = 0) (hn : G0 (s.gs.drop n))
    (hdb : (x == ("__debug__" : Str)) = false := by decide) : EvC Y s (.Call (.Name x p) [] [] pos) fun k => Cl (w ()) k E := fun k ⟨R0, E0, w0, hr, hE⟩ =>
  ev_call0 G ye.ok hj hg ⟨hl, [], s.gs, .refl _, (), rfl, rfl, R0, E0, w0, fun r q => ⟨r, rfl, rfl, hr r q⟩, fun e q => ye.ex e _ ⟨n, hn⟩ (hE e q)⟩ hdb
theorem perm_front {α : Type} : ∀ {l : List α} {i : Nat} {x : α}, l[i]? = some x → l.Perm ([x] ++ l.eraseIdx i)
  | [], i, x, h => by simp at h
  | y :: l, 0, x, h => by simp at h; subst h; exact .refl _
  | y :: l, i + 1, x, h => by
    have ih := perm_front (l := l) (i := i) (x := x) (by simpa using h)
    rw [List.eraseIdx_cons_succ]
    exact (ih.cons y).trans (.swap _ _ _)
theorem c_callD {x y : Str} {q : Addr} {py : Pos} (i g : Nat) (ok : YOk Y) (G : Df Y.X.prog Y.X.w Y.X.K Y.X.mg Y.X.base Y.T j x ps (spD w)) (hj : j ≤ Y.k) (hg : Gl Y.X x) (h : EvA Y s es V) (hN : Y.X.N[i]? = some y) (hρ : s.ρ[i]? = some (some (raw (.ref q)))) (hd : s.gs[g]? = some (q, dicec)) (hl : ∀ t : τ, (Ags.pvs t).length + 1 = ps.length)
    (hv : Vis Y.X.env.scope y := by first | exact .inl rfl | exact .inr (.inl rfl) | exact .inr (.inr rfl)) (hd1 : (y == ("__debug__" : Str)) = false := by decide) (hcd : (y == ("__classdict__" : Str)) = false := by decide)
    (hdb : (x == ("__debug__" : Str)) = false := by decide) (he : starEach (.Name y py :: es) Y.X.env = (false, eval (.Name y py) Y.X.env) :: starEach es Y.X.env := by exact star_c rfl) (hpl : (backTo pos (starEach es Y.X.env)).any (·.1) = false := by exact star_any rfl) : EvC Y s (.Call (.Name x p) (.Name y py :: es) [] pos) fun k => V fun t => ClD (w t) k := fun k ww =>
  ev_perm (ev_call G ok hj hg (evs_cons (.of (evp_v i hN hρ hv hd1 hcd) ((h _ ww).mono fun As s1 ⟨t, ea, es, R0, w0, hr⟩ => by
    subst es
    exact ⟨by rw [ea, List.length_cons]; exact hl t, _, _, perm_front hd, q, t, by rw [ea], rfl, R0, w0, fun r qq => ⟨_, (perm_front hd).symm, r, rfl, rfl, hr r qq⟩⟩)) he) hdb he hpl)
theorem ev_as {Q : Pv → DSt → Prop} (h : Ev Y s e fun A s' => ∃ B, (∀ F v, A.rep Y.X.K F v → B.rep Y.X.K F v) ∧ Q B s') : Ev Y s e Q := fun F0 σ H F e0 S => (h F0 σ H F e0 S).mono fun v H' ⟨A, s', F', e1, r, S', B, hb, q⟩ => ⟨B, s', F', e1, hb _ _ r, S', q⟩
section
variable {γ : Type} [og : Ob γ] [eg : Enc γ]
class ObOk (γ : Type) [Ob γ] [Enc γ] : Prop where
  eq : ∀ {K F v} {m : γ}, Enc.rep K F v m ↔ (insP (He.ga K (Ob.cls γ)) (Ob.flds m)).rep K F v
theorem ia_ob [ObOk γ] {m : γ} : IA Y s (pu m) (He.ga Y.X.K (Ob.cls γ)) (Ob.flds m) := fun σ H F v S r => IA.pu σ H F v S (ObOk.eq.mp r)
theorem c_fld [ObOk γ] {f : Str} {W : (γ → Prop) → Prop} (get : γ → α) (c : Cls Y.X.K (He.ga Y.X.K (Ob.cls γ))) (nn : NoAttr Y.X.K (He.ga Y.X.K (Ob.cls γ)) f) (ho : EvC Y s o W) (l : ∀ m : γ, (Ob.flds m).lookup f = some (pu (get m)) := by intro _; rfl) (hb : attributeBase o f Y.X.env (eval o Y.X.env) = eval o Y.X.env := by exact ab_ok rfl) : EvC Y s (.Attribute o f pos) fun k => W fun m => k (get m) := fun k w F0 σ H F e0 S => by
  refine .of (pe_fld pe_we hb) ((ho _ w F0 σ H F e0 S).mono fun v H1 ⟨_, _, F1, e1, r1, S1, m, ea, es, ww⟩ => ?_)
  subst ea es
  obtain ⟨a, dx, vs, ev, ha, rf⟩ := ia_ob σ H1 F1 v S1 r1
  obtain ⟨u, l2, ru⟩ := fr_look rf (l m)
  exact ⟨a, _, dx, vs, u, ev, ha, c, nn, l2, _, _, F1, e1, ru, S1, _, rfl, rfl, ww⟩
theorem c_meth [ObOk γ] {m : Str} {Wo : (γ → Prop) → Prop} {w : γ × τ → (ρ → Prop) → (Ex → Prop) → Prop} {pl : Sem Bool} (n : Nat) (ye : YE Y G0 E) (G : Mt Y.X.prog Y.X.w Y.X.K Y.X.mg Y.X.base Y.T j (He.ga Y.X.K (Ob.cls γ)) m ps (spF Y.X.K w)) (c : Cls Y.X.K (He.ga Y.X.K (Ob.cls γ))) (hj : j ≤ Y.k) (ho : EvC Y s o Wo) (h : EvA Y s (e :: es) V) (hl : ∀ t : τ, (Ags.pvs t).length + 1 = ps.length) (hn : G0 (s.gs.drop n))
    (hf : ∀ x : γ, (Ob.flds x).lookup m = none := by intro _; rfl) (hst : starEach (e :: es) Y.X.env = (false, eval e Y.X.env) :: starEach es Y.X.env := by exact star_c rfl) (hpl : (backTo pos (starEach es Y.X.env)).any (·.1) = false := by exact star_any rfl)
    (ht : eval (.Call (.Attribute o m apos) (e :: es) [] pos) Y.X.env = (do
      let ov ← eval o Y.X.env
      standAt apos.atName
      let (f, first) ← holding [ov] (getMethod ov m pl)
      callWith pos f first (backTo pos (starEach (e :: es) Y.X.env)) (backToKw pos (keywordEach [] Y.X.env))) := by rfl) : EvC Y s (.Call (.Attribute o m apos) (e :: es) [] pos) fun k => Wo fun x => V fun t => Cl (w (x, t)) k E := fun k ww F0 σ H F e0 S => by
  obtain ⟨⟨f, fd, F1, hm, hb⟩, mono⟩ := G
  refine .of (pe_methS (E := L2.WE (wxOf Y)) pe_we c hm F1 (ye.ok.room.mono hj) hb (fun σ => passAt ye.ok.tk σ) pa_wa hst hpl ht) ?_
  refine (ho _ ww F σ H F (.refl _) S).mono fun v H1 ⟨_, _, F1, e1, r1, S1, x, ea, es, ww⟩ => ?_
  subst ea es
  obtain ⟨a, dx, vs, ev, ha, rf⟩ := ia_ob σ H1 F1 v S1 r1
  refine ⟨a, dx, vs, ev, ha, fr_no rf (hf x), ?_⟩
  refine (h _ ww F1 σ H1 F1 (.refl _) S1).mono fun us H2 ⟨_, _, F2, e2, r2, S2, t, ea, es, R0, E0, w0, hr, hE⟩ => ?_
  subst ea es
  refine sp_call (gs1 := []) ((e0.trans e1).trans e2) S2 (.cons ((pu x).mono r1 e2) r2) (by rw [List.length_cons]; exact hl t) (.refl _) ?_ (mono _ _)
  exact ⟨(x, t), rfl, rfl, R0, E0, w0, fun r q => ⟨r, rfl, rfl, hr r q⟩, fun e q => ye.ex e _ ⟨n, hn⟩ (hE e q)⟩
theorem c_meth0 [ObOk γ] {m : Str} {Wo : (γ → Prop) → Prop} {w : γ × Unit → (ρ → Prop) → (Ex → Prop) → Prop} {pl : Sem Bool} (n : Nat) (ye : YE Y G0 E) (G : Mt Y.X.prog Y.X.w Y.X.K Y.X.mg Y.X.base Y.T j (He.ga Y.X.K (Ob.cls γ)) m ps (spF Y.X.K w)) (c : Cls Y.X.K (He.ga Y.X.K (Ob.cls γ))) (hj : j ≤ Y.k) (ho : EvC Y s o Wo) (hl : 1 = ps.length) (hn : G0 (s.gs.drop n))
    (hf : ∀ x : γ, (Ob.flds x).lookup m = none := by intro _; rfl)
    (ht : eval (.Call (.Attribute o m apos) [] [] pos) Y.X.env = (do
      let ov ← eval o Y.X.env
      standAt apos.atName
      let (f, first) ← holding [ov] (getMethod ov m pl)
      callWith pos f first (backTo pos (starEach [] Y.X.env)) (backToKw pos (keywordEach [] Y.X.env))) := by rfl) : EvC Y s (.Call (.Attribute o m apos) [] [] pos) fun k => Wo fun x => Cl (w (x, ())) k E := fun k ww F0 σ H F e0 S => by
  obtain ⟨⟨f, fd, F1, hm, hb⟩, mono⟩ := G
  refine .of (pe_methS0 (E := L2.WE (wxOf Y)) pe_we c hm F1 (ye.ok.room.mono hj) hb (fun σ => passAt ye.ok.tk σ) ht) ?_
  refine (ho _ ww F σ H F (.refl _) S).mono fun v H1 ⟨_, _, F1, e1, r1, S1, x, ea, es, R0, E0, w0, hr, hE⟩ => ?_
  subst ea es
  obtain ⟨a, dx, vs, ev, ha, rf⟩ := ia_ob σ H1 F1 v S1 r1
  refine ⟨a, dx, vs, ev, ha, fr_no rf (hf x), sp_call (gs1 := []) (e0.trans e1) S1 (.cons r1 .nil) hl (.refl _) ?_ (mono _ _)⟩
  exact ⟨(x, ()), rfl, rfl, R0, E0, w0, fun r q => ⟨r, rfl, rfl, hr r q⟩, fun e q => ye.ex e _ ⟨n, hn⟩ (hE e q)⟩
theorem ev_makeE {x : Str} {C : Addr} {Q : Pv → DSt → Prop} {dd : DSp} (G : Mkr Y.X.prog Y.X.w Y.X.K Y.X.mg Y.X.base Y.T j x C ps dd) (ok : YOk Y) (hj : j + 1 ≤ Y.k) (hg : Gl Y.X x)
    (h : Evs Y s (e :: es) fun As s1 => As.length + 1 = ps.length ∧ ∀ q, ∃ gs1 gs2, s1.gs.Perm (gs1 ++ gs2) ∧ dd (raw (.ref q) :: As) ((q, insc C []) :: gs1)
      (fun A gs' => A = pu () ∧ ∃ fs gs3, gs' = (q, insc C fs) :: gs3 ∧ Q (insP C fs) ⟨s1.ρ, gs3 ++ gs2⟩) (fun e gs' => Y.ex e ⟨s1.ρ, gs' ++ gs2⟩))
    (hdb : (x == ("__debug__" : Str)) = false := by decide) (he : starEach (e :: es) Y.X.env = (false, eval e Y.X.env) :: starEach es Y.X.env := by exact star_c rfl) (hpl : (backTo pos (starEach es Y.X.env)).any (·.1) = false := by exact star_any rfl) : Ev Y s (.Call (.Name x p) (e :: es) [] pos) Q := fun F0 σ H F e0 S => by
  obtain ⟨⟨f, fd, F1, M, hb⟩, hm, mono⟩ := G
  refine .of (pe_makeS (E := L2.WE (wxOf Y)) M F1 (ok.room.mono hj) hg hm hb (fun σ => passAt ok.tk σ) pa_wa hdb he hpl) ?_
  refine (h F0 σ H F e0 S).mono fun us H1 ⟨As, s1, F1, e1, r1, S1, hl, k⟩ => ?_
  intro q dx hq hdx hne
  obtain ⟨gs1, gs2, hp, hd⟩ := k q
  have S2 := S1.newF (o := .own q) hdx rfl
  have hq2 : (upd H1 dx (.own q)) q = none := by rw [upd_ne (Ne.symm hne)]; exact hq
  have S3 := S2.newO (o := .ins C dx []) (c := insc C []) hq2 rfl ⟨dx, [], rfl, .nil⟩
  have hp3 : ((q, insc C []) :: s1.gs).Perm (((q, insc C []) :: gs1) ++ gs2) := hp.cons _
  have e2 : Ext F1 (upd F1 dx (.own q)) := Ext.grow (S1.free hdx)
  have sp := sp_call (Q := fun A s' => A = pu () ∧ ∃ fs gs3, s'.gs = (q, insc C fs) :: gs3 ∧ s'.ρ = s1.ρ ∧ Q (insP C fs) ⟨s1.ρ, gs3⟩) (As := raw (.ref q) :: As) (n := ps.length) (d := dd) (F0 := F0) (e1.trans e2) S3 (.cons rfl (r1.mono e2)) (by rw [List.length_cons]; exact hl) hp3
    (mono _ _ _ _ _ _ (fun A g ⟨ea, fs, gs3, eg, q2⟩ => ⟨ea, fs, gs3 ++ gs2, by rw [eg]; rfl, rfl, q2⟩) (fun e g q2 => q2) hd) (mono _ _)
  obtain ⟨hlen, As', gs', F', rr, G', d'⟩ := sp
  refine ⟨hlen, As', gs', F', rr, G', mono _ _ _ _ _ _ (fun A g q3 v H' F'' ra G2 st => ?_) (fun e g q3 => q3) d'⟩
  obtain ⟨B, s4, F4, e4, r4, S4, eb, fs, gs3, eg, eρ, q4⟩ := q3 v H' F'' ra G2 st
  have hc : s4.gs[0]? = some (q, insc C fs) := by rw [eg]; rfl
  obtain ⟨hF, oo, hoo, _, dx2, vs, eo, rv⟩ := S4.cell hc
  subst eo
  have S5 := S4.freeze hc hoo
  have eg5 : s4.gs.eraseIdx 0 = gs3 := by rw [eg]; rfl
  rw [eg5, eρ] at S5
  subst eb
  exact ⟨r4, insP C fs, _, _, e4.trans (Ext.grow hF), ⟨q, dx2, vs, rfl, upd_same, rv.mono (Ext.grow hF)⟩, S5, q4⟩
theorem c_make [ObOk γ] {x : Str} {w : τ → (γ → Prop) → (Ex → Prop) → Prop} (n : Nat) (ye : YE Y G0 E) (G : Mkr Y.X.prog Y.X.w Y.X.K Y.X.mg Y.X.base Y.T j x (He.ga Y.X.K (Ob.cls γ)) ps (spI Y.X.K w)) (hj : j + 1 ≤ Y.k) (hg : Gl Y.X x) (h : EvA Y s (e :: es) V) (hl : ∀ t : τ, (Ags.pvs t).length + 1 = ps.length) (hn : G0 (s.gs.drop n))
    (hdb : (x == ("__debug__" : Str)) = false := by decide) (he : starEach (e :: es) Y.X.env = (false, eval e Y.X.env) :: starEach es Y.X.env := by exact star_c rfl) (hpl : (backTo pos (starEach es Y.X.env)).any (·.1) = false := by exact star_any rfl) : EvC Y s (.Call (.Name x p) (e :: es) [] pos) fun k => V fun t => Cl (w t) k E := fun k ww =>
  ev_as (ev_makeE G ye.ok hj hg ((h _ ww).mono fun As s1 ⟨t, ea, es, R0, E0, w0, hr, hE⟩ => by
    subst ea es
    refine ⟨hl t, fun q => ⟨[], _, .refl _, q, t, rfl, rfl, R0, E0, w0, fun r qq => ⟨rfl, _, [], rfl, pu r, fun F v h => ObOk.eq.mpr h, r, rfl, rfl, hr r qq⟩, fun e qq fs => ye.ex e _ ⟨n + 1, ?_⟩ (hE e qq)⟩⟩
    exact hn) hdb he hpl)
end
end
end Sp
set_option maxHeartbeats 4000000
namespace Sp
open PySem L2
open PySem.W (Datum DatumOrd SomeDatum)
section
variable {Y : DX} {s : DSt} {e a b c o tg iter elt body : Expr} {es ifs : List Expr} {pos p apos lpos gpos : Pos} {α β : Type} [Enc α] [Enc β] {G0 : Gs → Prop} {E : Ex → Prop} {k : Nat} {scope : Scope}
theorem Sta.dropN {σ : St} {H F : Hp} : ∀ (n : Nat) {s : DSt}, Sta Y s σ H F → Sta Y ⟨s.ρ, s.gs.drop n⟩ σ H F
  | 0, s, S => S
  | n + 1, s, S => by
    have S1 := S.drop 0
    rw [List.eraseIdx_zero] at S1
    have S2 := Sta.dropN n S1
    rw [show s.gs.drop (n + 1) = s.gs.tail.drop n by rw [← List.drop_one, List.drop_drop, Nat.add_comm]]
    exact S2
theorem ev_dropN {Q : Pv → DSt → Prop} (h : Ev Y s e fun A s' => ∃ n, Q A ⟨s'.ρ, s'.gs.drop n⟩) : Ev Y s e Q := fun F0 σ H F e0 S => (h F0 σ H F e0 S).mono fun v H1 ⟨A, s1, F1, e1, r1, S1, n, q⟩ => ⟨A, _, F1, e1, r1, S1.dropN n, q⟩
structure LZ where
  A : Around
  outer : List Env
  s1 : Shared
  Hc : Hp
  E : XK
  f : Addr
  c' : Addr
  H : Hp
  F : Hp
  ex : Exc → DSt → Prop
abbrev lzY (Y : DX) (k : Nat) (scope : Scope) (gs : Gs) (z : LZ) : DX := lamY Y k z.A z.outer z.s1 z.Hc z.E scope z.f z.c' z.H z.F gs z.ex
theorem c_told {x : Str} {l : Cls_} {params : Arguments} {We : (Ex → Prop) → (α → Prop) → Prop} (k : Nat) (inj : α → β) (tin : Txt → β) (tl : Ex → Option Txt) (G : Told Y.X x l) (htl : ∀ e t, tl e = some t → Tell Y.X.K l (exK Y.X.K e).C t) (tb : Tbl Y.X Y.T (.plain (Y.X.env.qual ++ "<lambda>"))) (ok : YOk Y) (hk : k + 2 ≤ Y.k) (hg : Gl Y.X x) (L : LamX.LamS Y.X.env.scope scope)
    (hi : ∀ K F v (m : α), Enc.rep K F v m → Enc.rep K F v (inj m)) (ht : ∀ K F v (m : Txt), Enc.rep K F v m → Enc.rep K F v (tin m))
    (h : ∀ (z : LZ) (E : Ex → Prop), YE (lzY Y k scope s.gs z) (fun gs => gs = s.gs) E → EvC (lzY Y k scope s.gs z) s body (We E))
    (hdef : defaultsOf params Y.X.env = ([], []) := by rfl) (hbind : ∀ (q : Str) (cl : List (Str × Addr)) (pm cv ctv : Value), bindArgs (PySem.W.kla_fn "<lambda>" q params body scope cl pm cv ctv) ⟨[], []⟩ = pure [] := by intros; rfl)
    (hdb : (x == ("__debug__" : Str)) = false := by decide) : EvC Y s (.Call (.Name x p) [.Lambda params body scope lpos] [] pos) fun kk => We (fun e => ∃ t, tl e = some t ∧ kk (tin t)) fun r => kk (inj r) := fun kk w =>
  ev_as (ev_dropN (ev_told G tb ok hk hg L (fun A outer s1 Hc E0 f c' H F => by
    intro Y' ok'
    refine (h ⟨A, outer, s1, Hc, E0, f, c', H, F, _⟩ _ ⟨ok', fun e s' ⟨n, hn⟩ he => ?_⟩).q w fun r hr => ?_
    · obtain ⟨t, h1, h2⟩ := he
      exact ⟨t, htl e t h1, n, pu (tin t), fun F v r => ht _ _ _ _ r, tin t, rfl, by rw [hn], h2⟩
    · exact ⟨0, pu (inj r), fun F v q => hi _ _ _ _ q, inj r, rfl, rfl, hr⟩) hdef hbind hdb))
theorem ItC.pp {W : (List β → Prop) → Prop} {items : List β} (h : ItC Y s tg iter W) (w : W fun is => is = items) : EvIt Y s tg iter items := by
  obtain ⟨wi, h1, h2⟩ := h _ w
  exact ⟨wi, h1, fun F0 σ H F R e0 S k => h2 F0 σ H F R e0 S fun J H' F' is s' e1 S1 K1 ⟨g1, g2⟩ => by subst g1 g2; exact k J H' F' e1 S1 K1⟩
section
variable {W : (List β → Prop) → Prop} {Wc : β → (Bool → Prop) → Prop}
theorem gturns {γ : Type} [Enc γ] {We : β → (γ → Prop) → Prop} (t : TgD β) (k : Nat) (vs : List Nat) (items : List β) (c : β → Bool) (h : β → γ) (tg0 : ∀ z, TgOk (genY Y k scope z) tg (t.g Y.X.K) t.ws t.f)
    (ht : ∀ z, YOk (genY Y k scope z) → ∀ x, EvTs (genY Y k scope z) ⟨t.f x (wipeR s.ρ vs), s.gs⟩ ifs (Wc x)) (he : ∀ z, YOk (genY Y k scope z) → ∀ x, EvC (genY Y k scope z) ⟨t.f x (wipeR s.ρ vs), s.gs⟩ elt (We x))
    (hc : ∀ x ∈ items, Wc x fun b => b = c x) (hv : ∀ x ∈ items, c x = true → We x fun y => y = h x) (sub : ∀ j ∈ t.ws, j ∈ vs) : GTurns Y k s scope noOw vs tg elt ifs (t.g Y.X.K) t.ws t.f items c h :=
  ⟨tg0, sub, fun z o x hx => (ht z o x).pp (hc x hx), fun z o x hx hcx => (he z o x).pp (hv x hx hcx)⟩
theorem c_any {We : β → (Bool → Prop) → Prop} (t : TgD β) (k : Nat) (vs : List Nat) (items : List β) (c h : β → Bool) (ok : YOk Y) (B : Bis Y.X.mg) (hg : Gl Y.X "any") (hk : k + 2 ≤ Y.k) (hi : ItC Y s tg iter W) (G : GenOk Y.X.N Y.X.env.scope scope vs) (tb : TbG Y.X Y.T (Y.X.env.qual ++ "<genexpr>") gpos noOw) (tg0 : ∀ z, TgOk (genY Y k scope z) tg (t.g Y.X.K) t.ws t.f)
    (ht : ∀ z, YOk (genY Y k scope z) → ∀ x, EvTs (genY Y k scope z) ⟨t.f x (wipeR s.ρ vs), s.gs⟩ ifs (Wc x)) (he : ∀ z, YOk (genY Y k scope z) → ∀ x, EvC (genY Y k scope z) ⟨t.f x (wipeR s.ρ vs), s.gs⟩ elt (We x)) (sub : ∀ j ∈ t.ws, j ∈ vs := by decide) (hs : ∀ x, genFold iter Y.X.env x = pure x := by intro _; rfl)
    (hst : starEach [.GeneratorExp elt [⟨tg, iter, ifs, 0⟩] scope gpos] Y.X.env = (false, eval (.GeneratorExp elt [⟨tg, iter, ifs, 0⟩] scope gpos) Y.X.env) :: starEach [] Y.X.env := by exact star_c rfl) :
    EvC Y s (.Call (.Name "any" p) [.GeneratorExp elt [⟨tg, iter, ifs, 0⟩] scope gpos] [] pos) fun kk => (W fun is => is = items) ∧ (∀ x ∈ items, Wc x fun b => b = c x) ∧ (∀ x ∈ items, c x = true → We x fun y => y = h x) ∧ kk ((items.filter c).any h) := fun kk ⟨w1, w2, w3, w4⟩ =>
  .of ((evp_any ok B hg hk (hi.pp w1) G tb (gturns t k vs items c h tg0 ht he w2 w3 sub) hs hst).to (by rw [List.any_map]; rfl)) ⟨_, rfl, rfl, w4⟩
theorem c_sumG {We : β → (Int → Prop) → Prop} (t : TgD β) (k : Nat) (vs : List Nat) (items : List β) (c : β → Bool) (h : β → Int) (ok : YOk Y) (B : Bis Y.X.mg) (hg : Gl Y.X "sum") (hk : k + 2 ≤ Y.k) (hi : ItC Y s tg iter W) (G : GenOk Y.X.N Y.X.env.scope scope vs) (tb : TbG Y.X Y.T (Y.X.env.qual ++ "<genexpr>") gpos noOw) (tg0 : ∀ z, TgOk (genY Y k scope z) tg (t.g Y.X.K) t.ws t.f)
    (ht : ∀ z, YOk (genY Y k scope z) → ∀ x, EvTs (genY Y k scope z) ⟨t.f x (wipeR s.ρ vs), s.gs⟩ ifs (Wc x)) (he : ∀ z, YOk (genY Y k scope z) → ∀ x, EvC (genY Y k scope z) ⟨t.f x (wipeR s.ρ vs), s.gs⟩ elt (We x)) (sub : ∀ j ∈ t.ws, j ∈ vs := by decide) (hs : ∀ x, genFold iter Y.X.env x = pure x := by intro _; rfl)
    (hst : starEach [.GeneratorExp elt [⟨tg, iter, ifs, 0⟩] scope gpos] Y.X.env = (false, eval (.GeneratorExp elt [⟨tg, iter, ifs, 0⟩] scope gpos) Y.X.env) :: starEach [] Y.X.env := by exact star_c rfl) :
    EvC Y s (.Call (.Name "sum" p) [.GeneratorExp elt [⟨tg, iter, ifs, 0⟩] scope gpos] [] pos) fun kk => (W fun is => is = items) ∧ (∀ x ∈ items, Wc x fun b => b = c x) ∧ (∀ x ∈ items, c x = true → We x fun y => y = h x) ∧ SumOk ((items.filter c).map h) ∧ kk ((items.filter c).map h).sum := fun kk ⟨w1, w2, w3, w5, w4⟩ =>
  .of (evp_sumG ok B hg hk (hi.pp w1) G tb (gturns t k vs items c h tg0 ht he w2 w3 sub) w5 hs hst) ⟨_, rfl, rfl, w4⟩
end
end
end Sp
set_option maxHeartbeats 4000000
namespace Sp
open PySem L2
open PySem.W (Datum DatumOrd SomeDatum)
def EvN (Y : DX) (s : DSt) (e : Expr) {α : Type} [Enc α] (W : (List α → Prop) → Prop) : Prop := ∀ k : List α → Prop, W k → Ev Y s e fun A s' => ∃ p xs, A = raw (.ref p) ∧ s' = ⟨s.ρ, (p, lstc xs) :: s.gs⟩ ∧ k xs
def EvM (Y : DX) (s : DSt) (e : Expr) {κ ν : Type} [Kk κ] [Enc ν] (W : (List (κ × ν) → Prop) → Prop) : Prop := ∀ k : List (κ × ν) → Prop, W k → Ev Y s e fun A s' => ∃ p m, A = raw (.ref p) ∧ s' = ⟨s.ρ, (p, dctc m) :: s.gs⟩ ∧ k m
def forW {β Z : Type} (items : List β) (z0 : Z) (body : β → Z → (Z → Prop) → Prop) (rest : Z → Prop) : Prop :=
  ∃ Iv : Nat → Z → Prop, Iv 0 z0 ∧ (∀ i x z, items[i]? = some x → Iv i z → body x z (Iv (i + 1))) ∧ ∀ z, Iv items.length z → rest z
def whileW {Z : Type} (z0 : Z) (cond : Z → (Bool → Prop) → Prop) (body : Z → (Z → Prop) → Prop) (rest : Z → Prop) : Prop :=
  ∃ (Iv : Z → Prop) (μ : Z → Nat), Iv z0 ∧ ∀ z, Iv z → cond z fun b => (b = true → body z fun z' => Iv z' ∧ μ z' < μ z) ∧ (b = false → rest z)
section
variable {Y : DX} {s : DSt} {e a b c o tg iter elt : Expr} {es ifs : List Expr} {pos p p2 apos : Pos} {α β γ : Type} [Enc α] [Enc β] [Enc γ] {D : DE} {sts : List Stmt} {x y : Str}
theorem n_list {W : (List α → Prop) → Prop} (h : EvS Y s es W) (hl : es.length ≤ sizeLine := by show _ ≤ sizeLine; decide) : EvN Y s (.List es pos) W := fun k w =>
  ev_listO ((h k w).mono fun As s' ⟨xs, e1, e2, e3, w⟩ => ⟨xs, e1, by omega, fun p => by subst e3; exact ⟨p, xs, rfl, rfl, w⟩⟩)
theorem po_listN {σ : St} {F0 : Hp} {H F : Hp} {vs : List V} {xs : List α} {k : List α → Prop} (e0 : Ext F0 F) (S : Sta Y s σ H F) (r : Vs Y.X.K F vs xs) (w : k xs) : ∀ p, H p = none → Po Y σ F0 (fun A s' => ∃ p xs, A = raw (.ref p) ∧ s' = ⟨s.ρ, (p, lstc xs) :: s.gs⟩ ∧ k xs) (.ref p) (upd H p (.lst vs)) :=
  po_listO e0 S r fun p => ⟨p, xs, rfl, rfl, w⟩
theorem n_listL {W : (List α → Prop) → Prop} (T : Bis Y.X.mg) (hg : Gl Y.X "list") (ha : EvL Y s a W) (he : starEach [a] Y.X.env = (false, eval a Y.X.env) :: starEach [] Y.X.env := by exact star_c rfl) : EvN Y s (.Call (.Name "list" p) [a] [] pos) W := fun k w =>
  ev_T1 call_list_of hg (T.no _ (by decide)) PyProof.Rows.boot_list (ha.q w fun A xs hA w F0 σ H F v e0 S r => by
    obtain ⟨q, zs, h1, h2, h3⟩ := hA σ H F v S r
    exact ⟨q, zs, by rw [h1], .inl h2, fun l hl => po_listN e0 S h3 w l hl⟩) (by decide) (by decide) he
theorem n_rep {W : (List α → Prop) → Prop} {Wb : (Int → Prop) → Prop} {p2 : Pos} (h : EvS Y s es W) (hb : ∀ p xs, EvC Y ⟨s.ρ, (p, lstc (α := α) xs) :: s.gs⟩ b Wb) (hl : es.length ≤ sizeLine := by show _ ≤ sizeLine; decide) : EvN Y s (.BinOp (.List es p2) .Mult b pos) fun k => W fun xs => Wb fun n => (-(2 ^ 63) ≤ n ∧ n < 2 ^ 63 ∧ xs.length * n.toNat ≤ sizeLine) ∧ k (List.replicate n.toNat xs).flatten := fun k w =>
  ev2 (pe_op op_rep pe_we pe_we) (ev_listO ((h _ w).mono fun As s' ⟨xs, e1, e2, e3, w⟩ => ⟨xs, e1, by omega, fun p => by
    subst e3
    exact (hb p xs _ w).mono fun B s2 ⟨n, eb, es, w⟩ F0 σ H F v u e0 S r1 r2 => by
      subst eb es
      obtain ⟨hF, o, ho, _, vs, eo, rv⟩ := S.cell (i := 0) (p := p) (c := lstc xs) rfl
      subst eo
      have hl : vs.length = xs.length := Paired.length rv
      refine ⟨p, n, vs, r1, r2, ho, w.1.1, w.1.2.1, by rw [hl]; exact w.1.2.2, fun q hq => ?_⟩
      exact po_listN e0 (S.drop 0) (vs_rep rv _) w.2 q hq⟩))
section
variable {κ ν : Type} [DecidableEq κ] [Kk κ] [Enc κ] [KkV κ] [Enc ν]
theorem m_new : EvM Y s (.Dict [] [] pos) fun k => k ([] : List (κ × ν)) := fun k w => ev_dnew fun p => ⟨p, [], rfl, rfl, w⟩
end
section
variable {R : α → Prop} {W : (α → Prop) → Prop}
theorem s_asg (i : Nat) (ok : YOk Y) (hi : Y.X.N[i]? = some x) (he : EvC Y s e W) (next : ∀ v, R v → Ws Y ⟨s.ρ.set i (some (pu v)), s.gs⟩ sts D) (w : W R)
    (hx : Loc Y.X.env.scope x := by first | exact .inl rfl | exact .inr rfl) (hs : swapsWith e (some (.Name x p2)) pos.line Y.X.env = pure false := by rfl) (hf : Y.X.fn x = true ∨ Y.X.env.scope.names.lookup x = some .local := by first | exact .inl rfl | exact .inr rfl) : Ws Y s (.Assign [.Name x p2] e pos :: sts) D :=
  ws_cons (w1_set i ok hi hx (he.q w fun v r => next v r) hs hf)
theorem s_asgL {t : TgD β} {own : List (Str × Nat)} {R : List α → Prop} {W : (List α → Prop) → Prop} {scope : Scope} {spos : Pos} (i : Nat) (ok : YOk Y) (hi : Y.X.N[i]? = some x) (h : LcW Y s scope own t tg iter elt ifs W) (next : ∀ v, R v → Ws Y ⟨s.ρ.set i (some (pu v)), s.gs⟩ sts D) (w : W R)
    (hyl : Y.X.env.scope.names.lookup x = some .local := by rfl) (hsw : swapsWith (.ListComp elt [⟨tg, iter, ifs, 0⟩] scope pos) (some (.Name x p2)) spos.line Y.X.env = pure true := by rfl) : Ws Y s (.Assign [.Name x p2] (.ListComp elt [⟨tg, iter, ifs, 0⟩] scope pos) spos :: sts) D :=
  ws_cons (w1_asgL ok hi h w (fun ys k => next ys k) hyl hsw)
theorem s_asgN {R : List α → Prop} {W : (List α → Prop) → Prop} (i : Nat) (ok : YOk Y) (hi : Y.X.N[i]? = some x) (he : EvN Y s e W) (next : ∀ q v, R v → Ws Y ⟨s.ρ.set i (some (raw (.ref q))), (q, lstc v) :: s.gs⟩ sts D) (w : W R)
    (hx : Loc Y.X.env.scope x := by first | exact .inl rfl | exact .inr rfl) (hs : swapsWith e (some (.Name x p2)) pos.line Y.X.env = pure false := by rfl) (hf : Y.X.fn x = true ∨ Y.X.env.scope.names.lookup x = some .local := by first | exact .inl rfl | exact .inr rfl) : Ws Y s (.Assign [.Name x p2] e pos :: sts) D :=
  ws_cons (w1_set i ok hi hx ((he _ w).mono fun A s' ⟨q, xs, ea, es, r⟩ => by subst ea es; exact next q xs r) hs hf)
theorem s_asgT (t : TgD α) (hg : TgOk Y tg (t.g Y.X.K) t.ws t.f) (he : EvC Y s e W) (next : ∀ v, R v → Ws Y ⟨t.f v s.ρ, s.gs⟩ sts D) (w : W R)
    (hs : swapsWithSole [tg] e pos.line Y.X.env = pure false := by rfl) (hw : swappedStores [tg] e Y.X.env = pure none := by rfl) (h1 : (assignEach [tg] Y.X.env).map (·.2) = [assign tg Y.X.env] := by rfl) : Ws Y s (.Assign [tg] e pos :: sts) D :=
  ws_cons (w1_asg hg (he.q w fun v r => ⟨v, rfl, next v r⟩) hs hw h1)
theorem s_par {px py pt pt2 : Pos} {kt k2 : Nat} {R : α → β → Prop} {Wa : (α → Prop) → Prop} {Wb : (β → Prop) → Prop} (i j : Nat) (ok : YOk Y) (hi : Y.X.N[i]? = some x) (hj : Y.X.N[j]? = some y) (ha : EvC Y s a Wa) (hb : EvC Y s b Wb) (next : ∀ u v, R u v → Ws Y ⟨(s.ρ.set i (some (pu u))).set j (some (pu v)), s.gs⟩ sts D) (w : Wa fun u => Wb fun v => R u v)
    (hij : i ≠ j := by decide) (hx : Y.X.env.scope.names.lookup x = some .local := by rfl) (hy : Y.X.env.scope.names.lookup y = some .local := by rfl) (he : starEach [a, b] Y.X.env = (false, eval a Y.X.env) :: starEach [b] Y.X.env := by exact star_c rfl) (he2 : starEach [b] Y.X.env = (false, eval b Y.X.env) :: starEach [] Y.X.env := by exact star_c rfl)
    (hw : swappedStores [.Tuple [.Name x px, .Name y py] kt pt] (.Tuple [a, b] k2 pt2) Y.X.env = pure (some [x, y]) := by rfl) (hs : swapsWithSole [.Tuple [.Name x px, .Name y py] kt pt] (.Tuple [a, b] k2 pt2) pos.line Y.X.env = pure false := by rfl) : Ws Y s (.Assign [.Tuple [.Name x px, .Name y py] kt pt] (.Tuple [a, b] k2 pt2) pos :: sts) D :=
  ws_cons (w1_par ok hi hj hij hx hy (evs_cons (ha.q w fun u w => evs_cons (hb.q w fun v w => evs_nil ⟨_, _, rfl, next u v w⟩) he2) he) hw hs)
theorem s_parCN {px py pt pt2 : Pos} {kt k2 : Nat} {R : α → List β → Prop} {Wa : (α → Prop) → Prop} {Wb : (List β → Prop) → Prop} (i j : Nat) (ok : YOk Y) (hi : Y.X.N[i]? = some x) (hj : Y.X.N[j]? = some y) (ha : EvC Y s a Wa) (hb : EvN Y s b Wb) (next : ∀ q u v, R u v → Ws Y ⟨(s.ρ.set i (some (pu u))).set j (some (raw (.ref q))), (q, lstc v) :: s.gs⟩ sts D) (w : Wa fun u => Wb fun v => R u v)
    (hij : i ≠ j := by decide) (hx : Y.X.env.scope.names.lookup x = some .local := by rfl) (hy : Y.X.env.scope.names.lookup y = some .local := by rfl) (he : starEach [a, b] Y.X.env = (false, eval a Y.X.env) :: starEach [b] Y.X.env := by exact star_c rfl) (he2 : starEach [b] Y.X.env = (false, eval b Y.X.env) :: starEach [] Y.X.env := by exact star_c rfl)
    (hw : swappedStores [.Tuple [.Name x px, .Name y py] kt pt] (.Tuple [a, b] k2 pt2) Y.X.env = pure (some [x, y]) := by rfl) (hs : swapsWithSole [.Tuple [.Name x px, .Name y py] kt pt] (.Tuple [a, b] k2 pt2) pos.line Y.X.env = pure false := by rfl) : Ws Y s (.Assign [.Tuple [.Name x px, .Name y py] kt pt] (.Tuple [a, b] k2 pt2) pos :: sts) D :=
  ws_cons (w1_par ok hi hj hij hx hy (evs_cons (ha.q w fun u w => evs_cons ((hb _ w).mono fun A s' ⟨q, v, ea, es, w⟩ => by subst ea es; exact evs_nil ⟨_, _, rfl, next q u v w⟩) he2) he) hw hs)
theorem s_parNC {px py pt pt2 : Pos} {kt k2 : Nat} {R : List α → β → Prop} {Wa : (List α → Prop) → Prop} {Wb : (β → Prop) → Prop} (i j : Nat) (ok : YOk Y) (hi : Y.X.N[i]? = some x) (hj : Y.X.N[j]? = some y) (ha : EvN Y s a Wa) (hb : ∀ q u, EvC Y ⟨s.ρ, (q, lstc (α := α) u) :: s.gs⟩ b Wb) (next : ∀ q u v, R u v → Ws Y ⟨(s.ρ.set i (some (raw (.ref q)))).set j (some (pu v)), (q, lstc u) :: s.gs⟩ sts D) (w : Wa fun u => Wb fun v => R u v)
    (hij : i ≠ j := by decide) (hx : Y.X.env.scope.names.lookup x = some .local := by rfl) (hy : Y.X.env.scope.names.lookup y = some .local := by rfl) (he : starEach [a, b] Y.X.env = (false, eval a Y.X.env) :: starEach [b] Y.X.env := by exact star_c rfl) (he2 : starEach [b] Y.X.env = (false, eval b Y.X.env) :: starEach [] Y.X.env := by exact star_c rfl)
    (hw : swappedStores [.Tuple [.Name x px, .Name y py] kt pt] (.Tuple [a, b] k2 pt2) Y.X.env = pure (some [x, y]) := by rfl) (hs : swapsWithSole [.Tuple [.Name x px, .Name y py] kt pt] (.Tuple [a, b] k2 pt2) pos.line Y.X.env = pure false := by rfl) : Ws Y s (.Assign [.Tuple [.Name x px, .Name y py] kt pt] (.Tuple [a, b] k2 pt2) pos :: sts) D :=
  ws_cons (w1_par ok hi hj hij hx hy (evs_cons ((ha _ w).mono fun A s' ⟨q, u, ea, es, w⟩ => by subst ea es; exact evs_cons ((hb q u).q w fun v w => evs_nil ⟨_, _, rfl, next q u v w⟩) he2) he) hw hs)
theorem s_ret (he : EvC Y s e W) (w : W R) (q : ∀ v, R v → D.rt (pu v) s) : Ws Y s (.Return (some e) pos :: sts) D := ws_cons (w1_ret (he.q w fun v r => q v r))
theorem s_if {B C : Prop} {A1 A2 : List Stmt} {Wc : (Bool → Prop) → Prop} (hc : EvT Y s c Wc) (h1 : B → Ws Y s A1 { D with nx := fun s' => Ws Y s' sts D }) (h2 : C → Ws Y s A2 { D with nx := fun s' => Ws Y s' sts D }) (w : Wc fun t => (t = true → B) ∧ (t = false → C)) : Ws Y s (.If c A1 A2 pos :: sts) D :=
  ws_cons (w1_if (hc.q w fun t r => by
    cases t with
    | true => rw [if_pos rfl]; exact h1 (r.1 rfl)
    | false => rw [if_neg Bool.false_ne_true]; exact h2 (r.2 rfl)))
end
section
variable {Z J : Type}
theorem s_for {W : (List β → Prop) → Prop} {Body : β → Z → (Z → Prop) → Prop} {Rest : Z → Prop} {bd : List Stmt} (t : TgD β) (stf : Z → J → DSt) (z0 : Z) (j0 : J) (ok : YOk Y) (hi : ItC Y s tg iter W) (hg : TgOk Y tg (t.g Y.X.K) t.ws t.f) (h0 : s = stf z0 j0)
    (body : ∀ x z j (nx : Z → Prop), Body x z nx → Ws Y ⟨t.f x (stf z j).ρ, (stf z j).gs⟩ bd { D with nx := fun s' => ∃ z' j', s' = stf z' j' ∧ nx z', ct := fun s' => ∃ z' j', s' = stf z' j' ∧ nx z', bk := fun _ => False })
    (next : ∀ z j, Rest z → Ws Y (stf z j) sts D) (w : W fun items => forW items z0 Body Rest) (hs : ∀ x, foldedSetIterable iter Y.X.env x = pure x := by intro _; rfl) : Ws Y s (.For tg iter bd [] pos :: sts) D :=
  ws_cons (w1_forE ok (hi _ w) hg (fun items s' ⟨es, Iv, w0, w1, w2⟩ => ⟨fun i s2 => ∃ z j, s2 = stf z j ∧ Iv i z, ⟨z0, j0, by rw [es, h0], w0⟩, fun i x s2 hx ⟨z, j, e2, iv⟩ => by
    subst e2
    exact (body x z j _ (w1 i x z hx iv)).mono (fun s h => h) (fun A s h => h) (fun s h => h.elim) (fun s h => h), fun s2 ⟨z, j, e2, iv⟩ => by subst e2; exact next z j (w2 z iv)⟩) hs)
theorem s_while {Cond : Z → (Bool → Prop) → Prop} {Body : Z → (Z → Prop) → Prop} {Rest : Z → Prop} {bd : List Stmt} (stf : Z → J → DSt) (z0 : Z) (j0 : J) (ok : YOk Y) (h0 : s = stf z0 j0) (hc : ∀ z j, EvT Y (stf z j) c (Cond z))
    (body : ∀ z j (nx : Z → Prop), Body z nx → Ws Y (stf z j) bd { D with nx := fun s' => ∃ z' j', s' = stf z' j' ∧ nx z', ct := fun s' => ∃ z' j', s' = stf z' j' ∧ nx z', bk := fun _ => False })
    (next : ∀ z j, Rest z → Ws Y (stf z j) sts D) (w : whileW z0 Cond Body Rest) : Ws Y s (.While c bd [] pos :: sts) D := by
  obtain ⟨Iv, μ, w0, w1⟩ := w
  refine ws_cons fun F0 σ H F e0 S => ?_
  refine .of (ps_while ok.pass pt_wt pss_ws) ⟨fun m σ H => ∃ z j F2, Ext F0 F2 ∧ Sta Y (stf z j) σ H F2 ∧ Iv z ∧ m = μ z, ⟨_, z0, j0, F, e0, h0 ▸ S, w0, rfl⟩, ?_⟩
  rintro m σ2 H2 ⟨z, j, F2, e2, S2, iv, rfl⟩
  refine (hc z j _ (w1 z iv) F0 σ2 H2 F2 e2 S2).mono fun t H3 ⟨s3, F3, e3, S3, es, q⟩ => ?_
  subst es
  cases t with
  | false => exact ⟨_, F3, e3, S3, next z j (q.2 rfl)⟩
  | true => exact ⟨fun σ' H' => ∃ z4 j4 F4, Ext F0 F4 ∧ Sta Y (stf z4 j4) σ' H' F4 ∧ Iv z4 ∧ μ z4 < μ z, fun σ' H' ⟨z4, j4, F4, e4, S4, iv4, lt⟩ => ⟨_, lt, z4, j4, F4, e4, S4, iv4, rfl⟩, (body z j _ (q.1 rfl) F0 σ2 H3 F3 e3 S3).mono (fun σ' H' ⟨s5, F5, e5, S5, z', j', e6, iv5, lt⟩ => by subst e6; exact ⟨z', j', F5, e5, S5, iv5, lt⟩) (fun v H' q => q) (fun σ' H' ⟨s5, F5, e5, S5, q⟩ => q.elim) (fun σ' H' ⟨s5, F5, e5, S5, z', j', e6, iv5, lt⟩ => by subst e6; exact ⟨z', j', F5, e5, S5, iv5, lt⟩)⟩
end
section
variable {α : Type} [Enc α] {W : (α → Prop) → Prop} {xs : List α} {q : Addr}
theorem ev_m1X {T id : String} {name : Str} {Q : Pv → DSt → Prop} {r : V → List V → Hp → VK → Prop} (pa : PlainAttrs T) (slot : Slot T name id) (hty : typeOf (.builtin id) = pure (.type "method_descriptor")) (hm : MtR Y.X id r) (ho : EvP Y s o (raw (.ref q)))
    (ht : ∀ σ H F, Sta Y s σ H F → tyV Y.X.K T (.ref q) H)
    (h : Ev Y s e fun B s2 => ∀ F0 σ H F u, Ext F0 F → Sta Y s2 σ H F → B.rep Y.X.K F u → r (.ref q) [u] H (Po Y σ F0 Q))
    (m : Mx1 Y.X o name apos e pos) : Ev Y s (.Call (.Attribute o name apos) [e] [] pos) Q :=
  ev_m1C pa slot hty hm (.of ho ⟨fun σ H F v S r => by rw [show v = .ref q from r]; exact ht σ H F S, h.mono fun B s2 h F0 σ H F v u e0 S r1 r2 => by rw [show v = .ref q from r1]; exact h F0 σ H F u e0 S r2⟩) m
theorem s_append (i g : Nat) (hN : Y.X.N[i]? = some x) (hρ : s.ρ[i]? = some (some (raw (.ref q)))) (hg : s.gs[g]? = some (q, lstc xs)) (he : EvC Y s e W) {R : α → Prop} (next : ∀ v, R v → Ws Y ⟨s.ρ, s.gs.set g (q, lstc (xs ++ [v]))⟩ sts D) (w : W fun v => xs.length < sizeLine ∧ R v)
    (m : Mx1 Y.X (.Name x p) "append" apos e pos := by exact mx1 rfl rfl rfl) (hv : Vis Y.X.env.scope x := by first | exact .inl rfl | exact .inr (.inl rfl) | exact .inr (.inr rfl)) (hd : (x == ("__debug__" : Str)) = false := by decide) (hcd : (x == ("__classdict__" : Str)) = false := by decide) : Ws Y s (.Expr (.Call (.Attribute (.Name x p) "append" apos) [e] [] pos) p2 :: sts) D :=
  ws_cons (w1_expr (ev_m1X PySem.F.plainAttrs_list PySem.F.slot_list_append PySem.F.type_list_append mt_append (evp_v i hN hρ hv hd hcd) (fun σ H F S => by
      obtain ⟨_, o, ho, _, vs, eo, rv⟩ := S.cell hg
      subst eo
      exact tyV_list (.of ho))
    (he.q w fun v w F0 σ H F u e0 S ru => by
      obtain ⟨hF, o, ho, _, vs, eo, rv⟩ := S.cell hg
      subst eo
      have hl : vs.length = xs.length := Paired.length rv
      refine ⟨q, vs, u, rfl, rfl, ho, by omega, pu (), _, F, e0, rfl, ?_, next v w.2⟩
      exact S.write (c' := lstc (xs ++ [v])) hg ho (not_codeL rfl) rfl ⟨_, rfl, prd_app rv (.cons ru .nil)⟩) m))
theorem s_lput (i g : Nat) {b : Expr} {W : (α → Prop) → Prop} {Wi : (Int → Prop) → Prop} (hN : Y.X.N[i]? = some x) (hρ : s.ρ[i]? = some (some (raw (.ref q)))) (hg : s.gs[g]? = some (q, lstc xs)) (he : EvC Y s e W) (hb : EvC Y s b Wi) {R : List α → Prop} {pn ps : Pos} (next : ∀ v, R v → Ws Y ⟨s.ρ, s.gs.set g (q, lstc v)⟩ sts D) (w : W fun v => Wi fun k => inR xs.length k ∧ R (xs.set (plc xs.length k) v))
    (hv : Vis Y.X.env.scope x := by first | exact .inl rfl | exact .inr (.inl rfl) | exact .inr (.inr rfl)) (hd : (x == ("__debug__" : Str)) = false := by decide) (hcd : (x == ("__classdict__" : Str)) = false := by decide)
    (hs : swapsWithSole [Expr.Subscript (.Name x pn) b ps] e pos.line Y.X.env = pure false := by rfl) (hw : swappedStores [Expr.Subscript (.Name x pn) b ps] e Y.X.env = pure none := by rfl) (h1 : (assignEach [Expr.Subscript (.Name x pn) b ps] Y.X.env).map (·.2) = [assign (Expr.Subscript (.Name x pn) b ps) Y.X.env] := by rfl)
    (ha : ∀ v, assign (.Subscript (.Name x pn) b ps) Y.X.env v = (do
      let ov ← holding [v] (eval (.Name x pn) Y.X.env)
      let iv ← holding [v, ov] (eval b Y.X.env)
      standAt ps
      holding [v, ov, iv] (setItem ov iv v)
      release [v, ov, iv] []) := by intro _; rfl) : Ws Y s (.Assign [.Subscript (.Name x pn) b ps] e pos :: sts) D := ws_cons fun F0 σ H F e0 S => by
  refine .of (ps_asg pe_we (pg_sub pe_we pe_we set_list ha) hs hw h1) ?_
  refine (he _ w F σ H F (.refl _) S).mono fun v H1 ⟨_, _, F1, e1, r1, S1, y, ey, es, w⟩ => ?_
  subst ey es
  refine (evp_v i hN hρ hv hd hcd F1 σ H1 F1 (.refl _) S1).mono fun u H2 ⟨F2, e2, r2, S2⟩ => ?_
  refine (hb _ w F2 σ H2 F2 (.refl _) S2).mono fun z H3 ⟨_, _, F3, e3, r3, S3, k, ek, es, w⟩ => ?_
  subst ek es
  obtain ⟨hF, oo, hoo, _, zs, eo, rv⟩ := S3.cell hg
  subst eo
  refine ⟨q, zs, k, plc xs.length k, r2, r3, hoo, by rw [show zs.length = xs.length from Paired.length rv]; exact (ixN_plc w.1).1, _, F3, ((e0.trans e1).trans e2).trans e3, ?_, next _ w.2⟩
  exact S3.write (c' := lstc (xs.set (plc xs.length k) y)) hg hoo (not_codeL rfl) rfl ⟨_, rfl, prd_set rv (Enc.mono (α := α) r1 (e2.trans e3)) _⟩
end
section
variable {W : (Int → Prop) → Prop} {R : Int → Prop} {n : Int}
theorem s_augAdd (i : Nat) (ok : YOk Y) (hi : Y.X.N[i]? = some x) (hA : s.ρ[i]? = some (some (pu n))) (he : EvC Y s e W) (next : ∀ v, R v → Ws Y ⟨s.ρ.set i (some (pu v)), s.gs⟩ sts D) (w : W fun m => R (n + m)) (hx : Loc Y.X.env.scope x := by first | exact .inl rfl | exact .inr rfl) (hf : Y.X.fn x = true ∨ Y.X.env.scope.names.lookup x = some .local := by first | exact .inl rfl | exact .inr rfl) : Ws Y s (.AugAssign (.Name x p2) .Add e pos :: sts) D :=
  ws_cons (w1_add i ok hi hx hA hf (he.q w fun m r => ⟨m, rfl, next _ r⟩))
end
theorem s_augS {W : (List Nat → Prop) → Prop} {R : List Nat → Prop} {n : List Nat} (i : Nat) (ok : YOk Y) (hi : Y.X.N[i]? = some x) (hA : s.ρ[i]? = some (some (pu n))) (he : EvC Y s e W) (next : ∀ v, R v → Ws Y ⟨s.ρ.set i (some (pu v)), s.gs⟩ sts D) (w : W fun m => n.length + m.length ≤ sizeLine ∧ R (n ++ m)) (hx : Loc Y.X.env.scope x := by first | exact .inl rfl | exact .inr rfl) (hf : Y.X.fn x = true ∨ Y.X.env.scope.names.lookup x = some .local := by first | exact .inl rfl | exact .inr rfl) : Ws Y s (.AugAssign (.Name x p2) .Add e pos :: sts) D :=
  ws_cons (w1_addS i ok hi hx hA hf (he.q w fun m r => ⟨m, rfl, r.1, next _ r.2⟩))
theorem s_raise {C : Addr} {m : Str} {j : Nat} {p3 : Pos} {G0 : Gs → Prop} {E : Ex → Prop} (n : Nat) (ex : Ex) (ye : YE Y G0 E) (T : ErrC Y.X.K Y.X.mg x C) (hg : Gl Y.X x) (hx : exK Y.X.K ex = ⟨C, none⟩) (hn : G0 (s.gs.drop n)) (w : E ex) (hdb : (x == ("__debug__" : Str)) = false := by decide) : Ws Y s (.Raise (some (.Call (.Name x p) [.Constant (.str m) j p2] [] p3)) none pos :: sts) D :=
  ws_cons (w1_raise ye.ok T hg (hx ▸ ye.ex ex s ⟨n, hn⟩ w) hdb)
theorem s_fld {C : Addr} {fs : Flds} {q : Addr} {f : Str} {W : (α → Prop) → Prop} {R : α → Prop} {pn : Pos} (i g : Nat) (c : Cls Y.X.K C) (nn : NoAttr Y.X.K C f) (hN : Y.X.N[i]? = some x) (hρ : s.ρ[i]? = some (some (raw (.ref q)))) (hg : s.gs[g]? = some (q, insc C fs)) (he : EvC Y s e W) (next : ∀ v, R v → Ws Y ⟨s.ρ, s.gs.set g (q, insc C (fput f (pu v) fs))⟩ sts D) (w : W R) (hl : fs.length < 1000 := by decide)
    (hv : Vis Y.X.env.scope x := by first | exact .inl rfl | exact .inr (.inl rfl) | exact .inr (.inr rfl)) (hd : (x == ("__debug__" : Str)) = false := by decide) (hcd : (x == ("__classdict__" : Str)) = false := by decide) (hs : swapsWith e (some (.Attribute (.Name x pn) f p2)) pos.line Y.X.env = pure false := by rfl) : Ws Y s (.Assign [.Attribute (.Name x pn) f p2] e pos :: sts) D :=
  ws_cons (w1_fld g c nn hl (he.q w fun v r => ⟨hg, evp_v i hN hρ hv hd hcd, next v r⟩) hs)
theorem s_expr {W : (α → Prop) → Prop} {R : α → Prop} (he : EvC Y s e W) (next : ∀ v, R v → Ws Y s sts D) (w : W R) (hs : swapsWith e none pos.line Y.X.env = pure false := by rfl) : Ws Y s (.Expr e pos :: sts) D :=
  ws_cons (w1_expr (he.q w fun v r => next v r) hs)
theorem s_continue (q : D.ct s) : Ws Y s (.Continue pos :: sts) D := ws_cons (w1_continue q)
end
end Sp
set_option maxHeartbeats 4000000
namespace Sp
open PySem L2
open PySem.W (Datum DatumOrd SomeDatum)
structure BZ where
  cdv : Value
  A : Around
  outer : List Env
  s : Shared
  H : Hp
  F : Hp
  E : XK
  ex : Exc → DSt → Prop
section
variable {P : Program} {w : World} {K : Frag} {mg : Str → Option Value} {base : Heap} {fa : List He.Fa} {fn : List He.DefD} {tq : TQ}
abbrev yB (P : Program) (w : World) (K : Frag) (mg : Str → Option Value) (base : Heap) (tq : TQ) (k : Nat) (N : List Str) (d : He.DefD) (gs : Gs) (z : BZ) : DX :=
  bodyY P w K mg base (tbOf K tq) k N d.qual d.scope (He.fAd K d.at_) z.cdv z.A z.outer z.s z.H z.F gs z.E z.ex
def retE {ρ : Type} [Enc ρ] (G : Gs → Prop) (r0 : Option ρ) (Q : ρ → Prop) : DE :=
  { nx := fun s' => (∃ n, G (s'.gs.drop n)) ∧ ∃ r, r0 = some r ∧ Q r, rt := fun A s' => (∃ n, G (s'.gs.drop n)) ∧ ∃ r, A = pu r ∧ Q r }
def NoneIs {ρ : Type} [Enc ρ] (r0 : Option ρ) : Prop := ∀ r, r0 = some r → ∀ K F v, (pu ()).rep K F v → (pu r).rep K F v
theorem noneNo {ρ : Type} [Enc ρ] : NoneIs (none : Option ρ) := fun r h => by cases h
theorem noneUnit : NoneIs (some ()) := fun r h K F v q => by cases r; exact q
theorem toSp_imp {T : Tb} {n : Nat} {d d' : DSp} {vs : List V} {H : Hp} {Q : VK} {E : XK} (h : toSp K T n d vs H Q E) (k : ∀ As gs R X, d As gs R X → d' As gs R X) : toSp K T n d' vs H Q E := by
  obtain ⟨h1, As, gs, F, r, G, q⟩ := h
  exact ⟨h1, As, gs, F, r, G, k _ _ _ _ q⟩
def DAs (K : Frag) (d : DSp) : DSp := fun As gs R E => d As gs (fun A gs' => ∃ B : Pv, (∀ F v, A.rep K F v → B.rep K F v) ∧ R B gs') E
theorem fnOk_as {T : Tb} {k n : Nat} {f : Addr} {fd : FuncData} {ps : List Str} {d : DSp} (m : DMono d) (h : FnOk P w K mg base (L2.CX P w) k f fd ps (toSp K T n d)) : FnOk P w K mg base (L2.CX P w) k f fd ps (toSp K T n (DAs K d)) :=
  h.imp fun vs H Q E ⟨h1, As, gs, F, r, G, q⟩ => ⟨h1, As, gs, F, r, G, m _ _ _ _ _ _ (fun A gs' ⟨B, hb, q⟩ v H' F' r' G' st => q v H' F' (hb _ _ r') G' st) (fun e gs' q => q) q⟩
section
variable {τ ρ : Type} [Ags τ] [Enc ρ]
theorem fn_F {k : Nat} {N ps : List Str} {d : He.DefD} {fd : FuncData} (r0 : Option ρ) (L : LK w K mg base fa fn tq) (F1 : Fd K d ps fd) (S : FnScope N ps d.scope) (W : τ → (ρ → Prop) → (Ex → Prop) → Prop) (n0 : NoneIs r0) (hl : ∀ t : τ, (Ags.pvs t).length = ps.length)
    (body : ∀ (z : BZ) (t : τ) (Q : ρ → Prop) (E : Ex → Prop), W t Q E → YE (yB P w K mg base tq k N d [] z) (fun gs => gs = []) E → (∀ q, (d.at_, q) ∈ tq → Tbl (yB P w K mg base tq k N d [] z).X (tbOf K tq) q) →
      Ws (yB P w K mg base tq k N d [] z) ⟨(Ags.pvs t).map some ++ List.replicate (N.length - ps.length) none, []⟩ d.body (retE (fun gs => gs = []) r0 Q)) :
    FnOk P w K mg base (L2.CX P w) (k + 1) (He.fAd K d.at_) fd ps (toSp K (tbOf K tq) ps.length (spF K W)) := by
  have h := fnOk_as (d := fun As gs R E => ∃ t, As = Ags.pvs t ∧ gs = [] ∧ ∃ R0 E0, W t R0 E0 ∧ (∀ r, R0 r → R (pu r) []) ∧ (∀ r, r0 = some r → R0 r → R (pu ()) []) ∧ ∀ e, E0 e → E (exK K e) [])
    (fun As gs R R' E E' h1 h2 ⟨t, e1, e2, R0, E0, hw, hr, hr', he⟩ => ⟨t, e1, e2, R0, E0, hw, fun r q => h1 _ _ (hr r q), fun r e q => h1 _ _ (hr' r e q), fun e q => h2 _ _ (he e q)⟩)
    (df_ok L F1 S _ (fun As gs R E ⟨t, e1, _⟩ => by rw [e1]; exact hl t) fun cdv A outer s H F gs E ex As R X hd hex tbl ok => by
      obtain ⟨t, rfl, rfl, R0, E0, hw, hr, hr', hE⟩ := hd
      refine (body ⟨cdv, A, outer, s, H, F, E, ex⟩ t R0 E0 hw ⟨ok, fun e s' ⟨n, hn⟩ he => hex _ _ ⟨n, by rw [hn]; exact hE e he⟩⟩ tbl).mono (fun s' ⟨⟨n, hn⟩, r, e, q⟩ => ⟨n, by rw [hn]; exact hr' r e q⟩) (fun A s' ⟨⟨n, hn⟩, r, e, q⟩ => ⟨n, by rw [hn, e]; exact hr r q⟩) (fun _ h => h) (fun _ h => h))
  exact h.imp fun vs H Q E q => toSp_imp q fun As gs R X ⟨t, e1, e2, R0, E0, hw, hr, he⟩ => ⟨t, e1, e2, R0, E0, hw, fun r q => ⟨_, fun _ _ h => h, hr r q⟩, fun r e q => ⟨_, n0 r e K, hr r q⟩, he⟩
theorem fn_D {k : Nat} {N ps : List Str} {d : He.DefD} {fd : FuncData} (r0 : Option ρ) (L : LK w K mg base fa fn tq) (F1 : Fd K d ps fd) (S : FnScope N ps d.scope) (W : τ → (ρ → Prop) → (Ex → Prop) → Prop) (n0 : NoneIs r0) (hl : ∀ t : τ, (Ags.pvs t).length + 1 = ps.length)
    (body : ∀ (q : Addr) (z : BZ) (t : τ) (Q : ρ → Prop), W t Q NoE → YE (yB P w K mg base tq k N d [(q, dicec)] z) (fun gs => gs = [(q, dicec)]) NoE → (∀ q', (d.at_, q') ∈ tq → Tbl (yB P w K mg base tq k N d [(q, dicec)] z).X (tbOf K tq) q') →
      Ws (yB P w K mg base tq k N d [(q, dicec)] z) ⟨(raw (.ref q) :: Ags.pvs t).map some ++ List.replicate (N.length - ps.length) none, [(q, dicec)]⟩ d.body (retE (fun gs => gs = [(q, dicec)]) r0 Q)) :
    FnOk P w K mg base (L2.CX P w) (k + 1) (He.fAd K d.at_) fd ps (toSp K (tbOf K tq) ps.length (spD W)) := by
  have h := fnOk_as (d := fun As gs R E => ∃ q t, As = raw (.ref q) :: Ags.pvs t ∧ gs = [(q, dicec)] ∧ ∃ R0, W t R0 NoE ∧ (∀ r, R0 r → R (pu r) [(q, dicec)]) ∧ (∀ r, r0 = some r → R0 r → R (pu ()) [(q, dicec)]))
    (fun As gs R R' E E' h1 h2 ⟨q, t, e1, e2, R0, hw, hr, hr'⟩ => ⟨q, t, e1, e2, R0, hw, fun r q => h1 _ _ (hr r q), fun r e q => h1 _ _ (hr' r e q)⟩)
    (df_ok L F1 S _ (fun As gs R E ⟨q, t, e1, _⟩ => by rw [e1]; exact hl t) fun cdv A outer s H F gs E ex As R X hd hex tbl ok => by
      obtain ⟨q, t, rfl, rfl, R0, hw, hr, hr'⟩ := hd
      refine (body q ⟨cdv, A, outer, s, H, F, E, ex⟩ t R0 hw ⟨ok, fun e s' _ he => he.elim⟩ tbl).mono (fun s' ⟨⟨n, hn⟩, r, e, q⟩ => ⟨n, by rw [hn]; exact hr' r e q⟩) (fun A s' ⟨⟨n, hn⟩, r, e, q⟩ => ⟨n, by rw [hn, e]; exact hr r q⟩) (fun _ h => h) (fun _ h => h))
  exact h.imp fun vs H Q E q => toSp_imp q fun As gs R X ⟨q, t, e1, e2, R0, hw, hr⟩ => ⟨q, t, e1, e2, R0, hw, fun r q => ⟨_, fun _ _ h => h, hr r q⟩, fun r e q => ⟨_, n0 r e K, hr r q⟩⟩
def retI (K : Frag) {ρ : Type} [o : Ob ρ] (q : Addr) (Q : ρ → Prop) : DE :=
  { nx := fun s' => ∃ r, (∃ n, s'.gs.drop n = [(q, insc (He.ga K o.cls) (o.flds r))]) ∧ Q r, rt := fun A s' => A = pu () ∧ ∃ r, (∃ n, s'.gs.drop n = [(q, insc (He.ga K o.cls) (o.flds r))]) ∧ Q r }
theorem fn_I {γ : Type} [og : Ob γ] {k : Nat} {N ps : List Str} {d : He.DefD} {fd : FuncData} (L : LK w K mg base fa fn tq) (F1 : Fd K d ps fd) (S : FnScope N ps d.scope) (W : τ → (γ → Prop) → (Ex → Prop) → Prop) (hl : ∀ t : τ, (Ags.pvs t).length + 1 = ps.length)
    (body : ∀ (q : Addr) (z : BZ) (t : τ) (Q : γ → Prop) (E : Ex → Prop), W t Q E → YE (yB P w K mg base tq k N d [(q, insc (He.ga K (Ob.cls γ)) [])] z) (fun gs => ∃ fs, gs = [(q, insc (He.ga K (Ob.cls γ)) fs)]) E → (∀ q', (d.at_, q') ∈ tq → Tbl (yB P w K mg base tq k N d [(q, insc (He.ga K (Ob.cls γ)) [])] z).X (tbOf K tq) q') →
      Ws (yB P w K mg base tq k N d [(q, insc (He.ga K (Ob.cls γ)) [])] z) ⟨(raw (.ref q) :: Ags.pvs t).map some ++ List.replicate (N.length - ps.length) none, [(q, insc (He.ga K (Ob.cls γ)) [])]⟩ d.body (retI K q Q)) :
    FnOk P w K mg base (L2.CX P w) (k + 1) (He.fAd K d.at_) fd ps (toSp K (tbOf K tq) ps.length (spI K W)) :=
  df_ok L F1 S _ (fun As gs R E ⟨q, t, e1, _⟩ => by rw [e1]; exact hl t) fun cdv A outer s H F gs E ex As R X hd hex tbl ok => by
    obtain ⟨q, t, rfl, rfl, R0, E0, hw, hr, hE⟩ := hd
    refine (body q ⟨cdv, A, outer, s, H, F, E, ex⟩ t R0 E0 hw ⟨ok, fun e s' ⟨n, fs, hn⟩ he => hex _ _ ⟨n, by rw [hn]; exact hE e he fs⟩⟩ tbl).mono (fun s' ⟨r, ⟨n, hn⟩, q⟩ => ⟨n, by rw [hn]; exact hr r q⟩) (fun A s' ⟨ea, r, ⟨n, hn⟩, q⟩ => ⟨n, by rw [hn, ea]; exact hr r q⟩) (fun _ h => h) (fun _ h => h)
end
theorem dice_open {T : Tb} {q : Addr} {H F : Hp} (G : Stg K T [(q, dicec)] H F) : ∃ i j k : Int, Stg K T [(q, lstc [i, j, k])] H F := by
  obtain ⟨h1, o, h2, h3, i, j, k, h4⟩ := G.own (q, dicec) List.mem_cons_self
  refine ⟨i, j, k, G.ext, G.ntb, fun p hp => ?_, G.nd, G.tb⟩
  rw [List.mem_singleton.mp hp]
  exact ⟨h1, o, h2, h3, _, h4, .cons rfl (.cons rfl (.cons rfl .nil))⟩
theorem dice_close {T : Tb} {q : Addr} {H F : Hp} {i j k : Int} (G : Stg K T [(q, lstc [i, j, k])] H F) : Stg K T [(q, dicec)] H F := by
  obtain ⟨h1, o, h2, h3, vs, h4, h5⟩ := G.own (q, lstc [i, j, k]) List.mem_cons_self
  refine ⟨G.ext, G.ntb, fun p hp => ?_, G.nd, G.tb⟩
  rw [List.mem_singleton.mp hp]
  refine ⟨h1, o, h2, h3, i, j, k, ?_⟩
  rw [h4, vs_ints h5]
  rfl
def rollW (t : Int × Unit) (Q : Int → Prop) (_ : Ex → Prop) : Prop := 0 < t.1 ∧ t.1 < 1073741824 ∧ ∀ r : Int, 0 ≤ r → r < t.1 → Q r
def dRollA : DSp := fun As gs R E => ∃ (q : Addr) (i j k many : Int), As = [raw (.ref q), pu many] ∧ gs = [(q, lstc [i, j, k])] ∧ 0 < many ∧ many < 1073741824 ∧ ∀ r i' j' k' : Int, 0 ≤ r → r < many → R (pu r) [(q, lstc [i', j', k'])]
theorem roll_D {k n : Nat} {f : Addr} {fd : FuncData} {ps : List Str} {T : Tb} (h : FnOk P w K mg base (L2.CX P w) k f fd ps (toSp K T n dRollA)) : FnOk P w K mg base (L2.CX P w) k f fd ps (toSp K T n (spD rollW)) :=
  h.imp fun vs H Q E ⟨h1, As, gs, F, r, G, q, t, e1, e2, R0, ⟨hw1, hw2, hw3⟩, hr⟩ => by
    subst e1 e2
    obtain ⟨i, j, k, G'⟩ := dice_open G
    exact ⟨h1, _, _, F, r, G', q, i, j, k, t.1, rfl, rfl, hw1, hw2, fun r i' j' k' l1 l2 v H' F' rr G2 st => hr r (hw3 r l1 l2) v H' F' rr (dice_close G2) st⟩
def dDiceA : DSp := fun As gs R E => ∃ c : Int, As = [pu c] ∧ gs = [] ∧ ∀ q : Addr, R (raw (.ref q)) [(q, dicec)]
def dDice0 : DSp := fun As gs R E => ∃ c : Int, As = [pu c] ∧ gs = [] ∧ ∀ (i j k : Int) (q : Addr), R (raw (.ref q)) [(q, lstc [i, j, k])]
theorem dice_D {k n : Nat} {f : Addr} {fd : FuncData} {ps : List Str} {T : Tb} (h : FnOk P w K mg base (L2.CX P w) k f fd ps (toSp K T n dDice0)) : FnOk P w K mg base (L2.CX P w) k f fd ps (toSp K T n dDiceA) :=
  h.imp fun vs H Q E ⟨h1, As, gs, F, r, G, c, e1, e2, hr⟩ => ⟨h1, _, _, F, r, G, c, e1, e2, fun i j k q v H' F' rr G2 st => hr q v H' F' rr (dice_close G2) st⟩
theorem mDiceA : DMono dDiceA := fun As gs R R' E E' h1 h2 ⟨c, e, e2, k⟩ => ⟨c, e, e2, fun q => h1 _ _ (k q)⟩
def dRoundsA : DSp := fun As gs R E => ∃ ns : List Int, As = [pu ns, pu (1 : Int)] ∧ gs = [] ∧ ∀ q : Addr, R (pu [Rf.mk q]) [(q, dicec)]
theorem mRoundsA : DMono dRoundsA := fun As gs R R' E E' h1 h2 ⟨c, e, e2, k⟩ => ⟨c, e, e2, fun q => h1 _ _ (k q)⟩
end
end Sp
set_option maxHeartbeats 4000000
namespace Sp
open PySem L2
open PySem.W (Datum DatumOrd SomeDatum)
section
variable {Y : DX} {s : DSt} {e a b c o tg iter elt : Expr} {es ifs : List Expr} {pos p p2 apos : Pos} {α β γ : Type} [Enc α] [Enc β] [Enc γ] {D : DE} {sts : List Stmt} {x y : Str}
theorem c_gs {z : Str} (hg : Gl Y.X x) (hm : ∃ t, Y.X.mg x = some (.str z t)) (hd : (x == ("__debug__" : Str)) = false := by decide) : EvC Y s (.Name x pos) fun k => k (tx z) := by
  obtain ⟨t, hm⟩ := hm
  exact c_of (evp_glob (v := .str z) hg hm ⟨t, rfl⟩ (fun F => by show V.str z = V.str (toStr (tx z)); rw [toStr_tx]) hd)
section
variable {o1 o2 : CmpOp} {r1 r2 : Int → Int → Bool} {Wa Wb Wc : (Int → Prop) → Prop}
theorem t_chain (h1 : OpR Y.X (compareOp o1) (fun x y H Q => ∃ i j, x = .int i ∧ y = .int j ∧ Q (.bl (r1 i j)) H)) (h2 : OpR Y.X (compareOp o2) (fun x y H Q => ∃ i j, x = .int i ∧ y = .int j ∧ Q (.bl (r2 i j)) H)) (ha : EvC Y s a Wa) (hb : EvC Y s b Wb) {v : Int} (hc : EvC Y s c Wc) (hm : lastMarks [o1, o2] [b, c] = false := by with_unfolding_all rfl) :
    EvT Y s (.Compare a [o1, o2] [b, c] pos) fun k => Wa fun i => Wb fun j => (r1 i j = true → Wc fun z => z = v) ∧ k (r1 i j && r2 j v) := fun k w F0 σ H F e0 S => by
  refine .of (pt_chain h1 h2 pe_we pe_we pe_we hm) ?_
  refine (ha _ w F0 σ H F e0 S).mono fun v H1 ⟨_, _, F1, e1, r1', S1, i, ei, es, w⟩ => ?_
  subst ei es
  refine (hb _ w F1 σ H1 F1 (.refl _) S1).mono fun u H2 ⟨_, _, F2, e2, r2', S2, j, ej, es, w⟩ => ?_
  subst ej es
  refine ⟨i, j, r1', r2', r1 i j, rfl, ?_⟩
  cases hr : r1 i j with
  | true =>
    rw [if_pos rfl]
    refine (hc _ (w.1 hr) F2 σ H2 F2 (.refl _) S2).mono fun z H3 ⟨_, _, F3, e3, r3, S3, m, em, es, ez⟩ => ?_
    subst em es ez
    refine ⟨j, m, r2', r3, r2 j m, rfl, _, F3, (e1.trans e2).trans e3, S3, rfl, ?_⟩
    have := w.2
    rw [hr] at this
    simpa using this
  | false =>
    rw [if_neg Bool.false_ne_true]
    refine ⟨false, rfl, _, F2, e1.trans e2, S2, rfl, ?_⟩
    have := w.2
    rw [hr] at this
    simpa using this
end
theorem s_ifJ {Z J : Type} {A1 A2 : List Stmt} {Rest : Z → Prop} {B C : (Z → Prop) → Prop} {Wc : (Bool → Prop) → Prop} (stf : Z → J → DSt) (hc : EvT Y s c Wc) (h1 : ∀ nx : Z → Prop, B nx → Ws Y s A1 { D with nx := fun s' => ∃ z j, s' = stf z j ∧ nx z }) (h2 : ∀ nx : Z → Prop, C nx → Ws Y s A2 { D with nx := fun s' => ∃ z j, s' = stf z j ∧ nx z })
    (next : ∀ z j, Rest z → Ws Y (stf z j) sts D) (w : Wc fun t => (t = true → B Rest) ∧ (t = false → C Rest)) : Ws Y s (.If c A1 A2 pos :: sts) D :=
  ws_cons (w1_if (hc.q w fun t r => by
    cases t with
    | true => rw [if_pos rfl]; exact (h1 _ (r.1 rfl)).mono (fun s' ⟨z, j, e, q⟩ => by subst e; exact next z j q) (fun _ _ h => h) (fun _ h => h) (fun _ h => h)
    | false => rw [if_neg Bool.false_ne_true]; exact (h2 _ (r.2 rfl)).mono (fun s' ⟨z, j, e, q⟩ => by subst e; exact next z j q) (fun _ _ h => h) (fun _ h => h) (fun _ h => h)))
theorem ws_frL {α : Type} [Enc α] {xs : List α} {q : Addr} (i j : Nat) (hi : s.ρ[i]? = some (some (raw (.ref q)))) (hj : s.gs[j]? = some (q, lstc xs)) (h : Ws Y ⟨s.ρ.set i (some (pu xs)), s.gs.eraseIdx j⟩ sts D) : Ws Y s sts D := ws_freezeL i j hi hj h
theorem s_rounds {j : Nat} {ns : List Int} {ps : List Str} {bd : List Stmt} {py pp pc : Pos} {k1 : Nat} {R : Prop} (i i0 : Nat) (ok : YOk Y) (G : Df Y.X.prog Y.X.w Y.X.K Y.X.mg Y.X.base Y.T j "_law_rounds" ps dRoundsA) (hj : j ≤ Y.k) (hl : ps.length = 2) (hg : Gl Y.X "_law_rounds") (h0 : s.gs = []) (hx : TgOk Y tg (gName i) [i] (fun (v : Rf) ρ => ρ.set i (some (pu v)))) (ha : EvC Y s a fun k => k ns)
    (body : ∀ q, R → Ws Y ⟨s.ρ.set i (some (raw (.ref q))), [(q, dicec)]⟩ bd { D with nx := fun s' => Ws Y s' sts D, ct := fun s' => Ws Y s' sts D, bk := fun _ => False }) (w : R)
    (he : starEach [a, .Constant (.int 1) k1 pc] Y.X.env = (false, eval a Y.X.env) :: starEach [.Constant (.int 1) k1 pc] Y.X.env := by exact star_c rfl) (he2 : starEach [.Constant (.int 1) k1 pc] Y.X.env = (false, eval (.Constant (.int 1) k1 pc) Y.X.env) :: starEach [] Y.X.env := by exact star_c rfl) (hpl : (backTo pos (starEach [.Constant (.int 1) k1 pc] Y.X.env)).any (·.1) = false := by rfl) (hs : ∀ x, foldedSetIterable (.Call (.Name "_law_rounds" pp) [a, .Constant (.int 1) k1 pc] [] pos) Y.X.env x = pure x := by intro _; rfl) :
    Ws Y s (.For tg (.Call (.Name "_law_rounds" pp) [a, .Constant (.int 1) k1 pc] [] pos) bd [] py :: sts) D :=
  ws_cons (w1_forE ok (it_listE (α := Rf) (G := fun items s' => ∃ q, items = [Rf.mk q] ∧ s' = ⟨s.ρ, [(q, dicec)]⟩) (ev_call G ok hj hg (evs_cons (ha.q (k := fun v => v = ns) rfl fun v ev => evs_cons (.of evp_int (evs_nil (by
    subst ev
    refine ⟨hl.symm, [], s.gs, .refl _, _, rfl, rfl, fun q => ⟨[Rf.mk q], rfl, q, rfl, ?_⟩⟩
    rw [h0]
    rfl))) he2) he) (by decide) he hpl)) hx (fun items s' ⟨q, e1, e2⟩ => by
      subst e1 e2
      refine ⟨fun n s' => (n = 0 ∧ s' = ⟨s.ρ, [(q, dicec)]⟩) ∨ (n = 1 ∧ Ws Y s' sts D), .inl ⟨rfl, rfl⟩, fun i x s2 hx h => ?_, fun s2 h => ?_⟩
      · rcases h with ⟨rfl, rfl⟩ | ⟨rfl, _⟩
        · cases hx
          exact (body q w).mono (fun s' h => .inr ⟨rfl, h⟩) (fun _ _ h => h) (fun _ h => h.elim) (fun s' h => .inr ⟨rfl, h⟩)
        · cases hx
      · rcases h with ⟨h, _⟩ | ⟨_, h⟩
        · cases h
        · exact h) hs)
end
end Sp
set_option maxHeartbeats 4000000
namespace Sp
open PySem L2
open PySem.W (Datum DatumOrd SomeDatum)
def ifJ {Z : Type} (b : Bool) (B C : (Z → Prop) → Prop) (rest : Z → Prop) : Prop := (b = true → B rest) ∧ (b = false → C rest)
abbrev TgD.t {α β γ : Type} (a : TgD α) (b : TgD β) (c : TgD γ) : TgD (T3 α β γ) := ⟨fun K => gTup K 3 (gCons (a.g K) (gCons (b.g K) (gCons (c.g K) gNil))), a.ws ++ (b.ws ++ c.ws), fun v ρ => c.f v.c (b.f v.b (a.f v.a ρ))⟩
def optG {α : Type} [Inhabited α] (x : Option α) : α := x.getD default
section
variable {Y : DX} {s : DSt} {e a b c o tg iter elt body : Expr} {es ifs : List Expr} {pos p apos cpos lpos gpos : Pos} {α β : Type} [Enc α] [Enc β] {G0 : Gs → Prop} {E : Ex → Prop} {k : Nat} {scope : Scope}
theorem c_optG [Inhabited α] {W : (Option α → Prop) → Prop} (h : EvC Y s e W) : EvC Y s e fun k => W fun x => x.isSome = true ∧ k (optG x) := fun k w => (h _ w).mono fun A s' ⟨x, ea, es, w1, w2⟩ => by
  cases x with
  | some x => exact ⟨x, by rw [ea]; rfl, es, w2⟩
  | none => cases w1
section
variable {W : (List β → Prop) → Prop}
theorem c_any0 {We : β → (Bool → Prop) → Prop} (t : TgD β) (k : Nat) (vs : List Nat) (items : List β) (h : β → Bool) (ok : YOk Y) (B : Bis Y.X.mg) (hg : Gl Y.X "any") (hk : k + 2 ≤ Y.k) (hi : ItC Y s tg iter W) (G : GenOk Y.X.N Y.X.env.scope scope vs) (tb : TbG Y.X Y.T (Y.X.env.qual ++ "<genexpr>") gpos noOw) (tg0 : ∀ z, TgOk (genY Y k scope z) tg (t.g Y.X.K) t.ws t.f)
    (he : ∀ z, YOk (genY Y k scope z) → ∀ x, EvC (genY Y k scope z) ⟨t.f x (wipeR s.ρ vs), s.gs⟩ elt (We x)) (sub : ∀ j ∈ t.ws, j ∈ vs := by decide) (hs : ∀ x, genFold iter Y.X.env x = pure x := by intro _; rfl)
    (hst : starEach [.GeneratorExp elt [⟨tg, iter, [], 0⟩] scope gpos] Y.X.env = (false, eval (.GeneratorExp elt [⟨tg, iter, [], 0⟩] scope gpos) Y.X.env) :: starEach [] Y.X.env := by exact star_c rfl) :
    EvC Y s (.Call (.Name "any" p) [.GeneratorExp elt [⟨tg, iter, [], 0⟩] scope gpos] [] pos) fun kk => (W fun is => is = items) ∧ (∀ x ∈ items, We x fun y => y = h x) ∧ kk (items.any h) := fun kk ⟨w1, w3, w4⟩ =>
  (c_any (Wc := fun _ k => k true) t k vs items (fun _ => true) h ok B hg hk hi G tb tg0 (fun _ _ _ => ts_nil) he sub hs hst) kk ⟨w1, fun _ _ => rfl, fun x hx _ => w3 x hx, by rw [List.filter_eq_self.mpr (fun _ _ => rfl)]; exact w4⟩
end
end
end Sp
set_option maxHeartbeats 4000000
namespace Sp
open PySem L2
open PySem.W (Datum DatumOrd SomeDatum)
section
variable {Y : DX} {s : DSt} {e a b c d o : Expr} {es : List Expr} {pos p apos cpos : Pos}
section
variable {κ ν : Type} [DecidableEq κ] [Kk κ] [Enc κ] [KkV κ] [Enc ν]
end
end
end Sp
namespace HN
open PySem PySem.Spec PyProof.Rows PySem.SeqAt
section
variable {M : Model} {prog : Program} {w : World} {A : Around} {E : Value → Shared → Prop} {s : Shared} {K : PySem.W.Frag} {x C dx : Addr} {ox : Obj} {od : Option Obj} {b : Str} {u : Tok}
theorem isSame_strI {R : Bool → Shared → Prop} (h : R false s) : wpAny M A (isSame (.ref x) (.str b u)) R E s := wpAny_of_eq (rfl : isSame (.ref x) (.str b u) = pure false) h
theorem entry_strI {Q : Fin → Shared → Prop} (hq : Q (.done (.ret .notImplemented)) s) : wpAny M A (Builtin.«object.__eq__» ⟨[.ref x, .str b u], []⟩) Q E s := by
  unfold Builtin.«object.__eq__»
  repeat (first | with_reducible refine isSame_strI ?_ | wp_step)
  exact hq
theorem call_objEqS {Q : Value → Shared → Prop} (X : K.In s.heap) (I : PySem.W.InstAt s.heap x ox C od) (hm : PySem.W.mroIn K C (.type "object") = some true) (hq : Q .notImplemented s) :
    wpAny (model prog w) A (call (.builtin "object.__eq__") [.ref x, .str b u]) Q E s :=
  wpAny_call (codeAny_call_builtin F.cmp_object.eq.plain F.cmpEntry_eq (PySem.W.check_slot F.cmpKind_eq F.cmpSplit_eq (I.type.andThen (PySem.W.looks_mroIn X hm)) (F.cmpArgs_eq _ _) (entry_strI hq)))
theorem entry_strN {Q : Fin → Shared → Prop} (hu : A.units < cLine) (X : K.In s.heap) (I : PySem.W.InstAt s.heap x ox C od) (hm : PySem.W.mroIn K C (.type "object") = some true) (hs : PySem.W.findIn K (.ref C) "__eq__" = some (some (.builtin "object.__eq__"))) (hq : Q (.done (.ret .notImplemented)) s) :
    wpAny (model prog w) A (Builtin.«object.__ne__» ⟨[.ref x, .str b u], []⟩) Q E s := by
  unfold Builtin.«object.__ne__»
  repeat (first | with_reducible refine wpAny_cRoomFor hu ?_ | with_reducible refine ifBound_objEq X I hs (call_objEqS X I hm ?_) | wp_step)
  exact hq
theorem call_objNeS {Q : Value → Shared → Prop} (hu : A.units + 1 < cLine) (X : K.In s.heap) (I : PySem.W.InstAt s.heap x ox C od) (hm : PySem.W.mroIn K C (.type "object") = some true) (hs : PySem.W.findIn K (.ref C) "__eq__" = some (some (.builtin "object.__eq__"))) (hq : Q .notImplemented s) :
    wpAny (model prog w) A (call (.builtin "object.__ne__") [.ref x, .str b u]) Q E s :=
  wpAny_call (codeAny_call_builtin F.cmp_object.ne.plain F.cmpEntry_ne (PySem.W.check_slot F.cmpKind_ne F.cmpSplit_ne (I.type.andThen (PySem.W.looks_mroIn X hm)) (F.cmpArgs_ne _ _) (entry_strN (A := A.in1) hu X I hm hs hq)))
theorem ifBound_objNe {args : List Value} {Q : Option Value → Shared → Prop} (X : K.In s.heap) (I : PySem.W.InstAt s.heap x ox C od) (hs : PySem.W.findIn K (.ref C) "__ne__" = some (some (.builtin "object.__ne__")))
    (h : wpAny M A (call (.builtin "object.__ne__") (.ref x :: args)) (fun v => Q (some v)) E s) : wpAny M A (callSpecialIfBound? (.ref x) "__ne__" args) Q E s := by
  simp only [callSpecialIfBound?, bindSpecialIfBound?]
  refine wpAny_holding (wpAny_bind (wpAny_bind (wpAny_bind (I.type.here ((PySem.W.looks_findIn X hs).here ?_)))))
  refine wpAny_bind (wpAny_askSetting (wpAny_ite ?_))
  have fin : wpAny M A (call (.builtin "object.__ne__") ([.ref x] ++ args) >>= fun v => pure (some v)) Q E s := wpAny_bind (wpAny_mono h (fun v s' h' => wpAny_pure h') fun _ _ h' => h')
  split
  · exact wpAny_bind (wpAny_of_eq (F.cmp_object.ne.bind _) (wpAny_pure (by exact fin)))
  · exact wpAny_tryCatch (wpAny_bind (wpAny_of_eq (F.cmp_object.ne.bind _) (wpAny_pure (by exact fin))))
theorem sub_strI : PySem.W.subIn K (.type "str") (.ref C) = some false := by
  have e : fastBuiltinMro "str" = some [.type "str", .type "object"] := by decide +kernel
  show (fastBuiltinMro "str").map (·.contains (.ref C)) = some false
  rw [e]
  first
    | rfl
    | simp
theorem str_ne_declines_inst (l : Addr) : Meets (Builtin.«str.__ne__» ⟨[.str b u, .ref l], []⟩) (fun _ R s => s.heap.get? l = some (PySem.W.instObj C dx) ∧ R (.ok (.ret .notImplemented)) s) :=
  .of_wp fun prog w A R s h => by obtain ⟨hp, g, d, tk, os⟩ := s; obtain ⟨hl, h⟩ := h; wp_walk using wpAny_loadPart' hl, wpAny_load hl; exact ⟨_, rfl, h⟩
end
end HN
set_option maxHeartbeats 4000000
namespace HN
open PySem PySem.Spec PyProof.Rows PySem.SeqAt
section
variable {M : Model} {prog : Program} {w : World} {A : Around} {E : Value → Shared → Prop} {s : Shared} {K : PySem.W.Frag} {x C dx : Addr} {od : Option Obj} {b : Str} {u : Tok}
def cmpK (K : PySem.W.Frag) (C : Addr) : Prop := PySem.W.mroIn K C (.type "object") = some true ∧ PySem.W.findIn K (.ref C) "__eq__" = some (some (.builtin "object.__eq__")) ∧ PySem.W.findIn K (.ref C) "__ne__" = some (some (.builtin "object.__ne__"))
def cmpB (K : PySem.W.Frag) (C : Addr) : Bool := (PySem.W.mroIn K C (.type "object") == some true) && (PySem.W.findIn K (.ref C) "__eq__" == some (some (.builtin "object.__eq__"))) && (PySem.W.findIn K (.ref C) "__ne__" == some (some (.builtin "object.__ne__")))
theorem cmpB_ok {K : PySem.W.Frag} {C : Addr} (h : cmpB K C = true) : cmpK K C := by
  unfold cmpB at h
  rw [Bool.and_eq_true, Bool.and_eq_true] at h
  exact ⟨eq_of_beq h.1.1, eq_of_beq h.1.2, eq_of_beq h.2⟩
theorem rc_strN (hu : A.units + 64 < cLine) (X : K.In s.heap) (I : PySem.W.InstAt s.heap x (PySem.W.instObj C dx) C od) (c : cmpK K C) {Q : Value → Shared → Prop} (h : Q (.bool true) s) :
    wpAny (model prog w) A (richCompare .NotEq (.ref x) (.str b u)) Q E s := by
  obtain ⟨hm, hs, hn⟩ := c
  have one : wpAny (model prog w) A (tryCompare (.ref x) "__ne__" (.str b u)) (fun r s' => r = none ∧ s' = s) E s := by
    unfold tryCompare
    exact wpAny_bind (ifBound_objNe X I hn (call_objNeS (by omega) X I hm hs (wpAny_pure ⟨rfl, rfl⟩)))
  have two : wpAny (model prog w) A (tryCompare (.str b u) "__ne__" (.ref x)) (fun r s' => r = none ∧ s' = s) E s :=
    wpAny_tryCompare_declines (typeIs_str s b u) F.slot_str_ne_refl (call_meets F.slot_str_ne_refl (typeIs_str s b u) F.entry_str_ne (F.args_str_ne_2 _ _) (str_ne_declines_inst (C := C) (dx := dx) x) ⟨I.at_, rfl, rfl, rfl⟩)
  simp only [richCompare, cmpInfo_NotEq, oneThing_ref]
  refine wpAny_holding (wpAny_bind (wpAny_cRoomFor (by omega) ?_))
  refine wpAny_bind (I.type.here ?_)
  refine wpAny_bind (wpAny_typeOf (typeIs_str s b u) ?_)
  split
  · refine wpAny_bind ((PySem.W.looks_subIn X sub_strI).here ?_)
    simp only [Bool.false_eq_true, if_false, Bool.not_false, if_true]
    refine wpAny_bind (m := tryCompare (.ref x) _ (.str b u)) (wpAny_mono one (fun r s1 z => ?_) fun _ _ e => e)
    obtain ⟨z1, z2⟩ := z
    subst z1
    subst z2
    refine wpAny_bind (m := tryCompare (.str b u) _ (.ref x)) (wpAny_mono two (fun r s2 z => ?_) fun _ _ e => e)
    obtain ⟨z1, z2⟩ := z
    subst z1
    subst z2
    exact wpAny_bind (wpAny_rule (wpAny_bind (wpAny_of_eq (rfl : isSame (.ref x) (.str b u) = pure false) (wpAny_pure h))))
  · rename_i q
    exact absurd (by simp) q
end
end HN
namespace Sp
open PySem L2
def isT {α : Type} : α ⊕ List Nat → List Nat → Bool
  | .inl _, _ => false
  | .inr z, y => decide (z = y)
section
variable {Y : DX} {s : DSt} {a b : Expr}
theorem cmp_strN {X : Cx} (hu : X.A.units + 64 < cLine) : OpR X (compareOp .NotEq) (fun x y H Q => ∃ p C dx fs, ∃ t : List Nat, x = .ref p ∧ H p = some (.ins C dx fs) ∧ HN.cmpK X.K C ∧ y = .str (toStr t) ∧ Q (.bl true) H) := by
  intro pins s σ H x y v u Q I rx ry ⟨p, C, dx, fs, t, ex, hp, hc, ey, q⟩
  subst ex ey
  cases rx
  obtain ⟨tk, rfl⟩ : ∃ tk, u = .str (toStr t) tk := ry
  obtain ⟨mA, O, _⟩ := ins_get I.hok hp
  obtain ⟨od, J, _⟩ := O.look
  show wpAny _ _ (richCompare .NotEq _ _) _ _ _
  refine HN.rc_strN hu I.kIn J hc ?_
  exact ⟨.bl _, H, I, rfl, q⟩
theorem opr_or {X : Cx} {op : Value → Value → Sem Value} {r1 r2 : R2} (h1 : OpR X op r1) (h2 : OpR X op r2) : OpR X op (fun x y H Q => r1 x y H Q ∨ r2 x y H Q) := by
  intro pins s σ H x y v u Q I rx ry h
  rcases h with h | h
  · exact h1 pins s σ H x y v u Q I rx ry h
  · exact h2 pins s σ H x y v u Q I rx ry h
section
variable {γ : Type} [og : Ob γ] [eg : Enc γ] [ObOk γ] {Wa : (γ ⊕ List Nat → Prop) → Prop} {Wb : (List Nat → Prop) → Prop}
theorem k_neT (ok : YOk Y) (hc : HN.cmpK Y.X.K (He.ga Y.X.K (Ob.cls γ))) (ha : EvC Y s a Wa) (hb : EvC Y s b Wb) : EvK Y s .NotEq a b fun k => Wa fun x => Wb fun y => k (!isT x y) := fun k w =>
  cmp_of (opr_or (cmp_strN ok.room.units) (op_neT (α := List Nat) ok.room.units (by decide))) (ha.q w fun i w => hb.q w fun j w => ⟨_, ⟨rfl, w⟩, fun σ H F v u Q S r1 r2 q => by
    cases i with
    | inl m =>
      obtain ⟨p, dx, vs, ev, hp, _⟩ := ia_ob σ H F v S (show (pu m).rep Y.X.K F v from r1)
      exact .inl ⟨p, _, dx, vs, j, ev, hp, hc, r2, q⟩
    | inr z =>
      refine .inr ⟨z, j, DA.pu (α := List Nat) σ H F v S r1, DA.pu (α := List Nat) σ H F u S r2, ?_⟩
      have e : (!isT (α := γ) (.inr z) j) = decide (z ≠ j) := by simp [isT]
      rw [← e]; exact q⟩)
end
section
variable {e o : Expr} {p pos apos cpos p2 : Pos} {κ : Type} [DecidableEq κ] [Kk κ] [Enc κ] [KkV κ]
end
end
end Sp
set_option maxHeartbeats 4000000
namespace RX
open PySem PySem.Spec PyProof.Rows
def IsRx (h : Heap) (a : Addr) (x : Str) (i : Int) : Prop := ∃ (o : Obj) (t : Tok), h.get? a = some o ∧ o.cls = .type "reversed" ∧ o.data = .fields #[.str x t, rawInt i]
section
variable {prog : Program} {w : World} {A : Around} {E : Value → Shared → Prop} {s : Shared} {x : Str} {t : Tok}
theorem IsRx.ty {a : Addr} {i : Int} (r : IsRx s.heap a x i) : s.TypeIs (.ref a) "reversed" := let ⟨o, _, ho, hc, _⟩ := r; ⟨o, ho, hc⟩
end
end RX
namespace Sp
open PySem L2
open PyProof.Rows (Call_ args_cons args_nil)
section
variable {X : Cx}
end
section
variable {Y : DX} {s : DSt} {a : Expr} {pos p p2 pos2 : Pos} {W : (List Nat → Prop) → Prop}
end
end Sp
set_option maxHeartbeats 4000000
namespace Sp
open PySem L2
section
variable {κ α : Type} [DecidableEq κ]
def grp : List (κ × List α) → κ → α → List (κ × List α)
  | [], k, v => [(k, [v])]
  | p :: r, k, v => if p.1 = k then (p.1, p.2 ++ [v]) :: r else p :: grp r k v
def gval : List (κ × List α) → κ → List α
  | [], _ => []
  | p :: r, k => if p.1 = k then p.2 else gval r k
section
variable [Enc α]
end
end
section
variable {Y : DX} {s : DSt} {o e f a : Expr} {pos p apos cpos : Pos} {D : DE} {sts : List Stmt} {Q : Pv → DSt → Prop}
variable {κ α : Type} [DecidableEq κ] [Kk κ] [Enc κ] [KkV κ] [Enc α]
end
section
variable {Y : DX} {s : DSt} {e : Expr} {pos p2 : Pos} {D : DE} {sts : List Stmt} {x : Str}
variable {κ α : Type} [DecidableEq κ] [Kk κ] [Enc κ] [KkV κ] [Enc α]
end
end Sp
namespace Sp
open PySem L2
section
variable {Y : DX} {s : DSt} {a b c : Expr} {pos : Pos} {o1 o2 : CmpOp} {r1 r2 : Int → Int → Bool} {Wa Wb Wc : (Int → Prop) → Prop}
theorem t_chainV (v : Int) (ha : EvC Y s a Wa) (hb : EvC Y s b Wb) (hc : EvC Y s c Wc) (h1 : OpR Y.X (compareOp o1) (fun x y H Q => ∃ i j, x = .int i ∧ y = .int j ∧ Q (.bl (r1 i j)) H)) (h2 : OpR Y.X (compareOp o2) (fun x y H Q => ∃ i j, x = .int i ∧ y = .int j ∧ Q (.bl (r2 i j)) H)) (hm : lastMarks [o1, o2] [b, c] = false := by with_unfolding_all rfl) :
    EvT Y s (.Compare a [o1, o2] [b, c] pos) fun k => Wa fun i => Wb fun j => (r1 i j = true → Wc fun z => z = v) ∧ k (r1 i j && r2 j v) := t_chain h1 h2 ha hb hc hm
end
end Sp
set_option maxHeartbeats 4000000
namespace Sp
open PySem L2
section
variable {Y : DX} {s : DSt} {scope : Scope} {β : Type} [Enc β] {tg elt iter : Expr} {ifs : List Expr} {gpos pos p : Pos}
variable {W : (List β → Prop) → Prop} {Wc : β → (Bool → Prop) → Prop}
end
section
variable {Y : DX} {s : DSt} {o e : Expr} {pos apos : Pos} {Wo : (List Nat → Prop) → Prop}
theorem c_joinH {Wl : (Tup (List Nat) → Prop) → Prop} (ho : EvC Y s o Wo) (he : EvC Y s e Wl) (m : Mx1 Y.X o "join" apos e pos := by exact mx1 rfl rfl rfl) : EvC Y s (.Call (.Attribute o "join" apos) [e] [] pos) fun k => Wo fun x => Wl fun xs => lenSum xs.items + xs.items.length * x.length ≤ 16777216 ∧ k (joinT x xs.items) := fun k w =>
  ev_m1C PySem.F.plainAttrs_str PySem.F.slot_str_join PySem.F.type_str_join mt_join (ho.q w fun x w => ⟨ty_txt, he.q w fun xs w F0 σ H F v u e0 S r r2 => by
    obtain ⟨q, zs, h1, h2, h3⟩ := r2
    rw [txts_map h3] at h2
    refine ⟨toStr x, q, xs.items.map toStr, r, by rw [h1], .inr (sqT_ex2 h2 S.ext), ?_, pu (joinT x xs.items), s, F, e0, by rw [toStr_join']; rfl, S, _, rfl, rfl, w.2⟩
    have e1 : (xs.items.map toStr).map (·.length) = xs.items.map List.length := by rw [List.map_map]; exact List.map_congr_left fun y _ => toStr_len y
    rw [e1, List.length_map, toStr_len]
    exact w.1⟩) m
end
end Sp
set_option maxHeartbeats 4000000
namespace EH
open PySem
open AutoSeq1 (wpAny_loadPart')
theorem meets_new (l : Addr) (items : Array Value) (n : Nat) (dct : Option Addr) (sl : Array (Option Value)) :
    Meets (Builtin.«enumerate.__new__» ⟨[.type "enumerate", .ref l], []⟩) (fun _ R s => s.heap.get? l = some { slots := sl, dict := dct, data := .seq items n, cls := .type "tuple" } ∧
      R (.ok (.ret (.ref (s.heap.push { data := .fields #[.ref l, .int 0 0], cls := .type "tuple_iterator" }).objs.size)))
        { s with heap := (s.heap.push { data := .fields #[.ref l, .int 0 0], cls := .type "tuple_iterator" }).push { data := .fields #[.none, .bool false, .ref s.heap.objs.size, rawInt 0, .none, .none], cls := .type "enumerate" } }) :=
  .of_wp fun prog w A R s h => by
    obtain ⟨hp, g, d, tk, os⟩ := s; obtain ⟨hl, h⟩ := h
    have hsub := sub_enumerate
    have hT : Heap.IsTuple (Shared.heap ⟨hp, g, d, tk, os⟩) l items := ⟨_, hl, rfl, n, rfl⟩
    wp_walk using wpAny_loadPart' hl
    refine wpAny_stack_any fun st => wpAny_pure ?_
    split
    · rename_i c _ _ _ _ _
      cases (c == Value.type "enumerate")
      · wp_walk using wpAny_loadPart' hl, wpAny_pyIter_tuple hT
        exact ⟨_, rfl, h⟩
      · wp_walk using wpAny_loadPart' hl, wpAny_pyIter_tuple hT
        exact ⟨_, rfl, h⟩
    · wp_walk using wpAny_loadPart' hl, wpAny_pyIter_tuple hT
      exact ⟨_, rfl, h⟩
section
variable {prog : Program} {w : World} {A : Around} {E : Value → Shared → Prop} {s : Shared}
theorem call_enum {l : Addr} {items : Array Value} {Q : Value → Shared → Prop} (hT : s.heap.IsTuple l items)
    (h : ∀ h', IsEnum h' (s.heap.objs.size + 1) s.heap.objs.size 0 .none → h'.IsTupleIter s.heap.objs.size l 0 →
      (∀ b o, s.heap.get? b = some o → h'.get? b = some o) → Q (.ref (s.heap.objs.size + 1)) { s with heap := h' }) :
    wpAny (model prog w) A (call (.type "enumerate") [.ref l]) Q E s := by
  obtain ⟨⟨c, dct, dt, sl⟩, hl, hc, n, hd⟩ := hT
  replace hc : c = .type "tuple" := hc
  replace hd : dt = .seq items n := hd
  subst hc hd
  refine callType_new F.called_enumerate (by decide) (F.typeCall_enumerate_1 _) (F.newCall_enumerate_1 _) (fun ob => F.args_object_init_2 ob _) F.entry_enumerate_new
    (meets_new l items n dct sl) ⟨hl, ?_⟩
  have hz : (s.heap.push { data := .fields #[.ref l, .int 0 0], cls := .type "tuple_iterator" }).objs.size = s.heap.objs.size + 1 := Heap.size_push ..
  show _ ∧ _
  rw [hz]
  have he : IsEnum ((s.heap.push { data := .fields #[.ref l, .int 0 0], cls := .type "tuple_iterator" }).push
      { data := .fields #[.none, .bool false, .ref s.heap.objs.size, rawInt 0, .none, .none], cls := .type "enumerate" }) (s.heap.objs.size + 1) s.heap.objs.size 0 .none := by
    have := Heap.get?_push_size (s.heap.push { data := .fields #[.ref l, .int 0 0], cls := .type "tuple_iterator" })
      (o := { data := .fields #[.none, .bool false, .ref s.heap.objs.size, rawInt 0, .none, .none], cls := .type "enumerate" }) rfl
    rw [hz] at this; exact this
  exact ⟨⟨_, he, rfl⟩, h _ he ⟨_, Heap.get?_push_of_some _ (Heap.get?_push_size _ rfl), rfl, rfl⟩ fun b o x => Heap.get?_push_of_some _ (Heap.get?_push_of_some _ x)⟩
end
end EH
namespace Sp
open PySem PySem.Spec PyProof.Rows L2
def IteH (K : PySem.W.Frag) (a : Addr) (n : Nat) : It :=
  ⟨fun i H => i < n ∧ ∃ (xs : List V) (x : V), SqT K H a xs ∧ xs[i]? = some x, fun i H v H' => ∃ T x, v = .ref T ∧ H T = none ∧ H' = upd H T (.tup [.int (i : Nat), x]) ∧ ∀ xs, SqT K H a xs → xs[i]? = some x, fun i H => n ≤ i ∧ ∃ xs : List V, SqT K H a xs ∧ xs.length = n⟩
theorem turn_enumH {P : Program} {w : World} {K : PySem.W.Frag} {elts : List Expr} {kk : Nat} {tpos : Pos} (a e it : Addr) (n : Nat) :
    Turn P w K (.Tuple elts kk tpos) (IteH K a n) [e, it] e (fun i h => (∃ old, IsEnum h e it ((i : Nat) : Int) old) ∧ h.IsTupleIter it a i ∧ e ≠ it ∧ i ≤ n) where
  mem := by simp
  obj := fun i h st b hb => by
    obtain ⟨⟨old, he⟩, ⟨o, ho, hc, hd⟩, _⟩ := st
    have e' : b = e ∨ b = it := by simpa using hb
    rcases e' with z | z
    · rw [z]; exact ⟨_, he, fun v q => nomatch q⟩
    · rw [z]; exact ⟨o, ho, fun v q => by rw [hd] at q; cases q⟩
  keep := fun i h h' st k => let ⟨⟨old, he⟩, ⟨o, ho, r⟩, hne⟩ := st; ⟨⟨old, k e (by simp) _ he⟩, ⟨o, k it (by simp) o ho, r⟩, hne⟩
  item := by
    intro X hP hw hK hc i pins s σ H E I hf st hg
    subst hP hw hK
    obtain ⟨⟨old, he⟩, hit, hne, hle⟩ := st
    obtain ⟨hin, xs, x, hq, hx⟩ := hg
    obtain ⟨its, rv, p, hz⟩ := I.tuple hq
    obtain ⟨u, hu, ru⟩ := rv.get hx
    have hTa : s.heap.IsTuple a its.toArray := p
    have hel : e < s.heap.objs.size := Heap.lt_size he
    have hil : it < s.heap.objs.size := by obtain ⟨_, q, _⟩ := hit; exact Heap.lt_size q
    have hea : e ≠ a := fun z => by
      obtain ⟨o, ho, oc, _⟩ := p
      rw [← z, he] at ho
      cases ho
      exact absurd (Value.type.inj oc) (by decide)
    have hia : a ≠ it := fun z => by
      obtain ⟨o, ho, oc, _⟩ := p
      obtain ⟨o2, ho2, oc2, _⟩ := hit
      rw [z, ho2] at ho
      cases ho
      rw [oc] at oc2
      exact absurd (Value.type.inj oc2) (by decide)
    have hlt : i < its.toArray.size := by
      have := (List.getElem?_eq_some_iff.mp hu).1
      simpa using this
    refine wpAny_pyNext_enum_itemD (Draws.tuple (show X.A.in1.handled = none from I.ok.hd hc) it a hia its.toArray) he ⟨hit, hTa⟩ hlt hne (by simp [hne, hea]) fun v h' tk pv ho hit' hT hsz hk => ?_
    have ev : v = u := by
      have h1 : its[i]? = some v := by simpa using pv
      rw [hu] at h1
      exact (Option.some.inj h1).symm
    subst ev
    refine ⟨_, rfl, wpAny_letOwnedTupleGo_enum (s := { s with heap := h', toks := tk + 1 }) ho fun h'' he' sb => ?_⟩
    have hT2 : h''.get? s.heap.objs.size = some { cls := .type "tuple", data := .seq #[.int i tk, v] } := (sb.2 _ (Nat.ne_of_gt hel)).trans hT
    have new : ObjOk X.prog X.w (upd H s.heap.objs.size (.tup [.int (i : Nat), x])) h'' s.heap.objs.size (.tup [.int (i : Nat), x]) :=
      ⟨by show 2 ≤ sizeLine; decide, [.int i tk, v], .cons ⟨_, rfl⟩ (.cons ru .nil), ⟨_, hT2, rfl, _, rfl⟩⟩
    have I1 : Inv X pins σ (upd H s.heap.objs.size (.tup [.int (i : Nat), x])) { s with heap := h'', toks := tk + 1 } :=
      I.turnedNew (ch := [e, it]) (fun b ob hb q => (sb.2 b (fun z => hb (by simp [z]))).trans (hk b ob (fun z => hb (by simp [z])) (fun z => hb (by simp [z])) q)) hf (Nat.le_refl _) new
    refine ⟨.ref s.heap.objs.size, _, I1, rfl, ⟨_, x, rfl, I.hok.fresh (Nat.le_refl _), rfl, fun ys hy => by rw [I.tuple_inj hy hq]; exact hx⟩, ⟨⟨v, ?_⟩, ?_, hne, hin⟩, fun b hb => ?_⟩
    · have e1 : ((i + 1 : Nat) : Int) = (i : Int) + 1 := by omega
      rw [e1]; exact he'
    · obtain ⟨⟨o, ho2, r⟩, _⟩ := hit'
      exact ⟨o, (sb.2 it (Ne.symm hne)).trans ho2, r⟩
    · have hb' : b < s.heap.objs.size := by
        have e' : b = e ∨ b = it := by simpa using hb
        rcases e' with z | z
        · rw [z]; exact hel
        · rw [z]; exact hil
      rw [upd_ne (Nat.ne_of_lt hb')]
      exact (hf b hb).1
  done := by
    intro X hP hw hK hc i pins s σ H E I hf st hg
    subst hP hw hK
    obtain ⟨⟨old, he⟩, hit, hne, hle⟩ := st
    obtain ⟨hni, xs, hq, hx⟩ := hg
    obtain ⟨its, rv, p, hz⟩ := I.tuple hq
    obtain ⟨f0, f1, f2, f3, f4, f5⟩ := hf it (by simp)
    have hia : a ≠ it := fun z => by
      obtain ⟨o, ho, oc, _⟩ := p
      obtain ⟨o2, ho2, oc2, _⟩ := hit
      rw [z, ho2] at ho
      cases ho
      rw [oc] at oc2
      exact absurd (Value.type.inj oc2) (by decide)
    have hl := rv.length
    have hi : i = its.toArray.size := by
      rw [List.size_toArray, ← hl, hx]
      omega
    have hTa : s.heap.IsTuple a its.toArray := p
    subst hi
    exact wpAny_pyNext_enum_endD (Draws.tuple (show X.A.in1.handled = none from I.ok.hd hc) it a hia its.toArray) he ⟨hit, hTa⟩ fun h' eb => ⟨rfl, I.turned (t' := s.toks) (fun b o hb q => eb b o hb q) f0 f1 f3 f4 f5⟩
  self := fun A i s Q E st h => let ⟨⟨_, he⟩, _⟩ := st; wpAny_pyIter_enum he h
theorem pi_enumH {X : Cx} {e : Expr} {ta : TA} {p pos tpos : Pos} {elts : List Expr} {kk : Nat} (hg : Gl X "enumerate") (hm : X.mg "enumerate" = none) (ha : PA X [e] ta) (hs : starEach [e] X.env = [(false, eval e X.env)] := by rfl) :
    PI X (.Tuple elts kk tpos) (.Call (.Name "enumerate" p) [e] [] pos) (fun σ H R => ta σ H fun vs H1 => ∃ a xs, vs = [.ref a] ∧ SqT X.K H1 a xs ∧ R (IteH X.K a xs.length) H1) := by
  refine ⟨fun pins s σ H R I h => ?_⟩
  refine Call_ (ld_blt I hg hm boot_enumerate (PyProof.Rows.callWith_type1 (thn (ha.run pos pins s σ H _ I h) fun us s1 ⟨vs, H1, I1, r1, q1⟩ => ?_) hs rfl))
  obtain ⟨a, xs, ex, hq, q⟩ := q1
  subst ex
  cases r1 with
  | cons r rr =>
    cases rr
    cases r
    obtain ⟨its, rv, p', hz⟩ := I1.tuple hq
    refine EH.call_enum p' fun h' he hit hk => wpAny_pyIter_enum he ?_
    have I2 : Inv X pins σ H1 { s1 with heap := h' } := I1.kept (t' := s1.toks) hk
    refine ⟨s1.heap.objs.size + 1, [s1.heap.objs.size + 1, s1.heap.objs.size], _, _, H1, rfl, I2, turn_enumH a (s1.heap.objs.size + 1) s1.heap.objs.size xs.length, ⟨⟨.none, he⟩, hit, Nat.succ_ne_self _, Nat.zero_le _⟩, fun b hb => ?_, q⟩
    have e' : b = s1.heap.objs.size + 1 ∨ b = s1.heap.objs.size := by simpa using hb
    have hle : s1.heap.objs.size ≤ b := by
      rcases e' with z | z
      · rw [z]; exact Nat.le_add_right _ _
      · rw [z]; exact Nat.le_refl _
    exact I1.fpOk hle (I1.hok.fresh hle)
theorem i_enumH {Y : DX} {s : DSt} {a : Expr} {elts : List Expr} {kk : Nat} {p pos tpos : Pos} {α : Type} [Enc α] (_ok : YOk Y) (T : Bis Y.X.mg) (hg : Gl Y.X "enumerate") {WW : (Tup α → Prop) → Prop} (ha : EvC Y s a WW) (hs : starEach [a] Y.X.env = [(false, eval a Y.X.env)] := by exact star_1 rfl) : ItC Y s (.Tuple elts kk tpos) (.Call (.Name "enumerate" p) [a] [] pos) fun kk => WW fun xs => kk (enumD xs.items) := fun kk ww =>
  ⟨_, pi_enumH hg (T.no _ (by decide)) (pa_cons pe_we pa_nil hs) hs, fun F0 σ H F R e0 S k => (ha _ ww F0 σ H F e0 S).mono fun v H' ⟨_, _, F', e1, rr, S', xs, ea, es, ww⟩ => by
    subst ea es
    obtain ⟨p, vs, ev, hq, rv⟩ := rr
    have hlen := Paired.length rv
    exact ⟨p, vs, by rw [ev], sqT_ex2 hq S'.ext, k _ _ F' _ _ e1 S' (fun i H2 F2 e2 e3 => ⟨fun x hx => by
      have hq2 := sqT_ex2 (K := Y.X.K) (sqT_ex2 hq e2) e3
      unfold enumD at hx
      rw [List.getElem?_mapIdx] at hx
      cases q : xs.items[i]? with
      | none => rw [q] at hx; cases hx
      | some y =>
        rw [q] at hx
        cases hx
        obtain ⟨w, hw, rw'⟩ := prd_get rv q
        have hi : i < vs.length := (List.getElem?_eq_some_iff.mp hw).1
        refine ⟨⟨hi, vs, w, hq2, hw⟩, fun v H3 ⟨t, x, ev, ht, eh, hv⟩ => .inr ⟨t, _, ht, eh, ev, fun F3 e4 hs3 => ?_⟩⟩
        have := hv vs hq2
        rw [hw] at this
        cases this
        exact ⟨t, _, _, ev, hs3, rfl, Enc.mono rw' (e2.trans e4)⟩, fun hl => by
      unfold enumD at hl
      rw [List.length_mapIdx] at hl
      exact ⟨by omega, vs, sqT_ex2 (sqT_ex2 hq e2) e3, rfl⟩⟩) ⟨rfl, ww⟩⟩⟩
end Sp
set_option maxHeartbeats 4000000
namespace MN
open PySem PySem.Spec PyProof.Rows
section
variable {prog : Program} {w : World} {A : Around} {E : Value → Shared → Prop} {s : Shared}
end
end MN
namespace Sp
open PySem L2
section
variable {Y : DX} {s : DSt} {e : Expr} {es : List Expr} {pos p : Pos}
end
end Sp
set_option maxHeartbeats 4000000
namespace Sp
open PySem L2
section
variable {Y : DX} {s : DSt} {a b e tg : Expr} {pos p p2 pos2 : Pos} {D : DE} {sts : List Stmt} {x y : Str} {α β : Type} [Enc α] [Enc β]
section
variable {W : (Int → Prop) → Prop}
end
theorem s_asgTN {pt2 : Pos} {k2 : Nat} {R : α → List β → Prop} {Wa : (α → Prop) → Prop} {Wb : (List β → Prop) → Prop} (t : TgD (α × Rf)) (hg : TgOk Y tg (t.g Y.X.K) t.ws t.f) (ha : EvC Y s a Wa) (hb : EvN Y s b Wb)
    (next : ∀ q u m, R u m → Ws Y ⟨t.f (u, Rf.mk q) s.ρ, (q, lstc m) :: s.gs⟩ sts D) (w : Wa fun u => Wb fun m => R u m)
    (he : starEach [a, b] Y.X.env = (false, eval a Y.X.env) :: starEach [b] Y.X.env := by exact star_c rfl) (he2 : starEach [b] Y.X.env = (false, eval b Y.X.env) :: starEach [] Y.X.env := by exact star_c rfl)
    (hs : swapsWithSole [tg] (.Tuple [a, b] k2 pt2) pos.line Y.X.env = pure false := by rfl) (hw : swappedStores [tg] (.Tuple [a, b] k2 pt2) Y.X.env = pure none := by rfl) (h1 : (assignEach [tg] Y.X.env).map (·.2) = [assign tg Y.X.env] := by rfl) : Ws Y s (.Assign [tg] (.Tuple [a, b] k2 pt2) pos :: sts) D :=
  ws_cons (w1_asg hg (ev_tup2 (α := α) (β := Rf) (evs_cons (ha.q w fun u w => evs_cons ((hb _ w).mono fun A s' ⟨q, m, ea, es, r⟩ => by subst ea es; exact evs_nil ⟨u, Rf.mk q, rfl, (u, Rf.mk q), rfl, next q u m r⟩) he2) he)) hs hw h1)
theorem seq_plc {n : Nat} {i : Int} (h : inR n i) : seqIndex? i n = some (plc n i) ∧ plc n i < n := by
  unfold inR at h
  unfold seqIndex? plc
  by_cases h0 : i < 0
  · simp only [if_pos h0, if_neg (show ¬ 0 ≤ i by omega)]
    rw [if_pos (by simp; omega)]
    exact ⟨rfl, by omega⟩
  · simp only [if_neg h0, if_pos (show 0 ≤ i by omega)]
    rw [if_pos (by simp; omega)]
    exact ⟨rfl, by omega⟩
end
section
variable {Y : DX} {s : DSt} {e o : Expr} {pos p p2 apos ap2 pos2 : Pos} {D : DE} {sts : List Stmt} {x y : Str} {α : Type} [Enc α] [Inhabited α] {xs ys : List α} {q q2 : Addr} {W : (Int → Prop) → Prop}
theorem ev_popAt {R : α → List α → Prop} (i g : Nat) (hN : Y.X.N[i]? = some x) (hρ : s.ρ[i]? = some (some (raw (.ref q)))) (hg : s.gs[g]? = some (q, lstc xs)) (he : EvC Y s e W) (w : W fun j => (inR xs.length j ∧ -(2 ^ 63) ≤ j ∧ j < 2 ^ 63) ∧ R (ixD xs j) (xs.eraseIdx (plc xs.length j)))
    (m : Mx1 Y.X (.Name x p) "pop" apos e pos) (hv : Vis Y.X.env.scope x) (hd : (x == ("__debug__" : Str)) = false) (hcd : (x == ("__classdict__" : Str)) = false) :
    Ev Y s (.Call (.Attribute (.Name x p) "pop" apos) [e] [] pos) fun A s' => ∃ v zs, A = pu v ∧ s' = ⟨s.ρ, s.gs.set g (q, lstc zs)⟩ ∧ R v zs :=
  ev_m1X PySem.F.plainAttrs_list PySem.F.slot_list_pop PySem.F.type_list_pop mt_popAt (evp_v i hN hρ hv hd hcd) (fun σ H F S => by
      obtain ⟨_, oo, ho, _, vs, eo, rv⟩ := S.cell hg
      subst eo
      exact tyV_list (.of ho))
    (he.q w fun j w F0 σ H F u e0 S ru => by
      obtain ⟨⟨hr, b1, b2⟩, hR⟩ := w
      obtain ⟨hF, oo, ho, _, vs, eo, rv⟩ := S.cell hg
      subst eo
      obtain ⟨h1, h2⟩ := seq_plc hr
      have hl : vs.length = xs.length := Paired.length rv
      have hx : xs[plc xs.length j]? = some (ixD xs j) := by
        unfold ixD
        rw [List.getD_eq_getElem?_getD, List.getElem?_eq_getElem h2]
        rfl
      obtain ⟨z, hz, rz⟩ := prd_get rv hx
      exact ⟨q, vs, j, plc xs.length j, z, rfl, by rw [show u = V.int j from ru], ho, b1, b2, by rw [hl]; exact h1, hz, pu (ixD xs j), _, F, e0, rz, S.write (c' := lstc (xs.eraseIdx (plc xs.length j))) hg ho (not_codeL rfl) rfl ⟨_, rfl, prd_erase rv _⟩, _, _, rfl, rfl, hR⟩) m
theorem s_asgPop {R : α → List α → Prop} (i k g : Nat) (ok : YOk Y) (hi : Y.X.N[k]? = some y) (hN : Y.X.N[i]? = some x) (hρ : s.ρ[i]? = some (some (raw (.ref q)))) (hg : s.gs[g]? = some (q, lstc xs)) (he : EvC Y s e W)
    (next : ∀ v zs, R v zs → Ws Y ⟨s.ρ.set k (some (pu v)), s.gs.set g (q, lstc zs)⟩ sts D) (w : W fun j => (inR xs.length j ∧ -(2 ^ 63) ≤ j ∧ j < 2 ^ 63) ∧ R (ixD xs j) (xs.eraseIdx (plc xs.length j)))
    (m : Mx1 Y.X (.Name x p) "pop" apos e pos := by exact mx1 rfl rfl rfl) (hv : Vis Y.X.env.scope x := by first | exact .inl rfl | exact .inr (.inl rfl) | exact .inr (.inr rfl)) (hd : (x == ("__debug__" : Str)) = false := by decide) (hcd : (x == ("__classdict__" : Str)) = false := by decide)
    (hx : Loc Y.X.env.scope y := by first | exact .inl rfl | exact .inr rfl) (hs : swapsWith (.Call (.Attribute (.Name x p) "pop" apos) [e] [] pos) (some (.Name y p2)) pos2.line Y.X.env = pure false := by rfl) (hf : Y.X.fn y = true ∨ Y.X.env.scope.names.lookup y = some .local := by first | exact .inl rfl | exact .inr rfl) :
    Ws Y s (.Assign [.Name y p2] (.Call (.Attribute (.Name x p) "pop" apos) [e] [] pos) pos2 :: sts) D :=
  ws_cons (w1_set k ok hi hx ((ev_popAt i g hN hρ hg he w m hv hd hcd).mono fun A s' ⟨v, zs, ea, es, r⟩ => by subst ea es; exact next v zs r) hs hf)
end
end Sp
set_option maxHeartbeats 4000000
namespace Sp
open PySem L2
open PySem.W (Datum DatumOrd SomeDatum)
section
variable {o : Expr} {p pos apos cpos : Pos}
section
variable {Y : DX} {s : DSt} {κ ν : Type} [DecidableEq κ] [Kk κ] [Enc κ] [KkV κ] [Enc ν]
end
end
structure DcT (κ ν : Type) where
  kvs : List (κ × ν)
instance {κ ν : Type} : Inhabited (DcT κ ν) := ⟨⟨[]⟩⟩
class Kt (κ : Type) where
  key : κ → List Key
  inj : ∀ {a b : κ}, key a = key b → a = b
instance {α β : Type} [Kk α] [Kk β] : Kt (α × β) := ⟨fun x => [Kk.key x.1, Kk.key x.2], fun {a b} h => by
  injection h with h1 h2
  injection h2 with h2 _
  exact Prod.ext (Kk.inj h1) (Kk.inj h2)⟩
abbrev KTs {κ ν : Type} [Kt κ] [Enc ν] (K : Frag) (F : Hp) : List (List Key × V) → List (κ × ν) → Prop := Paired fun p q => p.1 = Kt.key q.1 ∧ Enc.rep K F p.2 q.2
theorem KTs.mono {κ ν : Type} [Kt κ] [Enc ν] {K : Frag} {F F' : Hp} {vs : List (List Key × V)} {xs : List (κ × ν)} (h : KTs K F vs xs) (e : Ext F F') : KTs K F' vs xs := Paired.mapP h fun _ _ r => ⟨r.1, Enc.mono r.2 e⟩
instance encDcT {κ ν : Type} [Kt κ] [Enc ν] : Enc (DcT κ ν) := ⟨fun K F v d => ∃ p od kvs, v = .ref p ∧ F p = some (.frz od (.dT kvs)) ∧ KTs K F kvs d.kvs,
  fun ⟨p, od, kvs, h1, h2, h3⟩ e => ⟨p, od, kvs, h1, e _ _ h2, h3.mono e⟩⟩
def dctT {κ ν : Type} [Kt κ] [Enc ν] (d : List (κ × ν)) : Cell := ⟨fun K F o => ∃ kvs, o = .dT kvs ∧ KTs K F kvs d, fun ⟨vs, h1, h2⟩ e => ⟨vs, h1, h2.mono e⟩⟩
def DFT (Y : DX) (s : DSt) {κ ν : Type} [Kt κ] [Enc ν] (A : Pv) (d : List (κ × ν)) : Prop := ∀ σ H F v, Sta Y s σ H F → A.rep Y.X.K F v → ∃ p kvs, v = .ref p ∧ Rd H p (.dT kvs) ∧ KTs Y.X.K F kvs d
def EvMT (Y : DX) (s : DSt) (e : Expr) {κ ν : Type} [Kt κ] [Enc ν] (W : (List (κ × ν) → Prop) → Prop) : Prop := ∀ k : List (κ × ν) → Prop, W k → Ev Y s e fun A s' => ∃ p m, A = raw (.ref p) ∧ s' = ⟨s.ρ, (p, dctT m) :: s.gs⟩ ∧ k m
section
variable {κ ν : Type} [DecidableEq κ] [Kt κ] [Enc ν] {K : Frag} {F : Hp}
end
section
variable {Y : DX} {s : DSt} {e a b c o f : Expr} {es : List Expr} {pos p apos cpos p2 pn ps : Pos} {D : DE} {sts : List Stmt} {x : Str} {q : Addr}
variable {κ ν : Type} [DecidableEq κ] [Kt κ] [Enc ν]
theorem DFT.pu {d : DcT κ ν} : DFT Y s (pu d) d.kvs := fun σ H F v S ⟨p, od, kvs, e, hp, r⟩ => ⟨p, kvs, e, .inr ⟨od, S.ext _ _ hp⟩, r⟩
theorem DFT.own {d : List (κ × ν)} {p : Addr} (i : Nat) (h : s.gs[i]? = some (p, dctT d)) : DFT Y s (raw (.ref p)) d := fun σ H F v S r => by
  obtain ⟨_, o, ho, _, vs, eo, rv⟩ := S.cell h
  subst eo
  exact ⟨p, vs, r, .inl ho, rv⟩
end
section
variable {P : Program} {w : World} {K : Frag} {tg : Expr} {d : Addr} {o : Obj} {es : Array DictEntry} {ep : Nat}
end
section
variable {Y : DX} {s : DSt} {a tg : Expr} {apos cpos : Pos} {κ ν : Type} [DecidableEq κ] [Kt κ] [Enc ν]
end
section
variable {κ : Type} [DecidableEq κ]
end
section
variable {o : Expr} {p pos apos cpos : Pos}
section
variable {Y : DX} {s : DSt} {κ ν : Type} [DecidableEq κ] [Kt κ] [Enc ν]
end
end
end Sp
set_option maxHeartbeats 4000000
namespace Sp
open PySem L2
section
variable {Y : DX} {s : DSt} {tg iter elt : Expr} {ifs : List Expr} {pos p gpos : Pos} {α β : Type} [Enc α] [Enc β] {k : Nat} {scope : Scope} {W : (List β → Prop) → Prop}
end
end Sp
set_option maxHeartbeats 4000000
namespace Sp
open PySem L2
open PySem.W PySem.Calls PyProof.Rows
def numFd (fld par : Str) (C : Addr) (K : Frag) (pf : Str) : FuncData → Bool
  | ⟨nm, qual, ⟨[], [⟨a0, _, _⟩, ⟨a1, _, _⟩], none, [], [], none, []⟩, .stmts [.Expr (.Call (.Attribute (.Call (.Name su _) [] [] _) ini p2) [.Constant (.str _) _ _] [] p4) _, .Assign [.Attribute (.Name se _) f2 _] (.Name pa _) _], sc, gl, [(k, cc)], .none, .none, _, _, _, .ref c, _, bl⟩ =>
    (p2.endLine == p4.line) && decide (nm = "__init__") && decide (a0 = "self") && decide (a1 = par) && decide (su = "super") && decide (ini = "__init__") && decide (se = "self") && decide (f2 = fld) && decide (pa = par) && decide (k = "__class__") && decide (gl = mainGlobals) && decide (bl = builtinsNs) &&
    decide (sc.kind = .function) && decide (sc.isGenerator = false) && decide (sc.isCoroutine = false) && decide (sc.names.lookup ("super" : Str) = some .globalImplicit) && decide (sc.names.lookup ("__class__" : Str) = some .free) && decide (sc.names.lookup ("self" : Str) = some .local) && decide (sc.names.lookup par = some .local) && (sc.names.all fun p => decide (p.2 ≠ .cell)) &&
    codeIn K (.ref c) qual && (match K.lookup c with
      | some ⟨_, _, .fields vs, _⟩ => (match (vs[2]? : Option Value) with
        | some (Value.str file _) => (pf == file)
        | _ => false)
      | _ => false) && (match K.lookup cc with
      | some ⟨_, _, .cell (some (.ref D)), _⟩ => decide (D = C)
      | _ => false)
  | _ => false
def numCls (K : Frag) (C : Addr) : Bool := match K.lookup C with
  | some ⟨.type "type", _, .cls cd, sl⟩ => (match cd.mro, sl.toList with
    | .ref C' :: bm, [_, _, _, _, some (.builtin n), _] => decide (C' = C) && decide (n = "ValueError.__new__") && decide (cd.hasDel = false) && decide (cd.hasDict = true) && PySem.HandSPX.refsVE bm && decide (alongIn K "__init__" bm = some (some (.builtin "ValueError.__init__")))
    | _, _ => false)
  | _ => false
def numB (pf : Str) (K : Frag) (C : Addr) (fld par : Str) : Bool :=
  numCls K C && decide (findIn K (.ref C) "__setattr__" = some (some (.builtin "object.__setattr__"))) && decide (subIn K (.ref C) (.type "BaseException") = some true) && decide (typeIn K (.ref C) = some (.type "type")) && keepIn K (.ref C) && xfB K C && decide (findIn K (.ref C) fld = some none) &&
  decide (nsIn K cStatics "thirdparty.any" = some none) && decide (nsIn K mainGlobals "super" = some none) && decide (subIn K (.ref C) (.type "ValueError") = some true) && (match findIn K (.ref C) "__init__" with
    | some (some (.ref f)) => decide (typeIn K (.ref f) = some (.type "function")) && (match K.lookup f with
      | some ⟨_, _, .func fd, _⟩ => numFd fld par C K pf fd
      | _ => false)
    | _ => false)
structure NumC (pf : Str) (K : Frag) (C : Addr) (fld par : Str) : Prop where
  T : OexC K C
  xf : XfC K C
  no : findIn K (.ref C) fld = some none
  op : nsIn K cStatics "thirdparty.any" = some none
  su : nsIn K mainGlobals "super" = some none
  ve : subIn K (.ref C) (.type "ValueError") = some true
  cl : ∃ cd bm, clsIn K C = some cd ∧ cd.mro = .ref C :: bm ∧ cd.hasDict = true ∧ PySem.HandSPX.refsVE bm = true ∧ alongIn K "__init__" bm = some (some (.builtin "ValueError.__init__"))
  fn : ∃ (f cc c : Addr) (qual : Str) (an0 an1 : Option Expr) (ap0 ap1 : Pos) (p0 p1 p2 p3 p4 p5 q1 q2 q3 q4 : Pos) (m : Str) (j : Nat) (sc : Scope) (doc pm ct oc : Value) (an od : Option Addr) (osl : Array (Option Value)),
    findIn K (.ref C) "__init__" = some (some (.ref f)) ∧ typeIn K (.ref f) = some (.type "function") ∧
    K.lookup f = some ⟨oc, od, .func (fnX "__init__" qual ⟨[], [⟨"self", an0, ap0⟩, ⟨par, an1, ap1⟩], none, [], [], none, []⟩
      [.Expr (.Call (.Attribute (.Call (.Name "super" p0) [] [] p1) "__init__" p2) [.Constant (.str m) j p3] [] p4) p5, .Assign [.Attribute (.Name "self" q1) fld q2] (.Name par q3) q4] sc [("__class__", cc)] .none .none doc pm an (.ref c) ct), osl⟩ ∧
    (p2.endLine == p4.line) = true ∧ sc.kind = .function ∧ sc.isGenerator = false ∧ sc.isCoroutine = false ∧ sc.names.lookup ("super" : Str) = some .globalImplicit ∧ sc.names.lookup ("__class__" : Str) = some .free ∧ sc.names.lookup ("self" : Str) = some .local ∧ sc.names.lookup par = some .local ∧ (∀ x ∈ sc.names, x.2 ≠ .cell) ∧
    codeIn K (.ref c) qual = true ∧ (∃ ccl cdd vs ccs file tf, K.lookup c = some ⟨ccl, cdd, .fields vs, ccs⟩ ∧ vs[2]? = some (.str file tf) ∧ (pf == file) = true) ∧ ∃ cl cld csl, K.lookup cc = some ⟨cl, cld, .cell (some (.ref C)), csl⟩
end Sp
set_option maxHeartbeats 4000000
namespace PySem
namespace NumX
open PySem.W PySem.Calls PyProof.Rows
section
variable {prog : Program} {w : World} {A : Around} {E : Value → Shared → Prop} {h : Heap} {g : Array GenState} {d : Drawn} {t : Nat} {os : OsState}
variable {nm q : Str} {C N : Addr} {bs bm : List Value} {hdct : Bool} {sn : List Str} {sub : List Value} {ab : Bool} {col : Option Bool} {dd : Option Addr} {k0 k1 k2 k3 k5 : Option Value}
end
end NumX
end PySem
namespace Sp
open PySem L2
open PySem.W PySem.Calls PyProof.Rows
section
variable {prog : Program} {w : World} {A : Around} {pf : Str} {K : Frag} {C : Addr} {fld par : Str} {mg : Str → Option Value} {R : Result → Shared → Prop} {hp : Heap} {g : Array GenState} {dr : Drawn} {tk : Nat} {os : OsState}
end
end Sp
set_option maxHeartbeats 4000000
namespace Sp
open PySem L2
open PySem.W PySem.Calls PyProof.Rows
structure Num (P : Program) (K : Frag) (C : Addr) (fld par : Str) : Prop where
  c : NumC P.main.file K C fld par
  top : (P.main.scope.names.lookup ("super" : Str)).isSome = false
  par : par = "row" ∨ par = "part"
section
variable {Y : DX} {s : DSt} {e : Expr} {D : DE} {sts : List Stmt}
end
end Sp
set_option maxHeartbeats 4000000
namespace Sp
open PySem L2
def TTp (C : Addr) (fld ret : Str) : (XK → Hp → VK → Prop) → Hp → VK → Prop := fun tl H Q =>
  tl (fun cls d H' => ∃ r dd, cls = .ref C ∧ d = some dd ∧ H' dd = some (.xd [(fld, .int r)]) ∧ Q (.int r) H') H (fun _ H' => Q (.str ret) H')
structure PartD (X : Cx) (x : Str) (C : Addr) (fld ret : Str) : Prop where
  ex : ∃ (a : Str) (g : Addr) (pg : Arguments) (bg : List Stmt) (sg : Scope) (dV kV doc pm cdv ct oc : Value) (an od : Option Addr) (osl : Array (Option Value)) (Ng : List Str),
    X.mg x = some (.ref g) ∧ PySem.W.keepIn X.K (.ref g) = true ∧ X.K.lookup g = some ⟨oc, od, .func (PySem.W.fnOf x x pg bg sg dV kV doc pm an cdv ct), osl⟩ ∧ PySem.W.codeIn X.K cdv x = true ∧
    L2.Binds X.K (PySem.W.fnOf x x pg bg sg dV kV doc pm an cdv ct) [a] [] ∧ FnScope Ng [a] sg ∧ Ng[0]? = some a ∧ Vis sg a ∧ (a == ("__debug__" : Str)) = false ∧ (a == ("__classdict__" : Str)) = false ∧
    ∀ q, LamX.GivesTo X Ng x sg g cdv bg a q (TTp C fld ret)
section
variable {Y : DX} {s : DSt} {e body : Expr} {pos p lpos : Pos} {Q : Pv → DSt → Prop} {scope : Scope}
variable {α : Type} [Enc α]
end
end Sp
set_option maxHeartbeats 4000000
namespace MN3
open PySem PySem.Spec PyProof.Rows
section
variable {prog : Program} {w : World} {A : Around} {E : Value → Shared → Prop} {s : Shared}
end
end MN3
namespace Sp
open PySem L2
section
variable {Y : DX} {s : DSt} {e : Expr} {es : List Expr} {pos p : Pos}
end
end Sp
namespace Sp
open PySem L2
open PySem.W (Datum DatumOrd SomeDatum)
section
variable {Y : DX} {s : DSt} {e a b c o f : Expr} {es : List Expr} {pos p p2 pos2 apos : Pos} {D : DE} {sts : List Stmt}
theorem EvN.q {α : Type} [Enc α] {W : (List α → Prop) → Prop} {k : List α → Prop} {Q : Pv → DSt → Prop} (h : EvN Y s e W) (w : W k) (q : ∀ p xs, k xs → Q (raw (.ref p)) ⟨s.ρ, (p, lstc xs) :: s.gs⟩) : Ev Y s e Q :=
  (h k w).mono fun A s' ⟨p, xs, ea, es, kx⟩ => by subst ea es; exact q p xs kx
theorem EvM.q {κ ν : Type} [Kk κ] [Enc ν] {W : (List (κ × ν) → Prop) → Prop} {k : List (κ × ν) → Prop} {Q : Pv → DSt → Prop} (h : EvM Y s e W) (w : W k) (q : ∀ p xs, k xs → Q (raw (.ref p)) ⟨s.ρ, (p, dctc xs) :: s.gs⟩) : Ev Y s e Q :=
  (h k w).mono fun A s' ⟨p, xs, ea, es, kx⟩ => by subst ea es; exact q p xs kx
theorem EvMT.q {κ ν : Type} [Kt κ] [Enc ν] {W : (List (κ × ν) → Prop) → Prop} {k : List (κ × ν) → Prop} {Q : Pv → DSt → Prop} (h : EvMT Y s e W) (w : W k) (q : ∀ p xs, k xs → Q (raw (.ref p)) ⟨s.ρ, (p, dctT xs) :: s.gs⟩) : Ev Y s e Q :=
  (h k w).mono fun A s' ⟨p, xs, ea, es, kx⟩ => by subst ea es; exact q p xs kx
theorem w1_par3 {x y z : Str} {px py pz pt pt2 : Pos} {kt k2 : Nat} (i j l : Nat) (ok : YOk Y) (hi : Y.X.N[i]? = some x) (hj : Y.X.N[j]? = some y) (hl : Y.X.N[l]? = some z)
    (h : Evs Y s [a, b, c] fun As s' => ∃ A B C, As = [A, B, C] ∧ D.nx ⟨((s'.ρ.set i (some A)).set j (some B)).set l (some C), s'.gs⟩) (hij : i ≠ j := by decide) (hil : i ≠ l := by decide) (hjl : j ≠ l := by decide)
    (hx : Y.X.env.scope.names.lookup x = some .local := by rfl) (hy : Y.X.env.scope.names.lookup y = some .local := by rfl) (hz : Y.X.env.scope.names.lookup z = some .local := by rfl)
    (hw : swappedStores [.Tuple [.Name x px, .Name y py, .Name z pz] kt pt] (.Tuple [a, b, c] k2 pt2) Y.X.env = pure (some [x, y, z]) := by rfl) (hs : swapsWithSole [.Tuple [.Name x px, .Name y py, .Name z pz] kt pt] (.Tuple [a, b, c] k2 pt2) pos.line Y.X.env = pure false := by rfl) :
    W1 Y s (.Assign [.Tuple [.Name x px, .Name y py, .Name z pz] kt pt] (.Tuple [a, b, c] k2 pt2) pos) D := fun F0 σ H F e0 S =>
  .of (ps_par3 ok.calm ok.nd hi hj hl hij hil hjl hx hy hz pa_wa hw hs) ((h F0 σ H F e0 S).mono fun vs H' ⟨As, s', F', e1, r, S', A, B, C, ea, q⟩ => by
    subst ea
    cases r with
    | cons ra rt => cases rt with
      | cons rb rt => cases rt with
        | cons rc rn =>
          cases rn
          exact ⟨_, _, _, rfl, _, F', e1, ((S'.set ra i).set rb j).set rc l, q⟩)
section
variable {κ ν : Type} [DecidableEq κ] [Kk κ] [Enc κ] [KkV κ] [Enc ν]
end
class FlatU (α : Type) [Enc α] extends FlatV α where
  of : ∀ {K : Frag} {F : Hp} {v : V} {a : α}, Enc.rep K F v a → v = z a
instance : FlatU Int := ⟨fun h => h⟩
instance : FlatU (List Nat) := ⟨fun h => h⟩
section
variable {δ : Type} [DecidableEq δ] [Enc δ] [DatumOrd δ] [Dat δ]
end
end
end Sp
set_option maxHeartbeats 4000000
namespace Sp
open PySem L2
open PySem.W (Datum DatumOrd SomeDatum)
instance {α β γ : Type} [Kk α] [Kk β] [Kk γ] : Kt (T3 α β γ) := ⟨fun x => [Kk.key x.a, Kk.key x.b, Kk.key x.c], fun {a b} h => by
  injection h with h1 h2
  injection h2 with h2 h3
  injection h3 with h3 _
  obtain ⟨a1, a2, a3⟩ := a
  obtain ⟨b1, b2, b3⟩ := b
  obtain rfl : a1 = b1 := Kk.inj h1
  obtain rfl : a2 = b2 := Kk.inj h2
  obtain rfl : a3 = b3 := Kk.inj h3
  rfl⟩
theorem kk_list {α : Type} [Kk α] : ∀ {a b : List α}, a.map Kk.key = b.map Kk.key → a = b
  | [], [], _ => rfl
  | [], _ :: _, h => by cases h
  | _ :: _, [], h => by cases h
  | x :: a, y :: b, h => by
    injection h with h1 h2
    rw [Kk.inj h1, kk_list h2]
instance {α : Type} [Kk α] : Kt (Tup α) := ⟨fun x => x.items.map Kk.key, fun {a b} h => by
  obtain ⟨a⟩ := a
  obtain ⟨b⟩ := b
  exact congrArg PySem.W.Tup.mk (kk_list h)⟩
class KtV (κ : Type) [Kt κ] [Enc κ] : Prop where
  of : ∀ {K : Frag} {F : Hp} {v : V} {k : κ}, Enc.rep K F v k → ∃ b, v = .ref b ∧ F b = some (.tup ((Kt.key k).map kV))
  rep : ∀ {K : Frag} {F : Hp} {b : Addr} {k : κ}, F b = some (.tup ((Kt.key k).map kV)) → Enc.rep K F (.ref b) k
instance {α β : Type} [Kk α] [Kk β] [Enc α] [Enc β] [KkV α] [KkV β] : KtV (α × β) := ⟨fun {K F v k} ⟨p, a, b, h1, h2, h3, h4⟩ => ⟨p, h1, by rw [h2, KkV.of h3, KkV.of h4]; rfl⟩,
  fun {K F b k} h => ⟨b, _, _, rfl, h, KkV.rep _, KkV.rep _⟩⟩
instance {α β γ : Type} [Kk α] [Kk β] [Kk γ] [Enc α] [Enc β] [Enc γ] [KkV α] [KkV β] [KkV γ] : KtV (T3 α β γ) := ⟨fun {K F v k} ⟨p, a, b, c, h1, h2, h3, h4, h5⟩ => ⟨p, h1, by rw [h2, KkV.of h3, KkV.of h4, KkV.of h5]; rfl⟩,
  fun {K F b k} h => ⟨b, _, _, _, rfl, h, KkV.rep _, KkV.rep _, KkV.rep _⟩⟩
theorem vs_keys {α : Type} [Kk α] [Enc α] [KkV α] {K : Frag} {F : Hp} : ∀ {vs : List V} {xs : List α}, Vs K F vs xs → vs = (xs.map Kk.key).map kV
  | _, _, .nil => rfl
  | _, _, .cons r t => by rw [List.map_cons, List.map_cons, ← vs_keys t, KkV.of r]
theorem keys_vsR {α : Type} [Kk α] [Enc α] [KkV α] {K : Frag} {F : Hp} : ∀ (xs : List α), Vs K F ((xs.map Kk.key).map kV) xs
  | [] => .nil
  | _ :: r => .cons (KkV.rep _) (keys_vsR r)
section
variable {Y : DX} {s : DSt} {e a b c o f : Expr} {es : List Expr} {pos p p2 pos2 apos : Pos} {D : DE} {sts : List Stmt}
variable {κ ν : Type} [DecidableEq κ] [Kt κ] [Enc κ] [KtV κ] [Enc ν]
end
end Sp
set_option maxHeartbeats 4000000
namespace Sp
open PySem L2
open PySem.W (Datum DatumOrd SomeDatum)
section
variable {Y : DX} {s : DSt} {e a b c o f : Expr} {es : List Expr} {pos p p2 pos2 apos : Pos} {D : DE} {sts : List Stmt}
variable {κ ν : Type} [DecidableEq κ] [Kt κ] [Enc κ] [KtV κ] [Enc ν]
end
end Sp
set_option maxHeartbeats 4000000
namespace Sp
open PySem L2
open PySem.W (Datum DatumOrd SomeDatum)
def replT (x y z : List Nat) : List Nat := tx (Txt.replace (toStr x) (toStr y) (toStr z))
theorem toStr_replT (x y z : List Nat) : toStr (replT x y z) = Txt.replace (toStr x) (toStr y) (toStr z) := toStr_tx _
def WTT (X : Cx) (e : Expr) (σ : St) (H : Hp) (Q : Bool → Hp → Prop) : Prop :=
  ∀ (pins : List (Addr × Obj)) (s : Shared), 1 ≤ s.toks → Inv X pins σ H s → wpAny (model X.prog X.w) X.A (isTrue e X.env (eval e X.env)) (TP X pins σ Q) X.xe s
def WET (X : Cx) (e : Expr) (σ : St) (H : Hp) (Q : VK) : Prop :=
  ∀ (pins : List (Addr × Obj)) (s : Shared), 1 ≤ s.toks → Inv X pins σ H s → wpAny (model X.prog X.w) X.A (eval e X.env) (EP X pins σ Q) X.xe s
section
variable {X : Cx} {a b e : Expr} {σ : St} {H : Hp} {pos p : Pos} {Q : Bool → Hp → Prop}
theorem wtt_cmp {op : CmpOp} {r : R2} (ho : OpR X (compareOp op) r) (hm : behindInMarks op b = false) (h : WET X a σ H fun x H1 => WET X b σ H1 fun y H2 => r x y H2 fun z H' => ∃ k, z = .bl k ∧ Q k H') : WTT X (.Compare a [op] [b] pos) σ H Q := by
  intro pins s h0 I
  refine wpAny_isTrue_Compare1 (wpAny_mono (PySem.wpAny_toks_of h0 (h pins s h0 I)) (fun v s1 ⟨h1, x, H1, I1, r1, q1⟩ => wpAny_mono (PySem.wpAny_toks_of h1 (q1 pins s1 h1 I1)) (fun u s2 ⟨h2, y, H2, I2, r2, q2⟩ =>
    thn (ho pins s2 σ H2 x y v u _ I2 r1 r2 q2) fun c s3 ⟨z, H3, I3, r3, k, e, q3⟩ => ?_) fun _ _ z => z.2) fun _ _ z => z.2) hm
  subst e
  cases r3
  exact wpAny_truthy_bool ⟨H3, I3, q3⟩
theorem wet_of {e : Expr} {Q : VK} (h : WE X e σ H Q) : WET X e σ H Q := fun pins s _ I => h.run pins s I
end
section
variable {Y : DX} {s : DSt} {e a b c d o : Expr} {pos p p2 p3 apos c0 c1 : Pos} {j k : Nat}
def RpOk (x z : List Nat) : Prop := x.length + (x.length + 1) * z.length ≤ 16777216
def EtT (Y : DX) (s : DSt) (e : Expr) (Q : Bool → DSt → Prop) : Prop := ∀ F0 σ H F, Ext F0 F → Sta Y s σ H F → WTT Y.X e σ H (Pt Y σ F0 Q)
theorem WTT.mono {X : Cx} {σ : St} {H : Hp} {Q Q' : Bool → Hp → Prop} (h : WTT X e σ H Q) (k : ∀ b H', Q b H' → Q' b H') : WTT X e σ H Q' := fun pins s h0 I => thn (h pins s h0 I) fun b _ ⟨H', J, q⟩ => ⟨H', J, k b H' q⟩
end
end Sp
set_option maxHeartbeats 4000000
namespace Sp
open PySem L2 He
open PySem.Spec
def asS (g : Addr → Option Obj) (n : Nat) : List Addr := asD g n ++ [cStatics]
def obsY (n : Nat) (fa : List Fa) (fn : List DefD) (ts : List Tab) (tf : List Defn) (ex : PySem.W.Frag → Bool) (g : Addr → Option Obj) : AlX := (obsT fa fn ts (frT g (asS g n)), ex (frT g (asS g n)) && tabsB g tf (frT g (asS g n)))
theorem saysY_of {n : Nat} {fa : List Fa} {fn : List DefD} {ts : List Tab} {tf : List Defn} {ex : PySem.W.Frag → Bool} {w : World} {h : Heap} (e : obsY n fa fn ts tf ex h.get? = valX fn ts w) : SaysX fa fn ts tf ex w h (frT h.get? (asS h.get? n)) := by
  have e1 : obsT fa fn ts (frT h.get? (asS h.get? n)) = valT fn ts w := congrArg (fun z : AlX => z.1) e
  have e2 : (ex (frT h.get? (asS h.get? n)) && tabsB h.get? tf (frT h.get? (asS h.get? n))) = true := congrArg (fun z : AlX => z.2) e
  rw [Bool.and_eq_true] at e2
  obtain ⟨h1, h2⟩ := e2
  have key : ∀ p ∈ tf, PySem.W.codeHdIn (frT h.get? (asS h.get? n)) (cT (frT h.get? (asS h.get? n)) p).1 (cT (frT h.get? (asS h.get? n)) p).2 = true ∧ ∃ o, h.get? (cT (frT h.get? (asS h.get? n)) p).2 = some o ∧ emptyTab o = true := fun p hp => by
    have h0 := List.all_eq_true.mp h2 p hp
    rw [Bool.and_eq_true] at h0
    obtain ⟨h3, h4⟩ := h0
    refine ⟨h3, ?_⟩
    cases q : h.get? (cT (frT h.get? (asS h.get? n)) p).2 with
    | none => rw [q] at h4; cases h4
    | some o => rw [q] at h4; exact ⟨o, rfl, h4⟩
  exact ⟨e1, h1, fun p hp => (key p hp).1, fun p hp => by
    obtain ⟨_, o, q, z⟩ := key p hp
    exact frT_none q z, fun p hp => by
    obtain ⟨_, o, q, z⟩ := key p hp
    rw [q, emptyTab_eq z]⟩
def hookY (n : Nat) (fa : List Fa) (fn : List DefD) (ts : List Tab) (tf : List Defn) (ex : PySem.W.Frag → Bool) : PySem.W.Hook where
  α := AlX
  obs := fun s => obsY n fa fn ts tf ex s.heap.get?
  val := fun w => valX fn ts w
  says := fun w h => ∃ K : PySem.W.Frag, K.In h ∧ SaysX fa fn ts tf ex w h K
  of := fun _ _ e => ⟨_, frT_in, saysY_of e⟩
  keeps := fun _ _ _ ⟨K, hK, c⟩ k => ⟨K, PySem.W.Frag.In.keeps hK k, ⟨c.t, c.more, c.hd, c.out, fun p hp => k _ _ (c.empty p hp)⟩⟩
theorem obsY_eq {n : Nat} {fa : List Fa} {fn : List DefD} {ts : List Tab} {tf : List Defn} {ex : PySem.W.Frag → Bool} {g : Addr → Option Obj} {s : Shared} (h : ∀ a, g a = s.heap.get? a) : obsY n fa fn ts tf ex g = (hookY n fa fn ts tf ex).obs s := by
  have e : g = s.heap.get? := funext h
  rw [e] <;> rfl
end Sp
set_option maxHeartbeats 4000000
namespace Sp
open PySem L2
open PySem.W (DatumOrd)
section
variable {ρ : Type} {w : (ρ → Prop) → (Ex → Prop) → Prop} {k : ρ → Prop} {E : Ex → Prop}
theorem Cl.here (h : w k E) : Cl w k E := ⟨k, E, h, fun _ r => r, fun _ r => r⟩
theorem Cl.val {r : ρ} (h : w (fun x => x = r) NoE) (q : k r) : Cl w k E := ⟨_, _, h, fun _ e => by subst e; exact q, fun _ h => h.elim⟩
theorem Cl.exc {e : Ex} (h : w (fun _ => False) (fun x => x = e)) (q : E e) : Cl w k E := ⟨_, _, h, fun _ h => h.elim, fun _ h => by subst h; exact q⟩
theorem Cl.mono {k' : ρ → Prop} {E' : Ex → Prop} (h : Cl w k E) (h1 : ∀ r, k r → k' r) (h2 : ∀ e, E e → E' e) : Cl w k' E' :=
  let ⟨R0, E0, a, b, c⟩ := h
  ⟨R0, E0, a, fun r x => h1 r (b r x), fun e x => h2 e (c e x)⟩
end
theorem ClD.here {ρ : Type} {w : (ρ → Prop) → (Ex → Prop) → Prop} {k : ρ → Prop} (h : w k NoE) : ClD w k := ⟨k, h, fun _ r => r⟩
theorem ClD.roll {n : Int} {k : Int → Prop} (h0 : 0 < n) (h1 : n < 1073741824) (h : ∀ r : Int, 0 ≤ r → r < n → k r) : ClD (rollW (n, ())) k := ⟨k, ⟨h0, h1, h⟩, fun _ r => r⟩
section
variable {β Z : Type} {items : List β} {z0 : Z} {body : β → Z → (Z → Prop) → Prop} {rest : Z → Prop}
theorem forW.inv (P : List β → Z → Prop) (h0 : P [] z0) (hs : ∀ l x r z, items = l ++ x :: r → P l z → body x z (P (l ++ [x]))) (he : ∀ z, P items z → rest z) : forW items z0 body rest :=
  ⟨fun i z => P (items.take i) z, by simpa using h0, fun i x z hx h => by
    have hlt := (List.getElem?_eq_some_iff.mp hx).1
    have e : items = items.take i ++ x :: items.drop (i + 1) := by
      have := List.take_append_drop i items
      rw [List.drop_eq_getElem_cons hlt] at this
      rw [(List.getElem?_eq_some_iff.mp hx).2] at this
      exact this.symm
    have := hs _ _ _ z e h
    have e2 : items.take (i + 1) = items.take i ++ [x] := by rw [List.take_add_one, hx]; rfl
    show body x z (fun z => P (items.take (i + 1)) z)
    rw [e2]
    exact this, fun z h => he z (by simpa using h)⟩
theorem forW.fold (f : Z → β → Z) (hs : ∀ l x r, items = l ++ x :: r → ∀ k : Z → Prop, k (f (l.foldl f z0) x) → body x (l.foldl f z0) k) (he : rest (items.foldl f z0)) : forW items z0 body rest :=
  forW.inv (fun l z => z = l.foldl f z0) rfl (fun l x r z e h => by
    subst h
    exact hs l x r e _ (by rw [List.foldl_append]; rfl)) (fun z h => by subst h; exact he)
end
theorem ifJ.mk {Z : Type} {b : Bool} {B C : (Z → Prop) → Prop} {rest : Z → Prop} (h1 : b = true → B rest) (h2 : b = false → C rest) : ifJ b B C rest := ⟨h1, h2⟩
section
variable {β α : Type} {P : β → α → Prop} {xs : List β} {ys : List α}
theorem Each.all {R : α → Prop} (h : Each P xs ys) (q : ∀ x ∈ xs, ∀ y, P x y → R y) : ∀ y ∈ ys, R y := by
  induction h with
  | nil => intro y hy; cases hy
  | cons p _ ih =>
    intro y hy
    rcases List.mem_cons.mp hy with rfl | hy
    · exact q _ (List.mem_cons_self ..) _ p
    · exact ih (fun x hx => q x (List.mem_cons_of_mem _ hx)) y hy
theorem Each.length {P : β → α → Prop} (h : Each P xs ys) : ys.length = xs.length := h.len
end
theorem ixS_mem {x : Txt} {i : Int} (h0 : 0 ≤ i) (h1 : i < x.length) : ∃ c ∈ x, ixS x i = [c] := by
  unfold ixS plc
  rw [if_pos h0]
  have : i.toNat < x.length := by omega
  refine ⟨x[i.toNat], List.getElem_mem this, ?_⟩
  rw [List.getD_eq_getElem?_getD, List.getElem?_eq_getElem this] <;> rfl
theorem ixD_mem {α : Type} [Inhabited α] {x : List α} {i : Int} (h0 : 0 ≤ i) (h1 : i < x.length) : ixD x i ∈ x := by
  unfold ixD plc
  rw [if_pos h0]
  have : i.toNat < x.length := by omega
  rw [List.getD_eq_getElem?_getD, List.getElem?_eq_getElem this]
  exact List.getElem_mem this
theorem joinT_nil : ∀ xs : List Txt, joinT [] xs = xs.flatten
  | [] => rfl
  | [x] => by simp [joinT]
  | x :: y :: r => by
    rw [joinT, joinT_nil (y :: r)]
    simp
theorem lenSum_nil : lenSum [] = 0 := rfl
theorem lenSum_cons (x : Txt) (xs : List Txt) : lenSum (x :: xs) = x.length + lenSum xs := by simp [lenSum]
theorem lenSum_app (xs ys : List Txt) : lenSum (xs ++ ys) = lenSum xs + lenSum ys := by simp [lenSum]
theorem lenSum_flat (xs : List Txt) : lenSum xs = xs.flatten.length := by simp [lenSum, List.length_flatten]
theorem flat_chars (x : Txt) : (x.map fun c => [c]).flatten = x := by
  induction x with
  | nil => rfl
  | cons a x ih => simp [ih]
class Lin (α : Type) [DecidableEq α] [DatumOrd α] : Prop where
  irr : ∀ a : α, DatumOrd.lt a a = false
  tr : ∀ a b c : α, DatumOrd.lt a b = true → DatumOrd.lt b c = true → DatumOrd.lt a c = true
  tot : ∀ a b : α, DatumOrd.lt a b = false → DatumOrd.lt b a = false → a = b
instance : Lin Int := ⟨fun a => decide_eq_false (Int.lt_irrefl a), fun a b c h1 h2 => decide_eq_true (Int.lt_trans (of_decide_eq_true h1) (of_decide_eq_true h2)), fun a b h1 h2 => by
  have h1 := of_decide_eq_false h1
  have h2 := of_decide_eq_false h2
  omega⟩
instance : Lin (List Nat) := ⟨fun a => decide_eq_false (List.lt_irrefl a), fun a b c h1 h2 => decide_eq_true (List.lt_trans (of_decide_eq_true h1) (of_decide_eq_true h2)), fun a b h1 h2 =>
  List.le_antisymm (List.not_lt.mp (of_decide_eq_false h2)) (List.not_lt.mp (of_decide_eq_false h1))⟩
instance {α β : Type} [DecidableEq α] [DecidableEq β] [DatumOrd α] [DatumOrd β] [Lin α] [Lin β] : Lin (α × β) where
  irr a := by show (if a.1 = a.1 then _ else _) = false; rw [if_pos rfl]; exact Lin.irr _
  tr a b c h1 h2 := by
    have h1 : (if a.1 = b.1 then DatumOrd.lt a.2 b.2 else DatumOrd.lt a.1 b.1) = true := h1
    have h2 : (if b.1 = c.1 then DatumOrd.lt b.2 c.2 else DatumOrd.lt b.1 c.1) = true := h2
    show (if a.1 = c.1 then DatumOrd.lt a.2 c.2 else DatumOrd.lt a.1 c.1) = true
    by_cases e1 : a.1 = b.1
    · rw [if_pos e1] at h1
      by_cases e2 : b.1 = c.1
      · rw [if_pos e2] at h2; rw [if_pos (e1.trans e2)]; exact Lin.tr _ _ _ h1 h2
      · rw [if_neg e2] at h2; rw [if_neg (fun e => e2 (e1.symm.trans e)), e1]; exact h2
    · rw [if_neg e1] at h1
      by_cases e2 : b.1 = c.1
      · rw [if_neg (fun e => e1 (e.trans e2.symm)), ← e2]; exact h1
      · rw [if_neg e2] at h2
        have h3 := Lin.tr _ _ _ h1 h2
        by_cases e3 : a.1 = c.1
        · rw [e3, Lin.irr] at h3; cases h3
        · rw [if_neg e3]; exact h3
  tot a b h1 h2 := by
    have h1 : (if a.1 = b.1 then DatumOrd.lt a.2 b.2 else DatumOrd.lt a.1 b.1) = false := h1
    have h2 : (if b.1 = a.1 then DatumOrd.lt b.2 a.2 else DatumOrd.lt b.1 a.1) = false := h2
    by_cases e1 : a.1 = b.1
    · rw [if_pos e1] at h1
      rw [if_pos e1.symm] at h2
      exact Prod.ext e1 (Lin.tot _ _ h1 h2)
    · rw [if_neg e1] at h1
      rw [if_neg (Ne.symm e1)] at h2
      exact absurd (Lin.tot _ _ h1 h2) e1
section
variable {α : Type} [DecidableEq α] [DatumOrd α] [Lin α]
end
section
variable {κ ν : Type} [DecidableEq κ]
theorem dval_nil (k : κ) : dval ([] : List (κ × ν)) k = none := rfl
theorem dval_cons (p : κ × ν) (d : List (κ × ν)) (k : κ) : dval (p :: d) k = if p.1 = k then some p.2 else dval d k := by
  unfold dval
  rw [List.find?_cons]
  by_cases h : p.1 = k
  · simp [h]
  · simp [h]
theorem dhas_iff {d : List (κ × ν)} {k : κ} : dhas d k = true ↔ k ∈ d.map (·.1) := by
  unfold dhas
  induction d with
  | nil => simp [dval_nil]
  | cons p d ih =>
    rw [dval_cons]
    by_cases e : p.1 = k
    · simp [e]
    · rw [if_neg e, ih, List.map_cons, List.mem_cons]
      constructor
      · exact .inr
      · rintro (h | h)
        · exact absurd h.symm e
        · exact h
end
end Sp
set_option maxHeartbeats 4000000
namespace Sp
open PySem L2
open PySem.W (DatumOrd)
abbrev sg (x : Txt) : List Txt := x.map fun c => [c]
theorem sg_inj {x y : Txt} (h : sg x = sg y) : x = y := by
  have h3 := congrArg List.flatten h
  rwa [flat_chars, flat_chars] at h3
theorem pre_sg {l r : List Txt} {x : Txt} {w : Txt} (e : sg w = l ++ x :: r) : ∃ (l' : Txt) (c : Nat) (r' : Txt), w = l' ++ c :: r' ∧ l = sg l' ∧ x = [c] ∧ r = sg r' := by
  obtain ⟨a, b, e1, e2, e3⟩ := List.map_eq_append_iff.mp e
  obtain ⟨c, r', e4, e5, e6⟩ := List.map_eq_cons_iff.mp e3
  exact ⟨a, c, r', by rw [e1, e4], e2.symm, e5.symm, e6.symm⟩
theorem forT {Z : Type} {w : Txt} {z0 : Z} {body : Txt → Z → (Z → Prop) → Prop} {rest : Z → Prop} (P : Txt → Z → Prop) (h0 : P [] z0) (hs : ∀ l c r z, w = l ++ c :: r → P l z → ∀ k : Z → Prop, (∀ z', P (l ++ [c]) z' → k z') → body [c] z k) (he : ∀ z, P w z → rest z) : forW (sg w) z0 body rest := by
  refine forW.inv (fun l z => ∃ l', l = sg l' ∧ P l' z) ⟨[], rfl, h0⟩ (fun l x r z e ⟨l1, e1, hp⟩ => ?_) (fun z ⟨l', e, hp⟩ => ?_)
  · obtain ⟨l', c, r', ew, el, ex, er⟩ := pre_sg e
    have : l1 = l' := sg_inj (e1.symm.trans el)
    subst this ex
    exact hs l1 c r' z ew hp _ fun z' hz => ⟨l1 ++ [c], by rw [el]; simp [sg], hz⟩
  · have h3 := sg_inj e
    subst h3
    exact he z hp
theorem flat_one {ls : Txt} : ∀ {ys : List Txt}, (∀ y ∈ ys, ∃ c ∈ ls, y = [c]) → lenSum ys = ys.length ∧ ys.flatten.length = ys.length ∧ ∀ c ∈ ys.flatten, c ∈ ls
  | [], _ => ⟨rfl, rfl, fun c h => by simp at h⟩
  | y :: ys, h => by
    obtain ⟨c, hc, e⟩ := h y (List.mem_cons_self ..)
    obtain ⟨h1, h2, h3⟩ := flat_one (ys := ys) fun z hz => h z (List.mem_cons_of_mem _ hz)
    subst e
    refine ⟨by rw [lenSum_cons, h1, List.length_cons, List.length_cons, List.length_nil]; omega, by rw [List.flatten_cons, List.length_append, h2, List.length_cons, List.length_cons, List.length_nil]; omega, fun d hd => ?_⟩
    rw [List.flatten_cons, List.mem_append] at hd
    rcases hd with hd | hd
    · rw [List.mem_singleton.mp hd]; exact hc
    · exact h3 d hd
abbrev rng (n : Nat) : List Int := (List.range n).map fun i : Nat => (i : Int)
theorem rng_mem {n : Nat} {x : Int} : x ∈ rng n ↔ 0 ≤ x ∧ x < n := by
  simp only [rng, List.mem_map, List.mem_range]
  exact ⟨fun ⟨a, h1, h2⟩ => by omega, fun ⟨h1, h2⟩ => ⟨x.toNat, by omega, by omega⟩⟩
theorem rng_len (n : Nat) : (rng n).length = n := by simp [rng]
theorem tn (n : Nat) : ((n : Int)).toNat = n := Int.toNat_natCast n
theorem plc_nat (n k : Nat) : plc n (k : Int) = k := by
  unfold plc
  rw [if_pos (by omega), Int.toNat_natCast]
theorem ixS_nat {x : Txt} {k : Nat} (h : k < x.length) : ixS x (k : Int) = [x[k]] := by
  unfold ixS
  rw [plc_nat, List.getD_eq_getElem?_getD, List.getElem?_eq_getElem h]
  rfl
theorem ixD_nat {α : Type} [Inhabited α] {x : List α} {k : Nat} (h : k < x.length) : ixD x (k : Int) = x[k] := by
  unfold ixD
  rw [plc_nat, List.getD_eq_getElem?_getD, List.getElem?_eq_getElem h]
  rfl
theorem cut_to {α : Type} (x : List α) (k : Nat) : cutD x none (some (k : Int)) = x.take k := by
  unfold cutD
  rw [HT.sIx_nat, HT.sIx_none, List.drop_zero, Nat.sub_zero]
  by_cases h : k ≤ x.length
  · rw [Nat.min_eq_left h]
  · rw [Nat.min_eq_right (by omega), List.take_of_length_le (Nat.le_refl _), List.take_of_length_le (by omega)]
theorem cut_from {α : Type} (x : List α) (k : Nat) : cutD x (some (k : Int)) none = x.drop k := by
  unfold cutD
  rw [HT.sIx_nat, HT.sIx_none]
  by_cases h : k ≤ x.length
  · rw [Nat.min_eq_left h, List.take_of_length_le (by rw [List.length_drop]; omega)]
  · rw [Nat.min_eq_right (by omega), Nat.sub_self, List.take_zero, List.drop_eq_nil_of_le (by omega)]
theorem cut_mid {α : Type} (x : List α) (i j : Nat) : cutD x (some (i : Int)) (some (j : Int)) = (x.drop i).take (j - i) := by
  unfold cutD
  rw [HT.sIx_nat, HT.sIx_nat]
  by_cases h : i ≤ x.length
  · rw [Nat.min_eq_left h]
    by_cases h2 : j ≤ x.length
    · rw [Nat.min_eq_left h2]
    · rw [Nat.min_eq_right (by omega), List.take_of_length_le (by rw [List.length_drop]; omega), List.take_of_length_le (by rw [List.length_drop]; omega)]
  · rw [Nat.min_eq_right (show x.length ≤ i by omega), List.drop_eq_nil_of_le (Nat.le_refl _), List.drop_eq_nil_of_le (by omega), List.take_nil, List.take_nil]
theorem tin_iff {x y : Txt} : tin x y = true ↔ x <:+: y := by
  unfold tin
  have hl : y.length = (toStr y).length := (toStr_len y).symm
  rw [hl, StrLaws.found_iff]
  constructor
  · rintro ⟨i, h1, h2⟩
    rw [StrLaws.subAt_eq] at h2
    have h3 : (y.drop i).take x.length = x := by
      have := beq_iff_eq.mp h2
      rw [toStr_len] at this
      simpa [toStr] using this
    refine ⟨y.take i, (y.drop i).drop x.length, ?_⟩
    conv => rhs; rw [← List.take_append_drop i y]
    rw [List.append_assoc]
    congr 1
    conv => rhs; rw [← List.take_append_drop x.length (y.drop i)]
    rw [h3]
  · rintro ⟨a, b, rfl⟩
    refine ⟨a.length, ?_, ?_⟩
    · rw [toStr_len, toStr_len]; simp
    · rw [StrLaws.subAt_eq, toStr_len]
      apply beq_iff_eq.mpr
      simp [toStr]
theorem tin_one (c : Nat) (y : Txt) : tin [c] y = decide (c ∈ y) := by
  rw [Bool.eq_iff_iff, tin_iff, decide_eq_true_eq]
  constructor
  · rintro ⟨a, b, rfl⟩; simp
  · intro h
    obtain ⟨a, b, rfl⟩ := List.append_of_mem h
    exact ⟨a, b, by simp⟩
section
variable {α : Type} [DecidableEq α] [DatumOrd α] [Lin α]
end
section
variable {α : Type} [DecidableEq α] [DatumOrd α] [Lin α]
theorem llt_irr : ∀ a : List α, PySem.W.listLt a a = false
  | [] => rfl
  | x :: a => by rw [PySem.W.listLt, if_pos rfl, llt_irr a]
theorem llt_tr : ∀ a b c : List α, PySem.W.listLt a b = true → PySem.W.listLt b c = true → PySem.W.listLt a c = true
  | [], [], c, h, _ => by cases h
  | [], _ :: _, [], _, h => by cases h
  | [], _ :: _, _ :: _, _, _ => rfl
  | _ :: _, [], _, h, _ => by cases h
  | _ :: _, _ :: _, [], _, h => by cases h
  | x :: a, y :: b, z :: c, h1, h2 => by
    rw [PySem.W.listLt] at h1 h2 ⊢
    by_cases e1 : x = y
    · rw [if_pos e1] at h1
      by_cases e2 : y = z
      · rw [if_pos e2] at h2; rw [if_pos (e1.trans e2)]; exact llt_tr a b c h1 h2
      · rw [if_neg e2] at h2; rw [if_neg (fun e => e2 (e1.symm.trans e)), e1]; exact h2
    · rw [if_neg e1] at h1
      by_cases e2 : y = z
      · rw [if_neg (fun e => e1 (e.trans e2.symm)), ← e2]; exact h1
      · rw [if_neg e2] at h2
        have h3 := Lin.tr _ _ _ h1 h2
        by_cases e3 : x = z
        · rw [e3, Lin.irr] at h3; cases h3
        · rw [if_neg e3]; exact h3
theorem llt_tot : ∀ a b : List α, PySem.W.listLt a b = false → PySem.W.listLt b a = false → a = b
  | [], [], _, _ => rfl
  | [], _ :: _, h, _ => by cases h
  | _ :: _, [], _, h => by cases h
  | x :: a, y :: b, h1, h2 => by
    rw [PySem.W.listLt] at h1 h2
    by_cases e : x = y
    · rw [if_pos e] at h1
      rw [if_pos e.symm] at h2
      rw [e, llt_tot a b h1 h2]
    · rw [if_neg e] at h1
      rw [if_neg (fun q => e q.symm)] at h2
      exact absurd (Lin.tot _ _ h1 h2) e
instance : Lin (List α) := ⟨llt_irr, llt_tr, llt_tot⟩
end
def uq {α : Type} [DecidableEq α] (l : List α) : List α := l.foldl (fun ks x => if x ∈ ks then ks else ks ++ [x]) []
section
variable {α : Type} [DecidableEq α]
theorem uq_snoc (l : List α) (x : α) : uq (l ++ [x]) = if x ∈ uq l then uq l else uq l ++ [x] := by unfold uq; rw [List.foldl_append]; rfl
theorem rng_succ (n : Nat) : rng (n + 1) = rng n ++ [(n : Int)] := by simp [rng, List.range_succ]
end
end Sp
set_option maxHeartbeats 4000000
namespace Sp
open PySem L2
open PySem.W (DatumOrd)
theorem sl {n : Nat} (h : n ≤ 1000000) : n ≤ sizeLine := Nat.le_trans h (by decide)
theorem tx0 : (tx "" : Txt) = [] := rfl
theorem join_ok {xs : List Txt} (h : lenSum xs ≤ 1000000) : lenSum xs + List.length xs * List.length (tx "") ≤ 16777216 := by
  have : List.length (tx "") = 0 := rfl
  rw [this]; omega
section
variable {κ ν : Type} [DecidableEq κ]
end
section
variable {α : Type} [DecidableEq α] [DatumOrd α] [Lin α]
end
theorem forEn {α Z : Type} {xs : List α} {z0 : Z} {body : Int × α → Z → (Z → Prop) → Prop} {rest : Z → Prop} (P : List α → Z → Prop) (h0 : P [] z0)
    (hs : ∀ l x r z, xs = l ++ x :: r → P l z → ∀ k : Z → Prop, (∀ z', P (l ++ [x]) z' → k z') → body ((l.length : Int), x) z k) (he : ∀ z, P xs z → rest z) : forW (enumD xs) z0 body rest := by
  refine ⟨fun i z => P (xs.take i) z, by simpa using h0, fun i x z hx hp => ?_, fun z hp => he z ?_⟩
  · unfold enumD at hx
    rw [List.getElem?_mapIdx] at hx
    obtain ⟨y, hy, e⟩ := Option.map_eq_some_iff.mp hx
    obtain ⟨hlt, hy2⟩ := List.getElem?_eq_some_iff.mp hy
    subst e
    have hxs : xs = xs.take i ++ y :: xs.drop (i + 1) := by
      conv => lhs; rw [← List.take_append_drop i xs]
      rw [List.drop_eq_getElem_cons hlt, hy2]
    have hl : (xs.take i).length = i := by rw [List.length_take]; omega
    have := hs (xs.take i) y (xs.drop (i + 1)) z hxs hp (fun z' => P (xs.take (i + 1)) z') (fun z' h => by
      rw [List.take_add_one, hy]; exact h)
    rw [hl] at this
    exact this
  · have hl : (enumD xs).length = xs.length := by unfold enumD; rw [List.length_mapIdx]
    rw [hl, List.take_length] at hp
    exact hp
theorem forL {α Z : Type} {xs : List α} {z0 : Z} {body : α → Z → (Z → Prop) → Prop} {rest : Z → Prop} (P : List α → Z → Prop) (h0 : P [] z0)
    (hs : ∀ l x r z, xs = l ++ x :: r → P l z → ∀ k : Z → Prop, (∀ z', P (l ++ [x]) z' → k z') → body x z k) (he : ∀ z, P xs z → rest z) : forW xs z0 body rest := by
  refine ⟨fun i z => P (xs.take i) z, by simpa using h0, fun i y z hy hp => ?_, fun z hp => he z ?_⟩
  · obtain ⟨hlt, hy2⟩ := List.getElem?_eq_some_iff.mp hy
    have hxs : xs = xs.take i ++ y :: xs.drop (i + 1) := by
      conv => lhs; rw [← List.take_append_drop i xs]
      rw [List.drop_eq_getElem_cons hlt, hy2]
    exact hs (xs.take i) y (xs.drop (i + 1)) z hxs hp (fun z' => P (xs.take (i + 1)) z') (fun z' h => by
      rw [List.take_add_one, hy]; exact h)
  · have hp2 : P (xs.take xs.length) z := hp
    rw [List.take_length] at hp2
    exact hp2
theorem enumD_len {α : Type} (xs : List α) : (enumD xs).length = xs.length := by unfold enumD; rw [List.length_mapIdx]
theorem enumD_map {α β : Type} [Inhabited α] (xs : List α) (f : Int → α → β) : (enumD xs).map (fun p => f p.1 p.2) = (rng xs.length).map fun k => f k (ixD xs k) := by
  apply List.ext_getElem?
  intro i
  unfold enumD rng
  rw [List.getElem?_map, List.getElem?_mapIdx, List.getElem?_map, List.getElem?_map]
  by_cases h : i < xs.length
  · rw [List.getElem?_eq_getElem h, List.getElem?_range h]
    show some (f i xs[i]) = some (f i (ixD xs (i : Int)))
    rw [ixD_nat h]
  · rw [List.getElem?_eq_none (by omega), List.getElem?_eq_none (by simpa using h)]
    rfl
end Sp
set_option maxHeartbeats 4000000
namespace Sp
open PySem L2
open PySem.W (Datum DatumOrd SomeDatum)
abbrev TgD.q {α β γ δ : Type} (a : TgD α) (b : TgD β) (c : TgD γ) (d : TgD δ) : TgD (T4 α β γ δ) := ⟨fun K => gTup K 4 (gCons (a.g K) (gCons (b.g K) (gCons (c.g K) (gCons (d.g K) gNil)))), a.ws ++ (b.ws ++ (c.ws ++ d.ws)), fun v ρ => d.f v.d (c.f v.c (b.f v.b (a.f v.a ρ)))⟩
section
variable {Y : DX} {s : DSt} {e a : Expr} {es : List Expr} {pos p : Pos} {α β γ δ : Type} [Enc α] [Enc β] [Enc γ] [Enc δ] {Q : Pv → DSt → Prop}
end
end Sp
set_option maxHeartbeats 4000000
namespace Sp
open PySem L2
open PySem.W (Datum DatumOrd SomeDatum)
structure WIt (X : Cx) (tg iter : Expr) (σ : St) (H : Hp) (R : It → Hp → Prop) : Prop where
  run : ∀ (pins : List (Addr × Obj)) (s : Shared), Inv X pins σ H s → wpAny (model X.prog X.w) X.A (eval iter X.env) (fun v s1 => wpAny (model X.prog X.w) X.A (pyIter v) (PIE X pins σ tg R) X.xe s1) X.xe s
theorem WIt.of {X : Cx} {tg iter : Expr} {wi : TI} {σ : St} {H : Hp} {R : It → Hp → Prop} (p : PI X tg iter wi) (h : wi σ H R) : WIt X tg iter σ H R := ⟨fun pins s I => p.run pins s σ H R I h⟩
section
variable {β γ α : Type} {c : β → Bool} {inner : β → List γ} {c1 : β → γ → Bool} {h : β → γ → α}
end
section
variable {Y : DX} {s : DSt} {tg iter tg1 iter1 elt : Expr} {ifs ifs1 : List Expr} {pos spos py p : Pos} {scope : Scope} {α β γ : Type} [Enc α] [Enc β] [Enc γ] {D : DE}
variable {W : (List β → Prop) → Prop} {Wc : β → (Bool → Prop) → Prop} {Wi1 : β → (List γ → Prop) → Prop} {Wc1 : β → γ → (Bool → Prop) → Prop} {We : β → γ → (α → Prop) → Prop}
abbrev tt2 (Y : DX) (scope : Scope) (ifs : List Expr) : TT := fun σ H Q => ∀ z, WTs (blkX Y.X scope z) ifs σ H Q
abbrev wi2 (Y : DX) (scope : Scope) (tg iter : Expr) : TI := fun σ H R => ∀ z, WIt (blkX Y.X scope z) tg iter σ H R
abbrev te2 (Y : DX) (scope : Scope) (elt : Expr) : TE := fun σ H Q => ∀ z, WE (blkX Y.X scope z) elt σ H Q
structure LcW2 (Y : DX) (s : DSt) (scope : Scope) (own : List (Str × Nat)) (vs1 : List Nat) (t : TgD β) (t1 : TgD γ) (tg iter tg1 iter1 elt : Expr) (ifs ifs1 : List Expr) {α : Type} [Enc α] (V : (List α → Prop) → Prop) : Prop where
  bk : BlkOk Y.X.N Y.X.env.scope scope own
  hv : ∀ i ∈ vs1, i ∈ own.map (·.2)
  tgA : ∀ z, TgOk (blkY Y scope z) tg (t.g Y.X.K) t.ws t.f
  tgB : ∀ z, TgOk (blkY Y scope z) tg1 (t1.g Y.X.K) t1.ws t1.f
  hs : ∀ x, foldedSetIterable iter Y.X.env x = pure x
  hs1 : ∀ env x, foldedSetIterable iter1 env x = pure x
  run : ∀ k, V k → ∃ wi, PI Y.X tg iter wi ∧ ∀ F0 σ H F, Ext F0 F → Sta Y s σ H F → ∀ Qf : VK, (∀ D H' F' (ys : List α), Ext F0 F' → Sta Y ⟨s.ρ, (D, lstc ys) :: s.gs⟩ σ H' F' → k ys → Qf (.ref D) H') →
    tLc2 wi (t.g Y.X.K) (tt2 Y scope ifs) (wi2 Y scope tg1 iter1) (t1.g Y.X.K) (tt2 Y scope ifs1) (te2 Y scope elt) (own.map (·.2)) vs1 σ H Qf
theorem LcW2.pe {t : TgD β} {t1 : TgD γ} {own : List (Str × Nat)} {vs1 : List Nat} {V : (List α → Prop) → Prop} {wi : TI} (ok : YOk Y) (h : LcW2 Y s scope own vs1 t t1 tg iter tg1 iter1 elt ifs ifs1 V) (hp : PI Y.X tg iter wi) :
    PE Y.X (.ListComp elt [⟨tg, iter, ifs, 0⟩, ⟨tg1, iter1, ifs1, 0⟩] scope pos) (tLc2 wi (t.g Y.X.K) (tt2 Y scope ifs) (wi2 Y scope tg1 iter1) (t1.g Y.X.K) (tt2 Y scope ifs1) (te2 Y scope elt) (own.map (·.2)) vs1) :=
  pe_lc2 ok.calm ok.nd hp h.bk h.hv (fun s H C cl fp => (h.tgA ⟨s, H, C, cl, fp⟩).1) (fun s H C cl fp => ⟨fun pins s' σ H' Q I h => (h ⟨s, H, C, cl, fp⟩).run pins s' I⟩)
    (fun s H C cl fp => ⟨fun pins s' σ H' R I h => (h ⟨s, H, C, cl, fp⟩).run pins s' I⟩) (fun s H C cl fp => (h.tgB ⟨s, H, C, cl, fp⟩).1) (fun s H C cl fp => ⟨fun pins s' σ H' Q I h => (h ⟨s, H, C, cl, fp⟩).run pins s' I⟩)
    (fun s H C cl fp => ⟨fun pins s' σ H' Q I h => (h ⟨s, H, C, cl, fp⟩).run pins s' I⟩) h.hs h.hs1
end
end Sp
set_option maxHeartbeats 4000000
namespace Sp
open PySem L2 PySem.Spec
open PySem.W (Datum DatumOrd SomeDatum)
def entT (e : DictEntry) : Option (Str × Str) := match e.key, e.val with
  | .str k _, .str v _ => some (k, v)
  | _, _ => none
def tabB (K : Frag) (d : Addr) (tab : List (Str × Str)) : Bool := match K.lookup d with
  | some ⟨_, _, .dict es _, _⟩ => decide (es.toList.map entT = tab.map some)
  | _ => false
abbrev TabT : Type := List (Str × Str)
structure KTab (K : Frag) (w : World) (mg : Str → Option Value) (x : Str) (tab : TabT) : Prop where
  at_ : ∃ d es n, mg x = some (.ref d) ∧ KDict K w d es n ∧ tabB K d tab = true
section
variable {Y : DX} {s : DSt} {e f : Expr} {p apos pos : Pos} {x : Str} {tab : TabT} {Wk Wv : (List Nat → Prop) → Prop}
theorem RelV.str {v : Str} {u : Value} (h : RelV (.str v) u) : ∃ t, u = .str v t := h
end
end Sp
set_option maxHeartbeats 4000000
namespace Sp
open PySem L2
open PySem.W (Datum DatumOrd SomeDatum)
section
variable {Y : DX} {s : DSt} {tg iter : Expr} {D : DE} {sts : List Stmt} {pos : Pos} {β Z J : Type} [Enc β]
end
end Sp
set_option maxHeartbeats 4000000
namespace Sp
open PySem L2
open PySem.W (Datum DatumOrd SomeDatum)
section
variable {Y : DX} {s : DSt} {tg iter elt a b : Expr} {elts ifs : List Expr} {pos spos py p p2 tpos : Pos} {kk : Nat} {scope : Scope} {α β γ : Type} [Enc α] [Enc β] [Enc γ] {D : DE} {sts : List Stmt} {x : Str}
structure LcWO (Y : DX) (s : DSt) (scope : Scope) (own : List (Str × Nat)) (t : TgD β) (tg iter elt : Expr) (ifs : List Expr) {α : Type} [Enc α] (V : (List α → Prop) → Prop) : Prop where
  bk : BlkOk Y.X.N Y.X.env.scope scope own
  tgA : ∀ z, TgOk (blkY Y scope z) tg (t.g Y.X.K) t.ws t.f
  hs : ∀ x, foldedSetIterable iter Y.X.env x = pure x
  run : ∀ k, V k → ∃ wi, PI Y.X tg iter wi ∧ ∀ F0 σ H F, Ext F0 F → Sta Y s σ H F → ∀ Qf : VK, (∀ D H' F' (ys : List α), Ext F0 F' → Sta Y ⟨s.ρ, (D, lstc ys) :: s.gs⟩ σ H' F' → k ys → Qf (.ref D) H') →
    tLc wi (t.g Y.X.K) (tt2 Y scope ifs) (te2 Y scope elt) (own.map (·.2)) σ H Qf
theorem LcWO.pe {t : TgD β} {own : List (Str × Nat)} {V : (List α → Prop) → Prop} {wi : TI} (ok : YOk Y) (h : LcWO Y s scope own t tg iter elt ifs V) (hp : PI Y.X tg iter wi) :
    PE Y.X (.ListComp elt [⟨tg, iter, ifs, 0⟩] scope pos) (tLc wi (t.g Y.X.K) (tt2 Y scope ifs) (te2 Y scope elt) (own.map (·.2))) :=
  pe_lc ok.calm ok.nd hp h.bk (fun s H C cl fp => (h.tgA ⟨s, H, C, cl, fp⟩).1) (fun s H C cl fp => ⟨fun pins s' σ H' Q I h => (h ⟨s, H, C, cl, fp⟩).run pins s' I⟩) (fun s H C cl fp => ⟨fun pins s' σ H' Q I h => (h ⟨s, H, C, cl, fp⟩).run pins s' I⟩) h.hs
end
end Sp
set_option maxHeartbeats 4000000
namespace Sp
open PySem L2 PySem.Calls PyProof.Rows
open PySem.W (Datum DatumOrd SomeDatum KeepsBut EachIs AllAlike Sortable KeyedOut SortsAt)
section
variable {prog : Program} {w : World} {A : Around} {E : Value → Shared → Prop} {s : Shared} {vs : List Value} {kz : List PyData} {f : Value} {a : Addr} {n : Nat} {P : PySem.Fin → Shared → Prop}
end
end Sp
set_option maxHeartbeats 4000000
namespace Sp
open PySem L2 PySem.Calls PyProof.Rows
open PySem.W (Datum DatumOrd SomeDatum)
structure ParOk (N : List Str) (sc scope : Scope) (vs : List Nat) (i : Nat) (x : Str) : Prop where
  kind : scope.kind = .function
  co : scope.isCoroutine = false
  gen : scope.isGenerator = false
  noc : ∀ y ∈ scope.names, y.2 ≠ .cell
  par : scope.names.lookup x = some .local
  at_ : N[i]? = some x
  free : ∀ y ∈ scope.names, y.2 = .free → sc.names.lookup y.1 = some .cell ∨ sc.names.lookup y.1 = some .free
  own : ∀ (j : Nat) (y : Str), N[j]? = some y → scope.names.lookup y = some .local → j ∈ vs
structure LCx where
  A : Around
  s : Shared
  H : Hp
  f : Addr
  c : Addr
abbrev lamE (X : Cx) (scope : Scope) (z : LCx) : Env := LamX.lamEnv X scope z.s.heap.objs.size z.f z.c
def lamK (X : Cx) (scope : Scope) (z : LCx) : Cx where
  prog := X.prog
  w := X.w
  K := X.K
  mg := X.mg
  base := X.base
  A := z.A
  N := X.N
  s_0 := z.s
  H_0 := z.H
  env := lamE X scope z
  outer := X.stack
  stack := lamE X scope z :: X.stack
  ex := []
  fn := fun _ => false
  calm := true
  pn := []
  xe := fun _ _ => False
section
variable {X : Cx} {pins : List (Addr × Obj)} {σ : L2.St} {H : Hp} {s : Shared}
end
abbrev keyY (Y : DX) (k : Nat) (scope : Scope) (z : LCx) (F : Hp) (gs : Gs) : DX := ⟨lamK Y.X scope z, Y.T, k, z.H, F, ads gs, fun _ _ => False⟩
theorem YOk.key {Y : DX} {k : Nat} {scope : Scope} {z : LCx} {F : Hp} {gs : Gs} (ok : YOk Y) (hr : Room k z.A) : YOk (keyY Y k scope z F gs) :=
  ⟨rfl, ok.nd, hr, PassesOwn.never, fun _ _ ⟨_, _, _, _, _, _, _, _, _, _, _, _, _, _, _, _, _, _, _, _, _, q⟩ => q.elim⟩
section
variable {Y : DX} {st : DSt} {σ : L2.St} {H F : Hp} {pins : List (Addr × Obj)} {s : Shared}
end
end Sp
set_option maxHeartbeats 4000000
namespace Sp
open PySem L2 PySem.Calls PyProof.Rows
open PySem.W (Datum DatumOrd SomeDatum EachIs KeyedOut)
section
variable {X : Cx} {pins : List (Addr × Obj)} {σ : L2.St} {H : Hp} {s : Shared}
end
section
variable {Y : DX} {st : DSt} {σ : L2.St} {H F : Hp} {pins : List (Addr × Obj)} {s : Shared}
end
end Sp
set_option maxHeartbeats 4000000
namespace Sp
open PySem L2 PySem.Calls PyProof.Rows
open PySem.W (Datum DatumOrd SomeDatum EachIs KeyedOut)
section
variable {Y : DX} {s : DSt} {e a : Expr} {α κ : Type} [Enc α]
end
section
variable {prog : Program} {w : World} {A : Around} {E : Value → Shared → Prop} {s : Shared}
end
inductive TbL (X : Cx) (T : Tb) (q : Str) (lp : Pos) : Prop
  | pl (h : Tbl X T (.plain q)) : TbL X T q lp
  | mx {ls : List (Nat × Nat)} (h : Tbl X T (.mix ls q)) (hl : lamAt ls lp = true) : TbL X T q lp
structure LamAtT (X : Cx) (T : Tb) (params : Arguments) (body : Expr) (scope : Scope) (H H1 : Hp) (f c' : Addr) (pm ctv : Value) (s' : Shared) : Prop where
  ext : LamX.ExtN H H1
  tb : TbOk T H1
  obj : s'.heap.get? f = some (PySem.W.kla_obj "<lambda>" (X.env.qual ++ "<lambda>") params body scope (cloFrom X.env.cells scope.names []) pm c' ctv)
  free : H1 f = none
  nofr : f ∉ frs X.stack
  code : H1 c' = some (LamX.CodeO c' (X.env.qual ++ "<lambda>"))
section
variable {X : Cx} {pins : List (Addr × Obj)} {σ : L2.St} {H : Hp} {s : Shared}
end
section
variable {Y : DX} {s : DSt} {a : Expr} {α κ : Type} [Enc α] [DecidableEq κ] [Enc κ] [DatumOrd κ] [Dat κ] [Srtb κ]
end
end Sp
set_option maxHeartbeats 400000
namespace Sp
open PySem L2 PySem.Calls PyProof.Rows
open PySem.W (Datum DatumOrd SomeDatum EachIs KeyedOut)
section
variable {X : Cx} {pins : List (Addr × Obj)} {σ : L2.St}
end
def itv (A : Pv) (q : Addr) : Pv := ⟨fun K F v => A.rep K F (.ref q) ∧ ∃ p, v = .ref p ∧ F p = some (L2.DX.itemsO p q), fun ⟨h, p, e1, e2⟩ e => ⟨A.mono h e, p, e1, e _ _ e2⟩⟩
section
variable {Y : DX} {s : DSt} {e : Expr} {κ ν : Type} [DecidableEq κ] [Kk κ] [Enc κ] [KkV κ] [Enc ν]
end
theorem YE.key {Y : DX} {k : Nat} {scope : Scope} {z : LCx} {F : Hp} {gs : Gs} (o : YOk (keyY Y k scope z F gs)) : YE (keyY Y k scope z F gs) (fun _ => True) NoE := ⟨o, fun _ _ _ h => h.elim⟩
section
variable {K : Frag}
end
end Sp
set_option maxHeartbeats 4000000
namespace Sp
open PySem L2
open PySem.W (Datum DatumOrd SomeDatum)
section
variable {X : Cx}
end
section
variable {Y : DX} {s : DSt} {e a b : Expr} {pos p apos : Pos} {W : (List Bool → Prop) → Prop}
end
end Sp
set_option maxHeartbeats 4000000
namespace Sp
open PySem L2 PyProof.Rows
structure WST (X : Cx) (st : List Stmt) (σ : L2.St) (H : Hp) (D : Ends) : Prop where
  run : ∀ (pins : List (Addr × Obj)) (s : Shared), 1 ≤ s.toks → Inv X pins σ H s → wpAny (model X.prog X.w) X.A (execs st X.env) (SP X pins D) X.xe s
section
variable {P : Program} {w : World} {K : Frag} {mg : Str → Option Value} {base : Heap}
def WsT (Y : DX) (s : DSt) (sts : List Stmt) (D : DE) : Prop := ∀ F0 σ H F, Ext F0 F → Sta Y s σ H F → WST Y.X sts σ H (D.to Y F0)
theorem WST.imp {X : Cx} {st : List Stmt} {σ : L2.St} {H : Hp} {D D' : Ends} (h : WST X st σ H D) (k1 : ∀ σ' H', D.nx σ' H' → D'.nx σ' H') (k2 : ∀ v H', D.rt v H' → D'.rt v H') (k3 : ∀ σ' H', D.bk σ' H' → D'.bk σ' H') (k4 : ∀ σ' H', D.ct σ' H' → D'.ct σ' H') : WST X st σ H D' :=
  ⟨fun pins s h0 I => thn (h.run pins s h0 I) fun f s' q => by
    match f, q with
    | .next, ⟨σ', H', J, q⟩ => exact ⟨σ', H', J, k1 _ _ q⟩
    | .brk, ⟨σ', H', J, q⟩ => exact ⟨σ', H', J, k3 _ _ q⟩
    | .cont, ⟨σ', H', J, q⟩ => exact ⟨σ', H', J, k4 _ _ q⟩
    | .ret u, ⟨v, σ', H', J, r, q⟩ => exact ⟨v, σ', H', J, r, k2 _ _ q⟩⟩
theorem WsT.mono {Y : DX} {s : DSt} {sts : List Stmt} {D D' : DE} (h : WsT Y s sts D) (k1 : ∀ s, D.nx s → D'.nx s) (k2 : ∀ A s, D.rt A s → D'.rt A s) (k3 : ∀ s, D.bk s → D'.bk s) (k4 : ∀ s, D.ct s → D'.ct s) : WsT Y s sts D' := fun F0 σ H F e0 S =>
  (h F0 σ H F e0 S).imp (fun _ _ q => Pst.mono q (.refl _) k1) (fun _ _ q => Prt.mono q (.refl _) k2) (fun _ _ q => Pst.mono q (.refl _) k3) (fun _ _ q => Pst.mono q (.refl _) k4)
variable {fa : List He.Fa} {fn : List He.DefD} {tq : TQ}
end
theorem s_repl {Y : DX} {s : DSt} {o : Expr} {y z x : Str} {j k : Nat} {c0 c1 apos pos p p2 : Pos} {sts : List Stmt} {D : DE} {W : (Txt → Prop) → Prop} {R : Txt → Prop} (i : Nat) (ok : YOk Y) (hi : Y.X.N[i]? = some x) (ho : EvC Y s o W) (next : ∀ v, R v → Ws Y ⟨s.ρ.set i (some (pu v)), s.gs⟩ sts D) (w : W fun v => RpOk v (tx z) ∧ R (replT v (tx y) (tx z)))
    (hx : Loc Y.X.env.scope x := by first | exact .inl rfl | exact .inr rfl) (hf : Y.X.fn x = true ∨ Y.X.env.scope.names.lookup x = some .local := by first | exact .inl rfl | exact .inr rfl) (hyz : (y == z) = false := by decide)
    (hst : starEach [.Constant (.str y) j c0, .Constant (.str z) k c1] Y.X.env = [(false, eval (.Constant (.str y) j c0) Y.X.env), (false, eval (.Constant (.str z) k c1) Y.X.env)] := by rfl)
    (hbase : attributeBase o "replace" Y.X.env (eval o Y.X.env) = eval o Y.X.env := by rfl) (hline : (apos.endLine == pos.line) = true := by rfl)
    (hs : swapsWith (.Call (.Attribute o "replace" apos) [.Constant (.str y) j c0, .Constant (.str z) k c1] [] pos) (some (.Name x p2)) p.line Y.X.env = pure false := by rfl) :
    WsT Y s (.Assign [.Name x p2] (.Call (.Attribute o "replace" apos) [.Constant (.str y) j c0, .Constant (.str z) k c1] [] pos) p :: sts) D := fun F0 σ H F e0 S => by
  refine ⟨fun pins sh h0 I => ?_⟩
  have hcall := CwR.pet_replC (X := Y.X) (to := WE Y.X o) pe_we hyz hst hbase hline pins sh σ H (fun v H1 => Po Y σ F0 (fun A s' => ∃ u : Txt, A = pu u ∧ s' = s ∧ R u) v H1) h0 I ((ho _ w F0 σ H F e0 S).mono fun v H1 ⟨A, s', F1, e1, r1, S1, u, ea, es, w1, w2⟩ => by
    subst ea es
    have hz' : u.length + (u.length + 1) * (tx z).length ≤ 16777216 := w1
    refine ⟨toStr u, r1, ?_, pu (replT u (tx y) (tx z)), s', F1, e1, ?_, S1, _, rfl, rfl, w2⟩
    · rw [toStr_len, show z.length = (tx z).length by simp [tx, Str.length]]
      exact hz'
    · show V.str _ = V.str (toStr (replT u (tx y) (tx z)))
      rw [toStr_replT, toStr_tx, toStr_tx])
  refine wpAny_execs_cons (wpAny_mono (Q := SP Y.X pins { D.to Y F0 with nx := fun σ' H' => WS Y.X sts σ' H' (D.to Y F0) }) ?_ (fun f s1 q => ?_) fun _ _ e => e)
  · refine wpAny_Assign_Name (thn hcall fun u9 s1 ⟨v, H1, I1, r1, A, s', F1, e1, rA, S1, u, ea, es, w1⟩ => ?_) hs
    subst ea es
    exact store_ok I1 ok.nd hi hx r1 (fun s2 I2 => ⟨_, H1, I2, next u w1 F0 _ H1 F1 e1 (S1.set rA i)⟩) hf
  · match f, q with
    | .next, ⟨σ', H', I', q⟩ => exact q.run pins s1 I'
    | .ret u, q => exact q
    | .brk, q => exact q
    | .cont, q => exact q
end Sp
set_option maxHeartbeats 4000000
namespace Sp
open PySem L2
open PySem.W (Datum DatumOrd SomeDatum)
end Sp
set_option maxHeartbeats 4000000
namespace Sp
open PySem L2 PySem.Calls PyProof.Rows
open PySem.W (Datum DatumOrd SomeDatum EachIs)
section
variable {prog : Program} {w : World} {A : Around} {E : Value → Shared → Prop} {s : Shared}
end
section
variable {Y : DX} {s : DSt} {a : Expr} {p pos : Pos} {α : Type} [DecidableEq α] [Enc α] [DatumOrd α] [Dat α] [Srtb α]
end
end Sp
set_option maxHeartbeats 4000000
namespace Sp
open PySem L2 PySem.Calls PyProof.Rows
open PySem.W (Frag Datum DatumOrd SomeDatum)
structure TupN (α : Type) where
  tup : Tup α
instance {α : Type} [Enc α] : Enc (TupN α) := ⟨fun K F v x => ∃ p o vs, v = .ref p ∧ F p = some (.frz o (.tup vs)) ∧ o.dict = none ∧ Vs K F vs x.tup.items,
  fun ⟨p, o, vs, h1, h2, h3, h4⟩ e => ⟨p, o, vs, h1, e _ _ h2, h3, h4.mono e⟩⟩
instance {α : Type} : Inhabited (TupN α) := ⟨⟨⟨[]⟩⟩⟩
section
variable {X : Cx}
end
section
variable {Y : DX} {s : DSt} {e a b c o tg iter elt : Expr} {es ifs : List Expr} {pos p p2 apos : Pos} {α β : Type} [Enc α] [Enc β]
end
section
variable {Y : DX} {s : DSt} {a : Expr} {pos p : Pos} {κ ν : Type} [DecidableEq κ] [Kk κ] [Enc κ] [KkV κ] [Enc ν]
end
end Sp
set_option maxHeartbeats 4000000
namespace Sp
open PySem L2
open PySem.W PySem.Calls PyProof.Rows
section
variable {Y : DX} {s : DSt} {e a b c : Expr} {es : List Expr} {pos p : Pos} {D : DE} {st : Stmt} {sts : List Stmt} {α : Type} [Enc α]
end
def wxS (Y : DX) (Gd : DSt → Prop) (E : Ex → Prop) : WX := fun cls d σ H => ∃ e s F, Sta Y s σ H F ∧ ExcRep (exK Y.X.K e) cls d H ∧ Gd s ∧ E e
structure YN (Y : DX) (Gd : DSt → Prop) (E : Ex → Prop) : Prop where
  tk : L2N.Takes Y.X (wxS Y Gd E)
abbrev lft (G0 : Gs → Prop) : DSt → Prop := fun s => ∃ n, G0 (s.gs.drop n)
section
variable {Y : DX} {s : DSt} {e a b c : Expr} {es : List Expr} {pos p : Pos} {D : DE} {st : Stmt} {sts : List Stmt} {α : Type} [Enc α]
theorem s_raise0N {x m : Str} {j : Nat} {C : Addr} {p2 p3 : Pos} {G0 : Gs → Prop} {Gd : DSt → Prop} {E E' : Ex → Prop} (ex : Ex) (ye : YE Y G0 E') (yn : YN Y Gd E) (T : ErrC Y.X.K Y.X.mg x C) (hg : Gl Y.X x) (hx : exK Y.X.K ex = ⟨C, none⟩) (hn : Gd s) (w : E ex)
    (hdb : (x == ("__debug__" : Str)) = false := by decide) : Ws Y s (.Raise (some (.Call (.Name x p) [.Constant (.str m) j p2] [] p3)) none pos :: sts) D :=
  ws_cons fun F0 σ H F e0 S => .of (L2N.ps_raise ye.ok.calm yn.tk (L2N.pmk_own PySem.F.excBase_ValueError T.xi T.g T.kp (raises_own T.sb T.ty) hg hdb)) ⟨ex, s, F, S, by rw [hx]; exact ⟨rfl, rfl⟩, hn, w⟩
structure DfN (P : Program) (w : World) (K : Frag) (mg : Str → Option Value) (base : Heap) (T : Tb) (k : Nat) (x : Str) (ps : List Str) (d : DSp) : Prop where
  ex : ∃ (f : Addr) (fd : FuncData), FnOk P w K mg base (L2N.CX P w) k f fd ps (toSp K T ps.length d) ∧ mg x = some (.ref f) ∧ PySem.W.keepIn K (.ref f) = true ∧ Binds K fd ps []
  mono : DMono d
end
section
variable {P : Program} {w : World} {K : Frag} {mg : Str → Option Value} {base : Heap} {fa : List He.Fa} {fn : List He.DefD} {tq : TQ}
abbrev yBN (P : Program) (w : World) (K : Frag) (mg : Str → Option Value) (base : Heap) (tq : TQ) (k : Nat) (N : List Str) (d : He.DefD) (gs : Gs) (z : BZ) : DX :=
  ⟨cxOf (L2N.CX P w) P w K mg base N d.qual d.scope (He.fAd K d.at_) z.cdv z.A z.outer z.s z.H z.E, tbOf K tq, k, z.H, z.F, ads gs, fun _ _ => False⟩
theorem takes_no {X : Cx} {Y : DX} (hx : Y.ex = fun _ _ => False) : L2.Takes X (wxOf Y) := fun u s' ⟨_, _, _, _, _, _, _, _, _, _, _, _, _, _, _, _, z⟩ => by
  obtain ⟨e, s, F, _, _, z⟩ := z
  rw [hx] at z
  exact z.elim
theorem fn_FN {τ ρ : Type} [Ags τ] [Enc ρ] {k : Nat} {N ps : List Str} {d : He.DefD} {fd : FuncData} (r0 : Option ρ) (L : LK w K mg base fa fn tq) (F1 : Fd K d ps fd) (S : FnScope N ps d.scope) (W : τ → (ρ → Prop) → (Ex → Prop) → Prop) (n0 : NoneIs r0) (hl : ∀ t : τ, (Ags.pvs t).length = ps.length)
    (body : ∀ (z : BZ) (t : τ) (Q : ρ → Prop) (E : Ex → Prop), W t Q E → YE (yBN P w K mg base tq k N d [] z) (fun gs => gs = []) NoE → YN (yBN P w K mg base tq k N d [] z) (lft fun gs => gs = []) E → (∀ q, (d.at_, q) ∈ tq → Tbl (yBN P w K mg base tq k N d [] z).X (tbOf K tq) q) →
      Ws (yBN P w K mg base tq k N d [] z) ⟨(Ags.pvs t).map some ++ List.replicate (N.length - ps.length) none, []⟩ d.body (retE (fun gs => gs = []) r0 Q)) :
    FnOk P w K mg base (L2N.CX P w) (k + 1) (He.fAd K d.at_) fd ps (toSp K (tbOf K tq) ps.length (spF K W)) := by
  obtain ⟨oc, od, dV, kV, doc, pm, an, cdv, ct, osl, rfl, lk, hcd, _, _⟩ := F1.F.ex
  obtain ⟨c, rfl⟩ := He.codeIn_ref hcd
  have ec : He.codeOf K d.at_ = c := He.codeOf_eq lk rfl
  refine fn_of lk hcd S (fun vs H Q E h => h.1) fun A outer s H vs Q E hr h => ?_
  obtain ⟨hn, As, gs, F, r, G, t, rfl, rfl, R0, E0, hw, hR, hE⟩ := h
  let z : BZ := ⟨.ref c, A, outer, s, H, F, E, fun _ _ => False⟩
  let Y : DX := yBN P w K mg base tq k N d [] z
  have tk0 : L2N.Takes Y.X (fun cls d _ H => E cls d H) := L2N.takes_of rfl rfl rfl rfl
  have ok : YOk Y := ⟨rfl, S.nd, hr, passes_of rfl, takes_no rfl⟩
  have yn : YN Y (lft fun gs => gs = []) E0 := ⟨tk0.imp fun cls d' σ H' ⟨e, s', F', Sq, er, ⟨n, hn⟩, he⟩ => by
    have q := hE e he cls d' H' F' er
    have g1 := Sq.stg.drop n
    have g2 := Sq.st.sub (ads_drop n)
    rw [hn] at g1 g2
    exact q g1 g2⟩
  have tbl : ∀ q, (d.at_, q) ∈ tq → Tbl Y.X (tbOf K tq) q := fun q hq => by
    have h1 := L.tb _ hq
    have e1 : (He.cT K d.at_).1 = c := ec
    refine ⟨c, (He.cT K d.at_).2, by rw [← e1]; exact h1, rfl, List.mem_map.mpr ⟨_, hq, rfl⟩, fun p hp e => ?_⟩
    obtain ⟨z, hz, ez⟩ := List.mem_map.mp hp
    subst ez
    have := nd_map L.nd hz hq e
    rw [this]
  have b := body z t R0 E0 hw ⟨ok, fun _ _ _ h => h.elim⟩ yn tbl
  refine ⟨_, pss_ws, ?_⟩
  have S0 : Sta Y ⟨(Ags.pvs t).map some ++ List.replicate (N.length - ps.length) none, []⟩ (L2.start N vs) H F := by
    refine ⟨G.ext, G.ntb, ?_, G.own, G.nd, G.tb, Step.refl⟩
    unfold L2.start
    rw [hn]
    exact reps_start r _
  refine (b F (L2.start N vs) H F (.refl _) S0).mono (fun σ' H' ⟨s', F', e1, S', ⟨n, hn⟩, r', er, q⟩ => ?_) (fun v H' ⟨A', s', σ', F', e1, r', S', ⟨n, hn⟩, r2, er, q⟩ => ?_) (fun σ' H' ⟨s', F', e1, S', q⟩ => q.elim) (fun σ' H' ⟨s', F', e1, S', q⟩ => q.elim)
  · have g1 := S'.stg.drop n
    have g2 := S'.st.sub (ads_drop n)
    rw [hn] at g1 g2
    exact hR r' q .non H' F' (n0 r' er K F' .non rfl) g1 g2
  · subst er
    have g1 := S'.stg.drop n
    have g2 := S'.st.sub (ads_drop n)
    rw [hn] at g1 g2
    exact hR r2 q v H' F' r' g1 g2
end
abbrev tryY (Y : DX) (pn : List (Addr × Obj)) (xe : Value → Shared → Prop) (H F : Hp) (gs : Gs) : DX := ⟨Y.X.tr pn xe, Y.T, Y.k, H, F, ads gs, fun _ _ => False⟩
abbrev suY (Y : DX) (a : Addr) (pn : List (Addr × Obj)) : DX := ⟨L2H.suiteX Y.X a pn, Y.T, Y.k, Y.H0, Y.F0, Y.S0, Y.ex⟩
section
variable {Y : DX} {s : DSt} {e a b c : Expr} {es : List Expr} {pos p : Pos} {D : DE} {st : Stmt} {sts : List Stmt} {α : Type} [Enc α]
theorem w1_tryX {x : Str} {C : Addr} {body suite : List Stmt} {b0 : Stmt} {np pos' : Pos} {E : Ex → Prop} {Gd : DSt → Prop} (ok : YOk Y) (hs : Y.X.stack = Y.X.env :: Y.X.outer) (hf : Y.X.env.frame = some Y.X.env.locals) (hc : Names Y.X x (.ref C)) (hpa : ∀ hd : Option Value, PassesOwnAt (model Y.X.prog Y.X.w) (Y.X.A.mark hd) Y.X.A Y.X.env Y.X.xe)
    (hm : ∀ e, E e → PySem.W.exmOne Y.X.K (.ref (exK Y.X.K e).C) (.ref C) = some true)
    (hb : ∀ pn xe H F, YOk (tryY Y pn xe H F s.gs) → L2N.Takes (tryY Y pn xe H F s.gs).X (wxS (tryY Y pn xe H F s.gs) Gd E) → Ws (tryY Y pn xe H F s.gs) s body D)
    (hsu : ∀ e s' a oe pn, E e → Gd s' → L2H.HotC (suY Y a ((a, oe) :: pn)).X → L2.Takes (suY Y a ((a, oe) :: pn)).X (wxOf Y) → Ws (suY Y a ((a, oe) :: pn)) s' (b0 :: suite) D) :
    W1 Y s (.Try body [.ExceptHandler (some (.Name x np)) none (b0 :: suite) pos'] [] [] pos) D := fun F0 σ H F e0 S => by
  refine .of (L2H.ps_try_onlyX hs hf hc hpa ok.tk (tb := fun W D' σ H => ∀ pn xe, L2N.Takes (Y.X.tr pn xe) W → PassesOwn (model Y.X.prog Y.X.w) Y.X.A Y.X.env xe → WS (Y.X.tr pn xe) body σ H D')
    (ts := fun a cls d D' σ H => ∀ oe pn, L2H.HotC (L2H.suiteX Y.X a ((a, oe) :: pn)) → L2.Takes (L2H.suiteX Y.X a ((a, oe) :: pn)) (wxOf Y) → WS (L2H.suiteX Y.X a ((a, oe) :: pn)) (b0 :: suite) σ H D')
    (fun W pn xe tkN _ po => ⟨fun pins s' σ' H' D' I h => (h pn xe tkN po).run pins s' I⟩)
    (fun a oe cls d pn hz hf tk hot => ⟨fun pins s' σ' H' D' I h => (h oe pn hot tk).run pins s' I⟩)) ?_
  intro pn xe tkN po
  have S' : Sta (tryY Y pn xe H F s.gs) s σ H F := ⟨S.ext, S.ntb, S.rep, S.own, S.nd, S.tb, Step.refl⟩
  have back : ∀ {s' : DSt} {σ' : L2.St} {H' F' : Hp}, Sta (tryY Y pn xe H F s.gs) s' σ' H' F' → Sta Y s' σ' H' F' := fun {s' σ' H' F'} S1 => by
    have G0 : Stg Y.X.K Y.T (s.gs ++ []) H F := by rw [List.append_nil]; exact S.stg
    have t0 : Step Y.H0 Y.F0 Y.S0 H F (ads (s.gs ++ [])) := by rw [List.append_nil]; exact S.st
    obtain ⟨G, t⟩ := Step.call (gs1 := s.gs) (gs2 := []) (gs1' := s'.gs) t0 G0 S1.st S1.stg
    rw [List.append_nil] at G t
    exact ⟨G.ext, G.ntb, S1.rep, G.own, G.nd, G.tb, t⟩
  have ok' : YOk (tryY Y pn xe H F s.gs) := ⟨ok.calm, ok.nd, ok.room, po, takes_no rfl⟩
  have yn : L2N.Takes (tryY Y pn xe H F s.gs).X (wxS (tryY Y pn xe H F s.gs) Gd E) := tkN.imp fun cls d σ' H' ⟨e, s', F', S1, er, g, he⟩ => by
    refine ⟨true, by rw [er.1]; exact hm e he, fun _ a na oe pn2 hot tk => ?_, fun z => by cases z⟩
    have S2 := back S1
    refine (hsu e s' a oe pn2 he g hot tk F0 σ' H' F' (e0.trans S1.st.ff) ⟨S2.ext, S2.ntb, S2.rep, S2.own, S2.nd, S2.tb, S2.st⟩).mono (fun _ _ ⟨s3, F3, e3, S3, q⟩ => ⟨s3, F3, e3, ⟨S3.ext, S3.ntb, S3.rep, S3.own, S3.nd, S3.tb, S3.st⟩, q⟩)
      (fun _ _ ⟨A3, s3, σ3, F3, e3, r3, S3, q⟩ => ⟨A3, s3, σ3, F3, e3, r3, ⟨S3.ext, S3.ntb, S3.rep, S3.own, S3.nd, S3.tb, S3.st⟩, q⟩) (fun _ _ ⟨s3, F3, e3, S3, q⟩ => ⟨s3, F3, e3, ⟨S3.ext, S3.ntb, S3.rep, S3.own, S3.nd, S3.tb, S3.st⟩, q⟩) (fun _ _ ⟨s3, F3, e3, S3, q⟩ => ⟨s3, F3, e3, ⟨S3.ext, S3.ntb, S3.rep, S3.own, S3.nd, S3.tb, S3.st⟩, q⟩)
  exact (hb pn xe H F ok' yn F0 σ H F e0 S').mono (fun _ _ ⟨s3, F3, e3, S3, q⟩ => ⟨s3, F3, e3, back S3, q⟩) (fun _ _ ⟨A3, s3, σ3, F3, e3, r3, S3, q⟩ => ⟨A3, s3, σ3, F3, e3, r3, back S3, q⟩) (fun _ _ ⟨s3, F3, e3, S3, q⟩ => ⟨s3, F3, e3, back S3, q⟩) (fun _ _ ⟨s3, F3, e3, S3, q⟩ => ⟨s3, F3, e3, back S3, q⟩)
end
end Sp
set_option maxHeartbeats 4000000
namespace Sp
open PySem L2
open PySem.W PySem.Calls PyProof.Rows
structure FnD where
  qual : Str
  params : Arguments
  body : Expr
  scope : Scope
  cl : List (Str × Addr)
  c : Addr
def LmO (f : Addr) (d : FnD) : HO := .ext fun h => ∃ pm ctv : Value, h.get? f = some (PySem.W.kla_obj "<lambda>" d.qual d.params d.body d.scope d.cl pm d.c ctv)
instance : Enc FnD := ⟨fun _ F v d => ∃ f, v = .ref f ∧ F f = some (LmO f d), fun ⟨f, h1, h2⟩ e => ⟨f, h1, e _ _ h2⟩⟩
section
variable {X : Cx} {pins : List (Addr × Obj)} {σ : L2.St} {H : Hp} {s : Shared}
end
section
variable {Y : DX} {s : DSt} {e : Expr} {es : List Expr} {pos p : Pos} {D : DE} {sts : List Stmt}
end
end Sp
set_option maxHeartbeats 4000000
namespace Sp
open PySem L2
open PySem.W PySem.Calls PyProof.Rows
def clsVal : V → Value
  | .ref a => .ref a
  | .ty n => .type n
  | _ => .none
inductive IsEs (mg : Str → Option Value) (sg : Scope) (n : Str) : List Expr → List V → Prop
  | nil : IsEs mg sg n [] []
  | own {cn : Str} {p1 p2 p3 p4 : Pos} {C : Addr} {es : List Expr} {cs : List V} (hg : sg.names.lookup cn = some .globalImplicit) (hdb : (cn == ("__debug__" : Str)) = false) (hv : mg cn = some (.ref C)) (t : IsEs mg sg n es cs) : IsEs mg sg n (.Call (.Name "isinstance" p1) [.Name n p2, .Name cn p3] [] p4 :: es) (.ref C :: cs)
  | blt {cn : Str} {p1 p2 p3 p4 : Pos} {T : String} {es : List Expr} {cs : List V} (hg : sg.names.lookup cn = some .globalImplicit) (hdb : (cn == ("__debug__" : Str)) = false) (hv : mg cn = none) (hb : bootBuiltins cn = some (.type T)) (hn : cn ≠ "__name__") (t : IsEs mg sg n es cs) : IsEs mg sg n (.Call (.Name "isinstance" p1) [.Name n p2, .Name cn p3] [] p4 :: es) (.ty T :: cs)
abbrev KitB (K : Frag) (D : Addr) : List V → List Bool → Prop := Paired fun c b => kitOne K (.ref D) (clsVal c) = some b
def UndE (K : Frag) (SF : Addr) (c1 c2 c3 : List V) (cls : Value) (d : Option Addr) (H' : Hp) (Q : VK) : Prop := ∃ (D : Addr) (b1 b2 b3 : List Bool), cls = .ref D ∧ exmOne K (.ref D) (.ref SF) = some true ∧ L2.ExcC K D ∧ KitB K D c1 b1 ∧ KitB K D c2 b2 ∧ KitB K D c3 b3 ∧ (∀ dd, d = some dd → ∃ fs, H' dd = some (.xd fs)) ∧
  ∀ p H2, (∀ b o, H' b = some o → H2 b = some o) → H2 p = none → Q (.ref p) (upd H2 p (.lst ((b1 ++ b2 ++ b3).map V.bl)))
def TTu (K : Frag) (SF : Addr) (c1 c2 c3 : List V) : (XK → Hp → VK → Prop) → Hp → VK → Prop := fun tl H Q =>
  tl (fun cls d H' => UndE K SF c1 c2 c3 cls d H' Q) H (fun _ H' => ([] : List V).length ≤ sizeLine ∧ ∀ p, H' p = none → Q (.ref p) (upd H' p (.lst [])))
structure UnderD (X : Cx) (x : Str) (SF : Addr) (c1 c2 c3 : List V) : Prop where
  ex : ∃ (a : Str) (g : Addr) (pg : Arguments) (bg : List Stmt) (sg : Scope) (dV kV doc pm cdv ct oc : Value) (an od : Option Addr) (osl : Array (Option Value)) (Ng : List Str),
    X.mg x = some (.ref g) ∧ PySem.W.keepIn X.K (.ref g) = true ∧ X.K.lookup g = some ⟨oc, od, .func (PySem.W.fnOf x x pg bg sg dV kV doc pm an cdv ct), osl⟩ ∧ PySem.W.codeIn X.K cdv x = true ∧
    L2.Binds X.K (PySem.W.fnOf x x pg bg sg dV kV doc pm an cdv ct) [a] [] ∧ FnScope Ng [a] sg ∧ Ng[0]? = some a ∧ Vis sg a ∧ (a == ("__debug__" : Str)) = false ∧ (a == ("__classdict__" : Str)) = false ∧
    ∀ q, LamX.GivesTo X Ng x sg g cdv bg a q (TTu X.K SF c1 c2 c3)
end Sp
set_option maxHeartbeats 4000000
namespace Sp
open PySem L2
open PySem.W PySem.Calls PyProof.Rows
section
variable {X : Cx} {pins : List (Addr × Obj)} {σ : L2.St} {H HZ : Hp} {s s1 : Shared}
end
instance : Inhabited FnD := ⟨⟨"", ⟨[], [], none, [], [], none, []⟩, .Constant .none 0 ⟨0, 0, 0, 0⟩, default, [], 0⟩⟩
section
variable {Y : DX} {s : DSt} {e a b : Expr} {es : List Expr} {pos p : Pos}
end
end Sp
set_option maxHeartbeats 4000000
namespace Sp
open PySem L2
open PySem.W PySem.Calls PyProof.Rows
section
variable {Y : DX} {s : DSt} {e a b : Expr} {es : List Expr} {pos p : Pos} {G0 : Gs → Prop} {E : Ex → Prop} {ps : List Str} {j : Nat}
end
end Sp
set_option maxHeartbeats 4000000
namespace PySem
namespace ZipS
open Sem (wp)
open Builtin Builtin.Str
section
variable {prog : Program} {w : World} {A : Around} {E : Value → Shared → Prop} {s : Shared}
end
abbrev sIt (x : Str) (t : Tok) : Obj := { cls := .type (strIterType x), data := .fields #[.str x t, .int 0 0] }
abbrev H1 (h : Heap) (x : Str) (t : Tok) : Heap := h.push (sIt x t)
abbrev H2 (h : Heap) (x y : Str) (t u : Tok) : Heap := (H1 h x t).push (sIt y u)
abbrev H3 (h : Heap) (x y : Str) (t u : Tok) : Heap := (H2 h x y t u).push { cls := .type "tuple", data := .seq #[.ref h.objs.size, .ref (H1 h x t).objs.size] }
abbrev H4 (h : Heap) (x y : Str) (t u : Tok) : Heap := (H3 h x y t u).push { cls := .type "tuple", data := .seq #[.none, .none] }
abbrev H5 (h : Heap) (x y : Str) (t u : Tok) : Heap := (H4 h x y t u).push { cls := .type "zip", data := .fields #[.none, .bool false, .bool false, .ref (H2 h x y t u).objs.size, .ref (H3 h x y t u).objs.size] }
theorem meets_new (x y : Str) (t u : Tok) :
    Meets (Builtin.«zip.__new__» ⟨[.type "zip", .str x t, .str y u], []⟩) (fun _ R s => R (.ok (.ret (.ref (H4 s.heap x y t u).objs.size))) { s with heap := H5 s.heap x y t u }) :=
  .of_wp fun prog w A R s h => by
    obtain ⟨hp, g, d, tk, os⟩ := s
    have hsub := sub_zip
    wp_walk using wpAny_pyIter_strU
    exact ⟨_, rfl, h⟩
section
variable {prog : Program} {w : World} {A : Around} {E : Value → Shared → Prop} {s : Shared}
end
end ZipS
end PySem
set_option maxHeartbeats 4000000
namespace Sp
open PySem PySem.Spec PyProof.Rows L2
open PySem.W (Datum DatumOrd SomeDatum)
section
variable {Y : DX} {s : DSt} {e a b c o : Expr} {es : List Expr} {pos p tpos : Pos}
end
end Sp
set_option maxHeartbeats 4000000
namespace HN
open PySem PySem.Spec PyProof.Rows PySem.SeqAt
section
variable {M : Model} {prog : Program} {w : World} {A : Around} {E : Value → Shared → Prop} {s : Shared} {K : PySem.W.Frag} {x y C : Addr} {ox oy : Obj} {od ody : Option Obj}
end
end HN
namespace Sp
open PySem PySem.Spec PyProof.Rows L2
open PySem.W (Datum DatumOrd SomeDatum)
class Inj (α : Type) [Enc α] : Prop where
  inj : ∀ {K F} {v : V} {x y : α}, Enc.rep K F v x → Enc.rep K F v y → x = y
instance : Inj Int := ⟨fun h1 h2 => by rw [h1] at h2; cases h2; rfl⟩
instance : Inj Bool := ⟨fun h1 h2 => by rw [h1] at h2; cases h2; rfl⟩
instance : Inj (List Nat) := ⟨fun {K F v x y} h1 h2 => by
  have e : V.str (toStr x) = V.str (toStr y) := h1.symm.trans h2
  exact toStr_inj (V.str.inj e)⟩
section
variable {Y : DX} {s : DSt} {e a b c o : Expr} {es : List Expr} {pos p apos cpos : Pos}
section
variable {κ ν : Type} [DecidableEq κ] [Kk κ] [Enc κ] [KkV κ] [Enc ν]
end
section
variable {κ ν : Type} [DecidableEq κ] [Kt κ] [Enc κ] [KtV κ] [Enc ν]
end
end
end Sp
set_option maxHeartbeats 4000000
namespace Sp
open PySem L2
open PySem.W (Datum DatumOrd SomeDatum)
def tDictItK (td : TE) : TE := fun σ H Q => td σ H fun x H1 => ∃ a kvs, x = V.ref a ∧ Rd H1 a (.dK kvs) ∧ ∀ p, H1 p = none → Q (.ref p) (upd H1 p (.dK (mergeK [] kvs)))
theorem prs_at {prog : Program} {w : World} {K : Type} [DecidableEq K] {knd : KeyKind prog w K} : ∀ {es : List DictEntry} {kvs : List (K × Value)}, Pairs knd es kvs → ∀ {i : Nat} {e : DictEntry}, es[i]? = some e → ∃ kv, kvs[i]? = some kv ∧ knd.is kv.1 e.key = true ∧ e.val = kv.2
  | _, _, .nil, i, e, h => by cases i <;> cases h
  | _, _, .cons (e := e0) (kv := kv) h1 h2 _, 0, e, h => by cases h; exact ⟨kv, rfl, h1, h2⟩
  | _, _, .cons _ _ hp, i + 1, e, h => prs_at hp (i := i) h
section
variable {o : Expr} {p pos apos cpos : Pos}
theorem pe_dictItK {X : Cx} {td : TE} (hc : X.calm = true) (hg : Gl X "dict") (hm : X.mg "dict" = none) (hd : PE X o td) (hbase : attributeBase o "items" X.env (eval o X.env) = eval o X.env := by exact ab_ok rfl) (hline : (apos.endLine == cpos.line) = true := by rfl)
    (hs : starEach [Expr.Call (.Attribute o "items" apos) [] [] cpos] X.env = (false, eval (Expr.Call (.Attribute o "items" apos) [] [] cpos) X.env) :: starEach [] X.env := by exact star_c rfl) :
    PE X (.Call (.Name "dict" p) [.Call (.Attribute o "items" apos) [] [] cpos] [] pos) (tDictItK td) := by
  refine ⟨fun pins s σ H Q I hq => ?_⟩
  refine wpAny_Call_Name_kw (ld_blt I hg hm (u := .type "dict") (by first | rfl | decide +kernel) ?_ (by first | decide +kernel | decide) (by first | decide +kernel | decide))
  refine PyProof.Rows.callWith_type1 ?_ hs rfl
  rw [hs]
  show wpAny _ _ (spliced ((false, eval (.Call (.Attribute o "items" apos) [] [] cpos) X.env) :: backTo pos (starEach [] X.env))) _ _ s
  refine Calls.spliced_cons ?_
  refine wpAny_Call_method0_late hbase hline (thn (hd.run pins s σ H _ I hq) fun v s1 ⟨x, H1, I1, r1, a, kvs, ex, ha, q⟩ => ?_)
  subst ex
  obtain rfl : v = Value.ref a := r1
  obtain ⟨hz, hsys, vs, rel, dof⟩ := dk_rd I1.hok ha
  obtain ⟨ep, dat⟩ := dof.dictAt
  obtain ⟨ob, es, ho, hx, hdat, hko, hpr, hnd⟩ := id dat
  refine ⟨"dict", "dict.items", F.plainAttrs_dict, F.slot_dict_items, F.type_dict_items, ⟨ob, ho, hx.1⟩, fun b e => ?_, Calls.callWith_builtin rfl (PySem.evalArgs_none ?_)⟩
  · cases e
    exact ⟨ob, ho, hx.2.1⟩
  refine DT.callItems (es := es) (ep := ep) hsys ⟨ob, ho, hx, hdat⟩ ?_
  have k1 : ∀ b u, s1.heap.get? b = some u → (s1.heap.push { cls := .type "dict_items", data := .fields #[.ref a] }).get? b = some u := fun b u e => Heap.get?_push_of_some _ e
  have I2 : Inv X pins σ H1 { s1 with heap := s1.heap.push { cls := .type "dict_items", data := .fields #[.ref a] } } := I1.kept (t' := s1.toks) k1
  refine Calls.spliced_nil ?_
  have l2 : kvs.length = vs.length := KV.length rel
  have l1 : es.size = vs.length := by have := Pairs.length hpr; rw [Array.length_toList] at this; exact this
  refine call_dict_pairs (knd := mixKind X.prog X.w) (kvs := vs) (PairArg.items s1.heap.objs.size a es ep) (I1.ok.hd hc) ⟨⟨_, Heap.get?_push_size _ rfl, rfl, rfl, rfl⟩, ⟨ob, k1 _ _ ho, hx, hdat⟩⟩ ⟨by omega, fun i key v ⟨hi, e1, e2⟩ => ?_⟩ (by omega) fun h' tk dd' hk => ?_
  · have hiv : i < vs.length := by omega
    obtain ⟨kv, g1, r1, r2⟩ := prs_at hpr (i := i) (e := es[i]) (by rw [Array.getElem?_toList, Array.getElem?_eq_getElem hi])
    rw [List.getElem?_eq_getElem hiv] at g1
    cases g1
    refine ⟨(vs[i]).1, ?_, ?_⟩
    · rw [List.getElem?_eq_getElem hiv, e2, r2]
    · rw [e1]; exact r1
  · have kp : ∀ b u, (s1.heap.push { cls := .type "dict_items", data := .fields #[.ref a] }).get? b = some u → h'.get? b = some u := fun b u e => hk b u (fun z => nomatch z) e
    have hml : (mergeK [] kvs).length ≤ sizeLine := by
      have h1 := length_mergeK kvs []
      rw [List.length_nil] at h1
      omega
    exact ⟨.ref _, _, I2.laid (t' := tk) (o := .dK (mergeK [] kvs)) kp (Nat.le_refl _) (dk_new hml (beq_eq_false_iff_ne.mpr (Ne.symm (Nat.ne_of_lt I2.big))) (KV.merge rel .nil) dd'), rfl, q _ (I2.hok.fresh (Nat.le_refl _))⟩
end
section
variable {Y : DX} {s : DSt} {o : Expr} {p pos apos cpos : Pos} {κ ν : Type} [DecidableEq κ] [Kk κ] [Enc κ] [KkV κ] [Enc ν]
end
end Sp
set_option maxHeartbeats 4000000
namespace Sp
open PySem L2
open PySem.W (Datum DatumOrd SomeDatum)
theorem fr_chg {K : Frag} {F : Hp} {f : Str} {A : Pv} {vs : List (Str × V)} {fs : Flds} (h : FR K F vs fs) (r : ∀ v, vs.lookup f = some v → A.rep K F v) (hf : (fs.lookup f).isSome = true) : FR K F vs (fput f A fs) := by
  induction h with
  | nil => cases hf
  | @cons p q vs fs r1 t ih =>
    obtain ⟨g, x⟩ := p
    obtain ⟨g', B⟩ := q
    have e : g = g' := r1.1
    subst e
    unfold fput
    rw [List.lookup_cons] at hf
    by_cases z : g = f
    · rw [if_pos z]
      exact .cons ⟨rfl, r x (by rw [List.lookup_cons, show (f == g) = true from beq_iff_eq.mpr z.symm])⟩ t
    · have z2 : (f == g) = false := beq_eq_false_iff_ne.mpr (Ne.symm z)
      rw [if_neg z]
      rw [z2] at hf
      exact .cons r1 (ih (fun v hv => r v (by rw [List.lookup_cons, z2]; exact hv)) hf)
theorem upd_self {H : Hp} {p : Addr} {o : HO} (h : H p = some o) : upd H p o = H := by
  funext a
  by_cases z : a = p
  · rw [z, upd_same, h]
  · rw [upd_ne z]
section
variable {Y : DX} {s : DSt} {e a b c d o : Expr} {sts : List Stmt} {pos p p2 apos : Pos} {D : DE} {C : Addr} {fs : Flds} {q q2 : Addr} {f x : Str}
section
variable {κ ν : Type} [DecidableEq κ] [Kk κ] [Enc κ] [KkV κ] [Enc ν] {m : List (κ × ν)}
theorem s_fldM {W : (List (κ × ν) → Prop) → Prop} {R : List (κ × ν) → Prop} {pn : Pos} (i g : Nat) (c : Cls Y.X.K C) (nn : NoAttr Y.X.K C f) (hN : Y.X.N[i]? = some x) (hρ : s.ρ[i]? = some (some (raw (.ref q)))) (hg : s.gs[g]? = some (q, insc C fs)) (he : EvM Y s e W) (next : ∀ q2 v, R v → Ws Y ⟨s.ρ, (q2, dctc v) :: s.gs.set g (q, insc C (fput f (raw (.ref q2)) fs))⟩ sts D) (w : W R) (hl : fs.length < 1000 := by decide)
    (hv : Vis Y.X.env.scope x := by first | exact .inl rfl | exact .inr (.inl rfl) | exact .inr (.inr rfl)) (hd : (x == ("__debug__" : Str)) = false := by decide) (hcd : (x == ("__classdict__" : Str)) = false := by decide) (hs : swapsWith e (some (.Attribute (.Name x pn) f p2)) pos.line Y.X.env = pure false := by rfl) : Ws Y s (.Assign [.Attribute (.Name x pn) f p2] e pos :: sts) D :=
  ws_cons (w1_fld (g + 1) c nn hl (he.q w fun q2 v r => ⟨hg, evp_v i hN hρ hv hd hcd, next q2 v r⟩) hs)
theorem s_fput {pn pa ps : Pos} (i gi g : Nat) (c : Cls Y.X.K C) (nn : NoAttr Y.X.K C f) (ok : YOk Y) {b : Expr} {W : (ν → Prop) → Prop} {Wk : (κ → Prop) → Prop} (hN : Y.X.N[i]? = some x) (hρ : s.ρ[i]? = some (some (raw (.ref q)))) (hi : s.gs[gi]? = some (q, insc C fs)) (l : fs.lookup f = some (raw (.ref q2))) (hg : s.gs[g]? = some (q2, dctc m)) (he : EvC Y s e W) (hb : EvC Y s b Wk) {R : List (κ × ν) → Prop} (next : ∀ v, R v → Ws Y ⟨s.ρ, s.gs.set g (q2, dctc v)⟩ sts D) (w : W fun v => Wk fun k => m.length < sizeLine ∧ R (dput m k v))
    (hv : Vis Y.X.env.scope x := by first | exact .inl rfl | exact .inr (.inl rfl) | exact .inr (.inr rfl)) (hd : (x == ("__debug__" : Str)) = false := by decide) (hcd : (x == ("__classdict__" : Str)) = false := by decide)
    (hab : attributeBase (.Name x pn) f Y.X.env (eval (.Name x pn) Y.X.env) = eval (.Name x pn) Y.X.env := by exact ab_ok rfl)
    (hs : swapsWith e (some (.Subscript (.Attribute (.Name x pn) f pa) b ps)) pos.line Y.X.env = pure false := by rfl) : Ws Y s (.Assign [.Subscript (.Attribute (.Name x pn) f pa) b ps] e pos :: sts) D := ws_cons fun F0 σ H F e0 S => by
  refine .of (ps_dput (by have := ok.room.units; omega) pe_we pe_we pe_we hs) ?_
  refine (he _ w F σ H F (.refl _) S).mono fun v H1 ⟨_, _, F1, e1, r1, S1, y, ey, es, w⟩ => ?_
  subst ey es
  refine (evp_fld (pos := pa) c nn (evp_v (pos := pn) i hN hρ hv hd hcd) (IA.own gi hi) l hab F1 σ H1 F1 (.refl _) S1).mono fun u H2 ⟨F2, e2, r2, S2⟩ => ?_
  refine (hb _ w F2 σ H2 F2 (.refl _) S2).mono fun z H3 ⟨_, _, F3, e3, r3, S3, k, ek, es, w⟩ => ?_
  subst ek es
  obtain ⟨hF, oo, hoo, _, zs, eo, rv⟩ := S3.cell hg
  subst eo
  refine ⟨q2, upd H3 q2 (.dK (putK zs (Kk.key k) v)), r2, .inl ⟨zs, Kk.key k, hoo, KkV.of r3, by rw [show zs.length = m.length from Paired.length rv]; exact w.1, rfl⟩, _, F3, ((e0.trans e1).trans e2).trans e3, ?_, next _ w.2⟩
  exact S3.write (c' := dctc (dput m k y)) hg hoo (not_codeD rfl) rfl ⟨_, rfl, kvs_put rv (Enc.mono (α := ν) r1 (e2.trans e3))⟩
theorem ws_frFD (gi j : Nat) (hne : j ≠ gi) (hi : s.gs[gi]? = some (q, insc C fs)) (l : fs.lookup f = some (raw (.ref q2))) (hj : s.gs[j]? = some (q2, dctc m)) (h : Ws Y ⟨s.ρ, (s.gs.set gi (q, insc C (fput f (pu (Dct.mk m)) fs))).eraseIdx j⟩ sts D) : Ws Y s sts D := fun F0 σ H F e0 S => by
  obtain ⟨hF, oo, hoo, _, zs, eo, rv⟩ := S.cell hj
  subst eo
  refine ⟨fun pins s1 I => ?_⟩
  obtain ⟨od, J⟩ := I.lock hoo trivial
  have S1 := S.write (o' := .frz od (.dK zs)) (c' := ⟨fun _ _ o => o = .frz od (.dK zs), fun h _ => h⟩) hj hoo (not_codeD rfl) rfl rfl
  have hl : j < s.gs.length := (List.getElem?_eq_some_iff.mp hj).1
  have hi1 : (s.gs.set j (q2, (⟨fun _ _ o => o = .frz od (.dK zs), fun h _ => h⟩ : Cell)))[gi]? = some (q, insc C fs) := by rw [List.getElem?_set_ne hne]; exact hi
  -- frozen, but still held as owned
  obtain ⟨_, o1, ho1, ht1, dx, vs, eo1, fr⟩ := S1.cell hi1
  subst eo1
  have S2 := S1.freeze (i := j) (p := q2) (List.getElem?_set_self hl) upd_same
  have eg : (s.gs.set j (q2, (⟨fun _ _ o => o = .frz od (.dK zs), fun h _ => h⟩ : Cell))).eraseIdx j = s.gs.eraseIdx j := by
    rw [List.eraseIdx_set_eq]
  -- where self's cell is now
  have hil : gi < s.gs.length := (List.getElem?_eq_some_iff.mp hi).1
  obtain ⟨gi2, hgi2, eset⟩ : ∃ gi2, (s.gs.eraseIdx j)[gi2]? = some (q, insc C fs) ∧ ∀ z, (s.gs.set gi z).eraseIdx j = (s.gs.eraseIdx j).set gi2 z := by
    by_cases lt : gi < j
    · refine ⟨gi, by rw [List.getElem?_eraseIdx_of_lt lt]; exact hi, fun z => ?_⟩
      rw [List.eraseIdx_set_gt lt]
    · have gt : j < gi := by omega
      refine ⟨gi - 1, ?_, fun z => ?_⟩
      · rw [List.getElem?_eraseIdx_of_ge (by omega), Nat.sub_add_cancel (by omega)]; exact hi
      · rw [List.eraseIdx_set_lt gt]
  have S2' : Sta Y ⟨s.ρ, s.gs.eraseIdx j⟩ σ (upd H q2 (.frz od (.dK zs))) (upd F q2 (.frz od (.dK zs))) := by rw [← eg]; exact S2
  have rep2 : (pu (Dct.mk m)).rep Y.X.K (upd F q2 (.frz od (.dK zs))) (.ref q2) := ⟨q2, od, zs, rfl, upd_same, rv.mono (Ext.grow hF)⟩
  have S3 := S2'.write (o' := .ins C dx vs) (c' := insc C (fput f (pu (Dct.mk m)) fs)) hgi2 ho1 (not_codeI rfl) rfl ⟨dx, vs, rfl, fr_chg (fr.mono (Ext.grow hF)) (fun v hv => by
    obtain ⟨v2, h2, r2⟩ := fr_look fr l
    rw [hv] at h2
    cases h2
    have : v = .ref q2 := r2
    subst this
    exact rep2) (by rw [l]; rfl)⟩
  rw [upd_self ho1] at S3
  rw [← eset] at S3
  exact (h F0 σ _ _ (e0.trans (Ext.grow hF)) S3).run pins s1 J
end
end
end Sp
set_option maxHeartbeats 4000000
namespace Sp
open PySem L2
open PySem.W (Datum DatumOrd SomeDatum)
structure Tg (γ : Type) where
  id : Addr
  val : γ
instance {γ : Type} [Inhabited γ] : Inhabited (Tg γ) := ⟨⟨default, default⟩⟩
instance {γ : Type} [Enc γ] : Enc (Tg γ) := ⟨fun K F v x => v = .ref x.id ∧ Enc.rep K F v x.val, fun h e => ⟨h.1, Enc.mono h.2 e⟩⟩
instance {γ : Type} [Enc γ] : NoN (Tg γ) := ⟨fun h e => by rw [e] at h; cases h.1⟩
section
variable {Y : DX} {s : DSt} {e a b c o : Expr} {pos p apos : Pos}
end
end Sp
set_option maxHeartbeats 4000000
namespace Sp
open PySem L2 PySem.Calls PyProof.Rows
open PySem.W (Datum DatumOrd SomeDatum)
section
variable {Y : DX} {s : DSt} {e a b c d o : Expr} {es : List Expr} {pos p apos : Pos}
variable {δ : Type} [DecidableEq δ] [Enc δ] [DatumOrd δ] [Dat δ] {W : (List δ → Prop) → Prop} {Wd : (δ → Prop) → Prop}
end
end Sp
set_option maxHeartbeats 4000000
namespace Sp
open PySem L2
open PySem.W (Datum DatumOrd SomeDatum KeqHits)
section
variable {κ ν : Type} [DecidableEq κ] [Kk κ] [Enc κ] [KkV κ] [DecidableEq ν] [Enc ν]
section
variable {Y : DX} {s : DSt} {a b : Expr} {Wa Wb : (List (κ × ν) → Prop) → Prop}
theorem EvD.q' {e : Expr} {W : (List (κ × ν) → Prop) → Prop} {k : List (κ × ν) → Prop} {Q : Pv → DSt → Prop} (h : EvD Y s e W) (w : W k) (q : ∀ A m, DF Y s A m → k m → Q A s) : Ev Y s e Q := h.q w q
end
end
end Sp
set_option maxHeartbeats 4000000
namespace Sp
open PySem L2
structure GTup (K : Frag) (mg : Str → Option Value) (x : Str) (vs : List Txt) : Prop where
  at_ : mg x = some (.ref (He.ga K x))
  sq : ∀ H, SqT K H (He.ga K x) (vs.map fun t => V.str (toStr t))
section
variable {Y : DX} {s : DSt} {pos : Pos} {x : Str} {vs : List Txt}
end
end Sp
set_option maxHeartbeats 4000000
namespace Sp
open PySem L2
open PySem.W PySem.Calls PyProof.Rows
theorem cxN {P : Program} {w : World} {outer : List Env} {H : Hp} {s : Shared} {E : XK} {u : Value} {s' : Shared} (h : L2N.CX P w outer H s E u s') : L2.CX P w outer H s E u s' := by
  obtain ⟨a, B, H', cls, d, rfl, ⟨f1, f2, f3, oe, vs, T, oT, ts, t1, t2, t3⟩, r⟩ := h
  exact ⟨a, B, H', cls, d, rfl, ⟨f1, f2, f3, oe, vs, T, oT, ts, t1, L2N.Zn.zc t2, t3⟩, r⟩
theorem fnOkN {P : Program} {w : World} {K : Frag} {mg : Str → Option Value} {base : Heap} {k : Nat} {f : Addr} {fd : FuncData} {ps : List Str} {sp : Sp} (F : FnOk P w K mg base (L2N.CX P w) k f fd ps sp) : FnOk P w K mg base (L2.CX P w) k f fd ps sp :=
  ⟨F.len, fun A outer s H args us vs Q E hr he hb hv hs => PySem.codeAny_mono (F.run A outer s H args us vs Q E hr he hb hv hs) fun r s' h => by
    cases r with
    | error e => exact cxN h
    | ok fl => cases fl <;> exact h⟩
theorem DfN.df {P : Program} {w : World} {K : Frag} {mg : Str → Option Value} {base : Heap} {T : Tb} {k : Nat} {x : Str} {ps : List Str} {d : DSp} (h : DfN P w K mg base T k x ps d) : Df P w K mg base T k x ps d :=
  ⟨let ⟨f, fd, F, r⟩ := h.ex; ⟨f, fd, fnOkN F, r⟩, h.mono⟩
structure MkrN (P : Program) (w : World) (K : Frag) (mg : Str → Option Value) (base : Heap) (T : Tb) (k : Nat) (x : Str) (C : Addr) (ps : List Str) (d : DSp) : Prop where
  ex : ∃ (f : Addr) (fd : FuncData), FnOk P w K mg base (L2N.CX P w) k f fd ps (toSp K T ps.length d) ∧ Mk K C f ∧ Binds K fd ps []
  g : mg x = some (.ref C)
  mono : DMono d
theorem MkrN.mkr {P : Program} {w : World} {K : Frag} {mg : Str → Option Value} {base : Heap} {T : Tb} {k : Nat} {x : Str} {C : Addr} {ps : List Str} {d : DSp} (h : MkrN P w K mg base T k x C ps d) : Mkr P w K mg base T k x C ps d :=
  ⟨let ⟨f, fd, F, r⟩ := h.ex; ⟨f, fd, fnOkN F, r⟩, h.g, h.mono⟩
section
variable {P : Program} {w : World} {K : Frag} {mg : Str → Option Value} {base : Heap} {fa : List He.Fa} {fn : List He.DefD} {tq : TQ}
end
section
variable {Y : DX} {s : DSt} {e a b c : Expr} {es : List Expr} {pos p : Pos} {D : DE} {sts : List Stmt}
end
end Sp
set_option maxHeartbeats 4000000
namespace Sp
open PySem L2
section
variable {Y : DX} {s : DSt} {e a b c : Expr} {es : List Expr} {pos p : Pos} {D : DE} {sts : List Stmt} {x y : Str} {q : Addr}
end
end Sp
set_option maxHeartbeats 4000000
namespace Sp
open PySem L2
section
variable {Y : DX} {s : DSt} {tg iter elt : Expr} {ifs : List Expr} {pos spos py gpos p p2 : Pos} {scope : Scope} {α β : Type} [Enc α] [Enc β] {D : DE} {sts : List Stmt} {x : Str}
end
end Sp
set_option maxHeartbeats 4000000
namespace Sp
open PySem L2 PySem.Calls PyProof.Rows
abbrev lpair (v k : Value) (c : Nat) : Obj := { cls := .type "list", dict := none, data := .seq #[v, k] c, slots := #[] }
section
variable {prog : Program} {w : World} {A : Around}
structure MinS (prog : Program) (w : World) (A : Around) (I q S : Addr) (n : Nat) (Lp : Nat → Value → Value → Shared → Prop) (Md : Nat → Value → Value → Value → Shared → Prop) (Cm : Nat → Value → Value → Value → Value → Shared → Prop) (Fi : Value → Shared → Prop) : Prop where
  at_ : ∀ {j vb kb s}, Lp j vb kb s → ∃ c, s.heap.get? S = some (lpair vb kb c)
  nx : ∀ {j vb kb s}, Lp j vb kb s → j + 1 < n → ∀ (Q : Option Value → Shared → Prop) (E : Value → Shared → Prop), (∀ v s', Md j vb kb v s' → Q (some v) s') → wpAny (model prog w) A (pyNext (.ref I)) Q E s
  dn : ∀ {j vb kb s}, Lp j vb kb s → j + 1 = n → ∀ (Q : Option Value → Shared → Prop) (E : Value → Shared → Prop), (∀ s' c, s'.heap.get? S = some (lpair vb kb c) → (∀ k : Value → Shared → Prop, (∀ s2, Fi vb s2 → k vb s2) → k vb { s' with heap := s'.heap.update S (Obj.mapSeq fun _ => #[]) }) → Q none s') → wpAny (model prog w) A (pyNext (.ref I)) Q E s
  ca : ∀ {j vb kb v s}, Md j vb kb v s → ∀ (Q : Value → Shared → Prop) (E : Value → Shared → Prop), (∀ kx s', Cm j vb kb v kx s' → Q kx s') → wpAny (model prog w) A (call (.ref q) [v]) Q E s
  cm : ∀ {j vb kb v kx s}, Cm j vb kb v kx s → ∃ (b : Bool) (c : Nat), s.heap.get? S = some (lpair vb kb c) ∧ (∀ (Q : Value → Shared → Prop) (E : Value → Shared → Prop), Q (.bool b) s → wpAny (model prog w) A (richCompare .Lt kx kb) Q E s) ∧
    (b = true → Lp (j + 1) v kx { s with heap := s.heap.update S (Obj.mapSeq fun _ => #[v, kx]) }) ∧ (b = false → Lp (j + 1) vb kb s)
structure MaxS (prog : Program) (w : World) (A : Around) (I q S : Addr) (n : Nat) (Lp : Nat → Value → Value → Shared → Prop) (Md : Nat → Value → Value → Value → Shared → Prop) (Cm : Nat → Value → Value → Value → Value → Shared → Prop) (Fi : Value → Shared → Prop) : Prop where
  at_ : ∀ {j vb kb s}, Lp j vb kb s → ∃ c, s.heap.get? S = some (lpair vb kb c)
  nx : ∀ {j vb kb s}, Lp j vb kb s → j + 1 < n → ∀ (Q : Option Value → Shared → Prop) (E : Value → Shared → Prop), (∀ v s', Md j vb kb v s' → Q (some v) s') → wpAny (model prog w) A (pyNext (.ref I)) Q E s
  dn : ∀ {j vb kb s}, Lp j vb kb s → j + 1 = n → ∀ (Q : Option Value → Shared → Prop) (E : Value → Shared → Prop), (∀ s' c, s'.heap.get? S = some (lpair vb kb c) → (∀ k : Value → Shared → Prop, (∀ s2, Fi vb s2 → k vb s2) → k vb { s' with heap := s'.heap.update S (Obj.mapSeq fun _ => #[]) }) → Q none s') → wpAny (model prog w) A (pyNext (.ref I)) Q E s
  ca : ∀ {j vb kb v s}, Md j vb kb v s → ∀ (Q : Value → Shared → Prop) (E : Value → Shared → Prop), (∀ kx s', Cm j vb kb v kx s' → Q kx s') → wpAny (model prog w) A (call (.ref q) [v]) Q E s
  cm : ∀ {j vb kb v kx s}, Cm j vb kb v kx s → ∃ (b : Bool) (c : Nat), s.heap.get? S = some (lpair vb kb c) ∧ (∀ (Q : Value → Shared → Prop) (E : Value → Shared → Prop), Q (.bool b) s → wpAny (model prog w) A (richCompare .Gt kx kb) Q E s) ∧
    (b = true → Lp (j + 1) v kx { s with heap := s.heap.update S (Obj.mapSeq fun _ => #[v, kx]) }) ∧ (b = false → Lp (j + 1) vb kb s)
end
end Sp
set_option maxHeartbeats 4000000
namespace Sp
open PySem L2 PySem.Calls PyProof.Rows
open PySem.W (Datum DatumOrd SomeDatum EachIs KeyedOut)
section
variable {M : Model} {A : Around} {E : Value → Shared → Prop} {s : Shared} {name qual : Str} {params : Arguments} {body : Expr} {scope : Scope} {env : Env} {c P : Addr} {ps : Array Value} {pos : Pos} {firstLine : Nat} {mg : Str → Option Value} {clos : List (Str × Addr)} {Q : Value → Shared → Prop}
end
def CodeIs (own : Bool) (H : Hp) (c : Addr) (q : Str) : Prop := match own with
  | false => H c = some (LamX.CodeO c q)
  | true => ∃ P, H c = some (CodeT c P (some q)) ∧ H P = some (PTab P)
theorem CodeIs.ext {own : Bool} {H H' : Hp} {c : Addr} {q : Str} (h : CodeIs own H c q) (e : ∀ b φ, H b = some (.ext φ) → H' b = some (.ext φ)) : CodeIs own H' c q := by
  cases own with
  | false => exact e _ _ h
  | true =>
    obtain ⟨P, h1, h2⟩ := h
    exact ⟨P, e _ _ h1, e _ _ h2⟩
structure ParOkC (N : List Str) (sc scope : Scope) (vs : List Nat) (i : Nat) (x : Str) : Prop where
  kind : scope.kind = .function
  co : scope.isCoroutine = false
  gen : scope.isGenerator = false
  one : (scope.names.filter fun y => y.2 == .cell) = [(x, .cell)]
  par : scope.names.lookup x = some .cell
  at_ : N[i]? = some x
  free : ∀ y ∈ scope.names, y.2 = .free → sc.names.lookup y.1 = some .cell ∨ sc.names.lookup y.1 = some .free
  own : ∀ (j : Nat) (y : Str), N[j]? = some y → scope.names.lookup y = some .local → j ∈ vs
section
variable {M : Model} {A : Around} {E : Value → Shared → Prop} {s : Shared}
end
inductive TbLO (X : Cx) (T : Tb) (q : Str) (lp : Pos) : Bool → Prop
  | of (h : TbL X T q lp) : TbLO X T q lp false
  | ne (h : Tbl X T (.nest (some q))) : TbLO X T q lp true
structure LamAtO (own : Bool) (X : Cx) (T : Tb) (params : Arguments) (body : Expr) (scope : Scope) (H H1 : Hp) (f c' : Addr) (pm ctv : Value) (s' : Shared) : Prop where
  ext : LamX.ExtN H H1
  tb : TbOk T H1
  obj : s'.heap.get? f = some (PySem.W.kla_obj "<lambda>" (X.env.qual ++ "<lambda>") params body scope (cloFrom X.env.cells scope.names []) pm c' ctv)
  free : H1 f = none
  nofr : f ∉ frs X.stack
  code : CodeIs own H1 c' (X.env.qual ++ "<lambda>")
section
variable {X : Cx} {pins : List (Addr × Obj)} {σ : L2.St} {H : Hp} {s : Shared}
end
section
variable {X : Cx} {pins : List (Addr × Obj)} {σ : L2.St} {H : Hp} {s : Shared}
end
section
variable {Y : DX} {st : DSt} {σ : L2.St} {H F : Hp} {pins : List (Addr × Obj)} {s : Shared}
end
end Sp
set_option maxHeartbeats 4000000
namespace Sp
open PySem L2 PySem.Calls PyProof.Rows
open PySem.W (Datum DatumOrd SomeDatum EachIs KeyedOut)
section
variable {α κ : Type} [DecidableEq κ] [DatumOrd κ]
end
structure KJ (own : Bool) (Y : DX) (st : DSt) (σ : L2.St) (pins : List (Addr × Obj)) (f : Addr) (fo : Obj) (c I S : Addr) (F1 : Hp) (s : Shared) (H F : Hp) : Prop where
  inv : Inv Y.X ((f, fo) :: pins) σ H s
  nI : H I = none
  nS : H S = none
  ext : Ext F1 F
  sta : Sta Y st σ H F
  co : CodeIs own H c (Y.X.env.qual ++ "<lambda>")
section
variable {Y : DX} {st : DSt} {σ : L2.St} {pins : List (Addr × Obj)} {f c I S : Addr} {fo : Obj} {F1 H H0 F : Hp} {s : Shared}
end
section
variable {Y : DX} {st : DSt} {σ : L2.St} {pins : List (Addr × Obj)} {f c I S : Addr} {A0 : Pv} {α κ : Type} [Enc α] [DecidableEq κ] [Enc κ] [DatumOrd κ] [Dat κ] [Srtb κ] {k i : Nat} {vs : List Nat} {scope : Scope} {x : Str} {params : Arguments} {body : Expr} {pm ctv : Value}
end
end Sp
set_option maxHeartbeats 4000000
namespace Sp
open PySem L2 PySem.Calls PyProof.Rows
open PySem.W (Datum DatumOrd SomeDatum EachIs KeyedOut)
section
variable {Y : DX} {s : DSt} {a : Expr} {α κ : Type} [Enc α] [DecidableEq κ] [Enc κ] [DatumOrd κ] [Dat κ] [Srtb κ]
end
end Sp
set_option maxHeartbeats 4000000
namespace Sp
open PySem L2
open PySem.W (Datum DatumOrd SomeDatum)
theorem YE.nox {Y : DX} (o : YOk Y) : YE Y (fun _ => True) NoE := ⟨o, fun _ _ _ h => h.elim⟩
abbrev obc {γ : Type} [o : Ob γ] (K : Frag) (m : γ) : Cell := insc (He.ga K o.cls) (o.flds m)
section
variable {γ τ ρ : Type} [Ob γ] [Ags τ] [Enc ρ]
end
section
variable {Y : DX} {s : DSt} {e a b c o : Expr} {es : List Expr} {pos p apos : Pos} {Q : Pv → DSt → Prop} {fs : Flds} {C : Addr}
end
section
variable {Y : DX} {s : DSt} {e a b c o : Expr} {es : List Expr} {pos p apos : Pos} {τ ρ α β γ : Type} [Ags τ] [Enc ρ] [Enc α] [Enc β] [og : Ob γ] {G0 : Gs → Prop} {E : Ex → Prop} {V : (τ → Prop) → Prop} {ps : List Str} {j : Nat} {y m : Str} {q : Addr} {py : Pos} {mm : γ}
end
section
variable {Y : DX} {s : DSt} {e a b c : Expr} {pos p lpos : Pos} {α β γ : Type} [Enc α] [Enc β] {put : γ → DSt} {body : Expr} {scope : Scope} {x : Str} {tg : Expr} {sts : List Stmt} {D : DE} {p2 : Pos}
end
end Sp
set_option maxHeartbeats 4000000
namespace Sp
open PySem L2
open PySem.W (Datum DatumOrd SomeDatum)
section
variable {Y : DX} {s : DSt} {e a b c : Expr} {r : List Expr} {pos p : Pos} {γ : Type} {put : γ → DSt} {sts : List Stmt} {D : DE}
end
def EvI (Y : DX) (s : DSt) (e : Expr) (γ : Type) [Ob γ] (W : (γ → Prop) → Prop) : Prop := ∀ k : γ → Prop, W k → Ev Y s e fun A s' => ∃ q m, A = raw (.ref q) ∧ s' = ⟨s.ρ, (q, obc Y.X.K m) :: s.gs⟩ ∧ k m
section
variable {Y : DX} {s : DSt} {e a b c : Expr} {es : List Expr} {pos p : Pos} {τ α γ : Type} [Ags τ] [Enc α] [og : Ob γ] {G0 : Gs → Prop} {E : Ex → Prop} {V : (τ → Prop) → Prop} {ps : List Str} {j : Nat} {sts : List Stmt} {D : DE} {x : Str} {p2 : Pos} {tg : Expr}
theorem ev_makeI {Q : Pv → DSt → Prop} {C : Addr} {dd : DSp} (G : Mkr Y.X.prog Y.X.w Y.X.K Y.X.mg Y.X.base Y.T j x C ps dd) (ok : YOk Y) (hj : j + 1 ≤ Y.k) (hg : Gl Y.X x)
    (h : Evs Y s (e :: es) fun As s1 => As.length + 1 = ps.length ∧ ∀ q, ∃ gs1 gs2, s1.gs.Perm (gs1 ++ gs2) ∧ dd (raw (.ref q) :: As) ((q, insc C []) :: gs1)
      (fun A gs' => A = pu () ∧ Q (raw (.ref q)) ⟨s1.ρ, gs' ++ gs2⟩) (fun e gs' => Y.ex e ⟨s1.ρ, gs' ++ gs2⟩))
    (hdb : (x == ("__debug__" : Str)) = false) (he : starEach (e :: es) Y.X.env = (false, eval e Y.X.env) :: starEach es Y.X.env) (hpl : (backTo pos (starEach es Y.X.env)).any (·.1) = false) : Ev Y s (.Call (.Name x p) (e :: es) [] pos) Q := fun F0 σ H F e0 S => by
  obtain ⟨⟨f, fd, F1, M, hb⟩, hm, mono⟩ := G
  refine .of (pe_makeS (E := L2.WE (wxOf Y)) M F1 (ok.room.mono hj) hg hm hb (fun σ => passAt ok.tk σ) pa_wa hdb he hpl) ?_
  refine (h F0 σ H F e0 S).mono fun us H1 ⟨As, s1, F1, e1, r1, S1, hl, k⟩ => ?_
  intro q dx hq hdx hne
  obtain ⟨gs1, gs2, hp, hd⟩ := k q
  have S2 := S1.newF (o := .own q) hdx rfl
  have hq2 : (upd H1 dx (.own q)) q = none := by rw [upd_ne (Ne.symm hne)]; exact hq
  have S3 := S2.newO (o := .ins C dx []) (c := insc C []) hq2 rfl ⟨dx, [], rfl, .nil⟩
  have hp3 : ((q, insc C []) :: s1.gs).Perm (((q, insc C []) :: gs1) ++ gs2) := hp.cons _
  have e2 : Ext F1 (upd F1 dx (.own q)) := Ext.grow (S1.free hdx)
  have sp := sp_call (Q := fun A s' => A = pu () ∧ Q (raw (.ref q)) s') (As := raw (.ref q) :: As) (n := ps.length) (d := dd) (F0 := F0) (e1.trans e2) S3 (.cons rfl (r1.mono e2)) (by rw [List.length_cons]; exact hl) hp3 hd (mono _ _)
  obtain ⟨hlen, As', gs', F', rr, G', d'⟩ := sp
  refine ⟨hlen, As', gs', F', rr, G', mono _ _ _ _ _ _ (fun A g q3 v H' F'' ra G2 st => ?_) (fun e g q3 => q3) d'⟩
  obtain ⟨B, s4, F4, e4, r4, S4, eb, q4⟩ := q3 v H' F'' ra G2 st
  subst eb
  exact ⟨r4, raw (.ref q), _, _, e4, rfl, S4, q4⟩
theorem i_make {w : τ → (γ → Prop) → (Ex → Prop) → Prop} (n : Nat) (ye : YE Y G0 E) (G : Mkr Y.X.prog Y.X.w Y.X.K Y.X.mg Y.X.base Y.T j x (He.ga Y.X.K (Ob.cls γ)) ps (spI Y.X.K w)) (hj : j + 1 ≤ Y.k) (hg : Gl Y.X x) (h : EvA Y s (e :: es) V) (hl : ∀ t : τ, (Ags.pvs t).length + 1 = ps.length) (hn : G0 (s.gs.drop n))
    (hdb : (x == ("__debug__" : Str)) = false := by decide) (he : starEach (e :: es) Y.X.env = (false, eval e Y.X.env) :: starEach es Y.X.env := by exact star_c rfl) (hpl : (backTo pos (starEach es Y.X.env)).any (·.1) = false := by exact star_any rfl) : EvI Y s (.Call (.Name x p) (e :: es) [] pos) γ fun k => V fun t => Cl (w t) k E := fun k ww =>
  ev_makeI G ye.ok hj hg ((h _ ww).mono fun As s1 ⟨t, ea, es, R0, E0, w0, hr, hE⟩ => by
    subst ea es
    refine ⟨hl t, fun q => ⟨[], _, .refl _, q, t, rfl, rfl, R0, E0, w0, fun r qq => ⟨rfl, q, r, rfl, rfl, hr r qq⟩, fun e qq fs => ye.ex e _ ⟨n + 1, ?_⟩ (hE e qq)⟩⟩
    exact hn) hdb he hpl
theorem s_asgI {R : γ → Prop} {W : (γ → Prop) → Prop} (i : Nat) (ok : YOk Y) (hi : Y.X.N[i]? = some x) (he : EvI Y s e γ W) (next : ∀ q m, R m → Ws Y ⟨s.ρ.set i (some (raw (.ref q))), (q, obc Y.X.K m) :: s.gs⟩ sts D) (w : W R)
    (hx : Loc Y.X.env.scope x := by first | exact .inl rfl | exact .inr rfl) (hs : swapsWith e (some (.Name x p2)) pos.line Y.X.env = pure false := by rfl) (hf : Y.X.fn x = true ∨ Y.X.env.scope.names.lookup x = some .local := by first | exact .inl rfl | exact .inr rfl) : Ws Y s (.Assign [.Name x p2] e pos :: sts) D :=
  ws_cons (w1_set i ok hi hx ((he _ w).mono fun A s' ⟨q, m, ea, es, r⟩ => by subst ea es; exact next q m r) hs hf)
end
section
variable {P : Program} {w : World} {K : Frag} {mg : Str → Option Value} {base : Heap} {fa : List He.Fa} {fn : List He.DefD} {tq : TQ} {γ τ ρ : Type} [og : Ob γ] [Ags τ] [Enc ρ]
end
section
variable {Y : DX} {s : DSt} {e o : Expr} {pos : Pos} {f x : Str} {fs : Flds} {C : Addr} {sts : List Stmt} {D : DE} {p2 : Pos} {q : Addr}
end
section
variable {Y : DX} {k : Nat} {scope : Scope}
end
end Sp
set_option maxHeartbeats 4000000
namespace L2
open PySem PySem.Spec PyProof.Rows
section
variable {X : Cx} {es : List Expr} {t : TA} {pos : Pos}
variable {o e : Expr} {to : TE} {name : Str} {apos cpos : Pos} {id : String} {r : V → List V → Hp → VK → Prop}
end
end L2
namespace Sp
open PySem L2
open PySem.W (Datum DatumOrd SomeDatum)
section
variable {X : Cx} {α : Type} [DecidableEq α] [Enc α] [Datum α] [Dat α]
end
section
variable {Y : DX} {s : DSt} {e a b c o : Expr} {es : List Expr} {pos p apos : Pos}
section
variable {δ : Type} [DecidableEq δ] [Enc δ] [Datum δ] [Dat δ] {Wo : (TupN δ → Prop) → Prop} {We : (δ → Prop) → Prop}
end
section
variable {α : Type} [Enc α]
end
end
structure TupK (α : Type) where
  tup : Tup α
deriving DecidableEq
instance {α : Type} [Enc α] : Enc (TupK α) := ⟨fun K F v x => ∃ p vs, v = .ref p ∧ F p = some (.tup vs) ∧ Vs K F vs x.tup.items,
  fun ⟨p, vs, h1, h2, h4⟩ e => ⟨p, vs, h1, e _ _ h2, h4.mono e⟩⟩
instance {α : Type} : Inhabited (TupK α) := ⟨⟨⟨[]⟩⟩⟩
instance {α : Type} [Kk α] : Kt (TupK α) := ⟨fun x => x.tup.items.map Kk.key, fun {a b} h => by
  obtain ⟨⟨a⟩⟩ := a
  obtain ⟨⟨b⟩⟩ := b
  exact congrArg (fun x => TupK.mk (PySem.W.Tup.mk x)) (kk_list h)⟩
instance {α : Type} [Kk α] [Enc α] [KkV α] : KtV (TupK α) := ⟨fun {K F v k} ⟨p, vs, h1, h2, h3⟩ => ⟨p, h1, by rw [h2, vs_keys h3]; rfl⟩,
  fun {K F b k} h => ⟨b, _, rfl, h, keys_vsR k.tup.items⟩⟩
section
variable {Y : DX} {s : DSt} {e a b c o : Expr} {es : List Expr} {pos p apos : Pos} {α : Type} [Enc α]
end
end Sp
set_option maxHeartbeats 4000000
namespace L2
open PySem PySem.Spec PyProof.Rows
section
variable {P : Program} {w : World} {K : PySem.W.Frag} {d : Addr} {o : Obj} {es : Array DictEntry} {ep : Nat}
end
end L2
namespace Sp
open PySem L2
open PySem.W (Datum DatumOrd SomeDatum)
section
variable {Y : DX} {s : DSt} {a tg : Expr} {apos cpos tpos : Pos} {elts : List Expr} {kk : Nat} {κ ν : Type} [DecidableEq κ] [Kt κ] [Enc κ] [KtV κ] [Enc ν]
end
section
variable {Y : DX} {s : DSt} {a : Expr} {pos p : Pos} {α : Type} [Enc α]
end
end Sp
set_option maxHeartbeats 4000000
namespace RY
open PySem PySem.Spec PyProof.Rows RT
section
variable {prog : Program} {w : World} {A : Around} {E : Value → Shared → Prop} {s : Shared} {it : Addr} {fp : List Addr} {n : Nat} {P : Nat → Value → Prop} {St : Nat → Shared → Prop} {T : String} {G : Array GenState → Array GenState → Prop}
end
end RY
namespace Sp
open PySem L2
open PyProof.Rows (Call_ args_cons args_nil len_tuple)
section
variable {X : Cx}
end
section
variable {Y : DX} {s : DSt} {a : Expr} {pos p p2 pos2 : Pos} {α : Type} [Enc α]
end
end Sp
set_option maxHeartbeats 4000000
namespace Sp
open PySem L2 PySem.Calls PyProof.Rows
open PySem.W (Datum DatumOrd SomeDatum EachIs KeyedOut)
section
variable {Y : DX} {s : DSt} {a : Expr} {α κ : Type} [Enc α] [DecidableEq κ] [Enc κ] [DatumOrd κ] [Dat κ] [Srtb κ]
end
end Sp
set_option maxHeartbeats 4000000
namespace L2
open PySem PySem.Spec PyProof.Rows
section
variable {prog : Program} {w : World} {A : Around} {it d : Addr} {es : Array DictEntry} {ep : Nat}
end
end L2
namespace Sp
open PySem L2
open PySem.W (Datum DatumOrd SomeDatum)
section
variable {o : Expr} {p pos apos cpos : Pos}
end
section
variable {Y : DX} {s : DSt} {o : Expr} {p pos apos cpos : Pos} {κ : Type} [DecidableEq κ] [Kt κ]
end
end Sp
set_option maxHeartbeats 4000000
namespace PySem.SeqAt
open PySem PySem.Calls PyProof.Rows PySem.W
section
variable {A : Around} {s : Shared}
end
end PySem.SeqAt
namespace PySem.W
open PySem PySem.Calls PyProof.Rows PySem.SeqAt
section
variable {prog : Program} {w : World} {A : Around} {E : Value → Shared → Prop} {s : Shared}
end
end PySem.W
namespace Sp
open PySem L2 PySem.Calls PyProof.Rows
open PySem.W (Datum DatumOrd SomeDatum KeepsBut EachIs AllAlike Sortable KeyedOut SortsAt)
class Srtg (α : Type) [DecidableEq α] [Datum α] : Prop where
  kd : (∀ a : α, ∃ xs, Datum.toD a = .tuple xs) ∨ ∀ a : α, Datum.toD a ≠ .none ∧ ∀ xs, Datum.toD a ≠ .tuple xs
instance {α : Type} [DecidableEq α] [Datum α] : Srtg (Tup α) := ⟨.inl fun _ => ⟨_, rfl⟩⟩
section
variable {prog : Program} {w : World} {A : Around} {E : Value → Shared → Prop} {s : Shared} {vs : List Value} {kz : List PyData} {f : Value} {a : Addr} {n : Nat} {P : PySem.Fin → Shared → Prop}
end
section
variable {Y : DX} {st : DSt} {σ : L2.St} {H F : Hp} {pins : List (Addr × Obj)} {s : Shared}
end
section
variable {Y : DX} {s : DSt} {a : Expr} {α κ : Type} [Enc α] [DecidableEq κ] [Enc κ] [DatumOrd κ] [Dat κ] [Srtg κ]
end
end Sp
set_option maxHeartbeats 4000000
namespace Sp
open PySem L2
section
variable {X : Cx}
end
section
variable {Y : DX} {s : DSt} {e b : Expr} {pos p2 : Pos} {D : DE} {sts : List Stmt} {x : Str} {q : Addr}
end
section
variable {Y : DX} {s : DSt} {a b tg : Expr} {pos p : Pos}
end
end Sp
set_option maxHeartbeats 4000000
namespace Sp
open PySem L2
inductive LR (α : Type) where
  | fz (xs : List α)
  | rw (a : Addr)
instance {α : Type} : Inhabited (LR α) := ⟨.fz []⟩
instance {α : Type} [Enc α] : Enc (LR α) := ⟨fun K F v x => match x with
  | .fz xs => Enc.rep K F v xs
  | .rw a => v = .ref a, fun {K F F' v x} h e => match x with
  | .fz xs => Enc.mono (α := List α) h e
  | .rw a => h⟩
section
variable {κ α : Type} [DecidableEq κ] [Kk κ] [Enc α]
abbrev frz (m : List (κ × List α)) : List (κ × LR α) := m.map fun p => (p.1, .fz p.2)
end
section
variable {Y : DX} {s : DSt} {o e b : Expr} {pos p2 : Pos} {D : DE} {sts : List Stmt} {x : Str} {q : Addr}
variable {κ α : Type} [DecidableEq κ] [Kk κ] [Enc κ] [KkV κ] [Enc α]
end
end Sp
set_option maxHeartbeats 4000000
namespace Sp
open PySem L2
section
variable {Y : DX} {s : DSt} {a b c tg : Expr} {pos : Pos} {D : DE} {sts : List Stmt}
variable {α β γ : Type} [Enc α] [Enc β] [Enc γ]
end
end Sp
set_option maxHeartbeats 4000000
namespace PySem.W
open PySem PySem.Calls PyProof.Rows
section
variable {prog : Program} {w : World} {A : Around} {E : Value → Shared → Prop} {s : Shared} {vs : List Value}
end
end PySem.W
namespace Sp
open PySem L2
open PySem.W (Datum DatumOrd)
section
variable {X : Cx} {α : Type} [DecidableEq α] [Enc α]
end
section
variable {Y : DX} {s : DSt} {a : Expr} {pos p : Pos}
variable {δ : Type} [DecidableEq δ] [Enc δ] [DatumOrd δ] [Dat δ] {W : (List δ → Prop) → Prop}
end
end Sp
set_option maxHeartbeats 4000000
namespace Sp
open PySem L2
open PySem.W (Datum DatumOrd SomeDatum)
section
variable {κ κ2 ν : Type} [DecidableEq κ] [DecidableEq κ2]
def hop (m : List (κ × List (κ2 × ν))) (k : κ) : List (κ × List (κ2 × ν)) := if (dval m k).isSome = true then m else m ++ [(k, [])]
section
variable [Kk κ2] [Enc ν]
end
end
section
variable {Y : DX} {s : DSt} {o e f a b : Expr} {pos p apos cpos p2 : Pos} {D : DE} {sts : List Stmt} {Q : Pv → DSt → Prop}
variable {κ κ2 ν : Type} [DecidableEq κ] [Kk κ] [Enc κ] [KkV κ] [DecidableEq κ2] [Kk κ2] [Enc κ2] [KkV κ2] [Enc ν]
end
end Sp
set_option maxHeartbeats 4000000
namespace Sp
open PySem L2
open PySem.W (Datum DatumOrd SomeDatum)
instance : Inhabited Rf := ⟨⟨default⟩⟩
section
variable {Y : DX} {s : DSt} {o e f a b : Expr} {es : List Expr} {pos p p2 apos py : Pos} {D : DE} {sts : List Stmt} {C : Addr} {fs : Flds} {q : Addr} {x y m : Str} {ps : List Str} {j : Nat}
theorem ws_frI {γ : Type} [og : Ob γ] [Enc γ] [ObOk γ] {mm : γ} (i g : Nat) (hi : s.ρ[i]? = some (some (raw (.ref q)))) (hg : s.gs[g]? = some (q, insc (He.ga Y.X.K (Ob.cls γ)) (Ob.flds mm))) (h : Ws Y ⟨s.ρ.set i (some (pu mm)), s.gs.eraseIdx g⟩ sts D) : Ws Y s sts D := fun F0 σ H F e0 S => by
  obtain ⟨hF, oo, hoo, _, dx, vs, eo, rv⟩ := S.cell hg
  subst eo
  have S2 := S.freeze hg hoo
  obtain ⟨v, hv, rv'⟩ := S.rep.get hi
  have rv2 : v = .ref q := rv'
  subst rv2
  have S3 := S2.set (A := pu mm) (v := .ref q) (ObOk.eq.mpr ⟨q, dx, vs, rfl, upd_same, rv.mono (Ext.grow hF)⟩) i
  have eσ : σ.set i (some (V.ref q)) = σ := by
    apply List.ext_getElem?
    intro t
    by_cases z : i = t
    · subst z
      rw [List.getElem?_set_self (List.getElem?_eq_some_iff.mp hv).1, hv]
    · rw [List.getElem?_set_ne z]
  rw [eσ] at S3
  exact h F0 σ _ _ (e0.trans (Ext.grow hF)) S3
end
end Sp
set_option maxHeartbeats 4000000
namespace Sp
open PySem L2
open PySem.W (Datum DatumOrd SomeDatum)
inductive ShelfV where
  | mk (next_ones : Dct (List Nat) ShelfV) (ends : Bool) (count : Int)
def ShelfV.next_ones : ShelfV → Dct (List Nat) ShelfV | .mk n _ _ => n
def ShelfV.ends : ShelfV → Bool | .mk _ e _ => e
def ShelfV.count : ShelfV → Int | .mk _ _ c => c
instance : Inhabited ShelfV := ⟨.mk ⟨[]⟩ false 0⟩
abbrev shF (e : Enc ShelfV) (m : ShelfV) : Flds := [("next_ones", @pu _ (@encDct (List Nat) ShelfV _ e) m.next_ones), ("ends", pu m.ends), ("count", pu m.count)]
inductive ShRep : Frag → Hp → V → ShelfV → Prop
  | mk {K : Frag} {F : Hp} {v : V} {m : ShelfV} (e : Enc ShelfV) (he : ∀ K F v m, e.rep K F v m → ShRep K F v m) (h : (insP (He.ga K "Shelf") (shF e m)).rep K F v) : ShRep K F v m
instance encShelf : Enc ShelfV := ⟨ShRep, fun h x => by cases h with | mk e he h => exact .mk e he (Pv.mono _ h x)⟩
instance : Ob ShelfV := ⟨"Shelf", shF encShelf⟩
theorem paired_imp {α β : Type} {R S : α → β → Prop} {xs : List α} {ys : List β} (h : Paired R xs ys) (k : ∀ x y, R x y → S x y) : Paired S xs ys := by
  induction h with
  | nil => exact .nil
  | cons a _ ih => exact .cons (k _ _ a) ih
theorem sh_up {e : Enc ShelfV} (he : ∀ K F v m, e.rep K F v m → ShRep K F v m) {K : Frag} {F : Hp} {v : V} {m : ShelfV} (h : (insP (He.ga K "Shelf") (shF e m)).rep K F v) : (insP (He.ga K "Shelf") (shF encShelf m)).rep K F v := by
  obtain ⟨a, dx, vs, h1, h2, h3⟩ := h
  refine ⟨a, dx, vs, h1, h2, ?_⟩
  cases h3 with
  | cons p t =>
    refine .cons ⟨p.1, ?_⟩ t
    obtain ⟨q, od, kvs, g1, g2, g3⟩ := p.2
    exact ⟨q, od, kvs, g1, g2, paired_imp g3 fun x y r => ⟨r.1, he _ _ _ _ r.2⟩⟩
instance : ObOk ShelfV := ⟨⟨fun h => by cases h with | mk e he h => exact sh_up he h, fun h => .mk encShelf (fun _ _ _ _ h => h) h⟩⟩
mutual
inductive ATr where
  | mk (a d : Addr) (kids : AKs) (ends : Bool) (count : Int)
inductive AKs where
  | nil
  | cons (k : List Nat) (t : ATr) (r : AKs)
end
def ATr.a : ATr → Addr | .mk a _ _ _ _ => a
def ATr.kids : ATr → AKs | .mk _ _ k _ _ => k
mutual
def ATr.val : ATr → ShelfV
  | .mk _ _ ks e c => .mk ⟨AKs.val ks⟩ e c
def AKs.val : AKs → List (List Nat × ShelfV)
  | .nil => []
  | .cons k t r => (k, ATr.val t) :: AKs.val r
end
def AKs.refs : AKs → List (List Nat × Rf)
  | .nil => []
  | .cons k t r => (k, Rf.mk t.a) :: AKs.refs r
abbrev icell (K : Frag) (d : Addr) (e : Bool) (c : Int) : Cell := insc (He.ga K "Shelf") [("next_ones", raw (.ref d)), ("ends", pu e), ("count", pu c)]
mutual
def ATr.cells (K : Frag) : ATr → Gs
  | .mk a d ks e c => (a, icell K d e c) :: (d, dctc (AKs.refs ks)) :: AKs.cells K ks
def AKs.cells (K : Frag) : AKs → Gs
  | .nil => []
  | .cons _ t r => ATr.cells K t ++ AKs.cells K r
end
section
variable {Y : DX} {s : DSt} {e o a b iter tg : Expr} {es : List Expr} {pos p p2 apos cpos : Pos} {D : DE} {sts : List Stmt} {C : Addr} {fs : Flds} {q : Addr} {x f : Str} {ps : List Str} {j : Nat}
end
section
variable {Y : DX} {sts : List Stmt} {ρ : Rho} {σ : St} {De : Ends}
end
end Sp
set_option maxHeartbeats 4000000
namespace Sp
open PySem L2
open PySem.W (Datum DatumOrd SomeDatum)
def AKs.app : AKs → List Nat → ATr → AKs
  | .nil, k, t => .cons k t .nil
  | .cons k0 t0 r, k, t => .cons k0 t0 (AKs.app r k t)
section
variable {Y : DX} {s : DSt} {e o dx : Expr} {apos cpos p2 : Pos} {D : DE} {sts : List Stmt}
end
section
variable {Y : DX} {s : DSt} {e : Expr} {es : List Expr} {pos apos py : Pos} {C : Addr} {fs : Flds} {q : Addr} {y m : Str} {ps : List Str} {j : Nat} {Q : Pv → DSt → Prop}
end
structure WPr where
  fst : Int
  snd : Int
instance : Inhabited WPr := ⟨⟨0, 0⟩⟩
instance : Enc WPr := ⟨fun K F v x => ∃ p, v = .ref p ∧ SqT K F p [.int x.fst, .int x.snd], fun ⟨p, h1, h2⟩ e => ⟨p, h1, sqT_ex2 h2 e⟩⟩
abbrev TgD.w (a : TgD Int) (b : TgD Int) : TgD WPr := ⟨fun K => gTup K 2 (gCons (a.g K) (gCons (b.g K) gNil)), a.ws ++ b.ws, fun v ρ => b.f v.2 (a.f v.1 ρ)⟩
section
variable {Y : DX} {pos : Pos}
end
structure GWs (K : Frag) (mg : Str → Option Value) (x : Str) (vs : List WPr) : Prop where
  at_ : mg x = some (.ref (He.ga K x))
  sq : ∃ ps : List V, (∀ H, SqT K H (He.ga K x) ps) ∧ ∀ F, Vs K F ps vs
section
variable {Y : DX} {s : DSt} {pos : Pos} {x : Str} {vs : List WPr}
end
end Sp
set_option maxHeartbeats 4000000
namespace PySem
namespace ZipS
open Sem (wp)
open Builtin Builtin.Str
section
variable {prog : Program} {w : World} {A : Around} {E : Value → Shared → Prop} {s : Shared}
end
abbrev lIt (a : Addr) : Obj := { cls := .type "list_iterator", data := .fields #[.ref a, .int 0 0] }
abbrev L1 (h : Heap) (a : Addr) : Heap := h.push (lIt a)
abbrev L2 (h : Heap) (a : Addr) (y : Str) (u : Tok) : Heap := (L1 h a).push (sIt y u)
section
variable {prog : Program} {w : World} {A : Around} {E : Value → Shared → Prop} {s : Shared}
end
end ZipS
end PySem
set_option maxHeartbeats 4000000
namespace Sp
open PySem PySem.Spec PyProof.Rows L2
open PySem.W (Datum DatumOrd SomeDatum)
section
variable {Y : DX} {s : DSt} {e a b c o : Expr} {es : List Expr} {pos p tpos : Pos} {α : Type} [Enc α]
end
end Sp
set_option maxHeartbeats 4000000
namespace L2
open PySem PySem.Spec PyProof.Rows
section
variable {P : Program} {w : World} {K : PySem.W.Frag} {d : Addr} {o : Obj} {es : Array DictEntry} {ep : Nat} {tg : Expr}
end
end L2
namespace Sp
open PySem L2
open PySem.W (Datum DatumOrd SomeDatum)
section
variable {Y : DX} {s : DSt} {a tg : Expr} {κ ν : Type} [DecidableEq κ] [Kt κ] [Enc κ] [KtV κ] [Enc ν]
end
end Sp
set_option maxHeartbeats 4000000
namespace Sp
open PySem L2
open PySem.W (Datum DatumOrd SomeDatum)
section
variable {Y : DX} {s : DSt} {e a b c o tg iter elt : Expr} {es ifs : List Expr} {pos p p2 apos : Pos} {α β γ : Type} [Enc α] [Enc β] [Enc γ] {D : DE} {sts : List Stmt} {x y : Str}
end
end Sp
set_option maxHeartbeats 4000000
namespace Sp
open PySem L2
open PySem.W (Datum DatumOrd SomeDatum)
section
variable {Y : DX} {s : DSt} {e o b : Expr} {pos pa ps p2 : Pos} {D : DE} {sts : List Stmt} {C : Addr} {fs : Flds} {q q2 : Addr} {x f : Str} {κ : Type} [DecidableEq κ] [Kk κ] [Enc κ] [KkV κ] {m : List (κ × Int)}
end
end Sp
set_option maxHeartbeats 4000000
namespace Sp
open PySem L2
open PySem.W (Datum DatumOrd SomeDatum)
section
variable {Y : DX} {s : DSt} {e : Expr} {es : List Expr} {pos pn pa apos p2 : Pos} {D : DE} {sts : List Stmt} {C C1 : Addr} {fs fs1 : Flds} {q q1 : Addr} {x f m : Str} {ps : List Str} {j : Nat} {gs1 gs2 : Gs}
end
end Sp
set_option maxHeartbeats 4000000
namespace Sp
open PySem L2
open PySem.W (Datum DatumOrd SomeDatum)
class Own (γ : Type) [Ob γ] where
  Pl : Type
  fl : γ → Pl → Flds
  tl : Frag → γ → Pl → Gs
section
variable {γ τ ρ : Type} [Ob γ] [Own γ] [Ags τ] [Enc ρ]
end
section
variable {Y : DX} {s : DSt} {e a b c o : Expr} {es : List Expr} {pos p apos : Pos} {τ ρ α β γ : Type} [Ags τ] [Enc ρ] [Enc α] [Enc β] [og : Ob γ] [Own γ] {G0 : Gs → Prop} {E : Ex → Prop} {V : (τ → Prop) → Prop} {ps : List Str} {j : Nat} {y m : Str} {q : Addr} {py : Pos} {mm : γ} {front : Gs} {p0 : Own.Pl γ}
end
section
variable {Y : DX} {s : DSt} {e a b c : Expr} {r : List Expr} {pos p lpos : Pos} {α β γ π : Type} [Enc α] [Enc β] {put : γ → π → DSt} {body : Expr} {scope : Scope} {x : Str} {tg : Expr} {sts : List Stmt} {D : DE} {p2 : Pos}
end
section
variable {Y : DX} {s : DSt} {e a b c : Expr} {es : List Expr} {pos p : Pos} {τ α γ : Type} [Ags τ] [Enc α] [og : Ob γ] [Own γ] {G0 : Gs → Prop} {E : Ex → Prop} {V : (τ → Prop) → Prop} {ps : List Str} {j : Nat} {sts : List Stmt} {D : DE} {x : Str} {p2 : Pos} {tg : Expr}
end
end Sp
set_option maxHeartbeats 4000000
namespace Sp
open PySem PySem.Spec L2 PyProof.Rows
open PySem.W (Datum DatumOrd SomeDatum)
def Sec {S γ : Type} (val : S → γ) : Type := {f : γ → S // ∀ v, val (f v) = v}
instance ownShelf : Own ShelfV := ⟨Addr × Sec AKs.val, fun v p => [("next_ones", raw (.ref p.1)), ("ends", pu v.ends), ("count", pu v.count)], fun K v p => (p.1, dctc (p.2.1 v.next_ones.kvs).refs) :: (p.2.1 v.next_ones.kvs).cells K⟩
instance : NoN ShelfV := ⟨fun h e => by obtain ⟨_, _, _, h, _⟩ := (ObOk.eq (γ := ShelfV)).mp h; rw [e] at h; cases h⟩
section
variable {Y : DX} {s : DSt} {e : Expr} {es : List Expr} {α τ : Type} [Enc α] [Ags τ]
end
end Sp
set_option maxHeartbeats 4000000
namespace Sp
open PySem PySem.Spec L2 PyProof.Rows
open PySem.W (Datum DatumOrd SomeDatum)
section
variable {Y : DX} {s : DSt} {e o tg : Expr} {pos p p2 apos ap2 pos2 : Pos} {D : DE} {sts : List Stmt} {x y : Str} {α : Type} [Enc α] {xs ys : List α} {q q2 : Addr}
end
end Sp
set_option maxHeartbeats 4000000
namespace Sp
open PySem PySem.Spec PySem.W PySem.Calls L2 PyProof.Rows
open PySem.W (Datum DatumOrd SomeDatum)
section
variable {X : Cx} {pins : List (Addr × Obj)} {σ : L2.St}
end
section
variable {Y : DX} {s : DSt} {σ : L2.St} {H F0 F : Hp} {α β : Type} [Enc α] [Enc β]
end
section
variable {X : Cx} {e : Expr} {te : TE} {p apos cpos pos : Pos}
end
section
variable {Y : DX} {s : DSt} {e : Expr} {p apos cpos pos : Pos}
end
section
variable {prog : Program} {w : World} {A : Around} {E : Value → Shared → Prop} {s : Shared} {r d : Addr} {es : Array DictEntry} {ep : Nat}
end
section
variable {X : Cx} {e : Expr} {te : TE} {p apos cpos pos : Pos}
end
section
variable {Y : DX} {s : DSt} {e : Expr} {p apos cpos pos : Pos}
end
end Sp
set_option maxHeartbeats 4000000
namespace PySem
namespace ZipS
open Sem (wp)
open Builtin Builtin.Str
section
variable {prog : Program} {w : World} {A : Around} {E : Value → Shared → Prop} {s : Shared}
end
structure ZMade (P1 P2 : Nat → Value → Prop) (lo : Addr) (h : Heap) (as : List Addr) : Prop where
  rise : as.Pairwise (· < ·)
  above : ∀ a ∈ as, lo < a
  pairs : ∀ (j : Nat) (a : Addr), as[j]? = some a → ∃ x y, P1 j x ∧ P2 j y ∧ IsPair h a x y
section
variable {prog : Program} {w : World} {A : Around} {s : Shared} {R : Result → Shared → Prop} {z TI TO i1 i2 l1 l2 S : Addr} {n1 n2 n : Nat} {P1 P2 : Nat → Value → Prop} {S1 S2 : Nat → Heap → Prop}
end
end ZipS
end PySem
namespace Sp
open PySem PySem.Spec PySem.W PySem.Calls L2 PyProof.Rows
open PySem.W (Datum DatumOrd SomeDatum)
section
variable {X : Cx} {a b : Expr} {ta : TA} {p pz pos cpos : Pos}
end
section
variable {Y : DX} {s : DSt} {a b : Expr} {p pz pos cpos : Pos} {α : Type} [Enc α]
end
end Sp
set_option maxHeartbeats 4000000
namespace Sp
open PySem L2
open PySem.W (Datum DatumOrd SomeDatum)
def FpS (X : Cx) (b : Addr) : Prop := b ≠ X.env.locals ∧ b ∉ X.fs ∧ (b ∈ X.ex ∨ X.s_0.heap.objs.size ≤ b) ∧ (∀ x c, X.env.cells.lookup x = some c → c ≠ b) ∧ ∀ p ∈ X.pn, p.1 ≠ b
theorem FpS.ok {X : Cx} {b : Addr} {H : Hp} {pins : List (Addr × Obj)} (f : FpS X b) (h : H b = none) (hp : ∀ p ∈ pins, p.1 ≠ b) : FpOk X pins H b :=
  ⟨h, f.1, f.2.1, f.2.2.1, f.2.2.2.1, fun p q => (List.mem_append.mp q).elim (f.2.2.2.2 p) (hp p)⟩
theorem FpOk.st {X : Cx} {b : Addr} {H : Hp} {pins : List (Addr × Obj)} (f : FpOk X pins H b) : FpS X b := ⟨f.2.1, f.2.2.1, f.2.2.2.1, f.2.2.2.2.1, fun p q => f.2.2.2.2.2 p (List.mem_append_left _ q)⟩
structure GTurns2 {β β1 γ : Type} [Enc β] [Enc β1] [Enc γ] (Y : DX) (k : Nat) (s : DSt) (scope : Scope) (ow : Ow) (vs : List Nat) (tg tg1 iter1 elt : Expr) (g : TG) (ws : List Nat) (f : β → Rho → Rho) (g1 : TG) (ws1 : List Nat) (f1 : β1 → Rho → Rho) (items : List β) (inn : β → List β1) (h : β1 → γ) : Prop where
  tg : ∀ z, TgOk (genYO Y k scope ow z) tg g ws f
  sub : ∀ j ∈ ws, j ∈ vs
  it1 : ∀ z, YOk (genYO Y k scope ow z) → ∀ x ∈ items, EvIt (genYO Y k scope ow z) ⟨f x (wipeR s.ρ vs), s.gs⟩ tg1 iter1 (inn x)
  hs1 : ∀ z x, foldedSetIterable iter1 (genE Y scope z) x = pure x
  tg1 : ∀ z, TgOk (genYO Y k scope ow z) tg1 g1 ws1 f1
  sub1 : ∀ j ∈ ws1, j ∈ vs
  elt : ∀ z, YOk (genYO Y k scope ow z) → ∀ x ∈ items, ∀ y ∈ inn x, EvP (genYO Y k scope ow z) ⟨f1 y (wipeR s.ρ vs), s.gs⟩ elt (pu (h y))
section
variable {Y : DX} {k : Nat} {scope : Scope} {ow : Ow} {z : GCx} {s : DSt} {σ : St} {H F : Hp} {β β1 γ : Type} [Enc β] [Enc β1] [Enc γ] [FlatV γ] [FlatE γ]
end
end Sp
set_option maxHeartbeats 4000000
namespace Sp
open PySem L2
open PySem.W (Datum DatumOrd SomeDatum)
section
variable {Y : DX} {k : Nat} {scope : Scope} {ow : Ow} {z : GCx} {s : DSt} {σ : St} {H F : Hp} {β β1 γ : Type} [Enc β] [Enc β1] [Enc γ] [FlatV γ] [FlatE γ]
end
end Sp
set_option maxHeartbeats 4000000
namespace Sp
open PySem L2
open PySem.W (Datum DatumOrd SomeDatum)
section
variable {Y : DX} {k : Nat} {scope : Scope} {ow : Ow} {z : GCx} {s : DSt} {σ : St} {H F : Hp} {β β1 γ : Type} [Enc β] [Enc β1] [Enc γ] [FlatV γ] [FlatE γ]
end
section
variable {Y : DX} {k : Nat} {scope : Scope} {ow : Ow} {s : DSt} {σ : St} {β β1 γ : Type} [Enc β] [Enc β1] [Enc γ] [FlatV γ] [FlatE γ]
section
variable {Q : Pv → DSt → Prop} {vs ws ws1 : List Nat} {tg elt iter tg1 iter1 : Expr} {g g1 : TG} {f : β → Rho → Rho} {f1 : β1 → Rho → Rho} {items : List β} {inn : β → List β1} {gpos pos p : Pos}
end
end
end Sp
set_option maxHeartbeats 4000000
namespace PySem
namespace SeqAt
open Sem (wp)
open PySem.Calls PyProof.Rows F
end SeqAt
end PySem
namespace Sp
open PySem PySem.Spec L2 PyProof.Rows
open PySem.W (Datum DatumOrd SomeDatum)
instance {κ ν : Type} [Kt κ] [Enc ν] : NoN (DcT κ ν) := ⟨fun h e => by obtain ⟨_, _, _, h1, _⟩ := h; rw [e] at h1; cases h1⟩
section
variable {X : Cx}
end
section
variable {Y : DX} {s : DSt} {a : Expr} {p2 : Pos} {α : Type} [Enc α]
end
end Sp
namespace Sp
open PySem L2
end Sp
set_option maxHeartbeats 4000000
namespace Sp
open PySem PySem.Spec L2 PyProof.Rows
structure WPT (X : Cx) (st : Stmt) (σ : L2.St) (H : Hp) (D : Ends) : Prop where
  run : ∀ (pins : List (Addr × Obj)) (s : Shared), 1 ≤ s.toks → Inv X pins σ H s → wpAny (model X.prog X.w) X.A (exec st X.env) (SP X pins D) X.xe s
def W1T (Y : DX) (s : DSt) (st : Stmt) (D : DE) : Prop := ∀ F0 σ H F, Ext F0 F → Sta Y s σ H F → WPT Y.X st σ H (D.to Y F0)
section
variable {Y : DX} {s : DSt} {tg iter : Expr} {st : Stmt} {sts : List Stmt} {D : DE} {pos : Pos}
theorem wsT_of (h : Ws Y s sts D) : WsT Y s sts D := fun F0 σ H F e0 S => ⟨fun pins sh _ I => (h F0 σ H F e0 S).run pins sh I⟩
theorem w1T_of (h : W1 Y s st D) : W1T Y s st D := fun F0 σ H F e0 S => ⟨fun pins sh _ I => (h F0 σ H F e0 S).run pins sh I⟩
theorem wsT_cons (h : W1T Y s st { D with nx := fun s' => WsT Y s' sts D }) : WsT Y s (st :: sts) D := fun F0 σ H F e0 S => ⟨fun pins sh h0 I => by
  have q := (h F0 σ H F e0 S).run pins sh h0 I
  refine wpAny_execs_cons (wpAny_mono (PySem.wpAny_toks_of h0 q) (fun f s1 ⟨h1, z⟩ => ?_) fun _ _ z => z.2)
  cases f with
  | next =>
    obtain ⟨σ', H', J, s2, F2, e2, S2, w⟩ := z
    exact (w F0 σ' H' F2 e2 S2).run pins s1 h1 J
  | brk => exact z
  | cont => exact z
  | ret u => exact z⟩
theorem w1_of_ws (h : Ws Y s [st] D) : W1 Y s st D := fun F0 σ H F e0 S => ⟨fun pins sh I => by
  have q := (h F0 σ H F e0 S).run pins sh I
  intro Γ p hΓ
  have q := q Γ p hΓ
  rw [execs_cons, Sem.wp_bind'] at q
  refine Sem.wp_mono _ Γ _ (fun f p' s' h' => ?_) (fun _ _ _ h' => h') _ _ q
  cases f <;> exact h'⟩
theorem wsT_step (h : Ws Y s [st] { D with nx := fun s' => WsT Y s' sts D }) : WsT Y s (st :: sts) D := wsT_cons (w1T_of (w1_of_ws h))
theorem pst_forT {X : Cx} {body : List Stmt} {wi : TI} {g : TG} {tb : TS} (hp : PassesOwn (model X.prog X.w) X.A X.env X.xe) (hc : X.calm = true) (hi : PI X tg iter wi) (hg : PG X tg g) (hb : PSsT X body tb) (hs : ∀ x, foldedSetIterable iter X.env x = pure x) : PST X (.For tg iter body [] pos) (tFor wi g tb) := by
  intro pins s σ H D h0 I h
  refine wpAny_For (wpAny_mono (PySem.wpAny_toks_of h0 (hi.run pins s σ H _ I h)) (fun v s1 ⟨k1, h1⟩ => wpAny_mono (PySem.wpAny_toks_of k1 h1) (fun itv s2 ⟨k2, h2⟩ => ?_) fun _ _ z => z.2) fun _ _ z => z.2) hs
  obtain ⟨it, fp, tn, J, H2, e, I2, T, st2, f2, W, ⟨m0, w0⟩, turn⟩ := h2
  subst e
  have stat : ∀ {H' : Hp}, (∀ b ∈ fp, H' b = none) → ∀ b ∈ fp, FpOk X pins H' b := fun hn b hb => ⟨hn b hb, (f2 b hb).2⟩
  refine codeAny_forLoop_any (fun n s' => 1 ≤ s'.toks ∧ ∃ i σ' H', Inv X pins σ' H' s' ∧ tn i s'.heap ∧ (∀ b ∈ fp, H' b = none) ∧ W i n σ' H') ?_ m0 ⟨k2, 0, σ, H2, I2, st2, fun b hb => (f2 b hb).1, w0⟩
  rintro n s3 ⟨k3, i, σ3, H3, I3, st3, fr3, w3⟩
  rcases turn i n σ3 H3 w3 with ⟨stop, qn⟩ | ⟨go, N, hN, step⟩
  · refine wpAny_passesOwn hp (thn (T.done X rfl rfl rfl hc i pins s3 σ3 H3 X.xe I3 (stat fr3) st3 stop) fun r s4 ⟨hr, I4⟩ => ?_)
    subst hr
    exact wpAny_execs_nil ⟨σ3, H3, I4, qn⟩
  · refine wpAny_passesOwn hp (wpAny_mono (PySem.wpAny_toks_of k3 (T.item X rfl rfl rfl hc i pins s3 σ3 H3 X.xe I3 (stat fr3) st3 go)) (fun r s4 ⟨k4, u, hr, h4⟩ => ?_) fun _ _ z => z.2)
    subst hr
    refine wpAny_passesOwn hp (wpAny_mono (PySem.wpAny_toks_of k4 h4) (fun _ s5 ⟨k5, x, H5, I5, r5, y5, st5, fr5⟩ => ?_) fun _ _ z => z.2)
    have I5' := I5.pinned (stat fr5) (T.obj _ _ st5)
    refine wpAny_passesOwn hp (wpAny_mono (PySem.wpAny_toks_of k5 (hg.run _ s5 σ3 H5 x u _ I5' r5 (step x H5 y5))) (fun _ s6 ⟨k6, σ6, H6, I6, q6⟩ => ?_) fun _ _ z => z.2)
    refine wpAny_passesOwn hp (wpAny_mono (PySem.wpAny_toks_of k6 (hb _ s6 σ6 H6 _ k6 I6 q6)) (fun f s7 ⟨k7, q7⟩ => ?_) fun _ _ z => z.2)
    have again : ∀ {σ7 : L2.St} {H7 : Hp}, Inv X (pins ++ pinsAt fp s5.heap) σ7 H7 s7 → N σ7 H7 → ∃ m, m < n ∧ (1 ≤ s7.toks ∧ ∃ i σ' H', Inv X pins σ' H' s7 ∧ tn i s7.heap ∧ (∀ b ∈ fp, H' b = none) ∧ W i m σ' H') := fun {σ7 H7} I7 n7 => by
      obtain ⟨m', hm, w7⟩ := hN σ7 H7 n7
      refine ⟨m', hm, k7, i + 1, σ7, H7, I7.unpinned, T.keep _ _ _ st5 fun b hb o e => (I7.pin (b, o) (List.mem_append_right _ (List.mem_append_right _ (mem_pinsAt hb e)))).1, fun b hb => ?_, w7⟩
      obtain ⟨o, e, d⟩ := T.obj _ _ st5 b hb
      exact (I7.pin (b, o) (List.mem_append_right _ (List.mem_append_right _ (mem_pinsAt hb e)))).2.1
    cases f with
    | next => obtain ⟨σ7, H7, I7, n7⟩ := q7; exact again I7 n7
    | cont => obtain ⟨σ7, H7, I7, n7⟩ := q7; exact again I7 n7
    | brk => obtain ⟨σ7, H7, I7, q7⟩ := q7; exact ⟨σ7, H7, I7.unpinned, q7⟩
    | ret v => obtain ⟨x7, σ7, H7, I7, r7, q7⟩ := q7; exact ⟨x7, σ7, H7, I7.unpinned, r7, q7⟩
end
end Sp
set_option maxHeartbeats 4000000
namespace Sp
open PySem PySem.Spec L2 PyProof.Rows
theorem thnT {α : Type} {t : Sem α} {Q Q' : α → Shared → Prop} {M : Model} {A : Around} {E : Value → Shared → Prop} {s : Shared} (k : 1 ≤ s.toks) (h : wpAny M A t Q (fun _ _ => False) s) (f : ∀ a s', 1 ≤ s'.toks → Q a s' → Q' a s') : wpAny M A t Q' E s :=
  wpAny_mono (PySem.wpAny_toks_of k h) (fun a s' z => f a s' z.1 z.2) fun _ _ z => z.2.elim
theorem thnE {α : Type} {t : Sem α} {Q Q' : α → Shared → Prop} {M : Model} {A : Around} {E : Value → Shared → Prop} {s : Shared} (k : 1 ≤ s.toks) (h : wpAny M A t Q E s) (f : ∀ a s', 1 ≤ s'.toks → Q a s' → Q' a s') : wpAny M A t Q' E s :=
  wpAny_mono (PySem.wpAny_toks_of k h) (fun a s' z => f a s' z.1 z.2) fun _ _ z => z.2
def PTsT (X : Cx) (ifs : List Expr) (t : TT) : Prop := ∀ (pins : List (Addr × Obj)) (s : Shared) (σ : L2.St) (H : Hp) (Q : Bool → Hp → Prop), 1 ≤ s.toks → Inv X pins σ H s → t σ H Q →
  wpAny (model X.prog X.w) X.A (forIn ifs true fun c r => if r = true then do let ok ← isTrue c X.env (eval c X.env); pure (ForInStep.yield ok) else pure (ForInStep.yield r)) (TP X pins σ Q) X.xe s
section
variable {X : Cx} {σ : L2.St} {H : Hp} {s : Shared} {pins : List (Addr × Obj)}
theorem lcT {Q : VK} {elt tg iter : Expr} {ifs : List Expr} {scope : Scope} {own : List (Str × Nat)} {pos pos' : Pos} {wi : TI} {g : TG} {tt : TT} {te : TE} {use : Option (Value → Sem Unit)} {Qf : Value → Shared → Prop} (h0 : 1 ≤ s.toks)
    (hc : X.calm = true) (hN : X.N.Nodup) (I : Inv X pins σ H s) (hi : PI X tg iter wi) (ok : BlkOk X.N X.env.scope scope own)
    (hg : ∀ (s : Shared) (H : Hp) (C : Addr) (cl : List (Str × Addr)) (fp : List Addr), PG (X.blk s H scope (compEnvC scope cl C X.env) fp) tg g) (ht : ∀ (s : Shared) (H : Hp) (C : Addr) (cl : List (Str × Addr)) (fp : List Addr), PTsT (X.blk s H scope (compEnvC scope cl C X.env) fp) ifs tt)
    (he : ∀ (s : Shared) (H : Hp) (C : Addr) (cl : List (Str × Addr)) (fp : List Addr), PET (X.blk s H scope (compEnvC scope cl C X.env) fp) elt te) (hs : ∀ x, foldedSetIterable iter X.env x = pure x)
    (h : tLc wi g tt te (own.map (·.2)) σ H Q)
    (hRR : ∀ D C s' m H', 1 ≤ s'.toks → Inv X pins σ H' s' → Q (.ref D) H' → s'.heap.Ns C m → FpOk X pins H' C → compPost (model X.prog X.w) X.A X.xe use Qf (.ref D) C (.ok .next) s') :
    wpAny (model X.prog X.w) X.A (comprehension (.ListComp elt [⟨tg, iter, ifs, 0⟩] scope pos) scope X.env pos' (newList []) false (eval iter X.env) use) Qf X.xe s := by
  have frees : ∀ y ∈ scope.names, y.2 = .free → ∃ c, X.env.cells.lookup y.1 = some c := fun y hy e => (ok.free y hy e).elim (fun k => I.ok.has _ (.inl k)) fun k => I.ok.has _ (.inr k)
  refine wpAny_comprehension_free (use := use) rfl hs (closure_ok frees) ok.kind (fun y hy e => by rw [ok.uniq y hy, e]) (thnE h0 (hi.run pins s σ H _ I h) fun xv s1 k1 hx => thnE k1 hx fun itv s2 k2 h2 => ?_)
  obtain ⟨it, fp, tn, J, H2, e, I2, T, st2, f2, q⟩ := h2
  subst e
  refine wpAny_newObj_type (newEnv_comp ?_) (by show 0 ≤ sizeLine; decide)
  generalize hD : s2.heap.objs.size = D
  have hDn : H2 D = none := I2.hok.fresh (Nat.le_of_eq hD)
  obtain ⟨W, ⟨m0, w0⟩, turn⟩ := q D hDn
  generalize hs3 : ({ s2 with heap := s2.heap.push { cls := .type "list", data := .seq ([] : List Value).toArray } } : Shared) = s3
  have k3 : 1 ≤ s3.toks := by rw [← hs3]; exact k2
  have I3 : Inv X pins σ (upd H2 D (.lst [])) s3 := by
    rw [← hs3]
    refine I2.laid (t' := s2.toks) (fun b o e => Heap.get?_push_of_some _ e) (Nat.le_of_eq hD) ⟨Nat.zero_le _, [], 0, .nil, ?_⟩
    rw [← hD]
    exact Heap.get?_push_size _ rfl
  have h3 : s3.heap = s2.heap.push { cls := .type "list", data := .seq ([] : List Value).toArray } := by rw [← hs3]
  have sz : ∀ b ∈ fp, b < s2.heap.objs.size := fun b hb => let ⟨o, e, _⟩ := T.obj _ _ st2 b hb; Heap.lt_size e
  have f3 : ∀ b ∈ fp, FpOk X pins (upd H2 D (.lst [])) b ∧ b < s3.heap.objs.size := fun b hb => by
    have hlt := sz b hb
    refine ⟨⟨?_, (f2 b hb).2⟩, by rw [h3, Heap.size_push]; exact Nat.lt_succ_of_lt hlt⟩
    rw [upd_ne (by rw [← hD]; exact Nat.ne_of_lt hlt)]
    exact (f2 b hb).1
  have st3 : tn 0 s3.heap := T.keep _ _ _ st2 fun b _ o e => by rw [h3]; exact Heap.get?_push_of_some _ e
  have I4 := block_start I3 ok hN f3
  have pg := hg s3 (upd H2 D (.lst [])) s3.heap.objs.size (cellsFrom (s3.heap.objs.size + 1) scope.names (cloFrom X.env.cells scope.names [])) fp
  have pt := ht s3 (upd H2 D (.lst [])) s3.heap.objs.size (cellsFrom (s3.heap.objs.size + 1) scope.names (cloFrom X.env.cells scope.names [])) fp
  have pe := he s3 (upd H2 D (.lst [])) s3.heap.objs.size (cellsFrom (s3.heap.objs.size + 1) scope.names (cloFrom X.env.cells scope.names [])) fp
  show codeAny _ _ (.compStart (.ListComp elt [⟨tg, iter, ifs, 0⟩] scope pos) 0 (.ref it) (.ref D) (compEnvC scope (cellsFrom (s3.heap.objs.size + 1) scope.names (cloFrom X.env.cells scope.names [])) s3.heap.objs.size X.env)) (compPost (model X.prog X.w) X.A X.xe use Qf (.ref D) s3.heap.objs.size) { s3 with heap := pushCells (s3.heap.push { cls := .type "dict", data := .dict #[] }) scope.names }
  have nfp : ∀ b ∈ fp, (upd H2 D (.lst [])) b = none := fun b hb => (f3 b hb).1.1
  generalize hce : compEnvC scope (cellsFrom (s3.heap.objs.size + 1) scope.names (cloFrom X.env.cells scope.names [])) s3.heap.objs.size X.env = ce at I4 pg pt pe ⊢
  have cL : ce.locals = s3.heap.objs.size := by subst hce; rfl
  generalize hH3 : upd H2 D (.lst []) = H3 at I3 I4 pg pt pe w0 nfp f3
  generalize hs4 : ({ s3 with heap := pushCells (s3.heap.push { cls := .type "dict", data := .dict #[] }) scope.names } : Shared) = s4 at I4 ⊢
  have k4 : 1 ≤ s4.toks := by rw [← hs4]; exact k3
  have st4 : tn 0 s4.heap := T.keep _ _ _ st3 fun b _ o e => by rw [← hs4]; exact pushCells_keeps _ _ _ _ (Heap.get?_push_of_some _ e)
  have stat : ∀ {σ' : L2.St} {H' : Hp} {s' : Shared}, Inv (X.blk s3 H3 scope ce fp) [] σ' H' s' → (∀ b ∈ fp, H' b = none) → ∀ b ∈ fp, FpOk (X.blk s3 H3 scope ce fp) [] H' b := fun {σ' H' s'} I' hn b hb =>
    ⟨hn b hb, (I'.ok.exf b hb).1, I'.ok.exfs b hb, .inl hb, fun x c e => (I'.ok.exf b hb).2 x c e, fun p hp => absurd (show p ∈ ([] : List (Addr × Obj)) ++ [] from hp) (by simp)⟩
  have loop : codeAny (model X.prog X.w) X.A (.compLoop (.ListComp elt [⟨tg, iter, ifs, 0⟩] scope pos) 0 (.ref it) (.ref D) ce) (compPost (model X.prog X.w) X.A X.xe use Qf (.ref D) s3.heap.objs.size) s4 := by
    refine compLoop_any (fun n s' => 1 ≤ s'.toks ∧ ∃ i H', Inv (X.blk s3 H3 scope ce fp) [] (wipe σ (own.map (·.2))) H' s' ∧ tn i s'.heap ∧ (∀ b ∈ fp, H' b = none) ∧ W i n H') ?_ m0 ⟨k4, 0, H3, I4, st4, nfp, w0⟩
    rintro n s5 ⟨k5, i, H5, I5, st5, n5, w5⟩
    rcases turn i n H5 w5 with ⟨stop, qq⟩ | ⟨go, Nx, hNx, step⟩
    · refine thnT k5 (T.done (X.blk s3 H3 scope ce fp) rfl rfl rfl hc i [] s5 _ H5 (fun _ _ => False) I5 (stat I5 n5) st5 stop) fun r s6 k6 ⟨hr, I6⟩ => ?_
      subst hr
      have I7 : Inv X pins σ H5 s6 := I3.call' (ch := fp) I6.os I6.base I6.hok I6.bare fun b hb => ⟨(f3 b hb).1.2.2.2.1, (f3 b hb).1.2.1, (f3 b hb).1.2.2.2.2.1, (f3 b hb).1.2.2.2.2.2⟩
      have nC : H5 s3.heap.objs.size = none := by
        have z : H5 ce.locals = none := I6.free
        rw [cL] at z
        exact z
      obtain ⟨m, hn, _⟩ := I6.loc
      have hn : s6.heap.Ns ce.locals m := hn
      rw [cL] at hn
      exact hRR D s3.heap.objs.size s6 m H5 k6 I7 qq hn (I3.fpOk (Nat.le_refl _) nC)
    · refine thnT k5 (T.item (X.blk s3 H3 scope ce fp) rfl rfl rfl hc i [] s5 _ H5 (fun _ _ => False) I5 (stat I5 n5) st5 go) fun r s6 k6 ⟨u, hr, h6⟩ => ?_
      subst hr
      refine thnT k6 h6 fun _ s7 k7 ⟨x, H7, I7, r7, y7, st7, n7⟩ => ?_
      have I7' := I7.pinned (stat I7 n7) (T.obj _ _ st7)
      refine thnT k7 (pg.run _ s7 _ H7 x u _ I7' r7 (step x H7 y7)) fun _ s8 k8 ⟨σ8, H8, I8, hw8, q8⟩ => ?_
      refine thnT k8 (pt _ s8 σ8 H8 _ k8 I8 q8) fun b s9 k9 ⟨H9, I9, q9⟩ => ?_
      have fin : ∀ {s' : Shared} {H' : Hp}, 1 ≤ s'.toks → Inv (X.blk s3 H3 scope ce fp) ([] ++ pinsAt fp s7.heap) σ8 H' s' → Nx H' → ∃ m, m < n ∧ (1 ≤ s'.toks ∧ ∃ i H', Inv (X.blk s3 H3 scope ce fp) [] (wipe σ (own.map (·.2))) H' s' ∧ tn i s'.heap ∧ (∀ b ∈ fp, H' b = none) ∧ W i m H') := fun {s' H'} k' I' nx => by
        obtain ⟨m', hm, w'⟩ := hNx H' nx
        have pin' : ∀ b ∈ fp, ∀ o, s7.heap.get? b = some o → s'.heap.get? b = some o ∧ H' b = none := fun b hb o e =>
          let z := I'.pin (b, o) (List.mem_append_right _ (List.mem_append_right _ (mem_pinsAt hb e)))
          ⟨z.1, z.2.1⟩
        have hl : (wipe σ (own.map (·.2))).length = σ8.length := by rw [← hw8, wipe_length]
        refine ⟨m', hm, k', i + 1, H', (I'.unpinned (pins := [])).weak hl (fun j v e => ?_), T.keep _ _ _ st7 fun b hb o e => (pin' b hb o e).1, fun b hb => ?_, w'⟩
        · rw [← hw8] at e
          exact (wipe_some e).1
        · obtain ⟨o, e, _⟩ := T.obj _ _ st7 b hb
          exact (pin' b hb o e).2
      cases b with
      | false =>
        simp only [Bool.false_eq_true, if_false] at q9 ⊢
        exact fin k9 I9 q9
      | true =>
        simp only [if_true] at q9 ⊢
        refine thnT k9 (pe _ s9 σ8 H9 _ k9 I9 q9) fun z s10 k10 ⟨yv, H10, I10, r10, acc, hD10, hz10, nx⟩ => ?_
        refine wpAny_mono (PySem.wpAny_toks_of k10 (app_ok (X := X.blk s3 H3 scope ce fp) (E := fun _ _ => False) (Q := fun _ s' => Inv (X.blk s3 H3 scope ce fp) ([] ++ pinsAt fp s7.heap) σ8 (upd H10 D (.lst (acc ++ [yv]))) s') I10 hD10 hz10 r10 fun s11 I11 => I11)) (fun _ s' z => fin z.1 z.2 nx) fun _ _ z => z.2.elim
  exact codeAny_compStart_list loop (T.self X.A 0 _ _ _ st4 loop)
end
end Sp
set_option maxHeartbeats 4000000
namespace Sp
open PySem PySem.Spec L2 PyProof.Rows
open PySem.W (Datum DatumOrd SomeDatum)
def Evz (Y : DX) (s : DSt) (e : Expr) (Q : Pv → DSt → Prop) : Prop := ∀ F0 σ H F, Ext F0 F → Sta Y s σ H F → WET Y.X e σ H (Po Y σ F0 Q)
def EvCz (Y : DX) (s : DSt) (e : Expr) {α : Type} [Enc α] (W : (α → Prop) → Prop) : Prop := ∀ k : α → Prop, W k → Evz Y s e fun A s' => ∃ x, A = pu x ∧ s' = s ∧ k x
def EvLz (Y : DX) (s : DSt) (e : Expr) {α : Type} [Enc α] (W : (List α → Prop) → Prop) : Prop := ∀ k : List α → Prop, W k → Evz Y s e fun A s' => ∃ xs, DL Y s A xs ∧ s' = s ∧ k xs
def EvTz (Y : DX) (s : DSt) (c : Expr) (W : (Bool → Prop) → Prop) : Prop := ∀ k : Bool → Prop, W k → EtT Y s c fun b s' => s' = s ∧ k b
def WAT (X : Cx) (es : List Expr) (σ : L2.St) (H : Hp) (Q : List V → Hp → Prop) : Prop := ∀ (pos : Pos) (pins : List (Addr × Obj)) (s : Shared), 1 ≤ s.toks → Inv X pins σ H s → wpAny (model X.prog X.w) X.A (spliced (backTo pos (starEach es X.env))) (AP X pins σ Q) X.xe s
def EvAz (Y : DX) (s : DSt) (es : List Expr) {τ : Type} [Ags τ] (W : (τ → Prop) → Prop) : Prop := ∀ k : τ → Prop, W k → ∀ F0 σ H F, Ext F0 F → Sta Y s σ H F → WAT Y.X es σ H fun vs H' => ∃ F' t, Ext F0 F' ∧ Rvs Y.X.K F' vs (Ags.pvs t) ∧ Sta Y s σ H' F' ∧ k t
theorem WET.mono {X : Cx} {e : Expr} {σ : L2.St} {H : Hp} {Q Q' : VK} (h : WET X e σ H Q) (k : ∀ v H', Q v H' → Q' v H') : WET X e σ H Q' := fun pins s h0 I => thn (h pins s h0 I) fun _ _ ⟨v, H', J, r, q⟩ => ⟨v, H', J, r, k v H' q⟩
theorem WAT.mono {X : Cx} {es : List Expr} {σ : L2.St} {H : Hp} {Q Q' : List V → Hp → Prop} (h : WAT X es σ H Q) (k : ∀ v H', Q v H' → Q' v H') : WAT X es σ H Q' := fun pos pins s h0 I => thn (h pos pins s h0 I) fun _ _ ⟨v, H', J, r, q⟩ => ⟨v, H', J, r, k v H' q⟩
section
variable {Y : DX} {s : DSt} {e a b c o : Expr} {es : List Expr} {pos p apos : Pos} {τ ρ α β γ : Type} [Ags τ] [Enc ρ] [Enc α] [Enc β] {G0 : Gs → Prop} {E : Ex → Prop} {Vt : (τ → Prop) → Prop} {ps : List Str} {j : Nat}
theorem cz_of {W : (α → Prop) → Prop} (h : EvC Y s e W) : EvCz Y s e W := fun k w F0 σ H F e0 S => wet_of (h k w F0 σ H F e0 S)
theorem lz {W : (List α → Prop) → Prop} (h : EvCz Y s e W) : EvLz Y s e W := fun k w F0 σ H F e0 S => (h _ w F0 σ H F e0 S).mono fun v H' ⟨A, s', F', e1, r, S', x, ea, es, kx⟩ => ⟨A, s', F', e1, r, S', x, by subst ea es; exact .pu, es, kx⟩
theorem az_of {W : (τ → Prop) → Prop} (h : EvA Y s es W) : EvAz Y s es W := fun k w F0 σ H F e0 S => WAT.mono (Q := _) (fun pos pins sh _ I => (h k w F0 σ H F e0 S).run pos pins sh I) fun vs H' ⟨As, s', F', e1, r, S', t, ea, es, q⟩ => by subst ea es; exact ⟨F', t, e1, r, S', q⟩
theorem az_cons {W : (α → Prop) → Prop} {V : (τ → Prop) → Prop} (h : EvCz Y s e W) (hs : EvAz Y s es V) (he : starEach (e :: es) Y.X.env = (false, eval e Y.X.env) :: starEach es Y.X.env := by exact star_c rfl) : EvAz Y s (e :: es) (τ := α × τ) fun k => W fun x => V fun t => k (x, t) := fun k w F0 σ H F e0 S => by
  intro pos pins sh h0 I
  rw [he]
  show wpAny _ _ (spliced ((false, eval e Y.X.env) :: backTo pos (starEach es Y.X.env))) _ _ sh
  refine Calls.spliced_cons (thnE h0 (h _ w F σ H F (.refl _) S pins sh h0 I) fun v s1 k1 ⟨x, H1, I1, r1, A, s', F1, e1, ra, S1, u, ea, es', w1⟩ => ?_)
  subst ea es'
  exact thn (hs _ w1 F1 σ H1 F1 (.refl _) S1 pos pins s1 k1 I1) fun us s2 ⟨xs, H2, I2, r2, F2, t, e2, rv, S2, q⟩ => ⟨x :: xs, H2, I2, .cons r1 r2, F2, (u, t), (e0.trans e1).trans e2, .cons ((pu u).mono ra e2) rv, S2, q⟩
theorem cz_repl {y z : Str} {j0 k0 : Nat} {c0 c1 : Pos} {W : (Txt → Prop) → Prop} (ho : EvC Y s o W) (hyz : (y == z) = false := by decide)
    (hst : starEach [.Constant (.str y) j0 c0, .Constant (.str z) k0 c1] Y.X.env = [(false, eval (.Constant (.str y) j0 c0) Y.X.env), (false, eval (.Constant (.str z) k0 c1) Y.X.env)] := by rfl)
    (hbase : attributeBase o "replace" Y.X.env (eval o Y.X.env) = eval o Y.X.env := by rfl) (hline : (apos.endLine == pos.line) = true := by rfl) :
    EvCz Y s (.Call (.Attribute o "replace" apos) [.Constant (.str y) j0 c0, .Constant (.str z) k0 c1] [] pos) fun k => W fun v => RpOk v (tx z) ∧ k (replT v (tx y) (tx z)) := fun k w F0 σ H F e0 S pins sh h0 I => by
  refine CwR.pet_replC (X := Y.X) (to := WE Y.X o) pe_we hyz hst hbase hline pins sh σ H _ h0 I ((ho _ w F0 σ H F e0 S).mono fun v H1 ⟨A, s', F1, e1, r1, S1, u, ea, es, w1, w2⟩ => ?_)
  subst ea es
  have hz' : u.length + (u.length + 1) * (tx z).length ≤ 16777216 := w1
  refine ⟨toStr u, r1, ?_, pu (replT u (tx y) (tx z)), s', F1, e1, ?_, S1, _, rfl, rfl, w2⟩
  · rw [toStr_len, show z.length = (tx z).length by simp [tx, Str.length]]
    exact hz'
  · show V.str _ = V.str (toStr (replT u (tx y) (tx z)))
    rw [toStr_replT, toStr_tx, toStr_tx]
theorem tz_ne {δ : Type} [DecidableEq δ] [Enc δ] [Datum δ] [Dat δ] {Wa Wb : (δ → Prop) → Prop} (ok : YOk Y) (ha : EvCz Y s a Wa) (hb : EvC Y s b Wb) (hd : Datum.depth δ ≤ 60 := by decide) : EvTz Y s (.Compare a [.NotEq] [b] p) fun k => Wa fun x => Wb fun y => k (decide (x ≠ y)) := fun k w F0 σ H F e0 S => by
  refine wtt_cmp (op_neT (α := δ) ok.room.units hd) (nomark b) ((ha _ w F σ H F (.refl _) S).mono fun v H1 ⟨A, s1, F1, e1, r1, S1, x, ea, es, w1⟩ => ?_)
  subst ea es
  refine wet_of ((hb _ w1 F1 σ H1 F1 (.refl _) S1).mono fun u H2 ⟨B, s2, F2, e2, r2, S2, y, eb, es, w2⟩ => ?_)
  subst eb es
  exact ⟨x, y, Enc.mono (α := δ) (Enc.mono (α := δ) r1 e2) S2.ext, Enc.mono (α := δ) r2 S2.ext, _, rfl, _, F2, (e0.trans e1).trans e2, S2, rfl, w2⟩
theorem cz_call {w : τ → (ρ → Prop) → (Ex → Prop) → Prop} {x : Str} (n : Nat) (ye : YE Y G0 E) (G : Df Y.X.prog Y.X.w Y.X.K Y.X.mg Y.X.base Y.T j x ps (spF Y.X.K w)) (hj : j ≤ Y.k) (hg : Gl Y.X x) (h : EvAz Y s (e :: es) Vt) (hl : ∀ t : τ, (Ags.pvs t).length = ps.length) (hn : G0 (s.gs.drop n))
    (hdb : (x == ("__debug__" : Str)) = false := by decide) (he : starEach (e :: es) Y.X.env = (false, eval e Y.X.env) :: starEach es Y.X.env := by exact star_c rfl) (hpl : (backTo pos (starEach es Y.X.env)).any (·.1) = false := by exact star_any rfl) : EvCz Y s (.Call (.Name x p) (e :: es) [] pos) fun k => Vt fun t => Cl (w t) k E := fun k ww F0 σ H F e0 S => by
  obtain ⟨⟨f, fd, F1, hm, hk, hb⟩, mono⟩ := G
  intro pins sh h0 I
  refine wpAny_Call_Name_kw (ld_glob I hg hm ?_ hdb)
  refine PySem.W.callWith_K (h₀ := Y.X.base) I.ok.mod.kin hk (thn (h _ ww F0 σ H F e0 S pos pins sh h0 I) fun us s1 ⟨vs, H1, I1, r, F2, t, e2, rv, S2, R0, E0, w0, hr, hE⟩ => ⟨I1.kIn, ?_⟩) he hpl
  refine run_fnS (E := L2.WE (wxOf Y)) F1 (ye.ok.room.mono hj) hb (passAt ye.ok.tk σ) I1 r ?_
  exact sp_call (s := s) (gs1 := []) (gs2 := s.gs) e2 S2 rv (hl t) (.refl _) ⟨t, rfl, rfl, R0, E0, w0, fun r q => ⟨r, rfl, rfl, hr r q⟩, fun e q => ye.ex e _ ⟨n, hn⟩ (hE e q)⟩ (mono _ _)
theorem cz_meth [Ob γ] [Enc γ] [ObOk γ] {m : Str} {Wo : (γ → Prop) → Prop} {w : γ × τ → (ρ → Prop) → (Ex → Prop) → Prop} {pl : Sem Bool} (n : Nat) (ye : YE Y G0 E) (G : Mt Y.X.prog Y.X.w Y.X.K Y.X.mg Y.X.base Y.T j (He.ga Y.X.K (Ob.cls γ)) m ps (spF Y.X.K w)) (c : Cls Y.X.K (He.ga Y.X.K (Ob.cls γ))) (hj : j ≤ Y.k) (ho : EvC Y s o Wo) (h : EvAz Y s (e :: es) Vt) (hl : ∀ t : τ, (Ags.pvs t).length + 1 = ps.length) (hn : G0 (s.gs.drop n))
    (hf : ∀ x : γ, (Ob.flds x).lookup m = none := by intro _; rfl) (hst : starEach (e :: es) Y.X.env = (false, eval e Y.X.env) :: starEach es Y.X.env := by exact star_c rfl) (hpl : (backTo pos (starEach es Y.X.env)).any (·.1) = false := by exact star_any rfl)
    (ht : eval (.Call (.Attribute o m apos) (e :: es) [] pos) Y.X.env = (do
      let ov ← eval o Y.X.env
      standAt apos.atName
      let (f, first) ← holding [ov] (getMethod ov m pl)
      callWith pos f first (backTo pos (starEach (e :: es) Y.X.env)) (backToKw pos (keywordEach [] Y.X.env))) := by rfl) : EvCz Y s (.Call (.Attribute o m apos) (e :: es) [] pos) fun k => Wo fun x => Vt fun t => Cl (w (x, t)) k E := fun k ww F0 σ H F e0 S => by
  obtain ⟨⟨f, fd, F1, hm, hb⟩, mono⟩ := G
  intro pins sh h0 I
  refine PySem.W.methodCall_KW (pl := pl) (thnE h0 ((ho _ ww F σ H F (.refl _) S).run pins sh I) fun u s1 k1 ⟨v, H1, I1, rx, A, s', F1', e1, r1, S1, x, ea, es', ww⟩ => ?_) ht
  subst ea es'
  obtain ⟨a, dx, vs, ev, ha, rf⟩ := ia_ob σ H1 F1' v S1 r1
  subst ev
  obtain rfl : u = Value.ref a := rx
  refine getmeth_ok I1 ha c hm (fr_no rf (hf x)) ?_
  refine PySem.W.callWith_K (first := [.ref a]) (h₀ := Y.X.base) I.ok.mod.kin hm.kp (thn (h _ ww F1' σ H1 F1' (.refl _) S1 pos pins s1 k1 I1) fun us s2 ⟨xs, H2, I2, r, F2, t, e2, rv, S2, R0, E0, w0, hr, hE⟩ => ⟨I2.kIn, ?_⟩) hst hpl
  refine run_fnS (E := L2.WE (wxOf Y)) (us := .ref a :: us) (vs := .ref a :: xs) F1 (ye.ok.room.mono hj) hb (passAt ye.ok.tk σ) I2 (.cons rfl r) ?_
  exact sp_call (gs1 := []) ((e0.trans e1).trans e2) S2 (.cons ((pu x).mono r1 e2) rv) (by rw [List.length_cons]; exact hl t) (.refl _) ⟨(x, t), rfl, rfl, R0, E0, w0, fun r q => ⟨r, rfl, rfl, hr r q⟩, fun e q => ye.ex e _ ⟨n, hn⟩ (hE e q)⟩ (mono _ _)
theorem evz_B1 {x : Str} {id : String} {Q : Pv → DSt → Prop} {r : List V → Hp → VK → Prop} (hc : CallR Y.X (.builtin id) r) (hg : Gl Y.X x) (hm : Y.X.mg x = none) (hv : bootBuiltins x = some (.builtin id))
    (h : Evz Y s a fun A s1 => ∀ F0 σ H F v, Ext F0 F → Sta Y s1 σ H F → A.rep Y.X.K F v → r [v] H (Po Y σ F0 Q)) (hn : x ≠ "__name__" := by decide) (hdb : (x == ("__debug__" : Str)) = false := by decide)
    (he : starEach [a] Y.X.env = (false, eval a Y.X.env) :: starEach [] Y.X.env := by rfl) : Evz Y s (.Call (.Name x p) [a] [] pos) Q := fun F0 σ H F e0 S pins sh h0 I => by
  refine wpAny_Call_Name_kw (ld_blt I hg hm hv ?_ hn hdb)
  refine PyProof.Rows.callWith_builtin1 ?_ he (by rfl)
  rw [he]
  show wpAny _ _ (spliced ((false, eval a Y.X.env) :: [])) _ _ sh
  exact Calls.spliced_cons (thn (h F0 σ H F e0 S pins sh h0 I) fun v s1 ⟨y, H1, I1, r1, A, s', F1, e1, ra, S1, q⟩ => Calls.spliced_nil (hc pins s1 σ H1 [y] [v] _ I1 (.cons r1 .nil) (q F0 σ H1 F1 y e1 S1 ra)))
theorem evz_T1 {x : Str} {T : String} {Q : Pv → DSt → Prop} {r : List V → Hp → VK → Prop} (hc : CallR Y.X (.type T) r) (hg : Gl Y.X x) (hm : Y.X.mg x = none) (hv : bootBuiltins x = some (.type T))
    (h : Evz Y s a fun A s1 => ∀ F0 σ H F v, Ext F0 F → Sta Y s1 σ H F → A.rep Y.X.K F v → r [v] H (Po Y σ F0 Q)) (hn : x ≠ "__name__" := by decide) (hdb : (x == ("__debug__" : Str)) = false := by decide)
    (he : starEach [a] Y.X.env = (false, eval a Y.X.env) :: starEach [] Y.X.env := by rfl) : Evz Y s (.Call (.Name x p) [a] [] pos) Q := fun F0 σ H F e0 S pins sh h0 I => by
  refine wpAny_Call_Name_kw (ld_blt I hg hm hv ?_ hn hdb)
  refine PyProof.Rows.callWith_type1 ?_ he (by rfl)
  rw [he]
  show wpAny _ _ (spliced ((false, eval a Y.X.env) :: [])) _ _ sh
  exact Calls.spliced_cons (thn (h F0 σ H F e0 S pins sh h0 I) fun v s1 ⟨y, H1, I1, r1, A, s', F1, e1, ra, S1, q⟩ => Calls.spliced_nil (hc pins s1 σ H1 [y] [v] _ I1 (.cons r1 .nil) (q F0 σ H1 F1 y e1 S1 ra)))
end
end Sp
set_option maxHeartbeats 4000000
namespace Sp
open PySem PySem.Spec L2 PyProof.Rows
open PySem.W (Datum DatumOrd SomeDatum)
def WTsT (X : Cx) (ifs : List Expr) (σ : L2.St) (H : Hp) (Q : Bool → Hp → Prop) : Prop := ∀ (pins : List (Addr × Obj)) (s : Shared), 1 ≤ s.toks → Inv X pins σ H s →
  wpAny (model X.prog X.w) X.A (forIn ifs true fun c r => if r = true then do let ok ← isTrue c X.env (eval c X.env); pure (ForInStep.yield ok) else pure (ForInStep.yield r)) (TP X pins σ Q) X.xe s
theorem WTsT.mono {X : Cx} {ifs : List Expr} {σ : L2.St} {H : Hp} {Q Q' : Bool → Hp → Prop} (h : WTsT X ifs σ H Q) (k : ∀ b H', Q b H' → Q' b H') : WTsT X ifs σ H Q' := fun pins s h0 I => thn (h pins s h0 I) fun b _ ⟨H', J, q⟩ => ⟨H', J, k b H' q⟩
def EtsT (Y : DX) (s : DSt) (ifs : List Expr) (Q : Bool → DSt → Prop) : Prop := ∀ F0 σ H F, Ext F0 F → Sta Y s σ H F → WTsT Y.X ifs σ H (Pt Y σ F0 Q)
def EvTsz (Y : DX) (s : DSt) (ifs : List Expr) (W : (Bool → Prop) → Prop) : Prop := ∀ k : Bool → Prop, W k → EtsT Y s ifs fun b s' => s' = s ∧ k b
section
variable {Y : DX} {s : DSt} {elt tg iter a e o : Expr} {ifs : List Expr} {scope : Scope} {own : List (Str × Nat)} {pos p apos : Pos} {α β : Type} [Enc α] [Enc β] {D : DE} {sts : List Stmt}
theorem tsz_nil : EvTsz Y s [] fun k => k true := fun k w F0 σ H F e0 S pins sh _ I => wpAny_tests_nil ⟨H, I, s, F, e0, S, rfl, w⟩
theorem tsz_one {c : Expr} {V : (Bool → Prop) → Prop} (h : EvTz Y s c V) : EvTsz Y s [c] V := fun k w F0 σ H F e0 S pins sh h0 I => wpAny_tests_one (h k w F0 σ H F e0 S pins sh h0 I)
structure LcTz (Y : DX) (s : DSt) (scope : Scope) (vs : List Nat) (tg elt : Expr) (ifs : List Expr) (g : TG) (ws : List Nat) (f : β → Rho → Rho) (items : List β) (Iv : Nat → List α → Gs → Prop) : Prop where
  tg : ∀ z, TgOk (blkY Y scope z) tg g ws f
  sub : ∀ j ∈ ws, j ∈ vs
  small : ∀ i ys gs, Iv i ys gs → i < items.length → ys.length < sizeLine
  step : ∀ z i x ys gs D, items[i]? = some x → Iv i ys gs → EtsT (blkY Y scope z) ⟨f x (wipeR s.ρ vs), (D, lstc ys) :: gs⟩ ifs fun b s2 =>
    if b = true then ∀ z', Evz (blkY Y scope z') s2 elt fun A s3 => ∃ y gs3, A = pu y ∧ s3.gs = (D, lstc ys) :: gs3 ∧ Iv (i + 1) (ys ++ [y]) gs3 else ∃ gs2, s2.gs = (D, lstc ys) :: gs2 ∧ Iv (i + 1) ys gs2
theorem tlcz_ok {g : TG} {ws : List Nat} {f : β → Rho → Rho} {items : List β} {Iv : Nat → List α → Gs → Prop} {wi : TI} {F0 : Hp} {σ : L2.St} {H : Hp} {Qf : VK}
    (hw : ∀ (R : It → Hp → Prop), (∀ J H' F', Ext F0 F' → Sta Y s σ H' F' → ItOk Y.X.K J F' items → R J H') → wi σ H R) (L : LcTz Y s scope (own.map (·.2)) tg elt ifs g ws f items Iv) (h0 : Iv 0 [] s.gs)
    (hQ : ∀ D H' F' ys gs, Ext F0 F' → Sta Y ⟨s.ρ, (D, lstc ys) :: gs⟩ σ H' F' → Iv items.length ys gs → Qf (.ref D) H') :
    tLc wi g (fun σ H Q => ∀ z, WTsT (blkX Y.X scope z) ifs σ H Q) (fun σ H Q => ∀ z, WET (blkX Y.X scope z) elt σ H Q) (own.map (·.2)) σ H Qf := by
  refine hw _ fun J H1 F1 e1 S1 K1 => ?_
  intro D hD
  have S1' := S1.newO (o := .lst []) (c := lstc ([] : List α)) hD rfl ⟨[], rfl, .nil⟩
  refine ⟨fun i m H => m = items.length - i ∧ i ≤ items.length ∧ ∃ ys gs F2, Ext F1 F2 ∧ Sta Y ⟨s.ρ, (D, lstc ys) :: gs⟩ σ H F2 ∧ Iv i ys gs, ⟨items.length, rfl, Nat.zero_le _, [], s.gs, F1, .refl _, S1', h0⟩, ?_⟩
  rintro i m H2 ⟨rfl, hi, ys, gs, F2, e2, S2, iv⟩
  by_cases hlt : i < items.length
  · have hx : items[i]? = some items[i] := List.getElem?_eq_getElem hlt
    refine .inr ⟨((K1 i H2 F2 e2 S2.ext).1 _ hx).1, fun H' => ∃ ys' gs' F3, Ext F1 F3 ∧ Sta Y ⟨s.ρ, (D, lstc ys') :: gs'⟩ σ H' F3 ∧ Iv (i + 1) ys' gs', fun H' ⟨ys', gs', F3, e3, S3, iv3⟩ => ⟨items.length - (i + 1), by omega, rfl, hlt, ys', gs', F3, e3, S3, iv3⟩, fun v H3 y => ?_⟩
    obtain ⟨F3, e3, S3, r3⟩ := K1.yld e2 S2 hx y
    have e13 := e2.trans e3
    let z0 : BCx := ⟨Y.X.s_0, H, 0, [], []⟩
    refine (L.tg z0).2 (L2.wipe σ (own.map (·.2))) H3 F3 v _ ⟨wipeR s.ρ (own.map (·.2)), (D, lstc ys) :: gs⟩ _ (S3.wipe _).blk r3 fun σ4 S4 o4 => ?_
    refine ⟨wipe_only o4 L.sub, ?_⟩
    have S4' := S4.unblk
    intro z
    refine (L.step z i _ ys gs D hx iv F3 σ4 H3 F3 (.refl _) S4'.blk).mono fun b H4 ⟨s5, F5, e5, S5, q⟩ => ?_
    cases b with
    | false =>
      obtain ⟨gs2, eg, iv5⟩ := q
      refine ⟨ys, gs2, F5, e13.trans e5, ?_, iv5⟩
      have := S3.names S5.unblk e5
      rw [eg] at this
      exact this
    | true =>
      intro z'
      refine WET.mono (q z' F5 σ4 H4 F5 (.refl _) S5.unblk.blk) fun w H6 ⟨A, s6, F6, e6, r6, S6, y, gs3, ea, eg, iv6⟩ => ?_
      subst ea
      have S7 := S3.names S6.unblk (e5.trans e6)
      rw [eg] at S7
      obtain ⟨hF, o, ho, hot, vs, ev, rv⟩ := S7.cell (i := 0) (p := D) (c := lstc ys) rfl
      subst ev
      refine ⟨vs, ho, by rw [rv.length]; exact L.small i ys gs iv hlt, ys ++ [y], gs3, F6, (e13.trans e5).trans e6, ?_, iv6⟩
      exact S7.write (i := 0) (c' := lstc (ys ++ [y])) (o' := .lst (vs ++ [w])) rfl ho (fun φ => by intro z; cases z) rfl ⟨_, rfl, rv.snoc r6⟩
  · have e : i = items.length := by omega
    subst e
    exact .inl ⟨(K1 _ H2 F2 e2 S2.ext).2 (Nat.le_refl _), hQ D H2 F2 ys gs (e1.trans e2) S2 iv⟩
theorem lcz_quiet {vs : List Nat} {g : TG} {ws : List Nat} {f : β → Rho → Rho} {items : List β} (c : β → Bool) (h : β → α) {Wc : β → (Bool → Prop) → Prop} {We : β → (α → Prop) → Prop} (tg0 : ∀ z, TgOk (blkY Y scope z) tg g ws f) (sub : ∀ j ∈ ws, j ∈ vs) (small : items.length ≤ sizeLine)
    (ht : ∀ z x D ys, EvTsz (blkY Y scope z) ⟨f x (wipeR s.ρ vs), (D, lstc (α := α) ys) :: s.gs⟩ ifs (Wc x)) (he : ∀ z x D ys, EvCz (blkY Y scope z) ⟨f x (wipeR s.ρ vs), (D, lstc (α := α) ys) :: s.gs⟩ elt (We x))
    (hc : ∀ x ∈ items, Wc x fun b => b = c x) (hv : ∀ x ∈ items, c x = true → We x fun y => y = h x) :
    LcTz Y s scope vs tg elt ifs g ws f items (fun i ys gs => ys = ((items.take i).filter c).map h ∧ gs = s.gs) where
  tg := tg0
  sub := sub
  small := fun i ys gs ⟨e, _⟩ hi => by
    subst e
    rw [List.length_map]
    have h1 := List.length_filter_le c (items.take i)
    rw [List.length_take] at h1
    omega
  step := fun z i x ys gs D hx ⟨e1, e2⟩ => by
    subst e2
    have hm := List.mem_of_getElem? hx
    have et : (items.take (i + 1)) = items.take i ++ [x] := by rw [List.take_add_one, hx, Option.toList_some]
    intro F0 σ H F e0 S
    refine (ht z x D ys _ (hc x hm) F0 σ H F e0 S).mono fun b H' ⟨s2, F2, e3, S2, q1, q2⟩ => ⟨s2, F2, e3, S2, ?_⟩
    subst q1 q2
    cases hcx : c x with
    | false => exact ⟨s.gs, rfl, by rw [e1, et, List.filter_append, List.filter_cons_of_neg (by simp [hcx]), List.filter_nil, List.append_nil], rfl⟩
    | true =>
      intro z' F3 σ3 H3 F4 e4 S4
      refine WET.mono (he z' x D ys _ (hv x hm hcx) F3 σ3 H3 F4 e4 S4) fun w H6 ⟨A, s6, F6, e6, r6, S6, y, ea, es, ey⟩ => ⟨A, s6, F6, e6, r6, S6, y, s.gs, ea, by rw [es], ?_, rfl⟩
      rw [e1, et, List.filter_append, List.filter_cons_of_pos hcx, List.filter_nil, List.map_append, ey]; rfl
structure LcWz (Y : DX) (s : DSt) (scope : Scope) (own : List (Str × Nat)) (t : TgD β) (tg iter elt : Expr) (ifs : List Expr) {α : Type} [Enc α] (W : (List α → Prop) → Prop) : Prop where
  bk : BlkOk Y.X.N Y.X.env.scope scope own
  tg0 : ∀ z, TgOk (blkY Y scope z) tg (t.g Y.X.K) t.ws t.f
  hs : ∀ x, foldedSetIterable iter Y.X.env x = pure x
  run : ∀ k, W k → ∃ G, EvItE (β := β) Y s tg iter G ∧ ∀ items s', G items s' → ∃ Iv : Nat → List α → Gs → Prop, LcTz Y s' scope (own.map (·.2)) tg elt ifs (t.g Y.X.K) t.ws t.f items Iv ∧ Iv 0 [] s'.gs ∧ ∀ ys gs, Iv items.length ys gs → (⟨s'.ρ, gs⟩ : DSt) = s ∧ k ys
theorem l_lcz (t : TgD β) (own : List (Str × Nat)) {W : (List β → Prop) → Prop} {Wc : β → (Bool → Prop) → Prop} {We : β → (α → Prop) → Prop} (ok : YOk Y) (hi : ItC Y s tg iter W) (bk : BlkOk Y.X.N Y.X.env.scope scope own) (tg0 : ∀ z, TgOk (blkY Y scope z) tg (t.g Y.X.K) t.ws t.f)
    (ht : ∀ z x D ys, EvTsz (blkY Y scope z) ⟨t.f x (wipeR s.ρ (own.map (·.2))), (D, lstc (α := α) ys) :: s.gs⟩ ifs (Wc x)) (he : ∀ z x D ys, EvCz (blkY Y scope z) ⟨t.f x (wipeR s.ρ (own.map (·.2))), (D, lstc (α := α) ys) :: s.gs⟩ elt (We x))
    (sub : ∀ j ∈ t.ws, j ∈ own.map (·.2) := by decide) (hs : ∀ x, foldedSetIterable iter Y.X.env x = pure x := by intro _; rfl) :
    LcWz Y s scope own t tg iter elt ifs fun k => W fun items => items.length ≤ sizeLine ∧ ∃ (c : β → Bool) (h : β → α), (∀ x ∈ items, Wc x fun b => b = c x) ∧ (∀ x ∈ items, c x = true → We x fun y => y = h x) ∧ k ((items.filter c).map h) :=
  ⟨bk, tg0, hs, fun k w => ⟨_, hi _ w, fun items s' ⟨es, w1, c, h, w2, w3, w4⟩ => by
    subst es
    exact ⟨_, lcz_quiet c h tg0 sub w1 ht he w2 w3, ⟨by simp, rfl⟩, fun ys gs ⟨e1, e2⟩ => ⟨by rw [e2], by rw [e1, List.take_length]; exact w4⟩⟩⟩⟩
theorem l_lcz0 (t : TgD β) (own : List (Str × Nat)) {W : (List β → Prop) → Prop} {We : β → (α → Prop) → Prop} (ok : YOk Y) (hi : ItC Y s tg iter W) (bk : BlkOk Y.X.N Y.X.env.scope scope own) (tg0 : ∀ z, TgOk (blkY Y scope z) tg (t.g Y.X.K) t.ws t.f)
    (he : ∀ z x D ys, EvCz (blkY Y scope z) ⟨t.f x (wipeR s.ρ (own.map (·.2))), (D, lstc (α := α) ys) :: s.gs⟩ elt (We x))
    (sub : ∀ j ∈ t.ws, j ∈ own.map (·.2) := by decide) (hs : ∀ x, foldedSetIterable iter Y.X.env x = pure x := by intro _; rfl) :
    LcWz Y s scope own t tg iter elt [] fun k => W fun items => items.length ≤ sizeLine ∧ ∃ h : β → α, (∀ x ∈ items, We x fun y => y = h x) ∧ k (items.map h) :=
  ⟨bk, tg0, hs, fun k w => ⟨_, hi _ w, fun items s' ⟨es, w1, h, w3, w4⟩ => by
    subst es
    exact ⟨_, lcz_quiet (Wc := fun _ k => k true) (fun _ => true) h tg0 sub w1 (fun _ _ _ _ => tsz_nil) he (fun _ _ => rfl) (fun x hx _ => w3 x hx), ⟨by simp, rfl⟩, fun ys gs ⟨e1, e2⟩ => ⟨by rw [e2], by rw [e1, List.take_length, List.filter_eq_self.mpr (fun _ _ => rfl)]; exact w4⟩⟩⟩⟩
theorem cz_L {t : TgD β} {own : List (Str × Nat)} {W : (List α → Prop) → Prop} (ok : YOk Y) (h : LcWz Y s scope own t tg iter elt ifs W) : EvCz Y s (.ListComp elt [⟨tg, iter, ifs, 0⟩] scope pos) W := fun k w F0 σ H F e0 S pins sh h0 I => by
  obtain ⟨G, ⟨wi, hp, hw⟩, L⟩ := h.run k w
  rw [eval_ListComp]
  refine lcT (use := none) (Q := Po Y σ F0 fun A s' => ∃ x, A = pu x ∧ s' = s ∧ k x) (tt := fun σ H Q => ∀ z, WTsT (blkX Y.X scope z) ifs σ H Q) (te := fun σ H Q => ∀ z, WET (blkX Y.X scope z) elt σ H Q) h0 ok.calm ok.nd I hp h.bk (fun s H C cl fp => (h.tg0 ⟨s, H, C, cl, fp⟩).1) (fun s H C cl fp pins s' σ H' Q h0 I h => h ⟨s, H, C, cl, fp⟩ pins s' h0 I) (fun s H C cl fp pins s' σ H' Q h0 I h => h ⟨s, H, C, cl, fp⟩ pins s' h0 I) h.hs ?_ fun D C s' m H' k' I' q hn f => ⟨m, hn, fun h'' sb => ?_⟩
  · show wi σ H _
    refine hw F0 σ H F _ e0 S fun J H1 F1 items s' e1 S1 K1 q => ?_
    obtain ⟨Iv, L, hi0, hQ2⟩ := L items s' q
    exact tlcz_ok (own := own) (wi := fun _ _ R => R J H1) (F0 := F1) (σ := σ) (H := H1) (fun R k => k J H1 F1 (.refl _) S1 K1) L hi0 fun D2 H' F' ys gs e2 S2 iv => by
      obtain ⟨hF, o, ho, hot, vs, ev, rv⟩ := S2.cell (i := 0) (p := D2) (c := lstc ys) rfl
      subst ev
      have S3 := S2.freeze (i := 0) (p := D2) (c := lstc ys) rfl ho
      obtain ⟨es, kk⟩ := hQ2 ys gs iv
      exact ⟨pu ys, ⟨s'.ρ, gs⟩, upd F' D2 (.lst vs), (e1.trans e2).trans (Ext.grow hF), ⟨D2, vs, rfl, .of upd_same, rv.mono (Ext.grow hF)⟩, S3, ys, rfl, es, kk⟩
  · obtain ⟨f0, f1, f2, f3, f4, f5⟩ := f
    exact ⟨.ref D, H', I'.turned (t' := s'.toks) (fun b o hb e => (sb.2 b hb).trans e) f0 f1 f3 f4 f5, rfl, q⟩
theorem cz_sorted {δ : Type} [DecidableEq δ] [Enc δ] [DatumOrd δ] [Dat δ] [Srtb δ] {W : (List δ → Prop) → Prop} (ok : YOk Y) (T : Bis Y.X.mg) (hg : Gl Y.X "sorted") (ha : EvLz Y s a W) (hd : Datum.depth δ ≤ 60 := by decide) (he : starEach [a] Y.X.env = (false, eval a Y.X.env) :: starEach [] Y.X.env := by exact star_c rfl) :
    EvCz Y s (.Call (.Name "sorted" p) [a] [] pos) fun k => W fun xs => k (srt xs) := fun k w =>
  evz_B1 (cr_sortedF (α := δ) ok.room.units hd) hg (T.no _ (by decide)) PyProof.Rows.boot_sorted (fun F0 σ H F e0 S => (ha _ w F0 σ H F e0 S).mono fun v H' ⟨A, s', F', e1, r, S', xs, hA, es, kx⟩ => ⟨A, s', F', e1, r, S', fun G0 σ9 H9 G9 v9 e9 S9 r9 => by
    subst es
    obtain ⟨q, zs, h1, h2, h3⟩ := hA σ9 H9 G9 v9 S9 r9
    exact ⟨G9, v9, q, zs, xs, rfl, h1, h2, h3, S9.ext, fun q' zs' hq' r' => po_listC e9 S9 r' kx q' hq'⟩⟩) (by decide) (by decide) he
theorem cz_tupL {W : (List α → Prop) → Prop} (T : Bis Y.X.mg) (hg : Gl Y.X "tuple") (ha : EvLz Y s a W) (he : starEach [a] Y.X.env = (false, eval a Y.X.env) :: starEach [] Y.X.env := by exact star_c rfl) : EvCz Y s (.Call (.Name "tuple" p) [a] [] pos) fun k => W fun xs => k (PySem.W.Tup.mk xs) := fun k w =>
  evz_T1 call_tuple_of hg (T.no _ (by decide)) PyProof.Rows.boot_tuple (fun F0 σ H F e0 S => (ha _ w F0 σ H F e0 S).mono fun v H' ⟨A, s', F', e1, r, S', xs, hA, es, kx⟩ => ⟨A, s', F', e1, r, S', fun G0 σ9 H9 G9 v9 e9 S9 r9 => by
    subst es
    obtain ⟨q, zs, h1, h2, h3⟩ := hA σ9 H9 G9 v9 S9 r9
    exact ⟨q, zs, by rw [h1], .inl ⟨h2, fun l hl => ⟨pu (PySem.W.Tup.mk xs), s', upd G9 l (.tup zs), e9.trans (Ext.grow (S9.free hl)), ⟨l, zs, rfl, .of upd_same, h3.mono (Ext.grow (S9.free hl))⟩, S9.newF hl rfl, _, rfl, rfl, kx⟩⟩⟩⟩) (by decide) (by decide) he
theorem s_retz {R : α → Prop} {V : (α → Prop) → Prop} (he : EvCz Y s e V) (w : V R) (q : ∀ v, R v → D.rt (pu v) s) : WsT Y s (.Return (some e) pos :: sts) D := wsT_cons fun F0 σ H F e0 S => ⟨fun pins sh h0 I => wpAny_Return_some (thn (he _ w F0 σ H F e0 S pins sh h0 I) fun v s1 ⟨x, H1, I1, r1, A, s', F1, e1, ra, S1, u, ea, es, kx⟩ => by
  subst ea es
  exact ⟨x, σ, H1, I1, r1, pu u, s', σ, F1, e1, ra, S1, q u kx⟩)⟩
end
end Sp
set_option maxHeartbeats 4000000
namespace Sp
open PySem PySem.Spec L2 PyProof.Rows
open PySem.W (Datum DatumOrd SomeDatum)
section
variable {Y : DX} {s : DSt} {elt tg iter a e o : Expr} {ifs : List Expr} {scope : Scope} {own : List (Str × Nat)} {pos p apos spos py : Pos} {α β : Type} [Enc α] [Enc β] {D : DE} {sts : List Stmt}
theorem w1_forET {body : List Stmt} {g : TG} {ws : List Nat} {f : β → Rho → Rho} {G : List β → DSt → Prop} (ok : YOk Y) (hi : EvItE Y s tg iter G) (hg : TgOk Y tg g ws f)
    (h : ∀ items s', G items s' → ∃ Iv : Nat → DSt → Prop, Iv 0 s' ∧ (∀ i x s2, items[i]? = some x → Iv i s2 → WsT Y ⟨f x s2.ρ, s2.gs⟩ body { D with nx := Iv (i + 1), ct := Iv (i + 1), bk := D.nx }) ∧ ∀ s2, Iv items.length s2 → D.nx s2)
    (hs : ∀ x, foldedSetIterable iter Y.X.env x = pure x := by intro _; rfl) : W1T Y s (.For tg iter body [] pos) D := fun F0 σ H F e0 S => ⟨fun pins sh k0 I => by
  obtain ⟨wi, hp, hw⟩ := hi
  refine pst_forT (tb := fun D σ H => WST Y.X body σ H D) ok.pass ok.calm hp hg.1 (fun pins s σ H D h0 I h => h.run pins s h0 I) hs pins sh σ H _ k0 I ?_
  refine hw F0 σ H F _ e0 S fun J H1 F1 items s' e1 S1 K1 q => ?_
  obtain ⟨Iv, h0, hstep, hd⟩ := h items s' q
  refine ⟨fun i m σ H => m = items.length - i ∧ i ≤ items.length ∧ ∃ s2 F2, Ext F1 F2 ∧ Sta Y s2 σ H F2 ∧ Iv i s2, ⟨items.length, rfl, Nat.zero_le _, s', F1, .refl _, S1, h0⟩, ?_⟩
  rintro i m σ2 H2 ⟨rfl, hi, s2, F2, e2, S2, iv⟩
  by_cases hlt : i < items.length
  · have hx : items[i]? = some items[i] := List.getElem?_eq_getElem hlt
    refine .inr ⟨((K1 i H2 F2 e2 S2.ext).1 _ hx).1, fun σ' H' => ∃ s3 F3, Ext F1 F3 ∧ Sta Y s3 σ' H' F3 ∧ Iv (i + 1) s3, fun σ' H' ⟨s3, F3, e3, S3, iv3⟩ => ⟨items.length - (i + 1), by omega, rfl, hlt, s3, F3, e3, S3, iv3⟩, fun v H3 y => ?_⟩
    obtain ⟨F3, e3, S3, r3⟩ := K1.yld e2 S2 hx y
    refine hg.2 σ2 H3 F3 v _ s2 _ S3 r3 fun σ4 S4 _ => ?_
    have e9 := (e1.trans e2).trans e3
    exact (hstep i _ s2 hx iv F3 σ4 H3 F3 (.refl _) S4).imp (fun σ' H' ⟨s5, F5, e5, S5, q⟩ => ⟨s5, F5, (e2.trans e3).trans e5, S5, q⟩) (fun v H' q => q.mono e9 fun _ _ h => h)
      (fun σ' H' q => q.mono e9 fun _ h => h) (fun σ' H' ⟨s5, F5, e5, S5, q⟩ => ⟨s5, F5, (e2.trans e3).trans e5, S5, q⟩)
  · have e : i = items.length := by omega
    subst e
    exact .inl ⟨(K1 _ H2 F2 e2 S2.ext).2 (Nat.le_refl _), s2, F2, e1.trans e2, S2, hd s2 iv⟩⟩
theorem s_forT {Z J : Type} {W : (List β → Prop) → Prop} {Body : β → Z → (Z → Prop) → Prop} {Rest : Z → Prop} {bd : List Stmt} (t : TgD β) (stf : Z → J → DSt) (z0 : Z) (j0 : J) (ok : YOk Y) (hi : ItC Y s tg iter W) (hg : TgOk Y tg (t.g Y.X.K) t.ws t.f) (h0 : s = stf z0 j0)
    (body : ∀ x z j (nx : Z → Prop), Body x z nx → WsT Y ⟨t.f x (stf z j).ρ, (stf z j).gs⟩ bd { D with nx := fun s' => ∃ z' j', s' = stf z' j' ∧ nx z', ct := fun s' => ∃ z' j', s' = stf z' j' ∧ nx z', bk := fun _ => False })
    (next : ∀ z j, Rest z → WsT Y (stf z j) sts D) (w : W fun items => forW items z0 Body Rest) (hs : ∀ x, foldedSetIterable iter Y.X.env x = pure x := by intro _; rfl) : WsT Y s (.For tg iter bd [] pos :: sts) D :=
  wsT_cons (w1_forET ok (hi _ w) hg (fun items s' ⟨es, Iv, w0, w1, w2⟩ => ⟨fun i s2 => ∃ z j, s2 = stf z j ∧ Iv i z, ⟨z0, j0, by rw [es, h0], w0⟩, fun i x s2 hx ⟨z, j, e2, iv⟩ => by
    subst e2
    exact (body x z j _ (w1 i x z hx iv)).mono (fun s h => h) (fun A s h => h) (fun s h => h.elim) (fun s h => h), fun s2 ⟨z, j, e2, iv⟩ => by subst e2; exact next z j (w2 z iv)⟩) hs)
theorem s_asgLz {t : TgD β} {own : List (Str × Nat)} {W : (List α → Prop) → Prop} {R : List α → Prop} {y : Str} (i : Nat) (ok : YOk Y) (hy : Y.X.N[i]? = some y) (h : LcWz Y s scope own t tg iter elt ifs W) (next : ∀ v, R v → WsT Y ⟨s.ρ.set i (some (pu v)), s.gs⟩ sts D) (w : W R)
    (hyl : Y.X.env.scope.names.lookup y = some .local := by rfl) (hsw : swapsWith (.ListComp elt [⟨tg, iter, ifs, 0⟩] scope pos) (some (.Name y py)) spos.line Y.X.env = pure true := by rfl) : WsT Y s (.Assign [.Name y py] (.ListComp elt [⟨tg, iter, ifs, 0⟩] scope pos) spos :: sts) D := wsT_cons fun F0 σ H F e0 S => ⟨fun pins sh h0 I => by
  obtain ⟨G, ⟨wi, hp, hw⟩, L⟩ := h.run R w
  rw [exec_Assign_Name_used _ _ _ _ hsw]
  refine wpAny_bind (wpAny_standAt (wpAny_bind ?_))
  show wpAny _ Y.X.A (do let _ ← comprehension (.ListComp elt [⟨tg, iter, ifs, 0⟩] scope pos) scope Y.X.env (firstIterPos [⟨tg, iter, ifs, 0⟩] pos) (newList []) false (eval iter Y.X.env) (some (assign (.Name y py) Y.X.env))) _ _ sh
  refine wpAny_bind (thn (lcT (Qf := fun _ s' => SP Y.X pins (DE.to { D with nx := fun s' => WsT Y s' sts D } Y F0) .next s') (Q := fun x H1 => gName i x σ H1 (DE.to { D with nx := fun s' => WsT Y s' sts D } Y F0).nx) (tt := fun σ H Q => ∀ z, WTsT (blkX Y.X scope z) ifs σ H Q) (te := fun σ H Q => ∀ z, WET (blkX Y.X scope z) elt σ H Q) h0 ok.calm ok.nd I hp h.bk (fun s H C cl fp => (h.tg0 ⟨s, H, C, cl, fp⟩).1) (fun s H C cl fp pins s' σ H' Q h0 I h => h ⟨s, H, C, cl, fp⟩ pins s' h0 I) (fun s H C cl fp pins s' σ H' Q h0 I h => h ⟨s, H, C, cl, fp⟩ pins s' h0 I) h.hs ?_ fun L C s' m H' k' I' q hn f => ?_) fun _ s' hq => wpAny_pure (wpAny_pure hq))
  · show wi σ H _
    refine hw F0 σ H F _ e0 S fun J H1 F1 items s' e1 S1 K1 q => ?_
    obtain ⟨Iv, L, hi0, hQ2⟩ := L items s' q
    exact tlcz_ok (own := own) (wi := fun _ _ R => R J H1) (F0 := F1) (σ := σ) (H := H1) (Qf := fun x H1 => gName i x σ H1 (DE.to { D with nx := fun s' => WsT Y s' sts D } Y F0).nx) (fun R k => k J H1 F1 (.refl _) S1 K1) L hi0 fun D2 H' F' ys gs e2 S2 iv => by
      obtain ⟨hF, o, ho, hot, vs, ev, rv⟩ := S2.cell (i := 0) (p := D2) (c := lstc ys) rfl
      subst ev
      have S3 := S2.freeze (i := 0) (p := D2) (c := lstc ys) rfl ho
      obtain ⟨es, kk⟩ := hQ2 ys gs iv
      have hq := next ys kk
      refine ⟨⟨s'.ρ.set i (some (pu ys)), gs⟩, upd F' D2 (.lst vs), (e1.trans e2).trans (Ext.grow hF), S3.set (A := pu ys) ⟨D2, vs, rfl, .of upd_same, rv.mono (Ext.grow hF)⟩ i, ?_⟩
      rw [← es] at hq
      exact hq
  · show wpAny _ _ (assign (.Name y py) Y.X.env (.ref L)) _ _ _
    refine wpAny_assign_Name (store_ok2 (v := V.ref L) I' ok.nd hy (.inl hyl) rfl (fun s2 I2 ⟨a, sb, ha⟩ => ?_) (.inr hyl))
    obtain ⟨f0, f1, f2, f3, f4, f5⟩ := f
    have haC : C ≠ a := by
      rcases ha with z | z
      · rw [z]; exact f1
      · exact fun e => f4 y a z e.symm
    refine ⟨m, hn.sameBut sb haC, fun h3 sb3 => ?_⟩
    exact ⟨_, H', I2.turned (t' := s2.toks) (fun b o hb e => (sb3.2 b hb).trans e) f0 f1 f3 f4 f5, q⟩⟩
theorem cz_join {Wo : (List Nat → Prop) → Prop} {Wl : (List (List Nat) → Prop) → Prop} (ho : EvC Y s o Wo) (he : EvLz Y s e Wl) (m : Mx1 Y.X o "join" apos e pos := by exact mx1 rfl rfl rfl) : EvCz Y s (.Call (.Attribute o "join" apos) [e] [] pos) fun k => Wo fun x => Wl fun xs => lenSum xs + xs.length * x.length ≤ 16777216 ∧ k (joinT x xs) := fun k w F0 σ H F e0 S pins sh h0 I => by
  refine PySem.Call_method1 m.base m.star m.line (thnE h0 ((ho _ w F σ H F (.refl _) S).run pins sh I) fun v s1 k1 ⟨y, H1, I1, r1, A, s', F1, e1, ra, S1, x, ea, es, w1⟩ => ?_)
  subst ea es
  obtain rfl : y = .str (toStr x) := ra
  obtain ⟨t, rfl⟩ := r1
  refine ⟨"str", _, PySem.F.plainAttrs_str, PySem.F.slot_str_join, PySem.F.type_str_join, typeIs_str _ _ _, (fun _ e => nomatch e), Calls.callWith_builtin rfl (Calls.evalArgs_plain (Calls.spliced_cons ?_))⟩
  refine thn (he _ w1 F1 σ H1 F1 (.refl _) S1 pins s1 k1 I1) fun u s2 ⟨z, H2, I2, r2, B, s'', F2, e2, rb, S2, xs, hB, es, w2⟩ => Calls.spliced_nil ?_
  subst es
  obtain ⟨q, zs, g1, g2, g3⟩ := hB σ H2 F2 z S2 rb
  rw [txts_map g3] at g2
  refine mt_join pins s2 σ H2 (.str (toStr x)) [z] _ [u] _ I2 ⟨t, rfl⟩ (.cons r2 .nil) ⟨toStr x, q, xs.map toStr, rfl, by rw [g1], .inl g2, ?_, pu (joinT x xs), s'', F2, (e0.trans e1).trans e2, by rw [toStr_join']; rfl, S2, _, rfl, rfl, w2.2⟩
  have e5 : (xs.map toStr).map (·.length) = xs.map List.length := by rw [List.map_map]; exact List.map_congr_left fun y _ => toStr_len y
  rw [e5, List.length_map, toStr_len]
  exact w2.1
end
theorem tok_sub {P : Program} {w : World} {A : Around} {env : Env} {o : Expr} {i : Int} {j : Nat} {c pos : Pos} {Q : Value → Shared → Prop} {E : Value → Shared → Prop} {s : Shared} (h : wpAny (model P w) A (eval (.Subscript o (.Constant (.int i) j c) pos) env) Q E s) : wpAny (model P w) A (eval (.Subscript o (.Constant (.int i) j c) pos) env) (fun v s' => 1 ≤ s'.toks ∧ Q v s') E s := by
  intro Γ p hΓ
  have q := h Γ p hΓ
  rw [eval_Subscript, Sem.wp_bind'] at q ⊢
  refine Sem.wp_mono _ Γ _ (fun v p1 s1 h1 => ?_) (fun _ _ _ z => z) p s q
  rw [Sem.wp_bind', Sem.wp_holding] at h1 ⊢
  have key : ∀ (R : Value → Pos → Shared → Prop), Sem.wp (model P w) Γ (eval (.Constant (.int i) j c) env) R (fun e _ s' => E e s') p1 s1 → Sem.wp (model P w) Γ (eval (.Constant (.int i) j c) env) (fun x p2 s2 => 1 ≤ s2.toks ∧ R x p2 s2) (fun e _ s' => E e s') p1 s1 := fun R h => ⟨Nat.succ_le_succ (Nat.zero_le _), h⟩
  exact Sem.wp_mono _ Γ _ (fun x p2 s2 z => Sem.wp_mono _ Γ _ (fun _ _ _ y => y) (fun _ _ _ y => y.2) _ _ (Sem.wp_toks _ Γ 1 _ _ _ p2 s2 z.1 z.2)) (fun _ _ _ y => y) p1 s1 (key _ h1)
end Sp
set_option maxHeartbeats 4000000
namespace Sp
open PySem PySem.Spec L2 PyProof.Rows
theorem c_replS {Y : DX} {s : DSt} {o : Expr} {i : Int} {j0 j1 j2 : Nat} {y z : Str} {c0 c1 c2 p2 apos pos : Pos} {W : (Txt → Prop) → Prop} (ho : EvC Y s (.Subscript o (.Constant (.int i) j2 c2) p2) W) (hyz : (y == z) = false := by decide)
    (hst : starEach [.Constant (.str y) j0 c0, .Constant (.str z) j1 c1] Y.X.env = [(false, eval (.Constant (.str y) j0 c0) Y.X.env), (false, eval (.Constant (.str z) j1 c1) Y.X.env)] := by rfl)
    (hbase : attributeBase (.Subscript o (.Constant (.int i) j2 c2) p2) "replace" Y.X.env (eval (.Subscript o (.Constant (.int i) j2 c2) p2) Y.X.env) = eval (.Subscript o (.Constant (.int i) j2 c2) p2) Y.X.env := by rfl) (hline : (apos.endLine == pos.line) = true := by rfl) :
    EvC Y s (.Call (.Attribute (.Subscript o (.Constant (.int i) j2 c2) p2) "replace" apos) [.Constant (.str y) j0 c0, .Constant (.str z) j1 c1] [] pos) fun k => W fun v => RpOk v (tx z) ∧ k (replT v (tx y) (tx z)) := fun k w F0 σ H F e0 S => ⟨fun pins sh I => by
  refine PySem.Call_method2 hbase hst hline (wpAny_mono (tok_sub ((ho _ w F0 σ H F e0 S).run pins sh I)) (fun v s1 ⟨hk, x, H1, I1, r1, A, s', F1, e1, ra, S1, u, ea, es, w1, w2⟩ => ?_) fun _ _ z => z)
  subst ea es
  obtain rfl : x = .str (toStr u) := ra
  obtain ⟨t, rfl⟩ := r1
  refine ⟨"str", _, PySem.F.plainAttrs_str, PySem.F.slot_str_replace, PySem.F.type_str_replace, typeIs_str _ _ _, (fun _ e => nomatch e), Calls.callWith_builtin rfl (Calls.evalArgs_plain (Calls.spliced_cons ?_))⟩
  refine Calls.Constant_str (Calls.spliced_cons (Calls.Constant_str (Calls.spliced_nil ?_)))
  have hz' : u.length + (u.length + 1) * (tx z).length ≤ 16777216 := w1
  refine PySem.SC.replace (by show s1.toks ≠ 0; omega) (by show s1.toks + 1 ≠ 0; omega) (by show s1.toks ≠ s1.toks + 1; omega) hyz ?_ fun t' k => ⟨.str (Txt.replace (toStr u) y z), H1, I1.tok k, ⟨t', rfl⟩, pu (replT u (tx y) (tx z)), s', F1, e1, ?_, S1, _, rfl, rfl, w2⟩
  · rw [toStr_len, show z.length = (tx z).length by simp [tx, Str.length]]
    exact hz'
  · show V.str _ = V.str (toStr (replT u (tx y) (tx z)))
    rw [toStr_replT, toStr_tx, toStr_tx]⟩
theorem bindT {M : Model} {A : Around} {E : Value → Shared → Prop} {s₀ : Shared} {env : Env} (f : Str × Value → PUnit → Sem (ForInStep PUnit)) (hf : ∀ n v u, f (n, v) u = (do storeName env n v; pure (.yield ⟨⟩))) (hk : env.scope.kind = .function) :
    ∀ (binds : List (Str × Value)) (m cm : Str → Option Value) (s : Shared) (Q : PUnit → Shared → Prop), InCallC s₀ env.locals m env.cells cm s →
      (∀ x ∈ binds, env.kindOf x.1 = some .local ∨ (env.kindOf x.1 = some .cell ∧ (env.cells.lookup x.1).isSome = true)) → (∃ x ∈ binds, env.kindOf x.1 = some .local) →
      (∀ s', 1 ≤ s'.toks → InCallC s₀ env.locals (bindL env.kindOf binds m) env.cells (bindC env.kindOf binds cm) s' → Q ⟨⟩ s') → wpAny M A (forIn binds ⟨⟩ f) Q E s
  | [], m, cm, s, Q, x, _, ⟨_, hx, _⟩, h => by cases hx
  | (n, v) :: r, m, cm, s, Q, x, hkind, hex, h => by
    rw [List.forIn_cons, hf]
    have hr : ∀ y ∈ r, env.kindOf y.1 = some .local ∨ (env.kindOf y.1 = some .cell ∧ (env.cells.lookup y.1).isSome = true) := fun y hy => hkind y (List.mem_cons_of_mem _ hy)
    rcases hkind (n, v) List.mem_cons_self with hl | ⟨hl, hc⟩
    · have hl : env.kindOf n = some .local := hl
      refine wpAny_bind (wpAny_bind (wpAny_mono (Q := fun _ s' => 1 ≤ s'.toks ∧ InCallC s₀ env.locals (fun y => if y = n then some v else m y) env.cells cm s') ?_ (fun _ s' ⟨k1, x'⟩ => wpAny_pure ?_) fun _ _ z => z))
      · refine wpAny_storeName_local hl x.toInCall.ns (fun h' hn' hs' => ⟨by show 1 ≤ _ + 1; omega, ⟨⟨?_, hn', fun b o e => ?_, x.toInCall.fresh⟩, fun k c hc => ?_, x.apart, x.above⟩⟩) (by rw [hk]; rfl)
        · obtain ⟨h₁, tk, rfl⟩ := x.toInCall.same
          exact ⟨h', _, rfl⟩
        · exact hs'.extBut b o (Nat.ne_of_lt (Nat.lt_of_lt_of_le (Heap.lt_size e) x.toInCall.fresh)) (x.toInCall.keep b o e)
        · exact (x.cell k c hc).sameBut hs' (Nat.ne_of_gt (x.above k c (mem_of_lookup hc)))
      · refine wpAny_mono (PySem.wpAny_toks_of k1 (wpAny_bindParams (s₀ := s₀) (env := env) (Q := fun _ s' => InCallC s₀ env.locals (bindL env.kindOf r fun y => if y = n then some v else m y) env.cells (bindC env.kindOf r cm) s') f hf hk r _ _ s' x' hr fun s'' x'' => x'')) (fun _ s'' ⟨k2, x''⟩ => h s'' k2 ?_) fun _ _ z => z.2
        unfold bindL bindC
        rw [if_pos hl, if_pos hl]
        exact x''
    · have hl : env.kindOf n = some .cell := hl
      obtain ⟨c, hc⟩ := Option.isSome_iff_exists.mp hc
      have hnl : ¬ env.kindOf n = some .local := by rw [hl]; decide
      have hex2 : ∃ x ∈ r, env.kindOf x.1 = some .local := by
        obtain ⟨y, hy, e⟩ := hex
        rcases List.mem_cons.mp hy with z | z
        · subst z; exact absurd e hnl
        · exact ⟨y, z, e⟩
      refine wpAny_bind (wpAny_bind (stCC x hk hl hc fun s' x' => wpAny_pure (bindT f hf hk r _ _ s' Q x' hr hex2 fun s'' k2 x'' => h s'' k2 ?_)))
      unfold bindL bindC; rw [if_neg hnl, if_neg hnl]; exact x''
theorem newEnvT {M : Model} {A : Around} {E : Value → Shared → Prop} {s : Shared} {scope : Scope} {globals : Addr} {binds : List (Str × Value)} {qual : Str} {func : Option Addr} {code : Value} {builtins : Addr} {Q : Env → Shared → Prop}
    (hk : scope.kind = .function) (hn : ∃ x ∈ binds, scope.names.lookup x.1 = some .local)
    (hkind : ∀ x ∈ binds, scope.names.lookup x.1 = some .local ∨ (scope.names.lookup x.1 = some .cell ∧ ((cellsFrom (s.heap.objs.size + 1) scope.names []).lookup x.1).isSome = true))
    (hQ : ∀ env, env = newEnv scope s.heap.objs.size globals (cellsFrom (s.heap.objs.size + 1) scope.names []) qual func code none builtins →
      ∀ s', 1 ≤ s'.toks → InCallC s env.locals (bindL env.kindOf binds fun _ => none) env.cells (bindC env.kindOf binds fun _ => none) s' → Q env s') :
    wpAny M A (newFunctionEnv scope globals [] binds qual func code none builtins) Q E s := by
  simp only [newFunctionEnv, Option.isSome_none, Bool.false_eq_true, if_false]
  refine wpAny_bind (wpAny_alloc ?_)
  refine wpAny_bind (wpAny_layCells _ (fun name kind cells => by cases hkc : kind == NameKind.cell <;> simp [hkc]) _ _ _ _ ?_)
  have ok := cellsFrom_ok scope.names (s.heap.push { cls := .type "frame", data := .dict #[] }) (s.heap.objs.size + 1) [] ⟨fun _ _ hm => (nomatch hm), List.Pairwise.nil⟩ (by rw [Heap.size_push]; exact Nat.le_refl _)
  rw [Heap.size_push] at ok
  rw [show ({ s with heap := s.heap.push { cls := .type "frame", data := .dict #[] } } : Shared).heap.objs.size = s.heap.objs.size + 1 from Heap.size_push ..]
  refine wpAny_bind (bindT (s₀ := s) (env := newEnv scope s.heap.objs.size globals (cellsFrom (s.heap.objs.size + 1) scope.names []) qual func code none builtins) _ (fun _ _ _ => rfl) hk binds (fun _ => none) (fun _ => none) _ _
    ⟨⟨⟨_, _, rfl⟩, (Heap.Ns.new s.heap (.type "frame")).keeps (pushCells_keeps _ _), fun b o e => pushCells_keeps _ _ b o (Heap.get?_push_of_some _ e), Nat.le_refl _⟩, fun n c hc => (ok.empty n c (mem_of_lookup hc)).1, ok.apart, fun n c hm => (ok.empty n c hm).2⟩
    hkind hn fun s' k1 x => wpAny_pure (hQ _ rfl s' k1 x))
section
variable {P : Program} {w : World} {K : Frag} {mg : Str → Option Value} {base : Heap}
theorem fn_ofTC {CX : CXT} {k : Nat} {f : Addr} {name qual : Str} {params : Arguments} {body : List Stmt} {scope : Scope} {dV kV doc pm cdv ct oc : Value} {an od : Option Addr} {osl : Array (Option Value)} {N ps : List Str} {sp : Sp}
    (lk : K.lookup f = some ⟨oc, od, .func (PySem.W.fnOf name qual params body scope dV kV doc pm an cdv ct), osl⟩) (hcd : PySem.W.codeIn K cdv qual = true) (S : FnScope N ps scope) (len : ∀ vs H Q E, sp vs H Q E → vs.length = ps.length) (hp : ∃ p ∈ ps, scope.names.lookup p = some .local)
    (hb0 : ∀ (A : Around) (outer : List Env) (s : Shared) (H : Hp) (vs : List V) (Q : VK) (E : XK), Room k (A.deeper (envOfC qual scope s.heap.objs.size f cdv)) → sp vs H Q E → WST (cxOf CX P w K mg base N qual scope f cdv A outer s H E) body (L2.start N vs) H { nx := fun _ H' => Q .non H', rt := Q }) :
    FnOk P w K mg base CX (k + 1) f (PySem.W.fnOf name qual params body scope dV kV doc pm an cdv ct) ps sp := by
  refine ⟨len, fun A outer s H args us vs Q E hr e0 hb r hsp => ?_⟩
  have hl := len _ _ _ _ hsp
  have KX : K.In s.heap := e0.mod.kin.keeps fun b o e => (e0.bs b o e).1
  have lim : s.heap.NoLimit := e0.mod.nolimit.keeps fun b o e => (e0.bs b o e).1
  have hkind : ∀ y ∈ ps.zip us, scope.names.lookup y.1 = some .local ∨ (scope.names.lookup y.1 = some .cell ∧ ((cellsFrom (s.heap.objs.size + 1) scope.names []).lookup y.1).isSome = true) := fun ⟨n, v⟩ hy => by
    rcases S.par n (List.of_mem_zip hy).1 with q | q
    · exact .inl q
    · exact .inr ⟨q, PySem.W.cellsFrom_some _ _ _ (.inl q)⟩
  have hex : ∃ x ∈ ps.zip us, scope.names.lookup x.1 = some .local := by
    obtain ⟨p, h1, h2⟩ := hp
    have h3 : vs.length = us.length := Paired.length r
    have h4 : (ps.zip us).map Prod.fst = ps := List.map_fst_zip (by omega)
    rw [← h4] at h1
    obtain ⟨x, hx, e⟩ := List.mem_map.mp h1
    exact ⟨x, hx, by rw [e]; exact h2⟩
  refine codeAny_call_function hr.depth (KX _ _ lk) rfl S.co S.gen rfl (PySem.W.codeRec_of KX hcd) (hb _ _ _ _ ?_)
  refine newEnvT S.kind hex hkind fun env he s1 k1 x => ?_
  subst he
  refine ⟨lim.keeps x.toInCall.keep, codeAny_func ?_⟩
  have I : Inv (cxOf CX P w K mg base N qual scope f cdv A outer s H E) [] (L2.start N vs) H s1 := inv_start S hr.hd e0 hl r x
  refine wpAny_mono ((hb0 A outer s H vs Q E (hr.deeper _) hsp).run [] s1 k1 I) (fun fl s' hs => ?_) fun e s' hs => hs
  have fin : ∀ {σ' : L2.St} {H' : Hp} {v : V} {u : Value}, Inv (cxOf CX P w K mg base N qual scope f cdv A outer s H E) [] σ' H' s' → RelV v u → Q v H' → CE outer P w H s Q u s' :=
    fun {σ' H' v u} J rv q => ⟨v, H', J.os, J.bare, J.base, J.hok, rv, q⟩
  match fl, hs with
  | .ret u, ⟨v, σ', H', J, rv, q⟩ => exact fin J rv q
  | .next, ⟨σ', H', J, q⟩ => exact fin (v := V.non) (u := Value.none) J rfl q
  | .brk, ⟨_, _, _, q⟩ => exact q.elim
  | .cont, ⟨_, _, _, q⟩ => exact q.elim
variable {fa : List He.Fa} {fn : List He.DefD} {tq : TQ}
theorem df_okTC {k : Nat} {N ps : List Str} {d : He.DefD} {fd : FuncData} (L : LK w K mg base fa fn tq) (F1 : Fd K d ps fd) (S : FnScope N ps d.scope) (dd : DSp) (hl : ∀ As gs R E, dd As gs R E → As.length = ps.length) (hp : ∃ p ∈ ps, d.scope.names.lookup p = some .local)
    (body : ∀ (cdv : Value) (A : Around) (outer : List Env) (s : Shared) (H F : Hp) (gs : Gs) (E : XK) (ex : Exc → DSt → Prop) (As : List Pv) (R : Pv → Gs → Prop) (X : Exc → Gs → Prop), dd As gs R X → (∀ e s', (∃ n, X e (s'.gs.drop n)) → ex e s') →
      (∀ q, (d.at_, q) ∈ tq → Tbl (bodyY P w K mg base (tbOf K tq) k N d.qual d.scope (He.fAd K d.at_) cdv A outer s H F gs E ex).X (tbOf K tq) q) →
      YOk (bodyY P w K mg base (tbOf K tq) k N d.qual d.scope (He.fAd K d.at_) cdv A outer s H F gs E ex) →
      WsT (bodyY P w K mg base (tbOf K tq) k N d.qual d.scope (He.fAd K d.at_) cdv A outer s H F gs E ex) ⟨As.map some ++ List.replicate (N.length - ps.length) none, gs⟩ d.body { nx := fun s' => ∃ n, R (pu ()) (s'.gs.drop n), rt := fun A s' => ∃ n, R A (s'.gs.drop n) }) :
    FnOk P w K mg base (L2.CX P w) (k + 1) (He.fAd K d.at_) fd ps (toSp K (tbOf K tq) ps.length dd) := by
  obtain ⟨oc, od, dV, kV, doc, pm, an, cdv, ct, osl, rfl, lk, hcd, _, _⟩ := F1.F.ex
  obtain ⟨c, rfl⟩ := He.codeIn_ref hcd
  have ec : He.codeOf K d.at_ = c := He.codeOf_eq lk rfl
  refine fn_ofTC lk hcd S (fun vs H Q E h => h.1) hp fun A outer s H vs Q E hr h => ?_
  obtain ⟨hn, As, gs, F, r, G, hd⟩ := h
  let Y : DX := bodyY P w K mg base (tbOf K tq) k N d.qual d.scope (He.fAd K d.at_) (.ref c) A outer s H F gs E (fun e s' => ∀ cls dd H' F', ExcRep e cls dd H' → Stg K (tbOf K tq) s'.gs H' F' → Step H F (ads gs) H' F' (ads s'.gs) → E cls dd H')
  have tk0 : Takes Y.X (fun cls d _ H => E cls d H) := takes_of rfl rfl rfl rfl
  have ok : YOk Y := ⟨rfl, S.nd, hr, passes_of rfl, tk0.imp fun c d' σ H' ⟨e, s', F', T0, er, q⟩ => q c d' H' F' er T0.stg T0.st⟩
  have tbl : ∀ q, (d.at_, q) ∈ tq → Tbl Y.X (tbOf K tq) q := fun q hq => by
    have h1 := L.tb _ hq
    have e1 : (He.cT K d.at_).1 = c := ec
    refine ⟨c, (He.cT K d.at_).2, by rw [← e1]; exact h1, rfl, List.mem_map.mpr ⟨_, hq, rfl⟩, fun p hp e => ?_⟩
    obtain ⟨z, hz, ez⟩ := List.mem_map.mp hp
    subst ez
    have := nd_map L.nd hz hq e
    rw [this]
  have b := body (.ref c) A outer s H F gs E _ As _ _ hd (fun e s' ⟨n, q⟩ cls dd H' F' r G' t' => q cls dd H' F' r (G'.drop n) (t'.sub (ads_drop n))) tbl ok
  have S0 : Sta Y ⟨As.map some ++ List.replicate (N.length - ps.length) none, gs⟩ (L2.start N vs) H F := by
    refine ⟨G.ext, G.ntb, ?_, G.own, G.nd, G.tb, Step.refl⟩
    unfold L2.start
    rw [hn]
    exact reps_start r _
  refine (b F (L2.start N vs) H F (.refl _) S0).imp (fun σ' H' ⟨s', F', e1, S', q⟩ => ?_) (fun v H' ⟨A', s', σ', F', e1, r', S', q⟩ => ?_) (fun σ' H' ⟨s', F', e1, S', q⟩ => q.elim) (fun σ' H' ⟨s', F', e1, S', q⟩ => q.elim)
  · obtain ⟨n, q⟩ := q
    exact q .non H' F' rfl (S'.stg.drop n) (S'.st.sub (ads_drop n))
  · obtain ⟨n, q⟩ := q
    exact q v H' F' r' (S'.stg.drop n) (S'.st.sub (ads_drop n))
theorem fn_FTC {τ ρ : Type} [Ags τ] [Enc ρ] {k : Nat} {N ps : List Str} {d : He.DefD} {fd : FuncData} (r0 : Option ρ) (L : LK w K mg base fa fn tq) (F1 : Fd K d ps fd) (S : FnScope N ps d.scope) (W : τ → (ρ → Prop) → (Ex → Prop) → Prop) (n0 : NoneIs r0) (hl : ∀ t : τ, (Ags.pvs t).length = ps.length)
    (body : ∀ (z : BZ) (t : τ) (Q : ρ → Prop) (E : Ex → Prop), W t Q E → YE (yB P w K mg base tq k N d [] z) (fun gs => gs = []) E → (∀ q, (d.at_, q) ∈ tq → Tbl (yB P w K mg base tq k N d [] z).X (tbOf K tq) q) →
      WsT (yB P w K mg base tq k N d [] z) ⟨(Ags.pvs t).map some ++ List.replicate (N.length - ps.length) none, []⟩ d.body (retE (fun gs => gs = []) r0 Q)) (hp : ∃ p ∈ ps, d.scope.names.lookup p = some .local := by decide +kernel) :
    FnOk P w K mg base (L2.CX P w) (k + 1) (He.fAd K d.at_) fd ps (toSp K (tbOf K tq) ps.length (spF K W)) := by
  have h := fnOk_as (d := fun As gs R E => ∃ t, As = Ags.pvs t ∧ gs = [] ∧ ∃ R0 E0, W t R0 E0 ∧ (∀ r, R0 r → R (pu r) []) ∧ (∀ r, r0 = some r → R0 r → R (pu ()) []) ∧ ∀ e, E0 e → E (exK K e) [])
    (fun As gs R R' E E' h1 h2 ⟨t, e1, e2, R0, E0, hw, hr, hr', he⟩ => ⟨t, e1, e2, R0, E0, hw, fun r q => h1 _ _ (hr r q), fun r e q => h1 _ _ (hr' r e q), fun e q => h2 _ _ (he e q)⟩)
    (df_okTC L F1 S _ (fun As gs R E ⟨t, e1, _⟩ => by rw [e1]; exact hl t) hp fun cdv A outer s H F gs E ex As R X hd hex tbl ok => by
      obtain ⟨t, rfl, rfl, R0, E0, hw, hr, hr', hE⟩ := hd
      refine (body ⟨cdv, A, outer, s, H, F, E, ex⟩ t R0 E0 hw ⟨ok, fun e s' ⟨n, hn⟩ he => hex _ _ ⟨n, by rw [hn]; exact hE e he⟩⟩ tbl).mono (fun s' ⟨⟨n, hn⟩, r, e, q⟩ => ⟨n, by rw [hn]; exact hr' r e q⟩) (fun A s' ⟨⟨n, hn⟩, r, e, q⟩ => ⟨n, by rw [hn, e]; exact hr r q⟩) (fun _ h => h) (fun _ h => h))
  exact h.imp fun vs H Q E q => toSp_imp q fun As gs R X ⟨t, e1, e2, R0, E0, hw, hr, he⟩ => ⟨t, e1, e2, R0, E0, hw, fun r q => ⟨_, fun _ _ h => h, hr r q⟩, fun r e q => ⟨_, n0 r e K, hr r q⟩, he⟩
end
end Sp
set_option maxHeartbeats 4000000
namespace Sp
open PySem L2 PyProof.Rows
section
variable {P : Program} {w : World} {K : Frag} {mg : Str → Option Value} {base : Heap} {fa : List He.Fa} {fn : List He.DefD} {tq : TQ}
variable {τ ρ : Type} [Ags τ] [Enc ρ]
theorem fn_ITC {γ : Type} [og : Ob γ] {k : Nat} {N ps : List Str} {d : He.DefD} {fd : FuncData} (L : LK w K mg base fa fn tq) (F1 : Fd K d ps fd) (S : FnScope N ps d.scope) (W : τ → (γ → Prop) → (Ex → Prop) → Prop) (hl : ∀ t : τ, (Ags.pvs t).length + 1 = ps.length)
    (body : ∀ (q : Addr) (z : BZ) (t : τ) (Q : γ → Prop) (E : Ex → Prop), W t Q E → YE (yB P w K mg base tq k N d [(q, insc (He.ga K (Ob.cls γ)) [])] z) (fun gs => ∃ fs, gs = [(q, insc (He.ga K (Ob.cls γ)) fs)]) E → (∀ q', (d.at_, q') ∈ tq → Tbl (yB P w K mg base tq k N d [(q, insc (He.ga K (Ob.cls γ)) [])] z).X (tbOf K tq) q') →
      WsT (yB P w K mg base tq k N d [(q, insc (He.ga K (Ob.cls γ)) [])] z) ⟨(raw (.ref q) :: Ags.pvs t).map some ++ List.replicate (N.length - ps.length) none, [(q, insc (He.ga K (Ob.cls γ)) [])]⟩ d.body (retI K q Q)) (hp : ∃ p ∈ ps, d.scope.names.lookup p = some .local := by decide +kernel) :
    FnOk P w K mg base (L2.CX P w) (k + 1) (He.fAd K d.at_) fd ps (toSp K (tbOf K tq) ps.length (spI K W)) :=
  df_okTC L F1 S _ (fun As gs R E ⟨q, t, e1, _⟩ => by rw [e1]; exact hl t) hp fun cdv A outer s H F gs E ex As R X hd hex tbl ok => by
    obtain ⟨q, t, rfl, rfl, R0, E0, hw, hr, hE⟩ := hd
    refine (body q ⟨cdv, A, outer, s, H, F, E, ex⟩ t R0 E0 hw ⟨ok, fun e s' ⟨n, fs, hn⟩ he => hex _ _ ⟨n, by rw [hn]; exact hE e he fs⟩⟩ tbl).mono (fun s' ⟨r, ⟨n, hn⟩, q⟩ => ⟨n, by rw [hn]; exact hr r q⟩) (fun A s' ⟨ea, r, ⟨n, hn⟩, q⟩ => ⟨n, by rw [hn, ea]; exact hr r q⟩) (fun _ h => h) (fun _ h => h)
end
end Sp
set_option maxHeartbeats 4000000
namespace Sp
open PySem PySem.Spec L2 PyProof.Rows
section
variable {Y : DX} {s : DSt} {e : Expr} {pos p1 p2 p3 : Pos} {α : Type} [Enc α] {D : DE} {sts : List Stmt}
theorem s_asg3 {x y z : Str} {W : (α → Prop) → Prop} {R : α → Prop} (i j k : Nat) (ok : YOk Y) (hi : Y.X.N[i]? = some x) (hj : Y.X.N[j]? = some y) (hk : Y.X.N[k]? = some z) (he : EvC Y s e W) (next : ∀ v, R v → Ws Y ⟨((s.ρ.set i (some (pu v))).set j (some (pu v))).set k (some (pu v)), s.gs⟩ sts D) (w : W R)
    (hx : Y.X.env.scope.names.lookup x = some .local := by rfl) (hy : Y.X.env.scope.names.lookup y = some .local := by rfl) (hz : Y.X.env.scope.names.lookup z = some .local := by rfl)
    (hs : swapsWithSole [.Name x p1, .Name y p2, .Name z p3] e pos.line Y.X.env = pure false := by rfl) (hw : swappedStores [.Name x p1, .Name y p2, .Name z p3] e Y.X.env = pure none := by rfl)
    (h1 : (assignEach [.Name x p1, .Name y p2, .Name z p3] Y.X.env).map (·.2) = [assign (.Name x p1) Y.X.env, assign (.Name y p2) Y.X.env, assign (.Name z p3) Y.X.env] := by rfl) : Ws Y s (.Assign [.Name x p1, .Name y p2, .Name z p3] e pos :: sts) D := ws_cons fun F0 σ H F e0 S => ⟨fun pins sh I => by
  refine wpAny_Assign_stores (thn ((he _ w F0 σ H F e0 S).run pins sh I) fun v s1 ⟨a, H1, I1, r1, A, s', F1, e1, ra, S1, u, ea, es, kx⟩ => ?_) hs hw
  subst ea es
  rw [h1]
  refine wpAny_bind (wpAny_holding (wpAny_assign_Name (store_ok I1 ok.nd hi (.inl hx) r1 (fun s2 I2 => ?_) (.inr hx))))
  refine wpAny_bind (wpAny_holding (wpAny_assign_Name (store_ok I2 ok.nd hj (.inl hy) r1 (fun s3 I3 => ?_) (.inr hy))))
  refine wpAny_assign_Name (store_ok I3 ok.nd hk (.inl hz) r1 (fun s4 I4 => ?_) (.inr hz))
  exact ⟨_, H1, I4, _, F1, e1, ((S1.set (A := pu u) ra i).set (A := pu u) ra j).set (A := pu u) ra k, next u kx⟩⟩
end
end Sp
set_option maxHeartbeats 4000000
namespace Sp
open PySem L2
open PySem.W PySem.Calls PyProof.Rows
section
structure MtN (P : Program) (w : World) (K : Frag) (mg : Str → Option Value) (base : Heap) (T : Tb) (k : Nat) (C : Addr) (m : Str) (ps : List Str) (d : DSp) : Prop where
  ex : ∃ (f : Addr) (fd : FuncData), FnOk P w K mg base (L2N.CX P w) k f fd ps (toSp K T ps.length d) ∧ Meth K C m f ∧ Binds K fd ps []
  mono : DMono d
theorem MtN.mt {P : Program} {w : World} {K : Frag} {mg : Str → Option Value} {base : Heap} {T : Tb} {k : Nat} {C : Addr} {m : Str} {ps : List Str} {d : DSp} (h : MtN P w K mg base T k C m ps d) : Mt P w K mg base T k C m ps d := by
  obtain ⟨⟨f, fd, F, r⟩, m⟩ := h
  exact ⟨⟨f, fd, fnOkN F, r⟩, m⟩
end
section
variable {P : Program} {w : World} {K : Frag} {mg : Str → Option Value} {base : Heap} {fa : List He.Fa} {fn : List He.DefD} {tq : TQ}
theorem LK.mtN {k : Nat} {x m : Str} {d : He.DefD} {ps : List Str} {fd : FuncData} {dd : DSp} (L : LK w K mg base fa fn tq) (F1 : Fd K d ps fd) (h : FnOk P w K mg base (L2N.CX P w) k (He.fAd K d.at_) fd ps (toSp K (tbOf K tq) ps.length dd)) (mo : DMono dd) (i : Nat) (hi : fa[i]? = some (.meth x m) := by rfl) (hx : d.at_ = (x, some m) := by rfl) : MtN P w K mg base (tbOf K tq) k (He.ga K x) m ps dd := by
  have g := He.meth_ok (L.d.fact i hi)
  have e : He.fAd K d.at_ = He.ma K (He.ga K x) m := by rw [hx]; rfl
  exact ⟨⟨_, fd, h, by rw [e]; exact g, F1.b⟩, mo⟩
end
section
variable {Y : DX} {s : DSt} {e a b c o i0 : Expr} {es : List Expr} {pos p p2 p3 apos cpos spos : Pos} {D : DE} {sts : List Stmt} {τ ρ α β γ : Type} [Ags τ] [Enc ρ] [Enc α] [Enc β]
theorem c_methN [Ob γ] [Enc γ] [ObOk γ] {Vt : (τ → Prop) → Prop} {ps : List Str} {j : Nat} {G0 : Gs → Prop} {Gd : DSt → Prop} {E E' : Ex → Prop} {m : Str} {Wo : (γ → Prop) → Prop} {w : γ × τ → (ρ → Prop) → (Ex → Prop) → Prop} {pl : Sem Bool} (ye : YE Y G0 E') (yn : YN Y Gd E) (G : MtN Y.X.prog Y.X.w Y.X.K Y.X.mg Y.X.base Y.T j (He.ga Y.X.K (Ob.cls γ)) m ps (spF Y.X.K w)) (c : Cls Y.X.K (He.ga Y.X.K (Ob.cls γ))) (hj : j ≤ Y.k) (ho : EvC Y s o Wo) (h : EvA Y s (e :: es) Vt) (hl : ∀ t : τ, (Ags.pvs t).length + 1 = ps.length) (hn : Gd s)
    (hf : ∀ x : γ, (Ob.flds x).lookup m = none := by intro _; rfl) (hst : starEach (e :: es) Y.X.env = (false, eval e Y.X.env) :: starEach es Y.X.env := by exact star_c rfl) (hpl : (backTo pos (starEach es Y.X.env)).any (·.1) = false := by exact star_any rfl)
    (ht : eval (.Call (.Attribute o m apos) (e :: es) [] pos) Y.X.env = (do
      let ov ← eval o Y.X.env
      standAt apos.atName
      let (f, first) ← holding [ov] (getMethod ov m pl)
      callWith pos f first (backTo pos (starEach (e :: es) Y.X.env)) (backToKw pos (keywordEach [] Y.X.env))) := by rfl) : EvC Y s (.Call (.Attribute o m apos) (e :: es) [] pos) fun k => Wo fun x => Vt fun t => Cl (w (x, t)) k E := fun k ww F0 σ H F e0 S => by
  obtain ⟨⟨f, fd, F1, hm, hb⟩, mono⟩ := G
  refine .of (pe_methS (CX := L2N.CX Y.X.prog Y.X.w) (E := L2.WE (wxS Y Gd E)) pe_we c hm F1 (ye.ok.room.mono hj) hb (fun σ => L2N.passAt yn.tk σ) pa_wa hst hpl ht) ?_
  refine (ho _ ww F σ H F (.refl _) S).mono fun v H1 ⟨_, _, F1, e1, r1, S1, x, ea, es, ww⟩ => ?_
  subst ea es
  obtain ⟨a, dx, vs, ev, ha, rf⟩ := ia_ob σ H1 F1 v S1 r1
  refine ⟨a, dx, vs, ev, ha, fr_no rf (hf x), ?_⟩
  refine (h _ ww F1 σ H1 F1 (.refl _) S1).mono fun us H2 ⟨_, _, F2, e2, r2, S2, t, ea, es, R0, E0, w0, hr, hE⟩ => ?_
  subst ea es
  have r3 : Rvs Y.X.K F2 (v :: us) (pu x :: Ags.pvs t) := .cons ((pu x).mono r1 e2) r2
  refine ⟨(Paired.length r3).trans (by rw [List.length_cons]; exact hl t), _, [], F2, r3, ⟨S2.ext, S2.ntb, (fun p hp => by cases hp), List.nodup_nil, S2.tb⟩, (x, t), rfl, rfl, R0, E0, w0, fun r q v H' F' r' G1 c => ?_, fun e q cls dd H' F' r' G1 c => ?_⟩
  · exact ⟨pu r, _, F', ((e0.trans e1).trans e2).trans c.ff, r', S2.called (gs1 := []) (.refl _) G1 c, r, rfl, rfl, hr r q⟩
  · exact ⟨e, _, F', S2.called (gs1 := []) (.refl _) G1 c, r', hn, hE e q⟩
theorem s_insert {x : Str} {q : Addr} {xs : List α} {Wi : (Int → Prop) → Prop} {W : (α → Prop) → Prop} (i g : Nat) (hN : Y.X.N[i]? = some x) (hρ : s.ρ[i]? = some (some (raw (.ref q)))) (hg : s.gs[g]? = some (q, lstc xs)) (hi : EvC Y s i0 Wi) (he : EvC Y s e W) {R : List α → Prop} (next : ∀ v, R v → Ws Y ⟨s.ρ, s.gs.set g (q, lstc v)⟩ sts D) (w : Wi fun k => W fun v => (xs.length < sizeLine ∧ 0 ≤ k ∧ k < 2 ^ 63) ∧ R (xs.take k.toNat ++ [v] ++ xs.drop k.toNat))
    (m : Mx2 Y.X (.Name x p) "insert" apos i0 e pos := by exact ⟨rfl, rfl, rfl, rfl, rfl⟩) (hv : Vis Y.X.env.scope x := by first | exact .inl rfl | exact .inr (.inl rfl) | exact .inr (.inr rfl)) (hd : (x == ("__debug__" : Str)) = false := by decide) (hcd : (x == ("__classdict__" : Str)) = false := by decide) : Ws Y s (.Expr (.Call (.Attribute (.Name x p) "insert" apos) [i0, e] [] pos) p2 :: sts) D :=
  ws_cons (w1_expr (ev_m2C PySem.F.plainAttrs_list PySem.F.slot_list_insert PySem.F.type_list_insert mt_insert (.of (evp_v i hN hρ hv hd hcd) ⟨fun σ H F v S r => by
      rw [show v = .ref q from r]
      obtain ⟨_, oo, ho, _, vs, eo, rv⟩ := S.cell hg
      subst eo
      exact tyV_list (.of ho),
    hi.q w fun k w => he.q w fun y w F0 σ H F v u z e0 S r1 r2 r3 => by
      rw [show v = .ref q from r1, show u = V.int k from r2]
      obtain ⟨hF, oo, ho, _, vs, eo, rv⟩ := S.cell hg
      subst eo
      have hl : vs.length = xs.length := Paired.length rv
      obtain ⟨⟨b1, b2, b3⟩, hR⟩ := w
      refine ⟨q, vs, k, z, rfl, rfl, ho, by omega, b2, b3, pu (), _, F, e0, rfl, ?_, next _ hR⟩
      exact S.write (c' := lstc (xs.take k.toNat ++ [y] ++ xs.drop k.toNat)) hg ho (not_codeL rfl) rfl ⟨_, rfl, prd_app (prd_app (prd_take rv _) (.cons r3 .nil)) (prd_drop rv _)⟩⟩) m))
theorem k_eqU {δ : Type} [DecidableEq δ] [Enc δ] [Datum δ] [Dat δ] {Wa Wb : (δ → Prop) → Prop} (hu : Y.X.A.units + 64 < cLine) (ha : EvC Y s a Wa) (hb : EvC Y s b Wb) (hd : Datum.depth δ ≤ 60 := by decide) : EvK Y s .Eq a b fun k => Wa fun i => Wb fun j => k (decide (i = j)) := fun k w =>
  cmp_of (op_eqT (α := δ) hu hd) (ha.q w fun i w => hb.q w fun j w => ⟨_, ⟨rfl, w⟩, fun σ H F v u Q S r1 r2 q => ⟨i, j, DA.pu σ H F v S r1, DA.pu σ H F u S r2, q⟩⟩)
theorem s_raise0H {x m : Str} {j : Nat} {C : Addr} {Y0 : DX} {a0 : Addr} {oe : Obj} {pn : List (Addr × Obj)} (ex : Ex) (hy : Y = suY Y0 a0 ((a0, oe) :: pn)) (hot : L2H.HotC Y.X) (tk : L2.Takes Y.X (wxOf Y0)) (T : ErrC Y.X.K Y.X.mg x C) (hg : Gl Y.X x) (hx : exK Y.X.K ex = ⟨C, none⟩) (w : Y0.ex (exK Y0.X.K ex) s)
    (hdb : (x == ("__debug__" : Str)) = false := by decide) : Ws Y s (.Raise (some (.Call (.Name x p) [.Constant (.str m) j p2] [] p3)) none pos :: sts) D := by
  subst hy
  exact ws_cons fun F0 σ H F e0 S => .of (L2H.ps_raiseH hot tk (L2N.pmk_own PySem.F.excBase_ValueError T.xi T.g T.kp (raises_own T.sb T.ty) hg hdb)) ⟨exK Y0.X.K ex, s, F, ⟨S.ext, S.ntb, S.rep, S.own, S.nd, S.tb, S.st⟩, by rw [show exK Y0.X.K ex = ⟨C, none⟩ from hx]; exact ⟨rfl, rfl⟩, w⟩
end
section
variable {Y : DX} {s : DSt} {o : Expr} {p pos apos cpos : Pos} {κ ν : Type} [DecidableEq κ] [Kk κ] [Enc κ] [KkV κ] [Enc ν]
theorem c_dictItK {W : (List (κ × ν) → Prop) → Prop} (ok : YOk Y) (T : Bis Y.X.mg) (hg : Gl Y.X "dict") (ho : EvD Y s o W) (hbase : attributeBase o "items" Y.X.env (eval o Y.X.env) = eval o Y.X.env := by exact ab_ok rfl) (hline : (apos.endLine == cpos.line) = true := by rfl)
    (hs : starEach [Expr.Call (.Attribute o "items" apos) [] [] cpos] Y.X.env = (false, eval (Expr.Call (.Attribute o "items" apos) [] [] cpos) Y.X.env) :: starEach [] Y.X.env := by exact star_c rfl) :
    EvC Y s (.Call (.Name "dict" p) [.Call (.Attribute o "items" apos) [] [] cpos] [] pos) fun k => W fun m => k (Dct.mk (dmerge [] m)) := fun k w F0 σ H F e0 S => by
  refine .lockAfter (.of (pe_dictItK ok.calm hg (T.no _ (by decide)) pe_we hbase hline hs) ?_)
  refine (ho _ w F0 σ H F e0 S).mono fun v H1 ⟨A, _, F1, e1, r1, S1, m, hA, es, w⟩ => ?_
  subst es
  obtain ⟨d, kvs, ev, hd, rk⟩ := hA σ H1 F1 v S1 r1
  exact ⟨d, kvs, ev, hd, fun l hl => po_lock e1 S1 (kvs_merge rk .nil) w l hl⟩
end
end Sp
set_option maxHeartbeats 4000000
set_option maxHeartbeats 4000000
namespace Sp
open PySem L2
open PySem.W (DatumOrd)
theorem sl2 {n : Nat} (h : n < 1000000) : n < sizeLine := Nat.lt_of_lt_of_le h (by decide)
theorem ne_no {α : Type} [DecidableEq α] {a b : α} {A B : Prop} (h : a = b) (hB : B) : (decide (a ≠ b) = true → A) ∧ (decide (a ≠ b) = false → B) := ⟨fun g => absurd h (of_decide_eq_true g), fun _ => hB⟩
theorem no_ {A B : Prop} {b : Bool} (h : b = false) (hB : B) : (b = true → A) ∧ (b = false → B) := ⟨fun g => (by rw [h] at g; cases g), fun _ => hB⟩
theorem yes_ {A B : Prop} {b : Bool} (h : b = true) (hA : A) : (b = true → A) ∧ (b = false → B) := ⟨fun _ => hA, fun g => (by rw [h] at g; cases g)⟩
theorem nt_ {A B : Prop} {b : Bool} (h : b = true) (hB : B) : ((!b) = true → A) ∧ ((!b) = false → B) := no_ (by rw [h]; rfl) hB
theorem told_o {γ : Type} {A B : Prop} {t u : Txt} (h : t = u) (hB : B) : ((!isT (Sum.inr t : γ ⊕ Txt) u) = true → A) ∧ ((!isT (Sum.inr t : γ ⊕ Txt) u) = false → B) := no_ (by subst h; simp [isT]) hB
abbrev gt (a : Txt) (j : Nat) : Nat := a.getD j 0
theorem cut_sub {α : Type} (x : List α) (i j : Option Int) : (cutD x i j).Sublist x := (List.take_sublist _ _).trans (List.drop_sublist _ _)
theorem spl {α : Type} {s : List α} {i : Nat} {x : α} (h : s[i]? = some x) : s = s.take i ++ x :: s.drop (i + 1) ∧ s.take (i + 1) = s.take i ++ [x] ∧ (s.take i).length = i := by
  obtain ⟨hlt, hy2⟩ := List.getElem?_eq_some_iff.mp h
  refine ⟨?_, by rw [List.take_add_one, h]; rfl, by rw [List.length_take]; omega⟩
  conv => lhs; rw [← List.take_append_drop i s]
  rw [List.drop_eq_getElem_cons hlt, hy2]
theorem forR {β Z : Type} {n : Nat} {f : Nat → β} {z0 : Z} {body : β → Z → (Z → Prop) → Prop} {rest : Z → Prop} (P : Nat → Z → Prop) (h0 : P 0 z0)
    (hs : ∀ i z, i < n → P i z → ∀ k : Z → Prop, (∀ z', P (i + 1) z' → k z') → body (f i) z k) (he : ∀ z, P n z → rest z) : forW ((List.range n).map f) z0 body rest := by
  refine ⟨P, h0, fun i x z hx hp => ?_, fun z hz => ?_⟩
  · rw [List.getElem?_map] at hx
    obtain ⟨y, hy, e⟩ := Option.map_eq_some_iff.mp hx
    obtain ⟨hlt, hy2⟩ := List.getElem?_eq_some_iff.mp hy
    rw [List.length_range] at hlt
    rw [List.getElem_range] at hy2
    subst hy2 e
    exact hs i z hlt hp _ fun z' h => h
  · rw [List.length_map, List.length_range] at hz
    exact he z hz
theorem forLM {α β Z : Type} {f : α → β} {s : List α} {z0 : Z} {body : β → Z → (Z → Prop) → Prop} {rest : Z → Prop} (P : List α → Z → Prop) (h0 : P [] z0)
    (hs : ∀ l x r z, s = l ++ x :: r → P l z → ∀ k : Z → Prop, (∀ z', P (l ++ [x]) z' → k z') → body (f x) z k) (he : ∀ z, P s z → rest z) : forW (s.map f) z0 body rest := by
  refine ⟨fun i z => P (s.take i) z, by simpa using h0, fun i x z hx hp => ?_, fun z hp => he z ?_⟩
  · rw [List.getElem?_map] at hx
    obtain ⟨y2, hy2, e2⟩ := Option.map_eq_some_iff.mp hx
    subst e2
    obtain ⟨g1, g2, g3⟩ := spl hy2
    exact hs (s.take i) y2 (s.drop (i + 1)) z g1 hp (fun z' => P (s.take (i + 1)) z') (fun z' h => by rw [g2]; exact h)
  · rw [List.length_map, List.take_length] at hp
    exact hp
theorem forU {α : Type} {xs : List α} {body : α → Unit → (Unit → Prop) → Prop} {rest : Unit → Prop} (hs : ∀ x ∈ xs, ∀ k : Unit → Prop, k () → body x () k) (he : rest ()) : forW xs () body rest :=
  forL (fun _ _ => True) trivial (fun l x r z e _ k hk => hs x (by rw [e]; simp) k (hk () trivial)) fun _ _ => he
theorem word_raw {ls : Txt} {lo hi : Int} {Q : Txt → Prop} (h0 : 0 ≤ lo) (h1 : lo ≤ hi) (h2 : hi ≤ 1000) (hl : 0 < ls.length) (hl2 : ls.length ≤ 1000) (q : ∀ y : Txt, (∀ c ∈ y, c ∈ ls) → lo ≤ y.length → (y.length : Int) ≤ hi → Q y) :
    ClD (rollW (((hi - lo) + (1 : Int)), ())) fun (r4 : Int) => ((-(2 ^ 62) ≤ (lo + r4) ∧ (lo + r4) < 2 ^ 62) ∧ (List.length ((List.range ((lo + r4)).toNat).map fun i : Nat => (i : Int)) ≤ sizeLine ∧ ∃ P7 : Int → Txt → Prop, (∀ x5 ∈ ((List.range ((lo + r4)).toNat).map fun i : Nat => (i : Int)), ((ls.length ≤ sizeLine ∧ ClD (rollW ((ls.length : Int), ())) fun (r6 : Int) => (ls.length ≤ sizeLine ∧ inR ls.length r6 ∧ P7 x5 (ixS ls r6))))) ∧ ∀ ys8, Each P7 ((List.range ((lo + r4)).toNat).map fun i : Nat => (i : Int)) ys8 → (lenSum ys8 + ys8.length * List.length (tx "") ≤ 16777216 ∧ Q (joinT (tx "") ys8)))) := by
  have hs : ls.length ≤ sizeLine := Nat.le_trans hl2 (by decide)
  refine ClD.roll (by omega) (by omega) fun r hr0 hr1 => ⟨⟨by omega, by omega⟩, ?_, fun _ y => ∃ c ∈ ls, y = [c], fun x hx => ⟨hs, ClD.roll (by omega) (by omega) fun i hi0 hi1 => ⟨hs, ⟨by omega, hi1⟩, ixS_mem hi0 hi1⟩⟩, fun ys hy => ?_⟩
  · rw [List.length_map, List.length_range]
    have : (lo + r).toNat ≤ 1000 := by omega
    exact Nat.le_trans this (by decide)
  · obtain ⟨f1, f2, f3⟩ := flat_one (ls := ls) (hy.all fun x _ y hy => hy)
    have hlen := hy.length
    rw [List.length_map, List.length_range] at hlen
    refine ⟨?_, ?_⟩
    · have : List.length (tx "") = 0 := rfl
      rw [this, f1, hlen]
      omega
    · show Q (joinT [] ys)
      rw [joinT_nil]
      refine q _ f3 ?_ ?_
      · rw [f2, hlen]; omega
      · rw [f2, hlen]; omega
section
variable {κ α : Type} [DecidableEq κ]
theorem gval_grp (v : α) (k j : κ) : ∀ m : List (κ × List α), gval (grp m k v) j = if k = j then gval m j ++ [v] else gval m j
  | [] => by
    show (if k = j then [v] else gval [] j) = _
    rfl
  | p :: r => by
    unfold grp
    by_cases e : p.1 = k
    · rw [if_pos e]
      by_cases ej : p.1 = j
      · have : k = j := e.symm.trans ej
        rw [if_pos this]
        show (if p.1 = j then p.2 ++ [v] else gval r j) = (if p.1 = j then p.2 else gval r j) ++ [v]
        rw [if_pos ej, if_pos ej]
      · have : ¬ k = j := fun z => ej (e.trans z)
        rw [if_neg this]
        show (if p.1 = j then p.2 ++ [v] else gval r j) = (if p.1 = j then p.2 else gval r j)
        rw [if_neg ej, if_neg ej]
    · rw [if_neg e]
      show (if p.1 = j then p.2 else gval (grp r k v) j) = _
      rw [gval_grp v k j r]
      by_cases ej : p.1 = j
      · have : ¬ k = j := fun z => e (ej.trans z.symm)
        rw [if_pos ej, if_neg this]
        show p.2 = (if p.1 = j then p.2 else gval r j)
        rw [if_pos ej]
      · rw [if_neg ej]
        show _ = if k = j then (if p.1 = j then p.2 else gval r j) ++ [v] else (if p.1 = j then p.2 else gval r j)
        rw [if_neg ej]
theorem grp_keys (v : α) (k : κ) : ∀ m : List (κ × List α), (grp m k v).map (·.1) = if k ∈ m.map (·.1) then m.map (·.1) else m.map (·.1) ++ [k]
  | [] => by simp [grp]
  | p :: r => by
    unfold grp
    by_cases e : p.1 = k
    · rw [if_pos e, if_pos (by rw [List.map_cons, List.mem_cons]; exact .inl e.symm)]
      rfl
    · rw [if_neg e, List.map_cons, grp_keys v k r, List.map_cons]
      by_cases h : k ∈ r.map (·.1)
      · rw [if_pos h, if_pos (List.mem_cons_of_mem _ h)]
      · rw [if_neg h, if_neg (by rw [List.mem_cons]; rintro (z | z); exact e z.symm; exact h z)]
        rfl
end
structure GrpOf {κ α : Type} [DecidableEq κ] (f : α → κ) (l : List α) (m : List (κ × List α)) : Prop where
  keys : m.map (·.1) = uq (l.map f)
  val : ∀ k, gval m k = l.filter fun x => decide (f x = k)
theorem GrpOf.nil {κ α : Type} [DecidableEq κ] (f : α → κ) : GrpOf f [] [] := ⟨rfl, fun _ => rfl⟩
theorem GrpOf.snoc {κ α : Type} [DecidableEq κ] {f : α → κ} {l : List α} {m : List (κ × List α)} (h : GrpOf f l m) (x : α) : GrpOf f (l ++ [x]) (grp m (f x) x) := by
  refine ⟨?_, fun k => ?_⟩
  · rw [grp_keys, h.keys, List.map_append, List.map_singleton, uq_snoc]
  · rw [gval_grp, h.val, List.filter_append]
    by_cases e : f x = k
    · rw [if_pos e, List.filter_cons_of_pos (by simpa using e), List.filter_nil]
    · rw [if_neg e, List.filter_cons_of_neg (by simpa using e), List.filter_nil, List.append_nil]
end Sp
set_option maxHeartbeats 0
set_option synthInstance.maxSize 2000
namespace K12
open PySem L2 Sp
structure PatternV where
  letters : Txt
  levels : (Tup Int)
instance : Inhabited PatternV := ⟨⟨default, default⟩⟩
instance : Ob PatternV := ⟨"Pattern", fun m => [("letters", pu m.letters), ("levels", pu m.levels)]⟩
instance : Enc PatternV := obEnc inferInstance
instance : ObOk PatternV := ⟨Iff.rfl⟩
structure HyphensV where
  patterns : (Tup PatternV)
  told : (Dct Txt (Tup Txt))
  first : Int
  last : Int
instance : Inhabited HyphensV := ⟨⟨default, default, default, default⟩⟩
instance : Ob HyphensV := ⟨"Hyphens", fun m => [("patterns", pu m.patterns), ("told", pu m.told), ("first", pu m.first), ("last", pu m.last)]⟩
instance : Enc HyphensV := obEnc inferInstance
instance : ObOk HyphensV := ⟨Iff.rfl⟩
def toldT : Ex → Option Txt
  | .BadWord => some (tx "word")
  | .BadRule => some (tx "rule")
  | .BadCount => some (tx "count")
  | .NoSuch => some (tx "no such")
  | .NoWay => some (tx "no way")
  | .TooLarge => some (tx "large")
  | .BadDeed => none
  | .BadText _ => some (tx "text")
  | .BadPaper _ => none
abbrev check_word_w (word1 : Txt) (Q : Unit → Prop) (E : Ex → Prop) : Prop :=
  (word1.length ≤ sizeLine ∧ ((decide ((1 : Int) ≤ (word1.length : Int)) = true → (24 : Int) = (24 : Int)) ∧ (((!(decide ((1 : Int) ≤ (word1.length : Int)) && decide ((word1.length : Int) ≤ (24 : Int)))) = false → ((word1.map fun c => [c]) = (word1.map fun c => [c]) ∧ (∀ x2 ∈ (word1.map fun c => [c]), (!tin x2 (tx "abcdefghijklmnopqrstuvwxyz")) = (!tin x2 (tx "abcdefghijklmnopqrstuvwxyz"))) ∧ ((word1.map fun c => [c]).any (fun (x2 : Txt) => (!tin x2 (tx "abcdefghijklmnopqrstuvwxyz")))) = ((word1.map fun c => [c]).any (fun (x2 : Txt) => (!tin x2 (tx "abcdefghijklmnopqrstuvwxyz")))))) ∧ ((((!(decide ((1 : Int) ≤ (word1.length : Int)) && decide ((word1.length : Int) ≤ (24 : Int)))) || ((word1.map fun c => [c]).any (fun (x2 : Txt) => (!tin x2 (tx "abcdefghijklmnopqrstuvwxyz"))))) = true → E .BadWord) ∧ (((!(decide ((1 : Int) ≤ (word1.length : Int)) && decide ((word1.length : Int) ≤ (24 : Int)))) || ((word1.map fun c => [c]).any (fun (x2 : Txt) => (!tin x2 (tx "abcdefghijklmnopqrstuvwxyz"))))) = false → Q ())))))
abbrev check_word_W (t : Txt × Unit) (Q : Unit → Prop) (E : Ex → Prop) : Prop := check_word_w t.1 Q E
abbrev Pattern_init_w1 (x5 : Txt) (letters9 : Txt) (figures10 : (List Int)) (nx13 : (Txt × (List Int) → Prop)) : Prop :=
  (((PySem.intText? (toStr x5)).isSome = true ∧ x5.length ≤ 640) ∧ (inR figures10.length (-(1 : Int)) ∧ nx13 (letters9, (figures10.set (plc figures10.length (-(1 : Int))) (intT x5)))))
abbrev Pattern_init_w2 (figures10 : (List Int)) (nx17 : (Txt × (List Int) → Prop)) (letters18 : Txt) : Prop :=
  (figures10.length < sizeLine ∧ nx17 (letters18, (figures10 ++ [(0 : Int)])))
abbrev Pattern_init_w3 (x5 : Txt) (letters9 : Txt) (figures10 : (List Int)) (nx17 : (Txt × (List Int) → Prop)) : Prop :=
  (letters9.length + x5.length ≤ sizeLine ∧ (Pattern_init_w2 figures10 nx17 (letters9 ++ x5)))
abbrev Pattern_init_w4 (nx13 : (Txt × (List Int) → Prop)) (letters20 : Txt) (figures21 : (List Int)) : Prop :=
  nx13 (letters20, figures21)
abbrev Pattern_init_w5 (x5 : Txt) (letters9 : Txt) (figures10 : (List Int)) (nx13 : (Txt × (List Int) → Prop)) (E : Ex → Prop) : Prop :=
  (inR (figures10.length) (-(1 : Int)) ∧ (((decide ((ixD figures10 (-(1 : Int))) ≠ (0 : Int))) = true → E .BadRule) ∧ ((decide ((ixD figures10 (-(1 : Int))) ≠ (0 : Int))) = false → (Pattern_init_w1 x5 letters9 figures10 nx13))))
abbrev Pattern_init_w6 (x5 : Txt) (letters9 : Txt) (figures10 : (List Int)) (nx13 : (Txt × (List Int) → Prop)) (E : Ex → Prop) : Prop :=
  (List.length (tx "abcdefghijklmnopqrstuvwxyz") + List.length (tx ".") ≤ sizeLine ∧ (ifJ (tin x5 ((tx "abcdefghijklmnopqrstuvwxyz") ++ (tx "."))) (fun (nx17 : Txt × (List Int) → Prop) => (Pattern_init_w3 x5 letters9 figures10 nx17)) (fun (nx17 : Txt × (List Int) → Prop) => E .BadRule) (fun (z15 : Txt × (List Int)) => (Pattern_init_w4 nx13 z15.1 z15.2))))
abbrev Pattern_init_w7 (nx8 : (Txt × (List Int) → Prop)) (letters22 : Txt) (figures23 : (List Int)) : Prop :=
  nx8 (letters22, figures23)
abbrev Pattern_init_w8 (x5 : Txt) (nx8 : (Txt × (List Int) → Prop)) (letters9 : Txt) (figures10 : (List Int)) (E : Ex → Prop) : Prop :=
  (ifJ (tin x5 (tx "0123456789")) (fun (nx13 : Txt × (List Int) → Prop) => (Pattern_init_w5 x5 letters9 figures10 nx13 E)) (fun (nx13 : Txt × (List Int) → Prop) => (Pattern_init_w6 x5 letters9 figures10 nx13 E)) (fun (z11 : Txt × (List Int)) => (Pattern_init_w7 nx8 z11.1 z11.2)))
abbrev Pattern_init_w9 (letters26 : Txt) (figures27 : (List Int)) (Q : PatternV → Prop) (E : Ex → Prop) : Prop :=
  (((decide (letters26 = (tx ""))) = false → (letters26.length ≤ sizeLine ∧ (tin (tx ".") (cutD letters26 (some (1 : Int)) (some (-(1 : Int))))) = (tin (tx ".") (cutD letters26 (some (1 : Int)) (some (-(1 : Int))))))) ∧ ((((decide (letters26 = (tx ""))) || (tin (tx ".") (cutD letters26 (some (1 : Int)) (some (-(1 : Int)))))) = true → E .BadRule) ∧ (((decide (letters26 = (tx ""))) || (tin (tx ".") (cutD letters26 (some (1 : Int)) (some (-(1 : Int)))))) = false → Q (PatternV.mk letters26 (PySem.W.Tup.mk figures27)))))
abbrev Pattern_init_w10 (text1 : Txt) (letters2 : Txt) (figures3 : (List Int)) (Q : PatternV → Prop) (E : Ex → Prop) : Prop :=
  (forW (text1.map fun c => [c]) (letters2, figures3) (fun (x5 : Txt) (z6 : Txt × (List Int)) (nx8 : Txt × (List Int) → Prop) => (Pattern_init_w8 x5 nx8 z6.1 z6.2 E)) (fun (z24 : Txt × (List Int)) => (Pattern_init_w9 z24.1 z24.2 Q E)))
abbrev Pattern_init_w (text1 : Txt) (Q : PatternV → Prop) (E : Ex → Prop) : Prop :=
  (Pattern_init_w10 text1 (tx "") [(0 : Int)] Q E)
abbrev Pattern_init_W (t : Txt × Unit) (Q : PatternV → Prop) (E : Ex → Prop) : Prop := Pattern_init_w t.1 Q E
abbrev Pattern_said_w1 (self1 : PatternV) (x3 : (Int × Int)) (nx6 : (Txt → Prop)) (found7 : Txt) : Prop :=
  (((decide ((0 : Int) < x3.2)) = true → ((x3.2).natAbs.log2 < 1920 ∧ (strI x3.2) = (strI x3.2))) ∧ ((decide ((0 : Int) < x3.2)) = false → (tx "") = (tx "")) ∧ (self1.letters.length ≤ sizeLine ∧ (((decide (x3.1 < (self1.letters.length : Int))) = true → (self1.letters.length ≤ sizeLine ∧ inR self1.letters.length x3.1 ∧ (ixS self1.letters x3.1) = (ixS self1.letters x3.1))) ∧ ((decide (x3.1 < (self1.letters.length : Int))) = false → (tx "") = (tx "")) ∧ (List.length (if (decide ((0 : Int) < x3.2)) = true then (strI x3.2) else (tx "")) + List.length (if (decide (x3.1 < (self1.letters.length : Int))) = true then (ixS self1.letters x3.1) else (tx "")) ≤ sizeLine ∧ (found7.length + List.length ((if (decide ((0 : Int) < x3.2)) = true then (strI x3.2) else (tx "")) ++ (if (decide (x3.1 < (self1.letters.length : Int))) = true then (ixS self1.letters x3.1) else (tx ""))) ≤ sizeLine ∧ nx6 (found7 ++ ((if (decide ((0 : Int) < x3.2)) = true then (strI x3.2) else (tx "")) ++ (if (decide (x3.1 < (self1.letters.length : Int))) = true then (ixS self1.letters x3.1) else (tx "")))))))))
abbrev Pattern_said_w2 (found11 : Txt) (Q : Txt → Prop) : Prop :=
  Q found11
abbrev Pattern_said_w3 (self1 : PatternV) (found2 : Txt) (Q : Txt → Prop) : Prop :=
  (forW (enumD self1.levels.items) found2 (fun (x3 : (Int × Int)) (z4 : Txt) (nx6 : Txt → Prop) => (Pattern_said_w1 self1 x3 nx6 z4)) (fun (z9 : Txt) => (Pattern_said_w2 z9 Q)))
abbrev Pattern_said_w (self1 : PatternV) (Q : Txt → Prop) (E : Ex → Prop) : Prop :=
  (Pattern_said_w3 self1 (tx "") Q)
abbrev Pattern_said_W (t : PatternV × Unit) (Q : Txt → Prop) (E : Ex → Prop) : Prop := Pattern_said_w t.1 Q E
abbrev Hyphens_init_w1 (x8 : Txt) (nx11 : ((List (Txt × (Tup Txt))) → Prop)) (self_told12 : (List (Txt × (Tup Txt)))) (word13 : Txt) : Prop :=
  (((tx "-") ≠ [] ∧ x8.length + 2 ≤ sizeLine) ∧ (List.length (splitT x8 (tx "-")) ≤ sizeLine ∧ (∀ x16 ∈ (splitT x8 (tx "-")), x16 = x16) ∧ (self_told12.length < sizeLine ∧ nx11 (dput self_told12 word13 (PySem.W.Tup.mk ((splitT x8 (tx "-")).map (fun (x16 : Txt) => x16)))))))
abbrev Hyphens_init_w2 (x8 : Txt) (nx11 : ((List (Txt × (Tup Txt))) → Prop)) (self_told12 : (List (Txt × (Tup Txt)))) (word13 : Txt) (E : Ex → Prop) : Prop :=
  (((startT x8 (tx "-")) = false → (((endT x8 (tx "-")) = false → (tin (tx "--") x8) = (tin (tx "--") x8)) ∧ ((endT x8 (tx "-")) || (tin (tx "--") x8)) = ((endT x8 (tx "-")) || (tin (tx "--") x8)))) ∧ ((((startT x8 (tx "-")) || ((endT x8 (tx "-")) || (tin (tx "--") x8))) = true → E .BadRule) ∧ (((startT x8 (tx "-")) || ((endT x8 (tx "-")) || (tin (tx "--") x8))) = false → (Hyphens_init_w1 x8 nx11 self_told12 word13))))
abbrev Hyphens_init_w3 (x8 : Txt) (nx11 : ((List (Txt × (Tup Txt))) → Prop)) (self_told12 : (List (Txt × (Tup Txt)))) (word13 : Txt) (E : Ex → Prop) : Prop :=
  (Cl (check_word_W (word13, ())) (fun (r14 : Unit) => (Hyphens_init_w2 x8 nx11 self_told12 word13 E)) E)
abbrev Hyphens_init_w4 (x8 : Txt) (nx11 : ((List (Txt × (Tup Txt))) → Prop)) (self_told12 : (List (Txt × (Tup Txt)))) (E : Ex → Prop) : Prop :=
  (RpOk x8 (tx "") ∧ (Hyphens_init_w3 x8 nx11 self_told12 (replT x8 (tx "-") (tx "")) E))
abbrev Hyphens_init_w5 (first3 : Int) (last4 : Int) (patterns5 : (Tup PatternV)) (self_told20 : (List (Txt × (Tup Txt)))) (Q : HyphensV → Prop) : Prop :=
  Q (HyphensV.mk patterns5 (Dct.mk self_told20) first3 last4)
abbrev Hyphens_init_w6 (told2 : (List Txt)) (first3 : Int) (last4 : Int) (patterns5 : (Tup PatternV)) (told6 : (List (Txt × (Tup Txt)))) (Q : HyphensV → Prop) (E : Ex → Prop) : Prop :=
  (forW told2 told6 (fun (x8 : Txt) (z9 : (List (Txt × (Tup Txt)))) (nx11 : (List (Txt × (Tup Txt))) → Prop) => (Hyphens_init_w4 x8 nx11 z9 E)) (fun (z18 : (List (Txt × (Tup Txt)))) => (Hyphens_init_w5 first3 last4 patterns5 z18 Q)))
abbrev Hyphens_init_w7 (told2 : (List Txt)) (first3 : Int) (last4 : Int) (patterns5 : (Tup PatternV)) (Q : HyphensV → Prop) (E : Ex → Prop) : Prop :=
  (Hyphens_init_w6 told2 first3 last4 patterns5 ([] : List (Txt × (Tup Txt))) Q E)
abbrev Hyphens_init_w (patterns1 : (List PatternV)) (told2 : (List Txt)) (first3 : Int) (last4 : Int) (Q : HyphensV → Prop) (E : Ex → Prop) : Prop :=
  (((decide (first3 < (1 : Int))) = false → (decide (last4 < (1 : Int))) = (decide (last4 < (1 : Int)))) ∧ ((((decide (first3 < (1 : Int))) || (decide (last4 < (1 : Int)))) = true → E .BadRule) ∧ (((decide (first3 < (1 : Int))) || (decide (last4 < (1 : Int)))) = false → (Hyphens_init_w7 told2 first3 last4 (PySem.W.Tup.mk patterns1) Q E))))
abbrev Hyphens_init_W (t : (List PatternV) × (List Txt) × Int × Int × Unit) (Q : HyphensV → Prop) (E : Ex → Prop) : Prop := Hyphens_init_w t.1 t.2.1 t.2.2.1 t.2.2.2.1 Q E
abbrev Hyphens_init_2_w1 (x8 : Txt) (nx11 : ((List (Txt × (Tup Txt))) → Prop)) (self_told12 : (List (Txt × (Tup Txt)))) (word13 : Txt) : Prop :=
  (((tx "-") ≠ [] ∧ x8.length + 2 ≤ sizeLine) ∧ (List.length (splitT x8 (tx "-")) ≤ sizeLine ∧ (∀ x16 ∈ (splitT x8 (tx "-")), x16 = x16) ∧ (self_told12.length < sizeLine ∧ nx11 (dput self_told12 word13 (PySem.W.Tup.mk ((splitT x8 (tx "-")).map (fun (x16 : Txt) => x16)))))))
abbrev Hyphens_init_2_w2 (x8 : Txt) (nx11 : ((List (Txt × (Tup Txt))) → Prop)) (self_told12 : (List (Txt × (Tup Txt)))) (word13 : Txt) (E : Ex → Prop) : Prop :=
  (((startT x8 (tx "-")) = false → (((endT x8 (tx "-")) = false → (tin (tx "--") x8) = (tin (tx "--") x8)) ∧ ((endT x8 (tx "-")) || (tin (tx "--") x8)) = ((endT x8 (tx "-")) || (tin (tx "--") x8)))) ∧ ((((startT x8 (tx "-")) || ((endT x8 (tx "-")) || (tin (tx "--") x8))) = true → E .BadRule) ∧ (((startT x8 (tx "-")) || ((endT x8 (tx "-")) || (tin (tx "--") x8))) = false → (Hyphens_init_2_w1 x8 nx11 self_told12 word13))))
abbrev Hyphens_init_2_w3 (x8 : Txt) (nx11 : ((List (Txt × (Tup Txt))) → Prop)) (self_told12 : (List (Txt × (Tup Txt)))) (word13 : Txt) (E : Ex → Prop) : Prop :=
  (Cl (check_word_W (word13, ())) (fun (r14 : Unit) => (Hyphens_init_2_w2 x8 nx11 self_told12 word13 E)) E)
abbrev Hyphens_init_2_w4 (x8 : Txt) (nx11 : ((List (Txt × (Tup Txt))) → Prop)) (self_told12 : (List (Txt × (Tup Txt)))) (E : Ex → Prop) : Prop :=
  (RpOk x8 (tx "") ∧ (Hyphens_init_2_w3 x8 nx11 self_told12 (replT x8 (tx "-") (tx "")) E))
abbrev Hyphens_init_2_w5 (first3 : Int) (last4 : Int) (patterns5 : (Tup PatternV)) (self_told20 : (List (Txt × (Tup Txt)))) (Q : HyphensV → Prop) : Prop :=
  Q (HyphensV.mk patterns5 (Dct.mk self_told20) first3 last4)
abbrev Hyphens_init_2_w6 (told2 : (Tup Txt)) (first3 : Int) (last4 : Int) (patterns5 : (Tup PatternV)) (told6 : (List (Txt × (Tup Txt)))) (Q : HyphensV → Prop) (E : Ex → Prop) : Prop :=
  (forW told2.items told6 (fun (x8 : Txt) (z9 : (List (Txt × (Tup Txt)))) (nx11 : (List (Txt × (Tup Txt))) → Prop) => (Hyphens_init_2_w4 x8 nx11 z9 E)) (fun (z18 : (List (Txt × (Tup Txt)))) => (Hyphens_init_2_w5 first3 last4 patterns5 z18 Q)))
abbrev Hyphens_init_2_w7 (told2 : (Tup Txt)) (first3 : Int) (last4 : Int) (patterns5 : (Tup PatternV)) (Q : HyphensV → Prop) (E : Ex → Prop) : Prop :=
  (Hyphens_init_2_w6 told2 first3 last4 patterns5 ([] : List (Txt × (Tup Txt))) Q E)
abbrev Hyphens_init_2_w (patterns1 : (Tup PatternV)) (told2 : (Tup Txt)) (first3 : Int) (last4 : Int) (Q : HyphensV → Prop) (E : Ex → Prop) : Prop :=
  (((decide (first3 < (1 : Int))) = false → (decide (last4 < (1 : Int))) = (decide (last4 < (1 : Int)))) ∧ ((((decide (first3 < (1 : Int))) || (decide (last4 < (1 : Int)))) = true → E .BadRule) ∧ (((decide (first3 < (1 : Int))) || (decide (last4 < (1 : Int)))) = false → (Hyphens_init_2_w7 told2 first3 last4 patterns1 Q E))))
abbrev Hyphens_init_2_W (t : (Tup PatternV) × (Tup Txt) × Int × Int × Unit) (Q : HyphensV → Prop) (E : Ex → Prop) : Prop := Hyphens_init_2_w t.1 t.2.1 t.2.2.1 t.2.2.2.1 Q E
abbrev Hyphens_levels_in_w1 (x14 : Int) (x22 : (Int × Int)) (nx25 : ((List Int) → Prop)) (found26 : (List Int)) : Prop :=
  (inR (found26.length) (x14 + x22.1) ∧ (inR found26.length (x14 + x22.1) ∧ nx25 (found26.set (plc found26.length (x14 + x22.1)) (max (ixD found26 (x14 + x22.1)) x22.2))))
abbrev Hyphens_levels_in_w2 (nx21 : ((List Int) → Prop)) (found30 : (List Int)) : Prop :=
  nx21 found30
abbrev Hyphens_levels_in_w3 (x8 : PatternV) (x14 : Int) (found18 : (List Int)) (nx21 : ((List Int) → Prop)) : Prop :=
  (forW (enumD x8.levels.items) found18 (fun (x22 : (Int × Int)) (z23 : (List Int)) (nx25 : (List Int) → Prop) => (Hyphens_levels_in_w1 x14 x22 nx25 z23)) (fun (z28 : (List Int)) => (Hyphens_levels_in_w2 nx21 z28)))
abbrev Hyphens_levels_in_w4 (nx17 : ((List Int) → Prop)) (found31 : (List Int)) : Prop :=
  nx17 found31
abbrev Hyphens_levels_in_w5 (text5 : Txt) (x8 : PatternV) (size13 : Int) (x14 : Int) (nx17 : ((List Int) → Prop)) (found18 : (List Int)) : Prop :=
  (text5.length ≤ sizeLine ∧ (ifJ (decide ((cutD text5 (some x14) (some (x14 + size13))) = x8.letters)) (fun (nx21 : (List Int) → Prop) => (Hyphens_levels_in_w3 x8 x14 found18 nx21)) (fun (nx21 : (List Int) → Prop) => nx21 found18) (fun (z19 : (List Int)) => (Hyphens_levels_in_w4 nx17 z19))))
abbrev Hyphens_levels_in_w6 (nx11 : ((List Int) → Prop)) (found34 : (List Int)) : Prop :=
  nx11 found34
abbrev Hyphens_levels_in_w7 (text5 : Txt) (x8 : PatternV) (nx11 : ((List Int) → Prop)) (found12 : (List Int)) (size13 : Int) : Prop :=
  (text5.length ≤ sizeLine ∧ ((-(2 ^ 62) ≤ (((text5.length : Int) - size13) + (1 : Int)) ∧ (((text5.length : Int) - size13) + (1 : Int)) < 2 ^ 62) ∧ (forW ((List.range ((((text5.length : Int) - size13) + (1 : Int))).toNat).map fun i : Nat => (i : Int)) found12 (fun (x14 : Int) (z15 : (List Int)) (nx17 : (List Int) → Prop) => (Hyphens_levels_in_w5 text5 x8 size13 x14 nx17 z15)) (fun (z32 : (List Int)) => (Hyphens_levels_in_w6 nx11 z32)))))
abbrev Hyphens_levels_in_w8 (text5 : Txt) (x8 : PatternV) (nx11 : ((List Int) → Prop)) (found12 : (List Int)) : Prop :=
  (x8.letters.length ≤ sizeLine ∧ (Hyphens_levels_in_w7 text5 x8 nx11 found12 (x8.letters.length : Int)))
abbrev Hyphens_levels_in_w9 (found37 : (List Int)) (Q : (Tup Int) → Prop) : Prop :=
  Q (PySem.W.Tup.mk (cutD found37 (some (1 : Int)) (some (-(1 : Int)))))
abbrev Hyphens_levels_in_w10 (self1 : HyphensV) (text5 : Txt) (found6 : (List Int)) (Q : (Tup Int) → Prop) : Prop :=
  (forW self1.patterns.items found6 (fun (x8 : PatternV) (z9 : (List Int)) (nx11 : (List Int) → Prop) => (Hyphens_levels_in_w8 text5 x8 nx11 z9)) (fun (z35 : (List Int)) => (Hyphens_levels_in_w9 z35 Q)))
abbrev Hyphens_levels_in_w11 (self1 : HyphensV) (text5 : Txt) (Q : (Tup Int) → Prop) : Prop :=
  (text5.length ≤ sizeLine ∧ ((-(2 ^ 63) ≤ ((text5.length : Int) + (1 : Int)) ∧ ((text5.length : Int) + (1 : Int)) < 2 ^ 63 ∧ [(0 : Int)].length * (((text5.length : Int) + (1 : Int))).toNat ≤ sizeLine) ∧ (Hyphens_levels_in_w10 self1 text5 (List.replicate (((text5.length : Int) + (1 : Int))).toNat [(0 : Int)]).flatten Q)))
abbrev Hyphens_levels_in_w12 (self1 : HyphensV) (word2 : Txt) (Q : (Tup Int) → Prop) : Prop :=
  (List.length (tx ".") + word2.length ≤ sizeLine ∧ (List.length ((tx ".") ++ word2) + List.length (tx ".") ≤ sizeLine ∧ (Hyphens_levels_in_w11 self1 (((tx ".") ++ word2) ++ (tx ".")) Q)))
abbrev Hyphens_levels_in_w (self1 : HyphensV) (word2 : Txt) (Q : (Tup Int) → Prop) (E : Ex → Prop) : Prop :=
  (Cl (check_word_W (word2, ())) (fun (r3 : Unit) => (Hyphens_levels_in_w12 self1 word2 Q)) E)
abbrev Hyphens_levels_in_W (t : HyphensV × Txt × Unit) (Q : (Tup Int) → Prop) (E : Ex → Prop) : Prop := Hyphens_levels_in_w t.1 t.2.1 Q E
abbrev Hyphens_parts_w1 (word2 : Txt) (x9 : Int) (found13 : (List Txt)) (start14 : Int) (nx17 : ((List Txt) × Int → Prop)) : Prop :=
  (word2.length ≤ sizeLine ∧ (found13.length < sizeLine ∧ nx17 ((found13 ++ [(cutD word2 (some start14) (some x9))]), x9)))
abbrev Hyphens_parts_w2 (nx12 : ((List Txt) × Int → Prop)) (found20 : (List Txt)) (start21 : Int) : Prop :=
  nx12 (found20, start21)
abbrev Hyphens_parts_w3 (word2 : Txt) (figures5 : (Tup Int)) (x9 : Int) (nx12 : ((List Txt) × Int → Prop)) (found13 : (List Txt)) (start14 : Int) : Prop :=
  (inR figures5.items.length x9 ∧ (0 < (2 : Int) ∧ (ifJ (decide (((ixD figures5.items x9) % (2 : Int)) = (1 : Int))) (fun (nx17 : (List Txt) × Int → Prop) => (Hyphens_parts_w1 word2 x9 found13 start14 nx17)) (fun (nx17 : (List Txt) × Int → Prop) => nx17 (found13, start14)) (fun (z15 : (List Txt) × Int) => (Hyphens_parts_w2 nx12 z15.1 z15.2)))))
abbrev Hyphens_parts_w4 (word2 : Txt) (found24 : (List Txt)) (start25 : Int) (Q : (Tup Txt) → Prop) : Prop :=
  (word2.length ≤ sizeLine ∧ (found24.length + List.length [(cutD word2 (some start25) none)] ≤ sizeLine ∧ Q (PySem.W.Tup.mk (found24 ++ [(cutD word2 (some start25) none)]))))
abbrev Hyphens_parts_w5 (self1 : HyphensV) (word2 : Txt) (figures5 : (Tup Int)) (found6 : (List Txt)) (start8 : Int) (Q : (Tup Txt) → Prop) : Prop :=
  (word2.length ≤ sizeLine ∧ ((-(2 ^ 62) ≤ self1.first ∧ self1.first < 2 ^ 62 ∧ -(2 ^ 62) ≤ (((word2.length : Int) - self1.last) + (1 : Int)) ∧ (((word2.length : Int) - self1.last) + (1 : Int)) < 2 ^ 62) ∧ (forW ((List.range ((((word2.length : Int) - self1.last) + (1 : Int)) - self1.first).toNat).map fun i : Nat => self1.first + (i : Int)) (found6, start8) (fun (x9 : Int) (z10 : (List Txt) × Int) (nx12 : (List Txt) × Int → Prop) => (Hyphens_parts_w3 word2 figures5 x9 nx12 z10.1 z10.2)) (fun (z22 : (List Txt) × Int) => (Hyphens_parts_w4 word2 z22.1 z22.2 Q)))))
abbrev Hyphens_parts_w6 (self1 : HyphensV) (word2 : Txt) (Q : (Tup Txt) → Prop) (E : Ex → Prop) : Prop :=
  (Cl (Hyphens_levels_in_W (self1, word2, ())) (fun (r4 : (Tup Int)) => (Hyphens_parts_w5 self1 word2 r4 ([] : List Txt) (0 : Int) Q)) E)
abbrev Hyphens_parts_w (self1 : HyphensV) (word2 : Txt) (Q : (Tup Txt) → Prop) (E : Ex → Prop) : Prop :=
  (((dhas self1.told.kvs word2) = true → (dhas self1.told.kvs word2 = true ∧ Q (dgt self1.told.kvs word2))) ∧ ((dhas self1.told.kvs word2) = false → (Hyphens_parts_w6 self1 word2 Q E)))
abbrev Hyphens_parts_W (t : HyphensV × Txt × Unit) (Q : (Tup Txt) → Prop) (E : Ex → Prop) : Prop := Hyphens_parts_w t.1 t.2.1 Q E
abbrev Hyphens_said_w (self1 : HyphensV) (word2 : Txt) (Q : Txt → Prop) (E : Ex → Prop) : Prop :=
  (Cl (Hyphens_parts_W (self1, word2, ())) (fun (r3 : (Tup Txt)) => (lenSum r3.items + r3.items.length * List.length (tx "-") ≤ 16777216 ∧ Q (joinT (tx "-") r3.items))) E)
abbrev Hyphens_said_W (t : HyphensV × Txt × Unit) (Q : Txt → Prop) (E : Ex → Prop) : Prop := Hyphens_said_w t.1 t.2.1 Q E
abbrev Hyphens_splits_w1 (nx9 : ((Option Txt) × Txt → Prop)) (here12 : Txt) (best17 : (Option Txt)) : Prop :=
  nx9 (best17, here12)
abbrev Hyphens_splits_w2 (room3 : Int) (nx9 : ((Option Txt) × Txt → Prop)) (best10 : (Option Txt)) (here12 : Txt) : Prop :=
  (here12.length ≤ sizeLine ∧ (ifJ (decide (((here12.length : Int) + (1 : Int)) ≤ room3)) (fun (nx15 : (Option Txt) → Prop) => nx15 (some here12)) (fun (nx15 : (Option Txt) → Prop) => nx15 best10) (fun (z13 : (Option Txt)) => (Hyphens_splits_w1 nx9 here12 z13))))
abbrev Hyphens_splits_w3 (room3 : Int) (x6 : Txt) (nx9 : ((Option Txt) × Txt → Prop)) (best10 : (Option Txt)) (here11 : Txt) : Prop :=
  (here11.length + x6.length ≤ sizeLine ∧ (Hyphens_splits_w2 room3 nx9 best10 (here11 ++ x6)))
abbrev Hyphens_splits_w4 (word2 : Txt) (best20 : (Option Txt)) (Q : (Txt × Txt) → Prop) : Prop :=
  (best20.isSome = true ∧ (List.length (optG best20) + List.length (tx "-") ≤ sizeLine ∧ (best20.isSome = true ∧ (List.length (optG best20) ≤ sizeLine ∧ (word2.length ≤ sizeLine ∧ Q (((optG best20) ++ (tx "-")), (cutD word2 (some (List.length (optG best20) : Int)) none)))))))
abbrev Hyphens_splits_w5 (word2 : Txt) (best20 : (Option Txt)) (Q : (Txt × Txt) → Prop) (E : Ex → Prop) : Prop :=
  ((best20.isNone = true → E .NoWay) ∧ (best20.isNone = false → (Hyphens_splits_w4 word2 best20 Q)))
abbrev Hyphens_splits_w6 (self1 : HyphensV) (word2 : Txt) (room3 : Int) (u4 : ((Option Txt) × Txt)) (Q : (Txt × Txt) → Prop) (E : Ex → Prop) : Prop :=
  (Cl (Hyphens_parts_W (self1, word2, ())) (fun (r5 : (Tup Txt)) => (forW (PySem.W.Tup.mk (cutD r5.items none (some (-(1 : Int))))).items (u4.1, u4.2) (fun (x6 : Txt) (z7 : (Option Txt) × Txt) (nx9 : (Option Txt) × Txt → Prop) => (Hyphens_splits_w3 room3 x6 nx9 z7.1 z7.2)) (fun (z18 : (Option Txt) × Txt) => (Hyphens_splits_w5 word2 z18.1 Q E)))) NoE)
abbrev Hyphens_splits_w (self1 : HyphensV) (word2 : Txt) (room3 : Int) (Q : (Txt × Txt) → Prop) (E : Ex → Prop) : Prop :=
  (Hyphens_splits_w6 self1 word2 room3 ((none : (Option Txt)), (tx "")) Q E)
abbrev Hyphens_splits_W (t : HyphensV × Txt × Int × Unit) (Q : (Txt × Txt) → Prop) (E : Ex → Prop) : Prop := Hyphens_splits_w t.1 t.2.1 t.2.2.1 Q E
abbrev Hyphens_lines_w1 (nx11 : ((List Txt) × Txt × (List Txt) → Prop)) (found12 : (List Txt)) (word16 : Txt) (left17 : (List Txt)) (v20 : Txt) : Prop :=
  ((left17.length < sizeLine ∧ 0 ≤ (0 : Int) ∧ (0 : Int) < 2 ^ 63) ∧ nx11 ((found12 ++ [v20]), (tx ""), (List.take ((0 : Int)).toNat left17 ++ [word16] ++ List.drop ((0 : Int)).toNat left17)))
abbrev Hyphens_lines_w2 (nx11 : ((List Txt) × Txt × (List Txt) → Prop)) (found12 : (List Txt)) (here13 : Txt) (word16 : Txt) (left17 : (List Txt)) : Prop :=
  (found12.length < sizeLine ∧ (Hyphens_lines_w1 nx11 found12 word16 left17 here13))
abbrev Hyphens_lines_w3 (nx11 : ((List Txt) × Txt × (List Txt) → Prop)) (found12 : (List Txt)) (here13 : Txt) (word16 : Txt) (left17 : (List Txt)) (E : Ex → Prop) : Prop :=
  (((decide (here13 = (tx ""))) = true → E .NoWay) ∧ ((decide (here13 = (tx ""))) = false → (Hyphens_lines_w2 nx11 found12 here13 word16 left17)))
abbrev Hyphens_lines_w4 (nx11 : ((List Txt) × Txt × (List Txt) → Prop)) (found12 : (List Txt)) (left17 : (List Txt)) (u24 : (Txt × Txt)) (v25 : Txt) : Prop :=
  ((left17.length < sizeLine ∧ 0 ≤ (0 : Int) ∧ (0 : Int) < 2 ^ 63) ∧ nx11 ((found12 ++ [v25]), (tx ""), (List.take ((0 : Int)).toNat left17 ++ [u24.2] ++ List.drop ((0 : Int)).toNat left17)))
abbrev Hyphens_lines_w5 (nx11 : ((List Txt) × Txt × (List Txt) → Prop)) (found12 : (List Txt)) (left17 : (List Txt)) (lead18 : Txt) (u24 : (Txt × Txt)) : Prop :=
  (lead18.length + u24.1.length ≤ sizeLine ∧ (found12.length < sizeLine ∧ (Hyphens_lines_w4 nx11 found12 left17 u24 (lead18 ++ u24.1))))
abbrev Hyphens_lines_w6 (self1 : HyphensV) (wide3 : Int) (nx11 : ((List Txt) × Txt × (List Txt) → Prop)) (found12 : (List Txt)) (here13 : Txt) (word16 : Txt) (left17 : (List Txt)) (lead18 : Txt) (E : Ex → Prop) : Prop :=
  (lead18.length ≤ sizeLine ∧ (Cl (Hyphens_splits_W (self1, word16, (wide3 - (lead18.length : Int)), ())) (fun (r23 : (Txt × Txt)) => (Hyphens_lines_w5 nx11 found12 left17 lead18 r23)) (fun e9 => e9 = .NoWay ∧ (Hyphens_lines_w3 nx11 found12 here13 word16 left17 E))))
abbrev Hyphens_lines_w7 (nx11 : ((List Txt) × Txt × (List Txt) → Prop)) (found12 : (List Txt)) (word16 : Txt) (left17 : (List Txt)) (lead18 : Txt) : Prop :=
  (lead18.length + word16.length ≤ sizeLine ∧ nx11 (found12, (lead18 ++ word16), left17))
abbrev Hyphens_lines_w8 (self1 : HyphensV) (wide3 : Int) (nx11 : ((List Txt) × Txt × (List Txt) → Prop)) (found12 : (List Txt)) (here13 : Txt) (word16 : Txt) (left17 : (List Txt)) (lead18 : Txt) (E : Ex → Prop) : Prop :=
  (Hyphens_lines_w6 self1 wide3 nx11 found12 here13 word16 left17 lead18 E)
abbrev Hyphens_lines_w9 (self1 : HyphensV) (wide3 : Int) (nx11 : ((List Txt) × Txt × (List Txt) → Prop)) (found12 : (List Txt)) (here13 : Txt) (word16 : Txt) (left17 : (List Txt)) (lead18 : Txt) (E : Ex → Prop) : Prop :=
  (lead18.length ≤ sizeLine ∧ (word16.length ≤ sizeLine ∧ (((decide (((lead18.length : Int) + (word16.length : Int)) ≤ wide3)) = true → (Hyphens_lines_w7 nx11 found12 word16 left17 lead18)) ∧ ((decide (((lead18.length : Int) + (word16.length : Int)) ≤ wide3)) = false → (Hyphens_lines_w8 self1 wide3 nx11 found12 here13 word16 left17 lead18 E)))))
abbrev Hyphens_lines_w10 (self1 : HyphensV) (wide3 : Int) (nx11 : ((List Txt) × Txt × (List Txt) → Prop)) (found12 : (List Txt)) (here13 : Txt) (word16 : Txt) (left17 : (List Txt)) (E : Ex → Prop) : Prop :=
  (((decide (here13 ≠ (tx ""))) = true → (here13.length + List.length (tx " ") ≤ sizeLine ∧ (here13 ++ (tx " ")) = (here13 ++ (tx " ")))) ∧ ((decide (here13 ≠ (tx ""))) = false → (tx "") = (tx "")) ∧ (Hyphens_lines_w9 self1 wide3 nx11 found12 here13 word16 left17 (if (decide (here13 ≠ (tx ""))) = true then (here13 ++ (tx " ")) else (tx "")) E))
abbrev Hyphens_lines_w11 (self1 : HyphensV) (wide3 : Int) (nx11 : ((List Txt) × Txt × (List Txt) → Prop)) (found12 : (List Txt)) (here13 : Txt) (left14 : (List Txt)) (E : Ex → Prop) : Prop :=
  ((inR left14.length (0 : Int) ∧ -(2 ^ 63) ≤ (0 : Int) ∧ (0 : Int) < 2 ^ 63) ∧ (Hyphens_lines_w10 self1 wide3 nx11 found12 here13 (ixD left14 (0 : Int)) (left14.eraseIdx (plc left14.length (0 : Int))) E))
abbrev Hyphens_lines_w12 (found30 : (List Txt)) (here31 : Txt) (Q : (Tup Txt) → Prop) : Prop :=
  (((decide (here31 ≠ (tx ""))) = true → [here31] = [here31]) ∧ ((decide (here31 ≠ (tx ""))) = false → ([] : List Txt) = ([] : List Txt)) ∧ (found30.length + List.length (if (decide (here31 ≠ (tx ""))) = true then [here31] else ([] : List Txt)) ≤ sizeLine ∧ Q (PySem.W.Tup.mk (found30 ++ (if (decide (here31 ≠ (tx ""))) = true then [here31] else ([] : List Txt))))))
abbrev Hyphens_lines_w13 (self1 : HyphensV) (wide3 : Int) (found4 : (List Txt)) (here6 : Txt) (left7 : (List Txt)) (Q : (Tup Txt) → Prop) (E : Ex → Prop) : Prop :=
  (whileW (found4, here6, left7) (fun (z9 : (List Txt) × Txt × (List Txt)) (k15 : Bool → Prop) => k15 (decide (z9.2.2 ≠ ([] : List Txt)))) (fun (z9 : (List Txt) × Txt × (List Txt)) (nx11 : (List Txt) × Txt × (List Txt) → Prop) => (Hyphens_lines_w11 self1 wide3 nx11 z9.1 z9.2.1 z9.2.2 E)) (fun (z28 : (List Txt) × Txt × (List Txt)) => (Hyphens_lines_w12 z28.1 z28.2.1 Q)))
abbrev Hyphens_lines_w (self1 : HyphensV) (words2 : (List Txt)) (wide3 : Int) (Q : (Tup Txt) → Prop) (E : Ex → Prop) : Prop :=
  (Hyphens_lines_w13 self1 wide3 ([] : List Txt) (tx "") words2 Q E)
abbrev Hyphens_lines_W (t : HyphensV × (List Txt) × Int × Unit) (Q : (Tup Txt) → Prop) (E : Ex → Prop) : Prop := Hyphens_lines_w t.1 t.2.1 t.2.2.1 Q E
abbrev Hyphens_with_pattern_w1 (self1 : HyphensV) (found4 : HyphensV) (Q : HyphensV → Prop) : Prop :=
  Q (HyphensV.mk found4.patterns (Dct.mk (dmerge [] self1.told.kvs)) found4.first found4.last)
abbrev Hyphens_with_pattern_w (self1 : HyphensV) (pattern2 : PatternV) (Q : HyphensV → Prop) (E : Ex → Prop) : Prop :=
  (self1.patterns.items.length + (PySem.W.Tup.mk [pattern2]).items.length ≤ sizeLine ∧ (Cl (Hyphens_init_2_W ((PySem.W.Tup.mk (self1.patterns.items ++ (PySem.W.Tup.mk [pattern2]).items)), (PySem.W.Tup.mk ([] : List Txt)), self1.first, self1.last, ())) (fun (r3 : HyphensV) => (Hyphens_with_pattern_w1 self1 r3 Q)) E))
abbrev Hyphens_with_pattern_W (t : HyphensV × PatternV × Unit) (Q : HyphensV → Prop) (E : Ex → Prop) : Prop := Hyphens_with_pattern_w t.1 t.2.1 Q E
abbrev look_told_w1 (rows9 : (List Txt)) (Q : (Tup Txt) → Prop) : Prop :=
  (rows9.length ≤ sizeLine ∧ ∃ h11 : Txt → Txt, (∀ x10 ∈ rows9, (RpOk x10 (tx "") ∧ (replT x10 (tx "-") (tx "")) = h11 x10)) ∧ Q (PySem.W.Tup.mk (srt (rows9.map h11))))
abbrev look_told_w2 (told2 : (List Txt)) (bare4 : HyphensV) (Q : (Tup Txt) → Prop) : Prop :=
  (told2.length ≤ sizeLine ∧ ∃ (c8 : Txt → Bool) (h7 : Txt → Txt), (∀ x5 ∈ told2, (RpOk x5 (tx "") ∧ (Cl (Hyphens_said_W (bare4, (replT x5 (tx "-") (tx "")), ())) (fun (r6 : Txt) => (decide (r6 ≠ x5)) = c8 x5) NoE))) ∧ (∀ x5 ∈ told2, c8 x5 = true → x5 = h7 x5) ∧ (look_told_w1 ((told2.filter c8).map h7) Q))
abbrev look_told_w (hyphens1 : HyphensV) (told2 : (List Txt)) (Q : (Tup Txt) → Prop) (E : Ex → Prop) : Prop :=
  (Cl (Hyphens_init_2_W (hyphens1.patterns, (PySem.W.Tup.mk ([] : List Txt)), hyphens1.first, hyphens1.last, ())) (fun (r3 : HyphensV) => (look_told_w2 told2 r3 Q)) E)
abbrev look_told_W (t : HyphensV × (List Txt) × Unit) (Q : (Tup Txt) → Prop) (E : Ex → Prop) : Prop := look_told_w t.1 t.2.1 Q E
abbrev joints_w1 (x5 : Txt) (nx8 : ((List Int) × Int → Prop)) (found9 : (List Int)) (here10 : Int) : Prop :=
  (x5.length ≤ sizeLine ∧ (found9.length < sizeLine ∧ nx8 ((found9 ++ [(here10 + (x5.length : Int))]), (here10 + (x5.length : Int)))))
abbrev joints_w2 (found15 : (List Int)) (Q : (Tup Int) → Prop) : Prop :=
  Q (PySem.W.Tup.mk found15)
abbrev joints_w3 (parts1 : (Tup Txt)) (found2 : (List Int)) (here3 : Int) (Q : (Tup Int) → Prop) : Prop :=
  (forW (PySem.W.Tup.mk (cutD parts1.items none (some (-(1 : Int))))).items (found2, here3) (fun (x5 : Txt) (z6 : (List Int) × Int) (nx8 : (List Int) × Int → Prop) => (joints_w1 x5 nx8 z6.1 z6.2)) (fun (z13 : (List Int) × Int) => (joints_w2 z13.1 Q)))
abbrev joints_w (parts1 : (Tup Txt)) (Q : (Tup Int) → Prop) (E : Ex → Prop) : Prop :=
  (joints_w3 parts1 ([] : List Int) (0 : Int) Q)
abbrev joints_W (t : (Tup Txt) × Unit) (Q : (Tup Int) → Prop) (E : Ex → Prop) : Prop := joints_w t.1 Q E
abbrev marks_right_w1 (nx7 : (Int × Int × Int → Prop)) (lost10 : Int) (u15 : ((Tup Int) × (Tup Int))) (good17 : Int) (wrong19 : Int) : Prop :=
  (u15.1.items = u15.1.items ∧ (∀ x20 ∈ u15.1.items, (niL x20 u15.2.items) = (niL x20 u15.2.items)) ∧ (∀ x20 ∈ u15.1.items, (niL x20 u15.2.items) = true → (1 : Int) = (1 : Int)) ∧ SumOk ((u15.1.items.filter (fun (x20 : Int) => (niL x20 u15.2.items))).map (fun (x20 : Int) => (1 : Int))) ∧ nx7 (good17, wrong19, (lost10 + ((u15.1.items.filter (fun (x20 : Int) => (niL x20 u15.2.items))).map (fun (x20 : Int) => (1 : Int))).sum)))
abbrev marks_right_w2 (nx7 : (Int × Int × Int → Prop)) (wrong9 : Int) (lost10 : Int) (u15 : ((Tup Int) × (Tup Int))) (good17 : Int) : Prop :=
  (u15.2.items = u15.2.items ∧ (∀ x18 ∈ u15.2.items, (niL x18 u15.1.items) = (niL x18 u15.1.items)) ∧ (∀ x18 ∈ u15.2.items, (niL x18 u15.1.items) = true → (1 : Int) = (1 : Int)) ∧ SumOk ((u15.2.items.filter (fun (x18 : Int) => (niL x18 u15.1.items))).map (fun (x18 : Int) => (1 : Int))) ∧ (marks_right_w1 nx7 lost10 u15 good17 (wrong9 + ((u15.2.items.filter (fun (x18 : Int) => (niL x18 u15.1.items))).map (fun (x18 : Int) => (1 : Int))).sum)))
abbrev marks_right_w3 (nx7 : (Int × Int × Int → Prop)) (good8 : Int) (wrong9 : Int) (lost10 : Int) (u15 : ((Tup Int) × (Tup Int))) : Prop :=
  (u15.2.items = u15.2.items ∧ (∀ x16 ∈ u15.2.items, (inL x16 u15.1.items) = (inL x16 u15.1.items)) ∧ (∀ x16 ∈ u15.2.items, (inL x16 u15.1.items) = true → (1 : Int) = (1 : Int)) ∧ SumOk ((u15.2.items.filter (fun (x16 : Int) => (inL x16 u15.1.items))).map (fun (x16 : Int) => (1 : Int))) ∧ (marks_right_w2 nx7 wrong9 lost10 u15 (good8 + ((u15.2.items.filter (fun (x16 : Int) => (inL x16 u15.1.items))).map (fun (x16 : Int) => (1 : Int))).sum)))
abbrev marks_right_w4 (hyphens1 : HyphensV) (x4 : Txt) (nx7 : (Int × Int × Int → Prop)) (good8 : Int) (wrong9 : Int) (lost10 : Int) (word11 : Txt) (E : Ex → Prop) : Prop :=
  (((tx "-") ≠ [] ∧ x4.length + 2 ≤ sizeLine) ∧ (Cl (joints_W ((PySem.W.Tup.mk (splitT x4 (tx "-"))), ())) (fun (r12 : (Tup Int)) => (Cl (Hyphens_parts_W (hyphens1, word11, ())) (fun (r13 : (Tup Txt)) => (Cl (joints_W (r13, ())) (fun (r14 : (Tup Int)) => (marks_right_w3 nx7 good8 wrong9 lost10 (r12, r14))) E)) E)) E))
abbrev marks_right_w5 (hyphens1 : HyphensV) (x4 : Txt) (nx7 : (Int × Int × Int → Prop)) (good8 : Int) (wrong9 : Int) (lost10 : Int) (E : Ex → Prop) : Prop :=
  (RpOk x4 (tx "") ∧ (marks_right_w4 hyphens1 x4 nx7 good8 wrong9 lost10 (replT x4 (tx "-") (tx "")) E))
abbrev marks_right_w6 (good24 : Int) (wrong25 : Int) (lost26 : Int) (Q : (T3 Int Int Int) → Prop) : Prop :=
  Q (PySem.W.T3.mk good24 wrong25 lost26)
abbrev marks_right_w7 (hyphens1 : HyphensV) (told2 : (List Txt)) (good3 : Int) (Q : (T3 Int Int Int) → Prop) (E : Ex → Prop) : Prop :=
  (forW told2 (good3, good3, good3) (fun (x4 : Txt) (z5 : Int × Int × Int) (nx7 : Int × Int × Int → Prop) => (marks_right_w5 hyphens1 x4 nx7 z5.1 z5.2.1 z5.2.2 E)) (fun (z22 : Int × Int × Int) => (marks_right_w6 z22.1 z22.2.1 z22.2.2 Q)))
abbrev marks_right_w (hyphens1 : HyphensV) (told2 : (List Txt)) (Q : (T3 Int Int Int) → Prop) (E : Ex → Prop) : Prop :=
  (marks_right_w7 hyphens1 told2 (0 : Int) Q E)
abbrev marks_right_W (t : HyphensV × (List Txt) × Unit) (Q : (T3 Int Int Int) → Prop) (E : Ex → Prop) : Prop := marks_right_w t.1 t.2.1 Q E
abbrev by_beats_w1 (vowels3 : (List Int)) (x6 : Int) (cuts10 : (List Int)) (nx13 : ((List Int) → Prop)) : Prop :=
  (inR (vowels3.length) x6 ∧ (cuts10.length < sizeLine ∧ nx13 (cuts10 ++ [((ixD vowels3 x6) - (1 : Int))])))
abbrev by_beats_w2 (nx9 : ((List Int) → Prop)) (cuts15 : (List Int)) : Prop :=
  nx9 cuts15
abbrev by_beats_w3 (vowels3 : (List Int)) (x6 : Int) (nx9 : ((List Int) → Prop)) (cuts10 : (List Int)) : Prop :=
  (inR (vowels3.length) x6 ∧ (inR (vowels3.length) (x6 - (1 : Int)) ∧ (ifJ (decide ((1 : Int) < ((ixD vowels3 x6) - (ixD vowels3 (x6 - (1 : Int)))))) (fun (nx13 : (List Int) → Prop) => (by_beats_w1 vowels3 x6 cuts10 nx13)) (fun (nx13 : (List Int) → Prop) => nx13 cuts10) (fun (z11 : (List Int)) => (by_beats_w2 nx9 z11)))))
abbrev by_beats_w4 (word1 : Txt) (x22 : Int) (nx25 : ((List Txt) × Int → Prop)) (found26 : (List Txt)) (start27 : Int) : Prop :=
  (word1.length ≤ sizeLine ∧ (found26.length < sizeLine ∧ nx25 ((found26 ++ [(cutD word1 (some start27) (some x22))]), x22)))
abbrev by_beats_w5 (word1 : Txt) (found32 : (List Txt)) (start33 : Int) (Q : (Tup Txt) → Prop) : Prop :=
  (word1.length ≤ sizeLine ∧ (found32.length + List.length [(cutD word1 (some start33) none)] ≤ sizeLine ∧ Q (PySem.W.Tup.mk (found32 ++ [(cutD word1 (some start33) none)]))))
abbrev by_beats_w6 (word1 : Txt) (cuts18 : (List Int)) (found19 : (List Txt)) (start20 : Int) (Q : (Tup Txt) → Prop) : Prop :=
  (forW cuts18 (found19, start20) (fun (x22 : Int) (z23 : (List Txt) × Int) (nx25 : (List Txt) × Int → Prop) => (by_beats_w4 word1 x22 nx25 z23.1 z23.2)) (fun (z30 : (List Txt) × Int) => (by_beats_w5 word1 z30.1 z30.2 Q)))
abbrev by_beats_w7 (word1 : Txt) (cuts18 : (List Int)) (Q : (Tup Txt) → Prop) : Prop :=
  (by_beats_w6 word1 cuts18 ([] : List Txt) (0 : Int) Q)
abbrev by_beats_w8 (word1 : Txt) (vowels3 : (List Int)) (cuts4 : (List Int)) (Q : (Tup Txt) → Prop) : Prop :=
  ((-(2 ^ 62) ≤ (1 : Int) ∧ (1 : Int) < 2 ^ 62 ∧ -(2 ^ 62) ≤ (vowels3.length : Int) ∧ (vowels3.length : Int) < 2 ^ 62) ∧ (forW ((List.range ((vowels3.length : Int) - (1 : Int)).toNat).map fun i : Nat => (1 : Int) + (i : Int)) cuts4 (fun (x6 : Int) (z7 : (List Int)) (nx9 : (List Int) → Prop) => (by_beats_w3 vowels3 x6 nx9 z7)) (fun (z16 : (List Int)) => (by_beats_w7 word1 z16 Q))))
abbrev by_beats_w (word1 : Txt) (Q : (Tup Txt) → Prop) (E : Ex → Prop) : Prop :=
  (List.length (enumD (word1.map fun c => [c])) ≤ sizeLine ∧ (∀ x2 ∈ (enumD (word1.map fun c => [c])), (tin x2.2 (tx "aeiou")) = (tin x2.2 (tx "aeiou"))) ∧ (∀ x2 ∈ (enumD (word1.map fun c => [c])), (tin x2.2 (tx "aeiou")) = true → x2.1 = x2.1) ∧ (by_beats_w8 word1 (((enumD (word1.map fun c => [c])).filter (fun (x2 : (Int × Txt)) => (tin x2.2 (tx "aeiou")))).map (fun (x2 : (Int × Txt)) => x2.1)) ([] : List Int) Q))
abbrev by_beats_W (t : Txt × Unit) (Q : (Tup Txt) → Prop) (E : Ex → Prop) : Prop := by_beats_w t.1 Q E
abbrev law_word_w (letters1 : Txt) (least2 : Int) (most3 : Int) (Q : Txt → Prop) (E : Ex → Prop) : Prop :=
  (ClD (rollW (((most3 - least2) + (1 : Int)), ())) fun (r4 : Int) => ((-(2 ^ 62) ≤ (least2 + r4) ∧ (least2 + r4) < 2 ^ 62) ∧ (List.length ((List.range ((least2 + r4)).toNat).map fun i : Nat => (i : Int)) ≤ sizeLine ∧ ∃ P7 : Int → Txt → Prop, (∀ x5 ∈ ((List.range ((least2 + r4)).toNat).map fun i : Nat => (i : Int)), ((letters1.length ≤ sizeLine ∧ ClD (rollW ((letters1.length : Int), ())) fun (r6 : Int) => (letters1.length ≤ sizeLine ∧ inR letters1.length r6 ∧ P7 x5 (ixS letters1 r6))))) ∧ ∀ ys8, Each P7 ((List.range ((least2 + r4)).toNat).map fun i : Nat => (i : Int)) ys8 → (lenSum ys8 + ys8.length * List.length (tx "") ≤ 16777216 ∧ Q (joinT (tx "") ys8)))))
abbrev law_word_W (t : Txt × Int × Int × Unit) (Q : Txt → Prop) (E : Ex → Prop) : Prop := law_word_w t.1 t.2.1 t.2.2.1 Q E
abbrev law_pattern_w1 (letters5 : Txt) (figures10 : (List Int)) (x11 : Int) (nx14 : (Txt → Prop)) (text15 : Txt) : Prop :=
  (inR (figures10.length) x11 ∧ (((decide ((0 : Int) < (ixD figures10 x11))) = true → (inR (figures10.length) x11 ∧ (((ixD figures10 x11)).natAbs.log2 < 1920 ∧ (strI (ixD figures10 x11)) = (strI (ixD figures10 x11))))) ∧ ((decide ((0 : Int) < (ixD figures10 x11))) = false → (tx "") = (tx "")) ∧ (text15.length + List.length (if (decide ((0 : Int) < (ixD figures10 x11))) = true then (strI (ixD figures10 x11)) else (tx "")) ≤ sizeLine ∧ (letters5.length ≤ sizeLine ∧ inR letters5.length x11 ∧ (List.length (text15 ++ (if (decide ((0 : Int) < (ixD figures10 x11))) = true then (strI (ixD figures10 x11)) else (tx ""))) + List.length (ixS letters5 x11) ≤ sizeLine ∧ nx14 ((text15 ++ (if (decide ((0 : Int) < (ixD figures10 x11))) = true then (strI (ixD figures10 x11)) else (tx ""))) ++ (ixS letters5 x11)))))))
abbrev law_pattern_w2 (letters5 : Txt) (figures10 : (List Int)) (text19 : Txt) (Q : (T3 Txt Txt (List Int)) → Prop) : Prop :=
  (letters5.length ≤ sizeLine ∧ (inR (figures10.length) (letters5.length : Int) ∧ (((decide ((0 : Int) < (ixD figures10 (letters5.length : Int)))) = true → (letters5.length ≤ sizeLine ∧ (inR (figures10.length) (letters5.length : Int) ∧ (((ixD figures10 (letters5.length : Int))).natAbs.log2 < 1920 ∧ (strI (ixD figures10 (letters5.length : Int))) = (strI (ixD figures10 (letters5.length : Int))))))) ∧ ((decide ((0 : Int) < (ixD figures10 (letters5.length : Int)))) = false → (tx "") = (tx "")) ∧ (text19.length + List.length (if (decide ((0 : Int) < (ixD figures10 (letters5.length : Int)))) = true then (strI (ixD figures10 (letters5.length : Int))) else (tx "")) ≤ sizeLine ∧ Q (PySem.W.T3.mk (text19 ++ (if (decide ((0 : Int) < (ixD figures10 (letters5.length : Int)))) = true then (strI (ixD figures10 (letters5.length : Int))) else (tx ""))) letters5 figures10)))))
abbrev law_pattern_w3 (text3 : Txt) (letters5 : Txt) (figures10 : (List Int)) (Q : (T3 Txt Txt (List Int)) → Prop) : Prop :=
  (letters5.length ≤ sizeLine ∧ ((-(2 ^ 62) ≤ (letters5.length : Int) ∧ (letters5.length : Int) < 2 ^ 62) ∧ (forW ((List.range ((letters5.length : Int)).toNat).map fun i : Nat => (i : Int)) text3 (fun (x11 : Int) (z12 : Txt) (nx14 : Txt → Prop) => (law_pattern_w1 letters5 figures10 x11 nx14 z12)) (fun (z17 : Txt) => (law_pattern_w2 letters5 figures10 z17 Q)))))
abbrev law_pattern_w4 (text3 : Txt) (letters5 : Txt) (Q : (T3 Txt Txt (List Int)) → Prop) : Prop :=
  (letters5.length ≤ sizeLine ∧ ((-(2 ^ 62) ≤ ((letters5.length : Int) + (1 : Int)) ∧ ((letters5.length : Int) + (1 : Int)) < 2 ^ 62) ∧ (List.length ((List.range (((letters5.length : Int) + (1 : Int))).toNat).map fun i : Nat => (i : Int)) ≤ sizeLine ∧ ∃ P8 : Int → Int → Prop, (∀ x6 ∈ ((List.range (((letters5.length : Int) + (1 : Int))).toNat).map fun i : Nat => (i : Int)), (ClD (rollW ((4 : Int), ())) fun (r7 : Int) => P8 x6 r7)) ∧ ∀ ys9, Each P8 ((List.range (((letters5.length : Int) + (1 : Int))).toNat).map fun i : Nat => (i : Int)) ys9 → (law_pattern_w3 text3 letters5 ys9 Q))))
abbrev law_pattern_w5 (letters2 : Txt) (text3 : Txt) (Q : (T3 Txt Txt (List Int)) → Prop) : Prop :=
  (ClD (rollW ((2 : Int), ())) fun (r4 : Int) => (inR (List.length [(tx ""), (tx ".")]) r4 ∧ (List.length (ixD [(tx ""), (tx ".")] r4) + letters2.length ≤ sizeLine ∧ (law_pattern_w4 text3 ((ixD [(tx ""), (tx ".")] r4) ++ letters2) Q))))
abbrev law_pattern_w  (Q : (T3 Txt Txt (List Int)) → Prop) (E : Ex → Prop) : Prop :=
  (ClD (law_word_W ((tx "abc"), (1 : Int), (3 : Int), ())) fun (r1 : Txt) => (law_pattern_w5 r1 (tx "") Q))
abbrev law_pattern_W (t : Unit) (Q : (T3 Txt Txt (List Int)) → Prop) (E : Ex → Prop) : Prop := law_pattern_w  Q E
abbrev law_levels_w1 (whole3 : Txt) (x6 : Int) (x12 : (T3 Txt Txt (List Int))) (nx15 : ((List Int) → Prop)) (here16 : (List Int)) : Prop :=
  (whole3.length ≤ sizeLine ∧ (x12.b.length ≤ sizeLine ∧ ((-(2 ^ 62) ≤ (((whole3.length : Int) - (x12.b.length : Int)) + (1 : Int)) ∧ (((whole3.length : Int) - (x12.b.length : Int)) + (1 : Int)) < 2 ^ 62) ∧ (List.length ((List.range ((((whole3.length : Int) - (x12.b.length : Int)) + (1 : Int))).toNat).map fun i : Nat => (i : Int)) ≤ sizeLine ∧ (∀ x17 ∈ ((List.range ((((whole3.length : Int) - (x12.b.length : Int)) + (1 : Int))).toNat).map fun i : Nat => (i : Int)), (x12.b.length ≤ sizeLine ∧ (whole3.length ≤ sizeLine ∧ (((decide ((cutD whole3 (some x17) (some (x17 + (x12.b.length : Int)))) = x12.b)) = true → ((decide ((0 : Int) ≤ (x6 - x17)) = true → (x12.b.length ≤ sizeLine ∧ (x12.b.length : Int) = (x12.b.length : Int))) ∧ (decide ((0 : Int) ≤ (x6 - x17)) && decide ((x6 - x17) ≤ (x12.b.length : Int))) = (decide ((0 : Int) ≤ (x6 - x17)) && decide ((x6 - x17) ≤ (x12.b.length : Int))))) ∧ ((decide ((cutD whole3 (some x17) (some (x17 + (x12.b.length : Int)))) = x12.b)) && (decide ((0 : Int) ≤ (x6 - x17)) && decide ((x6 - x17) ≤ (x12.b.length : Int)))) = ((decide ((cutD whole3 (some x17) (some (x17 + (x12.b.length : Int)))) = x12.b)) && (decide ((0 : Int) ≤ (x6 - x17)) && decide ((x6 - x17) ≤ (x12.b.length : Int)))))))) ∧ (∀ x17 ∈ ((List.range ((((whole3.length : Int) - (x12.b.length : Int)) + (1 : Int))).toNat).map fun i : Nat => (i : Int)), ((decide ((cutD whole3 (some x17) (some (x17 + (x12.b.length : Int)))) = x12.b)) && (decide ((0 : Int) ≤ (x6 - x17)) && decide ((x6 - x17) ≤ (x12.b.length : Int)))) = true → (inR (x12.c.length) (x6 - x17) ∧ (ixD x12.c (x6 - x17)) = (ixD x12.c (x6 - x17)))) ∧ (here16.length + List.length ((((List.range ((((whole3.length : Int) - (x12.b.length : Int)) + (1 : Int))).toNat).map fun i : Nat => (i : Int)).filter (fun (x17 : Int) => ((decide ((cutD whole3 (some x17) (some (x17 + (x12.b.length : Int)))) = x12.b)) && (decide ((0 : Int) ≤ (x6 - x17)) && decide ((x6 - x17) ≤ (x12.b.length : Int)))))).map (fun (x17 : Int) => (ixD x12.c (x6 - x17)))) ≤ sizeLine ∧ nx15 (here16 ++ ((((List.range ((((whole3.length : Int) - (x12.b.length : Int)) + (1 : Int))).toNat).map fun i : Nat => (i : Int)).filter (fun (x17 : Int) => ((decide ((cutD whole3 (some x17) (some (x17 + (x12.b.length : Int)))) = x12.b)) && (decide ((0 : Int) ≤ (x6 - x17)) && decide ((x6 - x17) ≤ (x12.b.length : Int)))))).map (fun (x17 : Int) => (ixD x12.c (x6 - x17))))))))))
abbrev law_levels_w2 (nx9 : ((List Int) → Prop)) (found10 : (List Int)) (here21 : (List Int)) : Prop :=
  (here21 ≠ [] ∧ (found10.length < sizeLine ∧ nx9 (found10 ++ [(maxL here21)])))
abbrev law_levels_w3 (patterns1 : (List (T3 Txt Txt (List Int)))) (whole3 : Txt) (x6 : Int) (nx9 : ((List Int) → Prop)) (found10 : (List Int)) (here11 : (List Int)) : Prop :=
  (forW patterns1 here11 (fun (x12 : (T3 Txt Txt (List Int))) (z13 : (List Int)) (nx15 : (List Int) → Prop) => (law_levels_w1 whole3 x6 x12 nx15 z13)) (fun (z19 : (List Int)) => (law_levels_w2 nx9 found10 z19)))
abbrev law_levels_w4 (patterns1 : (List (T3 Txt Txt (List Int)))) (whole3 : Txt) (x6 : Int) (nx9 : ((List Int) → Prop)) (found10 : (List Int)) : Prop :=
  (law_levels_w3 patterns1 whole3 x6 nx9 found10 [(0 : Int)])
abbrev law_levels_w5 (found25 : (List Int)) (Q : (List Int) → Prop) : Prop :=
  Q found25
abbrev law_levels_w6 (patterns1 : (List (T3 Txt Txt (List Int)))) (whole3 : Txt) (found4 : (List Int)) (Q : (List Int) → Prop) : Prop :=
  (whole3.length ≤ sizeLine ∧ ((-(2 ^ 62) ≤ (1 : Int) ∧ (1 : Int) < 2 ^ 62 ∧ -(2 ^ 62) ≤ (whole3.length : Int) ∧ (whole3.length : Int) < 2 ^ 62) ∧ (forW ((List.range ((whole3.length : Int) - (1 : Int)).toNat).map fun i : Nat => (1 : Int) + (i : Int)) found4 (fun (x6 : Int) (z7 : (List Int)) (nx9 : (List Int) → Prop) => (law_levels_w4 patterns1 whole3 x6 nx9 z7)) (fun (z23 : (List Int)) => (law_levels_w5 z23 Q)))))
abbrev law_levels_w (patterns1 : (List (T3 Txt Txt (List Int)))) (word2 : Txt) (Q : (List Int) → Prop) (E : Ex → Prop) : Prop :=
  (List.length (tx ".") + word2.length ≤ sizeLine ∧ (List.length ((tx ".") ++ word2) + List.length (tx ".") ≤ sizeLine ∧ (law_levels_w6 patterns1 (((tx ".") ++ word2) ++ (tx ".")) ([] : List Int) Q)))
abbrev law_levels_W (t : (List (T3 Txt Txt (List Int))) × Txt × Unit) (Q : (List Int) → Prop) (E : Ex → Prop) : Prop := law_levels_w t.1 t.2.1 Q E
abbrev law_parts_w1 (word2 : Txt) (cuts8 : (List Int)) (Q : (List Txt) → Prop) : Prop :=
  ((-(2 ^ 62) ≤ (1 : Int) ∧ (1 : Int) < 2 ^ 62 ∧ -(2 ^ 62) ≤ (cuts8.length : Int) ∧ (cuts8.length : Int) < 2 ^ 62) ∧ (List.length ((List.range ((cuts8.length : Int) - (1 : Int)).toNat).map fun i : Nat => (1 : Int) + (i : Int)) ≤ sizeLine ∧ (∀ x9 ∈ ((List.range ((cuts8.length : Int) - (1 : Int)).toNat).map fun i : Nat => (1 : Int) + (i : Int)), (inR (cuts8.length) (x9 - (1 : Int)) ∧ (inR (cuts8.length) x9 ∧ (word2.length ≤ sizeLine ∧ (cutD word2 (some (ixD cuts8 (x9 - (1 : Int)))) (some (ixD cuts8 x9))) = (cutD word2 (some (ixD cuts8 (x9 - (1 : Int)))) (some (ixD cuts8 x9))))))) ∧ Q (((List.range ((cuts8.length : Int) - (1 : Int)).toNat).map fun i : Nat => (1 : Int) + (i : Int)).map (fun (x9 : Int) => (cutD word2 (some (ixD cuts8 (x9 - (1 : Int)))) (some (ixD cuts8 x9)))))))
abbrev law_parts_w2 (word2 : Txt) (first3 : Int) (last4 : Int) (levels6 : (List Int)) (Q : (List Txt) → Prop) : Prop :=
  (word2.length ≤ sizeLine ∧ ((-(2 ^ 62) ≤ first3 ∧ first3 < 2 ^ 62 ∧ -(2 ^ 62) ≤ (((word2.length : Int) - last4) + (1 : Int)) ∧ (((word2.length : Int) - last4) + (1 : Int)) < 2 ^ 62) ∧ (List.length ((List.range ((((word2.length : Int) - last4) + (1 : Int)) - first3).toNat).map fun i : Nat => first3 + (i : Int)) ≤ sizeLine ∧ (∀ x7 ∈ ((List.range ((((word2.length : Int) - last4) + (1 : Int)) - first3).toNat).map fun i : Nat => first3 + (i : Int)), (inR (levels6.length) x7 ∧ (0 < (2 : Int) ∧ (decide (((ixD levels6 x7) % (2 : Int)) = (1 : Int))) = (decide (((ixD levels6 x7) % (2 : Int)) = (1 : Int)))))) ∧ (∀ x7 ∈ ((List.range ((((word2.length : Int) - last4) + (1 : Int)) - first3).toNat).map fun i : Nat => first3 + (i : Int)), (decide (((ixD levels6 x7) % (2 : Int)) = (1 : Int))) = true → x7 = x7) ∧ (List.length [(0 : Int)] + List.length ((((List.range ((((word2.length : Int) - last4) + (1 : Int)) - first3).toNat).map fun i : Nat => first3 + (i : Int)).filter (fun (x7 : Int) => (decide (((ixD levels6 x7) % (2 : Int)) = (1 : Int))))).map (fun (x7 : Int) => x7)) ≤ sizeLine ∧ (word2.length ≤ sizeLine ∧ (List.length ([(0 : Int)] ++ ((((List.range ((((word2.length : Int) - last4) + (1 : Int)) - first3).toNat).map fun i : Nat => first3 + (i : Int)).filter (fun (x7 : Int) => (decide (((ixD levels6 x7) % (2 : Int)) = (1 : Int))))).map (fun (x7 : Int) => x7))) + List.length [(word2.length : Int)] ≤ sizeLine ∧ (law_parts_w1 word2 (([(0 : Int)] ++ ((((List.range ((((word2.length : Int) - last4) + (1 : Int)) - first3).toNat).map fun i : Nat => first3 + (i : Int)).filter (fun (x7 : Int) => (decide (((ixD levels6 x7) % (2 : Int)) = (1 : Int))))).map (fun (x7 : Int) => x7))) ++ [(word2.length : Int)]) Q)))))))
abbrev law_parts_w (patterns1 : (List (T3 Txt Txt (List Int)))) (word2 : Txt) (first3 : Int) (last4 : Int) (Q : (List Txt) → Prop) (E : Ex → Prop) : Prop :=
  (Cl (law_levels_W (patterns1, word2, ())) (fun (r5 : (List Int)) => (law_parts_w2 word2 first3 last4 r5 Q)) E)
abbrev law_parts_W (t : (List (T3 Txt Txt (List Int))) × Txt × Int × Int × Unit) (Q : (List Txt) → Prop) (E : Ex → Prop) : Prop := law_parts_w t.1 t.2.1 t.2.2.1 t.2.2.2.1 Q E
abbrev law_cases1_w1 (Q : Bool → Prop) : Prop :=
  (Cl (Hyphens_init_W (([] : List PatternV), ([] : List Txt), (1 : Int), (1 : Int), ())) (fun (r7 : HyphensV) => (Cl (Hyphens_lines_W (r7, [(tx "abcdefgh")], (4 : Int), ())) (fun (r8 : (Tup Txt)) => (((decide ((Sum.inl r8 : ((Tup Txt) ⊕ Txt)) ≠ (Sum.inr (tx "no way") : ((Tup Txt) ⊕ Txt)))) = true → Q false) ∧ ((decide ((Sum.inl r8 : ((Tup Txt) ⊕ Txt)) ≠ (Sum.inr (tx "no way") : ((Tup Txt) ⊕ Txt)))) = false → Q true))) (fun e => ∃ t9, toldT e = some t9 ∧ (((decide ((Sum.inr t9 : ((Tup Txt) ⊕ Txt)) ≠ (Sum.inr (tx "no way") : ((Tup Txt) ⊕ Txt)))) = true → Q false) ∧ ((decide ((Sum.inr t9 : ((Tup Txt) ⊕ Txt)) ≠ (Sum.inr (tx "no way") : ((Tup Txt) ⊕ Txt)))) = false → Q true))))) (fun e => ∃ t9, toldT e = some t9 ∧ (((decide ((Sum.inr t9 : ((Tup Txt) ⊕ Txt)) ≠ (Sum.inr (tx "no way") : ((Tup Txt) ⊕ Txt)))) = true → Q false) ∧ ((decide ((Sum.inr t9 : ((Tup Txt) ⊕ Txt)) ≠ (Sum.inr (tx "no way") : ((Tup Txt) ⊕ Txt)))) = false → Q true))))
abbrev law_cases1_w2 (Q : Bool → Prop) : Prop :=
  (Cl (Hyphens_init_W (([] : List PatternV), ([] : List Txt), (0 : Int), (1 : Int), ())) (fun (r4 : HyphensV) => (((!isT (Sum.inl r4 : (HyphensV ⊕ Txt)) (tx "rule")) = true → Q false) ∧ ((!isT (Sum.inl r4 : (HyphensV ⊕ Txt)) (tx "rule")) = false → (law_cases1_w1 Q)))) (fun e => ∃ t5, toldT e = some t5 ∧ (((!isT (Sum.inr t5 : (HyphensV ⊕ Txt)) (tx "rule")) = true → Q false) ∧ ((!isT (Sum.inr t5 : (HyphensV ⊕ Txt)) (tx "rule")) = false → (law_cases1_w1 Q)))))
abbrev law_cases1_w  (Q : Bool → Prop) (E : Ex → Prop) : Prop :=
  (Cl (Hyphens_init_W (([] : List PatternV), [(tx "-a")], (1 : Int), (1 : Int), ())) (fun (r1 : HyphensV) => (((!isT (Sum.inl r1 : (HyphensV ⊕ Txt)) (tx "rule")) = true → Q false) ∧ ((!isT (Sum.inl r1 : (HyphensV ⊕ Txt)) (tx "rule")) = false → (law_cases1_w2 Q)))) (fun e => ∃ t2, toldT e = some t2 ∧ (((!isT (Sum.inr t2 : (HyphensV ⊕ Txt)) (tx "rule")) = true → Q false) ∧ ((!isT (Sum.inr t2 : (HyphensV ⊕ Txt)) (tx "rule")) = false → (law_cases1_w2 Q)))))
abbrev law_cases1_W (t : Unit) (Q : Bool → Prop) (E : Ex → Prop) : Prop := law_cases1_w  Q E
abbrev law_rest1_w1 (nx13 : (Int × Int × Int → Prop)) (good14 : Int) (wrong15 : Int) (lost16 : Int) (u20 : ((List Int) × (List Int))) : Prop :=
  (u20.1.length ≤ sizeLine ∧ (∀ x21 ∈ u20.1, ((inL x21 u20.2)) = ((inL x21 u20.2))) ∧ (∀ x21 ∈ u20.1, ((inL x21 u20.2)) = true → x21 = x21) ∧ (u20.1.length ≤ sizeLine ∧ (∀ x22 ∈ u20.1, ((niL x22 u20.2)) = ((niL x22 u20.2))) ∧ (∀ x22 ∈ u20.1, ((niL x22 u20.2)) = true → x22 = x22) ∧ (u20.2.length ≤ sizeLine ∧ (∀ x23 ∈ u20.2, ((niL x23 u20.1)) = ((niL x23 u20.1))) ∧ (∀ x23 ∈ u20.2, ((niL x23 u20.1)) = true → x23 = x23) ∧ nx13 ((good14 + (List.length ((u20.1.filter (fun (x21 : Int) => ((inL x21 u20.2)))).map (fun (x21 : Int) => x21)) : Int)), (wrong15 + (List.length ((u20.1.filter (fun (x22 : Int) => ((niL x22 u20.2)))).map (fun (x22 : Int) => x22)) : Int)), (lost16 + (List.length ((u20.2.filter (fun (x23 : Int) => ((niL x23 u20.1)))).map (fun (x23 : Int) => x23)) : Int))))))
abbrev law_rest1_w2 (hyphens5 : HyphensV) (x10 : Txt) (nx13 : (Int × Int × Int → Prop)) (good14 : Int) (wrong15 : Int) (lost16 : Int) (one17 : Txt) (E : Ex → Prop) : Prop :=
  (Cl (Hyphens_parts_W (hyphens5, one17, ())) (fun (r18 : (Tup Txt)) => (Cl (joints_W (r18, ())) (fun (r19 : (Tup Int)) => (((tin (tx "-") x10) = true → [(2 : Int)] = [(2 : Int)]) ∧ ((tin (tx "-") x10) = false → ([] : List Int) = ([] : List Int)) ∧ (law_rest1_w1 nx13 good14 wrong15 lost16 (r19.items, (if (tin (tx "-") x10) = true then [(2 : Int)] else ([] : List Int)))))) E)) E)
abbrev law_rest1_w3 (hyphens5 : HyphensV) (x10 : Txt) (nx13 : (Int × Int × Int → Prop)) (good14 : Int) (wrong15 : Int) (lost16 : Int) (E : Ex → Prop) : Prop :=
  (RpOk x10 (tx "") ∧ (law_rest1_w2 hyphens5 x10 nx13 good14 wrong15 lost16 (replT x10 (tx "-") (tx "")) E))
abbrev law_rest1_w4 (x56 : Txt) (nx59 : (Unit → Prop)) (Q : Bool → Prop) : Prop :=
  (Cl (Pattern_init_W (x56, ())) (fun (r60 : PatternV) => (((!isT (Sum.inl r60 : (PatternV ⊕ Txt)) (tx "rule")) = true → Q false) ∧ ((!isT (Sum.inl r60 : (PatternV ⊕ Txt)) (tx "rule")) = false → nx59 ()))) (fun e => ∃ t61, toldT e = some t61 ∧ (((!isT (Sum.inr t61 : (PatternV ⊕ Txt)) (tx "rule")) = true → Q false) ∧ ((!isT (Sum.inr t61 : (PatternV ⊕ Txt)) (tx "rule")) = false → nx59 ()))))
abbrev law_rest1_w5 (Q : Bool → Prop) (E : Ex → Prop) : Prop :=
  (Cl (law_cases1_W ()) (fun (r65 : Bool) => (((!r65) = true → Q false) ∧ ((!r65) = false → Q true))) E)
abbrev law_rest1_w6 (Q : Bool → Prop) (E : Ex → Prop) : Prop :=
  (forW [(tx ""), (tx "12a"), (tx "a.b"), (tx "A"), (tx "5")] () (fun (x56 : Txt) (z57 : Unit) (nx59 : Unit → Prop) => (law_rest1_w4 x56 nx59 Q)) (fun (z63 : Unit) => (law_rest1_w5 Q E)))
abbrev law_rest1_w7 (patterns4 : (List PatternV)) (fresh53 : HyphensV) (Q : Bool → Prop) (E : Ex → Prop) : Prop :=
  (((decide ((fresh53.patterns.items.length : Int) ≠ ((patterns4.length : Int) + (1 : Int)))) = true → ((true = true → Q false) ∧ (true = false → (law_rest1_w6 Q E)))) ∧ ((decide ((fresh53.patterns.items.length : Int) ≠ ((patterns4.length : Int) + (1 : Int)))) = false → (Cl (Hyphens_parts_W (fresh53, (tx "cabac"), ())) (fun (r54 : (Tup Txt)) => (((decide (r54 ≠ (PySem.W.Tup.mk [(tx "ca"), (tx "bac")]))) = true → Q false) ∧ ((decide (r54 ≠ (PySem.W.Tup.mk [(tx "ca"), (tx "bac")]))) = false → (law_rest1_w6 Q E)))) E)))
abbrev law_rest1_w8 (patterns4 : (List PatternV)) (hyphens5 : HyphensV) (Q : Bool → Prop) (E : Ex → Prop) : Prop :=
  (Cl (Pattern_init_W ((tx "a9b"), ())) (fun (r52 : PatternV) => (Cl (Hyphens_with_pattern_W (hyphens5, r52, ())) (fun (r51 : HyphensV) => (law_rest1_w7 patterns4 r51 Q E)) E)) E)
abbrev law_rest1_w9 (patterns4 : (List PatternV)) (hyphens5 : HyphensV) (word6 : Txt) (cuts47 : (List Int)) (Q : Bool → Prop) (E : Ex → Prop) : Prop :=
  (Cl (by_beats_W (word6, ())) (fun (r48 : (Tup Txt)) => ((-(2 ^ 62) ≤ (1 : Int) ∧ (1 : Int) < 2 ^ 62 ∧ -(2 ^ 62) ≤ (cuts47.length : Int) ∧ (cuts47.length : Int) < 2 ^ 62) ∧ (List.length ((List.range ((cuts47.length : Int) - (1 : Int)).toNat).map fun i : Nat => (1 : Int) + (i : Int)) ≤ sizeLine ∧ (∀ x49 ∈ ((List.range ((cuts47.length : Int) - (1 : Int)).toNat).map fun i : Nat => (1 : Int) + (i : Int)), (inR (cuts47.length) (x49 - (1 : Int)) ∧ (inR (cuts47.length) x49 ∧ (word6.length ≤ sizeLine ∧ (cutD word6 (some (ixD cuts47 (x49 - (1 : Int)))) (some (ixD cuts47 x49))) = (cutD word6 (some (ixD cuts47 (x49 - (1 : Int)))) (some (ixD cuts47 x49))))))) ∧ (((decide (r48.items ≠ (((List.range ((cuts47.length : Int) - (1 : Int)).toNat).map fun i : Nat => (1 : Int) + (i : Int)).map (fun (x49 : Int) => (cutD word6 (some (ixD cuts47 (x49 - (1 : Int)))) (some (ixD cuts47 x49))))))) = true → Q false) ∧ ((decide (r48.items ≠ (((List.range ((cuts47.length : Int) - (1 : Int)).toNat).map fun i : Nat => (1 : Int) + (i : Int)).map (fun (x49 : Int) => (cutD word6 (some (ixD cuts47 (x49 - (1 : Int)))) (some (ixD cuts47 x49))))))) = false → (law_rest1_w8 patterns4 hyphens5 Q E)))))) E)
abbrev law_rest1_w10 (patterns4 : (List PatternV)) (hyphens5 : HyphensV) (word6 : Txt) (vowels45 : (List Int)) (Q : Bool → Prop) (E : Ex → Prop) : Prop :=
  ((-(2 ^ 62) ≤ (1 : Int) ∧ (1 : Int) < 2 ^ 62 ∧ -(2 ^ 62) ≤ (vowels45.length : Int) ∧ (vowels45.length : Int) < 2 ^ 62) ∧ (List.length ((List.range ((vowels45.length : Int) - (1 : Int)).toNat).map fun i : Nat => (1 : Int) + (i : Int)) ≤ sizeLine ∧ (∀ x46 ∈ ((List.range ((vowels45.length : Int) - (1 : Int)).toNat).map fun i : Nat => (1 : Int) + (i : Int)), (inR (vowels45.length) x46 ∧ (inR (vowels45.length) (x46 - (1 : Int)) ∧ (decide ((1 : Int) < ((ixD vowels45 x46) - (ixD vowels45 (x46 - (1 : Int)))))) = (decide ((1 : Int) < ((ixD vowels45 x46) - (ixD vowels45 (x46 - (1 : Int))))))))) ∧ (∀ x46 ∈ ((List.range ((vowels45.length : Int) - (1 : Int)).toNat).map fun i : Nat => (1 : Int) + (i : Int)), (decide ((1 : Int) < ((ixD vowels45 x46) - (ixD vowels45 (x46 - (1 : Int)))))) = true → (inR (vowels45.length) x46 ∧ ((ixD vowels45 x46) - (1 : Int)) = ((ixD vowels45 x46) - (1 : Int)))) ∧ (List.length [(0 : Int)] + List.length ((((List.range ((vowels45.length : Int) - (1 : Int)).toNat).map fun i : Nat => (1 : Int) + (i : Int)).filter (fun (x46 : Int) => (decide ((1 : Int) < ((ixD vowels45 x46) - (ixD vowels45 (x46 - (1 : Int)))))))).map (fun (x46 : Int) => ((ixD vowels45 x46) - (1 : Int)))) ≤ sizeLine ∧ (word6.length ≤ sizeLine ∧ (List.length ([(0 : Int)] ++ ((((List.range ((vowels45.length : Int) - (1 : Int)).toNat).map fun i : Nat => (1 : Int) + (i : Int)).filter (fun (x46 : Int) => (decide ((1 : Int) < ((ixD vowels45 x46) - (ixD vowels45 (x46 - (1 : Int)))))))).map (fun (x46 : Int) => ((ixD vowels45 x46) - (1 : Int))))) + List.length [(word6.length : Int)] ≤ sizeLine ∧ (law_rest1_w9 patterns4 hyphens5 word6 (([(0 : Int)] ++ ((((List.range ((vowels45.length : Int) - (1 : Int)).toNat).map fun i : Nat => (1 : Int) + (i : Int)).filter (fun (x46 : Int) => (decide ((1 : Int) < ((ixD vowels45 x46) - (ixD vowels45 (x46 - (1 : Int)))))))).map (fun (x46 : Int) => ((ixD vowels45 x46) - (1 : Int))))) ++ [(word6.length : Int)]) Q E))))))
abbrev law_rest1_w11 (patterns4 : (List PatternV)) (hyphens5 : HyphensV) (word6 : Txt) (Q : Bool → Prop) (E : Ex → Prop) : Prop :=
  (word6.length ≤ sizeLine ∧ ((-(2 ^ 62) ≤ (word6.length : Int) ∧ (word6.length : Int) < 2 ^ 62) ∧ (List.length ((List.range ((word6.length : Int)).toNat).map fun i : Nat => (i : Int)) ≤ sizeLine ∧ (∀ x44 ∈ ((List.range ((word6.length : Int)).toNat).map fun i : Nat => (i : Int)), (word6.length ≤ sizeLine ∧ inR word6.length x44 ∧ (tin (ixS word6 x44) (tx "aeiou")) = (tin (ixS word6 x44) (tx "aeiou")))) ∧ (∀ x44 ∈ ((List.range ((word6.length : Int)).toNat).map fun i : Nat => (i : Int)), (tin (ixS word6 x44) (tx "aeiou")) = true → x44 = x44) ∧ (law_rest1_w10 patterns4 hyphens5 word6 ((((List.range ((word6.length : Int)).toNat).map fun i : Nat => (i : Int)).filter (fun (x44 : Int) => (tin (ixS word6 x44) (tx "aeiou")))).map (fun (x44 : Int) => x44)) Q E))))
abbrev law_rest1_w12 (patterns4 : (List PatternV)) (hyphens5 : HyphensV) (word6 : Txt) (parts7 : (List Txt)) (Q : Bool → Prop) (E : Ex → Prop) : Prop :=
  (Cl (joints_W ((PySem.W.Tup.mk parts7), ())) (fun (r41 : (Tup Int)) => ((-(2 ^ 62) ≤ (1 : Int) ∧ (1 : Int) < 2 ^ 62 ∧ -(2 ^ 62) ≤ (parts7.length : Int) ∧ (parts7.length : Int) < 2 ^ 62) ∧ (List.length ((List.range ((parts7.length : Int) - (1 : Int)).toNat).map fun i : Nat => (1 : Int) + (i : Int)) ≤ sizeLine ∧ (∀ x42 ∈ ((List.range ((parts7.length : Int) - (1 : Int)).toNat).map fun i : Nat => (1 : Int) + (i : Int)), (lenSum (cutD parts7 none (some x42)) + List.length (cutD parts7 none (some x42)) * List.length (tx "") ≤ 16777216 ∧ (List.length (joinT (tx "") (cutD parts7 none (some x42))) ≤ sizeLine ∧ (List.length (joinT (tx "") (cutD parts7 none (some x42))) : Int) = (List.length (joinT (tx "") (cutD parts7 none (some x42))) : Int)))) ∧ (((decide (r41 ≠ (PySem.W.Tup.mk (((List.range ((parts7.length : Int) - (1 : Int)).toNat).map fun i : Nat => (1 : Int) + (i : Int)).map (fun (x42 : Int) => (List.length (joinT (tx "") (cutD parts7 none (some x42))) : Int)))))) = true → Q false) ∧ ((decide (r41 ≠ (PySem.W.Tup.mk (((List.range ((parts7.length : Int) - (1 : Int)).toNat).map fun i : Nat => (1 : Int) + (i : Int)).map (fun (x42 : Int) => (List.length (joinT (tx "") (cutD parts7 none (some x42))) : Int)))))) = false → (law_rest1_w11 patterns4 hyphens5 word6 Q E)))))) E)
abbrev law_rest1_w13 (patterns4 : (List PatternV)) (hyphens5 : HyphensV) (word6 : Txt) (parts7 : (List Txt)) (rows8 : (List Txt)) (other38 : (List Txt)) (Q : Bool → Prop) (E : Ex → Prop) : Prop :=
  (Cl (look_told_W (hyphens5, rows8, ())) (fun (r39 : (Tup Txt)) => (((decide (r39.items ≠ (srt other38))) = true → Q false) ∧ ((decide (r39.items ≠ (srt other38))) = false → (law_rest1_w12 patterns4 hyphens5 word6 parts7 Q E)))) E)
abbrev law_rest1_w14 (told1 : (List (T3 Txt Txt (List Int)))) (first2 : Int) (last3 : Int) (patterns4 : (List PatternV)) (hyphens5 : HyphensV) (word6 : Txt) (parts7 : (List Txt)) (rows8 : (List Txt)) (Q : Bool → Prop) (E : Ex → Prop) : Prop :=
  (rows8.length ≤ sizeLine ∧ ∃ (c37 : Txt → Bool) (h36 : Txt → Txt), (∀ x34 ∈ rows8, (RpOk x34 (tx "") ∧ (Cl (law_parts_W (told1, (replT x34 (tx "-") (tx "")), first2, last3, ())) (fun (r35 : (List Txt)) => (lenSum r35 + r35.length * List.length (tx "-") ≤ 16777216 ∧ (decide ((joinT (tx "-") r35) ≠ x34)) = c37 x34)) NoE))) ∧ (∀ x34 ∈ rows8, c37 x34 = true → (RpOk x34 (tx "") ∧ (replT x34 (tx "-") (tx "")) = h36 x34)) ∧ (law_rest1_w13 patterns4 hyphens5 word6 parts7 rows8 ((rows8.filter c37).map h36) Q E))
abbrev law_rest1_w15 (told1 : (List (T3 Txt Txt (List Int)))) (first2 : Int) (last3 : Int) (patterns4 : (List PatternV)) (hyphens5 : HyphensV) (word6 : Txt) (parts7 : (List Txt)) (rows8 : (List Txt)) (good29 : Int) (wrong30 : Int) (lost31 : Int) (Q : Bool → Prop) (E : Ex → Prop) : Prop :=
  (Cl (marks_right_W (hyphens5, rows8, ())) (fun (r32 : (T3 Int Int Int)) => (((decide (r32 ≠ (PySem.W.T3.mk good29 wrong30 lost31))) = true → Q false) ∧ ((decide (r32 ≠ (PySem.W.T3.mk good29 wrong30 lost31))) = false → (law_rest1_w14 told1 first2 last3 patterns4 hyphens5 word6 parts7 rows8 Q E)))) E)
abbrev law_rest1_w16 (told1 : (List (T3 Txt Txt (List Int)))) (first2 : Int) (last3 : Int) (patterns4 : (List PatternV)) (hyphens5 : HyphensV) (word6 : Txt) (parts7 : (List Txt)) (rows8 : (List Txt)) (u9 : (T3 Int Int Int)) (Q : Bool → Prop) (E : Ex → Prop) : Prop :=
  (forW rows8 (u9.a, u9.b, u9.c) (fun (x10 : Txt) (z11 : Int × Int × Int) (nx13 : Int × Int × Int → Prop) => (law_rest1_w3 hyphens5 x10 nx13 z11.1 z11.2.1 z11.2.2 E)) (fun (z27 : Int × Int × Int) => (law_rest1_w15 told1 first2 last3 patterns4 hyphens5 word6 parts7 rows8 z27.1 z27.2.1 z27.2.2 Q E)))
abbrev law_rest1_w (told1 : (List (T3 Txt Txt (List Int)))) (first2 : Int) (last3 : Int) (patterns4 : (List PatternV)) (hyphens5 : HyphensV) (word6 : Txt) (parts7 : (List Txt)) (rows8 : (List Txt)) (Q : Bool → Prop) (E : Ex → Prop) : Prop :=
  (law_rest1_w16 told1 first2 last3 patterns4 hyphens5 word6 parts7 rows8 (PySem.W.T3.mk (0 : Int) (0 : Int) (0 : Int)) Q E)
abbrev law_rest1_W (t : (List (T3 Txt Txt (List Int))) × Int × Int × (List PatternV) × HyphensV × Txt × (List Txt) × (List Txt) × Unit) (Q : Bool → Prop) (E : Ex → Prop) : Prop := law_rest1_w t.1 t.2.1 t.2.2.1 t.2.2.2.1 t.2.2.2.2.1 t.2.2.2.2.2.1 t.2.2.2.2.2.2.1 t.2.2.2.2.2.2.2.1 Q E
abbrev law_w1 (u52 : ((List Txt) × Int)) (lines54 : (Tup Txt)) (x60 : Int) (nx63 : (Unit → Prop)) (before64 : Txt) (head65 : Txt) (Q : Bool → Prop) : Prop :=
  (before64.length ≤ sizeLine ∧ (before64.length ≤ sizeLine ∧ inR before64.length ((before64.length : Int) - (1 : Int)) ∧ (((decide ((ixS before64 ((before64.length : Int) - (1 : Int))) ≠ (tx "-"))) = true → (before64.length ≤ sizeLine ∧ (head65.length ≤ sizeLine ∧ (((decide ((((before64.length : Int) + (1 : Int)) + (head65.length : Int)) ≤ u52.2)) = true → (inR lines54.items.length x60 ∧ (!tin (tx "-") (ixD lines54.items x60)) = (!tin (tx "-") (ixD lines54.items x60)))) ∧ ((decide ((((before64.length : Int) + (1 : Int)) + (head65.length : Int)) ≤ u52.2)) && (!tin (tx "-") (ixD lines54.items x60))) = ((decide ((((before64.length : Int) + (1 : Int)) + (head65.length : Int)) ≤ u52.2)) && (!tin (tx "-") (ixD lines54.items x60))))))) ∧ ((((decide ((ixS before64 ((before64.length : Int) - (1 : Int))) ≠ (tx "-"))) && ((decide ((((before64.length : Int) + (1 : Int)) + (head65.length : Int)) ≤ u52.2)) && (!tin (tx "-") (ixD lines54.items x60)))) = true → Q false) ∧ (((decide ((ixS before64 ((before64.length : Int) - (1 : Int))) ≠ (tx "-"))) && ((decide ((((before64.length : Int) + (1 : Int)) + (head65.length : Int)) ≤ u52.2)) && (!tin (tx "-") (ixD lines54.items x60)))) = false → nx63 ())))))
abbrev law_w2 (u52 : ((List Txt) × Int)) (lines54 : (Tup Txt)) (x60 : Int) (nx63 : (Unit → Prop)) (Q : Bool → Prop) : Prop :=
  (inR lines54.items.length (x60 - (1 : Int)) ∧ (inR lines54.items.length x60 ∧ (((tx " ") ≠ [] ∧ List.length (ixD lines54.items x60) + 2 ≤ sizeLine) ∧ (inR (List.length (splitT (ixD lines54.items x60) (tx " "))) (0 : Int) ∧ (RpOk (ixD (splitT (ixD lines54.items x60) (tx " ")) (0 : Int)) (tx "") ∧ (law_w1 u52 lines54 x60 nx63 (ixD lines54.items (x60 - (1 : Int))) (replT (ixD (splitT (ixD lines54.items x60) (tx " ")) (0 : Int)) (tx "-") (tx "")) Q))))))
abbrev law_w3 (told10 : (List (T3 Txt Txt (List Int)))) (first11 : Int) (last12 : Int) (patterns16 : (List PatternV)) (u27 : (HyphensV × Txt)) (parts32 : (List Txt)) (rows70 : (List Txt)) (Q : Bool → Prop) (E : Ex → Prop) : Prop :=
  (Cl (law_rest1_W (told10, first11, last12, patterns16, u27.1, u27.2, parts32, rows70, ())) (fun (r71 : Bool) => (((!r71) = true → Q false) ∧ ((!r71) = false → Q true))) E)
abbrev law_w4 (told10 : (List (T3 Txt Txt (List Int)))) (first11 : Int) (last12 : Int) (patterns16 : (List PatternV)) (u27 : (HyphensV × Txt)) (parts32 : (List Txt)) (u52 : ((List Txt) × Int)) (Q : Bool → Prop) (E : Ex → Prop) : Prop :=
  (u52.1.length ≤ sizeLine ∧ (∀ x69 ∈ u52.1, (x69.length ≤ sizeLine ∧ (((decide ((2 : Int) < (x69.length : Int))) = true → (x69.length ≤ sizeLine ∧ (x69.length ≤ sizeLine ∧ (lenSum [(cutD x69 none (some (2 : Int))), (cutD x69 (some (2 : Int)) none)] + List.length [(cutD x69 none (some (2 : Int))), (cutD x69 (some (2 : Int)) none)] * List.length (tx "-") ≤ 16777216 ∧ (joinT (tx "-") [(cutD x69 none (some (2 : Int))), (cutD x69 (some (2 : Int)) none)]) = (joinT (tx "-") [(cutD x69 none (some (2 : Int))), (cutD x69 (some (2 : Int)) none)]))))) ∧ ((decide ((2 : Int) < (x69.length : Int))) = false → x69 = x69) ∧ (if (decide ((2 : Int) < (x69.length : Int))) = true then (joinT (tx "-") [(cutD x69 none (some (2 : Int))), (cutD x69 (some (2 : Int)) none)]) else x69) = (if (decide ((2 : Int) < (x69.length : Int))) = true then (joinT (tx "-") [(cutD x69 none (some (2 : Int))), (cutD x69 (some (2 : Int)) none)]) else x69)))) ∧ (law_w3 told10 first11 last12 patterns16 u27 parts32 (u52.1.map (fun (x69 : Txt) => (if (decide ((2 : Int) < (x69.length : Int))) = true then (joinT (tx "-") [(cutD x69 none (some (2 : Int))), (cutD x69 (some (2 : Int)) none)]) else x69))) Q E))
abbrev law_w5 (told10 : (List (T3 Txt Txt (List Int)))) (first11 : Int) (last12 : Int) (patterns16 : (List PatternV)) (u27 : (HyphensV × Txt)) (parts32 : (List Txt)) (u52 : ((List Txt) × Int)) (lines54 : (Tup Txt)) (Q : Bool → Prop) (E : Ex → Prop) : Prop :=
  ((-(2 ^ 62) ≤ (1 : Int) ∧ (1 : Int) < 2 ^ 62 ∧ -(2 ^ 62) ≤ (lines54.items.length : Int) ∧ (lines54.items.length : Int) < 2 ^ 62) ∧ (forW ((List.range ((lines54.items.length : Int) - (1 : Int)).toNat).map fun i : Nat => (1 : Int) + (i : Int)) () (fun (x60 : Int) (z61 : Unit) (nx63 : Unit → Prop) => (law_w2 u52 lines54 x60 nx63 Q)) (fun (z67 : Unit) => (law_w4 told10 first11 last12 patterns16 u27 parts32 u52 Q E))))
abbrev law_w6 (told10 : (List (T3 Txt Txt (List Int)))) (first11 : Int) (last12 : Int) (patterns16 : (List PatternV)) (u27 : (HyphensV × Txt)) (parts32 : (List Txt)) (u52 : ((List Txt) × Int)) (lines54 : (Tup Txt)) (Q : Bool → Prop) (E : Ex → Prop) : Prop :=
  (lines54.items.length ≤ sizeLine ∧ (∀ x57 ∈ lines54.items, (x57.length ≤ sizeLine ∧ (x57.length ≤ sizeLine ∧ inR x57.length ((x57.length : Int) - (1 : Int)) ∧ (((decide ((ixS x57 ((x57.length : Int) - (1 : Int))) = (tx "-"))) = true → (x57.length ≤ sizeLine ∧ (x57.length ≤ sizeLine ∧ (cutD x57 none (some ((x57.length : Int) - (1 : Int)))) = (cutD x57 none (some ((x57.length : Int) - (1 : Int))))))) ∧ ((decide ((ixS x57 ((x57.length : Int) - (1 : Int))) = (tx "-"))) = false → (x57.length + List.length (tx " ") ≤ sizeLine ∧ (x57 ++ (tx " ")) = (x57 ++ (tx " ")))) ∧ (if (decide ((ixS x57 ((x57.length : Int) - (1 : Int))) = (tx "-"))) = true then (cutD x57 none (some ((x57.length : Int) - (1 : Int)))) else (x57 ++ (tx " "))) = (if (decide ((ixS x57 ((x57.length : Int) - (1 : Int))) = (tx "-"))) = true then (cutD x57 none (some ((x57.length : Int) - (1 : Int)))) else (x57 ++ (tx " "))))))) ∧ (lenSum (lines54.items.map (fun (x57 : Txt) => (if (decide ((ixS x57 ((x57.length : Int) - (1 : Int))) = (tx "-"))) = true then (cutD x57 none (some ((x57.length : Int) - (1 : Int)))) else (x57 ++ (tx " "))))) + List.length (lines54.items.map (fun (x57 : Txt) => (if (decide ((ixS x57 ((x57.length : Int) - (1 : Int))) = (tx "-"))) = true then (cutD x57 none (some ((x57.length : Int) - (1 : Int)))) else (x57 ++ (tx " "))))) * List.length (tx "") ≤ 16777216 ∧ (u52.1.length ≤ sizeLine ∧ (∀ x58 ∈ u52.1, (x58.length + List.length (tx " ") ≤ sizeLine ∧ (x58 ++ (tx " ")) = (x58 ++ (tx " ")))) ∧ (lenSum (u52.1.map (fun (x58 : Txt) => (x58 ++ (tx " ")))) + List.length (u52.1.map (fun (x58 : Txt) => (x58 ++ (tx " ")))) * List.length (tx "") ≤ 16777216 ∧ (((decide ((joinT (tx "") (lines54.items.map (fun (x57 : Txt) => (if (decide ((ixS x57 ((x57.length : Int) - (1 : Int))) = (tx "-"))) = true then (cutD x57 none (some ((x57.length : Int) - (1 : Int)))) else (x57 ++ (tx " ")))))) ≠ (joinT (tx "") (u52.1.map (fun (x58 : Txt) => (x58 ++ (tx " "))))))) = true → Q false) ∧ ((decide ((joinT (tx "") (lines54.items.map (fun (x57 : Txt) => (if (decide ((ixS x57 ((x57.length : Int) - (1 : Int))) = (tx "-"))) = true then (cutD x57 none (some ((x57.length : Int) - (1 : Int)))) else (x57 ++ (tx " ")))))) ≠ (joinT (tx "") (u52.1.map (fun (x58 : Txt) => (x58 ++ (tx " "))))))) = false → (law_w5 told10 first11 last12 patterns16 u27 parts32 u52 lines54 Q E)))))))
abbrev law_w7 (told10 : (List (T3 Txt Txt (List Int)))) (first11 : Int) (last12 : Int) (patterns16 : (List PatternV)) (u27 : (HyphensV × Txt)) (parts32 : (List Txt)) (u52 : ((List Txt) × Int)) (lines54 : (Tup Txt)) (Q : Bool → Prop) (E : Ex → Prop) : Prop :=
  (lines54.items.length ≤ sizeLine ∧ (∀ x55 ∈ lines54.items, (x55.length ≤ sizeLine ∧ (((decide (u52.2 < (x55.length : Int))) = false → (decide (x55 = (tx ""))) = (decide (x55 = (tx "")))) ∧ ((decide (u52.2 < (x55.length : Int))) || (decide (x55 = (tx "")))) = ((decide (u52.2 < (x55.length : Int))) || (decide (x55 = (tx ""))))))) ∧ (∀ x55 ∈ lines54.items, ((decide (u52.2 < (x55.length : Int))) || (decide (x55 = (tx "")))) = true → x55 = x55) ∧ (((decide (((lines54.items.filter (fun (x55 : Txt) => ((decide (u52.2 < (x55.length : Int))) || (decide (x55 = (tx "")))))).map (fun (x55 : Txt) => x55)) ≠ ([] : List Txt))) = true → Q false) ∧ ((decide (((lines54.items.filter (fun (x55 : Txt) => ((decide (u52.2 < (x55.length : Int))) || (decide (x55 = (tx "")))))).map (fun (x55 : Txt) => x55)) ≠ ([] : List Txt))) = false → (law_w6 told10 first11 last12 patterns16 u27 parts32 u52 lines54 Q E))))
abbrev law_w8 (told10 : (List (T3 Txt Txt (List Int)))) (first11 : Int) (last12 : Int) (patterns16 : (List PatternV)) (u27 : (HyphensV × Txt)) (parts32 : (List Txt)) (u52 : ((List Txt) × Int)) (Q : Bool → Prop) (E : Ex → Prop) : Prop :=
  (Cl (Hyphens_lines_W (u27.1, u52.1, u52.2, ())) (fun (r53 : (Tup Txt)) => (law_w7 told10 first11 last12 patterns16 u27 parts32 u52 r53 Q E)) E)
abbrev law_w9 (told10 : (List (T3 Txt Txt (List Int)))) (first11 : Int) (last12 : Int) (patterns16 : (List PatternV)) (u27 : (HyphensV × Txt)) (parts32 : (List Txt)) (Q : Bool → Prop) (E : Ex → Prop) : Prop :=
  (ClD (rollW ((6 : Int), ())) fun (r46 : Int) => ((-(2 ^ 62) ≤ r46 ∧ r46 < 2 ^ 62) ∧ (List.length ((List.range (r46).toNat).map fun i : Nat => (i : Int)) ≤ sizeLine ∧ ∃ P49 : Int → Txt → Prop, (∀ x47 ∈ ((List.range (r46).toNat).map fun i : Nat => (i : Int)), (ClD (law_word_W ((tx "abc"), (1 : Int), (6 : Int), ())) fun (r48 : Txt) => P49 x47 r48)) ∧ ∀ ys50, Each P49 ((List.range (r46).toNat).map fun i : Nat => (i : Int)) ys50 → (ClD (rollW ((6 : Int), ())) fun (r51 : Int) => (law_w8 told10 first11 last12 patterns16 u27 parts32 (ys50, ((6 : Int) + r51)) Q E)))))
abbrev law_w10 (told10 : (List (T3 Txt Txt (List Int)))) (first11 : Int) (last12 : Int) (patterns16 : (List PatternV)) (u27 : (HyphensV × Txt)) (parts32 : (List Txt)) (room39 : Int) (due42 : ((Txt × Txt) ⊕ Txt)) (Q : Bool → Prop) (E : Ex → Prop) : Prop :=
  (Cl (Hyphens_splits_W (u27.1, u27.2, room39, ())) (fun (r43 : (Txt × Txt)) => (((decide ((Sum.inl r43 : ((Txt × Txt) ⊕ Txt)) ≠ due42)) = true → Q false) ∧ ((decide ((Sum.inl r43 : ((Txt × Txt) ⊕ Txt)) ≠ due42)) = false → (law_w9 told10 first11 last12 patterns16 u27 parts32 Q E)))) (fun e => ∃ t44, toldT e = some t44 ∧ (((decide ((Sum.inr t44 : ((Txt × Txt) ⊕ Txt)) ≠ due42)) = true → Q false) ∧ ((decide ((Sum.inr t44 : ((Txt × Txt) ⊕ Txt)) ≠ due42)) = false → (law_w9 told10 first11 last12 patterns16 u27 parts32 Q E)))))
abbrev law_w11 (told10 : (List (T3 Txt Txt (List Int)))) (first11 : Int) (last12 : Int) (patterns16 : (List PatternV)) (u27 : (HyphensV × Txt)) (parts32 : (List Txt)) (room39 : Int) (ahead41 : (List Txt)) (Q : Bool → Prop) (E : Ex → Prop) : Prop :=
  (((decide (ahead41 ≠ ([] : List Txt))) = true → (inR (ahead41.length) ((ahead41.length : Int) - (1 : Int)) ∧ (List.length (ixD ahead41 ((ahead41.length : Int) - (1 : Int))) + List.length (tx "-") ≤ sizeLine ∧ (inR (ahead41.length) ((ahead41.length : Int) - (1 : Int)) ∧ (List.length (ixD ahead41 ((ahead41.length : Int) - (1 : Int))) ≤ sizeLine ∧ (u27.2.length ≤ sizeLine ∧ (Sum.inl (((ixD ahead41 ((ahead41.length : Int) - (1 : Int))) ++ (tx "-")), (cutD u27.2 (some (List.length (ixD ahead41 ((ahead41.length : Int) - (1 : Int))) : Int)) none)) : ((Txt × Txt) ⊕ Txt)) = (Sum.inl (((ixD ahead41 ((ahead41.length : Int) - (1 : Int))) ++ (tx "-")), (cutD u27.2 (some (List.length (ixD ahead41 ((ahead41.length : Int) - (1 : Int))) : Int)) none)) : ((Txt × Txt) ⊕ Txt)))))))) ∧ ((decide (ahead41 ≠ ([] : List Txt))) = false → (Sum.inr (tx "no way") : ((Txt × Txt) ⊕ Txt)) = (Sum.inr (tx "no way") : ((Txt × Txt) ⊕ Txt))) ∧ (law_w10 told10 first11 last12 patterns16 u27 parts32 room39 (if (decide (ahead41 ≠ ([] : List Txt))) = true then (Sum.inl (((ixD ahead41 ((ahead41.length : Int) - (1 : Int))) ++ (tx "-")), (cutD u27.2 (some (List.length (ixD ahead41 ((ahead41.length : Int) - (1 : Int))) : Int)) none)) : ((Txt × Txt) ⊕ Txt)) else (Sum.inr (tx "no way") : ((Txt × Txt) ⊕ Txt))) Q E))
abbrev law_w12 (told10 : (List (T3 Txt Txt (List Int)))) (first11 : Int) (last12 : Int) (patterns16 : (List PatternV)) (u27 : (HyphensV × Txt)) (parts32 : (List Txt)) (room39 : Int) (Q : Bool → Prop) (E : Ex → Prop) : Prop :=
  ((-(2 ^ 62) ≤ (1 : Int) ∧ (1 : Int) < 2 ^ 62 ∧ -(2 ^ 62) ≤ (parts32.length : Int) ∧ (parts32.length : Int) < 2 ^ 62) ∧ (List.length ((List.range ((parts32.length : Int) - (1 : Int)).toNat).map fun i : Nat => (1 : Int) + (i : Int)) ≤ sizeLine ∧ (∀ x40 ∈ ((List.range ((parts32.length : Int) - (1 : Int)).toNat).map fun i : Nat => (1 : Int) + (i : Int)), (lenSum (cutD parts32 none (some x40)) + List.length (cutD parts32 none (some x40)) * List.length (tx "") ≤ 16777216 ∧ (List.length (joinT (tx "") (cutD parts32 none (some x40))) ≤ sizeLine ∧ (decide (((List.length (joinT (tx "") (cutD parts32 none (some x40))) : Int) + (1 : Int)) ≤ room39)) = (decide (((List.length (joinT (tx "") (cutD parts32 none (some x40))) : Int) + (1 : Int)) ≤ room39))))) ∧ (∀ x40 ∈ ((List.range ((parts32.length : Int) - (1 : Int)).toNat).map fun i : Nat => (1 : Int) + (i : Int)), (decide (((List.length (joinT (tx "") (cutD parts32 none (some x40))) : Int) + (1 : Int)) ≤ room39)) = true → (lenSum (cutD parts32 none (some x40)) + List.length (cutD parts32 none (some x40)) * List.length (tx "") ≤ 16777216 ∧ (joinT (tx "") (cutD parts32 none (some x40))) = (joinT (tx "") (cutD parts32 none (some x40))))) ∧ (law_w11 told10 first11 last12 patterns16 u27 parts32 room39 ((((List.range ((parts32.length : Int) - (1 : Int)).toNat).map fun i : Nat => (1 : Int) + (i : Int)).filter (fun (x40 : Int) => (decide (((List.length (joinT (tx "") (cutD parts32 none (some x40))) : Int) + (1 : Int)) ≤ room39)))).map (fun (x40 : Int) => (joinT (tx "") (cutD parts32 none (some x40))))) Q E)))
abbrev law_w13 (told10 : (List (T3 Txt Txt (List Int)))) (first11 : Int) (last12 : Int) (patterns16 : (List PatternV)) (u27 : (HyphensV × Txt)) (parts32 : (List Txt)) (Q : Bool → Prop) (E : Ex → Prop) : Prop :=
  (ClD (rollW ((8 : Int), ())) fun (r38 : Int) => (law_w12 told10 first11 last12 patterns16 u27 parts32 r38 Q E))
abbrev law_w14 (told10 : (List (T3 Txt Txt (List Int)))) (first11 : Int) (last12 : Int) (patterns16 : (List PatternV)) (u27 : (HyphensV × Txt)) (parts32 : (List Txt)) (Q : Bool → Prop) (E : Ex → Prop) : Prop :=
  (Cl (Hyphens_parts_W (u27.1, (tx "cabac"), ())) (fun (r36 : (Tup Txt)) => (((decide (r36 ≠ (PySem.W.Tup.mk [(tx "ca"), (tx "bac")]))) = true → Q false) ∧ ((decide (r36 ≠ (PySem.W.Tup.mk [(tx "ca"), (tx "bac")]))) = false → (law_w13 told10 first11 last12 patterns16 u27 parts32 Q E)))) E)
abbrev law_w15 (told10 : (List (T3 Txt Txt (List Int)))) (first11 : Int) (last12 : Int) (patterns16 : (List PatternV)) (u27 : (HyphensV × Txt)) (parts32 : (List Txt)) (Q : Bool → Prop) (E : Ex → Prop) : Prop :=
  (Cl (Hyphens_parts_W (u27.1, u27.2, ())) (fun (r33 : (Tup Txt)) => (((decide (r33.items ≠ parts32)) = true → ((true = true → Q false) ∧ (true = false → (law_w14 told10 first11 last12 patterns16 u27 parts32 Q E)))) ∧ ((decide (r33.items ≠ parts32)) = false → (Cl (Hyphens_said_W (u27.1, u27.2, ())) (fun (r34 : Txt) => (lenSum parts32 + parts32.length * List.length (tx "-") ≤ 16777216 ∧ (((decide (r34 ≠ (joinT (tx "-") parts32))) = true → Q false) ∧ ((decide (r34 ≠ (joinT (tx "-") parts32))) = false → (law_w14 told10 first11 last12 patterns16 u27 parts32 Q E))))) E)))) E)
abbrev law_w16 (told10 : (List (T3 Txt Txt (List Int)))) (first11 : Int) (last12 : Int) (patterns16 : (List PatternV)) (u27 : (HyphensV × Txt)) (Q : Bool → Prop) (E : Ex → Prop) : Prop :=
  (((decide (u27.2 = (tx "cabac"))) = true → (law_w15 told10 first11 last12 patterns16 u27 [(tx "ca"), (tx "bac")] Q E)) ∧ ((decide (u27.2 = (tx "cabac"))) = false → (Cl (law_parts_W (told10, u27.2, first11, last12, ())) (fun (r31 : (List Txt)) => (law_w15 told10 first11 last12 patterns16 u27 r31 Q E)) E)))
abbrev law_w17 (told10 : (List (T3 Txt Txt (List Int)))) (first11 : Int) (last12 : Int) (patterns16 : (List PatternV)) (u27 : (HyphensV × Txt)) (Q : Bool → Prop) (E : Ex → Prop) : Prop :=
  (Cl (Hyphens_levels_in_W (u27.1, u27.2, ())) (fun (r28 : (Tup Int)) => (Cl (law_levels_W (told10, u27.2, ())) (fun (r29 : (List Int)) => (((decide (r28.items ≠ r29)) = true → Q false) ∧ ((decide (r28.items ≠ r29)) = false → (law_w16 told10 first11 last12 patterns16 u27 Q E)))) E)) E)
abbrev law_w18 (told10 : (List (T3 Txt Txt (List Int)))) (first11 : Int) (last12 : Int) (patterns16 : (List PatternV)) (Q : Bool → Prop) (E : Ex → Prop) : Prop :=
  (Cl (Hyphens_init_W (patterns16, [(tx "ca-bac")], first11, last12, ())) (fun (r25 : HyphensV) => (ClD (law_word_W ((tx "abc"), (1 : Int), (6 : Int), ())) fun (r26 : Txt) => (law_w17 told10 first11 last12 patterns16 (r25, r26) Q E))) E)
abbrev law_w19 (told10 : (List (T3 Txt Txt (List Int)))) (first11 : Int) (last12 : Int) (patterns16 : (List PatternV)) (Q : Bool → Prop) (E : Ex → Prop) : Prop :=
  (patterns16.length ≤ sizeLine ∧ ∃ h22 : PatternV → Txt, (∀ x20 ∈ patterns16, (Cl (Pattern_said_W (x20, ())) (fun (r21 : Txt) => r21 = h22 x20) NoE)) ∧ (told10.length ≤ sizeLine ∧ (∀ x23 ∈ told10, x23.a = x23.a) ∧ (((decide ((patterns16.map h22) ≠ (told10.map (fun (x23 : (T3 Txt Txt (List Int))) => x23.a)))) = true → Q false) ∧ ((decide ((patterns16.map h22) ≠ (told10.map (fun (x23 : (T3 Txt Txt (List Int))) => x23.a)))) = false → (law_w18 told10 first11 last12 patterns16 Q E)))))
abbrev law_w20 (told10 : (List (T3 Txt Txt (List Int)))) (first11 : Int) (last12 : Int) (patterns16 : (List PatternV)) (Q : Bool → Prop) (E : Ex → Prop) : Prop :=
  (patterns16.length ≤ sizeLine ∧ (∀ x17 ∈ patterns16, (x17.letters, x17.levels.items) = (x17.letters, x17.levels.items)) ∧ (told10.length ≤ sizeLine ∧ (∀ x18 ∈ told10, (x18.b, x18.c) = (x18.b, x18.c)) ∧ (((decide ((patterns16.map (fun (x17 : PatternV) => (x17.letters, x17.levels.items))) ≠ (told10.map (fun (x18 : (T3 Txt Txt (List Int))) => (x18.b, x18.c))))) = true → Q false) ∧ ((decide ((patterns16.map (fun (x17 : PatternV) => (x17.letters, x17.levels.items))) ≠ (told10.map (fun (x18 : (T3 Txt Txt (List Int))) => (x18.b, x18.c))))) = false → (law_w19 told10 first11 last12 patterns16 Q E)))))
abbrev law_w21 (told10 : (List (T3 Txt Txt (List Int)))) (first11 : Int) (last12 : Int) (Q : Bool → Prop) (E : Ex → Prop) : Prop :=
  (told10.length ≤ sizeLine ∧ ∃ h15 : (T3 Txt Txt (List Int)) → PatternV, (∀ x13 ∈ told10, (Cl (Pattern_init_W (x13.a, ())) (fun (r14 : PatternV) => r14 = h15 x13) NoE)) ∧ (law_w20 told10 first11 last12 (told10.map h15) Q E))
abbrev law_w22 (Q : Bool → Prop) (E : Ex → Prop) : Prop :=
  (ClD (rollW ((6 : Int), ())) fun (r3 : Int) => ((-(2 ^ 62) ≤ r3 ∧ r3 < 2 ^ 62) ∧ (List.length ((List.range (r3).toNat).map fun i : Nat => (i : Int)) ≤ sizeLine ∧ ∃ P6 : Int → (T3 Txt Txt (List Int)) → Prop, (∀ x4 ∈ ((List.range (r3).toNat).map fun i : Nat => (i : Int)), (ClD (law_pattern_W ()) fun (r5 : (T3 Txt Txt (List Int))) => P6 x4 r5)) ∧ ∀ ys7, Each P6 ((List.range (r3).toNat).map fun i : Nat => (i : Int)) ys7 → (ClD (rollW ((2 : Int), ())) fun (r8 : Int) => (ClD (rollW ((2 : Int), ())) fun (r9 : Int) => (law_w21 ys7 ((1 : Int) + r8) ((1 : Int) + r9) Q E))))))
abbrev law_w (script1 : (List Int)) (Q : Bool → Prop) (E : Ex → Prop) : Prop :=
  (law_w22 Q E)
abbrev law_W (t : (List Int) × Unit) (Q : Bool → Prop) (E : Ex → Prop) : Prop := law_w t.1 Q E
end K12
set_option maxHeartbeats 0
set_option synthInstance.maxSize 2000
namespace K12
open PySem L2 Sp
abbrev top (i : Nat) : Stmt := PySem.Challenge.pw_spellhall_k12_hyphens.main.body.getD i (.Pass ⟨0, 0, 0, 0⟩)
def d__wall : He.DefD := ⟨("_wall", none), "_wall", "_wall", defArgs (top 0), defBody (top 0), defScope (top 0), [], []⟩
def d_check_word : He.DefD := ⟨("check_word", none), "check_word", "check_word", defArgs (top 12), defBody (top 12), defScope (top 12), [], []⟩
def d_Pattern_init : He.DefD := ⟨("Pattern", some "__init__"), "__init__", "Pattern.__init__", defArgs (inClass (top 14) 0), defBody (inClass (top 14) 0), defScope (inClass (top 14) 0), [], []⟩
def d_Pattern_said : He.DefD := ⟨("Pattern", some "said"), "said", "Pattern.said", defArgs (inClass (top 14) 1), defBody (inClass (top 14) 1), defScope (inClass (top 14) 1), [], []⟩
def d_Pattern_key : He.DefD := ⟨("Pattern", some "key"), "key", "Pattern.key", defArgs (inClass (top 14) 2), defBody (inClass (top 14) 2), defScope (inClass (top 14) 2), [], []⟩
def d_Hyphens_init : He.DefD := ⟨("Hyphens", some "__init__"), "__init__", "Hyphens.__init__", defArgs (inClass (top 15) 0), defBody (inClass (top 15) 0), defScope (inClass (top 15) 0), [], []⟩
def d_Hyphens_levels_in : He.DefD := ⟨("Hyphens", some "levels_in"), "levels_in", "Hyphens.levels_in", defArgs (inClass (top 15) 1), defBody (inClass (top 15) 1), defScope (inClass (top 15) 1), [], []⟩
def d_Hyphens_parts : He.DefD := ⟨("Hyphens", some "parts"), "parts", "Hyphens.parts", defArgs (inClass (top 15) 2), defBody (inClass (top 15) 2), defScope (inClass (top 15) 2), [], []⟩
def d_Hyphens_said : He.DefD := ⟨("Hyphens", some "said"), "said", "Hyphens.said", defArgs (inClass (top 15) 3), defBody (inClass (top 15) 3), defScope (inClass (top 15) 3), [], []⟩
def d_Hyphens_splits : He.DefD := ⟨("Hyphens", some "splits"), "splits", "Hyphens.splits", defArgs (inClass (top 15) 4), defBody (inClass (top 15) 4), defScope (inClass (top 15) 4), [], []⟩
def d_Hyphens_lines : He.DefD := ⟨("Hyphens", some "lines"), "lines", "Hyphens.lines", defArgs (inClass (top 15) 5), defBody (inClass (top 15) 5), defScope (inClass (top 15) 5), [], []⟩
def d_Hyphens_with_pattern : He.DefD := ⟨("Hyphens", some "with_pattern"), "with_pattern", "Hyphens.with_pattern", defArgs (inClass (top 15) 6), defBody (inClass (top 15) 6), defScope (inClass (top 15) 6), [], []⟩
def d_look_told : He.DefD := ⟨("look_told", none), "look_told", "look_told", defArgs (top 16), defBody (top 16), defScope (top 16), [], []⟩
def d_marks_right : He.DefD := ⟨("marks_right", none), "marks_right", "marks_right", defArgs (top 17), defBody (top 17), defScope (top 17), [], []⟩
def d_joints : He.DefD := ⟨("joints", none), "joints", "joints", defArgs (top 18), defBody (top 18), defScope (top 18), [], []⟩
def d_by_beats : He.DefD := ⟨("by_beats", none), "by_beats", "by_beats", defArgs (top 19), defBody (top 19), defScope (top 19), [], []⟩
def d__law_dice : He.DefD := ⟨("_law_dice", none), "_law_dice", "_law_dice", defArgs (top 21), defBody (top 21), defScope (top 21), [], []⟩
def d__law_roll : He.DefD := ⟨("_law_roll", none), "_law_roll", "_law_roll", defArgs (top 22), defBody (top 22), defScope (top 22), [], []⟩
def d__law_rounds : He.DefD := ⟨("_law_rounds", none), "_law_rounds", "_law_rounds", defArgs (top 23), defBody (top 23), defScope (top 23), [], []⟩
def d__law_told : He.DefD := ⟨("_law_told", none), "_law_told", "_law_told", defArgs (top 24), defBody (top 24), defScope (top 24), [], []⟩
def d__law_word : He.DefD := ⟨("_law_word", none), "_law_word", "_law_word", defArgs (top 25), defBody (top 25), defScope (top 25), [], []⟩
def d__law_pattern : He.DefD := ⟨("_law_pattern", none), "_law_pattern", "_law_pattern", defArgs (top 26), defBody (top 26), defScope (top 26), [], []⟩
def d__law_levels : He.DefD := ⟨("_law_levels", none), "_law_levels", "_law_levels", defArgs (top 27), defBody (top 27), defScope (top 27), [], []⟩
def d__law_parts : He.DefD := ⟨("_law_parts", none), "_law_parts", "_law_parts", defArgs (top 28), defBody (top 28), defScope (top 28), [], []⟩
def d__law_cases1 : He.DefD := ⟨("_law_cases1", none), "_law_cases1", "_law_cases1", defArgs (top 29), defBody (top 29), defScope (top 29), [], []⟩
def d__law_rest1 : He.DefD := ⟨("_law_rest1", none), "_law_rest1", "_law_rest1", defArgs (top 30), defBody (top 30), defScope (top 30), [], []⟩
def d_law : He.DefD := ⟨("law", none), "law", "law", defArgs (top 31), defBody (top 31), defScope (top 31), [], []⟩
def fn : List He.DefD := [d__wall, d_check_word, d_Pattern_init, d_Pattern_said, d_Pattern_key, d_Hyphens_init, d_Hyphens_levels_in, d_Hyphens_parts, d_Hyphens_said, d_Hyphens_splits, d_Hyphens_lines, d_Hyphens_with_pattern, d_look_told, d_marks_right, d_joints, d_by_beats, d__law_dice, d__law_roll, d__law_rounds, d__law_told, d__law_word, d__law_pattern, d__law_levels, d__law_parts, d__law_cases1, d__law_rest1, d_law]
def fa0 : List He.Fa := [.glo "_wall", .glo "check_word", .glo "look_told", .glo "marks_right", .glo "joints", .glo "by_beats", .glo "_law_dice", .glo "_law_roll", .glo "_law_rounds", .glo "_law_told", .glo "_law_word", .glo "_law_pattern", .glo "_law_levels", .glo "_law_parts", .glo "_law_cases1", .glo "_law_rest1", .glo "law", .glo "Pattern", .glo "Hyphens", .glo "SpellFault", .glo "BadWord", .glo "BadRule", .glo "BadCount", .glo "NoSuch", .glo "NoWay", .glo "TooLarge", .glo "BadText", .free "len", .free "range", .free "sorted"]
def fa1 : List He.Fa := [.free "list", .free "tuple", .free "dict", .free "int", .free "str", .free "abs", .free "min", .free "max", .free "sum", .free "any", .free "all", .free "enumerate", .free "zip", .free "reversed", .free "isinstance", .free "super", .str "LETTERS" "abcdefghijklmnopqrstuvwxyz", .cls "Pattern", .mkr "Pattern", .noat "Pattern" "letters", .noat "Pattern" "levels", .meth "Pattern" "said", .meth "Pattern" "key", .cls "Hyphens", .mkr "Hyphens", .noat "Hyphens" "patterns", .noat "Hyphens" "told", .noat "Hyphens" "first", .noat "Hyphens" "last", .meth "Hyphens" "levels_in"]
def fa2 : List He.Fa := [.meth "Hyphens" "parts", .meth "Hyphens" "said", .meth "Hyphens" "splits", .meth "Hyphens" "lines", .meth "Hyphens" "with_pattern", .exc "SpellFault", .exc "BadWord", .exc "BadRule", .exc "BadCount", .exc "NoSuch", .exc "NoWay", .exc "TooLarge", .exm "BadWord" "BadCount" false, .exm "BadWord" "BadRule" false, .exm "BadWord" "BadWord" true, .exm "BadWord" "NoSuch" false, .exm "BadWord" "NoWay" false, .exm "BadWord" "TooLarge" false, .exm "BadWord" "BadText" false, .exm "BadRule" "BadCount" false, .exm "BadRule" "BadRule" true, .exm "BadRule" "BadWord" false, .exm "BadRule" "NoSuch" false, .exm "BadRule" "NoWay" false, .exm "BadRule" "TooLarge" false, .exm "BadRule" "BadText" false, .exm "BadCount" "BadCount" true, .exm "BadCount" "BadRule" false, .exm "BadCount" "BadWord" false, .exm "BadCount" "NoSuch" false]
def fa3 : List He.Fa := [.exm "BadCount" "NoWay" false, .exm "BadCount" "TooLarge" false, .exm "BadCount" "BadText" false, .exm "NoSuch" "BadCount" false, .exm "NoSuch" "BadRule" false, .exm "NoSuch" "BadWord" false, .exm "NoSuch" "NoSuch" true, .exm "NoSuch" "NoWay" false, .exm "NoSuch" "TooLarge" false, .exm "NoSuch" "BadText" false, .exm "NoWay" "BadCount" false, .exm "NoWay" "BadRule" false, .exm "NoWay" "BadWord" false, .exm "NoWay" "NoSuch" false, .exm "NoWay" "NoWay" true, .exm "NoWay" "TooLarge" false, .exm "NoWay" "BadText" false, .exm "TooLarge" "BadCount" false, .exm "TooLarge" "BadRule" false, .exm "TooLarge" "BadWord" false, .exm "TooLarge" "NoSuch" false, .exm "TooLarge" "NoWay" false, .exm "TooLarge" "TooLarge" true, .exm "TooLarge" "BadText" false, .exm "BadText" "BadCount" false, .exm "BadText" "BadRule" false, .exm "BadText" "BadWord" false, .exm "BadText" "NoSuch" false, .exm "BadText" "NoWay" false, .exm "BadText" "TooLarge" false]
def fa4 : List He.Fa := [.exm "BadText" "BadText" true, .exm "BadWord" "SpellFault" true, .exm "BadRule" "SpellFault" true, .exm "BadCount" "SpellFault" true, .exm "NoSuch" "SpellFault" true, .exm "NoWay" "SpellFault" true, .exm "TooLarge" "SpellFault" true, .exm "BadText" "SpellFault" true]
def fa : List He.Fa := fa0 ++ (fa1 ++ (fa2 ++ (fa3 ++ (fa4))))
def tq : TQ := [(("check_word", none), .plain ((("check_word" : Str) ++ ".<locals>.") ++ "<genexpr>")), (("marks_right", none), .plain ((("marks_right" : Str) ++ ".<locals>.") ++ "<genexpr>")), (("_law_cases1", none), .plain ((("_law_cases1" : Str) ++ ".<locals>.") ++ "<lambda>")), (("_law_rest1", none), .plain ((("_law_rest1" : Str) ++ ".<locals>.") ++ "<lambda>")), (("law", none), .plain ((("law" : Str) ++ ".<locals>.") ++ "<lambda>"))]
def names : List PySem.Str := ["_wall", "SpellFault", "BadWord", "BadRule", "BadCount", "NoSuch", "NoWay", "TooLarge", "BadText", "LETTERS", "check_word", "Pattern", "Hyphens", "look_told", "marks_right", "joints", "by_beats", "_law_dice", "_law_roll", "_law_rounds", "_law_told", "_law_word", "_law_pattern", "_law_levels", "_law_parts", "_law_cases1", "_law_rest1"]
abbrev R : PySem.W.OpenRow := PySem.W.OpenLaw.row PySem.Challenge.rw_spellhall_k12_hyphens
def cmc : List PySem.Str := ["Hyphens", "Pattern"]
def nums : List (PySem.Str × PySem.Str) := []
def tabs : List (PySem.Str × TabT) := []
def ts : List He.Tab := tabs.map fun t => ((fun K => He.ga K t.1), t.2.map (·.1))
def ndTab (K : PySem.W.Frag) : Bool := ((decide (tq.map fun p => (He.cT K p.1).2).Nodup && cmc.all fun c => HN.cmpB K (He.ga K c)) && nums.all fun c => numB PySem.Challenge.pw_spellhall_k12_hyphens.main.file K (He.ga K c.1) c.2 c.2) && tabs.all fun t => tabB K (He.ga K t.1) t.2
abbrev hk : PySem.W.Hook := Sp.hookY 5 fa fn ts (tq.map (·.1)) ndTab
def ob (s : PySem.W.SharedT) : He.AlX := Sp.obsY 5 fa fn ts (tq.map (·.1)) ndTab (HandSHeadRun.getT s)
theorem ob_eq (s : PySem.W.SharedT) : ob s = hk.obs s.abs := Sp.obsY_eq (HandSHeadRun.getT_eq s)
theorem run (w : World) : HandSHeadRun.RunEq R (PySem.W.view R.prog [31]) hk ob 4000 names w := by
  intro os
  kernel_rfl
end K12
set_option maxHeartbeats 0
set_option synthInstance.maxSize 2000
namespace K12
open PySem L2 Sp
section
variable {P : Program} {w : World} {K : Frag} {mg : Str → Option Value} {base : Heap}
theorem dice_S : FnScope ["cell"] ["cell"] d__law_dice.scope := ⟨rfl, rfl, rfl, by decide +kernel, rfl, by decide +kernel, by decide +kernel⟩
theorem ok_dice (B : Bis mg) (L : LK w K mg base fa fn tq) {fd : FuncData} (F1 : Fd K d__law_dice ["cell"] fd) : FnOk P w K mg base (L2.CX P w) 1 (He.fAd K d__law_dice.at_) fd ["cell"] (toSp K (tbOf K tq) 1 dDiceA) := by
  refine dice_D (df_ok (k := 0) L F1 dice_S dDice0 (fun As gs R E ⟨_, e, _⟩ => by rw [e]; rfl) fun cdv A outer s H F gs E ex As R X hd hex tbl ok => ?_)
  obtain ⟨c, rfl, rfl, k⟩ := hd
  refine ws_cons (w1_if (.of (etp_ltlt (evp_sub evp_int evp_int) (evp_var 0 rfl (.inl rfl) rfl) evp_int) ?_))
  by_cases h : (decide ((0 : Int) - 10 < c) && decide (c < 10)) = true
  · rw [if_pos h]
    refine ws_one (w1_ret (ev_listO (α := Int) (.of (evsp_cons (evp_abs B (by rfl) (evp_var 0 rfl (.inl rfl) rfl)) (evsp_cons evp_int (evsp_cons evp_int evsp_nil))) ⟨[_, _, _], rfl, (show 3 ≤ _ by decide), fun q => ⟨0, k _ _ _ _⟩⟩)))
  · rw [if_neg h]
    refine ws_nil ?_
    refine ws_one (w1_ret (ev_listO (α := Int) (.of (evsp_cons (evp_var 0 rfl (.inl rfl) rfl) (evsp_cons (evp_add evp_int (evp_mod (evp_int1 B (by rfl) (evp_var 0 rfl (.inl rfl) rfl)) evp_int (by decide))) (evsp_cons (evp_intB B (by rfl) (evp_cmp (cmp_ge (evp_var 0 rfl (.inl rfl) rfl) (evp_pow evp_int evp_int ⟨by decide, by decide, by decide⟩)))) evsp_nil))) ⟨[_, _, _], rfl, (show 3 ≤ _ by decide), fun q => ⟨0, k _ _ _ _⟩⟩)))
theorem roll_S : FnScope ["dice", "many", "found"] ["dice", "many"] d__law_roll.scope := ⟨rfl, rfl, rfl, by decide +kernel, rfl, by decide +kernel, by decide +kernel⟩
theorem ok_roll (B : Bis mg) (L : LK w K mg base fa fn tq) {fd : FuncData} (F1 : Fd K d__law_roll ["dice", "many"] fd) : FnOk P w K mg base (L2.CX P w) 1 (He.fAd K d__law_roll.at_) fd ["dice", "many"] (toSp K (tbOf K tq) 2 (spD rollW)) := by
  refine roll_D (df_ok (k := 0) L F1 roll_S dRollA (fun As gs R E ⟨_, _, _, _, _, e, _⟩ => by rw [e]; rfl) fun cdv A outer s H F gs E ex As R X hd hex tbl ok => ?_)
  obtain ⟨q, i, j, k, many, rfl, rfl, h0, h1, kk⟩ := hd
  have red : ∀ (r : Int), 0 ≤ r % many ∧ r % many < many := fun r => ⟨Int.emod_nonneg _ (by omega), Int.emod_lt_of_pos _ h0⟩
  refine ws_cons (w1_if (.of (etp_w (ewp_or (etp_cmp (cmp_eq (α := Int) ok (evp_own 0 0 rfl rfl rfl rfl) .pu evp_int .pu)) fun _ => ewp_or1 (etp_w (ewp_and (etp_cmp (cmp_eq (α := Int) ok (evp_own 0 0 rfl rfl rfl rfl) .pu evp_int .pu)) fun _ => ewp_and1 (etp_cmp (cmp_gt (evp_own 0 0 rfl rfl rfl rfl) evp_int)))))) ?_))
  by_cases h : (decide (k = 2) || (decide (k = 1) && decide (0 < i))) = true
  · rw [if_pos h]
    refine ws_cons (w1_set 2 ok rfl (.inl rfl) (.of (evp_mod (evp_int1 B (by rfl) (evp_own 0 0 rfl rfl rfl rfl)) (evp_var 1 rfl (.inl rfl) rfl) h0) ?_))
    refine ws_cons (w1_lput (α := Int) 0 (.of (evp_fdiv (evp_own 0 0 rfl rfl rfl rfl) (evp_var 1 rfl (.inl rfl) rfl) ⟨h0, h1⟩) ⟨_, _, 0, 0, rfl, rfl, evp_var 0 rfl (.inl rfl) rfl, evp_int, rfl, ?_⟩))
    exact ws_one (w1_ret (.of (evp_var 2 rfl (.inl rfl) rfl) ⟨0, kk _ _ _ _ (red i).1 (red i).2⟩))
  · rw [if_neg h]
    refine ws_nil ?_
    refine ws_cons (w1_lput (α := Int) 0 (.of evp_int ⟨_, _, 2, 2, rfl, rfl, evp_var 0 rfl (.inl rfl) rfl, evp_int, rfl, ?_⟩))
    refine ws_cons (w1_lput (α := Int) 0 (.of (evp_mod (evp_int1 B (by rfl) (evp_add (evp_add (evp_mul (evp_own 0 0 rfl rfl rfl rfl) evp_int (.inr (by decide))) (evp_mul (evp_own 0 0 rfl rfl rfl rfl) evp_int (.inr (by decide)))) evp_int)) evp_int (by decide)) ⟨_, _, 0, 0, rfl, rfl, evp_var 0 rfl (.inl rfl) rfl, evp_int, rfl, ?_⟩))
    refine ws_cons (w1_lput (α := Int) 0 (.of (evp_add (evp_own 0 0 rfl rfl rfl rfl) evp_int) ⟨_, _, 1, 1, rfl, rfl, evp_var 0 rfl (.inl rfl) rfl, evp_int, rfl, ?_⟩))
    exact ws_one (w1_ret (.of (evp_mod (evp_int1 B (by rfl) (evp_add (evp_fdiv (evp_own 0 0 rfl rfl rfl rfl) evp_int ⟨by decide, by decide⟩) (evp_own 0 0 rfl rfl rfl rfl))) (evp_var 1 rfl (.inl rfl) rfl) h0) ⟨0, kk _ _ _ _ (red _).1 (red _).2⟩))
theorem cut1 : ∀ ns : List Int, (cutD ns none (some 1) = [] ∨ ∃ c, cutD ns none (some 1) = [c])
  | [] => .inl (by decide)
  | c :: r => .inr ⟨c, by
    unfold cutD HT.sIx
    simp⟩
theorem rounds_S : FnScope ["script", "most", "cells", "cell"] ["script", "most"] d__law_rounds.scope := ⟨rfl, rfl, rfl, by decide +kernel, rfl, by decide +kernel, by decide +kernel⟩
theorem ok_rounds (B : Bis mg) (L : LK w K mg base fa fn tq) {fd : FuncData} (F1 : Fd K d__law_rounds ["script", "most"] fd) (G1 : Df P w K mg base (tbOf K tq) 1 "_law_dice" ["cell"] dDiceA) : FnOk P w K mg base (L2.CX P w) 2 (He.fAd K d__law_rounds.at_) fd ["script", "most"] (toSp K (tbOf K tq) 2 dRoundsA) := by
  refine df_ok (k := 1) L F1 rounds_S dRoundsA (fun As gs R E ⟨_, e, _⟩ => by rw [e]; rfl) fun cdv A outer s H F gs E ex As R X hd hex tbl ok => ?_
  obtain ⟨ns, rfl, rfl, kk⟩ := hd
  refine ws_cons (w1_set 2 ok rfl (.inl rfl) (.of (evp_slL (evp_var 0 rfl (.inl rfl) rfl) .pu evo_no (evo_at (evp_var 1 rfl (.inl rfl) rfl))) ?_))
  refine ws_cons (w1_if (.of (etp_cmp (cmp_eq (α := List Int) ok (evp_var 2 rfl (.inl rfl) rfl) .pu (evp_list (xs := ([] : List Int)) evsp_nil) .pu)) ?_))
  have tail : ∀ c : Int, Ws (bodyY P w K mg base (tbOf K tq) 1 ["script", "most", "cells", "cell"] d__law_rounds.qual d__law_rounds.scope (He.fAd K d__law_rounds.at_) cdv A outer s H F [] E ex) ⟨[some (pu ns), some (pu (1 : Int)), some (pu [c]), none], []⟩ (d__law_rounds.body.drop 2) { nx := fun s' => ∃ n, R (pu ()) (s'.gs.drop n), rt := fun A s' => ∃ n, R A (s'.gs.drop n) } := fun c => by
    refine ws_one (w1_ret (ev_lcT (α := Rf) [("cell", 3)] ok (it_list (xs := [c]) (evp_var 2 rfl (.inl rfl) rfl)) (show BlkOk ["script", "most", "cells", "cell"] d__law_rounds.scope _ _ from blk_by (by decide +kernel)) (fun z => tg_name ok.blk.nd 3 rfl (.inl rfl))
      (fun (i : Nat) (ys : List Rf) (gs' : Gs) => (i = 0 ∧ ys = [] ∧ gs' = []) ∨ (i = 1 ∧ ∃ (q : Addr), ys = [Rf.mk q] ∧ gs' = [(q, dicec)])) (.inl ⟨rfl, rfl, rfl⟩) (fun i ys gs' h hi => ?_) (fun z i x ys gs' D hx h => ?_) ?_))
    · rcases h with ⟨_, e, _⟩ | ⟨_, q, e, _⟩ <;> subst e
      · exact (show 0 < sizeLine by decide)
      · exact (show 1 < sizeLine by decide)
    · rcases h with ⟨rfl, rfl, rfl⟩ | ⟨rfl, _⟩
      · cases hx
        refine ets_nil ?_
        rw [if_pos rfl]
        intro z'
        refine ev_perm (ev_call G1 ok.blk (show 1 ≤ 1 by decide) rfl (.of (evsp_cons (evp_var 3 rfl (.inl rfl) rfl) evsp_nil) ⟨rfl, [], _, .refl _, c, rfl, rfl, fun q => ?_⟩))
        exact ⟨_, .swap _ _ _, Rf.mk q, _, rfl, rfl, .inr ⟨rfl, q, rfl, rfl⟩⟩
      · cases hx
    · intro ys gs' h
      rcases h with ⟨h, _⟩ | ⟨_, q, rfl, rfl⟩
      · cases h
      · exact ⟨0, kk _⟩
  rcases cut1 ns with e | ⟨c, e⟩
  · rw [e]
    refine ws_one (w1_set 2 ok rfl (.inl rfl) (.of (evp_list (α := Int) (xs := [0]) (evsp_cons evp_int evsp_nil)) ?_))
    exact tail 0
  · rw [e]
    rw [if_neg (by simp)]
    exact ws_nil (tail c)
def cls (K : Frag) : Cls_ := [(He.ga K "BadCount", tx "count"), (He.ga K "BadRule", tx "rule"), (He.ga K "BadWord", tx "word"), (He.ga K "NoSuch", tx "no such"), (He.ga K "NoWay", tx "no way"), (He.ga K "TooLarge", tx "large"), (He.ga K "BadText", tx "text")]
theorem ok_told {X : Cx} (L : LK w X.K X.mg base fa fn tq) {fd : FuncData} (F1 : Fd X.K d__law_told ["what"] fd) : Told X "_law_told" (cls X.K) := by
  have g : ∀ i (x : Str), fa[i]? = some (He.Fa.glo x) → X.mg x = some (.ref (He.ga X.K x)) := fun i x h => He.glo_ok L.X L.G (L.d.fact i h)
  exact told_of (Ng := ["what"]) F1 (g 9 _ rfl) rfl rfl ⟨rfl, rfl, rfl, by decide +kernel, rfl, by decide +kernel, by decide +kernel⟩ rfl
    (.cons rfl (g 22 _ rfl) (by decide) (toStr_tx _) (.cons rfl (g 21 _ rfl) (by decide) (toStr_tx _) (.cons rfl (g 20 _ rfl) (by decide) (toStr_tx _) (.cons rfl (g 23 _ rfl) (by decide) (toStr_tx _) (.cons rfl (g 24 _ rfl) (by decide) (toStr_tx _) (.cons rfl (g 25 _ rfl) (by decide) (toStr_tx _) (.cons rfl (g 26 _ rfl) (by decide) (toStr_tx _) .nil)))))))
    rfl (.inl rfl) (by decide) (by decide) (fun f => rfl)
theorem told_tells (c : He.SaysD fa fn K) : ∀ e t, toldT e = some t → Tell K (cls K) (exK K e).C t
  | .BadWord, t, h => by cases h; exact .no (He.exm_ok (c.fact 72 rfl)) (.no (He.exm_ok (c.fact 73 rfl)) (.yes (He.exm_ok (c.fact 74 rfl))))
  | .BadRule, t, h => by cases h; exact .no (He.exm_ok (c.fact 79 rfl)) (.yes (He.exm_ok (c.fact 80 rfl)))
  | .BadCount, t, h => by cases h; exact .yes (He.exm_ok (c.fact 86 rfl))
  | .NoSuch, t, h => by cases h; exact .no (He.exm_ok (c.fact 93 rfl)) (.no (He.exm_ok (c.fact 94 rfl)) (.no (He.exm_ok (c.fact 95 rfl)) (.yes (He.exm_ok (c.fact 96 rfl)))))
  | .NoWay, t, h => by cases h; exact .no (He.exm_ok (c.fact 100 rfl)) (.no (He.exm_ok (c.fact 101 rfl)) (.no (He.exm_ok (c.fact 102 rfl)) (.no (He.exm_ok (c.fact 103 rfl)) (.yes (He.exm_ok (c.fact 104 rfl))))))
  | .TooLarge, t, h => by cases h; exact .no (He.exm_ok (c.fact 107 rfl)) (.no (He.exm_ok (c.fact 108 rfl)) (.no (He.exm_ok (c.fact 109 rfl)) (.no (He.exm_ok (c.fact 110 rfl)) (.no (He.exm_ok (c.fact 111 rfl)) (.yes (He.exm_ok (c.fact 112 rfl)))))))
  | .BadDeed, t, h => by cases h
  | .BadText _, t, h => by cases h; exact .no (He.exm_ok (c.fact 114 rfl)) (.no (He.exm_ok (c.fact 115 rfl)) (.no (He.exm_ok (c.fact 116 rfl)) (.no (He.exm_ok (c.fact 117 rfl)) (.no (He.exm_ok (c.fact 118 rfl)) (.no (He.exm_ok (c.fact 119 rfl)) (.yes (He.exm_ok (c.fact 120 rfl))))))))
  | .BadPaper _, t, h => by cases h
abbrev check_word_N : List Str := ["word", "sign"]
theorem check_word_S : FnScope check_word_N ["word"] d_check_word.scope := ⟨rfl, rfl, rfl, by decide +kernel, rfl, by decide +kernel, by decide +kernel⟩
theorem ok_check_word (B : Bis mg) (L : LK w K mg base fa fn tq) {fd : FuncData} (F1 : Fd K d_check_word ["word"] fd)  : FnOk P w K mg base (L2.CX P w) 3 (He.fAd K d_check_word.at_) fd ["word"] (toSp K (tbOf K tq) 1 (spF K check_word_W)) := by
  refine fn_F (k := 2) (some ()) L F1 check_word_S check_word_W noneUnit (fun _ => rfl) ?_
  intro z t Q E h ye tbl
  obtain ⟨word1, ⟨⟩⟩ := t
  show Ws _ (⟨[some (pu word1), none], []⟩ : DSt) _ _
  refine s_if (B := E .BadWord) (C := Q ()) (t_w (w_orP (y := ((word1.map fun c => [c]).any (fun (x2 : Txt) => (!tin x2 (tx "abcdefghijklmnopqrstuvwxyz"))))) (t_not (t_chainV (24 : Int) c_int (c_lenS B (by rfl) (c_v 0 rfl rfl)) c_int op_le op_le)) (w_or1 (t_v (fun _ => rfl) (c_any0 (.n 1) 0 [1] (word1.map fun c => [c]) (fun (x2 : Txt) => (!tin x2 (tx "abcdefghijklmnopqrstuvwxyz"))) ye.ok B (by rfl) (Nat.le_of_ble_eq_true rfl) (i_txt (c_v 0 rfl rfl)) (show GenOk check_word_N d_check_word.scope _ _ from genOk_by (by decide +kernel)) (.pl (tbl _ (List.mem_of_getElem? (i := 0) rfl))) (fun z => (tg_gen ye.ok z 1 rfl)) (fun _ o (x2 : Txt) => (c_k (k_ninS (c_v 1 rfl rfl) (c_gs rfl (He.str_ok L.X L.G (L.d.fact 46 rfl))))))))))) ?_ ?_ (by exact h)
  · intro h
    exact s_raise 0 .BadWord ye (L.err 66 20) rfl rfl rfl (by exact h)
  intro h
  refine ws_nil ?_
  exact ws_nil ⟨⟨0, rfl⟩, _, rfl, h⟩
abbrev Pattern_init_N : List Str := ["self", "text", "letters", "figures", "sign"]
theorem Pattern_init_S : FnScope Pattern_init_N ["self", "text"] d_Pattern_init.scope := ⟨rfl, rfl, rfl, by decide +kernel, rfl, by decide +kernel, by decide +kernel⟩
theorem ok_Pattern_init (B : Bis mg) (L : LK w K mg base fa fn tq) {fd : FuncData} (F1 : Fd K d_Pattern_init ["self", "text"] fd)  : FnOk P w K mg base (L2.CX P w) 1 (He.fAd K d_Pattern_init.at_) fd ["self", "text"] (toSp K (tbOf K tq) 2 (spI K Pattern_init_W)) := by
  refine fn_I (γ := PatternV) (k := 0) L F1 Pattern_init_S Pattern_init_W (fun _ => rfl) ?_
  intro q0 z t Q E h ye tbl
  obtain ⟨text1, ⟨⟩⟩ := t
  show Ws _ (⟨[some (raw (.ref q0)), some (pu text1), none, none, none], [_]⟩ : DSt) _ _
  refine s_parCN (R := fun (letters2 : Txt) (figures3 : List Int) => (Pattern_init_w10 text1 letters2 figures3 Q E)) 2 3 ye.ok rfl rfl c_tx (n_list (s_cons c_int (s_nil))) ?_ (by exact h)
  intro q4 letters2 figures3 h
  try dsimp only
  show Ws _ (⟨[some (raw (.ref q0)), some (pu text1), some (pu letters2), some (raw (.ref q4)), none], [(q4, lstc figures3), _]⟩ : DSt) _ _
  refine s_for (Z := Txt × (List Int)) (J := Option Pv) (Body := (fun (x5 : Txt) (z6 : Txt × (List Int)) (nx8 : Txt × (List Int) → Prop) => (Pattern_init_w8 x5 nx8 z6.1 z6.2 E))) (Rest := (fun (z24 : Txt × (List Int)) => (Pattern_init_w9 z24.1 z24.2 Q E))) (.n 4) (fun (z6 : Txt × (List Int)) (j7 : Option Pv) => (⟨[some (raw (.ref q0)), some (pu text1), some (pu (z6.1 : Txt)), some (raw (.ref q4)), j7], [(q4, lstc (z6.2)), (q0, insc (He.ga K "Pattern") [])]⟩ : DSt)) (letters2, figures3) none ye.ok (i_txt (c_v 1 rfl rfl)) (tg_nm ye.ok.nd 4 rfl) rfl ?_ ?_ (by exact h)
  · intro x5 z6 j7 nx8 h
    try dsimp only
    obtain ⟨letters9, figures10⟩ := z6
    show Ws _ (⟨[some (raw (.ref q0)), some (pu text1), some (pu letters9), some (raw (.ref q4)), some (pu x5)], [(q4, lstc figures10), _]⟩ : DSt) _ _
    refine s_ifJ (Z := Txt × (List Int)) (J := Unit) (Rest := (fun (z11 : Txt × (List Int)) => (Pattern_init_w7 nx8 z11.1 z11.2))) (B := fun nx13 => (Pattern_init_w5 x5 letters9 figures10 nx13 E)) (C := fun nx13 => (Pattern_init_w6 x5 letters9 figures10 nx13 E)) (fun (z11 : Txt × (List Int)) (j12 : Unit) => (⟨[some (raw (.ref q0)), some (pu text1), some (pu (z11.1 : Txt)), some (raw (.ref q4)), some (pu x5)], [(q4, lstc (z11.2)), (q0, insc (He.ga K "Pattern") [])]⟩ : DSt)) (t_k (k_inS (c_v 4 rfl rfl) c_tx)) ?_ ?_ ?_ (by exact h)
    · intro nx13 h
      try dsimp only
      refine s_if (B := E .BadRule) (C := (Pattern_init_w1 x5 letters9 figures10 nx13)) (t_k (k_ne ye.ok (c_ixL (l_own 3 0 rfl rfl rfl) (c_neg c_int)) c_int)) ?_ ?_ (by exact h)
      · intro h
        exact s_raise 1 .BadRule ye (L.err 67 21) rfl rfl ⟨_, rfl⟩ (by exact h)
      intro h
      refine ws_nil ?_
      refine s_lput (R := fun (figures14 : List Int) => nx13 (letters9, figures14)) 3 0 rfl rfl rfl (c_intS B (by rfl) (c_v 4 rfl rfl)) (c_neg c_int) ?_ (by exact h)
      intro figures14 h
      try dsimp only
      show Ws _ (⟨[some (raw (.ref q0)), some (pu text1), some (pu letters9), some (raw (.ref q4)), some (pu x5)], [(q4, lstc figures14), _]⟩ : DSt) _ _
      exact ws_nil ⟨(letters9, figures14), (), rfl, h⟩
    · intro nx13 h
      try dsimp only
      refine s_ifJ (Z := Txt × (List Int)) (J := Unit) (Rest := (fun (z15 : Txt × (List Int)) => (Pattern_init_w4 nx13 z15.1 z15.2))) (B := fun nx17 => (Pattern_init_w3 x5 letters9 figures10 nx17)) (C := fun nx17 => E .BadRule) (fun (z15 : Txt × (List Int)) (j16 : Unit) => (⟨[some (raw (.ref q0)), some (pu text1), some (pu (z15.1 : Txt)), some (raw (.ref q4)), some (pu x5)], [(q4, lstc (z15.2)), (q0, insc (He.ga K "Pattern") [])]⟩ : DSt)) (t_k (k_inS (c_v 4 rfl rfl) (c_catS (c_gs rfl (He.str_ok L.X L.G (L.d.fact 46 rfl))) c_tx))) ?_ ?_ ?_ (by exact h)
      · intro nx17 h
        try dsimp only
        refine s_augS (R := fun (letters18 : Txt) => (Pattern_init_w2 figures10 nx17 letters18)) 2 ye.ok rfl rfl (c_v 4 rfl rfl) ?_ (by exact h)
        intro letters18 h
        try dsimp only
        show Ws _ (⟨[some (raw (.ref q0)), some (pu text1), some (pu letters18), some (raw (.ref q4)), some (pu x5)], [(q4, lstc figures10), _]⟩ : DSt) _ _
        refine s_append (R := fun (v19 : Int) => nx17 (letters18, (figures10 ++ [v19]))) 3 0 rfl rfl rfl c_int ?_ (by exact h)
        intro v19 h
        try dsimp only
        show Ws _ (⟨[some (raw (.ref q0)), some (pu text1), some (pu letters18), some (raw (.ref q4)), some (pu x5)], [(q4, lstc (figures10 ++ [v19])), _]⟩ : DSt) _ _
        exact ws_nil ⟨(letters18, (figures10 ++ [v19])), (), rfl, h⟩
      · intro nx17 h
        try dsimp only
        exact s_raise 1 .BadRule ye (L.err 67 21) rfl rfl ⟨_, rfl⟩ (by exact h)
      intro z15 j16 h
      try dsimp only
      obtain ⟨letters20, figures21⟩ := z15
      show Ws _ (⟨[some (raw (.ref q0)), some (pu text1), some (pu letters20), some (raw (.ref q4)), some (pu x5)], [(q4, lstc figures21), _]⟩ : DSt) _ _
      exact ws_nil ⟨(letters20, figures21), (), rfl, h⟩
    intro z11 j12 h
    try dsimp only
    obtain ⟨letters22, figures23⟩ := z11
    show Ws _ (⟨[some (raw (.ref q0)), some (pu text1), some (pu letters22), some (raw (.ref q4)), some (pu x5)], [(q4, lstc figures23), _]⟩ : DSt) _ _
    exact ws_nil ⟨(letters22, figures23), some (pu x5), rfl, h⟩
  intro z24 j25 h
  try dsimp only
  obtain ⟨letters26, figures27⟩ := z24
  show Ws _ (⟨[some (raw (.ref q0)), some (pu text1), some (pu letters26), some (raw (.ref q4)), j25], [(q4, lstc figures27), _]⟩ : DSt) _ _
  refine s_if (B := E .BadRule) (C := Q (PatternV.mk letters26 (PySem.W.Tup.mk figures27))) (t_w (w_orP (y := (tin (tx ".") (cutD letters26 (some (1 : Int)) (some (-(1 : Int)))))) (t_k (k_eq ye.ok (c_v 2 rfl rfl) c_tx)) (w_or1 (t_k (k_inS c_tx (c_slS (c_v 2 rfl rfl) (o_at c_int) (o_at (c_neg c_int)))))))) ?_ ?_ (by exact h)
  · intro h
    exact s_raise 1 .BadRule ye (L.err 67 21) rfl rfl ⟨_, rfl⟩ (by exact h)
  intro h
  refine ws_nil ?_
  refine s_fld (hl := by first | decide | exact of_decide_eq_true rfl) (R := fun (letters28 : Txt) => Q (PatternV.mk letters28 (PySem.W.Tup.mk figures27))) 0 1 (He.cls_ok (L.d.fact 47 rfl)) (He.noat_ok (L.d.fact 49 rfl)) rfl rfl rfl (c_v 2 rfl rfl) ?_ (by exact h)
  intro letters28 h
  try dsimp only
  show Ws _ (⟨[some (raw (.ref q0)), some (pu text1), some (pu letters26), some (raw (.ref q4)), j25], [(q4, lstc figures27), _]⟩ : DSt) _ _
  refine s_fld (hl := by first | decide | exact of_decide_eq_true rfl) (R := fun (levels29 : (Tup Int)) => Q (PatternV.mk letters28 levels29)) 0 1 (He.cls_ok (L.d.fact 47 rfl)) (He.noat_ok (L.d.fact 50 rfl)) rfl rfl rfl (c_tupL B (by rfl) (l_own 3 0 rfl rfl rfl)) ?_ (by exact h)
  intro levels29 h
  try dsimp only
  show Ws _ (⟨[some (raw (.ref q0)), some (pu text1), some (pu letters26), some (raw (.ref q4)), j25], [(q4, lstc figures27), _]⟩ : DSt) _ _
  exact ws_nil ⟨(PatternV.mk letters28 levels29), ⟨1, rfl⟩, h⟩
abbrev Pattern_said_N : List Str := ["self", "found", "k", "figure"]
theorem Pattern_said_S : FnScope Pattern_said_N ["self"] d_Pattern_said.scope := ⟨rfl, rfl, rfl, by decide +kernel, rfl, by decide +kernel, by decide +kernel⟩
theorem ok_Pattern_said (B : Bis mg) (L : LK w K mg base fa fn tq) {fd : FuncData} (F1 : Fd K d_Pattern_said ["self"] fd)  : FnOk P w K mg base (L2.CX P w) 1 (He.fAd K d_Pattern_said.at_) fd ["self"] (toSp K (tbOf K tq) 1 (spF K Pattern_said_W)) := by
  refine fn_F (k := 0) none L F1 Pattern_said_S Pattern_said_W noneNo (fun _ => rfl) ?_
  intro z t Q E h ye tbl
  obtain ⟨self1, ⟨⟩⟩ := t
  show Ws _ (⟨[some (pu self1), none, none, none], []⟩ : DSt) _ _
  refine s_asg (R := fun (found2 : Txt) => (Pattern_said_w3 self1 found2 Q)) 1 ye.ok rfl c_tx ?_ (by exact h)
  intro found2 h
  try dsimp only
  show Ws _ (⟨[some (pu self1), some (pu found2), none, none], []⟩ : DSt) _ _
  refine s_for (Z := Txt) (J := Option Pv × Option Pv) (Body := (fun (x3 : (Int × Int)) (z4 : Txt) (nx6 : Txt → Prop) => (Pattern_said_w1 self1 x3 nx6 z4))) (Rest := (fun (z9 : Txt) => (Pattern_said_w2 z9 Q))) (.p (.n 2) (.n 3)) (fun (z4 : Txt) (j5 : Option Pv × Option Pv) => (⟨[some (pu self1), some (pu (z4 : Txt)), j5.1, j5.2], []⟩ : DSt)) found2 (none, none) ye.ok (i_enumH ye.ok B (by rfl) (c_fld PatternV.levels (He.cls_ok (L.d.fact 47 rfl)) (He.noat_ok (L.d.fact 50 rfl)) (c_v 0 rfl rfl))) (tg_pair ye.ok.calm (tg_nm ye.ok.nd 2 rfl) (tg_nm ye.ok.nd 3 rfl)) rfl ?_ ?_ (by exact h)
  · intro x3 found7 j5 nx6 h
    try dsimp only
    show Ws _ (⟨[some (pu self1), some (pu found7), some (pu x3.1), some (pu x3.2)], []⟩ : DSt) _ _
    refine s_augS (R := fun (found8 : Txt) => nx6 found8) 1 ye.ok rfl rfl (c_catS (c_ifP (u := (strI x3.2)) (w := (tx "")) (t_k (k_gt (c_v 3 rfl rfl) c_int)) (c_strI B (by rfl) (c_v 3 rfl rfl)) c_tx) (c_ifP (u := (ixS self1.letters x3.1)) (w := (tx "")) (t_k (k_lt (c_v 2 rfl rfl) (c_lenS B (by rfl) (c_fld PatternV.letters (He.cls_ok (L.d.fact 47 rfl)) (He.noat_ok (L.d.fact 49 rfl)) (c_v 0 rfl rfl))))) (c_ixS (c_fld PatternV.letters (He.cls_ok (L.d.fact 47 rfl)) (He.noat_ok (L.d.fact 49 rfl)) (c_v 0 rfl rfl)) (c_v 2 rfl rfl)) c_tx)) ?_ (by exact h)
    intro found8 h
    try dsimp only
    show Ws _ (⟨[some (pu self1), some (pu found8), some (pu x3.1), some (pu x3.2)], []⟩ : DSt) _ _
    exact ws_nil ⟨found8, (some (pu x3.1), some (pu x3.2)), rfl, h⟩
  intro found11 j10 h
  try dsimp only
  show Ws _ (⟨[some (pu self1), some (pu found11), j10.1, j10.2], []⟩ : DSt) _ _
  refine s_ret (R := fun (v12 : Txt) => Q v12) (c_v 1 rfl rfl) (by exact h) ?_
  intro v12 h
  try dsimp only
  exact ⟨⟨0, rfl⟩, _, rfl, h⟩
abbrev Hyphens_init_N : List Str := ["self", "patterns", "told", "first", "last", "text", "word", "part"]
theorem Hyphens_init_S : FnScope Hyphens_init_N ["self", "patterns", "told", "first", "last"] d_Hyphens_init.scope := ⟨rfl, rfl, rfl, by decide +kernel, rfl, by decide +kernel, by decide +kernel⟩
theorem ok_Hyphens_init (B : Bis mg) (L : LK w K mg base fa fn tq) {fd : FuncData} (F1 : Fd K d_Hyphens_init ["self", "patterns", "told", "first", "last"] fd) (G_check_word : Df P w K mg base (tbOf K tq) 3 "check_word" ["word"] (spF K check_word_W)) : FnOk P w K mg base (L2.CX P w) 4 (He.fAd K d_Hyphens_init.at_) fd ["self", "patterns", "told", "first", "last"] (toSp K (tbOf K tq) 5 (spI K Hyphens_init_W)) := by
  refine fn_ITC (γ := HyphensV) (k := 3) L F1 Hyphens_init_S Hyphens_init_W (fun _ => rfl) ?_
  intro q0 z t Q E h ye tbl
  obtain ⟨patterns1, told2, first3, last4, ⟨⟩⟩ := t
  show WsT _ (⟨[some (raw (.ref q0)), some (pu patterns1), some (pu told2), some (pu first3), some (pu last4), none, none, none], [_]⟩ : DSt) _ _
  refine wsT_step ?_
  refine s_if (B := E .BadRule) (C := (Hyphens_init_w7 told2 first3 last4 (PySem.W.Tup.mk patterns1) Q E)) (t_w (w_orP (y := (decide (last4 < (1 : Int)))) (t_k (k_lt (c_v 3 rfl rfl) c_int)) (w_or1 (t_k (k_lt (c_v 4 rfl rfl) c_int))))) ?_ ?_ (by exact h)
  · intro h
    exact s_raise 0 .BadRule ye (L.err 67 21) rfl rfl ⟨_, rfl⟩ (by exact h)
  intro h
  refine ws_nil ?_
  refine ws_nil ?_
  show WsT _ (⟨[some (raw (.ref q0)), some (pu patterns1), some (pu told2), some (pu first3), some (pu last4), none, none, none], [_]⟩ : DSt) _ _
  refine wsT_step ?_
  refine s_fld (hl := by first | decide | exact of_decide_eq_true rfl) (R := fun (patterns5 : (Tup PatternV)) => (Hyphens_init_w7 told2 first3 last4 patterns5 Q E)) 0 0 (He.cls_ok (L.d.fact 53 rfl)) (He.noat_ok (L.d.fact 55 rfl)) rfl rfl rfl (c_tupL B (by rfl) (c_l (c_v 1 rfl rfl))) ?_ (by exact h)
  intro patterns5 h
  try dsimp only
  show Ws _ (⟨[some (raw (.ref q0)), some (pu patterns1), some (pu told2), some (pu first3), some (pu last4), none, none, none], [_]⟩ : DSt) _ _
  refine ws_nil ?_
  show WsT _ (⟨[some (raw (.ref q0)), some (pu patterns1), some (pu told2), some (pu first3), some (pu last4), none, none, none], [_]⟩ : DSt) _ _
  refine wsT_step ?_
  refine s_fldM (hl := by first | decide | exact of_decide_eq_true rfl) (R := fun (told6 : List (Txt × (Tup Txt))) => (Hyphens_init_w6 told2 first3 last4 patterns5 told6 Q E)) 0 0 (He.cls_ok (L.d.fact 53 rfl)) (He.noat_ok (L.d.fact 56 rfl)) rfl rfl rfl (m_new (κ := Txt) (ν := (Tup Txt))) ?_ (by exact h)
  intro q7 told6 h
  try dsimp only
  show Ws _ (⟨[some (raw (.ref q0)), some (pu patterns1), some (pu told2), some (pu first3), some (pu last4), none, none, none], [(q7, dctc told6), _]⟩ : DSt) _ _
  refine ws_nil ?_
  show WsT _ (⟨[some (raw (.ref q0)), some (pu patterns1), some (pu told2), some (pu first3), some (pu last4), none, none, none], [(q7, dctc told6), _]⟩ : DSt) _ _
  refine s_forT (Z := (List (Txt × (Tup Txt)))) (J := Option Pv × Option Pv) (Body := (fun (x8 : Txt) (z9 : (List (Txt × (Tup Txt)))) (nx11 : (List (Txt × (Tup Txt))) → Prop) => (Hyphens_init_w4 x8 nx11 z9 E))) (Rest := (fun (z18 : (List (Txt × (Tup Txt)))) => (Hyphens_init_w5 first3 last4 patterns5 z18 Q))) (.n 5) (fun (z9 : (List (Txt × (Tup Txt)))) (j10 : Option Pv × Option Pv) => (⟨[some (raw (.ref q0)), some (pu patterns1), some (pu told2), some (pu first3), some (pu last4), j10.1, j10.2, none], [(q7, dctc z9), (q0, insc (He.ga K "Hyphens") [("patterns", pu patterns5), ("told", raw (.ref q7))])]⟩ : DSt)) told6 (none, none) ye.ok (i_list (c_v 2 rfl rfl)) (tg_nm ye.ok.nd 5 rfl) rfl ?_ ?_ (by exact h)
  · intro x8 self_told12 j10 nx11 h
    try dsimp only
    show WsT _ (⟨[some (raw (.ref q0)), some (pu patterns1), some (pu told2), some (pu first3), some (pu last4), some (pu x8), j10.2, none], [(q7, dctc self_told12), _]⟩ : DSt) _ _
    refine s_repl (R := fun (word13 : Txt) => (Hyphens_init_w3 x8 nx11 self_told12 word13 E)) 6 ye.ok rfl (c_v 5 rfl rfl) ?_ (by exact h)
    intro word13 h
    try dsimp only
    show Ws _ (⟨[some (raw (.ref q0)), some (pu patterns1), some (pu told2), some (pu first3), some (pu last4), some (pu x8), some (pu word13), none], [(q7, dctc self_told12), _]⟩ : DSt) _ _
    refine s_expr (R := fun (v15 : Unit) => (Hyphens_init_w2 x8 nx11 self_told12 word13 E)) (c_call (w := check_word_W) 1 ye G_check_word (Nat.le_of_ble_eq_true rfl) rfl (a_cons (c_v 6 rfl rfl) a_nil) (fun _ => rfl) ⟨_, rfl⟩) ?_ (by exact h)
    intro v15 h
    try dsimp only
    refine s_if (B := E .BadRule) (C := (Hyphens_init_w1 x8 nx11 self_told12 word13)) (t_w (w_orP (y := ((endT x8 (tx "-")) || (tin (tx "--") x8))) (t_v (fun _ => rfl) (c_start (c_v 5 rfl rfl) c_tx)) (w_orP (y := (tin (tx "--") x8)) (t_v (fun _ => rfl) (c_end (c_v 5 rfl rfl) c_tx)) (w_or1 (t_k (k_inS c_tx (c_v 5 rfl rfl))))))) ?_ ?_ (by exact h)
    · intro h
      exact s_raise 1 .BadRule ye (L.err 67 21) rfl rfl ⟨_, rfl⟩ (by exact h)
    intro h
    refine ws_nil ?_
    refine s_fput (R := fun (self_told17 : List (Txt × (Tup Txt))) => nx11 self_told17) 0 1 0 (He.cls_ok (L.d.fact 53 rfl)) (He.noat_ok (L.d.fact 56 rfl)) ye.ok rfl rfl rfl rfl rfl (c_tupL B (by rfl) (c_l (c_L ye.ok (l_lc0 (.n 7) [("part", 7)] (fun (x16 : Txt) => x16) ye.ok (i_list (c_split (c_v 5 rfl rfl) c_tx)) (show BlkOk Hyphens_init_N d_Hyphens_init.scope _ _ from blk_by (by decide +kernel)) (fun z => (tg_blk ye.ok z 7 rfl)) (fun _ (x16 : Txt) _ _ => (c_v 7 rfl rfl)))))) (c_v 6 rfl rfl) ?_ (by exact h)
    intro self_told17 h
    try dsimp only
    show Ws _ (⟨[some (raw (.ref q0)), some (pu patterns1), some (pu told2), some (pu first3), some (pu last4), some (pu x8), some (pu word13), none], [(q7, dctc self_told17), _]⟩ : DSt) _ _
    exact ws_nil ⟨self_told17, (some (pu x8), some (pu word13)), rfl, h⟩
  intro self_told20 j19 h
  try dsimp only
  show WsT _ (⟨[some (raw (.ref q0)), some (pu patterns1), some (pu told2), some (pu first3), some (pu last4), j19.1, j19.2, none], [(q7, dctc self_told20), _]⟩ : DSt) _ _
  refine wsT_of ?_
  refine s_fld (hl := by first | decide | exact of_decide_eq_true rfl) (R := fun (first21 : Int) => Q (HyphensV.mk patterns5 (Dct.mk self_told20) first21 last4)) 0 1 (He.cls_ok (L.d.fact 53 rfl)) (He.noat_ok (L.d.fact 57 rfl)) rfl rfl rfl (c_v 3 rfl rfl) ?_ (by exact h)
  intro first21 h
  try dsimp only
  show Ws _ (⟨[some (raw (.ref q0)), some (pu patterns1), some (pu told2), some (pu first3), some (pu last4), j19.1, j19.2, none], [(q7, dctc self_told20), _]⟩ : DSt) _ _
  refine s_fld (hl := by first | decide | exact of_decide_eq_true rfl) (R := fun (last22 : Int) => Q (HyphensV.mk patterns5 (Dct.mk self_told20) first21 last22)) 0 1 (He.cls_ok (L.d.fact 53 rfl)) (He.noat_ok (L.d.fact 58 rfl)) rfl rfl rfl (c_v 4 rfl rfl) ?_ (by exact h)
  intro last22 h
  try dsimp only
  show Ws _ (⟨[some (raw (.ref q0)), some (pu patterns1), some (pu told2), some (pu first3), some (pu last4), j19.1, j19.2, none], [(q7, dctc self_told20), _]⟩ : DSt) _ _
  refine ws_frFD (f := "told") 1 0 (by decide) rfl rfl rfl ?_
  show Ws _ (⟨[some (raw (.ref q0)), some (pu patterns1), some (pu told2), some (pu first3), some (pu last4), j19.1, j19.2, none], [_]⟩ : DSt) _ _
  exact ws_nil ⟨(HyphensV.mk patterns5 (Dct.mk self_told20) first21 last22), ⟨0, rfl⟩, h⟩
abbrev Hyphens_init_2_N : List Str := ["self", "patterns", "told", "first", "last", "text", "word", "part"]
theorem Hyphens_init_2_S : FnScope Hyphens_init_2_N ["self", "patterns", "told", "first", "last"] d_Hyphens_init.scope := ⟨rfl, rfl, rfl, by decide +kernel, rfl, by decide +kernel, by decide +kernel⟩
theorem ok_Hyphens_init_2 (B : Bis mg) (L : LK w K mg base fa fn tq) {fd : FuncData} (F1 : Fd K d_Hyphens_init ["self", "patterns", "told", "first", "last"] fd) (G_check_word : Df P w K mg base (tbOf K tq) 3 "check_word" ["word"] (spF K check_word_W)) : FnOk P w K mg base (L2.CX P w) 4 (He.fAd K d_Hyphens_init.at_) fd ["self", "patterns", "told", "first", "last"] (toSp K (tbOf K tq) 5 (spI K Hyphens_init_2_W)) := by
  refine fn_ITC (γ := HyphensV) (k := 3) L F1 Hyphens_init_2_S Hyphens_init_2_W (fun _ => rfl) ?_
  intro q0 z t Q E h ye tbl
  obtain ⟨patterns1, told2, first3, last4, ⟨⟩⟩ := t
  show WsT _ (⟨[some (raw (.ref q0)), some (pu patterns1), some (pu told2), some (pu first3), some (pu last4), none, none, none], [_]⟩ : DSt) _ _
  refine wsT_step ?_
  refine s_if (B := E .BadRule) (C := (Hyphens_init_2_w7 told2 first3 last4 patterns1 Q E)) (t_w (w_orP (y := (decide (last4 < (1 : Int)))) (t_k (k_lt (c_v 3 rfl rfl) c_int)) (w_or1 (t_k (k_lt (c_v 4 rfl rfl) c_int))))) ?_ ?_ (by exact h)
  · intro h
    exact s_raise 0 .BadRule ye (L.err 67 21) rfl rfl ⟨_, rfl⟩ (by exact h)
  intro h
  refine ws_nil ?_
  refine ws_nil ?_
  show WsT _ (⟨[some (raw (.ref q0)), some (pu patterns1), some (pu told2), some (pu first3), some (pu last4), none, none, none], [_]⟩ : DSt) _ _
  refine wsT_step ?_
  refine s_fld (hl := by first | decide | exact of_decide_eq_true rfl) (R := fun (patterns5 : (Tup PatternV)) => (Hyphens_init_2_w7 told2 first3 last4 patterns5 Q E)) 0 0 (He.cls_ok (L.d.fact 53 rfl)) (He.noat_ok (L.d.fact 55 rfl)) rfl rfl rfl (c_tupT B (by rfl) (c_v 1 rfl rfl)) ?_ (by exact h)
  intro patterns5 h
  try dsimp only
  show Ws _ (⟨[some (raw (.ref q0)), some (pu patterns1), some (pu told2), some (pu first3), some (pu last4), none, none, none], [_]⟩ : DSt) _ _
  refine ws_nil ?_
  show WsT _ (⟨[some (raw (.ref q0)), some (pu patterns1), some (pu told2), some (pu first3), some (pu last4), none, none, none], [_]⟩ : DSt) _ _
  refine wsT_step ?_
  refine s_fldM (hl := by first | decide | exact of_decide_eq_true rfl) (R := fun (told6 : List (Txt × (Tup Txt))) => (Hyphens_init_2_w6 told2 first3 last4 patterns5 told6 Q E)) 0 0 (He.cls_ok (L.d.fact 53 rfl)) (He.noat_ok (L.d.fact 56 rfl)) rfl rfl rfl (m_new (κ := Txt) (ν := (Tup Txt))) ?_ (by exact h)
  intro q7 told6 h
  try dsimp only
  show Ws _ (⟨[some (raw (.ref q0)), some (pu patterns1), some (pu told2), some (pu first3), some (pu last4), none, none, none], [(q7, dctc told6), _]⟩ : DSt) _ _
  refine ws_nil ?_
  show WsT _ (⟨[some (raw (.ref q0)), some (pu patterns1), some (pu told2), some (pu first3), some (pu last4), none, none, none], [(q7, dctc told6), _]⟩ : DSt) _ _
  refine s_forT (Z := (List (Txt × (Tup Txt)))) (J := Option Pv × Option Pv) (Body := (fun (x8 : Txt) (z9 : (List (Txt × (Tup Txt)))) (nx11 : (List (Txt × (Tup Txt))) → Prop) => (Hyphens_init_2_w4 x8 nx11 z9 E))) (Rest := (fun (z18 : (List (Txt × (Tup Txt)))) => (Hyphens_init_2_w5 first3 last4 patterns5 z18 Q))) (.n 5) (fun (z9 : (List (Txt × (Tup Txt)))) (j10 : Option Pv × Option Pv) => (⟨[some (raw (.ref q0)), some (pu patterns1), some (pu told2), some (pu first3), some (pu last4), j10.1, j10.2, none], [(q7, dctc z9), (q0, insc (He.ga K "Hyphens") [("patterns", pu patterns5), ("told", raw (.ref q7))])]⟩ : DSt)) told6 (none, none) ye.ok (i_tup (c_v 2 rfl rfl)) (tg_nm ye.ok.nd 5 rfl) rfl ?_ ?_ (by exact h)
  · intro x8 self_told12 j10 nx11 h
    try dsimp only
    show WsT _ (⟨[some (raw (.ref q0)), some (pu patterns1), some (pu told2), some (pu first3), some (pu last4), some (pu x8), j10.2, none], [(q7, dctc self_told12), _]⟩ : DSt) _ _
    refine s_repl (R := fun (word13 : Txt) => (Hyphens_init_2_w3 x8 nx11 self_told12 word13 E)) 6 ye.ok rfl (c_v 5 rfl rfl) ?_ (by exact h)
    intro word13 h
    try dsimp only
    show Ws _ (⟨[some (raw (.ref q0)), some (pu patterns1), some (pu told2), some (pu first3), some (pu last4), some (pu x8), some (pu word13), none], [(q7, dctc self_told12), _]⟩ : DSt) _ _
    refine s_expr (R := fun (v15 : Unit) => (Hyphens_init_2_w2 x8 nx11 self_told12 word13 E)) (c_call (w := check_word_W) 1 ye G_check_word (Nat.le_of_ble_eq_true rfl) rfl (a_cons (c_v 6 rfl rfl) a_nil) (fun _ => rfl) ⟨_, rfl⟩) ?_ (by exact h)
    intro v15 h
    try dsimp only
    refine s_if (B := E .BadRule) (C := (Hyphens_init_2_w1 x8 nx11 self_told12 word13)) (t_w (w_orP (y := ((endT x8 (tx "-")) || (tin (tx "--") x8))) (t_v (fun _ => rfl) (c_start (c_v 5 rfl rfl) c_tx)) (w_orP (y := (tin (tx "--") x8)) (t_v (fun _ => rfl) (c_end (c_v 5 rfl rfl) c_tx)) (w_or1 (t_k (k_inS c_tx (c_v 5 rfl rfl))))))) ?_ ?_ (by exact h)
    · intro h
      exact s_raise 1 .BadRule ye (L.err 67 21) rfl rfl ⟨_, rfl⟩ (by exact h)
    intro h
    refine ws_nil ?_
    refine s_fput (R := fun (self_told17 : List (Txt × (Tup Txt))) => nx11 self_told17) 0 1 0 (He.cls_ok (L.d.fact 53 rfl)) (He.noat_ok (L.d.fact 56 rfl)) ye.ok rfl rfl rfl rfl rfl (c_tupL B (by rfl) (c_l (c_L ye.ok (l_lc0 (.n 7) [("part", 7)] (fun (x16 : Txt) => x16) ye.ok (i_list (c_split (c_v 5 rfl rfl) c_tx)) (show BlkOk Hyphens_init_2_N d_Hyphens_init.scope _ _ from blk_by (by decide +kernel)) (fun z => (tg_blk ye.ok z 7 rfl)) (fun _ (x16 : Txt) _ _ => (c_v 7 rfl rfl)))))) (c_v 6 rfl rfl) ?_ (by exact h)
    intro self_told17 h
    try dsimp only
    show Ws _ (⟨[some (raw (.ref q0)), some (pu patterns1), some (pu told2), some (pu first3), some (pu last4), some (pu x8), some (pu word13), none], [(q7, dctc self_told17), _]⟩ : DSt) _ _
    exact ws_nil ⟨self_told17, (some (pu x8), some (pu word13)), rfl, h⟩
  intro self_told20 j19 h
  try dsimp only
  show WsT _ (⟨[some (raw (.ref q0)), some (pu patterns1), some (pu told2), some (pu first3), some (pu last4), j19.1, j19.2, none], [(q7, dctc self_told20), _]⟩ : DSt) _ _
  refine wsT_of ?_
  refine s_fld (hl := by first | decide | exact of_decide_eq_true rfl) (R := fun (first21 : Int) => Q (HyphensV.mk patterns5 (Dct.mk self_told20) first21 last4)) 0 1 (He.cls_ok (L.d.fact 53 rfl)) (He.noat_ok (L.d.fact 57 rfl)) rfl rfl rfl (c_v 3 rfl rfl) ?_ (by exact h)
  intro first21 h
  try dsimp only
  show Ws _ (⟨[some (raw (.ref q0)), some (pu patterns1), some (pu told2), some (pu first3), some (pu last4), j19.1, j19.2, none], [(q7, dctc self_told20), _]⟩ : DSt) _ _
  refine s_fld (hl := by first | decide | exact of_decide_eq_true rfl) (R := fun (last22 : Int) => Q (HyphensV.mk patterns5 (Dct.mk self_told20) first21 last22)) 0 1 (He.cls_ok (L.d.fact 53 rfl)) (He.noat_ok (L.d.fact 58 rfl)) rfl rfl rfl (c_v 4 rfl rfl) ?_ (by exact h)
  intro last22 h
  try dsimp only
  show Ws _ (⟨[some (raw (.ref q0)), some (pu patterns1), some (pu told2), some (pu first3), some (pu last4), j19.1, j19.2, none], [(q7, dctc self_told20), _]⟩ : DSt) _ _
  refine ws_frFD (f := "told") 1 0 (by decide) rfl rfl rfl ?_
  show Ws _ (⟨[some (raw (.ref q0)), some (pu patterns1), some (pu told2), some (pu first3), some (pu last4), j19.1, j19.2, none], [_]⟩ : DSt) _ _
  exact ws_nil ⟨(HyphensV.mk patterns5 (Dct.mk self_told20) first21 last22), ⟨0, rfl⟩, h⟩
abbrev Hyphens_levels_in_N : List Str := ["self", "word", "text", "found", "pattern", "size", "place", "k", "figure"]
theorem Hyphens_levels_in_S : FnScope Hyphens_levels_in_N ["self", "word"] d_Hyphens_levels_in.scope := ⟨rfl, rfl, rfl, by decide +kernel, rfl, by decide +kernel, by decide +kernel⟩
theorem ok_Hyphens_levels_in (B : Bis mg) (L : LK w K mg base fa fn tq) {fd : FuncData} (F1 : Fd K d_Hyphens_levels_in ["self", "word"] fd) (G_check_word : Df P w K mg base (tbOf K tq) 3 "check_word" ["word"] (spF K check_word_W)) : FnOk P w K mg base (L2.CX P w) 4 (He.fAd K d_Hyphens_levels_in.at_) fd ["self", "word"] (toSp K (tbOf K tq) 2 (spF K Hyphens_levels_in_W)) := by
  refine fn_F (k := 3) none L F1 Hyphens_levels_in_S Hyphens_levels_in_W noneNo (fun _ => rfl) ?_
  intro z t Q E h ye tbl
  obtain ⟨self1, word2, ⟨⟩⟩ := t
  show Ws _ (⟨[some (pu self1), some (pu word2), none, none, none, none, none, none, none], []⟩ : DSt) _ _
  refine s_expr (R := fun (v4 : Unit) => (Hyphens_levels_in_w12 self1 word2 Q)) (c_call (w := check_word_W) 0 ye G_check_word (Nat.le_of_ble_eq_true rfl) rfl (a_cons (c_v 1 rfl rfl) a_nil) (fun _ => rfl) rfl) ?_ (by exact h)
  intro v4 h
  try dsimp only
  refine s_asg (R := fun (text5 : Txt) => (Hyphens_levels_in_w11 self1 text5 Q)) 2 ye.ok rfl (c_catS (c_catS c_tx (c_v 1 rfl rfl)) c_tx) ?_ (by exact h)
  intro text5 h
  try dsimp only
  show Ws _ (⟨[some (pu self1), some (pu word2), some (pu text5), none, none, none, none, none, none], []⟩ : DSt) _ _
  refine s_asgN (R := fun (found6 : List Int) => (Hyphens_levels_in_w10 self1 text5 found6 Q)) 3 ye.ok rfl (n_rep (s_cons c_int (s_nil)) (fun _ _ => (c_add (c_lenS B (by rfl) (c_v 2 rfl rfl)) c_int))) ?_ (by exact h)
  intro q7 found6 h
  try dsimp only
  show Ws _ (⟨[some (pu self1), some (pu word2), some (pu text5), some (raw (.ref q7)), none, none, none, none, none], [(q7, lstc found6)]⟩ : DSt) _ _
  refine s_for (Z := (List Int)) (J := Option Pv × Option Pv × Option Pv × Option Pv × Option Pv) (Body := (fun (x8 : PatternV) (z9 : (List Int)) (nx11 : (List Int) → Prop) => (Hyphens_levels_in_w8 text5 x8 nx11 z9))) (Rest := (fun (z35 : (List Int)) => (Hyphens_levels_in_w9 z35 Q))) (.n 4) (fun (z9 : (List Int)) (j10 : Option Pv × Option Pv × Option Pv × Option Pv × Option Pv) => (⟨[some (pu self1), some (pu word2), some (pu text5), some (raw (.ref q7)), j10.1, j10.2.1, j10.2.2.1, j10.2.2.2.1, j10.2.2.2.2], [(q7, lstc z9)]⟩ : DSt)) found6 (none, none, none, none, none) ye.ok (i_tup (c_fld HyphensV.patterns (He.cls_ok (L.d.fact 53 rfl)) (He.noat_ok (L.d.fact 55 rfl)) (c_v 0 rfl rfl))) (tg_nm ye.ok.nd 4 rfl) rfl ?_ ?_ (by exact h)
  · intro x8 found12 j10 nx11 h
    try dsimp only
    show Ws _ (⟨[some (pu self1), some (pu word2), some (pu text5), some (raw (.ref q7)), some (pu x8), j10.2.1, j10.2.2.1, j10.2.2.2.1, j10.2.2.2.2], [(q7, lstc found12)]⟩ : DSt) _ _
    refine s_asg (R := fun (size13 : Int) => (Hyphens_levels_in_w7 text5 x8 nx11 found12 size13)) 5 ye.ok rfl (c_lenS B (by rfl) (c_fld PatternV.letters (He.cls_ok (L.d.fact 47 rfl)) (He.noat_ok (L.d.fact 49 rfl)) (c_v 4 rfl rfl))) ?_ (by exact h)
    intro size13 h
    try dsimp only
    show Ws _ (⟨[some (pu self1), some (pu word2), some (pu text5), some (raw (.ref q7)), some (pu x8), some (pu size13), j10.2.2.1, j10.2.2.2.1, j10.2.2.2.2], [(q7, lstc found12)]⟩ : DSt) _ _
    refine s_for (Z := (List Int)) (J := Option Pv × Option Pv × Option Pv) (Body := (fun (x14 : Int) (z15 : (List Int)) (nx17 : (List Int) → Prop) => (Hyphens_levels_in_w5 text5 x8 size13 x14 nx17 z15))) (Rest := (fun (z32 : (List Int)) => (Hyphens_levels_in_w6 nx11 z32))) (.n 6) (fun (z15 : (List Int)) (j16 : Option Pv × Option Pv × Option Pv) => (⟨[some (pu self1), some (pu word2), some (pu text5), some (raw (.ref q7)), some (pu x8), some (pu size13), j16.1, j16.2.1, j16.2.2], [(q7, lstc z15)]⟩ : DSt)) found12 (j10.2.2.1, j10.2.2.2.1, j10.2.2.2.2) ye.ok (i_range1 ye.ok B (by rfl) (c_add (c_sub (c_lenS B (by rfl) (c_v 2 rfl rfl)) (c_v 5 rfl rfl)) c_int)) (tg_nm ye.ok.nd 6 rfl) rfl ?_ ?_ (by exact h)
    · intro x14 found18 j16 nx17 h
      try dsimp only
      show Ws _ (⟨[some (pu self1), some (pu word2), some (pu text5), some (raw (.ref q7)), some (pu x8), some (pu size13), some (pu x14), j16.2.1, j16.2.2], [(q7, lstc found18)]⟩ : DSt) _ _
      refine s_ifJ (Z := (List Int)) (J := Option Pv × Option Pv) (Rest := (fun (z19 : (List Int)) => (Hyphens_levels_in_w4 nx17 z19))) (B := fun nx21 => (Hyphens_levels_in_w3 x8 x14 found18 nx21)) (C := fun nx21 => nx21 found18) (fun (z19 : (List Int)) (j20 : Option Pv × Option Pv) => (⟨[some (pu self1), some (pu word2), some (pu text5), some (raw (.ref q7)), some (pu x8), some (pu size13), some (pu x14), j20.1, j20.2], [(q7, lstc z19)]⟩ : DSt)) (t_k (k_eq ye.ok (c_slS (c_v 2 rfl rfl) (o_at (c_v 6 rfl rfl)) (o_at (c_add (c_v 6 rfl rfl) (c_v 5 rfl rfl)))) (c_fld PatternV.letters (He.cls_ok (L.d.fact 47 rfl)) (He.noat_ok (L.d.fact 49 rfl)) (c_v 4 rfl rfl)))) ?_ ?_ ?_ (by exact h)
      · intro nx21 h
        try dsimp only
        refine s_for (Z := (List Int)) (J := Option Pv × Option Pv) (Body := (fun (x22 : (Int × Int)) (z23 : (List Int)) (nx25 : (List Int) → Prop) => (Hyphens_levels_in_w1 x14 x22 nx25 z23))) (Rest := (fun (z28 : (List Int)) => (Hyphens_levels_in_w2 nx21 z28))) (.p (.n 7) (.n 8)) (fun (z23 : (List Int)) (j24 : Option Pv × Option Pv) => (⟨[some (pu self1), some (pu word2), some (pu text5), some (raw (.ref q7)), some (pu x8), some (pu size13), some (pu x14), j24.1, j24.2], [(q7, lstc z23)]⟩ : DSt)) found18 (j16.2.1, j16.2.2) ye.ok (i_enumH ye.ok B (by rfl) (c_fld PatternV.levels (He.cls_ok (L.d.fact 47 rfl)) (He.noat_ok (L.d.fact 50 rfl)) (c_v 4 rfl rfl))) (tg_pair ye.ok.calm (tg_nm ye.ok.nd 7 rfl) (tg_nm ye.ok.nd 8 rfl)) rfl ?_ ?_ (by exact h)
        · intro x22 found26 j24 nx25 h
          try dsimp only
          show Ws _ (⟨[some (pu self1), some (pu word2), some (pu text5), some (raw (.ref q7)), some (pu x8), some (pu size13), some (pu x14), some (pu x22.1), some (pu x22.2)], [(q7, lstc found26)]⟩ : DSt) _ _
          refine s_lput (R := fun (found27 : List Int) => nx25 found27) 3 0 rfl rfl rfl (c_max2 ye.ok B (by rfl) (c_ixL (l_own 3 0 rfl rfl rfl) (c_add (c_v 6 rfl rfl) (c_v 7 rfl rfl))) (c_v 8 rfl rfl)) (c_add (c_v 6 rfl rfl) (c_v 7 rfl rfl)) ?_ (by exact h)
          intro found27 h
          try dsimp only
          show Ws _ (⟨[some (pu self1), some (pu word2), some (pu text5), some (raw (.ref q7)), some (pu x8), some (pu size13), some (pu x14), some (pu x22.1), some (pu x22.2)], [(q7, lstc found27)]⟩ : DSt) _ _
          exact ws_nil ⟨found27, (some (pu x22.1), some (pu x22.2)), rfl, h⟩
        intro found30 j29 h
        try dsimp only
        show Ws _ (⟨[some (pu self1), some (pu word2), some (pu text5), some (raw (.ref q7)), some (pu x8), some (pu size13), some (pu x14), j29.1, j29.2], [(q7, lstc found30)]⟩ : DSt) _ _
        exact ws_nil ⟨found30, (j29.1, j29.2), rfl, h⟩
      · intro nx21 h
        try dsimp only
        exact ws_nil ⟨found18, (j16.2.1, j16.2.2), rfl, h⟩
      intro found31 j20 h
      try dsimp only
      show Ws _ (⟨[some (pu self1), some (pu word2), some (pu text5), some (raw (.ref q7)), some (pu x8), some (pu size13), some (pu x14), j20.1, j20.2], [(q7, lstc found31)]⟩ : DSt) _ _
      exact ws_nil ⟨found31, (some (pu x14), j20.1, j20.2), rfl, h⟩
    intro found34 j33 h
    try dsimp only
    show Ws _ (⟨[some (pu self1), some (pu word2), some (pu text5), some (raw (.ref q7)), some (pu x8), some (pu size13), j33.1, j33.2.1, j33.2.2], [(q7, lstc found34)]⟩ : DSt) _ _
    exact ws_nil ⟨found34, (some (pu x8), some (pu size13), j33.1, j33.2.1, j33.2.2), rfl, h⟩
  intro found37 j36 h
  try dsimp only
  show Ws _ (⟨[some (pu self1), some (pu word2), some (pu text5), some (raw (.ref q7)), j36.1, j36.2.1, j36.2.2.1, j36.2.2.2.1, j36.2.2.2.2], [(q7, lstc found37)]⟩ : DSt) _ _
  refine s_ret (R := fun (v38 : (Tup Int)) => Q v38) (c_tupL B (by rfl) (c_l (c_slL (l_own 3 0 rfl rfl rfl) (o_at c_int) (o_at (c_neg c_int))))) (by exact h) ?_
  intro v38 h
  try dsimp only
  exact ⟨⟨1, rfl⟩, _, rfl, h⟩
abbrev Hyphens_parts_N : List Str := ["self", "word", "figures", "found", "start", "k"]
theorem Hyphens_parts_S : FnScope Hyphens_parts_N ["self", "word"] d_Hyphens_parts.scope := ⟨rfl, rfl, rfl, by decide +kernel, rfl, by decide +kernel, by decide +kernel⟩
theorem ok_Hyphens_parts (B : Bis mg) (L : LK w K mg base fa fn tq) {fd : FuncData} (F1 : Fd K d_Hyphens_parts ["self", "word"] fd) (G_Hyphens_levels_in : Mt P w K mg base (tbOf K tq) 4 (He.ga K "Hyphens") "levels_in" ["self", "word"] (spF K Hyphens_levels_in_W)) : FnOk P w K mg base (L2.CX P w) 5 (He.fAd K d_Hyphens_parts.at_) fd ["self", "word"] (toSp K (tbOf K tq) 2 (spF K Hyphens_parts_W)) := by
  refine fn_F (k := 4) none L F1 Hyphens_parts_S Hyphens_parts_W noneNo (fun _ => rfl) ?_
  intro z t Q E h ye tbl
  obtain ⟨self1, word2, ⟨⟩⟩ := t
  show Ws _ (⟨[some (pu self1), some (pu word2), none, none, none, none], []⟩ : DSt) _ _
  refine s_if (B := (dhas self1.told.kvs word2 = true ∧ Q (dgt self1.told.kvs word2))) (C := (Hyphens_parts_w6 self1 word2 Q E)) (t_k (k_inD ye.ok (c_v 1 rfl rfl) (c_d (c_fld HyphensV.told (He.cls_ok (L.d.fact 53 rfl)) (He.noat_ok (L.d.fact 56 rfl)) (c_v 0 rfl rfl))))) ?_ ?_ (by exact h)
  · intro h
    refine s_ret (R := fun (v3 : (Tup Txt)) => Q v3) (c_dget ye.ok (c_d (c_fld HyphensV.told (He.cls_ok (L.d.fact 53 rfl)) (He.noat_ok (L.d.fact 56 rfl)) (c_v 0 rfl rfl))) (c_v 1 rfl rfl)) (by exact h) ?_
    intro v3 h
    try dsimp only
    exact ⟨⟨0, rfl⟩, _, rfl, h⟩
  intro h
  refine ws_nil ?_
  refine ws_cons (w1_par3 2 3 4 ye.ok rfl rfl rfl (evs_cons (EvC.q (k := fun (figures5 : (Tup Int)) => (Hyphens_parts_w5 self1 word2 figures5 ([] : List Txt) (0 : Int) Q)) (c_meth (w := Hyphens_levels_in_W) 0 ye G_Hyphens_levels_in (He.cls_ok (L.d.fact 53 rfl)) (Nat.le_of_ble_eq_true rfl) (c_v 0 rfl rfl) (a_cons (c_v 1 rfl rfl) a_nil) (fun _ => rfl) rfl) (by exact h) fun figures5 h => evs_cons (EvN.q (k := fun (found6 : (List Txt)) => (Hyphens_parts_w5 self1 word2 figures5 found6 (0 : Int) Q)) (n_list (s_nil (α := Txt))) (by exact h) fun q7 found6 h => evs_cons (EvC.q (k := fun (start8 : Int) => (Hyphens_parts_w5 self1 word2 figures5 found6 start8 Q)) c_int (by exact h) fun start8 h => evs_nil ⟨_, _, _, rfl, ?_⟩) (by exact star_c rfl)) (by exact star_c rfl)) (by exact star_c rfl)))
  show Ws _ (⟨[some (pu self1), some (pu word2), some (pu figures5), some (raw (.ref q7)), some (pu start8), none], [(q7, lstc found6)]⟩ : DSt) _ _
  refine s_for (Z := (List Txt) × Int) (J := Option Pv) (Body := (fun (x9 : Int) (z10 : (List Txt) × Int) (nx12 : (List Txt) × Int → Prop) => (Hyphens_parts_w3 word2 figures5 x9 nx12 z10.1 z10.2))) (Rest := (fun (z22 : (List Txt) × Int) => (Hyphens_parts_w4 word2 z22.1 z22.2 Q))) (.n 5) (fun (z10 : (List Txt) × Int) (j11 : Option Pv) => (⟨[some (pu self1), some (pu word2), some (pu figures5), some (raw (.ref q7)), some (pu (z10.2 : Int)), j11], [(q7, lstc (z10.1))]⟩ : DSt)) (found6, start8) none ye.ok (i_range2 ye.ok B (by rfl) (c_fld HyphensV.first (He.cls_ok (L.d.fact 53 rfl)) (He.noat_ok (L.d.fact 57 rfl)) (c_v 0 rfl rfl)) (c_add (c_sub (c_lenS B (by rfl) (c_v 1 rfl rfl)) (c_fld HyphensV.last (He.cls_ok (L.d.fact 53 rfl)) (He.noat_ok (L.d.fact 58 rfl)) (c_v 0 rfl rfl))) c_int)) (tg_nm ye.ok.nd 5 rfl) rfl ?_ ?_ (by exact h)
  · intro x9 z10 j11 nx12 h
    try dsimp only
    obtain ⟨found13, start14⟩ := z10
    show Ws _ (⟨[some (pu self1), some (pu word2), some (pu figures5), some (raw (.ref q7)), some (pu start14), some (pu x9)], [(q7, lstc found13)]⟩ : DSt) _ _
    refine s_ifJ (Z := (List Txt) × Int) (J := Unit) (Rest := (fun (z15 : (List Txt) × Int) => (Hyphens_parts_w2 nx12 z15.1 z15.2))) (B := fun nx17 => (Hyphens_parts_w1 word2 x9 found13 start14 nx17)) (C := fun nx17 => nx17 (found13, start14)) (fun (z15 : (List Txt) × Int) (j16 : Unit) => (⟨[some (pu self1), some (pu word2), some (pu figures5), some (raw (.ref q7)), some (pu (z15.2 : Int)), some (pu x9)], [(q7, lstc (z15.1))]⟩ : DSt)) (t_k (k_eq ye.ok (c_mod (c_ixH (c_v 2 rfl rfl) (c_v 5 rfl rfl)) c_int) c_int)) ?_ ?_ ?_ (by exact h)
    · intro nx17 h
      try dsimp only
      refine s_append (R := fun (v18 : Txt) => nx17 ((found13 ++ [v18]), x9)) 3 0 rfl rfl rfl (c_slS (c_v 1 rfl rfl) (o_at (c_v 4 rfl rfl)) (o_at (c_v 5 rfl rfl))) ?_ (by exact h)
      intro v18 h
      try dsimp only
      show Ws _ (⟨[some (pu self1), some (pu word2), some (pu figures5), some (raw (.ref q7)), some (pu start14), some (pu x9)], [(q7, lstc (found13 ++ [v18]))]⟩ : DSt) _ _
      refine s_asg (R := fun (start19 : Int) => nx17 ((found13 ++ [v18]), start19)) 4 ye.ok rfl (c_v 5 rfl rfl) ?_ (by exact h)
      intro start19 h
      try dsimp only
      show Ws _ (⟨[some (pu self1), some (pu word2), some (pu figures5), some (raw (.ref q7)), some (pu start19), some (pu x9)], [(q7, lstc (found13 ++ [v18]))]⟩ : DSt) _ _
      exact ws_nil ⟨((found13 ++ [v18]), start19), (), rfl, h⟩
    · intro nx17 h
      try dsimp only
      exact ws_nil ⟨(found13, start14), (), rfl, h⟩
    intro z15 j16 h
    try dsimp only
    obtain ⟨found20, start21⟩ := z15
    show Ws _ (⟨[some (pu self1), some (pu word2), some (pu figures5), some (raw (.ref q7)), some (pu start21), some (pu x9)], [(q7, lstc found20)]⟩ : DSt) _ _
    exact ws_nil ⟨(found20, start21), some (pu x9), rfl, h⟩
  intro z22 j23 h
  try dsimp only
  obtain ⟨found24, start25⟩ := z22
  show Ws _ (⟨[some (pu self1), some (pu word2), some (pu figures5), some (raw (.ref q7)), some (pu start25), j23], [(q7, lstc found24)]⟩ : DSt) _ _
  refine s_ret (R := fun (v26 : (Tup Txt)) => Q v26) (c_tupL B (by rfl) (c_l (c_catL (l_own 3 0 rfl rfl rfl) (c_l (c_list (s_cons (c_slS (c_v 1 rfl rfl) (o_at (c_v 4 rfl rfl)) o_no) (s_nil))))))) (by exact h) ?_
  intro v26 h
  try dsimp only
  exact ⟨⟨1, rfl⟩, _, rfl, h⟩
abbrev Hyphens_said_N : List Str := ["self", "word"]
theorem Hyphens_said_S : FnScope Hyphens_said_N ["self", "word"] d_Hyphens_said.scope := ⟨rfl, rfl, rfl, by decide +kernel, rfl, by decide +kernel, by decide +kernel⟩
theorem ok_Hyphens_said (B : Bis mg) (L : LK w K mg base fa fn tq) {fd : FuncData} (F1 : Fd K d_Hyphens_said ["self", "word"] fd) (G_Hyphens_parts : Mt P w K mg base (tbOf K tq) 5 (He.ga K "Hyphens") "parts" ["self", "word"] (spF K Hyphens_parts_W)) : FnOk P w K mg base (L2.CX P w) 6 (He.fAd K d_Hyphens_said.at_) fd ["self", "word"] (toSp K (tbOf K tq) 2 (spF K Hyphens_said_W)) := by
  refine fn_F (k := 5) none L F1 Hyphens_said_S Hyphens_said_W noneNo (fun _ => rfl) ?_
  intro z t Q E h ye tbl
  obtain ⟨self1, word2, ⟨⟩⟩ := t
  show Ws _ (⟨[some (pu self1), some (pu word2)], []⟩ : DSt) _ _
  refine s_ret (R := fun (v4 : Txt) => Q v4) (c_joinH c_tx (c_meth (w := Hyphens_parts_W) 0 ye G_Hyphens_parts (He.cls_ok (L.d.fact 53 rfl)) (Nat.le_of_ble_eq_true rfl) (c_v 0 rfl rfl) (a_cons (c_v 1 rfl rfl) a_nil) (fun _ => rfl) rfl)) (by exact h) ?_
  intro v4 h
  try dsimp only
  exact ⟨⟨0, rfl⟩, _, rfl, h⟩
abbrev Hyphens_splits_N : List Str := ["self", "word", "room", "best", "here", "part"]
theorem Hyphens_splits_S : FnScope Hyphens_splits_N ["self", "word", "room"] d_Hyphens_splits.scope := ⟨rfl, rfl, rfl, by decide +kernel, rfl, by decide +kernel, by decide +kernel⟩
theorem ok_Hyphens_splits (B : Bis mg) (L : LK w K mg base fa fn tq) {fd : FuncData} (F1 : Fd K d_Hyphens_splits ["self", "word", "room"] fd) (G_Hyphens_parts : Mt P w K mg base (tbOf K tq) 5 (He.ga K "Hyphens") "parts" ["self", "word"] (spF K Hyphens_parts_W)) : FnOk P w K mg base (L2N.CX P w) 6 (He.fAd K d_Hyphens_splits.at_) fd ["self", "word", "room"] (toSp K (tbOf K tq) 3 (spF K Hyphens_splits_W)) := by
  refine fn_FN (k := 5) none L F1 Hyphens_splits_S Hyphens_splits_W noneNo (fun _ => rfl) ?_
  intro z t Q E h ye yn tbl
  obtain ⟨self1, word2, room3, ⟨⟩⟩ := t
  show Ws _ (⟨[some (pu self1), some (pu word2), some (pu room3), none, none, none], []⟩ : DSt) _ _
  refine s_asgT (R := fun (u4 : ((Option Txt) × Txt)) => (Hyphens_splits_w6 self1 word2 room3 u4 Q E)) (.p (.n 3) (.n 4)) (tg_pair ye.ok.calm (tg_nm ye.ok.nd 3 rfl) (tg_nm ye.ok.nd 4 rfl)) (c_tup2 (a_cons (c_none (α := Txt)) (a_cons c_tx a_nil))) ?_ (by exact h)
  intro u4 h
  try dsimp only
  show Ws _ (⟨[some (pu self1), some (pu word2), some (pu room3), some (pu u4.1), some (pu u4.2), none], []⟩ : DSt) _ _
  refine s_for (Z := (Option Txt) × Txt) (J := Option Pv) (Body := (fun (x6 : Txt) (z7 : (Option Txt) × Txt) (nx9 : (Option Txt) × Txt → Prop) => (Hyphens_splits_w3 room3 x6 nx9 z7.1 z7.2))) (Rest := (fun (z18 : (Option Txt) × Txt) => (Hyphens_splits_w5 word2 z18.1 Q E))) (.n 5) (fun (z7 : (Option Txt) × Txt) (j8 : Option Pv) => (⟨[some (pu self1), some (pu word2), some (pu room3), some (pu (z7.1 : (Option Txt))), some (pu (z7.2 : Txt)), j8], []⟩ : DSt)) (u4.1, u4.2) none ye.ok (i_tup (c_slH (c_meth (w := Hyphens_parts_W) 0 ye G_Hyphens_parts (He.cls_ok (L.d.fact 53 rfl)) (Nat.le_of_ble_eq_true rfl) (c_v 0 rfl rfl) (a_cons (c_v 1 rfl rfl) a_nil) (fun _ => rfl) rfl) o_no (o_at (c_neg c_int)))) (tg_nm ye.ok.nd 5 rfl) rfl ?_ ?_ (by exact h)
  · intro x6 z7 j8 nx9 h
    try dsimp only
    obtain ⟨best10, here11⟩ := z7
    show Ws _ (⟨[some (pu self1), some (pu word2), some (pu room3), some (pu best10), some (pu here11), some (pu x6)], []⟩ : DSt) _ _
    refine s_augS (R := fun (here12 : Txt) => (Hyphens_splits_w2 room3 nx9 best10 here12)) 4 ye.ok rfl rfl (c_v 5 rfl rfl) ?_ (by exact h)
    intro here12 h
    try dsimp only
    show Ws _ (⟨[some (pu self1), some (pu word2), some (pu room3), some (pu best10), some (pu here12), some (pu x6)], []⟩ : DSt) _ _
    refine s_ifJ (Z := (Option Txt)) (J := Unit) (Rest := (fun (z13 : (Option Txt)) => (Hyphens_splits_w1 nx9 here12 z13))) (B := fun nx15 => nx15 (some here12)) (C := fun nx15 => nx15 best10) (fun (z13 : (Option Txt)) (j14 : Unit) => (⟨[some (pu self1), some (pu word2), some (pu room3), some (pu (z13 : (Option Txt))), some (pu here12), some (pu x6)], []⟩ : DSt)) (t_k (k_le (c_add (c_lenS B (by rfl) (c_v 4 rfl rfl)) c_int) (c_v 2 rfl rfl))) ?_ ?_ ?_ (by exact h)
    · intro nx15 h
      try dsimp only
      refine s_asg (R := fun (best16 : (Option Txt)) => nx15 best16) 3 ye.ok rfl (c_some (c_v 4 rfl rfl)) ?_ (by exact h)
      intro best16 h
      try dsimp only
      show Ws _ (⟨[some (pu self1), some (pu word2), some (pu room3), some (pu best16), some (pu here12), some (pu x6)], []⟩ : DSt) _ _
      exact ws_nil ⟨best16, (), rfl, h⟩
    · intro nx15 h
      try dsimp only
      exact ws_nil ⟨best10, (), rfl, h⟩
    intro best17 j14 h
    try dsimp only
    show Ws _ (⟨[some (pu self1), some (pu word2), some (pu room3), some (pu best17), some (pu here12), some (pu x6)], []⟩ : DSt) _ _
    exact ws_nil ⟨(best17, here12), some (pu x6), rfl, h⟩
  intro z18 j19 h
  try dsimp only
  obtain ⟨best20, here21⟩ := z18
  show Ws _ (⟨[some (pu self1), some (pu word2), some (pu room3), some (pu best20), some (pu here21), j19], []⟩ : DSt) _ _
  refine s_if (B := E .NoWay) (C := (Hyphens_splits_w4 word2 best20 Q)) (t_k (k_isN (c_v 3 rfl rfl))) ?_ ?_ (by exact h)
  · intro h
    exact s_raise0N .NoWay ye yn (L.err 70 24) rfl rfl ⟨0, rfl⟩ (by exact h)
  intro h
  refine ws_nil ?_
  refine s_ret (R := fun (v22 : (Txt × Txt)) => Q v22) (c_tup2 (a_cons (c_catS (c_optG (c_v 3 rfl rfl)) c_tx) (a_cons (c_slS (c_v 1 rfl rfl) (o_at (c_lenS B (by rfl) (c_optG (c_v 3 rfl rfl)))) o_no) a_nil))) (by exact h) ?_
  intro v22 h
  try dsimp only
  exact ⟨⟨0, rfl⟩, _, rfl, h⟩
abbrev Hyphens_lines_N : List Str := ["self", "words", "wide", "found", "here", "left", "word", "lead", "ahead", "behind"]
theorem Hyphens_lines_S : FnScope Hyphens_lines_N ["self", "words", "wide"] d_Hyphens_lines.scope := ⟨rfl, rfl, rfl, by decide +kernel, rfl, by decide +kernel, by decide +kernel⟩
theorem ok_Hyphens_lines (B : Bis mg) (L : LK w K mg base fa fn tq) {fd : FuncData} (F1 : Fd K d_Hyphens_lines ["self", "words", "wide"] fd) (G_Hyphens_splits : MtN P w K mg base (tbOf K tq) 6 (He.ga K "Hyphens") "splits" ["self", "word", "room"] (spF K Hyphens_splits_W)) : FnOk P w K mg base (L2.CX P w) 7 (He.fAd K d_Hyphens_lines.at_) fd ["self", "words", "wide"] (toSp K (tbOf K tq) 3 (spF K Hyphens_lines_W)) := by
  refine fn_F (k := 6) none L F1 Hyphens_lines_S Hyphens_lines_W noneNo (fun _ => rfl) ?_
  intro z t Q E h ye tbl
  obtain ⟨self1, words2, wide3, ⟨⟩⟩ := t
  show Ws _ (⟨[some (pu self1), some (pu words2), some (pu wide3), none, none, none, none, none, none, none], []⟩ : DSt) _ _
  refine ws_cons (w1_par3 3 4 5 ye.ok rfl rfl rfl (evs_cons (EvN.q (k := fun (found4 : (List Txt)) => (Hyphens_lines_w13 self1 wide3 found4 (tx "") words2 Q E)) (n_list (s_nil (α := Txt))) (by exact h) fun q5 found4 h => evs_cons (EvC.q (k := fun (here6 : Txt) => (Hyphens_lines_w13 self1 wide3 found4 here6 words2 Q E)) c_tx (by exact h) fun here6 h => evs_cons (EvN.q (k := fun (left7 : (List Txt)) => (Hyphens_lines_w13 self1 wide3 found4 here6 left7 Q E)) (n_listL B (by rfl) (c_l (c_v 1 rfl rfl))) (by exact h) fun q8 left7 h => evs_nil ⟨_, _, _, rfl, ?_⟩) (by exact star_c rfl)) (by exact star_c rfl)) (by exact star_c rfl)))
  show Ws _ (⟨[some (pu self1), some (pu words2), some (pu wide3), some (raw (.ref q5)), some (pu here6), some (raw (.ref q8)), none, none, none, none], [(q8, lstc left7), (q5, lstc found4)]⟩ : DSt) _ _
  refine s_while (Z := (List Txt) × Txt × (List Txt)) (J := Option Pv × Option Pv × Option Pv × Option Pv) (Cond := (fun (z9 : (List Txt) × Txt × (List Txt)) (k15 : Bool → Prop) => k15 (decide (z9.2.2 ≠ ([] : List Txt))))) (Body := (fun (z9 : (List Txt) × Txt × (List Txt)) (nx11 : (List Txt) × Txt × (List Txt) → Prop) => (Hyphens_lines_w11 self1 wide3 nx11 z9.1 z9.2.1 z9.2.2 E))) (Rest := (fun (z28 : (List Txt) × Txt × (List Txt)) => (Hyphens_lines_w12 z28.1 z28.2.1 Q))) (fun (z9 : (List Txt) × Txt × (List Txt)) (j10 : Option Pv × Option Pv × Option Pv × Option Pv) => (⟨[some (pu self1), some (pu words2), some (pu wide3), some (raw (.ref q5)), some (pu (z9.2.1 : Txt)), some (raw (.ref q8)), j10.1, j10.2.1, j10.2.2.1, j10.2.2.2], [(q8, lstc (z9.2.2)), (q5, lstc (z9.1))]⟩ : DSt)) (found4, here6, left7) (none, none, none, none) ye.ok rfl (fun z9 j10 => (t_k (k_neL ye.ok (l_own 5 0 rfl rfl rfl) (c_l (c_list (s_nil (α := Txt))))))) ?_ ?_ (by exact h)
  · intro z9 j10 nx11 h
    try dsimp only
    obtain ⟨found12, here13, left14⟩ := z9
    show Ws _ (⟨[some (pu self1), some (pu words2), some (pu wide3), some (raw (.ref q5)), some (pu here13), some (raw (.ref q8)), j10.1, j10.2.1, j10.2.2.1, j10.2.2.2], [(q8, lstc left14), (q5, lstc found12)]⟩ : DSt) _ _
    refine s_asgPop (R := fun (word16 : Txt) (left17 : List Txt) => (Hyphens_lines_w10 self1 wide3 nx11 found12 here13 word16 left17 E)) 5 6 0 ye.ok rfl rfl rfl rfl c_int ?_ (by exact h)
    intro word16 left17 h
    try dsimp only
    show Ws _ (⟨[some (pu self1), some (pu words2), some (pu wide3), some (raw (.ref q5)), some (pu here13), some (raw (.ref q8)), some (pu word16), j10.2.1, j10.2.2.1, j10.2.2.2], [(q8, lstc left17), (q5, lstc found12)]⟩ : DSt) _ _
    refine s_asg (R := fun (lead18 : Txt) => (Hyphens_lines_w9 self1 wide3 nx11 found12 here13 word16 left17 lead18 E)) 7 ye.ok rfl (c_ifP (u := (here13 ++ (tx " "))) (w := (tx "")) (t_k (k_ne ye.ok (c_v 4 rfl rfl) c_tx)) (c_catS (c_v 4 rfl rfl) c_tx) c_tx) ?_ (by exact h)
    intro lead18 h
    try dsimp only
    show Ws _ (⟨[some (pu self1), some (pu words2), some (pu wide3), some (raw (.ref q5)), some (pu here13), some (raw (.ref q8)), some (pu word16), some (pu lead18), j10.2.2.1, j10.2.2.2], [(q8, lstc left17), (q5, lstc found12)]⟩ : DSt) _ _
    refine s_if (B := (Hyphens_lines_w7 nx11 found12 word16 left17 lead18)) (C := (Hyphens_lines_w8 self1 wide3 nx11 found12 here13 word16 left17 lead18 E)) (t_k (k_le (c_add (c_lenS B (by rfl) (c_v 7 rfl rfl)) (c_lenS B (by rfl) (c_v 6 rfl rfl))) (c_v 2 rfl rfl))) ?_ ?_ (by exact h)
    · intro h
      refine s_asg (R := fun (here19 : Txt) => nx11 (found12, here19, left17)) 4 ye.ok rfl (c_catS (c_v 7 rfl rfl) (c_v 6 rfl rfl)) ?_ (by exact h)
      intro here19 h
      try dsimp only
      show Ws _ (⟨[some (pu self1), some (pu words2), some (pu wide3), some (raw (.ref q5)), some (pu here19), some (raw (.ref q8)), some (pu word16), some (pu lead18), j10.2.2.1, j10.2.2.2], [(q8, lstc left17), (q5, lstc found12)]⟩ : DSt) _ _
      exact s_continue ⟨(found12, here19, left17), (some (pu word16), some (pu lead18), j10.2.2.1, j10.2.2.2), rfl, h⟩
    intro h
    refine ws_nil ?_
    refine ws_cons (w1_tryX (E := fun e9 => e9 = .NoWay ∧ (Hyphens_lines_w3 nx11 found12 here13 word16 left17 E)) (Gd := fun s9 => s9 = (⟨[some (pu self1), some (pu words2), some (pu wide3), some (raw (.ref q5)), some (pu here13), some (raw (.ref q8)), some (pu word16), some (pu lead18), j10.2.2.1, j10.2.2.2], [(q8, lstc left17), (q5, lstc found12)]⟩ : DSt)) ye.ok rfl rfl ⟨rfl, by decide, .inl (He.glo_ok L.X L.G (L.d.fact 24 rfl))⟩ (L2H.passesAt_of rfl) (fun e9 he9 => by obtain ⟨rfl, _⟩ := he9; exact He.exm_ok (L.d.fact 104 rfl)) ?_ ?_)
    · intro pn9 xe9 H9 F9 okT ynT9
      have ynT : YN _ _ _ := ⟨ynT9⟩
      have yeO := ye
      have ye : YE _ (fun _ => True) NoE := ⟨okT, fun _ _ _ h => h.elim⟩
      show Ws _ (⟨[some (pu self1), some (pu words2), some (pu wide3), some (raw (.ref q5)), some (pu here13), some (raw (.ref q8)), some (pu word16), some (pu lead18), j10.2.2.1, j10.2.2.2], [(q8, lstc left17), (q5, lstc found12)]⟩ : DSt) _ _
      refine s_asgT (R := fun (u24 : (Txt × Txt)) => (Hyphens_lines_w5 nx11 found12 left17 lead18 u24)) (.p (.n 8) (.n 9)) (tg_pair ye.ok.calm (tg_nm ye.ok.nd 8 rfl) (tg_nm ye.ok.nd 9 rfl)) (c_methN (w := Hyphens_splits_W) ye ynT G_Hyphens_splits (He.cls_ok (L.d.fact 53 rfl)) (Nat.le_of_ble_eq_true rfl) (c_v 0 rfl rfl) (a_cons (c_v 6 rfl rfl) (a_cons (c_sub (c_v 2 rfl rfl) (c_lenS B (by rfl) (c_v 7 rfl rfl))) a_nil)) (fun _ => rfl) rfl) ?_ (by exact h)
      intro u24 h
      try dsimp only
      show Ws _ (⟨[some (pu self1), some (pu words2), some (pu wide3), some (raw (.ref q5)), some (pu here13), some (raw (.ref q8)), some (pu word16), some (pu lead18), some (pu u24.1), some (pu u24.2)], [(q8, lstc left17), (q5, lstc found12)]⟩ : DSt) _ _
      refine s_append (R := fun (v25 : Txt) => (Hyphens_lines_w4 nx11 found12 left17 u24 v25)) 3 1 rfl rfl rfl (c_catS (c_v 7 rfl rfl) (c_v 8 rfl rfl)) ?_ (by exact h)
      intro v25 h
      try dsimp only
      show Ws _ (⟨[some (pu self1), some (pu words2), some (pu wide3), some (raw (.ref q5)), some (pu here13), some (raw (.ref q8)), some (pu word16), some (pu lead18), some (pu u24.1), some (pu u24.2)], [(q8, lstc left17), (q5, lstc (found12 ++ [v25]))]⟩ : DSt) _ _
      refine s_insert (R := fun (left26 : List Txt) => nx11 ((found12 ++ [v25]), (tx ""), left26)) 5 0 rfl rfl rfl c_int (c_v 9 rfl rfl) ?_ (by exact h)
      intro left26 h
      try dsimp only
      show Ws _ (⟨[some (pu self1), some (pu words2), some (pu wide3), some (raw (.ref q5)), some (pu here13), some (raw (.ref q8)), some (pu word16), some (pu lead18), some (pu u24.1), some (pu u24.2)], [(q8, lstc left26), (q5, lstc (found12 ++ [v25]))]⟩ : DSt) _ _
      refine ws_nil ?_
      have ye := yeO
      show Ws _ (⟨[some (pu self1), some (pu words2), some (pu wide3), some (raw (.ref q5)), some (pu here13), some (raw (.ref q8)), some (pu word16), some (pu lead18), some (pu u24.1), some (pu u24.2)], [(q8, lstc left26), (q5, lstc (found12 ++ [v25]))]⟩ : DSt) _ _
      refine s_asg (R := fun (here27 : Txt) => nx11 ((found12 ++ [v25]), here27, left26)) 4 ye.ok rfl c_tx ?_ (by exact h)
      intro here27 h
      try dsimp only
      show Ws _ (⟨[some (pu self1), some (pu words2), some (pu wide3), some (raw (.ref q5)), some (pu here27), some (raw (.ref q8)), some (pu word16), some (pu lead18), some (pu u24.1), some (pu u24.2)], [(q8, lstc left26), (q5, lstc (found12 ++ [v25]))]⟩ : DSt) _ _
      exact ws_nil ⟨((found12 ++ [v25]), here27, left26), (some (pu word16), some (pu lead18), some (pu u24.1), some (pu u24.2)), rfl, h⟩
    · intro e9 s9 a9 oe9 pn9 he9 hs9 hot9 tk9
      subst hs9
      obtain ⟨_, h⟩ := he9
      have uH : _ + 64 < cLine := ye.ok.room.units
      show Ws _ (⟨[some (pu self1), some (pu words2), some (pu wide3), some (raw (.ref q5)), some (pu here13), some (raw (.ref q8)), some (pu word16), some (pu lead18), j10.2.2.1, j10.2.2.2], [(q8, lstc left17), (q5, lstc found12)]⟩ : DSt) _ _
      refine s_if (B := E .NoWay) (C := (Hyphens_lines_w2 nx11 found12 here13 word16 left17)) (t_k (k_eqU uH (c_v 4 rfl rfl) c_tx)) ?_ ?_ (by exact h)
      · intro h
        exact s_raise0H .NoWay rfl hot9 tk9 (L.err 70 24) rfl rfl (ye.ex _ _ ⟨2, rfl⟩ (by exact h))
      intro h
      refine ws_nil ?_
      refine s_append (R := fun (v20 : Txt) => (Hyphens_lines_w1 nx11 found12 word16 left17 v20)) 3 1 rfl rfl rfl (c_v 4 rfl rfl) ?_ (by exact h)
      intro v20 h
      try dsimp only
      show Ws _ (⟨[some (pu self1), some (pu words2), some (pu wide3), some (raw (.ref q5)), some (pu here13), some (raw (.ref q8)), some (pu word16), some (pu lead18), j10.2.2.1, j10.2.2.2], [(q8, lstc left17), (q5, lstc (found12 ++ [v20]))]⟩ : DSt) _ _
      refine s_insert (R := fun (left21 : List Txt) => nx11 ((found12 ++ [v20]), (tx ""), left21)) 5 0 rfl rfl rfl c_int (c_v 6 rfl rfl) ?_ (by exact h)
      intro left21 h
      try dsimp only
      show Ws _ (⟨[some (pu self1), some (pu words2), some (pu wide3), some (raw (.ref q5)), some (pu here13), some (raw (.ref q8)), some (pu word16), some (pu lead18), j10.2.2.1, j10.2.2.2], [(q8, lstc left21), (q5, lstc (found12 ++ [v20]))]⟩ : DSt) _ _
      refine ws_nil ?_
      show Ws _ (⟨[some (pu self1), some (pu words2), some (pu wide3), some (raw (.ref q5)), some (pu here13), some (raw (.ref q8)), some (pu word16), some (pu lead18), j10.2.2.1, j10.2.2.2], [(q8, lstc left21), (q5, lstc (found12 ++ [v20]))]⟩ : DSt) _ _
      refine s_asg (R := fun (here22 : Txt) => nx11 ((found12 ++ [v20]), here22, left21)) 4 ye.ok rfl c_tx ?_ (by exact h)
      intro here22 h
      try dsimp only
      show Ws _ (⟨[some (pu self1), some (pu words2), some (pu wide3), some (raw (.ref q5)), some (pu here22), some (raw (.ref q8)), some (pu word16), some (pu lead18), j10.2.2.1, j10.2.2.2], [(q8, lstc left21), (q5, lstc (found12 ++ [v20]))]⟩ : DSt) _ _
      exact ws_nil ⟨((found12 ++ [v20]), here22, left21), (some (pu word16), some (pu lead18), j10.2.2.1, j10.2.2.2), rfl, h⟩
  intro z28 j29 h
  try dsimp only
  obtain ⟨found30, here31, left32⟩ := z28
  show Ws _ (⟨[some (pu self1), some (pu words2), some (pu wide3), some (raw (.ref q5)), some (pu here31), some (raw (.ref q8)), j29.1, j29.2.1, j29.2.2.1, j29.2.2.2], [(q8, lstc left32), (q5, lstc found30)]⟩ : DSt) _ _
  refine s_ret (R := fun (v33 : (Tup Txt)) => Q v33) (c_tupL B (by rfl) (c_l (c_catL (l_own 3 1 rfl rfl rfl) (c_l (c_ifP (u := [here31]) (w := ([] : List Txt)) (t_k (k_ne ye.ok (c_v 4 rfl rfl) c_tx)) (c_list (s_cons (c_v 4 rfl rfl) (s_nil))) (c_list (s_nil (α := Txt)))))))) (by exact h) ?_
  intro v33 h
  try dsimp only
  exact ⟨⟨2, rfl⟩, _, rfl, h⟩
abbrev Hyphens_with_pattern_N : List Str := ["self", "pattern", "found"]
theorem Hyphens_with_pattern_S : FnScope Hyphens_with_pattern_N ["self", "pattern"] d_Hyphens_with_pattern.scope := ⟨rfl, rfl, rfl, by decide +kernel, rfl, by decide +kernel, by decide +kernel⟩
theorem ok_Hyphens_with_pattern (B : Bis mg) (L : LK w K mg base fa fn tq) {fd : FuncData} (F1 : Fd K d_Hyphens_with_pattern ["self", "pattern"] fd) (G_Hyphens_init_2 : Mkr P w K mg base (tbOf K tq) 4 "Hyphens" (He.ga K "Hyphens") ["self", "patterns", "told", "first", "last"] (spI K Hyphens_init_2_W)) : FnOk P w K mg base (L2.CX P w) 6 (He.fAd K d_Hyphens_with_pattern.at_) fd ["self", "pattern"] (toSp K (tbOf K tq) 2 (spF K Hyphens_with_pattern_W)) := by
  refine fn_F (k := 5) none L F1 Hyphens_with_pattern_S Hyphens_with_pattern_W noneNo (fun _ => rfl) ?_
  intro z t Q E h ye tbl
  obtain ⟨self1, pattern2, ⟨⟩⟩ := t
  show Ws _ (⟨[some (pu self1), some (pu pattern2), none], []⟩ : DSt) _ _
  refine s_asgI (R := fun (found4 : HyphensV) => (Hyphens_with_pattern_w1 self1 found4 Q)) 2 ye.ok rfl (i_make (γ := HyphensV) (w := Hyphens_init_2_W) 0 ye G_Hyphens_init_2 (Nat.le_of_ble_eq_true rfl) rfl (a_cons (c_catH (c_fld HyphensV.patterns (He.cls_ok (L.d.fact 53 rfl)) (He.noat_ok (L.d.fact 55 rfl)) (c_v 0 rfl rfl)) (c_tupH (s_cons (c_v 1 rfl rfl) (s_nil)))) (a_cons (c_tupH (s_nil (α := Txt))) (a_cons (c_fld HyphensV.first (He.cls_ok (L.d.fact 53 rfl)) (He.noat_ok (L.d.fact 57 rfl)) (c_v 0 rfl rfl)) (a_cons (c_fld HyphensV.last (He.cls_ok (L.d.fact 53 rfl)) (He.noat_ok (L.d.fact 58 rfl)) (c_v 0 rfl rfl)) a_nil)))) (fun _ => rfl) rfl) ?_ (by exact h)
  intro q5 found4 h
  try dsimp only
  show Ws _ (⟨[some (pu self1), some (pu pattern2), some (raw (.ref q5))], [_]⟩ : DSt) _ _
  refine s_fld (hl := by first | decide | exact of_decide_eq_true rfl) (R := fun (told6 : (Dct Txt (Tup Txt))) => Q (HyphensV.mk found4.patterns told6 found4.first found4.last)) 2 0 (He.cls_ok (L.d.fact 53 rfl)) (He.noat_ok (L.d.fact 56 rfl)) rfl rfl rfl (c_dictItK ye.ok B (by rfl) (c_d (c_fld HyphensV.told (He.cls_ok (L.d.fact 53 rfl)) (He.noat_ok (L.d.fact 56 rfl)) (c_v 0 rfl rfl)))) ?_ (by exact h)
  intro told6 h
  try dsimp only
  show Ws _ (⟨[some (pu self1), some (pu pattern2), some (raw (.ref q5))], [_]⟩ : DSt) _ _
  refine ws_frI (mm := (HyphensV.mk found4.patterns told6 found4.first found4.last)) 2 0 rfl rfl ?_
  refine s_ret (R := fun (v7 : HyphensV) => Q v7) (c_v 2 rfl rfl) (by exact h) ?_
  intro v7 h
  try dsimp only
  exact ⟨⟨0, rfl⟩, _, rfl, h⟩
abbrev look_told_N : List Str := ["hyphens", "told", "bare", "rows", "text"]
theorem look_told_S : FnScope look_told_N ["hyphens", "told"] d_look_told.scope := ⟨rfl, rfl, rfl, by decide +kernel, rfl, by decide +kernel, by decide +kernel⟩
theorem ok_look_told (B : Bis mg) (L : LK w K mg base fa fn tq) {fd : FuncData} (F1 : Fd K d_look_told ["hyphens", "told"] fd) (G_Hyphens_init_2 : Mkr P w K mg base (tbOf K tq) 4 "Hyphens" (He.ga K "Hyphens") ["self", "patterns", "told", "first", "last"] (spI K Hyphens_init_2_W)) (G_Hyphens_said : Mt P w K mg base (tbOf K tq) 6 (He.ga K "Hyphens") "said" ["self", "word"] (spF K Hyphens_said_W)) : FnOk P w K mg base (L2.CX P w) 7 (He.fAd K d_look_told.at_) fd ["hyphens", "told"] (toSp K (tbOf K tq) 2 (spF K look_told_W)) := by
  refine fn_FTC (k := 6) none L F1 look_told_S look_told_W noneNo (fun _ => rfl) ?_
  intro z t Q E h ye tbl
  obtain ⟨hyphens1, told2, ⟨⟩⟩ := t
  show WsT _ (⟨[some (pu hyphens1), some (pu told2), none, none, none], []⟩ : DSt) _ _
  refine wsT_step ?_
  refine s_asg (R := fun (bare4 : HyphensV) => (look_told_w2 told2 bare4 Q)) 2 ye.ok rfl (c_make (γ := HyphensV) (w := Hyphens_init_2_W) 0 ye G_Hyphens_init_2 (Nat.le_of_ble_eq_true rfl) rfl (a_cons (c_fld HyphensV.patterns (He.cls_ok (L.d.fact 53 rfl)) (He.noat_ok (L.d.fact 55 rfl)) (c_v 0 rfl rfl)) (a_cons (c_tupH (s_nil (α := Txt))) (a_cons (c_fld HyphensV.first (He.cls_ok (L.d.fact 53 rfl)) (He.noat_ok (L.d.fact 57 rfl)) (c_v 0 rfl rfl)) (a_cons (c_fld HyphensV.last (He.cls_ok (L.d.fact 53 rfl)) (He.noat_ok (L.d.fact 58 rfl)) (c_v 0 rfl rfl)) a_nil)))) (fun _ => rfl) rfl) ?_ (by exact h)
  intro bare4 h
  try dsimp only
  show Ws _ (⟨[some (pu hyphens1), some (pu told2), some (pu bare4), none, none], []⟩ : DSt) _ _
  refine ws_nil ?_
  show WsT _ (⟨[some (pu hyphens1), some (pu told2), some (pu bare4), none, none], []⟩ : DSt) _ _
  refine s_asgLz (R := fun (rows9 : (List Txt)) => (look_told_w1 rows9 Q)) 3 ye.ok rfl (l_lcz (.n 4) [("text", 4)] ye.ok (i_list (c_v 1 rfl rfl)) (show BlkOk look_told_N d_look_told.scope _ _ from blk_by (by decide +kernel)) (fun z => (tg_blk ye.ok z 4 rfl)) (fun _ (x5 : Txt) _ _ => tsz_one (tz_ne ye.ok.blk (cz_meth (w := Hyphens_said_W) 0 ye.blk G_Hyphens_said (He.cls_ok (L.d.fact 53 rfl)) (Nat.le_of_ble_eq_true rfl) (c_v 2 rfl rfl) (az_cons (cz_repl (c_v 4 rfl rfl)) (az_of a_nil)) (fun _ => rfl) trivial) (c_v 4 rfl rfl))) (fun _ (x5 : Txt) _ _ => (cz_of (c_v 4 rfl rfl)))) ?_ (by exact h)
  intro rows9 h
  try dsimp only
  show WsT _ (⟨[some (pu hyphens1), some (pu told2), some (pu bare4), some (pu rows9), none], []⟩ : DSt) _ _
  refine s_retz (R := fun (v12 : (Tup Txt)) => Q v12) (cz_tupL B (by rfl) (lz (cz_sorted ye.ok B (by rfl) (lz (cz_L ye.ok (l_lcz0 (.n 4) [("text", 4)] ye.ok (i_list (c_v 3 rfl rfl)) (show BlkOk look_told_N d_look_told.scope _ _ from blk_by (by decide +kernel)) (fun z => (tg_blk ye.ok z 4 rfl)) (fun _ (x10 : Txt) _ _ => (cz_repl (c_v 4 rfl rfl))))))))) (by exact h) ?_
  intro v12 h
  try dsimp only
  exact ⟨⟨0, rfl⟩, _, rfl, h⟩
abbrev joints_N : List Str := ["parts", "found", "here", "part"]
theorem joints_S : FnScope joints_N ["parts"] d_joints.scope := ⟨rfl, rfl, rfl, by decide +kernel, rfl, by decide +kernel, by decide +kernel⟩
theorem ok_joints (B : Bis mg) (L : LK w K mg base fa fn tq) {fd : FuncData} (F1 : Fd K d_joints ["parts"] fd)  : FnOk P w K mg base (L2.CX P w) 1 (He.fAd K d_joints.at_) fd ["parts"] (toSp K (tbOf K tq) 1 (spF K joints_W)) := by
  refine fn_F (k := 0) none L F1 joints_S joints_W noneNo (fun _ => rfl) ?_
  intro z t Q E h ye tbl
  obtain ⟨parts1, ⟨⟩⟩ := t
  show Ws _ (⟨[some (pu parts1), none, none, none], []⟩ : DSt) _ _
  refine s_parNC (R := fun (found2 : List Int) (here3 : Int) => (joints_w3 parts1 found2 here3 Q)) 1 2 ye.ok rfl rfl (n_list (s_nil (α := Int))) (fun _ _ => c_int) ?_ (by exact h)
  intro q4 found2 here3 h
  try dsimp only
  show Ws _ (⟨[some (pu parts1), some (raw (.ref q4)), some (pu here3), none], [(q4, lstc found2)]⟩ : DSt) _ _
  refine s_for (Z := (List Int) × Int) (J := Option Pv) (Body := (fun (x5 : Txt) (z6 : (List Int) × Int) (nx8 : (List Int) × Int → Prop) => (joints_w1 x5 nx8 z6.1 z6.2))) (Rest := (fun (z13 : (List Int) × Int) => (joints_w2 z13.1 Q))) (.n 3) (fun (z6 : (List Int) × Int) (j7 : Option Pv) => (⟨[some (pu parts1), some (raw (.ref q4)), some (pu (z6.2 : Int)), j7], [(q4, lstc (z6.1))]⟩ : DSt)) (found2, here3) none ye.ok (i_tup (c_slH (c_v 0 rfl rfl) o_no (o_at (c_neg c_int)))) (tg_nm ye.ok.nd 3 rfl) rfl ?_ ?_ (by exact h)
  · intro x5 z6 j7 nx8 h
    try dsimp only
    obtain ⟨found9, here10⟩ := z6
    show Ws _ (⟨[some (pu parts1), some (raw (.ref q4)), some (pu here10), some (pu x5)], [(q4, lstc found9)]⟩ : DSt) _ _
    refine s_augAdd (R := fun (here11 : Int) => (found9.length < sizeLine ∧ nx8 ((found9 ++ [here11]), here11))) 2 ye.ok rfl rfl (c_lenS B (by rfl) (c_v 3 rfl rfl)) ?_ (by exact h)
    intro here11 h
    try dsimp only
    show Ws _ (⟨[some (pu parts1), some (raw (.ref q4)), some (pu here11), some (pu x5)], [(q4, lstc found9)]⟩ : DSt) _ _
    refine s_append (R := fun (v12 : Int) => nx8 ((found9 ++ [v12]), here11)) 1 0 rfl rfl rfl (c_v 2 rfl rfl) ?_ (by exact h)
    intro v12 h
    try dsimp only
    show Ws _ (⟨[some (pu parts1), some (raw (.ref q4)), some (pu here11), some (pu x5)], [(q4, lstc (found9 ++ [v12]))]⟩ : DSt) _ _
    exact ws_nil ⟨((found9 ++ [v12]), here11), some (pu x5), rfl, h⟩
  intro z13 j14 h
  try dsimp only
  obtain ⟨found15, here16⟩ := z13
  show Ws _ (⟨[some (pu parts1), some (raw (.ref q4)), some (pu here16), j14], [(q4, lstc found15)]⟩ : DSt) _ _
  refine s_ret (R := fun (v17 : (Tup Int)) => Q v17) (c_tupL B (by rfl) (l_own 1 0 rfl rfl rfl)) (by exact h) ?_
  intro v17 h
  try dsimp only
  exact ⟨⟨1, rfl⟩, _, rfl, h⟩
abbrev marks_right_N : List Str := ["hyphens", "told", "good", "wrong", "lost", "text", "word", "due", "found", "place"]
theorem marks_right_S : FnScope marks_right_N ["hyphens", "told"] d_marks_right.scope := ⟨rfl, rfl, rfl, by decide +kernel, rfl, by decide +kernel, by decide +kernel⟩
theorem ok_marks_right (B : Bis mg) (L : LK w K mg base fa fn tq) {fd : FuncData} (F1 : Fd K d_marks_right ["hyphens", "told"] fd) (G_joints : Df P w K mg base (tbOf K tq) 1 "joints" ["parts"] (spF K joints_W)) (G_Hyphens_parts : Mt P w K mg base (tbOf K tq) 5 (He.ga K "Hyphens") "parts" ["self", "word"] (spF K Hyphens_parts_W)) : FnOk P w K mg base (L2.CX P w) 6 (He.fAd K d_marks_right.at_) fd ["hyphens", "told"] (toSp K (tbOf K tq) 2 (spF K marks_right_W)) := by
  refine fn_FTC (k := 5) none L F1 marks_right_S marks_right_W noneNo (fun _ => rfl) ?_
  intro z t Q E h ye tbl
  obtain ⟨hyphens1, told2, ⟨⟩⟩ := t
  show WsT _ (⟨[some (pu hyphens1), some (pu told2), none, none, none, none, none, none, none, none], []⟩ : DSt) _ _
  refine wsT_step ?_
  refine s_asg3 (R := fun (good3 : Int) => (marks_right_w7 hyphens1 told2 good3 Q E)) 2 3 4 ye.ok rfl rfl rfl c_int ?_ (by exact h)
  intro good3 h
  try dsimp only
  show Ws _ (⟨[some (pu hyphens1), some (pu told2), some (pu good3), some (pu good3), some (pu good3), none, none, none, none, none], []⟩ : DSt) _ _
  refine ws_nil ?_
  show WsT _ (⟨[some (pu hyphens1), some (pu told2), some (pu good3), some (pu good3), some (pu good3), none, none, none, none, none], []⟩ : DSt) _ _
  refine s_forT (Z := Int × Int × Int) (J := Option Pv × Option Pv × Option Pv × Option Pv) (Body := (fun (x4 : Txt) (z5 : Int × Int × Int) (nx7 : Int × Int × Int → Prop) => (marks_right_w5 hyphens1 x4 nx7 z5.1 z5.2.1 z5.2.2 E))) (Rest := (fun (z22 : Int × Int × Int) => (marks_right_w6 z22.1 z22.2.1 z22.2.2 Q))) (.n 5) (fun (z5 : Int × Int × Int) (j6 : Option Pv × Option Pv × Option Pv × Option Pv) => (⟨[some (pu hyphens1), some (pu told2), some (pu (z5.1 : Int)), some (pu (z5.2.1 : Int)), some (pu (z5.2.2 : Int)), j6.1, j6.2.1, j6.2.2.1, j6.2.2.2, none], []⟩ : DSt)) (good3, good3, good3) (none, none, none, none) ye.ok (i_list (c_v 1 rfl rfl)) (tg_nm ye.ok.nd 5 rfl) rfl ?_ ?_ (by exact h)
  · intro x4 z5 j6 nx7 h
    try dsimp only
    obtain ⟨good8, wrong9, lost10⟩ := z5
    show WsT _ (⟨[some (pu hyphens1), some (pu told2), some (pu good8), some (pu wrong9), some (pu lost10), some (pu x4), j6.2.1, j6.2.2.1, j6.2.2.2, none], []⟩ : DSt) _ _
    refine s_repl (R := fun (word11 : Txt) => (marks_right_w4 hyphens1 x4 nx7 good8 wrong9 lost10 word11 E)) 6 ye.ok rfl (c_v 5 rfl rfl) ?_ (by exact h)
    intro word11 h
    try dsimp only
    show Ws _ (⟨[some (pu hyphens1), some (pu told2), some (pu good8), some (pu wrong9), some (pu lost10), some (pu x4), some (pu word11), j6.2.2.1, j6.2.2.2, none], []⟩ : DSt) _ _
    refine s_asgT (R := fun (u15 : ((Tup Int) × (Tup Int))) => (marks_right_w3 nx7 good8 wrong9 lost10 u15)) (.p (.n 7) (.n 8)) (tg_pair ye.ok.calm (tg_nm ye.ok.nd 7 rfl) (tg_nm ye.ok.nd 8 rfl)) (c_tup2 (a_cons (c_call (w := joints_W) 0 ye G_joints (Nat.le_of_ble_eq_true rfl) rfl (a_cons (c_tupL B (by rfl) (c_l (c_split (c_v 5 rfl rfl) c_tx))) a_nil) (fun _ => rfl) rfl) (a_cons (c_call (w := joints_W) 0 ye G_joints (Nat.le_of_ble_eq_true rfl) rfl (a_cons (c_meth (w := Hyphens_parts_W) 0 ye G_Hyphens_parts (He.cls_ok (L.d.fact 53 rfl)) (Nat.le_of_ble_eq_true rfl) (c_v 0 rfl rfl) (a_cons (c_v 6 rfl rfl) a_nil) (fun _ => rfl) rfl) a_nil) (fun _ => rfl) rfl) a_nil))) ?_ (by exact h)
    intro u15 h
    try dsimp only
    show Ws _ (⟨[some (pu hyphens1), some (pu told2), some (pu good8), some (pu wrong9), some (pu lost10), some (pu x4), some (pu word11), some (pu u15.1), some (pu u15.2), none], []⟩ : DSt) _ _
    refine s_augAdd (R := fun (good17 : Int) => (marks_right_w2 nx7 wrong9 lost10 u15 good17)) 2 ye.ok rfl rfl (c_sumG (.n 9) 0 [9] u15.2.items (fun (x16 : Int) => (inL x16 u15.1.items)) (fun (x16 : Int) => (1 : Int)) ye.ok B (by rfl) (Nat.le_of_ble_eq_true rfl) (i_tup (c_v 8 rfl rfl)) (show GenOk marks_right_N d_marks_right.scope _ _ from genOk_by (by decide +kernel)) (.pl (tbl _ (List.mem_of_getElem? (i := 1) rfl))) (fun z => (tg_gen ye.ok z 9 rfl)) (fun _ o (x16 : Int) => ts_one (t_k (k_inH o (c_v 9 rfl rfl) (c_v 7 rfl rfl)))) (fun _ o (x16 : Int) => c_int)) ?_ (by exact h)
    intro good17 h
    try dsimp only
    show Ws _ (⟨[some (pu hyphens1), some (pu told2), some (pu good17), some (pu wrong9), some (pu lost10), some (pu x4), some (pu word11), some (pu u15.1), some (pu u15.2), none], []⟩ : DSt) _ _
    refine s_augAdd (R := fun (wrong19 : Int) => (marks_right_w1 nx7 lost10 u15 good17 wrong19)) 3 ye.ok rfl rfl (c_sumG (.n 9) 0 [9] u15.2.items (fun (x18 : Int) => (niL x18 u15.1.items)) (fun (x18 : Int) => (1 : Int)) ye.ok B (by rfl) (Nat.le_of_ble_eq_true rfl) (i_tup (c_v 8 rfl rfl)) (show GenOk marks_right_N d_marks_right.scope _ _ from genOk_by (by decide +kernel)) (.pl (tbl _ (List.mem_of_getElem? (i := 1) rfl))) (fun z => (tg_gen ye.ok z 9 rfl)) (fun _ o (x18 : Int) => ts_one (t_k (k_ninH o (c_v 9 rfl rfl) (c_v 7 rfl rfl)))) (fun _ o (x18 : Int) => c_int)) ?_ (by exact h)
    intro wrong19 h
    try dsimp only
    show Ws _ (⟨[some (pu hyphens1), some (pu told2), some (pu good17), some (pu wrong19), some (pu lost10), some (pu x4), some (pu word11), some (pu u15.1), some (pu u15.2), none], []⟩ : DSt) _ _
    refine s_augAdd (R := fun (lost21 : Int) => nx7 (good17, wrong19, lost21)) 4 ye.ok rfl rfl (c_sumG (.n 9) 0 [9] u15.1.items (fun (x20 : Int) => (niL x20 u15.2.items)) (fun (x20 : Int) => (1 : Int)) ye.ok B (by rfl) (Nat.le_of_ble_eq_true rfl) (i_tup (c_v 7 rfl rfl)) (show GenOk marks_right_N d_marks_right.scope _ _ from genOk_by (by decide +kernel)) (.pl (tbl _ (List.mem_of_getElem? (i := 1) rfl))) (fun z => (tg_gen ye.ok z 9 rfl)) (fun _ o (x20 : Int) => ts_one (t_k (k_ninH o (c_v 9 rfl rfl) (c_v 8 rfl rfl)))) (fun _ o (x20 : Int) => c_int)) ?_ (by exact h)
    intro lost21 h
    try dsimp only
    show Ws _ (⟨[some (pu hyphens1), some (pu told2), some (pu good17), some (pu wrong19), some (pu lost21), some (pu x4), some (pu word11), some (pu u15.1), some (pu u15.2), none], []⟩ : DSt) _ _
    exact ws_nil ⟨(good17, wrong19, lost21), (some (pu x4), some (pu word11), some (pu u15.1), some (pu u15.2)), rfl, h⟩
  intro z22 j23 h
  try dsimp only
  obtain ⟨good24, wrong25, lost26⟩ := z22
  show WsT _ (⟨[some (pu hyphens1), some (pu told2), some (pu good24), some (pu wrong25), some (pu lost26), j23.1, j23.2.1, j23.2.2.1, j23.2.2.2, none], []⟩ : DSt) _ _
  refine wsT_of ?_
  refine s_ret (R := fun (v27 : (T3 Int Int Int)) => Q v27) (c_tup3 (a_cons (c_v 2 rfl rfl) (a_cons (c_v 3 rfl rfl) (a_cons (c_v 4 rfl rfl) a_nil)))) (by exact h) ?_
  intro v27 h
  try dsimp only
  exact ⟨⟨0, rfl⟩, _, rfl, h⟩
abbrev by_beats_N : List Str := ["word", "vowels", "k", "letter", "cuts", "found", "start", "place"]
theorem by_beats_S : FnScope by_beats_N ["word"] d_by_beats.scope := ⟨rfl, rfl, rfl, by decide +kernel, rfl, by decide +kernel, by decide +kernel⟩
theorem ok_by_beats (B : Bis mg) (L : LK w K mg base fa fn tq) {fd : FuncData} (F1 : Fd K d_by_beats ["word"] fd)  : FnOk P w K mg base (L2.CX P w) 1 (He.fAd K d_by_beats.at_) fd ["word"] (toSp K (tbOf K tq) 1 (spF K by_beats_W)) := by
  refine fn_F (k := 0) none L F1 by_beats_S by_beats_W noneNo (fun _ => rfl) ?_
  intro z t Q E h ye tbl
  obtain ⟨word1, ⟨⟩⟩ := t
  show Ws _ (⟨[some (pu word1), none, none, none, none, none, none, none], []⟩ : DSt) _ _
  refine s_asgL (R := fun (vowels3 : (List Int)) => (by_beats_w8 word1 vowels3 ([] : List Int) Q)) 1 ye.ok rfl (l_lc (.p (.n 2) (.n 3)) [("k", 2), ("letter", 3)] (fun (x2 : (Int × Txt)) => (tin x2.2 (tx "aeiou"))) (fun (x2 : (Int × Txt)) => x2.1) ye.ok (i_enumS ye.ok B (by rfl) (c_v 0 rfl rfl)) (show BlkOk by_beats_N d_by_beats.scope _ _ from blk_by (by decide +kernel)) (fun z => (tg_pair ye.ok.blk.calm (tg_blk ye.ok z 2 rfl) (tg_blk ye.ok z 3 rfl))) (fun _ (x2 : (Int × Txt)) _ _ => ts_one (t_k (k_inS (c_v 3 rfl rfl) c_tx))) (fun _ (x2 : (Int × Txt)) _ _ => (c_v 2 rfl rfl))) ?_ (by exact h)
  intro vowels3 h
  try dsimp only
  show Ws _ (⟨[some (pu word1), some (pu vowels3), none, none, none, none, none, none], []⟩ : DSt) _ _
  refine s_asgN (R := fun (cuts4 : List Int) => (by_beats_w8 word1 vowels3 cuts4 Q)) 4 ye.ok rfl (n_list (s_nil (α := Int))) ?_ (by exact h)
  intro q5 cuts4 h
  try dsimp only
  show Ws _ (⟨[some (pu word1), some (pu vowels3), none, none, some (raw (.ref q5)), none, none, none], [(q5, lstc cuts4)]⟩ : DSt) _ _
  refine s_for (Z := (List Int)) (J := Option Pv) (Body := (fun (x6 : Int) (z7 : (List Int)) (nx9 : (List Int) → Prop) => (by_beats_w3 vowels3 x6 nx9 z7))) (Rest := (fun (z16 : (List Int)) => (by_beats_w7 word1 z16 Q))) (.n 2) (fun (z7 : (List Int)) (j8 : Option Pv) => (⟨[some (pu word1), some (pu vowels3), j8, none, some (raw (.ref q5)), none, none, none], [(q5, lstc z7)]⟩ : DSt)) cuts4 none ye.ok (i_range2 ye.ok B (by rfl) c_int (c_lenL B (by rfl) (c_l (c_v 1 rfl rfl)))) (tg_nm ye.ok.nd 2 rfl) rfl ?_ ?_ (by exact h)
  · intro x6 cuts10 j8 nx9 h
    try dsimp only
    show Ws _ (⟨[some (pu word1), some (pu vowels3), some (pu x6), none, some (raw (.ref q5)), none, none, none], [(q5, lstc cuts10)]⟩ : DSt) _ _
    refine s_ifJ (Z := (List Int)) (J := Unit) (Rest := (fun (z11 : (List Int)) => (by_beats_w2 nx9 z11))) (B := fun nx13 => (by_beats_w1 vowels3 x6 cuts10 nx13)) (C := fun nx13 => nx13 cuts10) (fun (z11 : (List Int)) (j12 : Unit) => (⟨[some (pu word1), some (pu vowels3), some (pu x6), none, some (raw (.ref q5)), none, none, none], [(q5, lstc z11)]⟩ : DSt)) (t_k (k_gt (c_sub (c_ixL (c_l (c_v 1 rfl rfl)) (c_v 2 rfl rfl)) (c_ixL (c_l (c_v 1 rfl rfl)) (c_sub (c_v 2 rfl rfl) c_int))) c_int)) ?_ ?_ ?_ (by exact h)
    · intro nx13 h
      try dsimp only
      refine s_append (R := fun (v14 : Int) => nx13 (cuts10 ++ [v14])) 4 0 rfl rfl rfl (c_sub (c_ixL (c_l (c_v 1 rfl rfl)) (c_v 2 rfl rfl)) c_int) ?_ (by exact h)
      intro v14 h
      try dsimp only
      show Ws _ (⟨[some (pu word1), some (pu vowels3), some (pu x6), none, some (raw (.ref q5)), none, none, none], [(q5, lstc (cuts10 ++ [v14]))]⟩ : DSt) _ _
      exact ws_nil ⟨(cuts10 ++ [v14]), (), rfl, h⟩
    · intro nx13 h
      try dsimp only
      exact ws_nil ⟨cuts10, (), rfl, h⟩
    intro cuts15 j12 h
    try dsimp only
    show Ws _ (⟨[some (pu word1), some (pu vowels3), some (pu x6), none, some (raw (.ref q5)), none, none, none], [(q5, lstc cuts15)]⟩ : DSt) _ _
    exact ws_nil ⟨cuts15, some (pu x6), rfl, h⟩
  intro cuts18 j17 h
  try dsimp only
  show Ws _ (⟨[some (pu word1), some (pu vowels3), j17, none, some (raw (.ref q5)), none, none, none], [(q5, lstc cuts18)]⟩ : DSt) _ _
  refine s_parNC (R := fun (found19 : List Txt) (start20 : Int) => (by_beats_w6 word1 cuts18 found19 start20 Q)) 5 6 ye.ok rfl rfl (n_list (s_nil (α := Txt))) (fun _ _ => c_int) ?_ (by exact h)
  intro q21 found19 start20 h
  try dsimp only
  show Ws _ (⟨[some (pu word1), some (pu vowels3), j17, none, some (raw (.ref q5)), some (raw (.ref q21)), some (pu start20), none], [(q21, lstc found19), (q5, lstc cuts18)]⟩ : DSt) _ _
  refine ws_frL 4 1 rfl rfl ?_
  refine s_for (Z := (List Txt) × Int) (J := Option Pv) (Body := (fun (x22 : Int) (z23 : (List Txt) × Int) (nx25 : (List Txt) × Int → Prop) => (by_beats_w4 word1 x22 nx25 z23.1 z23.2))) (Rest := (fun (z30 : (List Txt) × Int) => (by_beats_w5 word1 z30.1 z30.2 Q))) (.n 7) (fun (z23 : (List Txt) × Int) (j24 : Option Pv) => (⟨[some (pu word1), some (pu vowels3), j17, none, some (pu cuts18), some (raw (.ref q21)), some (pu (z23.2 : Int)), j24], [(q21, lstc (z23.1))]⟩ : DSt)) (found19, start20) none ye.ok (i_list (c_v 4 rfl rfl)) (tg_nm ye.ok.nd 7 rfl) rfl ?_ ?_ (by exact h)
  · intro x22 z23 j24 nx25 h
    try dsimp only
    obtain ⟨found26, start27⟩ := z23
    show Ws _ (⟨[some (pu word1), some (pu vowels3), j17, none, some (pu cuts18), some (raw (.ref q21)), some (pu start27), some (pu x22)], [(q21, lstc found26)]⟩ : DSt) _ _
    refine s_append (R := fun (v28 : Txt) => nx25 ((found26 ++ [v28]), x22)) 5 0 rfl rfl rfl (c_slS (c_v 0 rfl rfl) (o_at (c_v 6 rfl rfl)) (o_at (c_v 7 rfl rfl))) ?_ (by exact h)
    intro v28 h
    try dsimp only
    show Ws _ (⟨[some (pu word1), some (pu vowels3), j17, none, some (pu cuts18), some (raw (.ref q21)), some (pu start27), some (pu x22)], [(q21, lstc (found26 ++ [v28]))]⟩ : DSt) _ _
    refine s_asg (R := fun (start29 : Int) => nx25 ((found26 ++ [v28]), start29)) 6 ye.ok rfl (c_v 7 rfl rfl) ?_ (by exact h)
    intro start29 h
    try dsimp only
    show Ws _ (⟨[some (pu word1), some (pu vowels3), j17, none, some (pu cuts18), some (raw (.ref q21)), some (pu start29), some (pu x22)], [(q21, lstc (found26 ++ [v28]))]⟩ : DSt) _ _
    exact ws_nil ⟨((found26 ++ [v28]), start29), some (pu x22), rfl, h⟩
  intro z30 j31 h
  try dsimp only
  obtain ⟨found32, start33⟩ := z30
  show Ws _ (⟨[some (pu word1), some (pu vowels3), j17, none, some (pu cuts18), some (raw (.ref q21)), some (pu start33), j31], [(q21, lstc found32)]⟩ : DSt) _ _
  refine s_ret (R := fun (v34 : (Tup Txt)) => Q v34) (c_tupL B (by rfl) (c_l (c_catL (l_own 5 0 rfl rfl rfl) (c_l (c_list (s_cons (c_slS (c_v 0 rfl rfl) (o_at (c_v 6 rfl rfl)) o_no) (s_nil))))))) (by exact h) ?_
  intro v34 h
  try dsimp only
  exact ⟨⟨1, rfl⟩, _, rfl, h⟩
abbrev law_word_N : List Str := ["dice", "letters", "least", "most", "k"]
theorem law_word_S : FnScope law_word_N ["dice", "letters", "least", "most"] d__law_word.scope := ⟨rfl, rfl, rfl, by decide +kernel, rfl, by decide +kernel, by decide +kernel⟩
theorem ok_law_word (B : Bis mg) (L : LK w K mg base fa fn tq) {fd : FuncData} (F1 : Fd K d__law_word ["dice", "letters", "least", "most"] fd) (G_law_roll : Df P w K mg base (tbOf K tq) 1 "_law_roll" ["dice", "many"] (spD rollW)) : FnOk P w K mg base (L2.CX P w) 2 (He.fAd K d__law_word.at_) fd ["dice", "letters", "least", "most"] (toSp K (tbOf K tq) 4 (spD law_word_W)) := by
  refine fn_D (k := 1) none L F1 law_word_S law_word_W noneNo (fun _ => rfl) ?_
  intro q0 z t Q h ye tbl
  obtain ⟨letters1, least2, most3, ⟨⟩⟩ := t
  show Ws _ (⟨[some (raw (.ref q0)), some (pu letters1), some (pu least2), some (pu most3), none], [(q0, dicec)]⟩ : DSt) _ _
  refine s_ret (R := fun (v9 : Txt) => Q v9) (c_join c_tx (c_l (c_L ye.ok (l_lcN (.n 4) [("k", 4)] ye.ok (i_range1 ye.ok B (by rfl) (c_add (c_v 2 rfl rfl) (c_callD 0 0 ye.ok G_law_roll (Nat.le_of_ble_eq_true rfl) rfl (a_cons (c_add (c_sub (c_v 3 rfl rfl) (c_v 2 rfl rfl)) c_int) a_nil) rfl rfl rfl (fun _ => rfl)))) (show BlkOk law_word_N d__law_word.scope _ _ from blk_by (by decide +kernel)) (fun z => (tg_blk ye.ok z 4 rfl)) (fun _ (x5 : Int) _ _ => (c_ixS (c_v 1 rfl rfl) (c_callD 0 1 ye.ok.blk G_law_roll (Nat.le_of_ble_eq_true rfl) rfl (a_cons (c_lenS B (by rfl) (c_v 1 rfl rfl)) a_nil) rfl rfl rfl (fun _ => rfl)))))))) (by exact h) ?_
  intro v9 h
  try dsimp only
  exact ⟨⟨0, rfl⟩, _, rfl, h⟩
abbrev law_pattern_N : List Str := ["dice", "letters", "text", "figures", "k"]
theorem law_pattern_S : FnScope law_pattern_N ["dice"] d__law_pattern.scope := ⟨rfl, rfl, rfl, by decide +kernel, rfl, by decide +kernel, by decide +kernel⟩
theorem ok_law_pattern (B : Bis mg) (L : LK w K mg base fa fn tq) {fd : FuncData} (F1 : Fd K d__law_pattern ["dice"] fd) (G_law_word : Df P w K mg base (tbOf K tq) 2 "_law_word" ["dice", "letters", "least", "most"] (spD law_word_W)) (G_law_roll : Df P w K mg base (tbOf K tq) 1 "_law_roll" ["dice", "many"] (spD rollW)) : FnOk P w K mg base (L2.CX P w) 3 (He.fAd K d__law_pattern.at_) fd ["dice"] (toSp K (tbOf K tq) 1 (spD law_pattern_W)) := by
  refine fn_D (k := 2) none L F1 law_pattern_S law_pattern_W noneNo (fun _ => rfl) ?_
  intro q0 z t Q h ye tbl
  show Ws _ (⟨[some (raw (.ref q0)), none, none, none, none], [(q0, dicec)]⟩ : DSt) _ _
  refine s_par (R := fun (letters2 : Txt) (text3 : Txt) => (law_pattern_w5 letters2 text3 Q)) 1 2 ye.ok rfl rfl (c_callD 0 0 ye.ok G_law_word (Nat.le_of_ble_eq_true rfl) rfl (a_cons c_tx (a_cons c_int (a_cons c_int a_nil))) rfl rfl rfl (fun _ => rfl)) c_tx ?_ (by exact h)
  intro letters2 text3 h
  try dsimp only
  show Ws _ (⟨[some (raw (.ref q0)), some (pu letters2), some (pu text3), none, none], [(q0, dicec)]⟩ : DSt) _ _
  refine s_asg (R := fun (letters5 : Txt) => (law_pattern_w4 text3 letters5 Q)) 1 ye.ok rfl (c_catS (c_ixL (c_l (c_list (s_cons c_tx (s_cons c_tx (s_nil))))) (c_callD 0 0 ye.ok G_law_roll (Nat.le_of_ble_eq_true rfl) rfl (a_cons c_int a_nil) rfl rfl rfl (fun _ => rfl))) (c_v 1 rfl rfl)) ?_ (by exact h)
  intro letters5 h
  try dsimp only
  show Ws _ (⟨[some (raw (.ref q0)), some (pu letters5), some (pu text3), none, none], [(q0, dicec)]⟩ : DSt) _ _
  refine s_asgL (R := fun (figures10 : (List Int)) => (law_pattern_w3 text3 letters5 figures10 Q)) 3 ye.ok rfl (l_lcN (.n 4) [("k", 4)] ye.ok (i_range1 ye.ok B (by rfl) (c_add (c_lenS B (by rfl) (c_v 1 rfl rfl)) c_int)) (show BlkOk law_pattern_N d__law_pattern.scope _ _ from blk_by (by decide +kernel)) (fun z => (tg_blk ye.ok z 4 rfl)) (fun _ (x6 : Int) _ _ => (c_callD 0 1 ye.ok.blk G_law_roll (Nat.le_of_ble_eq_true rfl) rfl (a_cons c_int a_nil) rfl rfl rfl (fun _ => rfl)))) ?_ (by exact h)
  intro figures10 h
  try dsimp only
  show Ws _ (⟨[some (raw (.ref q0)), some (pu letters5), some (pu text3), some (pu figures10), none], [(q0, dicec)]⟩ : DSt) _ _
  refine s_for (Z := Txt) (J := Option Pv) (Body := (fun (x11 : Int) (z12 : Txt) (nx14 : Txt → Prop) => (law_pattern_w1 letters5 figures10 x11 nx14 z12))) (Rest := (fun (z17 : Txt) => (law_pattern_w2 letters5 figures10 z17 Q))) (.n 4) (fun (z12 : Txt) (j13 : Option Pv) => (⟨[some (raw (.ref q0)), some (pu letters5), some (pu (z12 : Txt)), some (pu figures10), j13], [(q0, dicec)]⟩ : DSt)) text3 none ye.ok (i_range1 ye.ok B (by rfl) (c_lenS B (by rfl) (c_v 1 rfl rfl))) (tg_nm ye.ok.nd 4 rfl) rfl ?_ ?_ (by exact h)
  · intro x11 text15 j13 nx14 h
    try dsimp only
    show Ws _ (⟨[some (raw (.ref q0)), some (pu letters5), some (pu text15), some (pu figures10), some (pu x11)], [(q0, dicec)]⟩ : DSt) _ _
    refine s_asg (R := fun (text16 : Txt) => nx14 text16) 2 ye.ok rfl (c_catS (c_catS (c_v 2 rfl rfl) (c_ifP (u := (strI (ixD figures10 x11))) (w := (tx "")) (t_k (k_gt (c_ixL (c_l (c_v 3 rfl rfl)) (c_v 4 rfl rfl)) c_int)) (c_strI B (by rfl) (c_ixL (c_l (c_v 3 rfl rfl)) (c_v 4 rfl rfl))) c_tx)) (c_ixS (c_v 1 rfl rfl) (c_v 4 rfl rfl))) ?_ (by exact h)
    intro text16 h
    try dsimp only
    show Ws _ (⟨[some (raw (.ref q0)), some (pu letters5), some (pu text16), some (pu figures10), some (pu x11)], [(q0, dicec)]⟩ : DSt) _ _
    exact ws_nil ⟨text16, some (pu x11), rfl, h⟩
  intro text19 j18 h
  try dsimp only
  show Ws _ (⟨[some (raw (.ref q0)), some (pu letters5), some (pu text19), some (pu figures10), j18], [(q0, dicec)]⟩ : DSt) _ _
  refine s_ret (R := fun (v20 : (T3 Txt Txt (List Int))) => Q v20) (c_tup3 (a_cons (c_catS (c_v 2 rfl rfl) (c_ifP (u := (strI (ixD figures10 (letters5.length : Int)))) (w := (tx "")) (t_k (k_gt (c_ixL (c_l (c_v 3 rfl rfl)) (c_lenS B (by rfl) (c_v 1 rfl rfl))) c_int)) (c_strI B (by rfl) (c_ixL (c_l (c_v 3 rfl rfl)) (c_lenS B (by rfl) (c_v 1 rfl rfl)))) c_tx)) (a_cons (c_v 1 rfl rfl) (a_cons (c_v 3 rfl rfl) a_nil)))) (by exact h) ?_
  intro v20 h
  try dsimp only
  exact ⟨⟨0, rfl⟩, _, rfl, h⟩
abbrev law_levels_N : List Str := ["patterns", "word", "whole", "found", "place", "here", "text", "letters", "figures", "k"]
theorem law_levels_S : FnScope law_levels_N ["patterns", "word"] d__law_levels.scope := ⟨rfl, rfl, rfl, by decide +kernel, rfl, by decide +kernel, by decide +kernel⟩
theorem ok_law_levels (B : Bis mg) (L : LK w K mg base fa fn tq) {fd : FuncData} (F1 : Fd K d__law_levels ["patterns", "word"] fd)  : FnOk P w K mg base (L2.CX P w) 1 (He.fAd K d__law_levels.at_) fd ["patterns", "word"] (toSp K (tbOf K tq) 2 (spF K law_levels_W)) := by
  refine fn_F (k := 0) none L F1 law_levels_S law_levels_W noneNo (fun _ => rfl) ?_
  intro z t Q E h ye tbl
  obtain ⟨patterns1, word2, ⟨⟩⟩ := t
  show Ws _ (⟨[some (pu patterns1), some (pu word2), none, none, none, none, none, none, none, none], []⟩ : DSt) _ _
  refine s_asgTN (R := fun (whole3 : Txt) (found4 : List Int) => (law_levels_w6 patterns1 whole3 found4 Q)) (.p (.n 2) (.n 3)) (tg_pair ye.ok.calm (tg_nm ye.ok.nd 2 rfl) (tg_nm ye.ok.nd 3 rfl)) (c_catS (c_catS c_tx (c_v 1 rfl rfl)) c_tx) (n_list (s_nil (α := Int))) ?_ (by exact h)
  intro q5 whole3 found4 h
  try dsimp only
  show Ws _ (⟨[some (pu patterns1), some (pu word2), some (pu whole3), some (raw (.ref q5)), none, none, none, none, none, none], [(q5, lstc found4)]⟩ : DSt) _ _
  refine s_for (Z := (List Int)) (J := Option Pv × Option Pv × Option Pv × Option Pv × Option Pv) (Body := (fun (x6 : Int) (z7 : (List Int)) (nx9 : (List Int) → Prop) => (law_levels_w4 patterns1 whole3 x6 nx9 z7))) (Rest := (fun (z23 : (List Int)) => (law_levels_w5 z23 Q))) (.n 4) (fun (z7 : (List Int)) (j8 : Option Pv × Option Pv × Option Pv × Option Pv × Option Pv) => (⟨[some (pu patterns1), some (pu word2), some (pu whole3), some (raw (.ref q5)), j8.1, j8.2.1, j8.2.2.1, j8.2.2.2.1, j8.2.2.2.2, none], [(q5, lstc z7)]⟩ : DSt)) found4 (none, none, none, none, none) ye.ok (i_range2 ye.ok B (by rfl) c_int (c_lenS B (by rfl) (c_v 2 rfl rfl))) (tg_nm ye.ok.nd 4 rfl) rfl ?_ ?_ (by exact h)
  · intro x6 found10 j8 nx9 h
    try dsimp only
    show Ws _ (⟨[some (pu patterns1), some (pu word2), some (pu whole3), some (raw (.ref q5)), some (pu x6), j8.2.1, j8.2.2.1, j8.2.2.2.1, j8.2.2.2.2, none], [(q5, lstc found10)]⟩ : DSt) _ _
    refine s_asg (R := fun (here11 : (List Int)) => (law_levels_w3 patterns1 whole3 x6 nx9 found10 here11)) 5 ye.ok rfl (c_list (s_cons c_int (s_nil))) ?_ (by exact h)
    intro here11 h
    try dsimp only
    show Ws _ (⟨[some (pu patterns1), some (pu word2), some (pu whole3), some (raw (.ref q5)), some (pu x6), some (pu here11), j8.2.2.1, j8.2.2.2.1, j8.2.2.2.2, none], [(q5, lstc found10)]⟩ : DSt) _ _
    refine s_for (Z := (List Int)) (J := Option Pv × Option Pv × Option Pv) (Body := (fun (x12 : (T3 Txt Txt (List Int))) (z13 : (List Int)) (nx15 : (List Int) → Prop) => (law_levels_w1 whole3 x6 x12 nx15 z13))) (Rest := (fun (z19 : (List Int)) => (law_levels_w2 nx9 found10 z19))) (.t (.n 6) (.n 7) (.n 8)) (fun (z13 : (List Int)) (j14 : Option Pv × Option Pv × Option Pv) => (⟨[some (pu patterns1), some (pu word2), some (pu whole3), some (raw (.ref q5)), some (pu x6), some (pu (z13 : (List Int))), j14.1, j14.2.1, j14.2.2, none], [(q5, lstc found10)]⟩ : DSt)) here11 (j8.2.2.1, j8.2.2.2.1, j8.2.2.2.2) ye.ok (i_list (c_v 0 rfl rfl)) (tg_three ye.ok.calm (tg_nm ye.ok.nd 6 rfl) (tg_nm ye.ok.nd 7 rfl) (tg_nm ye.ok.nd 8 rfl)) rfl ?_ ?_ (by exact h)
    · intro x12 here16 j14 nx15 h
      try dsimp only
      show Ws _ (⟨[some (pu patterns1), some (pu word2), some (pu whole3), some (raw (.ref q5)), some (pu x6), some (pu here16), some (pu x12.a), some (pu x12.b), some (pu x12.c), none], [(q5, lstc found10)]⟩ : DSt) _ _
      refine s_asg (R := fun (here18 : (List Int)) => nx15 here18) 5 ye.ok rfl (c_catL (c_l (c_v 5 rfl rfl)) (c_l (c_L ye.ok (l_lc (.n 9) [("k", 9)] (fun (x17 : Int) => ((decide ((cutD whole3 (some x17) (some (x17 + (x12.b.length : Int)))) = x12.b)) && (decide ((0 : Int) ≤ (x6 - x17)) && decide ((x6 - x17) ≤ (x12.b.length : Int))))) (fun (x17 : Int) => (ixD x12.c (x6 - x17))) ye.ok (i_range1 ye.ok B (by rfl) (c_add (c_sub (c_lenS B (by rfl) (c_v 2 rfl rfl)) (c_lenS B (by rfl) (c_v 7 rfl rfl))) c_int)) (show BlkOk law_levels_N d__law_levels.scope _ _ from blk_by (by decide +kernel)) (fun z => (tg_blk ye.ok z 9 rfl)) (fun _ (x17 : Int) _ _ => ts_one (t_w (w_andP (y := (decide ((0 : Int) ≤ (x6 - x17)) && decide ((x6 - x17) ≤ (x12.b.length : Int)))) (t_k (k_eq ye.ok.blk (c_slS (c_v 2 rfl rfl) (o_at (c_v 9 rfl rfl)) (o_at (c_add (c_v 9 rfl rfl) (c_lenS B (by rfl) (c_v 7 rfl rfl))))) (c_v 7 rfl rfl))) (w_and1 (t_chainV (x12.b.length : Int) c_int (c_sub (c_v 4 rfl rfl) (c_v 9 rfl rfl)) (c_lenS B (by rfl) (c_v 7 rfl rfl)) op_le op_le))))) (fun _ (x17 : Int) _ _ => (c_ixL (c_l (c_v 8 rfl rfl)) (c_sub (c_v 4 rfl rfl) (c_v 9 rfl rfl)))))))) ?_ (by exact h)
      intro here18 h
      try dsimp only
      show Ws _ (⟨[some (pu patterns1), some (pu word2), some (pu whole3), some (raw (.ref q5)), some (pu x6), some (pu here18), some (pu x12.a), some (pu x12.b), some (pu x12.c), none], [(q5, lstc found10)]⟩ : DSt) _ _
      exact ws_nil ⟨here18, (some (pu x12.a), some (pu x12.b), some (pu x12.c)), rfl, h⟩
    intro here21 j20 h
    try dsimp only
    show Ws _ (⟨[some (pu patterns1), some (pu word2), some (pu whole3), some (raw (.ref q5)), some (pu x6), some (pu here21), j20.1, j20.2.1, j20.2.2, none], [(q5, lstc found10)]⟩ : DSt) _ _
    refine s_append (R := fun (v22 : Int) => nx9 (found10 ++ [v22])) 3 0 rfl rfl rfl (c_max ye.ok B (by rfl) (c_l (c_v 5 rfl rfl))) ?_ (by exact h)
    intro v22 h
    try dsimp only
    show Ws _ (⟨[some (pu patterns1), some (pu word2), some (pu whole3), some (raw (.ref q5)), some (pu x6), some (pu here21), j20.1, j20.2.1, j20.2.2, none], [(q5, lstc (found10 ++ [v22]))]⟩ : DSt) _ _
    exact ws_nil ⟨(found10 ++ [v22]), (some (pu x6), some (pu here21), j20.1, j20.2.1, j20.2.2), rfl, h⟩
  intro found25 j24 h
  try dsimp only
  show Ws _ (⟨[some (pu patterns1), some (pu word2), some (pu whole3), some (raw (.ref q5)), j24.1, j24.2.1, j24.2.2.1, j24.2.2.2.1, j24.2.2.2.2, none], [(q5, lstc found25)]⟩ : DSt) _ _
  refine ws_frL 3 0 rfl rfl ?_
  refine s_ret (R := fun (v26 : (List Int)) => Q v26) (c_v 3 rfl rfl) (by exact h) ?_
  intro v26 h
  try dsimp only
  exact ⟨⟨0, rfl⟩, _, rfl, h⟩
abbrev law_parts_N : List Str := ["patterns", "word", "first", "last", "levels", "cuts", "k"]
theorem law_parts_S : FnScope law_parts_N ["patterns", "word", "first", "last"] d__law_parts.scope := ⟨rfl, rfl, rfl, by decide +kernel, rfl, by decide +kernel, by decide +kernel⟩
theorem ok_law_parts (B : Bis mg) (L : LK w K mg base fa fn tq) {fd : FuncData} (F1 : Fd K d__law_parts ["patterns", "word", "first", "last"] fd) (G_law_levels : Df P w K mg base (tbOf K tq) 1 "_law_levels" ["patterns", "word"] (spF K law_levels_W)) : FnOk P w K mg base (L2.CX P w) 2 (He.fAd K d__law_parts.at_) fd ["patterns", "word", "first", "last"] (toSp K (tbOf K tq) 4 (spF K law_parts_W)) := by
  refine fn_F (k := 1) none L F1 law_parts_S law_parts_W noneNo (fun _ => rfl) ?_
  intro z t Q E h ye tbl
  obtain ⟨patterns1, word2, first3, last4, ⟨⟩⟩ := t
  show Ws _ (⟨[some (pu patterns1), some (pu word2), some (pu first3), some (pu last4), none, none, none], []⟩ : DSt) _ _
  refine s_asg (R := fun (levels6 : (List Int)) => (law_parts_w2 word2 first3 last4 levels6 Q)) 4 ye.ok rfl (c_call (w := law_levels_W) 0 ye G_law_levels (Nat.le_of_ble_eq_true rfl) rfl (a_cons (c_v 0 rfl rfl) (a_cons (c_v 1 rfl rfl) a_nil)) (fun _ => rfl) rfl) ?_ (by exact h)
  intro levels6 h
  try dsimp only
  show Ws _ (⟨[some (pu patterns1), some (pu word2), some (pu first3), some (pu last4), some (pu levels6), none, none], []⟩ : DSt) _ _
  refine s_asg (R := fun (cuts8 : (List Int)) => (law_parts_w1 word2 cuts8 Q)) 5 ye.ok rfl (c_catL (c_l (c_catL (c_l (c_list (s_cons c_int (s_nil)))) (c_l (c_L ye.ok (l_lc (.n 6) [("k", 6)] (fun (x7 : Int) => (decide (((ixD levels6 x7) % (2 : Int)) = (1 : Int)))) (fun (x7 : Int) => x7) ye.ok (i_range2 ye.ok B (by rfl) (c_v 2 rfl rfl) (c_add (c_sub (c_lenS B (by rfl) (c_v 1 rfl rfl)) (c_v 3 rfl rfl)) c_int)) (show BlkOk law_parts_N d__law_parts.scope _ _ from blk_by (by decide +kernel)) (fun z => (tg_blk ye.ok z 6 rfl)) (fun _ (x7 : Int) _ _ => ts_one (t_k (k_eq ye.ok.blk (c_mod (c_ixL (c_l (c_v 4 rfl rfl)) (c_v 6 rfl rfl)) c_int) c_int))) (fun _ (x7 : Int) _ _ => (c_v 6 rfl rfl))))))) (c_l (c_list (s_cons (c_lenS B (by rfl) (c_v 1 rfl rfl)) (s_nil))))) ?_ (by exact h)
  intro cuts8 h
  try dsimp only
  show Ws _ (⟨[some (pu patterns1), some (pu word2), some (pu first3), some (pu last4), some (pu levels6), some (pu cuts8), none], []⟩ : DSt) _ _
  refine s_ret (R := fun (v10 : (List Txt)) => Q v10) (c_L ye.ok (l_lc0 (.n 6) [("k", 6)] (fun (x9 : Int) => (cutD word2 (some (ixD cuts8 (x9 - (1 : Int)))) (some (ixD cuts8 x9)))) ye.ok (i_range2 ye.ok B (by rfl) c_int (c_lenL B (by rfl) (c_l (c_v 5 rfl rfl)))) (show BlkOk law_parts_N d__law_parts.scope _ _ from blk_by (by decide +kernel)) (fun z => (tg_blk ye.ok z 6 rfl)) (fun _ (x9 : Int) _ _ => (c_slS (c_v 1 rfl rfl) (o_at (c_ixL (c_l (c_v 5 rfl rfl)) (c_sub (c_v 6 rfl rfl) c_int))) (o_at (c_ixL (c_l (c_v 5 rfl rfl)) (c_v 6 rfl rfl))))))) (by exact h) ?_
  intro v10 h
  try dsimp only
  exact ⟨⟨0, rfl⟩, _, rfl, h⟩
abbrev law_cases1_N : List Str := []
theorem law_cases1_S : FnScope law_cases1_N [] d__law_cases1.scope := ⟨rfl, rfl, rfl, by decide +kernel, rfl, by decide +kernel, by decide +kernel⟩
theorem ok_law_cases1 (B : Bis mg) (L : LK w K mg base fa fn tq) {fd : FuncData} (F1 : Fd K d__law_cases1 [] fd) {fd_told : FuncData} (FD_told : Fd K d__law_told ["what"] fd_told) (CM_Hyphens : HN.cmpK K (He.ga K "Hyphens")) (G_Hyphens_init : Mkr P w K mg base (tbOf K tq) 4 "Hyphens" (He.ga K "Hyphens") ["self", "patterns", "told", "first", "last"] (spI K Hyphens_init_W)) (G_Hyphens_lines : Mt P w K mg base (tbOf K tq) 7 (He.ga K "Hyphens") "lines" ["self", "words", "wide"] (spF K Hyphens_lines_W)) : FnOk P w K mg base (L2.CX P w) 10 (He.fAd K d__law_cases1.at_) fd [] (toSp K (tbOf K tq) 0 (spF K law_cases1_W)) := by
  refine fn_F (k := 9) none L F1 law_cases1_S law_cases1_W noneNo (fun _ => rfl) ?_
  intro z t Q E h ye tbl
  show Ws _ (⟨[], []⟩ : DSt) _ _
  refine s_if (B := Q false) (C := (law_cases1_w2 Q)) (t_k (k_neT (γ := HyphensV) ye.ok CM_Hyphens (c_told 5 (Sum.inl : HyphensV → (HyphensV ⊕ Txt)) (Sum.inr : Txt → (HyphensV ⊕ Txt)) toldT (ok_told L FD_told) (told_tells L.d) (tbl _ (List.mem_of_getElem? (i := 2) rfl)) ye.ok (Nat.le_of_ble_eq_true rfl) rfl (show LamX.LamS d__law_cases1.scope _ from LamX.lamS_by (by decide +kernel)) (fun _ _ _ _ h => h) (fun _ _ _ _ h => h) (fun z E_ ye' => (c_make (γ := HyphensV) (w := Hyphens_init_W) 0 ye' G_Hyphens_init (Nat.le_of_ble_eq_true rfl) rfl (a_cons (c_list (s_nil (α := PatternV))) (a_cons (c_list (s_cons c_tx (s_nil))) (a_cons c_int (a_cons c_int a_nil)))) (fun _ => rfl) rfl))) c_tx)) ?_ ?_ (by exact h)
  · intro h
    refine s_ret (R := fun (v3 : Bool) => Q v3) c_bl (by exact h) ?_
    intro v3 h
    try dsimp only
    exact ⟨⟨0, rfl⟩, _, rfl, h⟩
  intro h
  refine ws_nil ?_
  refine s_if (B := Q false) (C := (law_cases1_w1 Q)) (t_k (k_neT (γ := HyphensV) ye.ok CM_Hyphens (c_told 5 (Sum.inl : HyphensV → (HyphensV ⊕ Txt)) (Sum.inr : Txt → (HyphensV ⊕ Txt)) toldT (ok_told L FD_told) (told_tells L.d) (tbl _ (List.mem_of_getElem? (i := 2) rfl)) ye.ok (Nat.le_of_ble_eq_true rfl) rfl (show LamX.LamS d__law_cases1.scope _ from LamX.lamS_by (by decide +kernel)) (fun _ _ _ _ h => h) (fun _ _ _ _ h => h) (fun z E_ ye' => (c_make (γ := HyphensV) (w := Hyphens_init_W) 0 ye' G_Hyphens_init (Nat.le_of_ble_eq_true rfl) rfl (a_cons (c_list (s_nil (α := PatternV))) (a_cons (c_list (s_nil (α := Txt))) (a_cons c_int (a_cons c_int a_nil)))) (fun _ => rfl) rfl))) c_tx)) ?_ ?_ (by exact h)
  · intro h
    refine s_ret (R := fun (v6 : Bool) => Q v6) c_bl (by exact h) ?_
    intro v6 h
    try dsimp only
    exact ⟨⟨0, rfl⟩, _, rfl, h⟩
  intro h
  refine ws_nil ?_
  refine s_if (B := Q false) (C := Q true) (t_k (k_ne ye.ok (c_told 7 (Sum.inl : (Tup Txt) → ((Tup Txt) ⊕ Txt)) (Sum.inr : Txt → ((Tup Txt) ⊕ Txt)) toldT (ok_told L FD_told) (told_tells L.d) (tbl _ (List.mem_of_getElem? (i := 2) rfl)) ye.ok (Nat.le_of_ble_eq_true rfl) rfl (show LamX.LamS d__law_cases1.scope _ from LamX.lamS_by (by decide +kernel)) (fun _ _ _ _ h => h) (fun _ _ _ _ h => h) (fun z E_ ye' => (c_meth (w := Hyphens_lines_W) 0 ye' G_Hyphens_lines (He.cls_ok (L.d.fact 53 rfl)) (Nat.le_of_ble_eq_true rfl) (c_make (γ := HyphensV) (w := Hyphens_init_W) 0 ye' G_Hyphens_init (Nat.le_of_ble_eq_true rfl) rfl (a_cons (c_list (s_nil (α := PatternV))) (a_cons (c_list (s_nil (α := Txt))) (a_cons c_int (a_cons c_int a_nil)))) (fun _ => rfl) rfl) (a_cons (c_list (s_cons c_tx (s_nil))) (a_cons c_int a_nil)) (fun _ => rfl) rfl))) (c_inr (α := (Tup Txt)) (β := Txt) c_tx))) ?_ ?_ (by exact h)
  · intro h
    refine s_ret (R := fun (v10 : Bool) => Q v10) c_bl (by exact h) ?_
    intro v10 h
    try dsimp only
    exact ⟨⟨0, rfl⟩, _, rfl, h⟩
  intro h
  refine ws_nil ?_
  refine s_ret (R := fun (v11 : Bool) => Q v11) c_bl (by exact h) ?_
  intro v11 h
  try dsimp only
  exact ⟨⟨0, rfl⟩, _, rfl, h⟩
abbrev law_rest1_N : List Str := ["told", "first", "last", "patterns", "hyphens", "word", "parts", "rows", "good", "wrong", "lost", "text", "one", "mine", "real", "k", "other", "vowels", "cuts", "fresh", "bad"]
theorem law_rest1_S : FnScope law_rest1_N ["told", "first", "last", "patterns", "hyphens", "word", "parts", "rows"] d__law_rest1.scope := ⟨rfl, rfl, rfl, by decide +kernel, rfl, by decide +kernel, by decide +kernel⟩
theorem ok_law_rest1 (B : Bis mg) (L : LK w K mg base fa fn tq) {fd : FuncData} (F1 : Fd K d__law_rest1 ["told", "first", "last", "patterns", "hyphens", "word", "parts", "rows"] fd) {fd_told : FuncData} (FD_told : Fd K d__law_told ["what"] fd_told) (CM_Pattern : HN.cmpK K (He.ga K "Pattern")) (G_joints : Df P w K mg base (tbOf K tq) 1 "joints" ["parts"] (spF K joints_W)) (G_Hyphens_parts : Mt P w K mg base (tbOf K tq) 5 (He.ga K "Hyphens") "parts" ["self", "word"] (spF K Hyphens_parts_W)) (G_marks_right : Df P w K mg base (tbOf K tq) 6 "marks_right" ["hyphens", "told"] (spF K marks_right_W)) (G_law_parts : Df P w K mg base (tbOf K tq) 2 "_law_parts" ["patterns", "word", "first", "last"] (spF K law_parts_W)) (G_look_told : Df P w K mg base (tbOf K tq) 7 "look_told" ["hyphens", "told"] (spF K look_told_W)) (G_by_beats : Df P w K mg base (tbOf K tq) 1 "by_beats" ["word"] (spF K by_beats_W)) (G_Hyphens_with_pattern : Mt P w K mg base (tbOf K tq) 6 (He.ga K "Hyphens") "with_pattern" ["self", "pattern"] (spF K Hyphens_with_pattern_W)) (G_Pattern_init : Mkr P w K mg base (tbOf K tq) 1 "Pattern" (He.ga K "Pattern") ["self", "text"] (spI K Pattern_init_W)) (G_law_cases1 : Df P w K mg base (tbOf K tq) 10 "_law_cases1" [] (spF K law_cases1_W)) : FnOk P w K mg base (L2.CX P w) 11 (He.fAd K d__law_rest1.at_) fd ["told", "first", "last", "patterns", "hyphens", "word", "parts", "rows"] (toSp K (tbOf K tq) 8 (spF K law_rest1_W)) := by
  refine fn_FTC (k := 10) none L F1 law_rest1_S law_rest1_W noneNo (fun _ => rfl) ?_
  intro z t Q E h ye tbl
  obtain ⟨told1, first2, last3, patterns4, hyphens5, word6, parts7, rows8, ⟨⟩⟩ := t
  show WsT _ (⟨[some (pu told1), some (pu first2), some (pu last3), some (pu patterns4), some (pu hyphens5), some (pu word6), some (pu parts7), some (pu rows8), none, none, none, none, none, none, none, none, none, none, none, none, none], []⟩ : DSt) _ _
  refine wsT_step ?_
  refine s_asgT (R := fun (u9 : (T3 Int Int Int)) => (law_rest1_w16 told1 first2 last3 patterns4 hyphens5 word6 parts7 rows8 u9 Q E)) (.t (.n 8) (.n 9) (.n 10)) (tg_three ye.ok.calm (tg_nm ye.ok.nd 8 rfl) (tg_nm ye.ok.nd 9 rfl) (tg_nm ye.ok.nd 10 rfl)) (c_tup3 (a_cons c_int (a_cons c_int (a_cons c_int a_nil)))) ?_ (by exact h)
  intro u9 h
  try dsimp only
  show Ws _ (⟨[some (pu told1), some (pu first2), some (pu last3), some (pu patterns4), some (pu hyphens5), some (pu word6), some (pu parts7), some (pu rows8), some (pu u9.a), some (pu u9.b), some (pu u9.c), none, none, none, none, none, none, none, none, none, none], []⟩ : DSt) _ _
  refine ws_nil ?_
  show WsT _ (⟨[some (pu told1), some (pu first2), some (pu last3), some (pu patterns4), some (pu hyphens5), some (pu word6), some (pu parts7), some (pu rows8), some (pu u9.a), some (pu u9.b), some (pu u9.c), none, none, none, none, none, none, none, none, none, none], []⟩ : DSt) _ _
  refine s_forT (Z := Int × Int × Int) (J := Option Pv × Option Pv × Option Pv × Option Pv) (Body := (fun (x10 : Txt) (z11 : Int × Int × Int) (nx13 : Int × Int × Int → Prop) => (law_rest1_w3 hyphens5 x10 nx13 z11.1 z11.2.1 z11.2.2 E))) (Rest := (fun (z27 : Int × Int × Int) => (law_rest1_w15 told1 first2 last3 patterns4 hyphens5 word6 parts7 rows8 z27.1 z27.2.1 z27.2.2 Q E))) (.n 11) (fun (z11 : Int × Int × Int) (j12 : Option Pv × Option Pv × Option Pv × Option Pv) => (⟨[some (pu told1), some (pu first2), some (pu last3), some (pu patterns4), some (pu hyphens5), some (pu word6), some (pu parts7), some (pu rows8), some (pu (z11.1 : Int)), some (pu (z11.2.1 : Int)), some (pu (z11.2.2 : Int)), j12.1, j12.2.1, j12.2.2.1, j12.2.2.2, none, none, none, none, none, none], []⟩ : DSt)) (u9.a, u9.b, u9.c) (none, none, none, none) ye.ok (i_list (c_v 7 rfl rfl)) (tg_nm ye.ok.nd 11 rfl) rfl ?_ ?_ (by exact h)
  · intro x10 z11 j12 nx13 h
    try dsimp only
    obtain ⟨good14, wrong15, lost16⟩ := z11
    show WsT _ (⟨[some (pu told1), some (pu first2), some (pu last3), some (pu patterns4), some (pu hyphens5), some (pu word6), some (pu parts7), some (pu rows8), some (pu good14), some (pu wrong15), some (pu lost16), some (pu x10), j12.2.1, j12.2.2.1, j12.2.2.2, none, none, none, none, none, none], []⟩ : DSt) _ _
    refine s_repl (R := fun (one17 : Txt) => (law_rest1_w2 hyphens5 x10 nx13 good14 wrong15 lost16 one17 E)) 12 ye.ok rfl (c_v 11 rfl rfl) ?_ (by exact h)
    intro one17 h
    try dsimp only
    show Ws _ (⟨[some (pu told1), some (pu first2), some (pu last3), some (pu patterns4), some (pu hyphens5), some (pu word6), some (pu parts7), some (pu rows8), some (pu good14), some (pu wrong15), some (pu lost16), some (pu x10), some (pu one17), j12.2.2.1, j12.2.2.2, none, none, none, none, none, none], []⟩ : DSt) _ _
    refine s_asgT (R := fun (u20 : ((List Int) × (List Int))) => (law_rest1_w1 nx13 good14 wrong15 lost16 u20)) (.p (.n 13) (.n 14)) (tg_pair ye.ok.calm (tg_nm ye.ok.nd 13 rfl) (tg_nm ye.ok.nd 14 rfl)) (c_tup2 (a_cons (c_listH B (by rfl) (c_call (w := joints_W) 0 ye G_joints (Nat.le_of_ble_eq_true rfl) rfl (a_cons (c_meth (w := Hyphens_parts_W) 0 ye G_Hyphens_parts (He.cls_ok (L.d.fact 53 rfl)) (Nat.le_of_ble_eq_true rfl) (c_v 4 rfl rfl) (a_cons (c_v 12 rfl rfl) a_nil) (fun _ => rfl) rfl) a_nil) (fun _ => rfl) rfl)) (a_cons (c_ifP (u := [(2 : Int)]) (w := ([] : List Int)) (t_k (k_inS c_tx (c_v 11 rfl rfl))) (c_list (s_cons c_int (s_nil))) (c_list (s_nil (α := Int)))) a_nil))) ?_ (by exact h)
    intro u20 h
    try dsimp only
    show Ws _ (⟨[some (pu told1), some (pu first2), some (pu last3), some (pu patterns4), some (pu hyphens5), some (pu word6), some (pu parts7), some (pu rows8), some (pu good14), some (pu wrong15), some (pu lost16), some (pu x10), some (pu one17), some (pu u20.1), some (pu u20.2), none, none, none, none, none, none], []⟩ : DSt) _ _
    refine ws_cons (w1_par3 8 9 10 ye.ok rfl rfl rfl (evs_cons (EvC.q (k := fun (good24 : Int) => (u20.1.length ≤ sizeLine ∧ (∀ x22 ∈ u20.1, ((niL x22 u20.2)) = ((niL x22 u20.2))) ∧ (∀ x22 ∈ u20.1, ((niL x22 u20.2)) = true → x22 = x22) ∧ (u20.2.length ≤ sizeLine ∧ (∀ x23 ∈ u20.2, ((niL x23 u20.1)) = ((niL x23 u20.1))) ∧ (∀ x23 ∈ u20.2, ((niL x23 u20.1)) = true → x23 = x23) ∧ nx13 (good24, (wrong15 + (List.length ((u20.1.filter (fun (x22 : Int) => ((niL x22 u20.2)))).map (fun (x22 : Int) => x22)) : Int)), (lost16 + (List.length ((u20.2.filter (fun (x23 : Int) => ((niL x23 u20.1)))).map (fun (x23 : Int) => x23)) : Int)))))) (c_add (c_v 8 rfl rfl) (c_lenL B (by rfl) (c_l (c_L ye.ok (l_lc (.n 15) [("k", 15)] (fun (x21 : Int) => ((inL x21 u20.2))) (fun (x21 : Int) => x21) ye.ok (i_list (c_v 13 rfl rfl)) (show BlkOk law_rest1_N d__law_rest1.scope _ _ from blk_by (by decide +kernel)) (fun z => (tg_blk ye.ok z 15 rfl)) (fun _ (x21 : Int) _ _ => ts_one (t_k (k_in ye.ok.blk (c_v 15 rfl rfl) (c_l (c_v 14 rfl rfl))))) (fun _ (x21 : Int) _ _ => (c_v 15 rfl rfl))))))) (by exact h) fun good24 h => evs_cons (EvC.q (k := fun (wrong25 : Int) => (u20.2.length ≤ sizeLine ∧ (∀ x23 ∈ u20.2, ((niL x23 u20.1)) = ((niL x23 u20.1))) ∧ (∀ x23 ∈ u20.2, ((niL x23 u20.1)) = true → x23 = x23) ∧ nx13 (good24, wrong25, (lost16 + (List.length ((u20.2.filter (fun (x23 : Int) => ((niL x23 u20.1)))).map (fun (x23 : Int) => x23)) : Int))))) (c_add (c_v 9 rfl rfl) (c_lenL B (by rfl) (c_l (c_L ye.ok (l_lc (.n 15) [("k", 15)] (fun (x22 : Int) => ((niL x22 u20.2))) (fun (x22 : Int) => x22) ye.ok (i_list (c_v 13 rfl rfl)) (show BlkOk law_rest1_N d__law_rest1.scope _ _ from blk_by (by decide +kernel)) (fun z => (tg_blk ye.ok z 15 rfl)) (fun _ (x22 : Int) _ _ => ts_one (t_k (k_nin ye.ok.blk (c_v 15 rfl rfl) (c_l (c_v 14 rfl rfl))))) (fun _ (x22 : Int) _ _ => (c_v 15 rfl rfl))))))) (by exact h) fun wrong25 h => evs_cons (EvC.q (k := fun (lost26 : Int) => nx13 (good24, wrong25, lost26)) (c_add (c_v 10 rfl rfl) (c_lenL B (by rfl) (c_l (c_L ye.ok (l_lc (.n 15) [("k", 15)] (fun (x23 : Int) => ((niL x23 u20.1))) (fun (x23 : Int) => x23) ye.ok (i_list (c_v 14 rfl rfl)) (show BlkOk law_rest1_N d__law_rest1.scope _ _ from blk_by (by decide +kernel)) (fun z => (tg_blk ye.ok z 15 rfl)) (fun _ (x23 : Int) _ _ => ts_one (t_k (k_nin ye.ok.blk (c_v 15 rfl rfl) (c_l (c_v 13 rfl rfl))))) (fun _ (x23 : Int) _ _ => (c_v 15 rfl rfl))))))) (by exact h) fun lost26 h => evs_nil ⟨_, _, _, rfl, ?_⟩) (by exact star_c rfl)) (by exact star_c rfl)) (by exact star_c rfl)))
    show Ws _ (⟨[some (pu told1), some (pu first2), some (pu last3), some (pu patterns4), some (pu hyphens5), some (pu word6), some (pu parts7), some (pu rows8), some (pu good24), some (pu wrong25), some (pu lost26), some (pu x10), some (pu one17), some (pu u20.1), some (pu u20.2), none, none, none, none, none, none], []⟩ : DSt) _ _
    exact ws_nil ⟨(good24, wrong25, lost26), (some (pu x10), some (pu one17), some (pu u20.1), some (pu u20.2)), rfl, h⟩
  intro z27 j28 h
  try dsimp only
  obtain ⟨good29, wrong30, lost31⟩ := z27
  show WsT _ (⟨[some (pu told1), some (pu first2), some (pu last3), some (pu patterns4), some (pu hyphens5), some (pu word6), some (pu parts7), some (pu rows8), some (pu good29), some (pu wrong30), some (pu lost31), j28.1, j28.2.1, j28.2.2.1, j28.2.2.2, none, none, none, none, none, none], []⟩ : DSt) _ _
  refine wsT_step ?_
  refine s_if (B := Q false) (C := (law_rest1_w14 told1 first2 last3 patterns4 hyphens5 word6 parts7 rows8 Q E)) (t_k (k_ne ye.ok (c_call (w := marks_right_W) 0 ye G_marks_right (Nat.le_of_ble_eq_true rfl) rfl (a_cons (c_v 4 rfl rfl) (a_cons (c_v 7 rfl rfl) a_nil)) (fun _ => rfl) rfl) (c_tup3 (a_cons (c_v 8 rfl rfl) (a_cons (c_v 9 rfl rfl) (a_cons (c_v 10 rfl rfl) a_nil)))))) ?_ ?_ (by exact h)
  · intro h
    refine s_ret (R := fun (v33 : Bool) => Q v33) c_bl (by exact h) ?_
    intro v33 h
    try dsimp only
    exact ⟨⟨0, rfl⟩, _, rfl, h⟩
  intro h
  refine ws_nil ?_
  refine ws_nil ?_
  show WsT _ (⟨[some (pu told1), some (pu first2), some (pu last3), some (pu patterns4), some (pu hyphens5), some (pu word6), some (pu parts7), some (pu rows8), some (pu good29), some (pu wrong30), some (pu lost31), j28.1, j28.2.1, j28.2.2.1, j28.2.2.2, none, none, none, none, none, none], []⟩ : DSt) _ _
  refine s_asgLz (R := fun (other38 : (List Txt)) => (law_rest1_w13 patterns4 hyphens5 word6 parts7 rows8 other38 Q E)) 16 ye.ok rfl (l_lcz (.n 11) [("text", 11)] ye.ok (i_list (c_v 7 rfl rfl)) (show BlkOk law_rest1_N d__law_rest1.scope _ _ from blk_by (by decide +kernel)) (fun z => (tg_blk ye.ok z 11 rfl)) (fun _ (x34 : Txt) _ _ => tsz_one (tz_ne ye.ok.blk (cz_join c_tx (lz (cz_call (w := law_parts_W) 0 ye.blk G_law_parts (Nat.le_of_ble_eq_true rfl) rfl (az_cons (cz_of (c_v 0 rfl rfl)) (az_cons (cz_repl (c_v 11 rfl rfl)) (az_cons (cz_of (c_v 1 rfl rfl)) (az_cons (cz_of (c_v 2 rfl rfl)) (az_of a_nil))))) (fun _ => rfl) trivial))) (c_v 11 rfl rfl))) (fun _ (x34 : Txt) _ _ => (cz_repl (c_v 11 rfl rfl)))) ?_ (by exact h)
  intro other38 h
  try dsimp only
  show WsT _ (⟨[some (pu told1), some (pu first2), some (pu last3), some (pu patterns4), some (pu hyphens5), some (pu word6), some (pu parts7), some (pu rows8), some (pu good29), some (pu wrong30), some (pu lost31), j28.1, j28.2.1, j28.2.2.1, j28.2.2.2, none, some (pu other38), none, none, none, none], []⟩ : DSt) _ _
  refine wsT_of ?_
  refine s_if (B := Q false) (C := (law_rest1_w12 patterns4 hyphens5 word6 parts7 Q E)) (t_k (k_neL ye.ok (c_l (c_listH B (by rfl) (c_call (w := look_told_W) 0 ye G_look_told (Nat.le_of_ble_eq_true rfl) rfl (a_cons (c_v 4 rfl rfl) (a_cons (c_v 7 rfl rfl) a_nil)) (fun _ => rfl) rfl))) (c_l (c_sorted ye.ok B (by rfl) (c_l (c_v 16 rfl rfl)))))) ?_ ?_ (by exact h)
  · intro h
    refine s_ret (R := fun (v40 : Bool) => Q v40) c_bl (by exact h) ?_
    intro v40 h
    try dsimp only
    exact ⟨⟨0, rfl⟩, _, rfl, h⟩
  intro h
  refine ws_nil ?_
  refine s_if (B := Q false) (C := (law_rest1_w11 patterns4 hyphens5 word6 Q E)) (t_k (k_ne ye.ok (c_call (w := joints_W) 0 ye G_joints (Nat.le_of_ble_eq_true rfl) rfl (a_cons (c_tupL B (by rfl) (c_l (c_v 6 rfl rfl))) a_nil) (fun _ => rfl) rfl) (c_tupL B (by rfl) (c_l (c_L ye.ok (l_lc0 (.n 15) [("k", 15)] (fun (x42 : Int) => (List.length (joinT (tx "") (cutD parts7 none (some x42))) : Int)) ye.ok (i_range2 ye.ok B (by rfl) c_int (c_lenL B (by rfl) (c_l (c_v 6 rfl rfl)))) (show BlkOk law_rest1_N d__law_rest1.scope _ _ from blk_by (by decide +kernel)) (fun z => (tg_blk ye.ok z 15 rfl)) (fun _ (x42 : Int) _ _ => (c_lenS B (by rfl) (c_join c_tx (c_l (c_slL (c_l (c_v 6 rfl rfl)) o_no (o_at (c_v 15 rfl rfl))))))))))))) ?_ ?_ (by exact h)
  · intro h
    refine s_ret (R := fun (v43 : Bool) => Q v43) c_bl (by exact h) ?_
    intro v43 h
    try dsimp only
    exact ⟨⟨0, rfl⟩, _, rfl, h⟩
  intro h
  refine ws_nil ?_
  refine s_asg (R := fun (vowels45 : (List Int)) => (law_rest1_w10 patterns4 hyphens5 word6 vowels45 Q E)) 17 ye.ok rfl (c_L ye.ok (l_lc (.n 15) [("k", 15)] (fun (x44 : Int) => (tin (ixS word6 x44) (tx "aeiou"))) (fun (x44 : Int) => x44) ye.ok (i_range1 ye.ok B (by rfl) (c_lenS B (by rfl) (c_v 5 rfl rfl))) (show BlkOk law_rest1_N d__law_rest1.scope _ _ from blk_by (by decide +kernel)) (fun z => (tg_blk ye.ok z 15 rfl)) (fun _ (x44 : Int) _ _ => ts_one (t_k (k_inS (c_ixS (c_v 5 rfl rfl) (c_v 15 rfl rfl)) c_tx))) (fun _ (x44 : Int) _ _ => (c_v 15 rfl rfl)))) ?_ (by exact h)
  intro vowels45 h
  try dsimp only
  show Ws _ (⟨[some (pu told1), some (pu first2), some (pu last3), some (pu patterns4), some (pu hyphens5), some (pu word6), some (pu parts7), some (pu rows8), some (pu good29), some (pu wrong30), some (pu lost31), j28.1, j28.2.1, j28.2.2.1, j28.2.2.2, none, some (pu other38), some (pu vowels45), none, none, none], []⟩ : DSt) _ _
  refine s_asg (R := fun (cuts47 : (List Int)) => (law_rest1_w9 patterns4 hyphens5 word6 cuts47 Q E)) 18 ye.ok rfl (c_catL (c_l (c_catL (c_l (c_list (s_cons c_int (s_nil)))) (c_l (c_L ye.ok (l_lc (.n 15) [("k", 15)] (fun (x46 : Int) => (decide ((1 : Int) < ((ixD vowels45 x46) - (ixD vowels45 (x46 - (1 : Int))))))) (fun (x46 : Int) => ((ixD vowels45 x46) - (1 : Int))) ye.ok (i_range2 ye.ok B (by rfl) c_int (c_lenL B (by rfl) (c_l (c_v 17 rfl rfl)))) (show BlkOk law_rest1_N d__law_rest1.scope _ _ from blk_by (by decide +kernel)) (fun z => (tg_blk ye.ok z 15 rfl)) (fun _ (x46 : Int) _ _ => ts_one (t_k (k_gt (c_sub (c_ixL (c_l (c_v 17 rfl rfl)) (c_v 15 rfl rfl)) (c_ixL (c_l (c_v 17 rfl rfl)) (c_sub (c_v 15 rfl rfl) c_int))) c_int))) (fun _ (x46 : Int) _ _ => (c_sub (c_ixL (c_l (c_v 17 rfl rfl)) (c_v 15 rfl rfl)) c_int))))))) (c_l (c_list (s_cons (c_lenS B (by rfl) (c_v 5 rfl rfl)) (s_nil))))) ?_ (by exact h)
  intro cuts47 h
  try dsimp only
  show Ws _ (⟨[some (pu told1), some (pu first2), some (pu last3), some (pu patterns4), some (pu hyphens5), some (pu word6), some (pu parts7), some (pu rows8), some (pu good29), some (pu wrong30), some (pu lost31), j28.1, j28.2.1, j28.2.2.1, j28.2.2.2, none, some (pu other38), some (pu vowels45), some (pu cuts47), none, none], []⟩ : DSt) _ _
  refine s_if (B := Q false) (C := (law_rest1_w8 patterns4 hyphens5 Q E)) (t_k (k_neL ye.ok (c_l (c_listH B (by rfl) (c_call (w := by_beats_W) 0 ye G_by_beats (Nat.le_of_ble_eq_true rfl) rfl (a_cons (c_v 5 rfl rfl) a_nil) (fun _ => rfl) rfl))) (c_l (c_L ye.ok (l_lc0 (.n 15) [("k", 15)] (fun (x49 : Int) => (cutD word6 (some (ixD cuts47 (x49 - (1 : Int)))) (some (ixD cuts47 x49)))) ye.ok (i_range2 ye.ok B (by rfl) c_int (c_lenL B (by rfl) (c_l (c_v 18 rfl rfl)))) (show BlkOk law_rest1_N d__law_rest1.scope _ _ from blk_by (by decide +kernel)) (fun z => (tg_blk ye.ok z 15 rfl)) (fun _ (x49 : Int) _ _ => (c_slS (c_v 5 rfl rfl) (o_at (c_ixL (c_l (c_v 18 rfl rfl)) (c_sub (c_v 15 rfl rfl) c_int))) (o_at (c_ixL (c_l (c_v 18 rfl rfl)) (c_v 15 rfl rfl)))))))))) ?_ ?_ (by exact h)
  · intro h
    refine s_ret (R := fun (v50 : Bool) => Q v50) c_bl (by exact h) ?_
    intro v50 h
    try dsimp only
    exact ⟨⟨0, rfl⟩, _, rfl, h⟩
  intro h
  refine ws_nil ?_
  refine s_asg (R := fun (fresh53 : HyphensV) => (law_rest1_w7 patterns4 fresh53 Q E)) 19 ye.ok rfl (c_meth (w := Hyphens_with_pattern_W) 0 ye G_Hyphens_with_pattern (He.cls_ok (L.d.fact 53 rfl)) (Nat.le_of_ble_eq_true rfl) (c_v 4 rfl rfl) (a_cons (c_make (γ := PatternV) (w := Pattern_init_W) 0 ye G_Pattern_init (Nat.le_of_ble_eq_true rfl) rfl (a_cons c_tx a_nil) (fun _ => rfl) rfl) a_nil) (fun _ => rfl) rfl) ?_ (by exact h)
  intro fresh53 h
  try dsimp only
  show Ws _ (⟨[some (pu told1), some (pu first2), some (pu last3), some (pu patterns4), some (pu hyphens5), some (pu word6), some (pu parts7), some (pu rows8), some (pu good29), some (pu wrong30), some (pu lost31), j28.1, j28.2.1, j28.2.2.1, j28.2.2.2, none, some (pu other38), some (pu vowels45), some (pu cuts47), some (pu fresh53), none], []⟩ : DSt) _ _
  refine s_if (B := Q false) (C := (law_rest1_w6 Q E)) (t_w (w_or (t_k (k_ne ye.ok (c_lenH B (by rfl) (c_fld HyphensV.patterns (He.cls_ok (L.d.fact 53 rfl)) (He.noat_ok (L.d.fact 55 rfl)) (c_v 19 rfl rfl))) (c_add (c_lenL B (by rfl) (c_l (c_v 3 rfl rfl))) c_int))) (w_or1 (t_k (k_ne ye.ok (c_meth (w := Hyphens_parts_W) 0 ye G_Hyphens_parts (He.cls_ok (L.d.fact 53 rfl)) (Nat.le_of_ble_eq_true rfl) (c_v 19 rfl rfl) (a_cons c_tx a_nil) (fun _ => rfl) rfl) (c_tupH (s_cons c_tx (s_cons c_tx (s_nil))))))))) ?_ ?_ (by exact h)
  · intro h
    refine s_ret (R := fun (v55 : Bool) => Q v55) c_bl (by exact h) ?_
    intro v55 h
    try dsimp only
    exact ⟨⟨0, rfl⟩, _, rfl, h⟩
  intro h
  refine ws_nil ?_
  refine s_for (Z := Unit) (J := Option Pv) (Body := (fun (x56 : Txt) (z57 : Unit) (nx59 : Unit → Prop) => (law_rest1_w4 x56 nx59 Q))) (Rest := (fun (z63 : Unit) => (law_rest1_w5 Q E))) (.n 20) (fun (z57 : Unit) (j58 : Option Pv) => (⟨[some (pu told1), some (pu first2), some (pu last3), some (pu patterns4), some (pu hyphens5), some (pu word6), some (pu parts7), some (pu rows8), some (pu good29), some (pu wrong30), some (pu lost31), j28.1, j28.2.1, j28.2.2.1, j28.2.2.2, none, some (pu other38), some (pu vowels45), some (pu cuts47), some (pu fresh53), j58], []⟩ : DSt)) () none ye.ok (i_list (c_list (s_cons c_tx (s_cons c_tx (s_cons c_tx (s_cons c_tx (s_cons c_tx (s_nil)))))))) (tg_nm ye.ok.nd 20 rfl) rfl ?_ ?_ (by exact h)
  · intro x56 z57 j58 nx59 h
    try dsimp only
    show Ws _ (⟨[some (pu told1), some (pu first2), some (pu last3), some (pu patterns4), some (pu hyphens5), some (pu word6), some (pu parts7), some (pu rows8), some (pu good29), some (pu wrong30), some (pu lost31), j28.1, j28.2.1, j28.2.2.1, j28.2.2.2, none, some (pu other38), some (pu vowels45), some (pu cuts47), some (pu fresh53), some (pu x56)], []⟩ : DSt) _ _
    refine s_if (B := Q false) (C := nx59 ()) (t_k (k_neT (γ := PatternV) ye.ok CM_Pattern (c_told 2 (Sum.inl : PatternV → (PatternV ⊕ Txt)) (Sum.inr : Txt → (PatternV ⊕ Txt)) toldT (ok_told L FD_told) (told_tells L.d) (tbl _ (List.mem_of_getElem? (i := 3) rfl)) ye.ok (Nat.le_of_ble_eq_true rfl) rfl (show LamX.LamS d__law_rest1.scope _ from LamX.lamS_by (by decide +kernel)) (fun _ _ _ _ h => h) (fun _ _ _ _ h => h) (fun z E_ ye' => (c_make (γ := PatternV) (w := Pattern_init_W) 0 ye' G_Pattern_init (Nat.le_of_ble_eq_true rfl) rfl (a_cons (c_v 20 rfl rfl) a_nil) (fun _ => rfl) rfl))) c_tx)) ?_ ?_ (by exact h)
    · intro h
      refine s_ret (R := fun (v62 : Bool) => Q v62) c_bl (by exact h) ?_
      intro v62 h
      try dsimp only
      exact ⟨⟨0, rfl⟩, _, rfl, h⟩
    intro h
    refine ws_nil ?_
    exact ws_nil ⟨(), some (pu x56), rfl, h⟩
  intro z63 j64 h
  try dsimp only
  show Ws _ (⟨[some (pu told1), some (pu first2), some (pu last3), some (pu patterns4), some (pu hyphens5), some (pu word6), some (pu parts7), some (pu rows8), some (pu good29), some (pu wrong30), some (pu lost31), j28.1, j28.2.1, j28.2.2.1, j28.2.2.2, none, some (pu other38), some (pu vowels45), some (pu cuts47), some (pu fresh53), j64], []⟩ : DSt) _ _
  refine s_if (B := Q false) (C := Q true) (t_not (t_v (fun _ => rfl) (c_call0 (w := law_cases1_W) 0 ye G_law_cases1 (Nat.le_of_ble_eq_true rfl) rfl rfl rfl))) ?_ ?_ (by exact h)
  · intro h
    refine s_ret (R := fun (v66 : Bool) => Q v66) c_bl (by exact h) ?_
    intro v66 h
    try dsimp only
    exact ⟨⟨0, rfl⟩, _, rfl, h⟩
  intro h
  refine ws_nil ?_
  refine s_ret (R := fun (v67 : Bool) => Q v67) c_bl (by exact h) ?_
  intro v67 h
  try dsimp only
  exact ⟨⟨0, rfl⟩, _, rfl, h⟩
abbrev law_N : List Str := ["script", "dice", "told", "first", "last", "k", "patterns", "text", "letters", "figures", "pattern", "hyphens", "word", "parts", "room", "ahead", "due", "words", "wide", "lines", "line", "one", "before", "head", "rows"]
theorem law_S : FnScope law_N ["script"] d_law.scope := ⟨rfl, rfl, rfl, by decide +kernel, rfl, by decide +kernel, by decide +kernel⟩
theorem ok_law (B : Bis mg) (L : LK w K mg base fa fn tq) {fd : FuncData} (F1 : Fd K d_law ["script"] fd) {fd_told : FuncData} (FD_told : Fd K d__law_told ["what"] fd_told) (G_law_rounds : Df P w K mg base (tbOf K tq) 2 "_law_rounds" ["script", "most"] dRoundsA) (G_law_roll : Df P w K mg base (tbOf K tq) 1 "_law_roll" ["dice", "many"] (spD rollW)) (G_law_pattern : Df P w K mg base (tbOf K tq) 3 "_law_pattern" ["dice"] (spD law_pattern_W)) (G_Pattern_init : Mkr P w K mg base (tbOf K tq) 1 "Pattern" (He.ga K "Pattern") ["self", "text"] (spI K Pattern_init_W)) (G_Pattern_said : Mt P w K mg base (tbOf K tq) 1 (He.ga K "Pattern") "said" ["self"] (spF K Pattern_said_W)) (G_Hyphens_init : Mkr P w K mg base (tbOf K tq) 4 "Hyphens" (He.ga K "Hyphens") ["self", "patterns", "told", "first", "last"] (spI K Hyphens_init_W)) (G_law_word : Df P w K mg base (tbOf K tq) 2 "_law_word" ["dice", "letters", "least", "most"] (spD law_word_W)) (G_Hyphens_levels_in : Mt P w K mg base (tbOf K tq) 4 (He.ga K "Hyphens") "levels_in" ["self", "word"] (spF K Hyphens_levels_in_W)) (G_law_levels : Df P w K mg base (tbOf K tq) 1 "_law_levels" ["patterns", "word"] (spF K law_levels_W)) (G_law_parts : Df P w K mg base (tbOf K tq) 2 "_law_parts" ["patterns", "word", "first", "last"] (spF K law_parts_W)) (G_Hyphens_parts : Mt P w K mg base (tbOf K tq) 5 (He.ga K "Hyphens") "parts" ["self", "word"] (spF K Hyphens_parts_W)) (G_Hyphens_said : Mt P w K mg base (tbOf K tq) 6 (He.ga K "Hyphens") "said" ["self", "word"] (spF K Hyphens_said_W)) (G_Hyphens_splits : MtN P w K mg base (tbOf K tq) 6 (He.ga K "Hyphens") "splits" ["self", "word", "room"] (spF K Hyphens_splits_W)) (G_Hyphens_lines : Mt P w K mg base (tbOf K tq) 7 (He.ga K "Hyphens") "lines" ["self", "words", "wide"] (spF K Hyphens_lines_W)) (G_law_rest1 : Df P w K mg base (tbOf K tq) 11 "_law_rest1" ["told", "first", "last", "patterns", "hyphens", "word", "parts", "rows"] (spF K law_rest1_W)) : FnOk P w K mg base (L2.CX P w) 12 (He.fAd K d_law.at_) fd ["script"] (toSp K (tbOf K tq) 1 (spF K law_W)) := by
  refine fn_F (k := 11) none L F1 law_S law_W noneNo (fun _ => rfl) ?_
  intro z t Q E h ye tbl
  obtain ⟨script1, ⟨⟩⟩ := t
  show Ws _ (⟨[some (pu script1), none, none, none, none, none, none, none, none, none, none, none, none, none, none, none, none, none, none, none, none, none, none, none, none], []⟩ : DSt) _ _
  refine s_rounds (R := (law_w22 Q E)) 1 0 ye.ok G_law_rounds (Nat.le_of_ble_eq_true rfl) rfl rfl rfl (tg_nm ye.ok.nd 1 rfl) (c_v 0 rfl rfl) ?_ (by exact h)
  intro q2 h
  try dsimp only
  show Ws _ (⟨[some (pu script1), some (raw (.ref q2)), none, none, none, none, none, none, none, none, none, none, none, none, none, none, none, none, none, none, none, none, none, none, none], [(q2, dicec)]⟩ : DSt) _ _
  refine ws_cons (w1_par3 2 3 4 ye.ok rfl rfl rfl (evs_cons (EvC.q (k := fun (told10 : (List (T3 Txt Txt (List Int)))) => (ClD (rollW ((2 : Int), ())) fun (r8 : Int) => (ClD (rollW ((2 : Int), ())) fun (r9 : Int) => (law_w21 told10 ((1 : Int) + r8) ((1 : Int) + r9) Q E)))) (c_L ye.ok (l_lcN (.n 5) [("k", 5)] ye.ok (i_range1 ye.ok B (by rfl) (c_callD 1 0 ye.ok G_law_roll (Nat.le_of_ble_eq_true rfl) rfl (a_cons c_int a_nil) rfl rfl rfl (fun _ => rfl))) (show BlkOk law_N d_law.scope _ _ from blk_by (by decide +kernel)) (fun z => (tg_blk ye.ok z 5 rfl)) (fun _ (x4 : Int) _ _ => (c_callD 1 1 ye.ok.blk G_law_pattern (Nat.le_of_ble_eq_true rfl) rfl a_nil rfl rfl rfl (fun _ => rfl))))) (by exact h) fun told10 h => evs_cons (EvC.q (k := fun (first11 : Int) => (ClD (rollW ((2 : Int), ())) fun (r9 : Int) => (law_w21 told10 first11 ((1 : Int) + r9) Q E))) (c_add c_int (c_callD 1 0 ye.ok G_law_roll (Nat.le_of_ble_eq_true rfl) rfl (a_cons c_int a_nil) rfl rfl rfl (fun _ => rfl))) (by exact h) fun first11 h => evs_cons (EvC.q (k := fun (last12 : Int) => (law_w21 told10 first11 last12 Q E)) (c_add c_int (c_callD 1 0 ye.ok G_law_roll (Nat.le_of_ble_eq_true rfl) rfl (a_cons c_int a_nil) rfl rfl rfl (fun _ => rfl))) (by exact h) fun last12 h => evs_nil ⟨_, _, _, rfl, ?_⟩) (by exact star_c rfl)) (by exact star_c rfl)) (by exact star_c rfl)))
  show Ws _ (⟨[some (pu script1), some (raw (.ref q2)), some (pu told10), some (pu first11), some (pu last12), none, none, none, none, none, none, none, none, none, none, none, none, none, none, none, none, none, none, none, none], [(q2, dicec)]⟩ : DSt) _ _
  refine s_asgL (R := fun (patterns16 : (List PatternV)) => (law_w20 told10 first11 last12 patterns16 Q E)) 6 ye.ok rfl (l_lcX0 (.t (.n 7) (.n 8) (.n 9)) [("text", 7), ("letters", 8), ("figures", 9)] ye.ok (i_list (c_v 2 rfl rfl)) (show BlkOk law_N d_law.scope _ _ from blk_by (by decide +kernel)) (fun z => (tg_three ye.ok.blk.calm (tg_blk ye.ok z 7 rfl) (tg_blk ye.ok z 8 rfl) (tg_blk ye.ok z 9 rfl))) (fun _ (x13 : (T3 Txt Txt (List Int))) _ _ => (c_make (γ := PatternV) (w := Pattern_init_W) 1 ye.blk G_Pattern_init (Nat.le_of_ble_eq_true rfl) rfl (a_cons (c_v 7 rfl rfl) a_nil) (fun _ => rfl) trivial))) ?_ (by exact h)
  intro patterns16 h
  try dsimp only
  show Ws _ (⟨[some (pu script1), some (raw (.ref q2)), some (pu told10), some (pu first11), some (pu last12), none, some (pu patterns16), none, none, none, none, none, none, none, none, none, none, none, none, none, none, none, none, none, none], [(q2, dicec)]⟩ : DSt) _ _
  refine s_if (B := Q false) (C := (law_w19 told10 first11 last12 patterns16 Q E)) (t_k (k_neL ye.ok (c_l (c_L ye.ok (l_lc0 (.n 10) [("pattern", 10)] (fun (x17 : PatternV) => (x17.letters, x17.levels.items)) ye.ok (i_list (c_v 6 rfl rfl)) (show BlkOk law_N d_law.scope _ _ from blk_by (by decide +kernel)) (fun z => (tg_blk ye.ok z 10 rfl)) (fun _ (x17 : PatternV) _ _ => (c_tup2 (a_cons (c_fld PatternV.letters (He.cls_ok (L.d.fact 47 rfl)) (He.noat_ok (L.d.fact 49 rfl)) (c_v 10 rfl rfl)) (a_cons (c_listH B (by rfl) (c_fld PatternV.levels (He.cls_ok (L.d.fact 47 rfl)) (He.noat_ok (L.d.fact 50 rfl)) (c_v 10 rfl rfl))) a_nil))))))) (c_l (c_L ye.ok (l_lc0 (.t (.n 7) (.n 8) (.n 9)) [("text", 7), ("letters", 8), ("figures", 9)] (fun (x18 : (T3 Txt Txt (List Int))) => (x18.b, x18.c)) ye.ok (i_list (c_v 2 rfl rfl)) (show BlkOk law_N d_law.scope _ _ from blk_by (by decide +kernel)) (fun z => (tg_three ye.ok.blk.calm (tg_blk ye.ok z 7 rfl) (tg_blk ye.ok z 8 rfl) (tg_blk ye.ok z 9 rfl))) (fun _ (x18 : (T3 Txt Txt (List Int))) _ _ => (c_tup2 (a_cons (c_v 8 rfl rfl) (a_cons (c_v 9 rfl rfl) a_nil))))))))) ?_ ?_ (by exact h)
  · intro h
    refine s_ret (R := fun (v19 : Bool) => Q v19) c_bl (by exact h) ?_
    intro v19 h
    try dsimp only
    exact ⟨⟨1, rfl⟩, _, rfl, h⟩
  intro h
  refine ws_nil ?_
  refine s_if (B := Q false) (C := (law_w18 told10 first11 last12 patterns16 Q E)) (t_k (k_neL ye.ok (c_l (c_L ye.ok (l_lcX0 (.n 10) [("pattern", 10)] ye.ok (i_list (c_v 6 rfl rfl)) (show BlkOk law_N d_law.scope _ _ from blk_by (by decide +kernel)) (fun z => (tg_blk ye.ok z 10 rfl)) (fun _ (x20 : PatternV) _ _ => (c_meth0 (w := Pattern_said_W) 1 ye.blk G_Pattern_said (He.cls_ok (L.d.fact 47 rfl)) (Nat.le_of_ble_eq_true rfl) (c_v 10 rfl rfl) rfl trivial))))) (c_l (c_L ye.ok (l_lc0 (.t (.n 7) (.n 8) (.n 9)) [("text", 7), ("letters", 8), ("figures", 9)] (fun (x23 : (T3 Txt Txt (List Int))) => x23.a) ye.ok (i_list (c_v 2 rfl rfl)) (show BlkOk law_N d_law.scope _ _ from blk_by (by decide +kernel)) (fun z => (tg_three ye.ok.blk.calm (tg_blk ye.ok z 7 rfl) (tg_blk ye.ok z 8 rfl) (tg_blk ye.ok z 9 rfl))) (fun _ (x23 : (T3 Txt Txt (List Int))) _ _ => (c_v 7 rfl rfl))))))) ?_ ?_ (by exact h)
  · intro h
    refine s_ret (R := fun (v24 : Bool) => Q v24) c_bl (by exact h) ?_
    intro v24 h
    try dsimp only
    exact ⟨⟨1, rfl⟩, _, rfl, h⟩
  intro h
  refine ws_nil ?_
  refine s_asgT (R := fun (u27 : (HyphensV × Txt)) => (law_w17 told10 first11 last12 patterns16 u27 Q E)) (.p (.n 11) (.n 12)) (tg_pair ye.ok.calm (tg_nm ye.ok.nd 11 rfl) (tg_nm ye.ok.nd 12 rfl)) (c_tup2 (a_cons (c_make (γ := HyphensV) (w := Hyphens_init_W) 1 ye G_Hyphens_init (Nat.le_of_ble_eq_true rfl) rfl (a_cons (c_v 6 rfl rfl) (a_cons (c_list (s_cons c_tx (s_nil))) (a_cons (c_v 3 rfl rfl) (a_cons (c_v 4 rfl rfl) a_nil)))) (fun _ => rfl) rfl) (a_cons (c_callD 1 0 ye.ok G_law_word (Nat.le_of_ble_eq_true rfl) rfl (a_cons c_tx (a_cons c_int (a_cons c_int a_nil))) rfl rfl rfl (fun _ => rfl)) a_nil))) ?_ (by exact h)
  intro u27 h
  try dsimp only
  show Ws _ (⟨[some (pu script1), some (raw (.ref q2)), some (pu told10), some (pu first11), some (pu last12), none, some (pu patterns16), none, none, none, none, some (pu u27.1), some (pu u27.2), none, none, none, none, none, none, none, none, none, none, none, none], [(q2, dicec)]⟩ : DSt) _ _
  refine s_if (B := Q false) (C := (law_w16 told10 first11 last12 patterns16 u27 Q E)) (t_k (k_neL ye.ok (c_l (c_listH B (by rfl) (c_meth (w := Hyphens_levels_in_W) 1 ye G_Hyphens_levels_in (He.cls_ok (L.d.fact 53 rfl)) (Nat.le_of_ble_eq_true rfl) (c_v 11 rfl rfl) (a_cons (c_v 12 rfl rfl) a_nil) (fun _ => rfl) rfl))) (c_l (c_call (w := law_levels_W) 1 ye G_law_levels (Nat.le_of_ble_eq_true rfl) rfl (a_cons (c_v 2 rfl rfl) (a_cons (c_v 12 rfl rfl) a_nil)) (fun _ => rfl) rfl)))) ?_ ?_ (by exact h)
  · intro h
    refine s_ret (R := fun (v30 : Bool) => Q v30) c_bl (by exact h) ?_
    intro v30 h
    try dsimp only
    exact ⟨⟨1, rfl⟩, _, rfl, h⟩
  intro h
  refine ws_nil ?_
  refine s_asg (R := fun (parts32 : (List Txt)) => (law_w15 told10 first11 last12 patterns16 u27 parts32 Q E)) 13 ye.ok rfl (c_if (t_k (k_eq ye.ok (c_v 12 rfl rfl) c_tx)) (c_list (s_cons c_tx (s_cons c_tx (s_nil)))) (c_call (w := law_parts_W) 1 ye G_law_parts (Nat.le_of_ble_eq_true rfl) rfl (a_cons (c_v 2 rfl rfl) (a_cons (c_v 12 rfl rfl) (a_cons (c_v 3 rfl rfl) (a_cons (c_v 4 rfl rfl) a_nil)))) (fun _ => rfl) rfl)) ?_ (by exact h)
  intro parts32 h
  try dsimp only
  show Ws _ (⟨[some (pu script1), some (raw (.ref q2)), some (pu told10), some (pu first11), some (pu last12), none, some (pu patterns16), none, none, none, none, some (pu u27.1), some (pu u27.2), some (pu parts32), none, none, none, none, none, none, none, none, none, none, none], [(q2, dicec)]⟩ : DSt) _ _
  refine s_if (B := Q false) (C := (law_w14 told10 first11 last12 patterns16 u27 parts32 Q E)) (t_w (w_or (t_k (k_neL ye.ok (c_l (c_listH B (by rfl) (c_meth (w := Hyphens_parts_W) 1 ye G_Hyphens_parts (He.cls_ok (L.d.fact 53 rfl)) (Nat.le_of_ble_eq_true rfl) (c_v 11 rfl rfl) (a_cons (c_v 12 rfl rfl) a_nil) (fun _ => rfl) rfl))) (c_l (c_v 13 rfl rfl)))) (w_or1 (t_k (k_ne ye.ok (c_meth (w := Hyphens_said_W) 1 ye G_Hyphens_said (He.cls_ok (L.d.fact 53 rfl)) (Nat.le_of_ble_eq_true rfl) (c_v 11 rfl rfl) (a_cons (c_v 12 rfl rfl) a_nil) (fun _ => rfl) rfl) (c_join c_tx (c_l (c_v 13 rfl rfl)))))))) ?_ ?_ (by exact h)
  · intro h
    refine s_ret (R := fun (v35 : Bool) => Q v35) c_bl (by exact h) ?_
    intro v35 h
    try dsimp only
    exact ⟨⟨1, rfl⟩, _, rfl, h⟩
  intro h
  refine ws_nil ?_
  refine s_if (B := Q false) (C := (law_w13 told10 first11 last12 patterns16 u27 parts32 Q E)) (t_k (k_ne ye.ok (c_meth (w := Hyphens_parts_W) 1 ye G_Hyphens_parts (He.cls_ok (L.d.fact 53 rfl)) (Nat.le_of_ble_eq_true rfl) (c_v 11 rfl rfl) (a_cons c_tx a_nil) (fun _ => rfl) rfl) (c_tupH (s_cons c_tx (s_cons c_tx (s_nil)))))) ?_ ?_ (by exact h)
  · intro h
    refine s_ret (R := fun (v37 : Bool) => Q v37) c_bl (by exact h) ?_
    intro v37 h
    try dsimp only
    exact ⟨⟨1, rfl⟩, _, rfl, h⟩
  intro h
  refine ws_nil ?_
  refine s_asg (R := fun (room39 : Int) => (law_w12 told10 first11 last12 patterns16 u27 parts32 room39 Q E)) 14 ye.ok rfl (c_callD 1 0 ye.ok G_law_roll (Nat.le_of_ble_eq_true rfl) rfl (a_cons c_int a_nil) rfl rfl rfl (fun _ => rfl)) ?_ (by exact h)
  intro room39 h
  try dsimp only
  show Ws _ (⟨[some (pu script1), some (raw (.ref q2)), some (pu told10), some (pu first11), some (pu last12), none, some (pu patterns16), none, none, none, none, some (pu u27.1), some (pu u27.2), some (pu parts32), some (pu room39), none, none, none, none, none, none, none, none, none, none], [(q2, dicec)]⟩ : DSt) _ _
  refine s_asgL (R := fun (ahead41 : (List Txt)) => (law_w11 told10 first11 last12 patterns16 u27 parts32 room39 ahead41 Q E)) 15 ye.ok rfl (l_lc (.n 5) [("k", 5)] (fun (x40 : Int) => (decide (((List.length (joinT (tx "") (cutD parts32 none (some x40))) : Int) + (1 : Int)) ≤ room39))) (fun (x40 : Int) => (joinT (tx "") (cutD parts32 none (some x40)))) ye.ok (i_range2 ye.ok B (by rfl) c_int (c_lenL B (by rfl) (c_l (c_v 13 rfl rfl)))) (show BlkOk law_N d_law.scope _ _ from blk_by (by decide +kernel)) (fun z => (tg_blk ye.ok z 5 rfl)) (fun _ (x40 : Int) _ _ => ts_one (t_k (k_le (c_add (c_lenS B (by rfl) (c_join c_tx (c_l (c_slL (c_l (c_v 13 rfl rfl)) o_no (o_at (c_v 5 rfl rfl)))))) c_int) (c_v 14 rfl rfl)))) (fun _ (x40 : Int) _ _ => (c_join c_tx (c_l (c_slL (c_l (c_v 13 rfl rfl)) o_no (o_at (c_v 5 rfl rfl))))))) ?_ (by exact h)
  intro ahead41 h
  try dsimp only
  show Ws _ (⟨[some (pu script1), some (raw (.ref q2)), some (pu told10), some (pu first11), some (pu last12), none, some (pu patterns16), none, none, none, none, some (pu u27.1), some (pu u27.2), some (pu parts32), some (pu room39), some (pu ahead41), none, none, none, none, none, none, none, none, none], [(q2, dicec)]⟩ : DSt) _ _
  refine s_asg (R := fun (due42 : ((Txt × Txt) ⊕ Txt)) => (law_w10 told10 first11 last12 patterns16 u27 parts32 room39 due42 Q E)) 16 ye.ok rfl (c_ifP (u := (Sum.inl (((ixD ahead41 ((ahead41.length : Int) - (1 : Int))) ++ (tx "-")), (cutD u27.2 (some (List.length (ixD ahead41 ((ahead41.length : Int) - (1 : Int))) : Int)) none)) : ((Txt × Txt) ⊕ Txt))) (w := (Sum.inr (tx "no way") : ((Txt × Txt) ⊕ Txt))) (t_k (k_neL ye.ok (c_l (c_v 15 rfl rfl)) (c_l (c_list (s_nil (α := Txt)))))) (c_inl (α := (Txt × Txt)) (β := Txt) (c_tup2 (a_cons (c_catS (c_ixL (c_l (c_v 15 rfl rfl)) (c_sub (c_lenL B (by rfl) (c_l (c_v 15 rfl rfl))) c_int)) c_tx) (a_cons (c_slS (c_v 12 rfl rfl) (o_at (c_lenS B (by rfl) (c_ixL (c_l (c_v 15 rfl rfl)) (c_sub (c_lenL B (by rfl) (c_l (c_v 15 rfl rfl))) c_int)))) o_no) a_nil)))) (c_inr (α := (Txt × Txt)) (β := Txt) c_tx)) ?_ (by exact h)
  intro due42 h
  try dsimp only
  show Ws _ (⟨[some (pu script1), some (raw (.ref q2)), some (pu told10), some (pu first11), some (pu last12), none, some (pu patterns16), none, none, none, none, some (pu u27.1), some (pu u27.2), some (pu parts32), some (pu room39), some (pu ahead41), some (pu due42), none, none, none, none, none, none, none, none], [(q2, dicec)]⟩ : DSt) _ _
  refine s_if (B := Q false) (C := (law_w9 told10 first11 last12 patterns16 u27 parts32 Q E)) (t_k (k_ne ye.ok (c_told 6 (Sum.inl : (Txt × Txt) → ((Txt × Txt) ⊕ Txt)) (Sum.inr : Txt → ((Txt × Txt) ⊕ Txt)) toldT (ok_told L FD_told) (told_tells L.d) (tbl _ (List.mem_of_getElem? (i := 4) rfl)) ye.ok (Nat.le_of_ble_eq_true rfl) rfl (show LamX.LamS d_law.scope _ from LamX.lamS_by (by decide +kernel)) (fun _ _ _ _ h => h) (fun _ _ _ _ h => h) (fun z E_ ye' => (c_meth (w := Hyphens_splits_W) 0 ye' (MtN.mt G_Hyphens_splits) (He.cls_ok (L.d.fact 53 rfl)) (Nat.le_of_ble_eq_true rfl) (c_v 11 rfl rfl) (a_cons (c_v 12 rfl rfl) (a_cons (c_v 14 rfl rfl) a_nil)) (fun _ => rfl) rfl))) (c_v 16 rfl rfl))) ?_ ?_ (by exact h)
  · intro h
    refine s_ret (R := fun (v45 : Bool) => Q v45) c_bl (by exact h) ?_
    intro v45 h
    try dsimp only
    exact ⟨⟨1, rfl⟩, _, rfl, h⟩
  intro h
  refine ws_nil ?_
  refine s_asgT (R := fun (u52 : ((List Txt) × Int)) => (law_w8 told10 first11 last12 patterns16 u27 parts32 u52 Q E)) (.p (.n 17) (.n 18)) (tg_pair ye.ok.calm (tg_nm ye.ok.nd 17 rfl) (tg_nm ye.ok.nd 18 rfl)) (c_tup2 (a_cons (c_L ye.ok (l_lcN (.n 5) [("k", 5)] ye.ok (i_range1 ye.ok B (by rfl) (c_callD 1 0 ye.ok G_law_roll (Nat.le_of_ble_eq_true rfl) rfl (a_cons c_int a_nil) rfl rfl rfl (fun _ => rfl))) (show BlkOk law_N d_law.scope _ _ from blk_by (by decide +kernel)) (fun z => (tg_blk ye.ok z 5 rfl)) (fun _ (x47 : Int) _ _ => (c_callD 1 1 ye.ok.blk G_law_word (Nat.le_of_ble_eq_true rfl) rfl (a_cons c_tx (a_cons c_int (a_cons c_int a_nil))) rfl rfl rfl (fun _ => rfl))))) (a_cons (c_add c_int (c_callD 1 0 ye.ok G_law_roll (Nat.le_of_ble_eq_true rfl) rfl (a_cons c_int a_nil) rfl rfl rfl (fun _ => rfl))) a_nil))) ?_ (by exact h)
  intro u52 h
  try dsimp only
  show Ws _ (⟨[some (pu script1), some (raw (.ref q2)), some (pu told10), some (pu first11), some (pu last12), none, some (pu patterns16), none, none, none, none, some (pu u27.1), some (pu u27.2), some (pu parts32), some (pu room39), some (pu ahead41), some (pu due42), some (pu u52.1), some (pu u52.2), none, none, none, none, none, none], [(q2, dicec)]⟩ : DSt) _ _
  refine s_asg (R := fun (lines54 : (Tup Txt)) => (law_w7 told10 first11 last12 patterns16 u27 parts32 u52 lines54 Q E)) 19 ye.ok rfl (c_meth (w := Hyphens_lines_W) 1 ye G_Hyphens_lines (He.cls_ok (L.d.fact 53 rfl)) (Nat.le_of_ble_eq_true rfl) (c_v 11 rfl rfl) (a_cons (c_v 17 rfl rfl) (a_cons (c_v 18 rfl rfl) a_nil)) (fun _ => rfl) rfl) ?_ (by exact h)
  intro lines54 h
  try dsimp only
  show Ws _ (⟨[some (pu script1), some (raw (.ref q2)), some (pu told10), some (pu first11), some (pu last12), none, some (pu patterns16), none, none, none, none, some (pu u27.1), some (pu u27.2), some (pu parts32), some (pu room39), some (pu ahead41), some (pu due42), some (pu u52.1), some (pu u52.2), some (pu lines54), none, none, none, none, none], [(q2, dicec)]⟩ : DSt) _ _
  refine s_if (B := Q false) (C := (law_w6 told10 first11 last12 patterns16 u27 parts32 u52 lines54 Q E)) (t_k (k_neL ye.ok (c_l (c_L ye.ok (l_lc (.n 20) [("line", 20)] (fun (x55 : Txt) => ((decide (u52.2 < (x55.length : Int))) || (decide (x55 = (tx ""))))) (fun (x55 : Txt) => x55) ye.ok (i_tup (c_v 19 rfl rfl)) (show BlkOk law_N d_law.scope _ _ from blk_by (by decide +kernel)) (fun z => (tg_blk ye.ok z 20 rfl)) (fun _ (x55 : Txt) _ _ => ts_one (t_w (w_orP (y := (decide (x55 = (tx "")))) (t_k (k_gt (c_lenS B (by rfl) (c_v 20 rfl rfl)) (c_v 18 rfl rfl))) (w_or1 (t_k (k_eq ye.ok.blk (c_v 20 rfl rfl) c_tx)))))) (fun _ (x55 : Txt) _ _ => (c_v 20 rfl rfl))))) (c_l (c_list (s_nil (α := Txt)))))) ?_ ?_ (by exact h)
  · intro h
    refine s_ret (R := fun (v56 : Bool) => Q v56) c_bl (by exact h) ?_
    intro v56 h
    try dsimp only
    exact ⟨⟨1, rfl⟩, _, rfl, h⟩
  intro h
  refine ws_nil ?_
  refine s_if (B := Q false) (C := (law_w5 told10 first11 last12 patterns16 u27 parts32 u52 lines54 Q E)) (t_k (k_ne ye.ok (c_join c_tx (c_l (c_L ye.ok (l_lc0 (.n 20) [("line", 20)] (fun (x57 : Txt) => (if (decide ((ixS x57 ((x57.length : Int) - (1 : Int))) = (tx "-"))) = true then (cutD x57 none (some ((x57.length : Int) - (1 : Int)))) else (x57 ++ (tx " ")))) ye.ok (i_tup (c_v 19 rfl rfl)) (show BlkOk law_N d_law.scope _ _ from blk_by (by decide +kernel)) (fun z => (tg_blk ye.ok z 20 rfl)) (fun _ (x57 : Txt) _ _ => (c_ifP (u := (cutD x57 none (some ((x57.length : Int) - (1 : Int))))) (w := (x57 ++ (tx " "))) (t_k (k_eq ye.ok.blk (c_ixS (c_v 20 rfl rfl) (c_sub (c_lenS B (by rfl) (c_v 20 rfl rfl)) c_int)) c_tx)) (c_slS (c_v 20 rfl rfl) o_no (o_at (c_sub (c_lenS B (by rfl) (c_v 20 rfl rfl)) c_int))) (c_catS (c_v 20 rfl rfl) c_tx))))))) (c_join c_tx (c_l (c_L ye.ok (l_lc0 (.n 21) [("one", 21)] (fun (x58 : Txt) => (x58 ++ (tx " "))) ye.ok (i_list (c_v 17 rfl rfl)) (show BlkOk law_N d_law.scope _ _ from blk_by (by decide +kernel)) (fun z => (tg_blk ye.ok z 21 rfl)) (fun _ (x58 : Txt) _ _ => (c_catS (c_v 21 rfl rfl) c_tx)))))))) ?_ ?_ (by exact h)
  · intro h
    refine s_ret (R := fun (v59 : Bool) => Q v59) c_bl (by exact h) ?_
    intro v59 h
    try dsimp only
    exact ⟨⟨1, rfl⟩, _, rfl, h⟩
  intro h
  refine ws_nil ?_
  refine s_for (Z := Unit) (J := Option Pv × Option Pv × Option Pv) (Body := (fun (x60 : Int) (z61 : Unit) (nx63 : Unit → Prop) => (law_w2 u52 lines54 x60 nx63 Q))) (Rest := (fun (z67 : Unit) => (law_w4 told10 first11 last12 patterns16 u27 parts32 u52 Q E))) (.n 5) (fun (z61 : Unit) (j62 : Option Pv × Option Pv × Option Pv) => (⟨[some (pu script1), some (raw (.ref q2)), some (pu told10), some (pu first11), some (pu last12), j62.1, some (pu patterns16), none, none, none, none, some (pu u27.1), some (pu u27.2), some (pu parts32), some (pu room39), some (pu ahead41), some (pu due42), some (pu u52.1), some (pu u52.2), some (pu lines54), none, none, j62.2.1, j62.2.2, none], [(q2, dicec)]⟩ : DSt)) () (none, none, none) ye.ok (i_range2 ye.ok B (by rfl) c_int (c_lenH B (by rfl) (c_v 19 rfl rfl))) (tg_nm ye.ok.nd 5 rfl) rfl ?_ ?_ (by exact h)
  · intro x60 z61 j62 nx63 h
    try dsimp only
    show Ws _ (⟨[some (pu script1), some (raw (.ref q2)), some (pu told10), some (pu first11), some (pu last12), some (pu x60), some (pu patterns16), none, none, none, none, some (pu u27.1), some (pu u27.2), some (pu parts32), some (pu room39), some (pu ahead41), some (pu due42), some (pu u52.1), some (pu u52.2), some (pu lines54), none, none, j62.2.1, j62.2.2, none], [(q2, dicec)]⟩ : DSt) _ _
    refine s_par (R := fun (before64 : Txt) (head65 : Txt) => (law_w1 u52 lines54 x60 nx63 before64 head65 Q)) 22 23 ye.ok rfl rfl (c_ixH (c_v 19 rfl rfl) (c_sub (c_v 5 rfl rfl) c_int)) (c_replS (c_ixL (c_l (c_split (c_ixH (c_v 19 rfl rfl) (c_v 5 rfl rfl)) c_tx)) c_int)) ?_ (by exact h)
    intro before64 head65 h
    try dsimp only
    show Ws _ (⟨[some (pu script1), some (raw (.ref q2)), some (pu told10), some (pu first11), some (pu last12), some (pu x60), some (pu patterns16), none, none, none, none, some (pu u27.1), some (pu u27.2), some (pu parts32), some (pu room39), some (pu ahead41), some (pu due42), some (pu u52.1), some (pu u52.2), some (pu lines54), none, none, some (pu before64), some (pu head65), none], [(q2, dicec)]⟩ : DSt) _ _
    refine s_if (B := Q false) (C := nx63 ()) (t_w (w_andP (y := ((decide ((((before64.length : Int) + (1 : Int)) + (head65.length : Int)) ≤ u52.2)) && (!tin (tx "-") (ixD lines54.items x60)))) (t_k (k_ne ye.ok (c_ixS (c_v 22 rfl rfl) (c_sub (c_lenS B (by rfl) (c_v 22 rfl rfl)) c_int)) c_tx)) (w_andP (y := (!tin (tx "-") (ixD lines54.items x60))) (t_k (k_le (c_add (c_add (c_lenS B (by rfl) (c_v 22 rfl rfl)) c_int) (c_lenS B (by rfl) (c_v 23 rfl rfl))) (c_v 18 rfl rfl))) (w_and1 (t_k (k_ninS c_tx (c_ixH (c_v 19 rfl rfl) (c_v 5 rfl rfl)))))))) ?_ ?_ (by exact h)
    · intro h
      refine s_ret (R := fun (v66 : Bool) => Q v66) c_bl (by exact h) ?_
      intro v66 h
      try dsimp only
      exact ⟨⟨1, rfl⟩, _, rfl, h⟩
    intro h
    refine ws_nil ?_
    exact ws_nil ⟨(), (some (pu x60), some (pu before64), some (pu head65)), rfl, h⟩
  intro z67 j68 h
  try dsimp only
  show Ws _ (⟨[some (pu script1), some (raw (.ref q2)), some (pu told10), some (pu first11), some (pu last12), j68.1, some (pu patterns16), none, none, none, none, some (pu u27.1), some (pu u27.2), some (pu parts32), some (pu room39), some (pu ahead41), some (pu due42), some (pu u52.1), some (pu u52.2), some (pu lines54), none, none, j68.2.1, j68.2.2, none], [(q2, dicec)]⟩ : DSt) _ _
  refine s_asgL (R := fun (rows70 : (List Txt)) => (law_w3 told10 first11 last12 patterns16 u27 parts32 rows70 Q E)) 24 ye.ok rfl (l_lc0 (.n 21) [("one", 21)] (fun (x69 : Txt) => (if (decide ((2 : Int) < (x69.length : Int))) = true then (joinT (tx "-") [(cutD x69 none (some (2 : Int))), (cutD x69 (some (2 : Int)) none)]) else x69)) ye.ok (i_list (c_v 17 rfl rfl)) (show BlkOk law_N d_law.scope _ _ from blk_by (by decide +kernel)) (fun z => (tg_blk ye.ok z 21 rfl)) (fun _ (x69 : Txt) _ _ => (c_ifP (u := (joinT (tx "-") [(cutD x69 none (some (2 : Int))), (cutD x69 (some (2 : Int)) none)])) (w := x69) (t_k (k_gt (c_lenS B (by rfl) (c_v 21 rfl rfl)) c_int)) (c_join c_tx (c_l (c_list (s_cons (c_slS (c_v 21 rfl rfl) o_no (o_at c_int)) (s_cons (c_slS (c_v 21 rfl rfl) (o_at c_int) o_no) (s_nil)))))) (c_v 21 rfl rfl)))) ?_ (by exact h)
  intro rows70 h
  try dsimp only
  show Ws _ (⟨[some (pu script1), some (raw (.ref q2)), some (pu told10), some (pu first11), some (pu last12), j68.1, some (pu patterns16), none, none, none, none, some (pu u27.1), some (pu u27.2), some (pu parts32), some (pu room39), some (pu ahead41), some (pu due42), some (pu u52.1), some (pu u52.2), some (pu lines54), none, none, j68.2.1, j68.2.2, some (pu rows70)], [(q2, dicec)]⟩ : DSt) _ _
  refine s_if (B := Q false) (C := Q true) (t_not (t_v (fun _ => rfl) (c_call (w := law_rest1_W) 1 ye G_law_rest1 (Nat.le_of_ble_eq_true rfl) rfl (a_cons (c_v 2 rfl rfl) (a_cons (c_v 3 rfl rfl) (a_cons (c_v 4 rfl rfl) (a_cons (c_v 6 rfl rfl) (a_cons (c_v 11 rfl rfl) (a_cons (c_v 12 rfl rfl) (a_cons (c_v 13 rfl rfl) (a_cons (c_v 24 rfl rfl) a_nil)))))))) (fun _ => rfl) rfl))) ?_ ?_ (by exact h)
  · intro h
    refine s_ret (R := fun (v72 : Bool) => Q v72) c_bl (by exact h) ?_
    intro v72 h
    try dsimp only
    exact ⟨⟨1, rfl⟩, _, rfl, h⟩
  intro h
  refine ws_nil ?_
  refine ws_nil ?_
  refine s_ret (R := fun (v73 : Bool) => Q v73) c_bl (by exact h) ?_
  intro v73 h
  try dsimp only
  exact ⟨⟨1, rfl⟩, _, rfl, h⟩
end
end K12
set_option maxHeartbeats 0
set_option synthInstance.maxSize 2000
namespace K12
open PySem L2 Sp
theorem law_ok {P : Program} {w : World} {K : Frag} {mg : Str → Option Value} {base : Heap} (B : Bis mg) (L : LK w K mg base fa fn tq) (CM_Hyphens : HN.cmpK K (He.ga K "Hyphens")) (CM_Pattern : HN.cmpK K (He.ga K "Pattern")) {fd : FuncData} (F0 : Fd K d_law ["script"] fd) : FnOk P w K mg base (L2.CX P w) 12 (He.fAd K d_law.at_) fd ["script"] (toSp K (tbOf K tq) 1 (spF K law_W)) := by
  obtain ⟨fd_law_dice, FD_law_dice⟩ := Sp.LK.fd L.d 16 (d := d__law_dice) ["cell"] rfl (fun _ _ _ _ _ _ us hl => match us, hl with | [_], _ => rfl)
  have G_law_dice : Df P w K mg base (tbOf K tq) 1 "_law_dice" ["cell"] dDiceA := LK.df L FD_law_dice (ok_dice B L FD_law_dice) mDiceA 6
  obtain ⟨fd_law_roll, FD_law_roll⟩ := Sp.LK.fd L.d 17 (d := d__law_roll) ["dice", "many"] rfl (fun _ _ _ _ _ _ us hl => match us, hl with | [_, _], _ => rfl)
  have G_law_roll : Df P w K mg base (tbOf K tq) 1 "_law_roll" ["dice", "many"] (spD rollW) := LK.df L FD_law_roll (ok_roll B L FD_law_roll) spD_mono 7
  obtain ⟨fd_law_rounds, FD_law_rounds⟩ := Sp.LK.fd L.d 18 (d := d__law_rounds) ["script", "most"] rfl (fun _ _ _ _ _ _ us hl => match us, hl with | [_, _], _ => rfl)
  have G_law_rounds : Df P w K mg base (tbOf K tq) 2 "_law_rounds" ["script", "most"] dRoundsA := LK.df L FD_law_rounds (ok_rounds B L FD_law_rounds G_law_dice) mRoundsA 8
  obtain ⟨fd_law_told, FD_law_told⟩ := Sp.LK.fd L.d 19 (d := d__law_told) ["what"] rfl (fun _ _ _ _ _ _ us hl => match us, hl with | [_], _ => rfl)
  obtain ⟨fd_check_word, FD_check_word⟩ := Sp.LK.fd L.d 1 (d := d_check_word) ["word"] rfl (fun _ _ _ _ _ _ us hl => match us, hl with | [_], _ => rfl)
  have G_check_word : Df P w K mg base (tbOf K tq) 3 "check_word" ["word"] (spF K check_word_W) := LK.df L FD_check_word (ok_check_word B L FD_check_word ) spF_mono 1
  obtain ⟨fd_Pattern_init, FD_Pattern_init⟩ := Sp.LK.fd L.d 2 (d := d_Pattern_init) ["self", "text"] rfl (fun _ _ _ _ _ _ us hl => match us, hl with | [_, _], _ => rfl)
  have G_Pattern_init : Mkr P w K mg base (tbOf K tq) 1 "Pattern" (He.ga K "Pattern") ["self", "text"] (spI K Pattern_init_W) := LK.mkr L FD_Pattern_init (ok_Pattern_init B L FD_Pattern_init ) spI_mono 48 17
  obtain ⟨fd_Pattern_said, FD_Pattern_said⟩ := Sp.LK.fd L.d 3 (d := d_Pattern_said) ["self"] rfl (fun _ _ _ _ _ _ us hl => match us, hl with | [_], _ => rfl)
  have G_Pattern_said : Mt P w K mg base (tbOf K tq) 1 (He.ga K "Pattern") "said" ["self"] (spF K Pattern_said_W) := LK.mt L FD_Pattern_said (ok_Pattern_said B L FD_Pattern_said ) spF_mono 51
  obtain ⟨fd_Hyphens_init, FD_Hyphens_init⟩ := Sp.LK.fd L.d 5 (d := d_Hyphens_init) ["self", "patterns", "told", "first", "last"] rfl (fun _ _ _ _ _ _ us hl => match us, hl with | [_, _, _, _, _], _ => rfl)
  have G_Hyphens_init : Mkr P w K mg base (tbOf K tq) 4 "Hyphens" (He.ga K "Hyphens") ["self", "patterns", "told", "first", "last"] (spI K Hyphens_init_W) := LK.mkr L FD_Hyphens_init (ok_Hyphens_init B L FD_Hyphens_init G_check_word) spI_mono 54 18
  obtain ⟨fd_Hyphens_init_2, FD_Hyphens_init_2⟩ := Sp.LK.fd L.d 5 (d := d_Hyphens_init) ["self", "patterns", "told", "first", "last"] rfl (fun _ _ _ _ _ _ us hl => match us, hl with | [_, _, _, _, _], _ => rfl)
  have G_Hyphens_init_2 : Mkr P w K mg base (tbOf K tq) 4 "Hyphens" (He.ga K "Hyphens") ["self", "patterns", "told", "first", "last"] (spI K Hyphens_init_2_W) := LK.mkr L FD_Hyphens_init_2 (ok_Hyphens_init_2 B L FD_Hyphens_init_2 G_check_word) spI_mono 54 18
  obtain ⟨fd_Hyphens_levels_in, FD_Hyphens_levels_in⟩ := Sp.LK.fd L.d 6 (d := d_Hyphens_levels_in) ["self", "word"] rfl (fun _ _ _ _ _ _ us hl => match us, hl with | [_, _], _ => rfl)
  have G_Hyphens_levels_in : Mt P w K mg base (tbOf K tq) 4 (He.ga K "Hyphens") "levels_in" ["self", "word"] (spF K Hyphens_levels_in_W) := LK.mt L FD_Hyphens_levels_in (ok_Hyphens_levels_in B L FD_Hyphens_levels_in G_check_word) spF_mono 59
  obtain ⟨fd_Hyphens_parts, FD_Hyphens_parts⟩ := Sp.LK.fd L.d 7 (d := d_Hyphens_parts) ["self", "word"] rfl (fun _ _ _ _ _ _ us hl => match us, hl with | [_, _], _ => rfl)
  have G_Hyphens_parts : Mt P w K mg base (tbOf K tq) 5 (He.ga K "Hyphens") "parts" ["self", "word"] (spF K Hyphens_parts_W) := LK.mt L FD_Hyphens_parts (ok_Hyphens_parts B L FD_Hyphens_parts G_Hyphens_levels_in) spF_mono 60
  obtain ⟨fd_Hyphens_said, FD_Hyphens_said⟩ := Sp.LK.fd L.d 8 (d := d_Hyphens_said) ["self", "word"] rfl (fun _ _ _ _ _ _ us hl => match us, hl with | [_, _], _ => rfl)
  have G_Hyphens_said : Mt P w K mg base (tbOf K tq) 6 (He.ga K "Hyphens") "said" ["self", "word"] (spF K Hyphens_said_W) := LK.mt L FD_Hyphens_said (ok_Hyphens_said B L FD_Hyphens_said G_Hyphens_parts) spF_mono 61
  obtain ⟨fd_Hyphens_splits, FD_Hyphens_splits⟩ := Sp.LK.fd L.d 9 (d := d_Hyphens_splits) ["self", "word", "room"] rfl (fun _ _ _ _ _ _ us hl => match us, hl with | [_, _, _], _ => rfl)
  have G_Hyphens_splits : MtN P w K mg base (tbOf K tq) 6 (He.ga K "Hyphens") "splits" ["self", "word", "room"] (spF K Hyphens_splits_W) := LK.mtN L FD_Hyphens_splits (ok_Hyphens_splits B L FD_Hyphens_splits G_Hyphens_parts) spF_mono 62
  obtain ⟨fd_Hyphens_lines, FD_Hyphens_lines⟩ := Sp.LK.fd L.d 10 (d := d_Hyphens_lines) ["self", "words", "wide"] rfl (fun _ _ _ _ _ _ us hl => match us, hl with | [_, _, _], _ => rfl)
  have G_Hyphens_lines : Mt P w K mg base (tbOf K tq) 7 (He.ga K "Hyphens") "lines" ["self", "words", "wide"] (spF K Hyphens_lines_W) := LK.mt L FD_Hyphens_lines (ok_Hyphens_lines B L FD_Hyphens_lines G_Hyphens_splits) spF_mono 63
  obtain ⟨fd_Hyphens_with_pattern, FD_Hyphens_with_pattern⟩ := Sp.LK.fd L.d 11 (d := d_Hyphens_with_pattern) ["self", "pattern"] rfl (fun _ _ _ _ _ _ us hl => match us, hl with | [_, _], _ => rfl)
  have G_Hyphens_with_pattern : Mt P w K mg base (tbOf K tq) 6 (He.ga K "Hyphens") "with_pattern" ["self", "pattern"] (spF K Hyphens_with_pattern_W) := LK.mt L FD_Hyphens_with_pattern (ok_Hyphens_with_pattern B L FD_Hyphens_with_pattern G_Hyphens_init_2) spF_mono 64
  obtain ⟨fd_look_told, FD_look_told⟩ := Sp.LK.fd L.d 12 (d := d_look_told) ["hyphens", "told"] rfl (fun _ _ _ _ _ _ us hl => match us, hl with | [_, _], _ => rfl)
  have G_look_told : Df P w K mg base (tbOf K tq) 7 "look_told" ["hyphens", "told"] (spF K look_told_W) := LK.df L FD_look_told (ok_look_told B L FD_look_told G_Hyphens_init_2 G_Hyphens_said) spF_mono 2
  obtain ⟨fd_joints, FD_joints⟩ := Sp.LK.fd L.d 14 (d := d_joints) ["parts"] rfl (fun _ _ _ _ _ _ us hl => match us, hl with | [_], _ => rfl)
  have G_joints : Df P w K mg base (tbOf K tq) 1 "joints" ["parts"] (spF K joints_W) := LK.df L FD_joints (ok_joints B L FD_joints ) spF_mono 4
  obtain ⟨fd_marks_right, FD_marks_right⟩ := Sp.LK.fd L.d 13 (d := d_marks_right) ["hyphens", "told"] rfl (fun _ _ _ _ _ _ us hl => match us, hl with | [_, _], _ => rfl)
  have G_marks_right : Df P w K mg base (tbOf K tq) 6 "marks_right" ["hyphens", "told"] (spF K marks_right_W) := LK.df L FD_marks_right (ok_marks_right B L FD_marks_right G_joints G_Hyphens_parts) spF_mono 3
  obtain ⟨fd_by_beats, FD_by_beats⟩ := Sp.LK.fd L.d 15 (d := d_by_beats) ["word"] rfl (fun _ _ _ _ _ _ us hl => match us, hl with | [_], _ => rfl)
  have G_by_beats : Df P w K mg base (tbOf K tq) 1 "by_beats" ["word"] (spF K by_beats_W) := LK.df L FD_by_beats (ok_by_beats B L FD_by_beats ) spF_mono 5
  obtain ⟨fd_law_word, FD_law_word⟩ := Sp.LK.fd L.d 20 (d := d__law_word) ["dice", "letters", "least", "most"] rfl (fun _ _ _ _ _ _ us hl => match us, hl with | [_, _, _, _], _ => rfl)
  have G_law_word : Df P w K mg base (tbOf K tq) 2 "_law_word" ["dice", "letters", "least", "most"] (spD law_word_W) := LK.df L FD_law_word (ok_law_word B L FD_law_word G_law_roll) spD_mono 10
  obtain ⟨fd_law_pattern, FD_law_pattern⟩ := Sp.LK.fd L.d 21 (d := d__law_pattern) ["dice"] rfl (fun _ _ _ _ _ _ us hl => match us, hl with | [_], _ => rfl)
  have G_law_pattern : Df P w K mg base (tbOf K tq) 3 "_law_pattern" ["dice"] (spD law_pattern_W) := LK.df L FD_law_pattern (ok_law_pattern B L FD_law_pattern G_law_word G_law_roll) spD_mono 11
  obtain ⟨fd_law_levels, FD_law_levels⟩ := Sp.LK.fd L.d 22 (d := d__law_levels) ["patterns", "word"] rfl (fun _ _ _ _ _ _ us hl => match us, hl with | [_, _], _ => rfl)
  have G_law_levels : Df P w K mg base (tbOf K tq) 1 "_law_levels" ["patterns", "word"] (spF K law_levels_W) := LK.df L FD_law_levels (ok_law_levels B L FD_law_levels ) spF_mono 12
  obtain ⟨fd_law_parts, FD_law_parts⟩ := Sp.LK.fd L.d 23 (d := d__law_parts) ["patterns", "word", "first", "last"] rfl (fun _ _ _ _ _ _ us hl => match us, hl with | [_, _, _, _], _ => rfl)
  have G_law_parts : Df P w K mg base (tbOf K tq) 2 "_law_parts" ["patterns", "word", "first", "last"] (spF K law_parts_W) := LK.df L FD_law_parts (ok_law_parts B L FD_law_parts G_law_levels) spF_mono 13
  obtain ⟨fd_law_cases1, FD_law_cases1⟩ := Sp.LK.fd L.d 24 (d := d__law_cases1) [] rfl (fun _ _ _ _ _ _ us hl => match us, hl with | [], _ => rfl)
  have G_law_cases1 : Df P w K mg base (tbOf K tq) 10 "_law_cases1" [] (spF K law_cases1_W) := LK.df L FD_law_cases1 (ok_law_cases1 B L FD_law_cases1 FD_law_told CM_Hyphens G_Hyphens_init G_Hyphens_lines) spF_mono 14
  obtain ⟨fd_law_rest1, FD_law_rest1⟩ := Sp.LK.fd L.d 25 (d := d__law_rest1) ["told", "first", "last", "patterns", "hyphens", "word", "parts", "rows"] rfl (fun _ _ _ _ _ _ us hl => match us, hl with | [_, _, _, _, _, _, _, _], _ => rfl)
  have G_law_rest1 : Df P w K mg base (tbOf K tq) 11 "_law_rest1" ["told", "first", "last", "patterns", "hyphens", "word", "parts", "rows"] (spF K law_rest1_W) := LK.df L FD_law_rest1 (ok_law_rest1 B L FD_law_rest1 FD_law_told CM_Pattern G_joints G_Hyphens_parts G_marks_right G_law_parts G_look_told G_by_beats G_Hyphens_with_pattern G_Pattern_init G_law_cases1) spF_mono 15
  exact ok_law B L F0 FD_law_told G_law_rounds G_law_roll G_law_pattern G_Pattern_init G_Pattern_said G_Hyphens_init G_law_word G_Hyphens_levels_in G_law_levels G_law_parts G_Hyphens_parts G_Hyphens_said G_Hyphens_splits G_Hyphens_lines G_law_rest1
end K12
namespace K12
open PySem L2 Sp
theorem bis_of {w : World} {K : Frag} {mg : Str → Option Value} {base : Heap} (L : LK w K mg base fa fn tq) : Bis mg := by
  have g : ∀ i (x : Str), fa[i]? = some (He.Fa.free x) → mg x = none := fun i x h => He.free_ok L.X L.G (L.d.fact i h)
  refine ⟨fun x hx => ?_⟩
  simp only [List.mem_cons, List.not_mem_nil, or_false] at hx
  rcases hx with rfl | rfl | rfl | rfl | rfl | rfl | rfl | rfl | rfl | rfl | rfl | rfl | rfl | rfl | rfl | rfl | rfl | rfl | rfl
  · exact g 27 _ rfl
  · exact g 28 _ rfl
  · exact g 29 _ rfl
  · exact g 30 _ rfl
  · exact g 31 _ rfl
  · exact g 32 _ rfl
  · exact g 33 _ rfl
  · exact g 34 _ rfl
  · exact g 35 _ rfl
  · exact g 36 _ rfl
  · exact g 37 _ rfl
  · exact g 38 _ rfl
  · exact g 39 _ rfl
  · exact g 40 _ rfl
  · exact g 41 _ rfl
  · exact g 42 _ rfl
  · exact g 43 _ rfl
  · exact g 44 _ rfl
  · exact g 45 _ rfl
theorem cm_of {K : Frag} (h : ndTab K = true) (c : Str) (hc : c ∈ cmc) : HN.cmpK K (He.ga K c) := by
  unfold ndTab at h
  rw [Bool.and_eq_true, Bool.and_eq_true, Bool.and_eq_true] at h
  exact HN.cmpB_ok (List.all_eq_true.mp h.1.1.2 c hc)
theorem nd_of {K : Frag} (h : ndTab K = true) : (tq.map fun p => (He.cT K p.1).2).Nodup := by
  unfold ndTab at h
  rw [Bool.and_eq_true, Bool.and_eq_true, Bool.and_eq_true] at h
  exact of_decide_eq_true h.1.1.1
end K12
open PySem PySem.W PySem.Calls PyProof.Rows in
theorem K12.holds_of (plain : ∀ ns : List Int, ns.length ≤ 63 → (∀ z ∈ ns, Builtin.Int.intBits z ≤ 1048576) → K12.law_W (ns, ()) (fun b => b = true) Sp.NoE) : PySem.Challenge.rw_spellhall_k12_hyphens.Holds := by
  w_on; o_law
  refine HandSHeadRun.head_any (r := K12.R) (q := view K12.R.prog [31]) (H := K12.hk) (ob := K12.ob) (M := 4000) (loose := K12.names) (d := HandSHeadRun.topDef K12.R.prog 31) (kwd := []) K12.ob_eq
    (by kernel_rfl) (fun s => by kernel_rfl) K12.run (by kernel_rfl) (by kernel_rfl) (by kernel_rfl) (by rfl) (by first | assumption | decide +kernel) (by decide +kernel) ⟨rfl, rfl, rfl, rfl, rfl, by decide +kernel⟩ ?hw ?hc
  case hw => w_witness2
  case hc =>
    refine LamX.walk_ofTsE (l := PySem.Challenge.rw_spellhall_k12_hyphens) (n := 63) (k := 12) (x := "script") (CX := fun w => L2.CX PySem.Challenge.rw_spellhall_k12_hyphens.prog w) rfl (by decide) (by kernel_rfl) ⟨rfl, by decide, by decide⟩ ?F (fun w H s e s' z => by
      obtain ⟨_, _, _, _, _, _, _, _, _, _, _, _, z⟩ := z
      exact z)
    intro w mg fA h Y G hmg0
    obtain ⟨K, KX, c⟩ := Y
    refine ⟨K, KX, ?_⟩
    have hmg : mg ("law" : PySem.Str) = some (.ref fA) := by
      have e : (HandSHeadRun.topDef K12.R.prog 31).name = ("law" : PySem.Str) := by kernel_rfl
      rw [← e]
      exact hmg0
    have hg := He.glo_ok KX G (c.t.d.fact 16 (f := .glo "law") rfl)
    have ef : He.fAd K K12.d_law.at_ = fA := by
      rw [hmg] at hg
      cases hg
      rfl
    have hb : ∀ (kV doc pm : Value) (an : Option Addr) (cdv ct : Value) (us : List Value), us.length = [("script" : PySem.Str)].length → bindArgs (PySem.W.fnOf K12.d_law.name K12.d_law.qual K12.d_law.params K12.d_law.body K12.d_law.scope .none kV doc pm an cdv ct) ⟨us, []⟩ = pure ([("script" : PySem.Str)].zip us) :=
      fun _ _ _ _ _ _ us hl => match us, hl with | [_], _ => rfl
    obtain ⟨fd, F1⟩ := Sp.LK.fd c.t.d 26 (d := K12.d_law) ["script"] rfl hb
    exact Sp.law_end (tq := K12.tq) KX c (K12.nd_of c.more) F1 ef hb Sp.spF_mono (fun ns hl hz => ⟨(ns, ()), rfl, rfl, (fun b => b = true), Sp.NoE, plain ns hl hz, fun b hb => by subst hb; rfl, fun e he => he.elim⟩) fun base L => K12.law_ok (K12.bis_of L) L (K12.cm_of c.more "Hyphens" (by decide)) (K12.cm_of c.more "Pattern" (by decide)) F1
set_option maxHeartbeats 400000
namespace K12
open PySem L2 Sp
open PySem.W (DatumOrd)
abbrev Pt := PySem.W.T3 Txt Txt (List Int)
def fs (f : Int) : Txt := if decide ((0 : Int) < f) = true then strI f else tx ""
def ptx : Txt → List Int → Txt
  | [], f :: _ => fs f
  | c :: l, f :: F => fs f ++ c :: ptx l F
  | _, [] => []
abbrev DG : Txt := tx "0123456789"
abbrev AZ : Txt := tx "abcdefghijklmnopqrstuvwxyz"
theorem fs_all : ∀ k : Fin 4, fs (k.val : Int) = (if k.val = 0 then [] else [48 + k.val]) ∧ (k.val : Int).natAbs.log2 < 1920 := by decide +kernel
theorem fs_is {f : Int} (h0 : 0 ≤ f) (h3 : f ≤ 3) : (f = 0 ∧ fs f = []) ∨ ∃ k : Nat, 1 ≤ k ∧ k ≤ 3 ∧ f = k ∧ fs f = [48 + k] := by
  have := (fs_all ⟨f.toNat, by omega⟩).1
  have e : ((f.toNat : Nat) : Int) = f := by omega
  rw [e] at this
  by_cases h : f = 0
  · subst h; exact .inl ⟨rfl, this⟩
  · rw [if_neg (by show ¬ f.toNat = 0; omega)] at this
    exact .inr ⟨f.toNat, by omega, by omega, by omega, this⟩
theorem fs_log {f : Int} (h0 : 0 ≤ f) (h3 : f ≤ 3) : f.natAbs.log2 < 1920 := by
  have := (fs_all ⟨f.toNat, by omega⟩).2
  have e : ((f.toNat : Nat) : Int) = f := by omega
  rw [e] at this; exact this
theorem fs_len {f : Int} (h0 : 0 ≤ f) (h3 : f ≤ 3) : (fs f).length ≤ 1 := by
  rcases fs_is h0 h3 with ⟨_, e⟩ | ⟨k, _, _, _, e⟩ <;> rw [e] <;> simp
def pst (c : Nat) (z : Txt × List Int) : Option (Txt × List Int) := if tin [c] DG = true then (if decide (ixD z.2 (-(1 : Int)) ≠ (0 : Int)) = true then none else some (z.1, z.2.set (plc z.2.length (-(1 : Int))) (intT [c]))) else if tin [c] (AZ ++ (tx ".")) = true then some (z.1 ++ [c], z.2 ++ [(0 : Int)]) else none
def prs : Txt → Txt × List Int → Option (Txt × List Int)
  | [], z => some z
  | c :: t, z => (pst c z).bind (prs t)
theorem prs_app : ∀ (a b : Txt) (z : Txt × List Int), prs (a ++ b) z = (prs a z).bind (prs b)
  | [], b, z => rfl
  | c :: a, b, z => by
    show (pst c z).bind (prs (a ++ b)) = ((pst c z).bind (prs a)).bind (prs b)
    cases pst c z with
    | none => rfl
    | some y => exact prs_app a b y
theorem dig_ok : ∀ k ∈ [1, 2, 3], tin [48 + k] DG = true ∧ intT [48 + k] = (k : Int) := by decide +kernel
theorem dig_all : ∀ c ∈ DG, (PySem.intText? (toStr [c])).isSome = true := by decide +kernel
theorem let_ok : ∀ c ∈ ([46, 97, 98, 99] : Txt), tin [c] DG = false ∧ tin [c] (AZ ++ (tx ".")) = true := by decide +kernel
theorem last_is (l : List Int) (x : Int) : inR (l ++ [x]).length (-(1 : Int)) ∧ plc (l ++ [x]).length (-(1 : Int)) = l.length ∧ ixD (l ++ [x]) (-(1 : Int)) = x := by
  have hl : (l ++ [x]).length = l.length + 1 := by simp
  have e : plc (l ++ [x]).length (-(1 : Int)) = l.length := by
    unfold plc
    rw [if_neg (by decide), hl]
    omega
  refine ⟨by unfold inR; omega, e, ?_⟩
  unfold ixD
  rw [e, List.getD_eq_getElem?_getD, List.getElem?_append_right (Nat.le_refl _)]
  simp
theorem prs_ptx : ∀ (L : Txt) (f : Int) (F : List Int) (L0 : Txt) (F0 : List Int), F.length = L.length → (∀ c ∈ L, c ∈ ([46, 97, 98, 99] : Txt)) → (∀ g ∈ f :: F, 0 ≤ g ∧ g ≤ 3) → prs (ptx L (f :: F)) (L0, F0 ++ [0]) = some (L0 ++ L, F0 ++ f :: F) := by
  have one : ∀ (f : Int) (L0 : Txt) (F0 : List Int), 0 ≤ f → f ≤ 3 → prs (fs f) (L0, F0 ++ [0]) = some (L0, F0 ++ [f]) := fun f L0 F0 h0 h3 => by
    rcases fs_is h0 h3 with ⟨e1, e2⟩ | ⟨k, k1, k3, e1, e2⟩
    · rw [e2, e1]; rfl
    · rw [e2]
      have hk : k ∈ [1, 2, 3] := by have : k = 1 ∨ k = 2 ∨ k = 3 := by omega
                                    rcases this with rfl | rfl | rfl <;> decide
      obtain ⟨d1, d2⟩ := dig_ok k hk
      obtain ⟨_, l2, l3⟩ := last_is F0 0
      show (pst (48 + k) (L0, F0 ++ [0])).bind (prs []) = _
      unfold pst
      rw [if_pos d1, l3, if_neg (by decide), l2, d2, ← e1]
      show some (L0, (F0 ++ [0]).set F0.length f) = _
      rw [List.set_append_right _ _ (Nat.le_refl _), Nat.sub_self]
      rfl
  intro L
  induction L with
  | nil =>
    intro f F L0 F0 hl hc hg
    have : F = [] := List.eq_nil_of_length_eq_zero hl
    subst this
    rw [List.append_nil]
    exact one f L0 F0 (hg f (by simp)).1 (hg f (by simp)).2
  | cons c L ih =>
    intro f F L0 F0 hl hc hg
    match F, hl with
    | g :: F, hl =>
      obtain ⟨c1, c2⟩ := let_ok c (hc c (by simp))
      show prs (fs f ++ c :: ptx L (g :: F)) _ = _
      rw [prs_app, one f L0 F0 (hg f (by simp)).1 (hg f (by simp)).2]
      show (pst c (L0, F0 ++ [f])).bind (prs (ptx L (g :: F))) = _
      unfold pst
      rw [c1, if_neg (by decide), if_pos c2]
      show prs (ptx L (g :: F)) (L0 ++ [c], (F0 ++ [f]) ++ [0]) = _
      rw [ih g F (L0 ++ [c]) (F0 ++ [f]) (by simpa using hl) (fun d hd => hc d (by simp [hd])) (fun x hx => hg x (List.mem_cons_of_mem _ hx))]
      simp
theorem pat_init {t : Txt} (ht : t.length ≤ 1000) {Q : PatternV → Prop} {E : Ex → Prop} (q : ∀ z, prs t ([], [0]) = some z → Pattern_init_w9 z.1 z.2 Q E) (e : prs t ([], [0]) = none → E .BadRule) : Pattern_init_W (t, ()) Q E := by
  refine forT (w := t) (fun l z => prs l ([], [0]) = some z ∧ z.2 ≠ [] ∧ z.1.length ≤ l.length ∧ z.2.length ≤ l.length + 1) ⟨rfl, by simp, by show (tx "").length ≤ _; decide, by simp⟩ (fun l c r z ew hz k hk => ?_) fun z hz => q z hz.1
  obtain ⟨L, F⟩ := z
  obtain ⟨h1, h2, h3, h4⟩ := hz
  have h2 : F ≠ [] := h2
  have h3 : L.length ≤ l.length := h3
  have h4 : F.length ≤ l.length + 1 := h4
  have hl := congrArg List.length ew
  rw [List.length_append, List.length_cons] at hl
  have e1 : prs (l ++ [c]) ([], [0]) = pst c (L, F) := by
    rw [prs_app, h1]
    show (pst c (L, F)).bind (prs []) = _
    cases pst c (L, F) <;> rfl
  have bad : pst c (L, F) = none → E .BadRule := fun hb => e (by
    rw [ew, show l ++ c :: r = (l ++ [c]) ++ r by simp, prs_app, e1, hb]; rfl)
  obtain ⟨G, x, rfl⟩ : ∃ G x, F = G ++ [x] := by
    rcases List.eq_nil_or_concat F with z | ⟨G, x, z⟩
    · exact absurd z h2
    · exact ⟨G, x, by rw [z, List.concat_eq_append]⟩
  obtain ⟨l1, l2, l3⟩ := last_is G x
  refine ifJ.mk (fun hd => ⟨l1, fun hx => bad ?_, fun hx => ⟨⟨?_, by simp⟩, l1, ?_⟩⟩) fun hd => ⟨by decide, ifJ.mk (fun hc => ⟨sl (by show L.length + 1 ≤ _; omega), sl2 (by show (G ++ [x]).length < _; omega), ?_⟩) fun hc => bad ?_⟩
  · unfold pst; rw [if_pos hd]; exact if_pos hx
  · rw [tin_one, decide_eq_true_iff] at hd
    exact dig_all c hd
  · have e2 : pst c (L, G ++ [x]) = some (L, (G ++ [x]).set (plc (G ++ [x]).length (-(1 : Int))) (intT [c])) := by
      unfold pst; rw [if_pos hd]; exact if_neg (by rw [show decide (ixD (G ++ [x]) (-(1 : Int)) ≠ (0 : Int)) = false from hx]; decide)
    refine hk _ ⟨e1.trans e2, ?_, ?_, ?_⟩
    · intro z
      have := congrArg List.length z
      simp at this
    · show L.length ≤ _; rw [List.length_append]; omega
    · show ((G ++ [x]).set _ _).length ≤ _; rw [List.length_set, List.length_append]; simp only [List.length_append, List.length_cons, List.length_nil] at h4 ⊢; omega
  · have e2 : pst c (L, G ++ [x]) = some (L ++ [c], (G ++ [x]) ++ [(0 : Int)]) := by
      unfold pst; rw [if_neg (by rw [show tin [c] DG = false from hd]; decide)]; exact if_pos hc
    refine hk _ ⟨e1.trans e2, by simp, ?_, ?_⟩
    · show (L ++ [c]).length ≤ _; rw [List.length_append, List.length_append]; omega
    · show ((G ++ [x]) ++ [(0 : Int)]).length ≤ _; simp only [List.length_append, List.length_cons, List.length_nil] at h4 ⊢; omega
  · unfold pst; rw [if_neg (by rw [show tin [c] DG = false from hd]; decide)]; exact if_neg (by rw [show tin [c] (AZ ++ tx ".") = false from hc]; decide)
structure PO (p : Pt) : Prop where
  a : p.a = ptx p.b p.c
  len : p.c.length = p.b.length + 1
  fig : ∀ f ∈ p.c, 0 ≤ f ∧ f ≤ 3
  lt : ∀ c ∈ p.b, c ∈ ([46, 97, 98, 99] : Txt)
  in_ : ∀ c ∈ p.b.drop 1, c ∈ ([97, 98, 99] : Txt)
  lo : 1 ≤ p.b.length
  hi : p.b.length ≤ 4
theorem ptx_len : ∀ (L : Txt) (F : List Int), (∀ f ∈ F, 0 ≤ f ∧ f ≤ 3) → (ptx L F).length ≤ 2 * L.length + 1
  | [], [], _ => by simp [ptx]
  | [], f :: F, h => by
    have := fs_len (h f (by simp)).1 (h f (by simp)).2
    show (fs f).length ≤ _
    simpa using this
  | c :: L, [], _ => by simp [ptx]
  | c :: L, f :: F, h => by
    have := fs_len (h f (by simp)).1 (h f (by simp)).2
    have ih := ptx_len L F fun g hg => h g (by simp [hg])
    show (fs f ++ c :: ptx L F).length ≤ _
    rw [List.length_append, List.length_cons, List.length_cons]
    omega
abbrev PV (p : Pt) : PatternV := ⟨p.b, ⟨p.c⟩⟩
theorem pattern_ok {p : Pt} (h : PO p) {Q : PatternV → Prop} {E : Ex → Prop} (q : Q (PV p)) : Pattern_init_W (p.a, ()) Q E := by
  have hlen := ptx_len p.b p.c h.fig
  have hl := h.len; have h4 := h.hi; have h1 := h.lo
  obtain ⟨f, F, ef⟩ : ∃ f F, p.c = f :: F := by
    cases e : p.c with
    | nil => rw [e] at hl; cases hl
    | cons f F => exact ⟨f, F, rfl⟩
  have e := prs_ptx p.b f F [] [] (by rw [ef] at hl; simpa using hl) h.lt (by rw [← ef]; exact h.fig)
  rw [← ef, ← h.a, List.nil_append, List.nil_append] at e
  have e : prs p.a ([], [0]) = some (p.b, p.c) := e
  refine pat_init (by rw [h.a]; omega) (fun z hz => ?_) fun hz => by rw [e] at hz; cases hz
  rw [e] at hz
  injection hz with hz
  subst hz
  have n1 : decide (p.b = tx "") = false := decide_eq_false fun z => by rw [z, tx0] at h1; simp at h1
  have n2 : tin (tx ".") (cutD p.b (some (1 : Int)) (some (-(1 : Int)))) = false := by
    rw [show (tx "." : Txt) = [46] by decide +kernel, tin_one]
    refine decide_eq_false fun hm => ?_
    have : (46 : Nat) ∈ p.b.drop 1 := by
      unfold cutD at hm
      have hm := List.mem_of_mem_take hm
      rw [show (1 : Int) = ((1 : Nat) : Int) from rfl, HT.sIx_nat, Nat.min_eq_left h1] at hm
      exact hm
    have := h.in_ 46 this
    revert this; decide
  refine ⟨fun _ => ⟨sl (by show p.b.length ≤ _; omega), rfl⟩, no_ ?_ q⟩
  show (decide (p.b = tx "") || tin (tx ".") (cutD p.b (some (1 : Int)) (some (-(1 : Int))))) = false
  rw [n1, n2]; rfl
end K12
set_option maxHeartbeats 400000
namespace K12
open PySem L2 Sp
open PySem.W (DatumOrd)
def lx (L : Txt) (i : Int) : Txt := if decide (i < (L.length : Int)) = true then ixS L i else tx ""
theorem ptx_step {L : Txt} {F : List Int} (hl : F.length = L.length + 1) {i : Nat} (hi : i < F.length) : ptx (L.drop i) (F.drop i) = (fs (ixD F (i : Int)) ++ lx L (i : Int)) ++ ptx (L.drop (i + 1)) (F.drop (i + 1)) := by
  rw [ixD_nat hi]
  rw [List.drop_eq_getElem_cons hi]
  unfold lx
  by_cases h : i < L.length
  · rw [if_pos (decide_eq_true (by omega)), ixS_nat h, List.drop_eq_getElem_cons h]
    show fs F[i] ++ L[i] :: ptx (L.drop (i + 1)) (F.drop (i + 1)) = _
    simp
  · have e1 : L.drop i = [] := List.drop_eq_nil_of_le (by omega)
    have e2 : L.drop (i + 1) = [] := List.drop_eq_nil_of_le (by omega)
    have e3 : F.drop (i + 1) = [] := List.drop_eq_nil_of_le (by omega)
    rw [if_neg (by rw [decide_eq_true_iff]; omega), e1, e2, e3, tx0]
    show fs F[i] = _
    simp [ptx]
theorem said_ok {p : Pt} (h : PO p) {Q : Txt → Prop} {E : Ex → Prop} (q : Q p.a) : Pattern_said_W (PV p, ()) Q E := by
  have hlen := ptx_len p.b p.c h.fig
  have hl := h.len; have h4 := h.hi
  have sb : p.b.length ≤ sizeLine := sl (by omega)
  refine forEn (xs := p.c) (fun l z => z ++ ptx (p.b.drop l.length) (p.c.drop l.length) = p.a) (by show tx "" ++ ptx p.b p.c = _; rw [tx0, h.a]; rfl) (fun l x r z e hz k hk => ?_) fun z hz => ?_
  · have hi : l.length < p.c.length := by rw [e, List.length_append, List.length_cons]; omega
    have ex : ixD p.c (l.length : Int) = x := by
      rw [ixD_nat hi]
      simp [e]
    obtain ⟨f0, f3⟩ := h.fig x (by rw [e]; simp)
    have st := ptx_step hl hi
    rw [ex] at st
    have hz2 := congrArg List.length hz
    rw [List.length_append] at hz2
    have ha := congrArg List.length h.a
    have lf := fs_len f0 f3
    have lxl : (lx p.b (l.length : Int)).length ≤ 1 := by
      unfold lx
      split
      · rename_i hh
        have hh := of_decide_eq_true hh
        obtain ⟨c, _, ec⟩ := ixS_mem (x := p.b) (i := (l.length : Int)) (by omega) hh
        rw [ec]; exact Nat.le_refl _
      · rw [tx0]; exact Nat.zero_le _
    refine ⟨fun _ => ⟨fs_log f0 f3, rfl⟩, fun _ => rfl, sb, fun hh => ⟨sb, ?_, rfl⟩, fun _ => rfl, sl (by show (fs x).length + (lx p.b (l.length : Int)).length ≤ _; omega), sl (by show z.length + (fs x ++ lx p.b (l.length : Int)).length ≤ _; rw [List.length_append]; omega), hk _ ?_⟩
    · have hh := of_decide_eq_true hh
      have hh : (l.length : Int) < (p.b.length : Int) := hh
      show inR p.b.length (l.length : Int)
      unfold inR; omega
    · show (z ++ (fs x ++ lx p.b (l.length : Int))) ++ ptx (p.b.drop (l ++ [x]).length) (p.c.drop (l ++ [x]).length) = _
      rw [← hz, st, List.length_append]
      simp
  · rw [List.drop_length] at hz
    have : z = p.a := by
      rw [← hz]
      cases p.b.drop p.c.length <;> simp [ptx]
    show Q z
    rw [this]; exact q
def Mx (l : List Int) : Int := l.foldl max 0
theorem maxOf_is : ∀ (r : List Int) (x : Int), PySem.W.maxOf x r = r.foldl max x
  | [], x => rfl
  | y :: r, x => by
    show PySem.W.maxOf (if DatumOrd.lt x y = true then y else x) r = r.foldl max (max x y)
    rw [maxOf_is r]
    congr 1
    show (if decide (x < y) = true then y else x) = max x y
    by_cases h : x < y
    · rw [decide_eq_true h, if_pos rfl]; omega
    · rw [decide_eq_false h, if_neg (by decide)]; omega
theorem Mx_max (l : List Int) : maxL ((0 : Int) :: l) = Mx l := maxOf_is l 0
theorem Mx_snoc (l : List Int) (f : Int) : Mx (l ++ [f]) = max (Mx l) f := by unfold Mx; rw [List.foldl_append]; rfl
theorem set_rng {N p0 : Nat} {g : Int → Int} (h : p0 < N) (v : Int) : ((rng N).map g).set p0 v = (rng N).map fun p => if p = (p0 : Int) then v else g p := by
  apply List.ext_getElem
  · simp
  · intro i h1 h2
    have h3 : i < N := by simpa [rng] using h2
    rw [List.getElem_set]
    simp only [rng, List.getElem_map, List.getElem_range]
    by_cases e : p0 = i
    · subst e; simp
    · rw [if_neg e, if_neg (by omega)]
theorem at_rng {N p0 : Nat} {g : Int → Int} (h : p0 < N) : ixD ((rng N).map g) (p0 : Int) = g (p0 : Int) := by
  rw [ixD_nat (by simpa [rng] using h)]
  simp [rng]
def mt (W : Txt) (x : Pt) (p k : Int) : Bool := decide (cutD W (some k) (some (k + (x.b.length : Int))) = x.b) && (decide ((0 : Int) ≤ p - k) && decide (p - k ≤ (x.b.length : Int)))
def pl (W : Txt) (x : Pt) : Nat := ((((W.length : Int) - (x.b.length : Int)) + (1 : Int))).toNat
def one (W : Txt) (x : Pt) (p : Int) : List Int := ((rng (pl W x)).filter (mt W x p)).map fun k => ixD x.c (p - k)
def CA (W : Txt) (ps : List Pt) (p : Int) : List Int := ps.flatMap fun x => one W x p
def wh (w : Txt) : Txt := ((tx ".") ++ w) ++ (tx ".")
theorem dot1 : (tx "." : Txt) = [46] := by decide +kernel
theorem wh_len (w : Txt) : (wh w).length = w.length + 2 := by unfold wh; rw [dot1]; simp
theorem flat_lenP {α β : Type} (g : β → List α) (m : Nat) : ∀ (l : List β), (∀ x ∈ l, (g x).length ≤ m) → (l.flatMap g).length ≤ l.length * m
  | [], _ => by simp
  | x :: l, h => by
    rw [List.flatMap_cons, List.length_append, List.length_cons, Nat.succ_mul]
    have := flat_lenP g m l fun y hy => h y (List.mem_cons_of_mem _ hy)
    have := h x List.mem_cons_self
    omega
def LV (ps : List Pt) (w : Txt) : List Int := (rng (w.length + 1)).map fun i => Mx (CA (wh w) ps (i + 1))
theorem law_levels_ok {ps : List Pt} (hp : ∀ x ∈ ps, PO x) (hn : ps.length ≤ 100) {w : Txt} (hw : w.length ≤ 100) {Q : List Int → Prop} {E : Ex → Prop} (q : Q (LV ps w)) : law_levels_W (ps, w, ()) Q E := by
  have hW := wh_len w
  refine ⟨sl (by rw [dot1]; show 1 + w.length ≤ _; omega), sl (by rw [dot1]; show ([46] ++ w).length + 1 ≤ _; simp; omega), ?_⟩
  show law_levels_w6 ps (wh w) [] Q
  refine ⟨sl (by omega), ⟨by decide, by decide, by omega, by omega⟩, ?_⟩
  have er : (List.range (((wh w).length : Int) - (1 : Int)).toNat).map (fun i : Nat => (1 : Int) + (i : Int)) = (rng (w.length + 1)).map fun i => i + 1 := by
    rw [show (((wh w).length : Int) - (1 : Int)).toNat = w.length + 1 by omega]
    simp only [rng, List.map_map]
    refine List.map_congr_left fun i _ => ?_
    show (1 : Int) + (i : Int) = (i : Int) + 1
    omega
  rw [er]
  refine forLM (fun l z => z = l.map fun i => Mx (CA (wh w) ps (i + 1))) rfl (fun l i r z e hz k hk => ?_) fun z hz => by subst hz; exact q
  subst hz
  have hi : i ∈ rng (w.length + 1) := by rw [e]; simp
  obtain ⟨i0, i1⟩ := rng_mem.mp hi
  have hll : l.length ≤ 101 := by
    have := congrArg List.length e
    rw [rng_len, List.length_append] at this; omega
  have cl : ∀ a b : List Pt, ps = a ++ b → (CA (wh w) a (i + 1)).length ≤ a.length * 200 := fun a b _ => flat_lenP (fun x => one (wh w) x (i + 1)) 200 a fun x _ => by
    unfold one
    rw [List.length_map]
    refine Nat.le_trans (List.length_filter_le _ _) ?_
    rw [rng_len]
    unfold pl
    omega
  refine forL (fun a z => z = (0 : Int) :: CA (wh w) a (i + 1)) rfl (fun a x b z e2 hz k2 hk2 => ?_) fun z hz => ?_
  · subst hz
    have e2 : ps = a ++ x :: b := e2
    have hx := hp x (by rw [e2]; simp)
    have h4 := hx.hi; have hc := hx.len
    have sb : x.b.length ≤ sizeLine := sl (by omega)
    have sW : (wh w).length ≤ sizeLine := sl (by omega)
    have ca := cl a (x :: b) e2
    have hal : a.length ≤ 100 := by rw [e2, List.length_append] at hn; omega
    have er2 : (List.range ((((wh w).length : Int) - (x.b.length : Int)) + (1 : Int)).toNat).map (fun i : Nat => (i : Int)) = rng (pl (wh w) x) := rfl
    have pl2 : pl (wh w) x ≤ 200 := by unfold pl; omega
    unfold law_levels_w1
    rw [er2]
    refine ⟨sW, sb, ⟨by omega, by omega⟩, sl (by rw [rng_len]; omega), fun j hj => ⟨sb, sW, fun _ => ⟨fun _ => ⟨sb, rfl⟩, rfl⟩, rfl⟩, fun j hj hm => ⟨?_, rfl⟩, sl ?_, hk2 _ ?_⟩
    · rw [Bool.and_eq_true, Bool.and_eq_true, decide_eq_true_iff, decide_eq_true_iff, decide_eq_true_iff] at hm
      unfold inR; omega
    · have := List.length_filter_le (mt (wh w) x (i + 1)) (rng (pl (wh w) x))
      rw [rng_len] at this
      show ((0 : Int) :: CA (wh w) a (i + 1)).length + (one (wh w) x (i + 1)).length ≤ _
      unfold one
      rw [List.length_map, List.length_cons]
      omega
    · show (0 : Int) :: CA (wh w) a (i + 1) ++ one (wh w) x (i + 1) = (0 : Int) :: CA (wh w) (a ++ [x]) (i + 1)
      unfold CA
      rw [List.flatMap_append, List.flatMap_cons, List.flatMap_nil, List.append_nil]
      rfl
  · subst hz
    refine ⟨by simp, sl2 (by rw [List.length_map]; omega), hk _ ?_⟩
    rw [List.map_append]
    show _ ++ [maxL ((0 : Int) :: CA (wh w) ps (i + 1))] = _
    rw [Mx_max]; rfl
end K12
set_option maxHeartbeats 400000
namespace K12
open PySem L2 Sp
open PySem.W (DatumOrd)
abbrev ABC : Txt := [97, 98, 99]
theorem abc_is : (tx "abc" : Txt) = ABC := by decide +kernel
structure Wd (w : Txt) : Prop where
  lo : 1 ≤ w.length
  hi : w.length ≤ 24
  abc : ∀ c ∈ w, c ∈ AZ
theorem az_abc {c : Nat} (h : c ∈ AZ) : tin [c] AZ = true := by rw [tin_one, decide_eq_true h]
theorem abc_az : ∀ c ∈ ABC, c ∈ AZ := by decide +kernel
theorem az_no : (45 : Nat) ∉ AZ ∧ (32 : Nat) ∉ AZ := by decide +kernel
theorem check_ok {w : Txt} (h : Wd w) {Q : Unit → Prop} {E : Ex → Prop} (q : Q ()) : check_word_W (w, ()) Q E := by
  have h1 := h.lo; have h2 := h.hi
  refine ⟨sl (by show w.length ≤ _; omega), fun _ => rfl, fun _ => ⟨rfl, fun _ _ => rfl, rfl⟩, no_ ?_ q⟩
  show ((!(decide ((1 : Int) ≤ (w.length : Int)) && decide ((w.length : Int) ≤ (24 : Int)))) || (w.map fun c => [c]).any (fun (x2 : Txt) => (!tin x2 AZ))) = false
  rw [decide_eq_true (show (1 : Int) ≤ (w.length : Int) by omega), decide_eq_true (show (w.length : Int) ≤ 24 by omega)]
  show (w.map fun c => [c]).any (fun (x2 : Txt) => (!tin x2 AZ)) = false
  rw [List.any_eq_false]
  intro x hx
  obtain ⟨c, hc, rfl⟩ := List.mem_map.mp hx
  rw [az_abc (h.abc c hc)]; decide
theorem word_abc {lo hi : Int} {Q : Txt → Prop} (h0 : 0 ≤ lo) (h1 : lo ≤ hi) (h2 : hi ≤ 1000) (q : ∀ y : Txt, (∀ c ∈ y, c ∈ ABC) → lo ≤ y.length → (y.length : Int) ≤ hi → Q y) : ClD (law_word_W ((tx "abc"), lo, hi, ())) Q :=
  ClD.here (word_raw (ls := tx "abc") h0 h1 h2 (by decide) (by decide) fun y hy => q y fun c hc => by rw [← abc_is]; exact hy c hc)
theorem w4_ok {L : Txt} (h1 : 1 ≤ L.length) (h4 : L.length ≤ 4) (lt : ∀ c ∈ L, c ∈ ([46, 97, 98, 99] : Txt)) (in_ : ∀ c ∈ L.drop 1, c ∈ ([97, 98, 99] : Txt)) {Q : Pt → Prop} (q : ∀ p, PO p → Q p) : law_pattern_w4 (tx "") L Q := by
  have sL : L.length ≤ sizeLine := sl (by omega)
  refine ⟨sL, ⟨by omega, by omega⟩, ?_, fun _ f => 0 ≤ f ∧ f ≤ 3, fun x _ => ClD.roll (by decide) (by decide) fun r r0 r1 => ⟨r0, by omega⟩, fun F hF => ?_⟩
  · rw [List.length_map, List.length_range]; exact sl (by omega)
  · have hl := hF.length
    rw [List.length_map, List.length_range] at hl
    have hl : F.length = L.length + 1 := by omega
    have ha := hF.all (R := fun f => 0 ≤ f ∧ f ≤ 3) fun x _ y h => h
    have pl := ptx_len L F ha
    show law_pattern_w3 (tx "") L F Q
    refine ⟨sL, ⟨by omega, by omega⟩, ?_⟩
    rw [tn]
    refine forR (f := fun i : Nat => (i : Int)) (fun k z => z ++ ptx (L.drop k) (F.drop k) = ptx L F) (by show tx "" ++ ptx L F = _; rw [tx0]; rfl) (fun i z hi hz k hk => ?_) fun z hz => ?_
    · have hiF : i < F.length := by omega
      have st := ptx_step hl hiF
      have lxe : lx L (i : Int) = ixS L (i : Int) := by unfold lx; rw [if_pos (decide_eq_true (by omega))]
      obtain ⟨f0, f3⟩ := ha _ (ixD_mem (x := F) (i := (i : Int)) (by omega) (by omega))
      have hz2 := congrArg List.length hz
      rw [List.length_append] at hz2
      have lf := fs_len f0 f3
      have l1 : (ixS L (i : Int)).length = 1 := by rw [ixS_nat hi]; rfl
      have iF : inR F.length (i : Int) := by unfold inR; omega
      have iL : inR L.length (i : Int) := by unfold inR; omega
      refine ⟨iF, fun _ => ⟨iF, fs_log f0 f3, rfl⟩, fun _ => rfl, sl (by show z.length + (fs (ixD F (i : Int))).length ≤ _; omega), sL, iL, sl (by show (z ++ fs (ixD F (i : Int))).length + (ixS L (i : Int)).length ≤ _; rw [List.length_append]; omega), hk _ ?_⟩
      show ((z ++ fs (ixD F (i : Int))) ++ ixS L (i : Int)) ++ ptx (L.drop (i + 1)) (F.drop (i + 1)) = _
      rw [← hz, st, lxe]
      simp
    · have hiF : L.length < F.length := by omega
      have st := ptx_step hl hiF
      obtain ⟨f0, f3⟩ := ha _ (ixD_mem (x := F) (i := (L.length : Int)) (by omega) (by omega))
      have lxe : lx L (L.length : Int) = [] := by unfold lx; rw [if_neg (by rw [decide_eq_true_iff]; omega), tx0]
      have hz2 := congrArg List.length hz
      rw [List.length_append] at hz2
      rw [st, lxe, List.drop_eq_nil_of_le (show L.length ≤ L.length + 1 by omega), List.drop_eq_nil_of_le (show F.length ≤ L.length + 1 by omega), List.append_nil] at hz
      have hz : z ++ (fs (ixD F (L.length : Int)) ++ []) = ptx L F := hz
      rw [List.append_nil] at hz
      have lf := fs_len f0 f3
      have iF : inR F.length (L.length : Int) := by unfold inR; omega
      exact ⟨sL, iF, fun _ => ⟨sL, iF, fs_log f0 f3, rfl⟩, fun _ => rfl, sl (by show z.length + (fs (ixD F (L.length : Int))).length ≤ _; omega), q _ ⟨hz, hl, ha, lt, in_, h1, h4⟩⟩
theorem law_pattern_ok {Q : Pt → Prop} (q : ∀ p, PO p → Q p) : ClD (law_pattern_W ()) Q := by
  refine ClD.here (w := law_pattern_W ()) ?_
  refine word_abc (by decide) (by decide) (by decide) fun y hy h1 h2 => ?_
  refine ClD.roll (by decide) (by decide) fun r r0 r1 => ?_
  have hd : ∀ r : Int, 0 ≤ r → r < 2 → ixD [(tx "" : Txt), (tx ".")] r = [] ∨ ixD [(tx "" : Txt), (tx ".")] r = [46] := fun r r0 r1 => by
    have : r = 0 ∨ r = 1 := by omega
    rcases this with rfl | rfl
    · left; decide +kernel
    · right; decide +kernel
  have key : ∀ d : Txt, (d = [] ∨ d = [46]) → List.length d + y.length ≤ sizeLine ∧ law_pattern_w4 (tx "") (d ++ y) Q := fun d hd => by
    have l1 : d.length ≤ 1 := by rcases hd with rfl | rfl <;> simp
    refine ⟨sl (by omega), w4_ok (by rw [List.length_append]; omega) (by rw [List.length_append]; omega) (fun c hc => ?_) (fun c hc => ?_) q⟩
    · rcases List.mem_append.mp hc with hc | hc
      · rcases hd with rfl | rfl
        · cases hc
        · rw [List.mem_singleton.mp hc]; decide
      · exact List.mem_cons_of_mem _ (hy c hc)
    · rcases hd with rfl | rfl
      · exact hy c (List.mem_of_mem_drop hc)
      · exact hy c hc
  exact ⟨by show inR 2 r; unfold inR; omega, key _ (hd r r0 r1)⟩
def GJ (x : Pt) (A : Int → List Int) (k : Int) (j : Nat) (p : Int) : List Int := A p ++ (if 0 ≤ p - k ∧ p - k < (j : Int) then [ixD x.c (p - k)] else [])
def RW (N : Nat) (A : Int → List Int) : List Int := (rng N).map fun p => Mx (A p)
theorem RW_congr {N : Nat} {A B : Int → List Int} (h : ∀ p ∈ rng N, A p = B p) : RW N A = RW N B := List.map_congr_left fun p hp => by rw [h p hp]
theorem RW_len {N : Nat} {A : Int → List Int} : (RW N A).length = N := by simp [RW, rng]
theorem fig_ok {x : Pt} {A : Int → List Int} {N k : Nat} (hk : k + x.c.length ≤ N) {R : List Int → Prop} (q : R (RW N (GJ x A (k : Int) x.c.length))) : forW (enumD x.c) (RW N A) (fun x22 z23 nx25 => Hyphens_levels_in_w1 (k : Int) x22 nx25 z23) R := by
  refine forEn (fun l z => z = RW N (GJ x A (k : Int) l.length)) ?_ (fun l f r z e hz kk hkk => ?_) fun z hz => by subst hz; exact q
  · refine RW_congr fun p _ => ?_
    unfold GJ
    rw [if_neg (by show ¬ (0 ≤ p - (k : Int) ∧ p - (k : Int) < ((0 : Nat) : Int)); omega), List.append_nil]
  · subst hz
    have hl : l.length < x.c.length := by rw [e, List.length_append, List.length_cons]; omega
    have ep : (k : Int) + (l.length : Int) = ((k + l.length : Nat) : Int) := by omega
    have hf : ixD x.c (l.length : Int) = f := by rw [ixD_nat hl]; simp [e]
    have iR : inR (RW N (GJ x A (k : Int) l.length)).length ((k : Int) + (l.length : Int)) := by rw [RW_len]; unfold inR; omega
    refine ⟨iR, iR, hkk _ ?_⟩
    show (RW N (GJ x A (k : Int) l.length)).set (plc (RW N (GJ x A (k : Int) l.length)).length ((k : Int) + (l.length : Int))) (max (ixD (RW N (GJ x A (k : Int) l.length)) ((k : Int) + (l.length : Int))) f) = RW N (GJ x A (k : Int) (l ++ [f]).length)
    rw [ep, plc_nat]
    unfold RW
    rw [set_rng (by omega), at_rng (by omega)]
    refine List.map_congr_left fun p hp => ?_
    rw [List.length_append, List.length_singleton]
    by_cases h : p = ((k + l.length : Nat) : Int)
    · rw [if_pos h]
      subst h
      unfold GJ
      rw [if_neg (by omega), if_pos (by omega), List.append_nil, Mx_snoc]
      rw [show ((k + l.length : Nat) : Int) - (k : Int) = (l.length : Int) by omega, hf]
    · rw [if_neg h]
      unfold GJ
      by_cases h2 : 0 ≤ p - (k : Int) ∧ p - (k : Int) < (l.length : Int)
      · rw [if_pos h2, if_pos (by omega)]
      · rw [if_neg h2, if_neg (by omega)]
def GP (W : Txt) (x : Pt) (A : Int → List Int) (m : Nat) (p : Int) : List Int := A p ++ ((rng m).filter (mt W x p)).map fun k => ixD x.c (p - k)
theorem GP_succ (W : Txt) (x : Pt) (A : Int → List Int) (m : Nat) (p : Int) : GP W x A (m + 1) p = GP W x A m p ++ (if mt W x p (m : Int) = true then [ixD x.c (p - (m : Int))] else []) := by
  unfold GP
  rw [rng_succ, List.filter_append, List.map_append, List.append_assoc]
  congr 2
  by_cases h : mt W x p (m : Int) = true
  · rw [if_pos h]; simp [List.filter, h]
  · rw [if_neg h]
    have h := eq_false_of_ne_true h
    simp [List.filter, h]
theorem place_ok {W : Txt} {x : Pt} (hx : PO x) (hW : W.length ≤ 200) {A : Int → List Int} {R : List Int → Prop} (q : R (RW (W.length + 1) (GP W x A (pl W x)))) : Hyphens_levels_in_w8 W (PV x) R (RW (W.length + 1) A) := by
  have h4 := hx.hi; have h1 := hx.lo; have hc := hx.len
  have sb : x.b.length ≤ sizeLine := sl (by omega)
  have sW : W.length ≤ sizeLine := sl (by omega)
  refine ⟨sb, sW, ⟨by show -(2 ^ 62) ≤ (((W.length : Int) - (x.b.length : Int)) + (1 : Int)); omega, by show (((W.length : Int) - (x.b.length : Int)) + (1 : Int)) < 2 ^ 62; omega⟩, ?_⟩
  refine forR (n := pl W x) (f := fun i : Nat => (i : Int)) (fun m z => z = RW (W.length + 1) (GP W x A m)) ?_ (fun i z hi hz k hk => ?_) fun z hz => by subst hz; exact q
  · refine RW_congr fun p _ => ?_
    unfold GP
    show _ = A p ++ []
    rw [List.append_nil]
  · subst hz
    have hpl : i + x.b.length ≤ W.length := by unfold pl at hi; omega
    refine ⟨sW, ifJ.mk (fun hm => ?_) fun hm => hk _ (RW_congr fun p _ => ?_)⟩
    · have hm : decide (cutD W (some (i : Int)) (some ((i : Int) + (x.b.length : Int))) = x.b) = true := hm
      refine fig_ok (x := x) (by omega) (hk _ (RW_congr fun p _ => ?_))
      rw [GP_succ]
      unfold GJ mt
      rw [hm, Bool.true_and]
      by_cases h2 : 0 ≤ p - (i : Int) ∧ p - (i : Int) < (x.c.length : Int)
      · rw [if_pos h2, if_pos (by rw [Bool.and_eq_true, decide_eq_true_iff, decide_eq_true_iff]; omega)]
      · rw [if_neg h2, if_neg (by rw [Bool.and_eq_true, decide_eq_true_iff, decide_eq_true_iff]; omega)]
    · have hm : decide (cutD W (some (i : Int)) (some ((i : Int) + (x.b.length : Int))) = x.b) = false := hm
      rw [GP_succ]
      unfold mt
      rw [hm, Bool.false_and, if_neg (by decide), List.append_nil]
theorem cut_in {γ : Type} (xs : List γ) : cutD xs (some (1 : Int)) (some (-(1 : Int))) = (xs.drop 1).take (xs.length - 2) := by
  unfold cutD HT.sIx
  cases xs with
  | nil => rfl
  | cons a r =>
    show List.take ((-(1 : Int) + ((a :: r).length : Int)).toNat - min 1 (a :: r).length) (List.drop (min 1 (a :: r).length) (a :: r)) = _
    have e1 : min 1 (a :: r).length = 1 := by rw [List.length_cons]; omega
    rw [e1]
    have e2 : (-(1 : Int) + ((a :: r).length : Int)).toNat - 1 = (a :: r).length - 2 := by omega
    rw [e2]
theorem cut_init {γ : Type} (xs : List γ) : cutD xs none (some (-(1 : Int))) = xs.dropLast := by
  unfold cutD HT.sIx
  rw [List.dropLast_eq_take, List.drop_zero]
  congr 1
  simp
  omega
theorem levels_in_ok {ps : List Pt} (hp : ∀ x ∈ ps, PO x) {h : HyphensV} (hh : h.patterns.items = ps.map PV) {w : Txt} (hw : Wd w) {Q : PySem.W.Tup Int → Prop} {E : Ex → Prop} (q : Q ⟨LV ps w⟩) : Hyphens_levels_in_W (h, w, ()) Q E := by
  have w1 := hw.lo; have w2 := hw.hi
  have hW := wh_len w
  refine Cl.here (check_ok hw ?_)
  show Hyphens_levels_in_w12 h w Q
  refine ⟨sl (by rw [dot1]; show 1 + w.length ≤ _; omega), sl (by rw [dot1]; show ([46] ++ w).length + 1 ≤ _; simp; omega), ?_⟩
  show Hyphens_levels_in_w11 h (wh w) Q
  refine ⟨sl (by omega), ⟨by omega, by omega, sl (by show 1 * (((wh w).length : Int) + 1).toNat ≤ _; omega)⟩, ?_⟩
  have e0 : (List.replicate (((wh w).length : Int) + (1 : Int)).toNat [(0 : Int)]).flatten = RW ((wh w).length + 1) (fun p => CA (wh w) [] p) := by
    rw [show (((wh w).length : Int) + (1 : Int)).toNat = (wh w).length + 1 by omega]
    generalize (wh w).length + 1 = n
    unfold RW CA rng
    simp only [List.flatMap_nil, List.map_map]
    show (List.replicate n [(0 : Int)]).flatten = (List.range n).map fun _ => (0 : Int)
    induction n with
    | zero => rfl
    | succ n ih => rw [List.replicate_succ', List.flatten_append, ih, List.range_succ, List.map_append]; rfl
  show Hyphens_levels_in_w10 h (wh w) _ Q
  rw [e0]
  unfold Hyphens_levels_in_w10
  rw [hh]
  refine forLM (fun l z => z = RW ((wh w).length + 1) (fun p => CA (wh w) l p)) rfl (fun l x r z e hz k hk => ?_) fun z hz => ?_
  · subst hz
    refine place_ok (hp x (by rw [e]; simp)) (by omega) (hk _ (RW_congr fun p _ => ?_))
    unfold CA GP
    rw [List.flatMap_append, List.flatMap_cons, List.flatMap_nil, List.append_nil]
    rfl
  · subst hz
    show Q ⟨cutD _ (some (1 : Int)) (some (-(1 : Int)))⟩
    have e : cutD (RW ((wh w).length + 1) (fun p => CA (wh w) ps p)) (some (1 : Int)) (some (-(1 : Int))) = LV ps w := by
      rw [cut_in, RW_len, hW]
      unfold RW LV rng
      apply List.ext_getElem
      · simp
      · intro i h1 h2
        simp only [List.getElem_take, List.getElem_drop, List.getElem_map, List.getElem_range]
        have : ((1 + i : Nat) : Int) = (i : Int) + 1 := by omega
        rw [this]
    rw [e]; exact q
end K12
set_option maxHeartbeats 400000
namespace K12
open PySem L2 Sp
open PySem.W (DatumOrd)
def adj (w : Txt) : Int → List Int → List Txt
  | _, [] => []
  | s, c :: l => cutD w (some s) (some c) :: adj w c l
theorem adj_len (w : Txt) : ∀ (l : List Int) (s : Int), (adj w s l).length = l.length
  | [], _ => rfl
  | c :: l, s => by show (adj w c l).length + 1 = _; rw [adj_len w l c]; rfl
theorem adj_snoc (w : Txt) : ∀ (l : List Int) (s c : Int), adj w s (l ++ [c]) = adj w s l ++ [cutD w (some (l.getLastD s)) (some c)]
  | [], s, c => rfl
  | d :: l, s, c => by
    show cutD w (some s) (some d) :: adj w d (l ++ [c]) = cutD w (some s) (some d) :: (adj w d l ++ [cutD w (some ((d :: l).getLastD s)) (some c)])
    rw [adj_snoc w l d c, List.getLastD_cons]
theorem adj_law (w : Txt) : ∀ (l : List Int) (s : Int), (List.range l.length).map (fun i : Nat => cutD w (some (ixD (s :: l) (i : Int))) (some (ixD (s :: l) ((i : Int) + 1)))) = adj w s l
  | [], s => rfl
  | c :: l, s => by
    rw [List.length_cons, List.range_succ_eq_map, List.map_cons, List.map_map]
    show _ :: _ = cutD w (some s) (some c) :: adj w c l
    rw [← adj_law w l c]
    congr 1
theorem law_adj (w : Txt) (s : Int) (l : List Int) : (((List.range (((s :: l).length : Int) - (1 : Int)).toNat).map fun i : Nat => (1 : Int) + (i : Int)).map (fun (x9 : Int) => (cutD w (some (ixD (s :: l) (x9 - (1 : Int)))) (some (ixD (s :: l) x9))))) = adj w s l := by
  rw [show (((s :: l).length : Int) - (1 : Int)).toNat = l.length by rw [List.length_cons]; omega, List.map_map, ← adj_law]
  refine List.map_congr_left fun i _ => ?_
  show cutD w (some (ixD (s :: l) ((1 : Int) + (i : Int) - 1))) (some (ixD (s :: l) ((1 : Int) + (i : Int)))) = _
  rw [show (1 : Int) + (i : Int) - 1 = (i : Int) by omega, show (1 : Int) + (i : Int) = (i : Int) + 1 by omega]
structure Prt (w : Txt) (ps : List Txt) : Prop where
  flat : ps.flatten = w
  ne : ∀ p ∈ ps, p ≠ []
theorem ne_len : ∀ ps : List Txt, (∀ p ∈ ps, p ≠ []) → ps.length ≤ ps.flatten.length
  | [], _ => Nat.le_refl _
  | p :: ps, h => by
    have := ne_len ps fun q hq => h q (List.mem_cons_of_mem _ hq)
    have := List.length_pos_iff.mpr (h p List.mem_cons_self)
    rw [List.flatten_cons, List.length_append, List.length_cons]
    omega
theorem Prt.len {w : Txt} {ps : List Txt} (h : Prt w ps) : ps.length ≤ w.length := by
  have := ne_len ps h.ne
  rw [h.flat] at this; exact this
theorem adj_prt (w : Txt) : ∀ (l : List Int) (s : Nat), s < w.length → (∀ c ∈ l, (s : Int) < c ∧ c < (w.length : Int)) → l.Pairwise (· < ·) → (adj w (s : Int) (l ++ [(w.length : Int)])).flatten = w.drop s ∧ ∀ p ∈ adj w (s : Int) (l ++ [(w.length : Int)]), p ≠ []
  | [], s, hs, _, _ => by
    show [cutD w (some (s : Int)) (some (w.length : Int))].flatten = _ ∧ ∀ p ∈ [cutD w (some (s : Int)) (some (w.length : Int))], p ≠ []
    rw [cut_mid, List.take_of_length_le (by rw [List.length_drop]; omega)]
    refine ⟨by simp, fun p hp => ?_⟩
    rw [List.mem_singleton.mp hp]
    intro e
    have := congrArg List.length e
    rw [List.length_drop, List.length_nil] at this
    omega
  | c :: l, s, hs, hc, hpw => by
    obtain ⟨c0, c1⟩ := hc c (by simp)
    obtain ⟨n, rfl⟩ : ∃ n : Nat, c = (n : Int) := ⟨c.toNat, by omega⟩
    obtain ⟨p1, p2⟩ := List.pairwise_cons.mp hpw
    obtain ⟨i1, i2⟩ := adj_prt w l n (by omega) (fun d hd => ⟨p1 d hd, (hc d (List.mem_cons_of_mem _ hd)).2⟩) p2
    show (cutD w (some (s : Int)) (some (n : Int)) :: adj w (n : Int) (l ++ [(w.length : Int)])).flatten = _ ∧ ∀ p ∈ cutD w (some (s : Int)) (some (n : Int)) :: adj w (n : Int) (l ++ [(w.length : Int)]), p ≠ []
    rw [List.flatten_cons, i1, cut_mid]
    refine ⟨?_, fun p hp => ?_⟩
    · conv => rhs; rw [← List.take_append_drop (n - s) (w.drop s), List.drop_drop]
      rw [show s + (n - s) = n by omega]
    · rcases List.mem_cons.mp hp with rfl | hp
      · intro e
        have := congrArg List.length e
        rw [List.length_take, List.length_drop, List.length_nil] at this
        omega
      · exact i2 p hp
structure Su (ps : List Pt) (fi la : Int) : Prop where
  hp : ∀ x ∈ ps, PO x
  hn : ps.length ≤ 100
  f1 : 1 ≤ fi
  f2 : fi ≤ 2
  l1 : 1 ≤ la
  l2 : la ≤ 2
abbrev RG (n : Nat) (fi la : Int) : List Int := (List.range ((((n : Int) - la) + (1 : Int)) - fi).toNat).map fun i : Nat => fi + (i : Int)
abbrev od (L : List Int) (x : Int) : Bool := decide (((ixD L x) % (2 : Int)) = (1 : Int))
def CS (ps : List Pt) (fi la : Int) (w : Txt) : List Int := (RG w.length fi la).filter (od (LV ps w))
def PT (ps : List Pt) (fi la : Int) (w : Txt) : List Txt := adj w 0 (CS ps fi la w ++ [(w.length : Int)])
theorem RG_mem {n : Nat} {fi la x : Int} : x ∈ RG n fi la ↔ fi ≤ x ∧ x ≤ (n : Int) - la := by
  unfold RG
  rw [List.mem_map]
  constructor
  · rintro ⟨i, hi, rfl⟩
    have := List.mem_range.mp hi
    omega
  · intro h
    exact ⟨(x - fi).toNat, List.mem_range.mpr (by omega), by omega⟩
theorem RG_len (n : Nat) (fi la : Int) : (RG n fi la).length = ((((n : Int) - la) + (1 : Int)) - fi).toNat := by simp
theorem RG_pw (n : Nat) (fi la : Int) : (RG n fi la).Pairwise (· < ·) := by
  unfold RG
  rw [List.pairwise_map]
  exact List.pairwise_lt_range.imp fun h => by omega
theorem LV_len (ps : List Pt) (w : Txt) : (LV ps w).length = w.length + 1 := by simp [LV, rng]
theorem PT_prt {ps : List Pt} {fi la : Int} (S : Su ps fi la) {w : Txt} (hw : Wd w) : Prt w (PT ps fi la w) := by
  have h1 := hw.lo; have f1 := S.f1; have l1 := S.l1
  obtain ⟨a, b⟩ := adj_prt w (CS ps fi la w) 0 (by omega) (fun c hc => by
    have := RG_mem.mp (List.mem_filter.mp hc).1
    omega) ((RG_pw _ _ _).sublist List.filter_sublist)
  exact ⟨a, b⟩
abbrev TK : List (Txt × PySem.W.Tup Txt) := [(tx "cabac", ⟨[(tx "ca"), (tx "bac")]⟩)]
abbrev HV (ps : List Pt) (tk : List (Txt × PySem.W.Tup Txt)) (fi la : Int) : HyphensV := ⟨⟨ps.map PV⟩, ⟨tk⟩, fi, la⟩
def PW (tk : List (Txt × PySem.W.Tup Txt)) (ps : List Pt) (fi la : Int) (w : Txt) : List Txt := if dhas tk w = true then (dgt tk w).items else PT ps fi la w
theorem last_cut {w : Txt} {k : Nat} : cutD w (some (k : Int)) none = cutD w (some (k : Int)) (some (w.length : Int)) := by
  rw [cut_from, cut_mid, List.take_of_length_le (by rw [List.length_drop]; omega)]
theorem lastD_mem : ∀ (l : List Int) (s : Int), l.getLastD s = s ∨ l.getLastD s ∈ l
  | [], s => .inl rfl
  | c :: l, s => by
    rw [List.getLastD_cons]
    rcases lastD_mem l c with h | h
    · exact .inr (by rw [h]; simp)
    · exact .inr (List.mem_cons_of_mem _ h)
theorem parts_ok {ps : List Pt} {fi la : Int} (S : Su ps fi la) (tk : List (Txt × PySem.W.Tup Txt)) {w : Txt} (hw : Wd w) {Q : PySem.W.Tup Txt → Prop} {E : Ex → Prop} (q : Q ⟨PW tk ps fi la w⟩) : Hyphens_parts_W (HV ps tk fi la, w, ()) Q E := by
  have h1 := hw.lo; have h2 := hw.hi; have f1 := S.f1; have l1 := S.l1; have f2 := S.f2; have l2 := S.l2
  have sw : w.length ≤ sizeLine := sl (by omega)
  refine ⟨fun hd => ⟨hd, ?_⟩, fun hd => Cl.here (levels_in_ok S.hp rfl hw ?_)⟩
  · have hd : dhas tk w = true := hd
    unfold PW at q
    rw [if_pos hd] at q
    exact q
  · have hd : dhas tk w = false := hd
    unfold PW at q
    rw [if_neg (by rw [hd]; decide)] at q
    refine ⟨sw, ⟨by show -(2 ^ 62) ≤ fi; omega, by show fi < 2 ^ 62; omega, by show -(2 ^ 62) ≤ (((w.length : Int) - la) + (1 : Int)); omega, by show (((w.length : Int) - la) + (1 : Int)) < 2 ^ 62; omega⟩, ?_⟩
    refine forL (xs := RG w.length fi la) (fun l z => z = (adj w 0 (l.filter (od (LV ps w))), (l.filter (od (LV ps w))).getLastD 0)) rfl (fun l x r z e hz k hk => ?_) fun z hz => ?_
    · subst hz
      have hx := RG_mem.mp (show x ∈ RG w.length fi la by rw [e]; simp)
      have hll : l.length ≤ 30 := by
        have := congrArg List.length e
        rw [RG_len, List.length_append] at this; omega
      refine ⟨by show inR (LV ps w).length x; rw [LV_len]; unfold inR; omega, by decide, ifJ.mk (fun ho => ⟨sw, sl2 ?_, hk _ ?_⟩) fun ho => hk _ ?_⟩
      · show (adj w 0 (l.filter (od (LV ps w)))).length < _
        rw [adj_len]
        have := List.length_filter_le (od (LV ps w)) l
        omega
      · rw [List.filter_append, show [x].filter (od (LV ps w)) = [x] by rw [List.filter_cons, if_pos ho]; rfl, adj_snoc, List.getLastD_concat]
      · rw [List.filter_append, show [x].filter (od (LV ps w)) = [] by rw [List.filter_cons, if_neg (by rw [show od (LV ps w) x = false from ho]; decide)]; rfl, List.append_nil]
    · subst hz
      have hll : (CS ps fi la w).length ≤ 30 := by
        have := List.length_filter_le (od (LV ps w)) (RG w.length fi la)
        rw [RG_len] at this
        unfold CS; omega
      obtain ⟨k, ek⟩ : ∃ k : Nat, (CS ps fi la w).getLastD 0 = (k : Int) := by
        rcases lastD_mem (CS ps fi la w) 0 with h | h
        · exact ⟨0, h⟩
        · have := RG_mem.mp (List.mem_filter.mp h).1
          exact ⟨((CS ps fi la w).getLastD 0).toNat, by omega⟩
      have eq : PT ps fi la w = adj w 0 (CS ps fi la w) ++ [cutD w (some ((CS ps fi la w).getLastD 0)) none] := by
        unfold PT
        rw [adj_snoc, ek, last_cut]
      refine ⟨sw, sl (by show (adj w 0 (CS ps fi la w)).length + 1 ≤ _; rw [adj_len]; omega), ?_⟩
      rw [eq] at q
      exact q
theorem law_parts_ok {ps : List Pt} {fi la : Int} (S : Su ps fi la) {w : Txt} (hw : Wd w) {Q : List Txt → Prop} {E : Ex → Prop} (q : Q (PT ps fi la w)) : law_parts_W (ps, w, fi, la, ()) Q E := by
  have h1 := hw.lo; have h2 := hw.hi; have f1 := S.f1; have l1 := S.l1; have f2 := S.f2; have l2 := S.l2
  have sw : w.length ≤ sizeLine := sl (by omega)
  refine Cl.here (law_levels_ok S.hp S.hn (by show w.length ≤ 100; omega) ?_)
  show law_parts_w2 w fi la (LV ps w) Q
  have hll : (CS ps fi la w).length ≤ 30 := by
    have := List.length_filter_le (od (LV ps w)) (RG w.length fi la)
    rw [RG_len] at this
    unfold CS; omega
  have em : ((RG w.length fi la).filter (od (LV ps w))).map (fun x7 : Int => x7) = CS ps fi la w := List.map_id' _
  refine ⟨sw, ⟨by show -(2 ^ 62) ≤ fi; omega, by show fi < 2 ^ 62; omega, by show -(2 ^ 62) ≤ (((w.length : Int) - la) + (1 : Int)); omega, by show (((w.length : Int) - la) + (1 : Int)) < 2 ^ 62; omega⟩, sl (by rw [RG_len]; omega), fun x hx => ⟨?_, by decide, rfl⟩, fun _ _ _ => rfl, ?_⟩
  · have := RG_mem.mp hx
    show inR (LV ps w).length x
    rw [LV_len]; unfold inR; omega
  show List.length [(0 : Int)] + List.length (((RG w.length fi la).filter (od (LV ps w))).map (fun x7 : Int => x7)) ≤ sizeLine ∧ (w.length ≤ sizeLine ∧ (List.length ([(0 : Int)] ++ (((RG w.length fi la).filter (od (LV ps w))).map (fun x7 : Int => x7))) + List.length [(w.length : Int)] ≤ sizeLine ∧ law_parts_w1 w (([(0 : Int)] ++ (((RG w.length fi la).filter (od (LV ps w))).map (fun x7 : Int => x7))) ++ [(w.length : Int)]) Q))
  rw [em]
  have ln : ((0 : Int) :: (CS ps fi la w ++ [(w.length : Int)])).length = (CS ps fi la w).length + 2 := by simp
  refine ⟨sl (by show 1 + _ ≤ _; omega), sw, sl (by show ((0 : Int) :: CS ps fi la w).length + 1 ≤ _; rw [List.length_cons]; omega), ?_⟩
  show law_parts_w1 w ((0 : Int) :: (CS ps fi la w ++ [(w.length : Int)])) Q
  refine ⟨⟨by decide, by decide, by omega, by omega⟩, sl (by rw [List.length_map, List.length_range]; omega), fun x hx => ?_, ?_⟩
  · obtain ⟨i, hi, rfl⟩ := List.mem_map.mp hx
    have := List.mem_range.mp hi
    exact ⟨by unfold inR; omega, by unfold inR; omega, sw, rfl⟩
  · rw [law_adj]; exact q
theorem tk_mem {w : Txt} (h : dhas TK w = true) : w = tx "cabac" := by
  have := dhas_iff.mp h
  exact List.mem_singleton.mp this
theorem has_cabac : dhas TK (tx "cabac") = true := by decide +kernel
theorem gt_cabac : dgt TK (tx "cabac") = ⟨[(tx "ca"), (tx "bac")]⟩ := by decide +kernel
theorem PW_prt {ps : List Pt} {fi la : Int} (S : Su ps fi la) {tk : List (Txt × PySem.W.Tup Txt)} (ht : tk = [] ∨ tk = TK) {w : Txt} (hw : Wd w) : Prt w (PW tk ps fi la w) := by
  unfold PW
  by_cases h : dhas tk w = true
  · rw [if_pos h]
    rcases ht with rfl | rfl
    · exact absurd h (by simp [dhas, dval_nil])
    · have e := tk_mem h
      subst e
      rw [gt_cabac]
      exact ⟨by decide +kernel, by decide +kernel⟩
  · rw [if_neg h]; exact PT_prt S hw
theorem PW_cabac (ps : List Pt) (fi la : Int) : PW TK ps fi la (tx "cabac") = [(tx "ca"), (tx "bac")] := by
  unfold PW
  rw [if_pos has_cabac, gt_cabac]
theorem PW_nil (ps : List Pt) (fi la : Int) (w : Txt) : PW [] ps fi la w = PT ps fi la w := by
  unfold PW
  rw [if_neg (by simp [dhas, dval_nil])]
theorem prt_sum {w : Txt} {ps : List Txt} (h : Prt w ps) : lenSum ps = w.length := by rw [lenSum_flat, h.flat]
theorem said_ok2 {ps : List Pt} {fi la : Int} (S : Su ps fi la) {tk : List (Txt × PySem.W.Tup Txt)} (ht : tk = [] ∨ tk = TK) {w : Txt} (hw : Wd w) {Q : Txt → Prop} {E : Ex → Prop} (q : Q (joinT (tx "-") (PW tk ps fi la w))) : Hyphens_said_W (HV ps tk fi la, w, ()) Q E := by
  have h2 := hw.hi
  have P := PW_prt S ht hw
  have p1 := P.len
  refine Cl.here (parts_ok S tk hw ⟨?_, q⟩)
  show lenSum (PW tk ps fi la w) + (PW tk ps fi la w).length * 1 ≤ _
  rw [prt_sum P]; omega
def AH (pt : List Txt) (n : Nat) (room : Int) : List Txt := (((List.range n).map fun i : Nat => (1 : Int) + (i : Int)).filter (fun (x40 : Int) => (decide (((List.length (joinT (tx "") (cutD pt none (some x40))) : Int) + (1 : Int)) ≤ room)))).map (fun (x40 : Int) => (joinT (tx "") (cutD pt none (some x40))))
theorem pre_is (pt : List Txt) (k : Nat) : joinT (tx "") (cutD pt none (some ((1 : Int) + (k : Int)))) = (pt.take (k + 1)).flatten := by
  rw [show (1 : Int) + (k : Int) = ((k + 1 : Nat) : Int) by omega, cut_to, tx0, joinT_nil]
theorem AH_succ (pt : List Txt) (n : Nat) (room : Int) : AH pt (n + 1) room = AH pt n room ++ (if decide ((((pt.take (n + 1)).flatten.length : Int) + (1 : Int)) ≤ room) = true then [(pt.take (n + 1)).flatten] else []) := by
  unfold AH
  rw [List.range_succ, List.map_append, List.filter_append, List.map_append]
  congr 1
  rw [List.map_cons, List.map_nil, List.filter_cons, pre_is]
  by_cases h : decide ((((pt.take (n + 1)).flatten.length : Int) + (1 : Int)) ≤ room) = true
  · rw [if_pos h, if_pos h]
    show [joinT (tx "") (cutD pt none (some ((1 : Int) + (n : Int))))] = _
    rw [pre_is]
  · rw [if_neg h, if_neg h]; rfl
theorem AH_mem {pt : List Txt} {n : Nat} {room : Int} {b : Txt} (h : b ∈ AH pt n room) : ∃ k, 1 ≤ k ∧ k ≤ n ∧ b = (pt.take k).flatten ∧ (b.length : Int) + 1 ≤ room := by
  obtain ⟨x, hx, rfl⟩ := List.mem_map.mp h
  obtain ⟨h1, h2⟩ := List.mem_filter.mp hx
  obtain ⟨i, hi, rfl⟩ := List.mem_map.mp h1
  have := List.mem_range.mp hi
  have h2 := of_decide_eq_true h2
  exact ⟨i + 1, by omega, by omega, pre_is pt i, h2⟩
theorem AH_cut {w : Txt} {pt : List Txt} (P : Prt w pt) {room : Int} {b : Txt} (h : b ∈ AH pt (pt.length - 1) room) : ∃ v, w = b ++ v ∧ b ≠ [] ∧ v ≠ [] ∧ (b.length : Int) + 1 ≤ room := by
  obtain ⟨k, k1, k2, rfl, k4⟩ := AH_mem h
  have ne : ∀ q : List Txt, q ≠ [] → (∀ p ∈ q, p ∈ pt) → q.flatten ≠ [] := fun q h1 h2 e => by
    match q, h1 with
    | p :: q, _ =>
      have := P.ne p (h2 p List.mem_cons_self)
      rw [List.flatten_cons] at e
      exact this (List.append_eq_nil_iff.mp e).1
  refine ⟨(pt.drop k).flatten, ?_, ne _ ?_ fun p hp => List.mem_of_mem_take hp, ne _ ?_ fun p hp => List.mem_of_mem_drop hp, k4⟩
  · rw [← List.flatten_append, List.take_append_drop, P.flat]
  · intro e
    have := congrArg List.length e
    rw [List.length_take, List.length_nil] at this; omega
  · intro e
    have := congrArg List.length e
    rw [List.length_drop, List.length_nil] at this; omega
theorem splits_ok {h : HyphensV} {w : Txt} {pt : List Txt} {room : Int} (hw : w.length ≤ 1000) (P : Prt w pt) (hpt : Hyphens_parts_W (h, w, ()) (fun r => r = ⟨pt⟩) NoE) {Q : Txt × Txt → Prop} {E : Ex → Prop} (qe : (AH pt (pt.length - 1) room).getLast? = none → E .NoWay) (q : ∀ b, (AH pt (pt.length - 1) room).getLast? = some b → Q (b ++ (tx "-"), cutD w (some (b.length : Int)) none)) : Hyphens_splits_W (h, w, room, ()) Q E := by
  refine Cl.val hpt ?_
  show forW (cutD pt none (some (-(1 : Int)))) ((none : Option Txt), tx "") _ _
  rw [cut_init]
  have hl1 : pt.dropLast.length = pt.length - 1 := List.length_dropLast
  refine forL (fun l z => z.1 = (AH pt l.length room).getLast? ∧ z.2 = l.flatten) ⟨rfl, rfl⟩ (fun l x r z e hz k hk => ?_) fun z hz => ?_
  · obtain ⟨best, here⟩ := z
    obtain ⟨z1, z2⟩ := hz
    have z1 : best = (AH pt l.length room).getLast? := z1
    have z2 : here = l.flatten := z2
    subst z2
    have hne : pt ≠ [] := fun e0 => by subst e0; simp at e
    have ept : pt = l ++ x :: (r ++ [pt.getLast hne]) := by
      conv => lhs; rw [← List.dropLast_concat_getLast hne, e]
      simp
    have et : pt.take (l.length + 1) = l ++ [x] := by
      rw [ept, show l ++ x :: (r ++ [pt.getLast hne]) = (l ++ [x]) ++ (r ++ [pt.getLast hne]) by simp]
      exact List.take_left' (by simp)
    have hb : l.flatten.length + x.length ≤ 1000 := by
      have := congrArg (fun t : List Txt => t.flatten.length) ept
      simp only [P.flat, List.flatten_append, List.flatten_cons, List.length_append] at this
      omega
    have ef : (pt.take (l.length + 1)).flatten = l.flatten ++ x := by rw [et]; simp
    have as := AH_succ pt l.length room
    rw [ef] at as
    refine ⟨sl (by show l.flatten.length + x.length ≤ _; omega), sl (by show (l.flatten ++ x).length ≤ _; rw [List.length_append]; omega), ifJ.mk (fun hf => hk _ ⟨?_, by simp⟩) fun hf => hk _ ⟨?_, by simp⟩⟩
    · rw [List.length_append, List.length_singleton, as, if_pos hf]
      show some (l.flatten ++ x) = _
      rw [List.getLast?_concat]
    · rw [List.length_append, List.length_singleton, as, if_neg (by rw [show decide ((((l.flatten ++ x).length : Int) + (1 : Int)) ≤ room) = false from hf]; decide), List.append_nil]
      exact z1
  · obtain ⟨best, here⟩ := z
    have z1 : best = (AH pt (pt.length - 1) room).getLast? := by rw [← hl1]; exact hz.1
    subst z1
    show Hyphens_splits_w5 w _ Q E
    cases e : (AH pt (pt.length - 1) room).getLast? with
    | none => exact ⟨fun _ => qe e, fun hh => (by cases hh)⟩
    | some b =>
      obtain ⟨v, e1, _⟩ := AH_cut P (List.mem_of_getLast? e)
      have hb : b.length ≤ 1000 := by
        have := congrArg List.length e1
        rw [List.length_append] at this; omega
      exact ⟨fun hh => (by cases hh), fun _ => ⟨rfl, sl (by show b.length + 1 ≤ _; omega), rfl, sl (by show b.length ≤ _; omega), sl (by omega), q b e⟩⟩
end K12
set_option maxHeartbeats 400000
namespace K12
open PySem L2 Sp
open PySem.W (DatumOrd)
theorem join_two (c : Nat) (p q : Txt) (r : List Txt) : joinT [c] (p :: q :: r) = p ++ c :: joinT [c] (q :: r) := by
  show p ++ [c] ++ joinT [c] (q :: r) = _
  simp
theorem join_inj (c : Nat) : ∀ {ps qs : List Txt}, ps ≠ [] → qs ≠ [] → (∀ p ∈ ps, c ∉ p) → (∀ p ∈ qs, c ∉ p) → joinT [c] ps = joinT [c] qs → ps = qs
  | [], _, h, _, _, _, _ => absurd rfl h
  | _, [], _, h, _, _, _ => absurd rfl h
  | [p], [q], _, _, _, _, e => by
    have e : p = q := e
    rw [e]
  | [p], q :: q2 :: r, _, _, h1, _, e => by
    rw [join_two] at e
    have e : p = q ++ c :: joinT [c] (q2 :: r) := e
    exact absurd (by rw [e]; simp) (h1 p List.mem_cons_self)
  | p :: p2 :: r, [q], _, _, _, h2, e => by
    rw [join_two] at e
    have e : p ++ c :: joinT [c] (p2 :: r) = q := e
    exact absurd (by rw [← e]; simp) (h2 q List.mem_cons_self)
  | p :: p2 :: r, q :: q2 :: t, _, _, h1, h2, e => by
    rw [join_two, join_two] at e
    have key : ∀ (x y u v : Txt), c ∉ x → c ∉ y → x ++ c :: u = y ++ c :: v → x = y ∧ u = v := by
      intro x
      induction x with
      | nil =>
        intro y u v _ hy e
        cases y with
        | nil => exact ⟨rfl, (List.cons.inj e).2⟩
        | cons d y => exact absurd (by rw [show c = d from (List.cons.inj e).1]; simp) hy
      | cons d x ih =>
        intro y u v hx hy e
        cases y with
        | nil => exact absurd (by rw [show d = c from (List.cons.inj e).1]; simp) hx
        | cons d2 y =>
          obtain ⟨e1, e2⟩ := List.cons.inj e
          obtain ⟨e3, e4⟩ := ih y u v (fun h => hx (List.mem_cons_of_mem _ h)) (fun h => hy (List.mem_cons_of_mem _ h)) e2
          exact ⟨by rw [e1, e3], e4⟩
    obtain ⟨e1, e2⟩ := key p q _ _ (h1 p List.mem_cons_self) (h2 q List.mem_cons_self) e
    rw [e1, join_inj c (by simp) (by simp) (fun x hx => h1 x (List.mem_cons_of_mem _ hx)) (fun x hx => h2 x (List.mem_cons_of_mem _ hx)) e2]
theorem join_str (y : Str) : ∀ ps : List Str, tx (Str.join y ps) = joinT (tx y) (ps.map tx)
  | [] => rfl
  | [x] => rfl
  | x :: z :: r => by
    show tx (x ++ y ++ Str.join y (z :: r)) = tx x ++ tx y ++ joinT (tx y) ((z :: r).map tx)
    rw [← join_str y (z :: r)]
    show (x.cps ++ y.cps ++ (Str.join y (z :: r)).cps).toList = x.cps.toList ++ y.cps.toList ++ (Str.join y (z :: r)).cps.toList
    simp
theorem split_ofc {c : Nat} {ps : List Txt} (h0 : ps ≠ []) (h : ∀ p ∈ ps, c ∉ p) : splitT (joinT [c] ps) [c] = ps := by
  have hj := congrArg tx (StrLaws.join_split (toStr (joinT [c] ps)) (toStr [c]))
  rw [join_str] at hj
  have e1 : tx (toStr [c]) = [c] := toStr_cps _
  have e2 : tx (toStr (joinT [c] ps)) = joinT [c] ps := toStr_cps _
  rw [e1, e2] at hj
  refine join_inj c ?_ h0 (fun p hp => ?_) h hj
  · have := PyProof.Rows.len_of_split (l := (Txt.split (toStr (joinT [c] ps)) (toStr [c])).map fun s => (s, (0 : Nat))) (x := toStr (joinT [c] ps)) (y := toStr [c]) (by rw [List.map_map]; exact List.map_id _)
    rw [List.length_map] at this
    intro e
    have e := congrArg List.length e
    unfold splitT at e
    rw [List.length_map, List.length_nil] at e
    omega
  · unfold splitT at hp
    obtain ⟨x, hx, rfl⟩ := List.mem_map.mp hp
    exact StrLaws.split_free (toStr (joinT [c] ps)) c x hx
theorem strike (x : Txt) : replT x (tx "-") (tx "") = x.filter (· != 45) := by
  unfold replT
  have h := PyProof.Rows.replace_strikes (toStr x) 45
  show (PySem.Txt.replace (toStr x) ⟨#[45]⟩ ⟨#[]⟩).cps.toList = _
  rw [h]
  rfl
def JN (pt : List Txt) : List Int := (List.range (pt.length - 1)).map fun i : Nat => ((pt.take (i + 1)).flatten.length : Int)
theorem drop_pre {pt l : List Txt} {x : Txt} {r : List Txt} (e : pt.dropLast = l ++ x :: r) : pt.take (l.length + 1) = l ++ [x] ∧ l.flatten.length + x.length ≤ pt.flatten.length := by
  have hne : pt ≠ [] := fun e0 => by subst e0; simp at e
  have ept : pt = l ++ x :: (r ++ [pt.getLast hne]) := by
    conv => lhs; rw [← List.dropLast_concat_getLast hne, e]
    simp
  constructor
  · rw [ept, show l ++ x :: (r ++ [pt.getLast hne]) = (l ++ [x]) ++ (r ++ [pt.getLast hne]) by simp]
    exact List.take_left' (by simp)
  · have := congrArg (fun t : List Txt => t.flatten.length) ept
    simp only [List.flatten_append, List.flatten_cons, List.length_append] at this
    omega
theorem joints_ok {pt : List Txt} (h : pt.flatten.length ≤ 1000) (hl : pt.length ≤ 1000) {Q : PySem.W.Tup Int → Prop} {E : Ex → Prop} (q : Q ⟨JN pt⟩) : joints_W (⟨pt⟩, ()) Q E := by
  show forW (cutD pt none (some (-(1 : Int)))) (([] : List Int), (0 : Int)) _ _
  rw [cut_init]
  have hl1 : pt.dropLast.length = pt.length - 1 := List.length_dropLast
  refine forL (fun l z => z = ((List.range l.length).map (fun i : Nat => ((pt.take (i + 1)).flatten.length : Int)), (l.flatten.length : Int))) rfl (fun l x r z e hz k hk => ?_) fun z hz => ?_
  · subst hz
    obtain ⟨et, hb⟩ := drop_pre e
    have hll : l.length < pt.length - 1 := by rw [← hl1, e, List.length_append, List.length_cons]; omega
    have ex : (l.flatten.length : Int) + (x.length : Int) = ((l ++ [x]).flatten.length : Int) := by simp
    refine ⟨sl (by show x.length ≤ _; omega), sl2 (by rw [List.length_map, List.length_range]; omega), hk _ ?_⟩
    rw [List.length_append, List.length_singleton, List.range_succ, List.map_append, ex]
    show (_ ++ [((l ++ [x]).flatten.length : Int)], _) = (_ ++ [((pt.take (l.length + 1)).flatten.length : Int)], _)
    rw [et]
  · subst hz
    show Q ⟨(List.range pt.dropLast.length).map (fun i : Nat => ((pt.take (i + 1)).flatten.length : Int))⟩
    rw [hl1]; exact q
theorem JN_law (pt : List Txt) : (((List.range ((pt.length : Int) - (1 : Int)).toNat).map fun i : Nat => (1 : Int) + (i : Int)).map (fun (x42 : Int) => (List.length (joinT (tx "") (cutD pt none (some x42))) : Int))) = JN pt := by
  rw [show ((pt.length : Int) - (1 : Int)).toNat = pt.length - 1 by omega, List.map_map]
  refine List.map_congr_left fun i _ => ?_
  show (List.length (joinT (tx "") (cutD pt none (some ((1 : Int) + (i : Int))))) : Int) = _
  rw [pre_is]
structure Row (t w : Txt) : Prop where
  wd : Wd w
  st : replT t (tx "-") (tx "") = w
  sp : JN (splitT t (tx "-")) = (if tin (tx "-") t = true then [(2 : Int)] else ([] : List Int))
  fl : (splitT t (tx "-")).flatten.length ≤ 1000
  ln : (splitT t (tx "-")).length ≤ 1000
  len : t.length ≤ 100
theorem dash1 : (tx "-" : Txt) = [45] := by decide +kernel
theorem strike0 {w : Txt} (h : ∀ c ∈ w, c ∈ AZ) : w.filter (· != 45) = w := List.filter_eq_self.mpr fun c hc => by
  have : c ≠ 45 := fun e => az_no.1 (by rw [← e]; exact h c hc)
  simp [this]
def rowOf (w : Txt) : Txt := if (decide ((2 : Int) < (w.length : Int))) = true then (joinT (tx "-") [(cutD w none (some (2 : Int))), (cutD w (some (2 : Int)) none)]) else w
theorem row_is (w : Txt) : rowOf w = if 2 < w.length then w.take 2 ++ 45 :: w.drop 2 else w := by
  unfold rowOf
  by_cases h : 2 < w.length
  · rw [if_pos h, if_pos (decide_eq_true (by omega)), dash1, show (2 : Int) = ((2 : Nat) : Int) from rfl, cut_to, cut_from]
    show w.take 2 ++ [45] ++ w.drop 2 = _
    simp
  · rw [if_neg h, if_neg (by rw [decide_eq_true_iff]; omega)]
theorem row_ok {w : Txt} (hw : Wd w) : Row (rowOf w) w := by
  have h1 := hw.lo; have h2 := hw.hi
  have n45 : ∀ q : Txt, (∀ c ∈ q, c ∈ w) → (45 : Nat) ∉ q := fun q hq hc => az_no.1 (hw.abc _ (hq _ hc))
  rw [row_is]
  by_cases h : 2 < w.length
  · rw [if_pos h]
    have ej : w.take 2 ++ 45 :: w.drop 2 = joinT [45] [w.take 2, w.drop 2] := by
      show _ = w.take 2 ++ [45] ++ w.drop 2
      simp
    have sp : splitT (w.take 2 ++ 45 :: w.drop 2) (tx "-") = [w.take 2, w.drop 2] := by
      rw [ej, dash1]
      refine split_ofc (by simp) fun p hp => ?_
      rcases List.mem_cons.mp hp with rfl | hp
      · exact n45 _ fun c hc => List.mem_of_mem_take hc
      · rw [List.mem_singleton.mp hp]; exact n45 _ fun c hc => List.mem_of_mem_drop hc
    have ti : tin (tx "-") (w.take 2 ++ 45 :: w.drop 2) = true := by rw [dash1, tin_one]; simp
    refine ⟨hw, ?_, ?_, ?_, ?_, by rw [List.length_append, List.length_cons, List.length_take, List.length_drop]; omega⟩
    · rw [strike, List.filter_append, List.filter_cons, if_neg (by decide), ← List.filter_append, List.take_append_drop, strike0 hw.abc]
    · rw [sp, ti, if_pos rfl]
      show [((([w.take 2, w.drop 2] : List Txt).take 1).flatten.length : Int)] = [2]
      show [(([w.take 2] : List Txt).flatten.length : Int)] = [2]
      rw [show ([w.take 2] : List Txt).flatten = w.take 2 by simp, List.length_take, Nat.min_eq_left (by omega)]
      rfl
    · rw [sp]
      have : ([w.take 2, w.drop 2] : List Txt).flatten = w := by simp
      rw [this]; omega
    · rw [sp]; simp
  · rw [if_neg h]
    have sp : splitT w (tx "-") = [w] := by
      have := split_ofc (c := 45) (ps := [w]) (by simp) (fun p hp => by rw [List.mem_singleton.mp hp]; exact n45 _ fun c hc => hc)
      rw [dash1]; exact this
    have ti : tin (tx "-") w = false := by rw [dash1, tin_one]; exact decide_eq_false (n45 _ fun c hc => hc)
    refine ⟨hw, by rw [strike, strike0 hw.abc], ?_, ?_, ?_, by omega⟩
    · rw [sp, ti, if_neg (by decide)]; rfl
    · rw [sp]
      show ([w] : List Txt).flatten.length ≤ _
      simp; omega
    · rw [sp]; simp
theorem rp_ok {t : Txt} (h : t.length ≤ 1000) : RpOk t (tx "") := by
  unfold RpOk
  show t.length + (t.length + 1) * 0 ≤ _
  omega
theorem ones_ok {α : Type} {l : List α} (h : l.length ≤ 1000) : SumOk (l.map fun _ => (1 : Int)) := by
  refine sumOk_small (fun x hx => ?_) ?_
  · obtain ⟨y, _, rfl⟩ := List.mem_map.mp hx
    exact ⟨by decide, by decide⟩
  · rw [List.length_map]
    have e : (2 : Nat) ^ 20 = 1048576 := rfl
    omega
theorem ones_sum {α : Type} : ∀ l : List α, (l.map fun _ => (1 : Int)).sum = (l.length : Int)
  | [] => rfl
  | x :: l => by rw [List.map_cons, List.sum_cons, ones_sum l, List.length_cons]; omega
def rl (t : Txt) : List Int := if (tin (tx "-") t) = true then [(2 : Int)] else ([] : List Int)
def MS (F : Txt → List Int) (z : Int × Int × Int) (t : Txt) : Int × Int × Int := (z.1 + (((F t).filter (fun x => inL x (rl t))).length : Int), z.2.1 + (((F t).filter (fun x => niL x (rl t))).length : Int), z.2.2 + (((rl t).filter (fun x => niL x (F t))).length : Int))
abbrev JF (ps : List Pt) (tk : List (Txt × PySem.W.Tup Txt)) (fi la : Int) (t : Txt) : List Int := JN (PW tk ps fi la (replT t (tx "-") (tx "")))
theorem JN_len (pt : List Txt) : (JN pt).length = pt.length - 1 := by simp [JN]
theorem rl_len (t : Txt) : (rl t).length ≤ 1 := by unfold rl; split <;> simp
theorem marks_ok {ps : List Pt} {fi la : Int} (S : Su ps fi la) {tk : List (Txt × PySem.W.Tup Txt)} (ht : tk = [] ∨ tk = TK) {rows : List Txt} (hr : ∀ t ∈ rows, ∃ w, Row t w) {Q : PySem.W.T3 Int Int Int → Prop} {E : Ex → Prop} (q : Q ⟨(rows.foldl (MS (JF ps tk fi la)) (0, 0, 0)).1, (rows.foldl (MS (JF ps tk fi la)) (0, 0, 0)).2.1, (rows.foldl (MS (JF ps tk fi la)) (0, 0, 0)).2.2⟩) : marks_right_W (HV ps tk fi la, rows, ()) Q E := by
  show forW rows ((0 : Int), (0 : Int), (0 : Int)) _ _
  refine forW.fold (MS (JF ps tk fi la)) (fun l x r e k hk => ?_) q
  obtain ⟨w, R⟩ := hr x (by rw [e]; simp)
  have P := PW_prt S ht R.wd
  have w2 := R.wd.hi
  have hl := P.len
  have hlen := R.len
  refine ⟨rp_ok (by omega), ?_⟩
  have hJ : JF ps tk fi la x = JN (PW tk ps fi la w) := by show JN (PW tk ps fi la (replT x (tx "-") (tx ""))) = _; rw [R.st]
  have jl := JN_len (PW tk ps fi la w)
  have rll := rl_len x
  rw [R.st]
  refine ⟨⟨by rw [dash1]; decide, sl (by show x.length + 2 ≤ _; omega)⟩, Cl.here (joints_ok R.fl R.ln ?_)⟩
  refine Cl.here (parts_ok S tk R.wd (Cl.here (joints_ok (by rw [P.flat]; omega) (by omega) ?_)))
  have er : JN (splitT x (tx "-")) = rl x := R.sp
  rw [er]
  show marks_right_w3 k _ _ _ (⟨rl x⟩, ⟨JN (PW tk ps fi la w)⟩)
  have hk : k (MS (JF ps tk fi la) (l.foldl (MS (JF ps tk fi la)) (0, 0, 0)) x) := hk
  unfold MS at hk
  rw [hJ] at hk
  have f1 := List.length_filter_le (fun x16 : Int => inL x16 (rl x)) (JN (PW tk ps fi la w))
  have f2 := List.length_filter_le (fun x16 : Int => niL x16 (rl x)) (JN (PW tk ps fi la w))
  have f3 := List.length_filter_le (fun x16 : Int => niL x16 (JN (PW tk ps fi la w))) (rl x)
  refine ⟨rfl, fun _ _ => rfl, fun _ _ _ => rfl, ones_ok (by show (List.filter (fun x16 : Int => inL x16 (rl x)) (JN (PW tk ps fi la w))).length ≤ _; omega), rfl, fun _ _ => rfl, fun _ _ _ => rfl, ones_ok (by show (List.filter (fun x16 : Int => niL x16 (rl x)) (JN (PW tk ps fi la w))).length ≤ _; omega), rfl, fun _ _ => rfl, fun _ _ _ => rfl, ones_ok (by show (List.filter (fun x16 : Int => niL x16 (JN (PW tk ps fi la w))) (rl x)).length ≤ _; omega), ?_⟩
  rw [ones_sum, ones_sum, ones_sum]
  exact hk
theorem init2_ok {ps : List Pt} {fi la : Int} (f1 : 1 ≤ fi) (l1 : 1 ≤ la) {pv : PySem.W.Tup PatternV} {Q : HyphensV → Prop} {E : Ex → Prop} (q : Q ⟨pv, ⟨[]⟩, fi, la⟩) : Hyphens_init_2_W (pv, ⟨([] : List Txt)⟩, fi, la, ()) Q E := by
  refine ⟨fun _ => rfl, no_ ?_ ?_⟩
  · show (decide (fi < (1 : Int)) || decide (la < (1 : Int))) = false
    rw [decide_eq_false (by omega), decide_eq_false (by omega)]; rfl
  · exact forL (fun _ z => z = ([] : List (Txt × PySem.W.Tup Txt))) rfl (fun l x r z e hz k hk => by cases l <;> cases e) fun z hz => by subst hz; exact q
def dif (ps : List Pt) (fi la : Int) (t : Txt) : Bool := decide ((joinT (tx "-") (PT ps fi la (replT t (tx "-") (tx "")))) ≠ t)
theorem look_ok {ps : List Pt} {fi la : Int} (S : Su ps fi la) {tk : List (Txt × PySem.W.Tup Txt)} {rows : List Txt} (hn : rows.length ≤ 1000) (hr : ∀ t ∈ rows, ∃ w, Row t w) {Q : PySem.W.Tup Txt → Prop} {E : Ex → Prop} (q : Q ⟨srt ((rows.filter (dif ps fi la)).map fun t => replT t (tx "-") (tx ""))⟩) : look_told_W (HV ps tk fi la, rows, ()) Q E := by
  refine Cl.here (init2_ok (ps := ps) S.f1 S.l1 ?_)
  have hf := List.length_filter_le (dif ps fi la) rows
  refine ⟨sl (by show rows.length ≤ _; omega), dif ps fi la, fun t => t, fun t ht => ?_, fun _ _ _ => rfl, ?_⟩
  · obtain ⟨w, R⟩ := hr t ht
    have hlen := R.len
    refine ⟨rp_ok (by omega), ?_⟩
    have e : dif ps fi la t = decide ((joinT (tx "-") (PW [] ps fi la w)) ≠ t) := by unfold dif; rw [PW_nil, R.st]
    rw [R.st, e]
    exact Cl.here (said_ok2 S (.inl rfl) R.wd rfl)
  · rw [List.map_id']
    refine ⟨sl (by show (List.filter (dif ps fi la) rows).length ≤ _; omega), fun t => replT t (tx "-") (tx ""), fun t ht => ?_, q⟩
    obtain ⟨w, R⟩ := hr t (List.mem_filter.mp ht).1
    have hlen := R.len
    exact ⟨rp_ok (by omega), rfl⟩
end K12
set_option maxHeartbeats 400000
namespace K12
open PySem L2 Sp
open PySem.W (DatumOrd)
abbrev CB : Txt := tx "ca-bac"
theorem cb_st : replT CB (tx "-") (tx "") = tx "cabac" := by decide +kernel
theorem cb_wd : Wd (tx "cabac") := ⟨by decide +kernel, by decide +kernel, by decide +kernel⟩
theorem cb_bad : ((startT CB (tx "-")) || ((endT CB (tx "-")) || (tin (tx "--") CB))) = false := by decide +kernel
theorem cb_put : dput ([] : List (Txt × PySem.W.Tup Txt)) (tx "cabac") (PySem.W.Tup.mk ((splitT CB (tx "-")).map (fun (x16 : Txt) => x16))) = TK := by decide +kernel
theorem cb_len : CB.length = 6 ∧ (splitT CB (tx "-")).length = 2 := by decide +kernel
theorem init_ok {ps : List PatternV} {fi la : Int} (f1 : 1 ≤ fi) (l1 : 1 ≤ la) {Q : HyphensV → Prop} {E : Ex → Prop} (q : Q ⟨⟨ps⟩, ⟨TK⟩, fi, la⟩) : Hyphens_init_W (ps, [tx "ca-bac"], fi, la, ()) Q E := by
  refine ⟨fun _ => rfl, no_ ?_ ?_⟩
  · show (decide (fi < (1 : Int)) || decide (la < (1 : Int))) = false
    rw [decide_eq_false (by omega), decide_eq_false (by omega)]; rfl
  · refine forL (fun l z => (l = [] → z = ([] : List (Txt × PySem.W.Tup Txt))) ∧ (l ≠ [] → z = TK)) ⟨fun _ => rfl, fun h => absurd rfl h⟩ (fun l x r z e hz k hk => ?_) fun z hz => ?_
    · match l, e with
      | [], e =>
        have e : [CB] = x :: r := e
        injection e with e1 e2
        subst e1
        have hz := hz.1 rfl
        subst hz
        refine ⟨rp_ok (by rw [cb_len.1]; decide), ?_⟩
        show Hyphens_init_w3 CB k [] (replT CB (tx "-") (tx "")) E
        rw [cb_st]
        refine Cl.here (check_ok cb_wd ?_)
        refine ⟨fun _ => ⟨fun _ => rfl, rfl⟩, no_ cb_bad ⟨⟨by rw [dash1]; decide, sl (by rw [cb_len.1]; decide)⟩, sl (by rw [cb_len.2]; decide), fun _ _ => rfl, by decide, hk _ ⟨fun h => (by cases h), fun _ => cb_put⟩⟩⟩
      | a :: l, e => 
        have := congrArg List.length e
        simp at this
    · have hz := hz.2 (by simp)
      subst hz
      exact q
abbrev DA : Txt := tx "-a"
theorem da_st : replT DA (tx "-") (tx "") = tx "a" := by decide +kernel
theorem da_wd : Wd (tx "a") := ⟨by decide +kernel, by decide +kernel, by decide +kernel⟩
theorem da_bad : ((startT DA (tx "-")) || ((endT DA (tx "-")) || (tin (tx "--") DA))) = true := by decide +kernel
theorem init_bad1 : Hyphens_init_W (([] : List PatternV), [(tx "-a")], (1 : Int), (1 : Int), ()) (fun _ => False) (fun x => x = .BadRule) := by
  refine ⟨fun _ => rfl, no_ (by decide) ?_⟩
  refine forL (fun l z => l = []) rfl (fun l x r z e hz k hk => ?_) fun z hz => by cases hz
  subst hz
  have e : [DA] = x :: r := e
  injection e with e1 e2
  subst e1
  refine ⟨rp_ok (by show DA.length ≤ _; decide), ?_⟩
  show Hyphens_init_w3 DA k z (replT DA (tx "-") (tx "")) _
  rw [da_st]
  exact Cl.here (check_ok da_wd ⟨fun _ => ⟨fun _ => rfl, rfl⟩, yes_ da_bad rfl⟩)
theorem init_bad2 : Hyphens_init_W (([] : List PatternV), ([] : List Txt), (0 : Int), (1 : Int), ()) (fun _ => False) (fun x => x = .BadRule) := ⟨fun _ => rfl, yes_ (by decide) rfl⟩
theorem init_bare {Q : HyphensV → Prop} {E : Ex → Prop} (q : Q (HV [] [] 1 1)) : Hyphens_init_W (([] : List PatternV), ([] : List Txt), (1 : Int), (1 : Int), ()) Q E :=
  ⟨fun _ => rfl, no_ (by decide) (forL (fun _ z => z = ([] : List (Txt × PySem.W.Tup Txt))) rfl (fun l x r z e hz k hk => by cases l <;> cases e) fun z hz => by subst hz; exact q)⟩
abbrev LW : Txt := tx "abcdefgh"
theorem lw_wd : Wd LW := ⟨by decide +kernel, by decide +kernel, by decide +kernel⟩
theorem lw_len : (PT [] 1 1 LW).length = 1 ∧ LW.length = 8 := by decide +kernel
theorem su0 : Su [] 1 1 := ⟨by simp, by simp, by decide, by decide, by decide, by decide⟩
theorem lines_bad : Hyphens_lines_W (HV [] [] 1 1, [(tx "abcdefgh")], (4 : Int), ()) (fun _ => False) (fun x => x = .NoWay) := by
  refine ⟨fun z => z = ([], tx "", [LW]), fun _ => 0, rfl, fun z hz => ⟨fun _ => ?_, fun h => ?_⟩⟩
  · subst hz
    show Hyphens_lines_w11 (HV [] [] 1 1) 4 _ [] (tx "") [LW] _
    refine ⟨⟨by show inR 1 0; unfold inR; omega, by decide, by decide⟩, ?_⟩
    show Hyphens_lines_w10 (HV [] [] 1 1) 4 _ [] (tx "") LW [] _
    refine ⟨fun h => absurd h (by decide), fun _ => rfl, ?_⟩
    show Hyphens_lines_w9 (HV [] [] 1 1) 4 _ [] (tx "") LW [] (tx "") _
    refine ⟨sl (by decide), sl (by rw [lw_len.2]; decide), no_ ?_ ?_⟩
    · show decide (((0 : Nat) : Int) + (LW.length : Int) ≤ 4) = false
      rw [lw_len.2]; decide
    · refine ⟨sl (by decide), ?_⟩
      have P := PT_prt su0 lw_wd
      refine Cl.exc (e := .NoWay) (splits_ok (by rw [lw_len.2]; decide) P (parts_ok su0 [] lw_wd (by rw [PW_nil])) (fun _ => rfl) fun b hb => ?_) ⟨rfl, yes_ (by decide) rfl⟩
      rw [lw_len.1] at hb
      cases hb
  · subst hz
    exact absurd h (by decide)
theorem a9b_is : prs (tx "a9b") ([], [0]) = some ((tx "ab"), [0, 9, 0]) := by decide +kernel
theorem a9b_ok {Q : PatternV → Prop} {E : Ex → Prop} (q : ∀ p, Q p) : Pattern_init_W (tx "a9b", ()) Q E := by
  refine pat_init (by decide +kernel) (fun z hz => ?_) fun hz => by rw [a9b_is] at hz; cases hz
  rw [a9b_is] at hz
  injection hz with hz
  subst hz
  exact ⟨fun _ => ⟨sl (by decide +kernel), rfl⟩, no_ (by decide +kernel) (q _)⟩
theorem with_ok {ps : List Pt} {fi la : Int} (hn : ps.length ≤ 1000) (f1 : 1 ≤ fi) (l1 : 1 ≤ la) (p : PatternV) {Q : HyphensV → Prop} {E : Ex → Prop} (q : Q ⟨⟨ps.map PV ++ [p]⟩, ⟨TK⟩, fi, la⟩) : Hyphens_with_pattern_W (HV ps TK fi la, p, ()) Q E := by
  refine ⟨sl (by show (ps.map PV).length + 1 ≤ _; rw [List.length_map]; omega), Cl.here (init2_ok (ps := ps) f1 l1 ?_)⟩
  have e : dmerge [] TK = TK := by decide +kernel
  show Q ⟨⟨ps.map PV ++ [p]⟩, ⟨dmerge [] TK⟩, fi, la⟩
  rw [e]; exact q
theorem fresh_ok {pv : PySem.W.Tup PatternV} {fi la : Int} {Q : PySem.W.Tup Txt → Prop} {E : Ex → Prop} (q : Q ⟨[(tx "ca"), (tx "bac")]⟩) : Hyphens_parts_W (⟨pv, ⟨TK⟩, fi, la⟩, tx "cabac", ()) Q E := by
  refine ⟨fun hd => ⟨hd, ?_⟩, fun hd => ?_⟩
  · show Q (dgt TK (tx "cabac"))
    rw [gt_cabac]; exact q
  · have hd : dhas TK (tx "cabac") = false := hd
    rw [has_cabac] at hd
    cases hd
def badP (t : Txt) : Bool := match prs t ([], [0]) with | none => true | some z => (decide (z.1 = tx "") || tin (tx ".") (cutD z.1 (some (1 : Int)) (some (-(1 : Int))))) && decide (z.1.length ≤ 1000)
theorem bad_ok {t : Txt} (hl : t.length ≤ 1000) (h : badP t = true) : Pattern_init_W (t, ()) (fun _ => False) (fun x => x = .BadRule) := by
  refine pat_init hl (fun z hz => ?_) fun _ => rfl
  unfold badP at h
  rw [hz] at h
  have h := (Bool.and_eq_true _ _ ▸ h : _ ∧ _)
  have h2 := of_decide_eq_true h.2
  exact ⟨fun _ => ⟨sl (by show z.1.length ≤ _; omega), rfl⟩, yes_ h.1 rfl⟩
theorem bad_all : ∀ t ∈ ([(tx ""), (tx "12a"), (tx "a.b"), (tx "A"), (tx "5")] : List Txt), badP t = true ∧ t.length ≤ 1000 := by decide +kernel
def VB (w : Txt) : List Int := (rng w.length).filter fun k => tin (ixS w k) (tx "aeiou")
def BT (vs : List Int) : List Int := (((List.range ((vs.length : Int) - (1 : Int)).toNat).map fun i : Nat => (1 : Int) + (i : Int)).filter (fun (x46 : Int) => (decide ((1 : Int) < ((ixD vs x46) - (ixD vs (x46 - (1 : Int)))))))).map (fun (x46 : Int) => ((ixD vs x46) - (1 : Int)))
theorem en_is (w : Txt) : enumD (w.map fun c => [c]) = (rng w.length).map fun k => (k, ixS w k) := by
  have h := enumD_map (w.map fun c => [c]) (fun (k : Int) (y : Txt) => (k, y))
  have e2 : (enumD (w.map fun c => [c])).map (fun p : Int × Txt => (p.1, p.2)) = enumD (w.map fun c => [c]) := List.map_id' _
  rw [e2, List.length_map] at h
  rw [h]
  refine List.map_congr_left fun k hk => ?_
  obtain ⟨k0, k1⟩ := rng_mem.mp hk
  obtain ⟨n, rfl⟩ : ∃ n : Nat, k = (n : Int) := ⟨k.toNat, by omega⟩
  have hn : n < w.length := by omega
  rw [ixD_nat (by rw [List.length_map]; exact hn), ixS_nat hn, List.getElem_map]
theorem VB_is (w : Txt) : ((enumD (w.map fun c => [c])).filter (fun (x2 : (Int × Txt)) => (tin x2.2 (tx "aeiou")))).map (fun (x2 : (Int × Txt)) => x2.1) = VB w := by
  rw [en_is, List.filter_map, List.map_map]
  exact List.map_id' _
theorem VB_len (w : Txt) : (VB w).length ≤ w.length := by
  have := List.length_filter_le (fun k => tin (ixS w k) (tx "aeiou")) (rng w.length)
  rw [rng_len] at this; exact this
theorem VB_pos (w : Txt) : ∀ x ∈ VB w, 0 ≤ x := fun x hx => (rng_mem.mp (List.mem_filter.mp hx).1).1
theorem R1_mem {n : Nat} {x : Int} : x ∈ ((List.range ((n : Int) - (1 : Int)).toNat).map fun i : Nat => (1 : Int) + (i : Int)) ↔ 1 ≤ x ∧ x < n := by
  rw [List.mem_map]
  constructor
  · rintro ⟨i, hi, rfl⟩
    have := List.mem_range.mp hi
    omega
  · intro h
    exact ⟨(x - 1).toNat, List.mem_range.mpr (by omega), by omega⟩
theorem BT_len (vs : List Int) : (BT vs).length ≤ vs.length := by
  unfold BT
  rw [List.length_map]
  refine Nat.le_trans (List.length_filter_le _ _) ?_
  rw [List.length_map, List.length_range]; omega
theorem BT_pos {vs : List Int} (h : ∀ x ∈ vs, 0 ≤ x) : ∀ x ∈ BT vs, 0 ≤ x := fun x hx => by
  obtain ⟨k, hk, rfl⟩ := List.mem_map.mp hx
  obtain ⟨h1, h2⟩ := List.mem_filter.mp hk
  have h1 := R1_mem.mp h1
  have h2 := of_decide_eq_true h2
  have := h _ (ixD_mem (x := vs) (i := k - 1) (by omega) (by omega))
  omega
theorem beats_ok {w : Txt} (hw : w.length ≤ 1000) {Q : PySem.W.Tup Txt → Prop} {E : Ex → Prop} (q : Q ⟨adj w 0 (BT (VB w) ++ [(w.length : Int)])⟩) : by_beats_W (w, ()) Q E := by
  have hv := VB_len w
  have hb := BT_len (VB w)
  refine ⟨sl (by rw [enumD_len, List.length_map]; show w.length ≤ _; omega), fun _ _ => rfl, fun _ _ _ => rfl, ?_⟩
  show by_beats_w8 w (((enumD (w.map fun c => [c])).filter (fun (x2 : (Int × Txt)) => (tin x2.2 (tx "aeiou")))).map (fun (x2 : (Int × Txt)) => x2.1)) [] Q
  rw [VB_is]
  refine ⟨⟨by decide, by decide, by omega, by omega⟩, ?_⟩
  refine forL (fun l z => z = (l.filter (fun (x46 : Int) => (decide ((1 : Int) < ((ixD (VB w) x46) - (ixD (VB w) (x46 - (1 : Int)))))))).map (fun (x46 : Int) => ((ixD (VB w) x46) - (1 : Int)))) rfl (fun l x r z e hz k hk => ?_) fun z hz => ?_
  · subst hz
    have hx := R1_mem.mp (show x ∈ ((List.range (((VB w).length : Int) - (1 : Int)).toNat).map fun i : Nat => (1 : Int) + (i : Int)) by rw [e]; simp)
    have hll : l.length ≤ 1000 := by
      have := congrArg List.length e
      rw [List.length_map, List.length_range, List.length_append] at this; omega
    have fl := List.length_filter_le (fun (x46 : Int) => (decide ((1 : Int) < ((ixD (VB w) x46) - (ixD (VB w) (x46 - (1 : Int))))))) l
    have i1 : inR (VB w).length x := by unfold inR; omega
    refine ⟨i1, by unfold inR; omega, ifJ.mk (fun hd => ⟨i1, sl2 (by rw [List.length_map]; omega), hk _ ?_⟩) fun hd => hk _ ?_⟩
    · rw [List.filter_append, List.map_append, List.filter_cons, if_pos hd]; rfl
    · rw [List.filter_append, List.map_append, List.filter_cons, if_neg (by rw [show decide ((1 : Int) < ((ixD (VB w) x) - (ixD (VB w) (x - (1 : Int))))) = false from hd]; decide)]
      simp
  · have hz : z = BT (VB w) := hz
    subst hz
    refine forL (fun l z => z = (adj w 0 l, l.getLastD 0)) rfl (fun l x r z e hz k hk => ?_) fun z hz => ?_
    · subst hz
      have hll : l.length ≤ 1000 := by
        have := congrArg List.length e
        rw [List.length_append] at this; omega
      refine ⟨sl (by show w.length ≤ _; omega), sl2 (by show (adj w 0 l).length < _; rw [adj_len]; omega), hk _ ?_⟩
      rw [adj_snoc, List.getLastD_concat]
    · subst hz
      obtain ⟨k, ek⟩ : ∃ k : Nat, (BT (VB w)).getLastD 0 = (k : Int) := by
        rcases lastD_mem (BT (VB w)) 0 with h | h
        · exact ⟨0, h⟩
        · have := BT_pos (VB_pos w) _ h
          exact ⟨((BT (VB w)).getLastD 0).toNat, by omega⟩
      rw [adj_snoc, ek, ← last_cut, ← ek] at q
      exact ⟨sl (by show w.length ≤ _; omega), sl (by show (adj w 0 (BT (VB w))).length + 1 ≤ _; rw [adj_len]; omega), q⟩
end K12
set_option maxHeartbeats 400000
namespace K12
open PySem L2 Sp
open PySem.W (DatumOrd)
theorem sp1 : (tx " " : Txt) = [32] := by decide +kernel
def lt (x : Txt) : Txt := if (decide ((ixS x ((x.length : Int) - (1 : Int))) = (tx "-"))) = true then (cutD x none (some ((x.length : Int) - (1 : Int)))) else (x ++ (tx " "))
theorem last_at (q : Txt) (c : Nat) : ixS (q ++ [c]) (((q ++ [c]).length : Int) - (1 : Int)) = [c] := by
  rw [show (((q ++ [c]).length : Int) - (1 : Int)) = (q.length : Int) by simp, ixS_nat (by simp)]
  simp
theorem lt_dash (q : Txt) : lt (q ++ [45]) = q := by
  have e : (((q ++ [45]).length : Int) - (1 : Int)) = (q.length : Int) := by simp
  unfold lt
  rw [last_at, dash1, if_pos (by decide), e, cut_to]
  exact List.take_left' rfl
theorem snoc_of {x : Txt} (h : x ≠ []) : ∃ q c, x = q ++ [c] := by
  rcases List.eq_nil_or_concat x with e | ⟨q, c, e⟩
  · exact absurd e h
  · exact ⟨q, c, by rw [e, List.concat_eq_append]⟩
theorem lt_other {x : Txt} (h : x ≠ []) (hd : x.getLast? ≠ some 45) : lt x = x ++ [32] := by
  obtain ⟨q, c, rfl⟩ := snoc_of h
  have hc : c ≠ 45 := fun e => hd (by rw [List.getLast?_concat, e])
  unfold lt
  rw [last_at, dash1, if_neg (by rw [decide_eq_true_iff]; intro e; injection e with e1; exact hc e1), sp1]
abbrev fwd (y : Txt) : Txt := y.takeWhile (fun c => decide (c ≠ 32))
theorem fwd_app : ∀ (h w : Txt), fwd (h ++ 32 :: w) = fwd h
  | [], w => rfl
  | c :: h, w => by
    show (c :: (h ++ 32 :: w)).takeWhile _ = (c :: h).takeWhile _
    rw [List.takeWhile_cons, List.takeWhile_cons]
    have := fwd_app h w
    unfold fwd at this
    rw [this]
theorem fwd_id : ∀ {w : Txt}, (∀ c ∈ w, c ≠ 32) → fwd w = w
  | [], _ => rfl
  | c :: w, h => by
    show (c :: w).takeWhile _ = c :: w
    rw [List.takeWhile_cons, if_pos (decide_eq_true (h c (by simp)))]
    have := fwd_id (w := w) fun d hd => h d (by simp [hd])
    unfold fwd at this
    rw [this]
def Lk (W : Nat) (x y : Txt) : Prop := x.getLast? = some 45 ∨ 45 ∈ y ∨ W < x.length + 1 + (fwd y).length
def nw (here : Txt) (left : List Txt) : Nat := if here = [] then (left.headD []).length else (fwd here).length
def ld (here : Txt) : Txt := if here = [] then [] else here ++ [32]
structure LI (W : Nat) (T : Txt) (M : Nat) (found : List Txt) (here : Txt) (left : List Txt) : Prop where
  txt : (found.map lt).flatten ++ ld here ++ (left.map fun w => w ++ [32]).flatten = T
  fw : ∀ l ∈ found, l ≠ [] ∧ l.length ≤ W
  hw : here.length ≤ W
  hl : here.getLast? ≠ some 45
  lf : ∀ w ∈ left, Wd w ∧ w.length ≤ 6
  ln : found.length + (2 * lenSum left + (if here = [] then 0 else 1)) ≤ M
  ch : ∀ a x y b, found = a ++ x :: y :: b → Lk W x y
  nx : ∀ x, found.getLast? = some x → x.getLast? = some 45 ∨ W < x.length + 1 + nw here left
structure LO (W : Nat) (T : Txt) (ls : List Txt) : Prop where
  txt : (ls.map lt).flatten = T
  fw : ∀ l ∈ ls, l ≠ [] ∧ l.length ≤ W
  ch : ∀ a x y b, ls = a ++ x :: y :: b → Lk W x y
  ln : ls.length ≤ 1001
theorem snoc_pair {α : Type} {f a b : List α} {v x y : α} (e : f ++ [v] = a ++ x :: y :: b) : (y = v ∧ f = a ++ [x]) ∨ ∃ b', f = a ++ x :: y :: b' := by
  rcases List.eq_nil_or_concat b with rfl | ⟨b', u, rfl⟩
  · rw [show a ++ [x, y] = (a ++ [x]) ++ [y] by simp] at e
    obtain ⟨e1, e2⟩ := List.append_inj' e rfl
    injection e2 with e2
    exact .inl ⟨e2.symm, e1⟩
  · rw [List.concat_eq_append, show a ++ x :: y :: (b' ++ [u]) = (a ++ x :: y :: b') ++ [u] by simp] at e
    exact .inr ⟨b', (List.append_inj' e rfl).1⟩
theorem ch_snoc {W : Nat} {f : List Txt} {v : Txt} (h : ∀ a x y b, f = a ++ x :: y :: b → Lk W x y) (hv : ∀ x, f.getLast? = some x → Lk W x v) : ∀ a x y b, f ++ [v] = a ++ x :: y :: b → Lk W x y := fun a x y b e => by
  rcases snoc_pair e with ⟨rfl, e1⟩ | ⟨b', e1⟩
  · exact hv x (by rw [e1, List.getLast?_concat])
  · exact h a x y b' e1
theorem wd_drop {b v : Txt} (h : Wd (b ++ v)) (hv : v ≠ []) : Wd v := by
  have := h.hi
  rw [List.length_append] at this
  exact ⟨List.length_pos_iff.mpr hv, by omega, fun c hc => h.abc c (List.mem_append.mpr (.inr hc))⟩
theorem wd_last {w : Txt} (h : Wd w) (p : Txt) : (p ++ w).getLast? ≠ some 45 := fun e => by
  have hw : w ≠ [] := fun e0 => by have := h.lo; rw [e0] at this; simp at this
  obtain ⟨q, c, rfl⟩ := snoc_of hw
  rw [← List.append_assoc, List.getLast?_concat] at e
  injection e with e
  exact az_no.1 (by rw [← e]; exact h.abc c (by simp))
theorem wd_fwd {w : Txt} (h : Wd w) : fwd w = w := fwd_id fun c hc e => az_no.2 (by rw [← e]; exact h.abc c hc)
section
variable {W M : Nat} {T here w : Txt} {found rest : List Txt}
theorem LI.fit (I : LI W T M found here (w :: rest)) (hf : (ld here).length + w.length ≤ W) : LI W T M found (ld here ++ w) rest ∧ 2 * lenSum rest + (if ld here ++ w = [] then 0 else 1) < 2 * lenSum (w :: rest) + (if here = [] then 0 else 1) := by
  obtain ⟨hw, h6⟩ := I.lf w (by simp)
  have w1 := hw.lo
  have hne : ld here ++ w ≠ [] := fun e => by
    have := congrArg List.length e
    rw [List.length_append, List.length_nil] at this; omega
  have mu : 2 * lenSum rest + (if ld here ++ w = [] then 0 else 1) < 2 * lenSum (w :: rest) + (if here = [] then 0 else 1) := by
    rw [if_neg hne, lenSum_cons]; omega
  refine ⟨⟨?_, I.fw, by rw [List.length_append]; exact hf, wd_last hw _, fun x hx => I.lf x (by simp [hx]), ?_, I.ch, fun x hx => ?_⟩, mu⟩
  · rw [← I.txt]
    have : ld (ld here ++ w) = ld here ++ w ++ [32] := by
      show (if ld here ++ w = [] then [] else _) = _
      rw [if_neg hne]
    rw [this, List.map_cons, List.flatten_cons]
    simp
  · have := I.ln; omega
  · rcases I.nx x hx with h | h
    · exact .inl h
    · right
      have e : nw (ld here ++ w) rest = nw here (w :: rest) := by
        unfold nw
        rw [if_neg hne]
        by_cases hh : here = []
        · subst hh
          rw [if_pos rfl]
          show (fwd w).length = w.length
          rw [wd_fwd hw]
        · rw [if_neg hh]
          unfold ld
          rw [if_neg hh, List.append_assoc]
          show (fwd (here ++ 32 :: w)).length = _
          rw [fwd_app]
      rw [e]; exact h
theorem LI.cut {b v : Txt} (I : LI W T M found here (w :: rest)) (e : w = b ++ v) (hb : b ≠ []) (hv : v ≠ []) (hf : (ld here).length + (b.length + 1) ≤ W) : LI W T M (found ++ [ld here ++ (b ++ [45])]) [] (v :: rest) ∧ 2 * lenSum (v :: rest) + 0 < 2 * lenSum (w :: rest) + (if here = [] then 0 else 1) := by
  obtain ⟨hw, h6⟩ := I.lf w (by simp)
  have b1 := List.length_pos_iff.mpr hb
  subst e
  have mu : 2 * lenSum (v :: rest) + 2 ≤ 2 * lenSum ((b ++ v) :: rest) + (if here = [] then 0 else 1) := by
    rw [lenSum_cons, lenSum_cons, List.length_append]; omega
  rw [List.length_append] at h6
  refine ⟨⟨?_, fun l hl => ?_, Nat.zero_le _, by simp, fun x hx => ?_, ?_, ch_snoc I.ch fun x _ => .inr (.inl (by simp)), fun x hx => ?_⟩, by omega⟩
  · rw [← I.txt, List.map_append, List.flatten_append]
    show _ ++ [lt (ld here ++ (b ++ [45]))].flatten ++ [] ++ _ = _
    rw [← List.append_assoc (ld here), lt_dash]
    simp
  · rcases List.mem_append.mp hl with h | h
    · exact I.fw l h
    · rw [List.mem_singleton.mp h]
      exact ⟨by simp, by rw [List.length_append, List.length_append]; exact hf⟩
  · rcases List.mem_cons.mp hx with rfl | h
    · exact ⟨wd_drop hw hv, by omega⟩
    · exact I.lf x (by simp [h])
  · have := I.ln
    rw [List.length_append, List.length_singleton, if_pos rfl]
    omega
  · rw [List.getLast?_concat] at hx
    injection hx with hx
    subst hx
    left
    rw [← List.append_assoc, List.getLast?_concat]
theorem LI.push (I : LI W T M found here (w :: rest)) (hh : here ≠ []) (hf : W < (ld here).length + w.length) : LI W T M (found ++ [here]) [] (w :: rest) ∧ 2 * lenSum (w :: rest) + 0 < 2 * lenSum (w :: rest) + (if here = [] then 0 else 1) := by
  have il := I.ln
  rw [if_neg hh] at il
  have el : ld here = here ++ [32] := by unfold ld; rw [if_neg hh]
  refine ⟨⟨?_, fun l hl => ?_, Nat.zero_le _, by simp, I.lf, ?_, ch_snoc I.ch fun x hx => ?_, fun x hx => ?_⟩, by rw [if_neg hh]; omega⟩
  · rw [← I.txt, List.map_append, List.flatten_append, el]
    show _ ++ [lt here].flatten ++ [] ++ _ = _
    rw [lt_other hh I.hl]
    simp
  · rcases List.mem_append.mp hl with h | h
    · exact I.fw l h
    · rw [List.mem_singleton.mp h]
      exact ⟨hh, I.hw⟩
  · rw [List.length_append, List.length_singleton, if_pos rfl]
    omega
  · rcases I.nx x hx with h | h
    · exact .inl h
    · refine .inr (.inr ?_)
      unfold nw at h
      rw [if_neg hh] at h
      exact h
  · rw [List.getLast?_concat] at hx
    injection hx with hx
    subst hx
    right
    show W < here.length + 1 + (if ([] : Txt) = [] then w.length else _)
    rw [if_pos rfl]
    rw [el, List.length_append] at hf
    exact hf
theorem LI.done (hM : M ≤ 1000) (I : LI W T M found here []) : LO W T (found ++ (if here = [] then [] else [here])) := by
  have il := I.ln
  by_cases hh : here = []
  · rw [if_pos hh, List.append_nil]
    subst hh
    refine ⟨?_, I.fw, I.ch, by omega⟩
    have := I.txt
    rw [← this]
    show _ = _ ++ [] ++ []
    simp
  · rw [if_neg hh]
    refine ⟨?_, fun l hl => ?_, ch_snoc I.ch fun x hx => ?_, by rw [List.length_append, List.length_singleton]; omega⟩
    · rw [← I.txt, List.map_append, List.flatten_append]
      show _ ++ [lt here].flatten = _ ++ ld here ++ []
      rw [lt_other hh I.hl]
      unfold ld
      rw [if_neg hh]
      simp
    · rcases List.mem_append.mp hl with h | h
      · exact I.fw l h
      · rw [List.mem_singleton.mp h]
        exact ⟨hh, I.hw⟩
    · rcases I.nx x hx with h | h
      · exact .inl h
      · refine .inr (.inr ?_)
        unfold nw at h
        rw [if_neg hh] at h
        exact h
end
theorem ld_is (here : Txt) : (if (decide (here ≠ (tx ""))) = true then (here ++ (tx " ")) else (tx "")) = ld here := by
  unfold ld
  by_cases h : here = []
  · rw [if_pos h, if_neg (by rw [decide_eq_true_iff, tx0]; exact fun g => g h), tx0]
  · rw [if_neg h, if_pos (decide_eq_true (by rw [tx0]; exact h)), sp1]
theorem ld_len (here : Txt) : (ld here).length ≤ here.length + 1 := by
  unfold ld
  by_cases h : here = []
  · rw [if_pos h]; simp
  · rw [if_neg h]; simp
theorem lines_ok {ps : List Pt} {fi la : Int} (S : Su ps fi la) {tk : List (Txt × PySem.W.Tup Txt)} (ht : tk = [] ∨ tk = TK) {ws : List Txt} {W : Nat} (h6 : 6 ≤ W) (hW : W ≤ 1000) (hw : ∀ w ∈ ws, Wd w ∧ w.length ≤ 6) (hn : lenSum ws ≤ 400) {Q : PySem.W.Tup Txt → Prop} {E : Ex → Prop} (q : ∀ ls, LO W ((ws.map fun w => w ++ [32]).flatten) ls → Q ⟨ls⟩) : Hyphens_lines_W (HV ps tk fi la, ws, (W : Int), ()) Q E := by
  refine ⟨fun z => LI W ((ws.map fun w => w ++ [32]).flatten) 1000 z.1 z.2.1 z.2.2, fun z => 2 * lenSum z.2.2 + (if z.2.1 = [] then 0 else 1), ⟨by show [] ++ [] ++ _ = _; simp, by simp, Nat.zero_le _, by simp [tx0], hw, by show 0 + (2 * lenSum ws + 0) ≤ 1000; omega, fun a x y b e => (by cases a <;> cases e), fun x hx => (by cases hx)⟩, fun z hz => ⟨fun hl => ?_, fun hl => ?_⟩⟩
  · obtain ⟨found, here, left⟩ := z
    have I : LI W ((ws.map fun w => w ++ [32]).flatten) 1000 found here left := hz
    clear hz
    have hl : left ≠ [] := of_decide_eq_true hl
    match left, hl with
    | w :: rest, _ =>
      obtain ⟨hwd, hw6⟩ := I.lf w (by simp)
      have ih := I.hw
      have il := I.ln
      have w1 := hwd.lo
      have fl : found.length ≤ 1000 := by omega
      have rl : rest.length ≤ 1000 := by
        have : (w :: rest).length ≤ (w :: rest).flatten.length := ne_len _ fun p hp e => by
          have := (I.lf p hp).1.lo
          rw [e] at this; simp at this
        rw [← lenSum_flat, List.length_cons] at this
        omega
      have l1 := ld_len here
      refine ⟨⟨by show inR (rest.length + 1) 0; unfold inR; omega, by decide, by decide⟩, ?_⟩
      show Hyphens_lines_w10 (HV ps tk fi la) (W : Int) _ found here w rest E
      refine ⟨fun _ => ⟨sl (by rw [sp1]; show here.length + 1 ≤ _; omega), rfl⟩, fun _ => rfl, ?_⟩
      rw [ld_is]
      refine ⟨sl (by show (ld here).length ≤ _; omega), sl (by show w.length ≤ _; omega), fun hf => ?_, fun hf => ?_⟩
      · have hf := of_decide_eq_true hf
        have hf : ((ld here).length : Int) + (w.length : Int) ≤ (W : Int) := hf
        exact ⟨sl (by show (ld here).length + w.length ≤ _; omega), I.fit (by omega)⟩
      · have hf := of_decide_eq_false hf
        have hf : ¬ ((ld here).length : Int) + (w.length : Int) ≤ (W : Int) := hf
        have hh : here ≠ [] := fun e => by
          subst e
          have : (ld []).length = 0 := rfl
          omega
        have P := PW_prt S ht hwd
        refine ⟨sl (by show (ld here).length ≤ _; omega), Cl.here (splits_ok (by omega) P (parts_ok S tk hwd rfl) (fun _ => ⟨rfl, no_ ?_ ?_⟩) fun b hb => ?_)⟩
        · show decide (here = tx "") = false
          exact decide_eq_false (by rw [tx0]; exact hh)
        · refine ⟨sl2 (by show found.length < _; omega), ⟨sl2 (by show rest.length < _; omega), by decide, by decide⟩, ?_⟩
          exact I.push hh (by omega)
        · obtain ⟨v, e1, e2, e3, e4⟩ := AH_cut P (List.mem_of_getLast? hb)
          have eb := congrArg List.length e1
          rw [List.length_append] at eb
          have ec : cutD w (some (b.length : Int)) none = v := by rw [cut_from, e1]; exact List.drop_left
          refine ⟨sl (by rw [dash1]; show (ld here).length + (b ++ [45]).length ≤ _; rw [List.length_append, List.length_singleton]; omega), sl2 (by show found.length < _; omega), ⟨sl2 (by show rest.length < _; omega), by decide, by decide⟩, ?_⟩
          have J := I.cut (b := b) (v := v) e1 e2 e3 (by omega)
          show LI W _ 1000 (found ++ [ld here ++ (b ++ tx "-")]) [] (cutD w (some (b.length : Int)) none :: rest) ∧ 2 * lenSum (cutD w (some (b.length : Int)) none :: rest) + 0 < 2 * lenSum (w :: rest) + (if here = [] then 0 else 1)
          rw [ec, dash1]
          exact J
  · obtain ⟨found, here, left⟩ := z
    have I : LI W ((ws.map fun w => w ++ [32]).flatten) 1000 found here left := hz
    have hl : left = [] := Decidable.of_not_not (of_decide_eq_false hl)
    subst hl
    have il := I.ln
    have e : (if (decide (here ≠ (tx ""))) = true then [here] else ([] : List Txt)) = (if here = [] then [] else [here]) := by
      by_cases h : here = []
      · rw [if_pos h, if_neg (by rw [decide_eq_true_iff, tx0]; exact fun g => g h)]
      · rw [if_neg h, if_pos (decide_eq_true (by rw [tx0]; exact h))]
    show Hyphens_lines_w12 found here Q
    refine ⟨fun _ => rfl, fun _ => rfl, ?_⟩
    rw [e]
    refine ⟨sl ?_, q _ (I.done (Nat.le_refl _))⟩
    by_cases h : here = []
    · rw [if_pos h]; show found.length + 0 ≤ _; omega
    · rw [if_neg h]; show found.length + 1 ≤ _; omega
end K12
set_option maxHeartbeats 400000
namespace K12
open PySem L2 Sp
open PySem.W (DatumOrd)
theorem pre_sz {w : Txt} {pt : List Txt} (P : Prt w pt) (hw : w.length ≤ 1000) {x : Int} (hx : x ∈ ((List.range ((pt.length : Int) - (1 : Int)).toNat).map fun i : Nat => (1 : Int) + (i : Int))) : lenSum (cutD pt none (some x)) + List.length (cutD pt none (some x)) * List.length (tx "") ≤ 16777216 ∧ List.length (joinT (tx "") (cutD pt none (some x))) ≤ sizeLine := by
  obtain ⟨x1, x2⟩ := R1_mem.mp hx
  obtain ⟨n, rfl⟩ : ∃ n : Nat, x = (n : Int) := ⟨x.toNat, by omega⟩
  have h := congrArg (fun t : List Txt => lenSum t) (List.take_append_drop n pt)
  have h : lenSum (pt.take n ++ pt.drop n) = lenSum pt := h
  rw [lenSum_app, prt_sum P] at h
  rw [cut_to]
  refine ⟨join_ok (by omega), sl ?_⟩
  rw [tx0, joinT_nil, ← lenSum_flat]
  omega
theorem cases_ok {Q : Bool → Prop} {E : Ex → Prop} (q : Q true) : law_cases1_W () Q E := by
  refine Cl.exc init_bad1 ⟨tx "rule", rfl, told_o rfl ?_⟩
  refine Cl.exc init_bad2 ⟨tx "rule", rfl, told_o rfl ?_⟩
  exact Cl.here (init_bare (Cl.exc lines_bad ⟨tx "no way", rfl, ne_no rfl q⟩))
theorem rest8 {ps : List Pt} {fi la : Int} (S : Su ps fi la) {Q : Bool → Prop} {E : Ex → Prop} (q : Q true) : law_rest1_w8 (ps.map PV) (HV ps TK fi la) Q E := by
  have hn := S.hn
  refine Cl.here (a9b_ok fun p => Cl.here (with_ok (by omega) S.f1 S.l1 p (ne_no ?_ (Cl.here (fresh_ok (ne_no rfl ?_))))))
  · show ((ps.map PV ++ [p]).length : Int) = ((ps.map PV).length : Int) + 1
    rw [List.length_append]; rfl
  · exact forU (fun x hx k hk => Cl.exc (bad_ok (bad_all x hx).2 (bad_all x hx).1) ⟨tx "rule", rfl, told_o rfl hk⟩) (Cl.here (cases_ok (nt_ rfl q)))
theorem rest10 {ps : List Pt} {fi la : Int} (S : Su ps fi la) {w : Txt} (hw : w.length ≤ 1000) {Q : Bool → Prop} {E : Ex → Prop} (q : Q true) : law_rest1_w10 (ps.map PV) (HV ps TK fi la) w (VB w) Q E := by
  have hv := VB_len w
  have hb := BT_len (VB w)
  refine ⟨⟨by decide, by decide, by omega, by omega⟩, sl (by rw [List.length_map, List.length_range]; omega), fun x hx => ?_, fun x hx _ => ?_, ?_⟩
  · have := R1_mem.mp hx
    exact ⟨by unfold inR; omega, by unfold inR; omega, rfl⟩
  · have := R1_mem.mp hx
    exact ⟨by unfold inR; omega, rfl⟩
  · show 1 + (BT (VB w)).length ≤ sizeLine ∧ (w.length ≤ sizeLine ∧ (((0 : Int) :: BT (VB w)).length + 1 ≤ sizeLine ∧ law_rest1_w9 (ps.map PV) (HV ps TK fi la) w ((0 : Int) :: (BT (VB w) ++ [(w.length : Int)])) Q E))
    have ln : ((0 : Int) :: (BT (VB w) ++ [(w.length : Int)])).length = (BT (VB w)).length + 2 := by simp
    refine ⟨sl (by omega), sl (by omega), sl (by rw [List.length_cons]; omega), Cl.here (beats_ok hw ?_)⟩
    refine ⟨⟨by decide, by decide, by omega, by omega⟩, sl (by rw [List.length_map, List.length_range]; omega), fun x hx => ?_, ne_no (by rw [law_adj]) (rest8 S q)⟩
    have := R1_mem.mp hx
    exact ⟨by unfold inR; omega, by unfold inR; omega, sl (by omega), rfl⟩
theorem rest11 {ps : List Pt} {fi la : Int} (S : Su ps fi la) {w : Txt} (hw : w.length ≤ 1000) {Q : Bool → Prop} {E : Ex → Prop} (q : Q true) : law_rest1_w11 (ps.map PV) (HV ps TK fi la) w Q E := by
  have e : (((List.range ((w.length : Int)).toNat).map fun i : Nat => (i : Int)).filter (fun (x44 : Int) => (tin (ixS w x44) (tx "aeiou")))).map (fun (x44 : Int) => x44) = VB w := by
    rw [tn]; exact List.map_id' _
  refine ⟨sl (by omega), ⟨by omega, by omega⟩, sl (by rw [List.length_map, List.length_range]; omega), fun x hx => ?_, fun _ _ _ => rfl, ?_⟩
  · rw [tn] at hx
    have := rng_mem.mp hx
    exact ⟨sl (by omega), by unfold inR; omega, rfl⟩
  · rw [e]; exact rest10 S hw q
theorem rest1_ok {ps : List Pt} {fi la : Int} (S : Su ps fi la) {w : Txt} (hw : Wd w) {rows : List Txt} (hn : rows.length ≤ 1000) (hr : ∀ t ∈ rows, ∃ v, Row t v) {Q : Bool → Prop} {E : Ex → Prop} (q : Q true) : law_rest1_W (ps, fi, la, ps.map PV, HV ps TK fi la, w, PW TK ps fi la w, rows, ()) Q E := by
  have w2 := hw.hi
  have P := PW_prt S (.inr rfl) hw
  have pl := P.len
  have ht : TK = [] ∨ TK = TK := .inr rfl
  show forW rows ((0 : Int), (0 : Int), (0 : Int)) _ _
  refine forW.fold (MS (JF ps TK fi la)) (fun l x r e k hk => ?_) ?_
  · obtain ⟨v, R⟩ := hr x (by rw [e]; simp)
    have P := PW_prt S ht R.wd
    have v2 := R.wd.hi
    have hl := P.len
    have hlen := R.len
    have hJ : JF ps TK fi la x = JN (PW TK ps fi la v) := by show JN (PW TK ps fi la (replT x (tx "-") (tx ""))) = _; rw [R.st]
    have jl := JN_len (PW TK ps fi la v)
    have rll := rl_len x
    refine ⟨rp_ok (by omega), ?_⟩
    rw [R.st]
    refine Cl.here (parts_ok S TK R.wd (Cl.here (joints_ok (by rw [P.flat]; omega) (by omega) ⟨fun _ => rfl, fun _ => rfl, ?_⟩)))
    show law_rest1_w1 k _ _ _ (JN (PW TK ps fi la v), rl x)
    have hk : k (MS (JF ps TK fi la) (l.foldl (MS (JF ps TK fi la)) (0, 0, 0)) x) := hk
    unfold MS at hk
    rw [hJ] at hk
    have s1 : (JN (PW TK ps fi la v)).length ≤ sizeLine := sl (by omega)
    refine ⟨s1, fun _ _ => rfl, fun _ _ _ => rfl, s1, fun _ _ => rfl, fun _ _ _ => rfl, sl (by show (rl x).length ≤ _; omega), fun _ _ => rfl, fun _ _ _ => rfl, ?_⟩
    rw [List.length_map, List.length_map, List.length_map]
    exact hk
  · refine Cl.here (marks_ok S ht hr (ne_no rfl ?_))
    show law_rest1_w14 ps fi la (ps.map PV) (HV ps TK fi la) w (PW TK ps fi la w) rows Q E
    refine ⟨sl (by omega), dif ps fi la, fun t => replT t (tx "-") (tx ""), fun t ht2 => ?_, fun t ht2 _ => ?_, ?_⟩
    · obtain ⟨v, R⟩ := hr t ht2
      have hlen := R.len
      have v2 := R.wd.hi
      have P := PT_prt S R.wd
      have pl := P.len
      refine ⟨rp_ok (by omega), ?_⟩
      have e : dif ps fi la t = decide ((joinT (tx "-") (PT ps fi la v)) ≠ t) := by unfold dif; rw [R.st]
      rw [R.st, e]
      refine Cl.here (law_parts_ok S R.wd ⟨?_, rfl⟩)
      rw [dash1, prt_sum P]
      show v.length + (PT ps fi la v).length * 1 ≤ _
      omega
    · obtain ⟨v, R⟩ := hr t ht2
      have hlen := R.len
      exact ⟨rp_ok (by omega), rfl⟩
    · refine Cl.here (look_ok S hn hr (ne_no rfl ?_))
      show law_rest1_w12 (ps.map PV) (HV ps TK fi la) w (PW TK ps fi la w) Q E
      refine Cl.here (joints_ok (by rw [P.flat]; omega) (by omega) ?_)
      exact ⟨⟨by decide, by decide, by omega, by omega⟩, sl (by rw [List.length_map, List.length_range]; omega), fun x hx => ⟨(pre_sz P (by omega) hx).1, (pre_sz P (by omega) hx).2, rfl⟩, ne_no (by rw [JN_law]) (rest11 S (by omega) q)⟩
theorem split_facts (x : Txt) (c : Nat) : joinT [c] (splitT x [c]) = x ∧ splitT x [c] ≠ [] ∧ ∀ p ∈ splitT x [c], c ∉ p := by
  have hj := congrArg tx (StrLaws.join_split (toStr x) (toStr [c]))
  rw [join_str] at hj
  have e1 : tx (toStr [c]) = [c] := toStr_cps _
  have e2 : tx (toStr x) = x := toStr_cps _
  rw [e1, e2] at hj
  refine ⟨hj, ?_, fun p hp => ?_⟩
  · have := PyProof.Rows.len_of_split (l := (Txt.split (toStr x) (toStr [c])).map fun s => (s, (0 : Nat))) (x := toStr x) (y := toStr [c]) (by rw [List.map_map]; exact List.map_id _)
    rw [List.length_map] at this
    intro e
    have e := congrArg List.length e
    unfold splitT at e
    rw [List.length_map, List.length_nil] at e
    omega
  · unfold splitT at hp
    obtain ⟨y, hy, rfl⟩ := List.mem_map.mp hp
    exact StrLaws.split_free (toStr x) c y hy
theorem head_is (x : Txt) : ∃ r, splitT x [32] = fwd x :: r := by
  obtain ⟨h1, h2, h3⟩ := split_facts x 32
  match h : splitT x [32], h2 with
  | p :: r, _ =>
    rw [h] at h1 h3
    refine ⟨r, ?_⟩
    have hp : fwd p = p := fwd_id fun c hc e => h3 p (by simp) (by rw [← e]; exact hc)
    have : fwd x = p := by
      rw [← h1]
      cases r with
      | nil => exact hp
      | cons q r => rw [join_two, fwd_app, hp]
    rw [this]
theorem fwd_len (x : Txt) : (fwd x).length ≤ x.length := (List.takeWhile_sublist _).length_le
theorem fwd_mem {x : Txt} {c : Nat} (h : c ∈ fwd x) : c ∈ x := (List.takeWhile_sublist _).subset h
section
variable {ps : List Pt} {fi la : Int} {pv : List PatternV} {u : HyphensV × Txt} {pt : List Txt}
theorem w2_ok {W : Nat} {T : Txt} {ls ws : List Txt} (L : LO W T ls) (hW : W ≤ 1000) {x : Int} (h1 : 1 ≤ x) (h2 : x < (ls.length : Int)) {k : Unit → Prop} {Q : Bool → Prop} (hk : k ()) : law_w2 (ws, (W : Int)) ⟨ls⟩ x k Q := by
  obtain ⟨n, rfl⟩ : ∃ n : Nat, x = ((n + 1 : Nat) : Int) := ⟨(x - 1).toNat, by omega⟩
  have n1 : n + 1 < ls.length := by omega
  have n0 : n < ls.length := by omega
  have sp := L.ch (ls.take n) ls[n] ls[n + 1] (ls.drop (n + 2)) (by
    conv => lhs; rw [← List.take_append_drop n ls]
    rw [List.drop_eq_getElem_cons n0, List.drop_eq_getElem_cons n1])
  obtain ⟨b1, b2⟩ := L.fw ls[n] (List.getElem_mem n0)
  obtain ⟨c1, c2⟩ := L.fw ls[n + 1] (List.getElem_mem n1)
  have eb : ixD ls (((n + 1 : Nat) : Int) - (1 : Int)) = ls[n] := by
    rw [show ((n + 1 : Nat) : Int) - (1 : Int) = (n : Int) by omega, ixD_nat n0]
  have ec : ixD ls ((n + 1 : Nat) : Int) = ls[n + 1] := ixD_nat n1
  have key : ∀ b c : Txt, b ≠ [] → b.length ≤ W → c.length ≤ W → Lk W b c → (((tx " ") ≠ [] ∧ List.length c + 2 ≤ sizeLine) ∧ (inR (List.length (splitT c (tx " "))) (0 : Int) ∧ (RpOk (ixD (splitT c (tx " ")) (0 : Int)) (tx "") ∧ (b.length ≤ sizeLine ∧ (b.length ≤ sizeLine ∧ inR b.length ((b.length : Int) - (1 : Int)) ∧ ((replT (ixD (splitT c (tx " ")) (0 : Int)) (tx "-") (tx "")).length ≤ sizeLine ∧ (((decide ((ixS b ((b.length : Int) - (1 : Int))) ≠ (tx "-"))) && ((decide ((((b.length : Int) + (1 : Int)) + ((replT (ixD (splitT c (tx " ")) (0 : Int)) (tx "-") (tx "")).length : Int)) ≤ (W : Int))) && (!tin (tx "-") c))) = false))))))) := fun b c hb lb lc hL => by
    obtain ⟨r, hr⟩ := head_is c
    have fl := fwd_len c
    have e0 : ixD (splitT c (tx " ")) (0 : Int) = fwd c := by rw [sp1, hr]; rfl
    have hb1 := List.length_pos_iff.mpr hb
    rw [e0, strike]
    have fl2 := List.length_filter_le (· != 45) (fwd c)
    refine ⟨⟨by rw [sp1]; decide, sl (by omega)⟩, by rw [sp1, hr, List.length_cons]; unfold inR; omega, rp_ok (by omega), sl (by omega), sl (by omega), by unfold inR; omega, sl (by omega), ?_⟩
    rcases hL with h | h | h
    · obtain ⟨q, d, rfl⟩ := snoc_of hb
      rw [List.getLast?_concat] at h
      injection h with h
      subst h
      rw [last_at, dash1]
      simp
    · have : tin (tx "-") c = true := by rw [dash1, tin_one]; exact decide_eq_true h
      rw [this]; simp
    · by_cases h45 : (45 : Nat) ∈ c
      · have : tin (tx "-") c = true := by rw [dash1, tin_one]; exact decide_eq_true h45
        rw [this]; simp
      · have ef : (fwd c).filter (· != 45) = fwd c := List.filter_eq_self.mpr fun d hd => by
          have : d ≠ 45 := fun e => h45 (by rw [← e]; exact fwd_mem hd)
          simp [this]
        rw [ef]
        have : decide ((((b.length : Int) + (1 : Int)) + ((fwd c).length : Int)) ≤ (W : Int)) = false := decide_eq_false (by omega)
        rw [this]; simp
  refine ⟨by show inR ls.length _; unfold inR; omega, by show inR ls.length _; unfold inR; omega, ?_⟩
  show ((tx " ") ≠ [] ∧ List.length (ixD ls ((n + 1 : Nat) : Int)) + 2 ≤ sizeLine) ∧ (inR (List.length (splitT (ixD ls ((n + 1 : Nat) : Int)) (tx " "))) (0 : Int) ∧ (RpOk (ixD (splitT (ixD ls ((n + 1 : Nat) : Int)) (tx " ")) (0 : Int)) (tx "") ∧ (law_w1 (ws, (W : Int)) ⟨ls⟩ ((n + 1 : Nat) : Int) k (ixD ls (((n + 1 : Nat) : Int) - (1 : Int))) (replT (ixD (splitT (ixD ls ((n + 1 : Nat) : Int)) (tx " ")) (0 : Int)) (tx "-") (tx "")) Q)))
  obtain ⟨g1, g2, g3, g4, g5, g6, g7, g8⟩ := key ls[n] ls[n + 1] b1 b2 c2 sp
  rw [ec, eb]
  refine ⟨g1, g2, g3, g4, g5, g6, fun _ => ⟨g4, g7, fun _ => ⟨by show inR ls.length _; unfold inR; omega, rfl⟩, rfl⟩, no_ ?_ hk⟩
  show ((decide ((ixS ls[n] ((ls[n].length : Int) - (1 : Int))) ≠ (tx "-"))) && ((decide ((((ls[n].length : Int) + (1 : Int)) + ((replT (ixD (splitT ls[n + 1] (tx " ")) (0 : Int)) (tx "-") (tx "")).length : Int)) ≤ (W : Int))) && (!tin (tx "-") (ixD ls ((n + 1 : Nat) : Int))))) = false
  rw [ec]
  exact g8
end
end K12
set_option maxHeartbeats 400000
namespace K12
open PySem L2 Sp
open PySem.W (DatumOrd)
theorem abc_wd {w : Txt} (h : ∀ c ∈ w, c ∈ ABC) (h1 : 1 ≤ w.length) (h2 : w.length ≤ 24) : Wd w := ⟨h1, h2, fun c hc => abc_az c (h c hc)⟩
section
variable {ps : List Pt} {fi la : Int} {w : Txt}
theorem w4_end (S : Su ps fi la) (hw : Wd w) {ws : List Txt} {W : Int} (hws : ∀ x ∈ ws, Wd x ∧ x.length ≤ 6) (hn : ws.length ≤ 1000) {Q : Bool → Prop} {E : Ex → Prop} (q : Q true) : law_w4 ps fi la (ps.map PV) (HV ps TK fi la, w) (PW TK ps fi la w) (ws, W) Q E := by
  refine ⟨sl (by show ws.length ≤ _; omega), fun x hx => ?_, ?_⟩
  · have h6 := (hws x hx).2
    have sx : x.length ≤ sizeLine := sl (by omega)
    refine ⟨sx, fun _ => ⟨sx, sx, ?_, rfl⟩, fun _ => rfl, rfl⟩
    have a := (cut_sub x none (some (2 : Int))).length_le
    have b := (cut_sub x (some (2 : Int)) none).length_le
    rw [lenSum_cons, lenSum_cons, lenSum_nil, dash1]
    show _ + (_ + 0) + 2 * 1 ≤ _
    omega
  · show law_w3 ps fi la (ps.map PV) (HV ps TK fi la, w) (PW TK ps fi la w) (ws.map rowOf) Q E
    refine Cl.here (rest1_ok S hw (by rw [List.length_map]; exact hn) (fun t ht => ?_) (nt_ rfl q))
    obtain ⟨x, hx, rfl⟩ := List.mem_map.mp ht
    exact ⟨x, row_ok (hws x hx).1⟩
theorem T_len (ws : List Txt) : ((ws.map fun x => x ++ [32]).flatten).length = lenSum ws + ws.length := by
  induction ws with
  | nil => rfl
  | cons x ws ih =>
    rw [List.map_cons, List.flatten_cons, List.length_append, ih, List.length_append, lenSum_cons, List.length_cons]
    show x.length + 1 + (lenSum ws + ws.length) = x.length + lenSum ws + (ws.length + 1)
    omega
theorem w7_ok (S : Su ps fi la) (hw : Wd w) {ws : List Txt} {W : Nat} (hW : W ≤ 1000) (hws : ∀ x ∈ ws, Wd x ∧ x.length ≤ 6) (hn : ws.length ≤ 1000) (hs : lenSum ws ≤ 1000) {ls : List Txt} (L : LO W ((ws.map fun x => x ++ [32]).flatten) ls) {Q : Bool → Prop} {E : Ex → Prop} (q : Q true) : law_w7 ps fi la (ps.map PV) (HV ps TK fi la, w) (PW TK ps fi la w) (ws, (W : Int)) ⟨ls⟩ Q E := by
  have ln := L.ln
  have sl1 : ls.length ≤ sizeLine := sl (by omega)
  refine ⟨sl1, fun x hx => ⟨sl (by have := (L.fw x hx).2; omega), fun _ => rfl, rfl⟩, fun _ _ _ => rfl, ne_no ?_ ?_⟩
  · show (ls.filter (fun (x55 : Txt) => ((decide ((W : Int) < (x55.length : Int))) || (decide (x55 = (tx "")))))).map (fun (x55 : Txt) => x55) = []
    rw [List.map_id', List.filter_eq_nil_iff]
    intro x hx
    obtain ⟨a, b⟩ := L.fw x hx
    rw [decide_eq_false (show ¬ (W : Int) < (x.length : Int) by omega), decide_eq_false (show ¬ x = tx "" by rw [tx0]; exact a)]
    decide
  · have tl := T_len ws
    have s1 : lenSum (ls.map lt) ≤ 1000000 := by
      rw [lenSum_flat, L.txt, tl]; omega
    have s2 : lenSum (ws.map fun x => x ++ tx " ") ≤ 1000000 := by
      rw [lenSum_flat, sp1, tl]; omega
    have e : joinT (tx "") (ls.map lt) = joinT (tx "") (ws.map fun x => x ++ tx " ") := by
      rw [tx0, joinT_nil, joinT_nil, L.txt, sp1]
    refine ⟨sl1, fun x hx => ?_, join_ok s1, sl (by show ws.length ≤ _; omega), fun x hx => ⟨sl (by have := (hws x hx).2; rw [sp1]; show x.length + 1 ≤ _; omega), rfl⟩, join_ok s2, ne_no e ?_⟩
    · obtain ⟨a, b⟩ := L.fw x hx
      have a1 := List.length_pos_iff.mpr a
      have sx : x.length ≤ sizeLine := sl (by omega)
      exact ⟨sx, sx, by unfold inR; omega, fun _ => ⟨sx, sx, rfl⟩, fun _ => ⟨sl (by rw [sp1]; show x.length + 1 ≤ _; omega), rfl⟩, rfl⟩
    · refine ⟨⟨by decide, by decide, by show -(2 ^ 62) ≤ (ls.length : Int); omega, by show (ls.length : Int) < 2 ^ 62; omega⟩, forU (fun x hx k hk => ?_) (w4_end S hw hws hn q)⟩
      have := R1_mem.mp hx
      exact w2_ok L hW this.1 this.2 hk
theorem sum6 : ∀ {ws : List Txt}, (∀ x ∈ ws, x.length ≤ 6) → lenSum ws ≤ ws.length * 6
  | [], _ => Nat.le_refl _
  | x :: ws, h => by
    have := sum6 (ws := ws) fun y hy => h y (List.mem_cons_of_mem _ hy)
    have := h x List.mem_cons_self
    rw [lenSum_cons, List.length_cons]; omega
theorem w9_ok (S : Su ps fi la) (hw : Wd w) {Q : Bool → Prop} {E : Ex → Prop} (q : Q true) : law_w9 ps fi la (ps.map PV) (HV ps TK fi la, w) (PW TK ps fi la w) Q E := by
  refine ClD.roll (by decide) (by decide) fun r r0 r1 => ⟨⟨by omega, by omega⟩, ?_, fun _ x => Wd x ∧ x.length ≤ 6, fun x _ => word_abc (by decide) (by decide) (by decide) fun y hy h1 h2 => ⟨abc_wd hy (by omega) (by omega), by omega⟩, fun ws hws => ClD.roll (by decide) (by decide) fun s s0 s1 => ?_⟩
  · rw [List.length_map, List.length_range]; exact sl (by omega)
  · have hl := hws.length
    rw [List.length_map, List.length_range] at hl
    have ha := hws.all (R := fun x : Txt => Wd x ∧ x.length ≤ 6) fun x _ y h => h
    have h6 := sum6 fun x hx => (ha x hx).2
    obtain ⟨W, eW⟩ : ∃ W : Nat, (6 : Int) + s = (W : Int) := ⟨(6 + s).toNat, by omega⟩
    rw [eW]
    exact Cl.here (lines_ok S (.inr rfl) (by omega) (by omega) ha (by omega) fun ls L => w7_ok S hw (by omega) ha (by omega) (by omega) L q)
theorem w13_ok (S : Su ps fi la) (hw : Wd w) {Q : Bool → Prop} {E : Ex → Prop} (q : Q true) : law_w13 ps fi la (ps.map PV) (HV ps TK fi la, w) (PW TK ps fi la w) Q E := by
  have h2 := hw.hi
  have P := PW_prt S (.inr rfl) hw
  have pl := P.len
  refine ClD.roll (by decide) (by decide) fun room r0 r1 => ?_
  refine ⟨⟨by decide, by decide, by omega, by omega⟩, sl (by rw [List.length_map, List.length_range]; omega), fun x hx => ⟨(pre_sz P (by omega) hx).1, (pre_sz P (by omega) hx).2, rfl⟩, fun x hx _ => ⟨(pre_sz P (by omega) hx).1, rfl⟩, ?_⟩
  show law_w11 ps fi la (ps.map PV) (HV ps TK fi la, w) (PW TK ps fi la w) room (AH (PW TK ps fi la w) (((PW TK ps fi la w).length : Int) - (1 : Int)).toNat room) Q E
  rw [show (((PW TK ps fi la w).length : Int) - (1 : Int)).toNat = (PW TK ps fi la w).length - 1 by omega]
  have hal : (AH (PW TK ps fi la w) ((PW TK ps fi la w).length - 1) room).length ≤ 1000 := by
    unfold AH
    rw [List.length_map]
    refine Nat.le_trans (List.length_filter_le _ _) ?_
    rw [List.length_map, List.length_range]; omega
  have hpt : Hyphens_parts_W (HV ps TK fi la, w, ()) (fun r => r = ⟨PW TK ps fi la w⟩) NoE := parts_ok S TK hw rfl
  cases e : (AH (PW TK ps fi la w) ((PW TK ps fi la w).length - 1) room).getLast? with
  | none =>
    have e0 := List.getLast?_eq_none_iff.mp e
    rw [e0]
    refine ⟨fun h => absurd h (by decide), fun _ => rfl, ?_⟩
    rw [if_neg (by decide)]
    refine Cl.here (splits_ok (by omega) P hpt (fun _ => ⟨tx "no way", rfl, ne_no rfl (w9_ok S hw q)⟩) fun b hb => ?_)
    rw [e] at hb; cases hb
  | some b =>
    have hne : AH (PW TK ps fi la w) ((PW TK ps fi la w).length - 1) room ≠ [] := fun h => by rw [h] at e; cases e
    rcases List.eq_nil_or_concat (AH (PW TK ps fi la w) ((PW TK ps fi la w).length - 1) room) with h | ⟨A, b2, h⟩
    · exact absurd h hne
    rw [List.concat_eq_append] at h
    have eb : b2 = b := by
      rw [h, List.getLast?_concat] at e
      injection e
    subst eb
    obtain ⟨v, e1, e2, e3, e4⟩ := AH_cut P (List.mem_of_getLast? e)
    have lb := congrArg List.length e1
    rw [List.length_append] at lb
    have ex : ixD (A ++ [b2]) (((A ++ [b2]).length : Int) - (1 : Int)) = b2 := by
      rw [show (((A ++ [b2]).length : Int) - (1 : Int)) = (A.length : Int) by simp, ixD_nat (by simp)]
      simp
    have iA : inR (A ++ [b2]).length (((A ++ [b2]).length : Int) - (1 : Int)) := by
      rw [List.length_append, List.length_singleton]; unfold inR; omega
    have key : law_w11 ps fi la (ps.map PV) (HV ps TK fi la, w) (PW TK ps fi la w) room (A ++ [b2]) Q E := by
      unfold law_w11
      rw [ex, if_pos (decide_eq_true (by simp))]
      refine ⟨fun _ => ⟨iA, sl (by rw [dash1]; show b2.length + 1 ≤ _; omega), iA, sl (by omega), sl (by show w.length ≤ _; omega), rfl⟩, fun _ => rfl, ?_⟩
      refine Cl.here (splits_ok (by omega) P hpt (fun h => by rw [e] at h; cases h) fun b hb => ?_)
      rw [e] at hb
      injection hb with hb
      subst hb
      exact ne_no rfl (w9_ok S hw q)
    rw [h]
    exact key
theorem w15_ok (S : Su ps fi la) (hw : Wd w) {Q : Bool → Prop} {E : Ex → Prop} (q : Q true) : law_w15 ps fi la (ps.map PV) (HV ps TK fi la, w) (PW TK ps fi la w) Q E := by
  have h2 := hw.hi
  have P := PW_prt S (.inr rfl) hw
  have pl := P.len
  refine Cl.here (parts_ok S TK hw (ne_no rfl (Cl.here (said_ok2 S (.inr rfl) hw ⟨?_, ne_no rfl ?_⟩))))
  · rw [dash1, prt_sum P]
    show w.length + (PW TK ps fi la w).length * 1 ≤ _
    omega
  · exact Cl.here (fresh_ok (ne_no rfl (w13_ok S hw q)))
theorem w17_ok (S : Su ps fi la) (hw : Wd w) {Q : Bool → Prop} {E : Ex → Prop} (q : Q true) : law_w17 ps fi la (ps.map PV) (HV ps TK fi la, w) Q E := by
  have h2 := hw.hi
  have e15 := w15_ok S hw (E := E) q
  refine Cl.here (levels_in_ok S.hp rfl hw (Cl.here (law_levels_ok S.hp S.hn (by show w.length ≤ 100; omega) (ne_no rfl ?_))))
  refine ⟨fun h => ?_, fun h => Cl.here (law_parts_ok S hw ?_)⟩
  · have h : w = tx "cabac" := of_decide_eq_true h
    subst h
    rw [PW_cabac] at e15
    exact e15
  · have h : ¬ w = tx "cabac" := of_decide_eq_false h
    have e : PW TK ps fi la w = PT ps fi la w := by
      unfold PW
      rw [if_neg fun hd => h (tk_mem hd)]
    rw [e] at e15
    exact e15
theorem w21_ok (S : Su ps fi la) {Q : Bool → Prop} {E : Ex → Prop} (q : Q true) : law_w21 ps fi la Q E := by
  have hn := S.hn
  have s1 : ps.length ≤ sizeLine := sl (by omega)
  have s2 : (ps.map PV).length ≤ sizeLine := by rw [List.length_map]; exact s1
  refine ⟨s1, PV, fun x hx => Cl.here (pattern_ok (S.hp x hx) rfl), ?_⟩
  refine ⟨s2, fun _ _ => rfl, s1, fun _ _ => rfl, ne_no (by rw [List.map_map]; rfl) ?_⟩
  refine ⟨s2, fun v => ptx v.letters v.levels.items, fun v hv => ?_, s1, fun _ _ => rfl, ne_no ?_ ?_⟩
  · obtain ⟨p, hp, rfl⟩ := List.mem_map.mp hv
    exact Cl.here (said_ok (S.hp p hp) (S.hp p hp).a)
  · rw [List.map_map]
    exact List.map_congr_left fun p hp => (S.hp p hp).a.symm
  · exact Cl.here (init_ok S.f1 S.l1 (word_abc (by decide) (by decide) (by decide) fun y hy h1 h2 => w17_ok S (abc_wd hy (by omega) (by omega)) q))
end
theorem plain (ns : List Int) : law_W (ns, ()) (fun b => b = true) NoE := by
  show law_w22 (fun b => b = true) NoE
  refine ClD.roll (by decide) (by decide) fun r r0 r1 => ⟨⟨by omega, by omega⟩, ?_, fun _ p => PO p, fun x _ => law_pattern_ok fun p hp => hp, fun ps hps => ClD.roll (by decide) (by decide) fun a a0 a1 => ClD.roll (by decide) (by decide) fun b b0 b1 => ?_⟩
  · rw [List.length_map, List.length_range]; exact sl (by omega)
  · have hl := hps.length
    rw [List.length_map, List.length_range] at hl
    exact w21_ok ⟨hps.all fun x _ y h => h, by omega, by omega, by omega, by omega, by omega⟩ rfl
end K12
theorem PySem.Challenge.cw_spellhall_k12_hyphens_holds : PySem.Challenge.rw_spellhall_k12_hyphens.Holds :=
  K12.holds_of fun ns _ _ => by first | exact K12.plain ns | exact K12.plain
